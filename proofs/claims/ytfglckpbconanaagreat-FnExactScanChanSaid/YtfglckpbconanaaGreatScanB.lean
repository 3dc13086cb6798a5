/- What is proved here: the pure function of FnExactScanChan yields true for each argument that can be read; no condition. -/
import Derived.Test.YtfglckpbconanaaGreatScanAb
set_option linter.unusedVariables false
set_option linter.unusedSimpArgs false
namespace Go.Ev
abbrev Li : Type := List Int
abbrev Ch : Type := Int × Li × Li × Li × Int × Int
theorem lim_fill {A B α : Type} {step : A → Option (A ⊕ B)} (v : Nat → α) (mk : Nat → List α → A) (out : List α → B) (l : List α)
    (h1 : ∀ i acc, acc.length = l.length → i < l.length → step (mk i acc) = some (.inl (mk (i + 1) (acc.set i (v i))))) (h2 : ∀ acc, acc.length = l.length → step (mk l.length acc) = some (.inr (out acc))) :
    lim step (mk 0 l) = some (out ((List.range l.length).map v)) := by
  have key : ∀ (k i : Nat) (acc : List α), i + k = l.length → acc.length = l.length → acc.take i = (List.range i).map v → lim step (mk i acc) = some (out ((List.range l.length).map v)) := by
    intro k
    induction k with
    | zero =>
      intro i acc hi hn ht
      have : i = l.length := by omega
      subst this
      rw [List.take_of_length_le (by omega)] at ht
      rw [lim_eq, h2 _ hn, ht]
    | succ k ih =>
      intro i acc hi hn ht
      rw [lim_eq, h1 i acc hn (by omega)]
      refine ih (i + 1) _ (by omega) (by simp [hn]) ?_
      rw [List.take_add_one, List.getElem?_set_self (by omega), List.take_set_of_le (Nat.le_refl i), ht, List.range_succ, List.map_append]
      rfl
  exact key l.length 0 l (by omega) rfl (by simp)
theorem lim_app {A B α β : Type} {step : A → Option (A ⊕ B)} (l : List α) (f : α → β) (mk : Nat → List β → A) (out : B)
    (h1 : ∀ i acc d, acc.length ≤ l.length → acc.length = i → l[i]? = some d → step (mk i acc) = some (.inl (mk (i + 1) (acc ++ [f d])))) (h2 : step (mk l.length (l.map f)) = some (.inr out)) :
    lim step (mk 0 []) = some out := by
  have key : ∀ (r : List α) (i : Nat), l.drop i = r → i ≤ l.length → lim step (mk i ((l.take i).map f)) = some out := by
    intro r
    induction r with
    | nil =>
      intro i hd hle
      have : i = l.length := by have := congrArg List.length hd; simp at this; omega
      subst this
      rw [List.take_of_length_le (Nat.le_refl _), lim_eq, h2]
    | cons d r ih =>
      intro i hd hle
      have hlt : i < l.length := by have := congrArg List.length hd; simp at this; omega
      have hg : l[i]? = some d := by
        have := congrArg (·[0]?) hd
        simpa using this
      rw [lim_eq, h1 i _ d (by simp; omega) (by simp; omega) hg]
      have := ih (i + 1) (by rw [← List.drop_drop, hd]; rfl) hlt
      rw [List.take_add_one, hg, List.map_append] at this
      exact this
  have := key l 0 rfl (Nat.zero_le _)
  simpa using this
theorem range_get {n i d : Nat} (h : (List.range n)[i]? = some d) : d = i ∧ i < n := by
  obtain ⟨h1, h2⟩ := List.getElem?_eq_some_iff.1 h
  simp at h2 h1
  omega
theorem map_const {α β : Type} (v : β) (l : List α) : l.map (fun _ => v) = List.replicate l.length v := by
  induction l with
  | nil => rfl
  | cons a l ih => simp [ih, List.replicate_succ]
theorem lim_rep {A B α : Type} {step : A → Option (A ⊕ B)} (n : Nat) (v : α) (mk : Nat → List α → A) (out : B)
    (h1 : ∀ i acc, i < n → acc.length = i → step (mk i acc) = some (.inl (mk (i + 1) (acc ++ [v])))) (h2 : step (mk n (List.replicate n v)) = some (.inr out)) : lim step (mk 0 []) = some out := by
  refine lim_app (step := step) (List.range n) (fun _ => v) mk out (fun i acc d hn hi hg => h1 i acc (range_get hg).2 hi) ?_
  rw [map_const, List.length_range]; exact h2
theorem ib_in {x : Int} {n : Nat} (h0 : 0 ≤ x) (h1 : x < n) : ib x n = true := by simp [ib, h0, h1]
theorem any_no {α : Type} (l : List α) : l.any (fun _ => false) = false := by induction l with | nil => rfl | cons a l ih => simp [ih]
theorem room8 {l : Li} (h : l.length ≤ 1048576) : room ([] ++ l).length 8 = true := by simp [room]; omega
theorem i_cases {p : Prop} [Decidable p] : decide p = true ∨ decide p = false := by cases decide p <;> simp
theorem wrap_u16 (x : Int) : IntKind.wrap .u16 x = x % 65536 := by simp [IntKind.wrap, IntKind.bits, IntKind.signed]
theorem u16_eq (x : Int) : ((BitVec.ofInt (IntKind.bits .i64) x &&& BitVec.ofInt (IntKind.bits .i64) (65535 : Int)).toNat : Int) = IntKind.wrap .u16 x := by
  rw [wrap_u16, BitVec.toNat_and]
  have h1 : (BitVec.ofInt (IntKind.bits .i64) (65535 : Int)).toNat = 2 ^ 16 - 1 := by decide
  rw [h1, Nat.and_two_pow_sub_one_eq_mod]
  show (((BitVec.ofInt 64 x).toNat % 2 ^ 16 : Nat) : Int) = _
  rw [BitVec.toNat_ofInt]
  omega
def isW (x : Int) : Bool := decide (0 ≤ x) && decide (x ≤ 65535)
def wf (l : Li) : Int := bif decide ((l.length : Int) > 400) then 2 else bif l.any (fun x => !isW x) then 3 else 0
theorem all_any (l : Li) : l.all isW = !l.any (fun x => !isW x) := by induction l with | nil => rfl | cons a l ih => simp [ih]
def chFault (c : Ch) : Int := bif !(c.1 == 1 || c.1 == 2) then 1 else bif wf c.2.1 != 0 then wf c.2.1 else bif wf c.2.2.1 != 0 then wf c.2.2.1 else
  bif c.2.2.2.1.any (fun x => !isW x) || !isW c.2.2.2.2.1 || !isW c.2.2.2.2.2 then 3 else bif decide ((c.2.2.2.1.length : Int) > 80) then 2 else 0
structure ChB (c : Ch) (n : Nat) : Prop where
  a : c.2.1.length ≤ n
  b : c.2.2.1.length ≤ n
  c : c.2.2.2.1.length ≤ n
def iota (n : Int) (k : Nat) : Li := (List.range k).map fun (i : Nat) => n + (i : Int)
theorem iota_get {n : Int} {k i : Nat} {d : Int} (h : (iota n k)[i]? = some d) : d = n + i := by
  simp only [iota, List.getElem?_map] at h
  cases h' : (List.range k)[i]? with
  | none => rw [h'] at h; cases h
  | some j =>
    rw [h'] at h
    have := (List.getElem?_eq_some_iff.1 h').2
    simp at this
    simp only [Option.map_some, Option.some.injEq] at h
    omega
theorem iota_len (n : Int) (k : Nat) : (iota n k).length = k := by simp [iota]
def compl (x : Int) : Int := IntKind.wrap .i64 (65535 - IntKind.wrap .i64 (IntKind.wrap .u16 x))
def tc (c : Ch) : Int × Li := bif chFault c != 0 then (chFault c, []) else (0, bif c.1 == 2 then c.2.2.2.1.map compl else c.2.2.2.1)
theorem tc_len (c : Ch) (n : Nat) (h : ChB c n) : (tc c).2.length ≤ n := by
  have := h.c
  unfold tc
  cases (chFault c != 0)
  · cases (c.1 == 2) <;> simpa using this
  · simp

theorem p_laws_szInt64S (l : Li) (left : Int) (h0 : 0 ≤ left) (h1 : left ≤ 1048576) (hl : l.length ≤ maxLen) :
    F_laws_szInt64S l left = some ((if left - (l.length : Int) < 0 then -1 else left - l.length, ()), (), ()) := by
  simp only [maxLen] at hl
  have hw : IntKind.wrap .i64 (left - (l.length : Int)) = left - l.length := wrap_id (by omega) (by omega)
  unfold F_laws_szInt64S
  rw [hw]
  by_cases hn : left - (l.length : Int) < 0
  · simp [hn]
  · simp [hn]
theorem z_laws_szInt64S (l : Li) (left : Int) (h0 : 0 ≤ left) (h1 : left ≤ 1048576) (hl : l.length ≤ maxLen) :
    ∃ r : Int, F_laws_szInt64S l left = some ((r, ()), (), ()) ∧ (decide (r < 0) = false → 0 ≤ r ∧ r ≤ 1048576 ∧ l.length ≤ 1048576) := by
  refine ⟨_, p_laws_szInt64S l left h0 h1 hl, fun h => ?_⟩
  have h := of_decide_eq_false h
  split at h
  · omega
  · rename_i hh; rw [if_neg hh]; omega

theorem z_laws_szChan (c : Ch) (left : Int) (h0 : 0 ≤ left) (h1 : left ≤ 1048576) (hl : ChB c maxLen) :
    ∃ r : Int, F_laws_szChan c left = some ((r, ()), (), ()) ∧ (decide (r < 0) = false → 0 ≤ r ∧ r ≤ 1048576 ∧ ChB c 1048576) := by
  obtain ⟨r1, e1, g1⟩ := z_laws_szInt64S c.2.1 left h0 h1 hl.a
  simp only [F_laws_szChan, e1, Option.bind_some]
  cases q1 : decide (r1 < 0)
  · obtain ⟨a1, a2, a3⟩ := g1 q1
    obtain ⟨r2, e2, g2⟩ := z_laws_szInt64S c.2.2.1 r1 a1 a2 hl.b
    simp only [cond_false, e2, Option.bind_some]
    cases q2 : decide (r2 < 0)
    · obtain ⟨b1, b2, b3⟩ := g2 q2
      obtain ⟨r3, e3, g3⟩ := z_laws_szInt64S c.2.2.2.1 r2 b1 b2 hl.c
      simp only [cond_false, e3, Option.bind_some]
      cases q3 : decide (r3 < 0)
      · obtain ⟨c1, c2, c3⟩ := g3 q3
        exact ⟨r3, rfl, fun _ => ⟨c1, c2, a3, b3, c3⟩⟩
      · exact ⟨-1, rfl, fun h => by simp at h⟩
    · exact ⟨-1, rfl, fun h => by simp at h⟩
  · exact ⟨-1, rfl, fun h => by simp at h⟩

theorem p_laws_toInt64S (l : Li) (h : l.length ≤ 1048576) : F_laws_toInt64S l = some ((), (), (l, ())) := by
  have hm : l.length ≤ maxLen := by simp only [maxLen]; omega
  have hl : l_laws_toInt64S_l3 ((l, ((0 : Int), ())), (), ((List.replicate l.length (0 : Int)), ())) = some ((), (), (l, ())) :=
    lim_copy (step := s_laws_toInt64S_l3) l (fun i acc => ((l, ((i : Int), ())), (), (acc, ()))) (fun acc => ((), (), (acc, ()))) (0 : Int)
      (fun i acc d hn hg => by
        have hlt := lt_of_get hg
        simp only [s_laws_toInt64S_l3, dec_lt hlt, cond_true, ib_nat hlt, Int.toNat_natCast, getD_of hg, wrap_succ hlt hm]
        rw [ib_nat (show i < acc.length by omega)]
        rfl)
      (fun acc => by simp only [s_laws_toInt64S_l3, dec_self, cond_false])
  have hroom : room l.length 8 = true := by simp [room]; omega
  simp only [F_laws_toInt64S, Int.toNat_natCast, hroom, cond_true]
  rw [show decide (0 ≤ (l.length : Int) ∧ (l.length : Int) ≤ (l.length : Int)) = true by simp]
  simp only [cond_true]
  rw [show K.zero (.int .i64) = (0 : Int) from rfl, hl]
  rfl

theorem p_laws_toChan (c : Ch) (h : ChB c 1048576) : F_laws_toChan c = some (((c.1, (c.2.2.2.2.1, (c.2.2.2.2.2, ()))), ()), (), (c.2.1, (c.2.2.1, (c.2.2.2.1, ())))) := by
  simp only [F_laws_toChan, p_laws_toInt64S _ h.a, p_laws_toInt64S _ h.b, p_laws_toInt64S _ h.c, Option.bind_some]

theorem p_laws_eqInt64S (l : Li) (hm : l.length ≤ maxLen) : F_laws_eqInt64S l l = some ((true, ()), (), ()) := by
  have h4 : l_laws_eqInt64S_l4 ((l, (l, ((0 : Int), ()))), (), ()) = _ :=
    lim_any (step := s_laws_eqInt64S_l4) l (fun i => ((l, (l, ((i : Int), ()))), (), ())) (fun _ => false) (.inl ((), (), ())) (.inl ((), (), ()))
      (fun i d hg => by
        have hlt := lt_of_get hg
        simp only [s_laws_eqInt64S_l4, dec_lt hlt, cond_true, ib_nat hlt, Int.toNat_natCast, getD_of hg, wrap_succ hlt hm, bne_self_eq_false, cond_false])
      (by simp only [s_laws_eqInt64S_l4, dec_self, cond_false])
  rw [any_no] at h4
  simp only [F_laws_eqInt64S, bne_self_eq_false, cond_false, h4, Option.bind_some]

theorem p_laws_eqChan (c : Ch) (h : ChB c maxLen) : F_laws_eqChan c c = some ((true, ()), (), ()) := by
  simp only [F_laws_eqChan, bne_self_eq_false, cond_false, p_laws_eqInt64S _ h.a, p_laws_eqInt64S _ h.b, p_laws_eqInt64S _ h.c, Option.bind_some, Bool.not_true]

theorem p_laws_eqChanResult (x : Int × Int × Int × Ch) (h : ChB x.2.2.2 maxLen) : F_laws_eqChanResult x x = some ((true, ()), (), ()) := by
  simp only [F_laws_eqChanResult, bne_self_eq_false, cond_false, p_laws_eqChan _ h, Option.bind_some, Bool.not_true]

theorem p_laws_markInt64S (n : Int) (l : Li) (h0 : 0 ≤ n) (h1 : n ≤ 1099511627776) (hl : l.length ≤ 1048576) :
    F_laws_markInt64S n l = some ((n + (l.length : Int), ()), (), (iota n l.length, ())) := by
  have hm : l.length ≤ maxLen := by simp only [maxLen]; omega
  have hk : l_laws_markInt64S_l2 ((n, ((0 : Int), ())), (), (l, ())) = some ((n + (l.length : Int), ()), (), (iota n l.length, ())) := by
    have := lim_fill (step := s_laws_markInt64S_l2) (fun i => n + (i : Int)) (fun i acc => ((n + (i : Int), ((i : Int), ())), (), (acc, ()))) (fun acc => ((n + (l.length : Int), ()), (), (acc, ()))) l
      (fun i acc hn hlt => by
        simp only [s_laws_markInt64S_l2, hn, dec_lt hlt, cond_true, ib_nat hlt, Int.toNat_natCast, wrap_succ hlt hm]
        rw [wrap_id (x := n + (i : Int) + 1) (by omega) (by omega)]
        rw [show n + (i : Int) + 1 = n + ((i + 1 : Nat) : Int) by omega])
      (fun acc hn => by simp only [s_laws_markInt64S_l2, hn, dec_self, cond_false])
    simp only [Int.natCast_zero, Int.add_zero] at this
    exact this
  simp only [F_laws_markInt64S, hk, Option.bind_some]

theorem p_laws_markChan (a b c n : Int) (x y z : Li) (h0 : 0 ≤ n) (h1 : n ≤ 1073741824) (hx : x.length ≤ 1048576) (hy : y.length ≤ 1048576) (hz : z.length ≤ 1048576) :
    F_laws_markChan a b c n x y z = some ((n + (x.length : Int) + (y.length : Int) + (z.length : Int), ()), (), (iota n x.length, (iota (n + (x.length : Int)) y.length, (iota (n + (x.length : Int) + (y.length : Int)) z.length, ())))) := by
  simp only [F_laws_markChan, p_laws_markInt64S n x h0 (by omega) hx, p_laws_markInt64S (n + (x.length : Int)) y (by omega) (by omega) hy, p_laws_markInt64S (n + (x.length : Int) + (y.length : Int)) z (by omega) (by omega) hz, Option.bind_some]

theorem p_laws_markChanResult (u v w a b c n : Int) (x y z : Li) (h0 : 0 ≤ n) (h1 : n ≤ 1073741824) (hx : x.length ≤ 1048576) (hy : y.length ≤ 1048576) (hz : z.length ≤ 1048576) :
    F_laws_markChanResult u v w a b c n x y z = some ((n + (x.length : Int) + (y.length : Int) + (z.length : Int), ()), (), (iota n x.length, (iota (n + (x.length : Int)) y.length, (iota (n + (x.length : Int) + (y.length : Int)) z.length, ())))) := by
  simp only [F_laws_markChanResult, p_laws_markChan a b c n x y z h0 h1 hx hy hz, Option.bind_some]

theorem p_laws_heldInt64S (n : Int) (k : Nat) (h0 : 0 ≤ n) (h1 : n ≤ 1099511627776) (hl : k ≤ 1048576) :
    F_laws_heldInt64S (iota n k) n = some ((n + (k : Int), ()), (), ()) := by
  have hm : (iota n k).length ≤ maxLen := by simp only [maxLen, iota_len]; omega
  have hk : l_laws_heldInt64S_l2 ((iota n k, (n, ((0 : Int), ()))), (), ()) = some (bif (iota n k).any (fun _ => false) then .inl ((n + (k : Int), ()), (), ()) else .inl ((n + (k : Int), ()), (), ())) := by
    have := lim_any (step := s_laws_heldInt64S_l2) (iota n k) (fun i => ((iota n k, (n + (i : Int), ((i : Int), ()))), (), ())) (fun _ => false) (.inl ((n + (k : Int), ()), (), ())) (.inl ((n + (k : Int), ()), (), ()))
      (fun i d hg => by
        have hlt := lt_of_get hg
        have hd := iota_get hg
        have hik : i < k := by rw [iota_len] at hlt; exact hlt
        simp only [s_laws_heldInt64S_l2, dec_lt hlt, cond_true, ib_nat hlt, Int.toNat_natCast, getD_of hg, wrap_succ hlt hm, hd, bne_self_eq_false, cond_false]
        rw [wrap_id (x := n + (i : Int) + 1) (by omega) (by omega)]
        rw [show n + (i : Int) + 1 = n + ((i + 1 : Nat) : Int) by omega])
      (by simp only [s_laws_heldInt64S_l2, dec_self, cond_false, iota_len])
    simp only [Int.natCast_zero, Int.add_zero] at this
    exact this
  rw [any_no] at hk
  simp only [F_laws_heldInt64S, hk, Option.bind_some, cond_false]

theorem p_laws_heldChan (a b c n : Int) (x y z : Nat) (h0 : 0 ≤ n) (h1 : n ≤ 1073741824) (hx : x ≤ 1048576) (hy : y ≤ 1048576) (hz : z ≤ 1048576) :
    F_laws_heldChan (a, iota n x, iota (n + (x : Int)) y, iota (n + (x : Int) + (y : Int)) z, b, c) n = some ((n + (x : Int) + (y : Int) + (z : Int), ()), (), ()) := by
  simp only [F_laws_heldChan, p_laws_heldInt64S n x h0 (by omega) hx, p_laws_heldInt64S (n + (x : Int)) y (by omega) (by omega) hy, p_laws_heldInt64S (n + (x : Int) + (y : Int)) z (by omega) (by omega) hz, Option.bind_some]
  rw [decide_eq_false (show ¬ n + (x : Int) < 0 by omega), decide_eq_false (show ¬ n + (x : Int) + (y : Int) < 0 by omega), decide_eq_false (show ¬ n + (x : Int) + (y : Int) + (z : Int) < 0 by omega)]; rfl

theorem p_laws_heldChanResult (u v w a b c n : Int) (x y z : Nat) (h0 : 0 ≤ n) (h1 : n ≤ 1073741824) (hx : x ≤ 1048576) (hy : y ≤ 1048576) (hz : z ≤ 1048576) :
    F_laws_heldChanResult (u, v, w, a, iota n x, iota (n + (x : Int)) y, iota (n + (x : Int) + (y : Int)) z, b, c) n = some ((n + (x : Int) + (y : Int) + (z : Int), ()), (), ()) := by
  simp only [F_laws_heldChanResult, p_laws_heldChan a b c n x y z h0 h1 hx hy hz, Option.bind_some]
  rw [decide_eq_false (show ¬ n + (x : Int) + (y : Int) + (z : Int) < 0 by omega)]; rfl

theorem p_spec_l13Kind (x : Int) : F_spec_l13Kind x = some (((x == 1 || x == 2), ()), (), ()) := by
  unfold F_spec_l13Kind
  cases (x == 1) <;> rfl

theorem p_spec_l1In (x a b : Int) : F_spec_l1In x a b = some (((decide (a ≤ x) && decide (x ≤ b)), ()), (), ()) := by
  unfold F_spec_l1In
  simp only [ge_iff_le]
  cases decide (a ≤ x) <;> rfl

theorem p_spec_l1Word (x : Int) : F_spec_l1Word x = some ((isW x, ()), (), ()) := by
  simp only [F_spec_l1Word, p_spec_l1In, Option.bind_some, isW]

theorem p_spec_l6All (l : Li) (hm : l.length ≤ maxLen) : F_spec_l6All l = some ((!l.any (fun x => !isW x), ()), (), ()) := by
  have h2 : l_spec_l6All_l2 ((l, ((0 : Int), ())), (), ()) = _ :=
    lim_any (step := s_spec_l6All_l2) l (fun i => ((l, ((i : Int), ())), (), ())) (fun x => !isW x) (.inr ((false, ()), (), ())) (.inl ((), (), ()))
      (fun i d hg => by
        have hlt := lt_of_get hg
        simp only [s_spec_l6All_l2, dec_lt hlt, cond_true, ib_nat hlt, Int.toNat_natCast, getD_of hg, wrap_succ hlt hm, p_spec_l1Word, Option.bind_some]
        cases isW d <;> rfl)
      (by simp only [s_spec_l6All_l2, dec_self, cond_false])
  simp only [F_spec_l6All, h2, Option.bind_some]
  cases l.any (fun x => !isW x) <;> rfl

theorem p_spec_WordsFault (l : Li) (hm : l.length ≤ maxLen) : F_spec_WordsFault l = some ((wf l, ()), (), ()) := by
  have h2 : l_spec_WordsFault_l4 ((l, ((0 : Int), ())), (), ()) = _ :=
    lim_any (step := s_spec_WordsFault_l4) l (fun i => ((l, ((i : Int), ())), (), ())) (fun x => !isW x) (.inr (((3 : Int), ()), (), ())) (.inl ((), (), ()))
      (fun i d hg => by
        have hlt := lt_of_get hg
        simp only [s_spec_WordsFault_l4, dec_lt hlt, cond_true, ib_nat hlt, Int.toNat_natCast, getD_of hg, wrap_succ hlt hm, p_spec_l1Word, Option.bind_some]
        cases isW d <;> rfl)
      (by simp only [s_spec_WordsFault_l4, dec_self, cond_false])
  simp only [F_spec_WordsFault, h2, Option.bind_some, wf]
  cases decide ((l.length : Int) > 400)
  · cases l.any (fun x => !isW x) <;> rfl
  · rfl

theorem p_spec_l13Fault (c : Ch) (h : ChB c maxLen) : F_spec_l13Fault c = some ((chFault c, ()), (), ()) := by
  simp only [F_spec_l13Fault, p_spec_l13Kind, p_spec_WordsFault _ h.a, p_spec_WordsFault _ h.b, p_spec_l6All _ h.c, p_spec_l1Word, Option.bind_some, chFault]
  cases (c.1 == 1 || c.1 == 2)
  · rfl
  · simp only [Bool.not_true, cond_false]
    cases (wf c.2.1 != 0)
    · cases (wf c.2.2.1 != 0)
      · cases c.2.2.2.1.any (fun x => !isW x) <;> cases isW c.2.2.2.2.1 <;> cases isW c.2.2.2.2.2 <;> cases decide ((c.2.2.2.1.length : Int) > 80) <;> rfl
      · rfl
    · rfl

theorem p_spec_WordOf (x : Int) : F_spec_WordOf x = some ((IntKind.wrap .i64 (IntKind.wrap .u16 x), ()), (), ()) := rfl

theorem p_spec_Complement (x : Int) : F_spec_Complement x = some ((compl x, ()), (), ()) := by
  simp only [F_spec_Complement, p_spec_WordOf, Option.bind_some, compl]

theorem p_impl_within (x a b : Int) : F_impl_within x a b = some (((decide (a ≤ x) && decide (x ≤ b)), ()), (), ()) := by
  unfold F_impl_within
  cases decide (a ≤ x) <;> rfl

theorem p_impl_isWord (x : Int) : F_impl_isWord x = some ((isW x, ()), (), ()) := by
  simp only [F_impl_isWord, p_impl_within, Option.bind_some, isW]

theorem p_impl_areWords (l : Li) (hm : l.length ≤ maxLen) : F_impl_areWords l = some ((!l.any (fun x => !isW x), ()), (), ()) := by
  have h2 : l_impl_areWords_l2 ((l, ((l.length : Int), ((0 : Int), ()))), (), ()) = _ :=
    lim_any (step := s_impl_areWords_l2) l (fun i => ((l, ((l.length : Int), ((i : Int), ()))), (), ())) (fun x => !isW x) (.inr ((false, ()), (), ())) (.inl ((), (), ()))
      (fun i d hg => by
        have hlt := lt_of_get hg
        simp only [s_impl_areWords_l2, dec_lt hlt, cond_true, ib_nat hlt, Int.toNat_natCast, getD_of hg, wrap_succ hlt hm, p_impl_isWord, Option.bind_some]
        cases isW d <;> rfl)
      (by simp only [s_impl_areWords_l2, dec_self, cond_false])
  simp only [F_impl_areWords, h2, Option.bind_some]
  cases l.any (fun x => !isW x) <;> rfl

theorem p_impl_WordsFault (l : Li) (hm : l.length ≤ maxLen) : F_impl_WordsFault l = some ((wf l, ()), (), ()) := by
  simp only [F_impl_WordsFault, p_impl_areWords _ hm, Option.bind_some, wf, Bool.not_not]
  cases decide ((l.length : Int) > 400)
  · cases l.any (fun x => !isW x) <;> rfl
  · rfl

theorem p_impl_ChanFault (c : Ch) (h : ChB c maxLen) : F_impl_ChanFault c = some ((chFault c, ()), (), ()) := by
  have hl : l_impl_ChanFault_l4 (((([c.2.1, c.2.2.1]).length : Int), ((0 : Int), ())), ((c.1, (c.2.1, (c.2.2.1, (c.2.2.2.1, (c.2.2.2.2.1, (c.2.2.2.2.2, ())))))), ()), ([c.2.1, c.2.2.1], ())) =
      some (bif wf c.2.1 != 0 then .inr ((wf c.2.1, ()), (), ()) else bif wf c.2.2.1 != 0 then .inr ((wf c.2.2.1, ()), (), ()) else .inl ((), ((c.1, (c.2.1, (c.2.2.1, (c.2.2.2.1, (c.2.2.2.2.1, (c.2.2.2.2.2, ())))))), ()), ())) := by
    have w1 : IntKind.wrap .i64 ((0 : Int) + 1) = 1 := by decide
    have w2 : IntKind.wrap .i64 ((1 : Int) + 1) = 2 := by decide
    unfold l_impl_ChanFault_l4
    rw [lim_eq]
    simp only [s_impl_ChanFault_l4, List.length_cons, List.length_nil]
    rw [show decide ((0 : Int) < ((0 + 1 + 1 : Nat) : Int)) = true by decide, show ib (0 : Int) (0 + 1 + 1) = true by decide]
    simp only [cond_true, show (Int.toNat (0 : Int)) = 0 from rfl, List.getD_cons_zero, p_impl_WordsFault _ h.a, Option.bind_some, w1]
    cases (wf c.2.1 != 0)
    · simp only [cond_false]
      rw [lim_eq]
      simp only [s_impl_ChanFault_l4, List.length_cons, List.length_nil]
      rw [show decide ((1 : Int) < ((0 + 1 + 1 : Nat) : Int)) = true by decide, show ib (1 : Int) (0 + 1 + 1) = true by decide]
      simp only [cond_true, show (Int.toNat (1 : Int)) = 1 from rfl, List.getD_cons_succ, List.getD_cons_zero, p_impl_WordsFault _ h.b, Option.bind_some, w2]
      cases (wf c.2.2.1 != 0)
      · simp only [cond_false]
        rw [lim_eq]
        simp only [s_impl_ChanFault_l4]
        rw [show decide ((2 : Int) < ((0 + 1 + 1 : Nat) : Int)) = false by decide]
        rfl
      · rfl
    · rfl
  simp only [F_impl_ChanFault, hl, Option.bind_some, chFault, bne]
  cases (c.1 == 1) <;> cases (c.1 == 2)
  · rfl
  all_goals
    simp only [Bool.not_true, Bool.not_false, cond_true, cond_false, Option.bind_some, Bool.or_true, Bool.true_or]
    cases (wf c.2.1 == 0)
    · rfl
    · cases (wf c.2.2.1 == 0)
      · rfl
      · simp only [Bool.not_true, cond_false, p_impl_areWords _ h.c, p_impl_isWord, Option.bind_some, Bool.not_not]
        cases c.2.2.2.1.any (fun x => !isW x) <;> cases isW c.2.2.2.2.1 <;> cases isW c.2.2.2.2.2 <;> cases decide ((c.2.2.2.1.length : Int) > 80) <;> rfl

theorem p_slices_Clone_int64 (l : Li) (h : l.length ≤ 1048576) : F_slices_Clone_int64 l = some ((), (), (l, ())) := by
  have hr := room8 h
  simp only [List.nil_append] at hr
  simp only [F_slices_Clone_int64, List.nil_append, hr, cond_true, nilB]
  cases l with
  | nil => simp
  | cons a l => rfl

theorem p_impl_WordOf (x : Int) : F_impl_WordOf x = some ((IntKind.wrap .i64 (IntKind.wrap .u16 x), ()), (), ()) := by
  rw [F_impl_WordOf, u16_eq]

theorem p_impl_Complement (x : Int) : F_impl_Complement x = some ((compl x, ()), (), ()) := by
  simp only [F_impl_Complement, p_impl_WordOf, Option.bind_some, compl]

theorem p_impl_inverted (l : Li) (hl : l.length ≤ 1048576) : F_impl_inverted l = some ((), (), (l.map compl, ())) := by
  have hm : l.length ≤ maxLen := by simp only [maxLen]; omega
  have h3 : l_impl_inverted_l3 ((l, ((l.length : Int), ((0 : Int), ()))), (), ([], ())) = _ :=
    lim_app (step := s_impl_inverted_l3) l compl (fun i acc => ((l, ((l.length : Int), ((i : Int), ()))), (), (acc, ()))) ((), (), (l.map compl, ()))
      (fun i acc d hn _ hg => by
        have hlt := lt_of_get hg
        simp only [s_impl_inverted_l3, dec_lt hlt, cond_true, ib_nat hlt, Int.toNat_natCast, getD_of hg, wrap_succ hlt hm, p_impl_Complement, Option.bind_some]
        rw [show room (acc ++ [compl d]).length 8 = true by simp [room]; omega]; rfl)
      (by simp only [s_impl_inverted_l3, dec_self, cond_false])
  simp only [F_impl_inverted, h3, Option.bind_some]

def hxor (x v : Int) : Int := IntKind.wrap .i64 (((BitVec.ofInt (IntKind.bits .i64) x ^^^ BitVec.ofInt (IntKind.bits .i64) v).toNat : Int))
abbrev HL : Type := Int × Int × Int × Li × Li × Li
def hurtL (k i v w1 w2 : Int) (x y z : Li) : HL :=
  bif k == 1 then bif isW v && ib i x.length then (0, w1, w2, x.set i.toNat (hxor (x.getD i.toNat 0) v), y, z) else (3, w1, w2, x, y, z)
  else bif k == 2 then bif isW v && ib i z.length then (0, w1, w2, x, y, z.set i.toNat (hxor (z.getD i.toNat 0) v)) else (3, w1, w2, x, y, z)
  else bif k == 3 then bif isW v && ib i y.length then (0, w1, w2, x, y.set i.toNat (hxor (y.getD i.toNat 0) v), z) else (3, w1, w2, x, y, z)
  else bif k == 4 then bif isW v && ib i 1 then (0, hxor w1 v, w2, x, y, z) else (3, w1, w2, x, y, z)
  else bif k == 5 then bif isW v && ib i 1 then (0, w1, hxor w2 v, x, y, z) else (3, w1, w2, x, y, z)
  else (1, w1, w2, x, y, z)
theorem hurtL_len (k i v w1 w2 : Int) (x y z : Li) : (hurtL k i v w1 w2 x y z).2.2.2.1.length = x.length ∧ (hurtL k i v w1 w2 x y z).2.2.2.2.1.length = y.length ∧ (hurtL k i v w1 w2 x y z).2.2.2.2.2.length = z.length := by
  unfold hurtL
  cases (k == 1)
  · cases (k == 2)
    · cases (k == 3)
      · cases (k == 4)
        · cases (k == 5)
          · exact ⟨rfl, rfl, rfl⟩
          · cases (isW v && ib i 1) <;> exact ⟨rfl, rfl, rfl⟩
        · cases (isW v && ib i 1) <;> exact ⟨rfl, rfl, rfl⟩
      · cases (isW v && ib i y.length) <;> simp
    · cases (isW v && ib i z.length) <;> simp
  · cases (isW v && ib i x.length) <;> simp
theorem inL (i : Int) (n : Nat) : (decide (0 ≤ i) && decide (i ≤ (n : Int) - 1)) = ib i n := by
  unfold ib
  rw [← Bool.decide_and]
  exact decide_eq_decide.2 (by omega)
theorem wrap_pred (n : Nat) (h : n ≤ maxLen) : IntKind.wrap .i64 ((n : Int) - 1) = (n : Int) - 1 := by
  simp only [maxLen] at h
  exact wrap_id (by omega) (by omega)
def hurtC (c : Ch) (k i v : Int) : Int × Ch :=
  bif chFault c != 0 then (chFault c, 0, [], [], [], 0, 0) else
  bif (hurtL k i v c.2.2.2.2.1 c.2.2.2.2.2 c.2.1 c.2.2.1 c.2.2.2.1).1 != 0 then ((hurtL k i v c.2.2.2.2.1 c.2.2.2.2.2 c.2.1 c.2.2.1 c.2.2.2.1).1, 0, [], [], [], 0, 0) else
  (0, c.1, (hurtL k i v c.2.2.2.2.1 c.2.2.2.2.2 c.2.1 c.2.2.1 c.2.2.2.1).2.2.2.1, (hurtL k i v c.2.2.2.2.1 c.2.2.2.2.2 c.2.1 c.2.2.1 c.2.2.2.1).2.2.2.2.1, (hurtL k i v c.2.2.2.2.1 c.2.2.2.2.2 c.2.1 c.2.2.1 c.2.2.2.1).2.2.2.2.2, (hurtL k i v c.2.2.2.2.1 c.2.2.2.2.2 c.2.1 c.2.2.1 c.2.2.2.1).2.1, (hurtL k i v c.2.2.2.2.1 c.2.2.2.2.2 c.2.1 c.2.2.1 c.2.2.2.1).2.2.1)
theorem hurtC_len (c : Ch) (k i v : Int) (n : Nat) (h : ChB c n) : ChB (hurtC c k i v).2 n := by
  obtain ⟨a, b, d⟩ := hurtL_len k i v c.2.2.2.2.1 c.2.2.2.2.2 c.2.1 c.2.2.1 c.2.2.2.1
  unfold hurtC
  cases (chFault c != 0)
  · simp only [cond_false]
    generalize hurtL k i v c.2.2.2.2.1 c.2.2.2.2.2 c.2.1 c.2.2.1 c.2.2.2.1 = r at a b d ⊢
    cases (r.1 != 0)
    · exact ⟨by simpa [a] using h.a, by simpa [b] using h.b, by simpa [d] using h.c⟩
    · exact ⟨Nat.zero_le _, Nat.zero_le _, Nat.zero_le _⟩
  · exact ⟨Nat.zero_le _, Nat.zero_le _, Nat.zero_le _⟩
abbrev outC (r : Int × Ch) : ((Int × Int × Int × Int × Int × Int × Unit) × Unit) × Unit × (Li × Li × Li × Unit) := (((r.1, ((0 : Int), ((0 : Int), (r.2.1, (r.2.2.2.2.2.1, (r.2.2.2.2.2.2, ())))))), ()), (), (r.2.2.1, (r.2.2.2.1, (r.2.2.2.2.1, ()))))

theorem p_spec_l13Copy (c : Ch) (h : ChB c 1048576) : F_spec_l13Copy c = some (((c.1, (c.2.2.2.2.1, (c.2.2.2.2.2, ()))), ()), (), (c.2.1, (c.2.2.1, (c.2.2.2.1, ())))) := by
  have ha := room8 h.a
  have hb := room8 h.b
  have hc := room8 h.c
  simp only [List.nil_append] at ha hb hc
  simp only [F_spec_l13Copy, List.nil_append, ha, hb, hc, cond_true]

theorem p_impl_Chan_copied (c : Ch) (h : ChB c 1048576) : F_impl_Chan_copied c = some (((c.1, (c.2.2.2.2.1, (c.2.2.2.2.2, ()))), ()), (), (c.2.1, (c.2.2.1, (c.2.2.2.1, ())))) := by
  simp only [F_impl_Chan_copied, p_slices_Clone_int64 _ h.a, p_slices_Clone_int64 _ h.b, p_slices_Clone_int64 _ h.c, Option.bind_some]

abbrev Pt : Type := Int × Bool
abbrev Bd : Type := Int × List Pt × Li × Li × Li × Li × Li × Int × Int
structure BdB (x : Bd) (n : Nat) : Prop where
  a : x.2.1.length ≤ n
  b : x.2.2.1.length ≤ n
  c : x.2.2.2.1.length ≤ n
  d : x.2.2.2.2.1.length ≤ n
  e : x.2.2.2.2.2.1.length ≤ n
  f : x.2.2.2.2.2.2.1.length ≤ n
theorem lim_count {A B σ : Type} {step : A → Option (A ⊕ B)} (n : Nat) (mk : Nat → σ → A) (f : σ → σ) (out : σ → B) (I : σ → Prop)
    (h1 : ∀ i s, i < n → I s → step (mk i s) = some (.inl (mk (i + 1) (f s)))) (hI : ∀ s, I s → I (f s)) (h2 : ∀ s, I s → step (mk n s) = some (.inr (out s))) :
    ∀ (k i : Nat) (s : σ), i + k = n → I s → lim step (mk i s) = some (out (Nat.repeat f k s))
  | 0, i, s, hi, hs => by
    obtain rfl : i = n := by omega
    rw [lim_eq, h2 s hs]; rfl
  | k + 1, i, s, hi, hs => by
    rw [lim_eq, h1 i s (by omega) hs]
    simp only
    rw [lim_count n mk f out I h1 hI h2 k (i + 1) (f s) (by omega) (hI s hs)]
    have : ∀ (k : Nat) (s : σ), Nat.repeat f k (f s) = Nat.repeat f (k + 1) s := by
      intro k
      induction k with
      | zero => intro s; rfl
      | succ k ih => intro s; show f (Nat.repeat f k (f s)) = _; rw [ih]; rfl
    rw [this]
theorem lim_foldl {A B α σ : Type} {step : A → Option (A ⊕ B)} (l : List α) (mk : Nat → σ → A) (f : σ → α → σ) (out : σ → B) (I : σ → Prop)
    (h1 : ∀ i s d, I s → l[i]? = some d → step (mk i s) = some (.inl (mk (i + 1) (f s d))) ∧ I (f s d)) (h2 : ∀ s, I s → step (mk l.length s) = some (.inr (out s))) (s0 : σ) (h0 : I s0) :
    lim step (mk 0 s0) = some (out (l.foldl f s0)) := by
  have key : ∀ (r : List α) (i : Nat) (s : σ), I s → l.drop i = r → i ≤ l.length → lim step (mk i s) = some (out (r.foldl f s)) := by
    intro r
    induction r with
    | nil =>
      intro i s hs hd hle
      have : i = l.length := by have := congrArg List.length hd; simp at this; omega
      subst this
      rw [lim_eq, h2 s hs]; rfl
    | cons d r ih =>
      intro i s hs hd hle
      have hlt : i < l.length := by have := congrArg List.length hd; simp at this; omega
      have hg : l[i]? = some d := by
        have := congrArg (·[0]?) hd
        simpa using this
      rw [lim_eq, (h1 i s d hs hg).1]
      exact ih (i + 1) _ (h1 i s d hs hg).2 (by rw [← List.drop_drop, hd]; rfl) hlt
  exact key l 0 s0 h0 rfl (Nat.zero_le _)
theorem lim_idx {A B α : Type} {step : A → Option (A ⊕ B)} (l : List α) (mk : Nat → A) (p : α → Bool) (hit : Nat → B) (out : B)
    (h1 : ∀ i d, l[i]? = some d → step (mk i) = some (bif p d then .inr (hit i) else .inl (mk (i + 1)))) (h2 : step (mk l.length) = some (.inr out)) :
    (∃ i : Nat, l.any p = true ∧ lim step (mk 0) = some (hit i)) ∨ (l.any p = false ∧ lim step (mk 0) = some out) := by
  have key : ∀ (r : List α) (i : Nat), l.drop i = r → i ≤ l.length → (∃ j : Nat, r.any p = true ∧ lim step (mk i) = some (hit j)) ∨ (r.any p = false ∧ lim step (mk i) = some out) := by
    intro r
    induction r with
    | nil =>
      intro i hd hle
      have : i = l.length := by have := congrArg List.length hd; simp at this; omega
      subst this
      exact .inr ⟨rfl, by rw [lim_eq, h2]⟩
    | cons d r ih =>
      intro i hd hle
      have hlt : i < l.length := by have := congrArg List.length hd; simp at this; omega
      have hg : l[i]? = some d := by
        have := congrArg (·[0]?) hd
        simpa using this
      rw [lim_eq, h1 i d hg]
      cases hp : p d
      · simp only [cond_false, List.any_cons, hp, Bool.false_or]
        exact ih (i + 1) (by rw [← List.drop_drop, hd]; rfl) hlt
      · exact .inl ⟨i, by simp [hp], rfl⟩
  exact key l 0 rfl (Nat.zero_le _)
theorem zip_any : ∀ {l1 l2 : Li}, l1.length = l2.length → (l1.zip l2).any (fun q => q.1 != q.2) = !(l1 == l2)
  | [], [], _ => rfl
  | [], _ :: _, h => by cases h
  | _ :: _, [], h => by cases h
  | a :: l1, b :: l2, h => by
    have ih := zip_any (l1 := l1) (l2 := l2) (by simpa using h)
    simp only [bne] at ih
    simp only [List.zip_cons_cons, List.any_cons, List.cons_beq_cons, Bool.not_and, bne, ih]
theorem lim_same {A B : Type} {step : A → Option (A ⊕ B)} (l1 l2 : Li) (hlen : l1.length = l2.length) (mk : Nat → A) (hit out : B)
    (h1 : ∀ i a b, l1[i]? = some a → l2[i]? = some b → step (mk i) = some (bif a != b then .inr hit else .inl (mk (i + 1)))) (h2 : step (mk l1.length) = some (.inr out)) :
    lim step (mk 0) = some (bif l1 == l2 then out else hit) := by
  have := lim_any (step := step) (l1.zip l2) mk (fun q => q.1 != q.2) hit out
    (fun i d hg => by
      rw [List.getElem?_zip_eq_some] at hg
      exact h1 i d.1 d.2 hg.1 hg.2)
    (by rw [show (l1.zip l2).length = l1.length by simp [hlen]]; exact h2)
  rw [this, zip_any hlen]
  cases (l1 == l2) <;> rfl
theorem len_ne {l1 l2 : Li} (h : l1.length ≠ l2.length) : (l1 == l2) = false := by
  rw [beq_eq_false_iff_ne]
  intro he; exact h (by rw [he])
theorem nat_mod {a : Nat} (h : a < 65536) : (BitVec.ofInt (IntKind.bits .i64) (a : Int)).toNat = a := by
  show (BitVec.ofInt 64 (a : Int)).toNat = a
  rw [BitVec.toNat_ofInt]; omega
theorem xorN {a b : Nat} (ha : a < 65536) (hb : b < 65536) : IntKind.wrap .i64 (((BitVec.ofInt (IntKind.bits .i64) (a : Int) ^^^ BitVec.ofInt (IntKind.bits .i64) (b : Int)).toNat : Int)) = ((a ^^^ b : Nat) : Int) := by
  rw [BitVec.toNat_xor, nat_mod ha, nat_mod hb]
  have : a ^^^ b < 2 ^ 16 := Nat.xor_lt_two_pow ha hb
  exact wrap_id (by omega) (by omega)
theorem andN {a b : Nat} (ha : a < 65536) (hb : b < 65536) : IntKind.wrap .i64 (((BitVec.ofInt (IntKind.bits .i64) (a : Int) &&& BitVec.ofInt (IntKind.bits .i64) (b : Int)).toNat : Int)) = ((a &&& b : Nat) : Int) := by
  rw [BitVec.toNat_and, nat_mod ha, nat_mod hb]
  have : a &&& b ≤ b := Nat.and_le_right
  exact wrap_id (by omega) (by omega)
theorem and15 {a : Nat} (ha : a < 65536) : (((a &&& 32768 : Nat) : Int) != 0) = decide ((a : Int) ≥ 32768) := by
  have h : a &&& 2 ^ 15 = 2 ^ 15 * (a / 2 ^ 15 % 2) := by
    apply Nat.eq_of_testBit_eq
    intro j
    rw [Nat.testBit_and, Nat.testBit_two_pow]
    by_cases hj : 15 = j
    · subst hj
      rw [Nat.testBit_eq_decide_div_mod_eq]
      rcases Nat.mod_two_eq_zero_or_one (a / 2 ^ 15) with h | h
      · rw [h]; simp
      · rw [h, Nat.mul_one, Nat.testBit_two_pow]; simp
    · rcases Nat.mod_two_eq_zero_or_one (a / 2 ^ 15) with h | h
      · rw [h]; simp [hj]
      · rw [h, Nat.mul_one, Nat.testBit_two_pow]; simp [hj]
  rw [show (32768 : Nat) = 2 ^ 15 from rfl, h]
  by_cases hh : 32768 ≤ a
  · rw [show a / 2 ^ 15 % 2 = 1 by omega, decide_eq_true (by omega)]; rfl
  · rw [show a / 2 ^ 15 % 2 = 0 by omega, decide_eq_false (by omega)]; rfl
def crc1 (n : Nat) : Nat := bif decide ((n : Int) ≥ 32768) then (2 * n % 65536) ^^^ 4129 else 2 * n % 65536
theorem crc1_lt (n : Nat) : crc1 n < 65536 := by
  unfold crc1
  cases decide ((n : Int) ≥ 32768)
  · exact Nat.mod_lt _ (by decide)
  · exact Nat.xor_lt_two_pow (n := 16) (Nat.mod_lt _ (by decide)) (by decide)
def crcB (c b : Nat) : Nat := Nat.repeat crc1 8 (c ^^^ (b * 256))
theorem crcB_lt (c b : Nat) : crcB c b < 65536 := crc1_lt _
def crcW (c : Nat) (w : Int) : Nat := crcB (crcB c (w.toNat / 256)) (w.toNat % 256)
def sumW (l : Li) : Nat := l.foldl crcW 65535
def blk (l : Li) (j : Nat) : Li := (l.take (min (j * 8 + 8) l.length)).drop (j * 8)
def nblk (l : Li) : Nat := (l.length + 7) / 8
def sums (l : Li) : Li := (List.range (nblk l)).map fun j => ((sumW (blk l j) : Nat) : Int)
theorem isW_nat {x : Int} (h : isW x = true) : ∃ a : Nat, a < 65536 ∧ x = (a : Int) := by
  simp only [isW, Bool.and_eq_true, decide_eq_true_eq] at h
  exact ⟨x.toNat, by omega, by omega⟩
def allW (l : Li) : Prop := ∀ x ∈ l, isW x = true
theorem wf_allW {l : Li} (h : (wf l != 0) = false) : allW l ∧ l.length ≤ 400 := by
  unfold wf at h
  cases h1 : decide ((l.length : Int) > 400)
  · rw [h1] at h
    have h1 := of_decide_eq_false h1
    cases h2 : l.any (fun x => !isW x)
    · refine ⟨fun x hx => ?_, by omega⟩
      rw [List.any_eq_false] at h2
      have := h2 x hx
      simpa using this
    · rw [h2] at h; simp at h
  · rw [h1] at h; simp at h
theorem allW_blk {l : Li} (h : allW l) (j : Nat) : allW (blk l j) := fun x hx => h x (List.mem_of_mem_take (List.mem_of_mem_drop hx))
def cellOk (n x : Int) : Bool := decide (0 ≤ x) && decide (x ≤ IntKind.wrap .i64 (n - 1))
def inI (x a b : Int) : Bool := decide (a ≤ x) && decide (x ≤ b)
def bdFault (b : Bd) : Int :=
  bif !inI b.1 0 80 || !inI b.2.2.2.2.2.2.2.1 0 20000 || !inI b.2.2.2.2.2.2.2.2 0 20000 then 3
  else bif decide ((b.2.1.length : Int) > 24) || decide ((b.2.2.1.length : Int) > 60) then 2
  else bif b.2.1.any (fun p => !cellOk b.1 p.1) then 3
  else bif b.2.2.1.any (fun x => !cellOk b.1 x) then 3
  else bif wf b.2.2.2.1 != 0 then wf b.2.2.2.1
  else bif wf b.2.2.2.2.1 != 0 then wf b.2.2.2.2.1
  else bif !(b.2.2.2.2.2.1 == sums b.2.2.2.1) then 6
  else bif !(b.2.2.2.2.2.2.1 == sums b.2.2.2.2.1) then 6 else 0
theorem room8n (n : Nat) (h : n ≤ 1048576) : room n 8 = true := by simp [room]; omega
theorem room24n (n : Nat) (h : n ≤ 1048576) : room n 24 = true := by simp [room]; omega

theorem z_laws_szPortS (l : List Pt) (left : Int) (h0 : 0 ≤ left) (h1 : left ≤ 1048576) (hl : l.length ≤ maxLen) :
    ∃ r : Int, F_laws_szPortS l left = some ((r, ()), (), ()) ∧ (decide (r < 0) = false → 0 ≤ r ∧ r ≤ 1048576 ∧ l.length ≤ 1048576) := by
  simp only [maxLen] at hl
  have hw : IntKind.wrap .i64 (left - (l.length : Int)) = left - l.length := wrap_id (by omega) (by omega)
  unfold F_laws_szPortS
  rw [hw]
  cases hn : decide (left - (l.length : Int) < 0)
  · have hn' := of_decide_eq_false hn
    exact ⟨_, rfl, fun _ => by omega⟩
  · exact ⟨-1, rfl, fun h => by simp at h⟩

theorem z_laws_szBuild (b : Bd) (left : Int) (h0 : 0 ≤ left) (h1 : left ≤ 1048576) (hl : BdB b maxLen) :
    ∃ r : Int, F_laws_szBuild b left = some ((r, ()), (), ()) ∧ (decide (r < 0) = false → 0 ≤ r ∧ r ≤ 1048576 ∧ BdB b 1048576) := by
  have no : ∃ r : Int, some ((((-1 : Int), ()), (), ()) : (Int × Unit) × Unit × Unit) = some ((r, ()), (), ()) ∧ (decide (r < 0) = false → 0 ≤ r ∧ r ≤ 1048576 ∧ BdB b 1048576) := ⟨-1, rfl, fun h => by simp at h⟩
  obtain ⟨r1, e1, g1⟩ := z_laws_szPortS b.2.1 left h0 h1 hl.a
  simp only [F_laws_szBuild, e1, Option.bind_some]
  cases q1 : decide (r1 < 0)
  case true => exact no
  obtain ⟨a1, a2, a3⟩ := g1 q1
  obtain ⟨r2, e2, g2⟩ := z_laws_szInt64S b.2.2.1 r1 a1 a2 hl.b
  simp only [cond_false, e2, Option.bind_some]
  cases q2 : decide (r2 < 0)
  case true => exact no
  obtain ⟨b1, b2, b3⟩ := g2 q2
  obtain ⟨r3, e3, g3⟩ := z_laws_szInt64S b.2.2.2.1 r2 b1 b2 hl.c
  simp only [cond_false, e3, Option.bind_some]
  cases q3 : decide (r3 < 0)
  case true => exact no
  obtain ⟨c1, c2, c3⟩ := g3 q3
  obtain ⟨r4, e4, g4⟩ := z_laws_szInt64S b.2.2.2.2.1 r3 c1 c2 hl.d
  simp only [cond_false, e4, Option.bind_some]
  cases q4 : decide (r4 < 0)
  case true => exact no
  obtain ⟨d1, d2, d3⟩ := g4 q4
  obtain ⟨r5, e5, g5⟩ := z_laws_szInt64S b.2.2.2.2.2.1 r4 d1 d2 hl.e
  simp only [cond_false, e5, Option.bind_some]
  cases q5 : decide (r5 < 0)
  case true => exact no
  obtain ⟨f1, f2, f3⟩ := g5 q5
  obtain ⟨r6, e6, g6⟩ := z_laws_szInt64S b.2.2.2.2.2.2.1 r5 f1 f2 hl.f
  simp only [cond_false, e6, Option.bind_some]
  cases q6 : decide (r6 < 0)
  case true => exact no
  obtain ⟨k1, k2, k3⟩ := g6 q6
  exact ⟨r6, rfl, fun _ => ⟨k1, k2, a3, b3, c3, d3, f3, k3⟩⟩

theorem p_laws_toPort (x : Pt) : F_laws_toPort x = some ((x, ()), (), ()) := rfl

theorem p_laws_toPortS (l : List Pt) (h : l.length ≤ 1048576) : F_laws_toPortS l = some ((), (), (l, ())) := by
  have hm : l.length ≤ maxLen := by simp only [maxLen]; omega
  have hl : l_laws_toPortS_l3 ((l, ((0 : Int), ())), (), ((List.replicate l.length (K.zero (.pr (.int .i64) .bool))), ())) = some ((), (), (l, ())) :=
    lim_copy (step := s_laws_toPortS_l3) l (fun i acc => ((l, ((i : Int), ())), (), (acc, ()))) (fun acc => ((), (), (acc, ()))) (K.zero (.pr (.int .i64) .bool))
      (fun i acc d hn hg => by
        have hlt := lt_of_get hg
        simp only [s_laws_toPortS_l3, dec_lt hlt, cond_true, ib_nat hlt, Int.toNat_natCast, getD_of hg, wrap_succ hlt hm, p_laws_toPort, Option.bind_some]
        rw [ib_nat (show i < acc.length by omega)]
        rfl)
      (fun acc => by simp only [s_laws_toPortS_l3, dec_self, cond_false])
  have hroom : room l.length 16 = true := by simp [room]; omega
  simp only [F_laws_toPortS, Int.toNat_natCast, hroom, cond_true]
  rw [show decide (0 ≤ (l.length : Int) ∧ (l.length : Int) ≤ (l.length : Int)) = true by simp]
  simp only [cond_true]
  rw [hl]
  rfl

theorem p_laws_toBuild (b : Bd) (h : BdB b 1048576) : F_laws_toBuild b = some (((b.1, (b.2.2.2.2.2.2.2.1, (b.2.2.2.2.2.2.2.2, ()))), ()), (), (b.2.1, (b.2.2.1, (b.2.2.2.1, (b.2.2.2.2.1, (b.2.2.2.2.2.1, (b.2.2.2.2.2.2.1, ()))))))) := by
  simp only [F_laws_toBuild, p_laws_toPortS _ h.a, p_laws_toInt64S _ h.b, p_laws_toInt64S _ h.c, p_laws_toInt64S _ h.d, p_laws_toInt64S _ h.e, p_laws_toInt64S _ h.f, Option.bind_some]

theorem p_laws_eqPort (x : Pt) : F_laws_eqPort x x = some ((true, ()), (), ()) := by
  simp only [F_laws_eqPort, bne_self_eq_false, cond_false, beq_self_eq_true, Bool.not_true]

theorem p_laws_eqPortS (l : List Pt) (hm : l.length ≤ maxLen) : F_laws_eqPortS l l = some ((true, ()), (), ()) := by
  have h4 : l_laws_eqPortS_l4 ((l, (l, ((0 : Int), ()))), (), ()) = _ :=
    lim_any (step := s_laws_eqPortS_l4) l (fun i => ((l, (l, ((i : Int), ()))), (), ())) (fun _ => false) (.inl ((), (), ())) (.inl ((), (), ()))
      (fun i d hg => by
        have hlt := lt_of_get hg
        simp only [s_laws_eqPortS_l4, dec_lt hlt, cond_true, ib_nat hlt, Int.toNat_natCast, getD_of hg, wrap_succ hlt hm, p_laws_eqPort, Option.bind_some, Bool.not_true, cond_false])
      (by simp only [s_laws_eqPortS_l4, dec_self, cond_false])
  rw [any_no] at h4
  simp only [F_laws_eqPortS, bne_self_eq_false, cond_false, h4, Option.bind_some]

theorem p_laws_eqBuild (b : Bd) (h : BdB b maxLen) : F_laws_eqBuild b b = some ((true, ()), (), ()) := by
  simp only [F_laws_eqBuild, bne_self_eq_false, cond_false, p_laws_eqPortS _ h.a, p_laws_eqInt64S _ h.b, p_laws_eqInt64S _ h.c, p_laws_eqInt64S _ h.d, p_laws_eqInt64S _ h.e, p_laws_eqInt64S _ h.f, Option.bind_some, Bool.not_true]

theorem p_spec_l12Same (x y : Li) (hm : x.length ≤ maxLen) : F_spec_l12Same x y = some ((x == y, ()), (), ()) := by
  by_cases hn : x.length = y.length
  · have h4 : l_spec_l12Same_l4 ((x, (y, ((0 : Int), ()))), (), ()) = _ :=
      lim_same (step := s_spec_l12Same_l4) x y hn (fun i => ((x, (y, ((i : Int), ()))), (), ())) (.inr ((false, ()), (), ())) (.inl ((), (), ()))
        (fun i a b ha hb => by
          have hlt := lt_of_get ha
          simp only [s_spec_l12Same_l4, dec_lt hlt, cond_true, ib_nat hlt, ib_nat (lt_of_get hb), Int.toNat_natCast, getD_of ha, getD_of hb, wrap_succ hlt hm]
          cases (a != b) <;> rfl)
        (by simp only [s_spec_l12Same_l4, dec_self, cond_false])
    simp only [F_spec_l12Same, hn, bne_self_eq_false, cond_false, h4, Option.bind_some]
    cases (x == y) <;> rfl
  · have hb : (((x.length : Int)) != (y.length : Int)) = true := by simp; omega
    simp only [F_spec_l12Same, hb, cond_true, len_ne hn]

theorem p_slices_Equal_int64 (x y : Li) (hm : x.length ≤ maxLen) : F_slices_Equal_int64 x y = some ((x == y, ()), (), ()) := by
  by_cases hn : x.length = y.length
  · have h4 : l_slices_Equal_int64_l4 ((x, (y, ((x.length : Int), ((0 : Int), ())))), (), ()) = _ :=
      lim_same (step := s_slices_Equal_int64_l4) x y hn (fun i => ((x, (y, ((x.length : Int), ((i : Int), ())))), (), ())) (.inr ((false, ()), (), ())) (.inl ((), (), ()))
        (fun i a b ha hb => by
          have hlt := lt_of_get ha
          simp only [s_slices_Equal_int64_l4, dec_lt hlt, cond_true, ib_nat hlt, ib_nat (lt_of_get hb), Int.toNat_natCast, getD_of ha, getD_of hb, wrap_succ hlt hm]
          cases (a != b) <;> rfl)
        (by simp only [s_slices_Equal_int64_l4, dec_self, cond_false])
    have hb : (((x.length : Int)) != (y.length : Int)) = false := by rw [hn]; simp
    simp only [F_slices_Equal_int64, hb, cond_false, h4, Option.bind_some]
    cases (x == y) <;> rfl
  · have hb : (((x.length : Int)) != (y.length : Int)) = true := by simp; omega
    simp only [F_slices_Equal_int64, hb, cond_true, len_ne hn]

theorem p_spec_l12Cell (b : Bd) (x : Int) : F_spec_l12Cell b x = some ((cellOk b.1 x, ()), (), ()) := by
  simp only [F_spec_l12Cell, p_spec_l1In, Option.bind_some, cellOk]

theorem p_spec_l1Crc (c b : Nat) (hc : c < 65536) (hb : b < 256) : F_spec_l1Crc (c : Int) (b : Int) = some ((((crcB c b : Nat) : Int), ()), (), ()) := by
  have hs : IntKind.wrap .i64 ((b : Int) * 2 ^ min (Int.toNat (8 : Int)) (IntKind.bits .i64)) = ((b * 256 : Nat) : Int) := by
    rw [show (2 : Int) ^ min (Int.toNat (8 : Int)) (IntKind.bits .i64) = 256 by decide]
    rw [wrap_id (by omega) (by omega)]; omega
  have hl : ∀ s : Nat, s < 65536 → l_spec_l1Crc_l3 (((s : Int), ((0 : Int), ())), (), ()) = some ((((Nat.repeat crc1 8 s : Nat) : Int), ()), (), ()) := fun s hs =>
    lim_count (step := s_spec_l1Crc_l3) 8 (fun (i : Nat) (s : Nat) => (((s : Int), ((i : Int), ())), (), ())) crc1 (fun (s : Nat) => (((s : Int), ()), (), ())) (fun (s : Nat) => s < 65536)
      (fun i s hi hs => by
        have w1 : IntKind.wrap .i64 ((s : Int) * 2) = ((2 * s : Nat) : Int) := by rw [wrap_id (by omega) (by omega)]; omega
        have w2 : IntKind.wrap .i64 ((i : Int) + 1) = ((i + 1 : Nat) : Int) := by rw [wrap_id (by omega) (by omega)]; omega
        have w3 : Int.tmod ((2 * s : Nat) : Int) 65536 = ((2 * s % 65536 : Nat) : Int) := by rw [Int.tmod_eq_emod_of_nonneg (by omega)]; omega
        simp only [s_spec_l1Crc_l3, w1, w2, w3, crc1]
        rw [show decide ((i : Int) < 8) = true by simp; omega]
        rw [show (4129 : Int) = ((4129 : Nat) : Int) from rfl, xorN (Nat.mod_lt _ (by decide)) (by decide)]
        cases decide ((s : Int) ≥ 32768) <;> rfl)
      (fun s _ => crc1_lt s) (fun s _ => by simp only [s_spec_l1Crc_l3]; rfl) 8 0 s rfl hs
  have hx : c ^^^ b * 256 < 65536 := Nat.xor_lt_two_pow (n := 16) hc (by omega)
  simp only [F_spec_l1Crc, hs]
  rw [xorN hc (by omega), hl _ hx]
  rfl

theorem p_spec_l1Sum (l : Li) (hw : allW l) (hm : l.length ≤ maxLen) : F_spec_l1Sum l = some ((((sumW l : Nat) : Int), ()), (), ()) := by
  have hl : l_spec_l1Sum_l3 ((l, (((65535 : Nat) : Int), ((0 : Int), ()))), (), ()) = some ((((sumW l : Nat) : Int), ()), (), ()) :=
    lim_foldl (step := s_spec_l1Sum_l3) l (fun (i : Nat) (s : Nat) => ((l, ((s : Int), ((i : Int), ()))), (), ())) crcW (fun (s : Nat) => (((s : Int), ()), (), ())) (fun (s : Nat) => s < 65536)
      (fun i s d hs hg => by
        have hlt := lt_of_get hg
        obtain ⟨a, ha, rfl⟩ := isW_nat (hw d (List.mem_of_getElem? hg))
        have w1 : IntKind.wrap .i64 (Int.tdiv (a : Int) 256) = ((a / 256 : Nat) : Int) := by rw [Int.tdiv_eq_ediv_of_nonneg (by omega), wrap_id (by omega) (by omega)]; omega
        have w2 : Int.tmod (a : Int) 256 = ((a % 256 : Nat) : Int) := by rw [Int.tmod_eq_emod_of_nonneg (by omega)]; omega
        refine ⟨?_, crcB_lt _ _⟩
        simp only [s_spec_l1Sum_l3, dec_lt hlt, cond_true, ib_nat hlt, Int.toNat_natCast, getD_of hg, wrap_succ hlt hm, w1, w2, p_spec_l1Crc s (a / 256) hs (by omega), p_spec_l1Crc (crcB s (a / 256)) (a % 256) (crcB_lt _ _) (by omega), Option.bind_some, crcW])
      (fun s _ => by simp only [s_spec_l1Sum_l3, dec_self, cond_false]) 65535 (by decide)
  have hl' : l_spec_l1Sum_l3 ((l, ((65535 : Int), ((0 : Int), ()))), (), ()) = _ := hl
  simp only [F_spec_l1Sum, hl', Option.bind_some]

theorem p_spec_l1Min (x y : Int) : F_spec_l1Min x y = some ((min x y, ()), (), ()) := by
  unfold F_spec_l1Min
  cases h : decide (x < y)
  · have := of_decide_eq_false h
    rw [show min x y = y by omega]; rfl
  · have := of_decide_eq_true h
    rw [show min x y = x by omega]; rfl

theorem p_spec_l1Blocks (l : Li) (hw : allW l) (h4 : l.length ≤ 400) : F_spec_l1Blocks l = some ((), (), (sums l, ())) := by
  have hm : ∀ j, (blk l j).length ≤ maxLen := fun j => by simp only [blk, maxLen, List.length_drop, List.length_take]; omega
  have hl : l_spec_l1Blocks_l3 ((l, (((0 * 8 : Nat) : Int), ())), (), ([], ())) = some ((), (), (sums l, ())) :=
    lim_app (step := s_spec_l1Blocks_l3) (List.range (nblk l)) (fun j => ((sumW (blk l j) : Nat) : Int)) (fun i acc => ((l, (((i * 8 : Nat) : Int), ())), (), (acc, ()))) ((), (), (sums l, ()))
      (fun i acc d hn hi hg => by
        obtain ⟨rfl, hlt⟩ := range_get hg
        have hk : d * 8 < l.length := by unfold nblk at hlt; omega
        have w1 : IntKind.wrap .i64 (((d * 8 : Nat) : Int) + 8) = ((d * 8 + 8 : Nat) : Int) := by rw [wrap_id (by omega) (by omega)]; omega
        have w2 : min (l.length : Int) ((d * 8 + 8 : Nat) : Int) = ((min (d * 8 + 8) l.length : Nat) : Int) := by omega
        simp only [s_spec_l1Blocks_l3, w1, p_spec_l1Min, w2, Option.bind_some, Int.toNat_natCast]
        rw [show decide (((d * 8 : Nat) : Int) < (l.length : Int)) = true from decide_eq_true (by omega)]
        rw [show decide ((0 : Int) ≤ ((d * 8 : Nat) : Int) ∧ ((d * 8 : Nat) : Int) ≤ ((min (d * 8 + 8) l.length : Nat) : Int) ∧ ((min (d * 8 + 8) l.length : Nat) : Int) ≤ (l.length : Int)) = true from decide_eq_true (by omega)]
        have hs := p_spec_l1Sum (blk l d) (allW_blk hw d) (hm d)
        simp only [blk] at hs
        rw [hs]
        simp only [cond_true, Option.bind_some]
        rw [room8n _ (by simp; omega)]
        rw [show (d + 1) * 8 = d * 8 + 8 by omega]
        rfl)
      (by
        have hk : ¬ (((nblk l * 8 : Nat) : Int) < (l.length : Int)) := by unfold nblk; omega
        simp only [s_spec_l1Blocks_l3, List.length_range, decide_eq_false hk, cond_false]; rfl)
  have hl' : l_spec_l1Blocks_l3 ((l, ((0 : Int), ())), (), ([], ())) = _ := hl
  simp only [F_spec_l1Blocks, hl', Option.bind_some]

theorem p_spec_l12Fault (b : Bd) (h : BdB b maxLen) : F_spec_l12Fault b = some ((bdFault b, ()), (), ()) := by
  have h6 : l_spec_l12Fault_l6 ((b, ((0 : Int), ())), (), ()) = _ :=
    lim_any (step := s_spec_l12Fault_l6) b.2.1 (fun i => ((b, ((i : Int), ())), (), ())) (fun p => !cellOk b.1 p.1) (.inr (((3 : Int), ()), (), ())) (.inl ((b, ()), (), ()))
      (fun i d hg => by
        have hlt := lt_of_get hg
        simp only [s_spec_l12Fault_l6, dec_lt hlt, cond_true, ib_nat hlt, Int.toNat_natCast, getD_of hg, wrap_succ hlt h.a, p_spec_l12Cell, Option.bind_some]
        cases cellOk b.1 d.1 <;> rfl)
      (by simp only [s_spec_l12Fault_l6, dec_self, cond_false])
  have h11 : l_spec_l12Fault_l11 ((b, ((0 : Int), ())), (), ()) = _ :=
    lim_any (step := s_spec_l12Fault_l11) b.2.2.1 (fun i => ((b, ((i : Int), ())), (), ())) (fun x => !cellOk b.1 x) (.inr (((3 : Int), ()), (), ())) (.inl ((b, ()), (), ()))
      (fun i d hg => by
        have hlt := lt_of_get hg
        simp only [s_spec_l12Fault_l11, dec_lt hlt, cond_true, ib_nat hlt, Int.toNat_natCast, getD_of hg, wrap_succ hlt h.b, p_spec_l12Cell, Option.bind_some]
        cases cellOk b.1 d <;> rfl)
      (by simp only [s_spec_l12Fault_l11, dec_self, cond_false])
  simp only [F_spec_l12Fault, p_spec_l1In, Option.bind_some, bdFault, h6]
  simp only [show ∀ x a b : Int, (decide (a ≤ x) && decide (x ≤ b)) = inI x a b from fun _ _ _ => rfl]
  cases inI b.1 0 80
  · rfl
  cases inI b.2.2.2.2.2.2.2.1 0 20000
  · rfl
  cases inI b.2.2.2.2.2.2.2.2 0 20000
  · rfl
  simp only [Bool.not_true, Bool.or_self, cond_false, Option.bind_some]
  cases decide ((b.2.1.length : Int) > 24)
  case true => rfl
  cases decide ((b.2.2.1.length : Int) > 60)
  case true => rfl
  simp only [Bool.or_self, cond_false, Option.bind_some]
  cases b.2.1.any (fun p => !cellOk b.1 p.1)
  case true => rfl
  simp only [cond_false, h11, Option.bind_some]
  cases b.2.2.1.any (fun x => !cellOk b.1 x)
  case true => rfl
  simp only [cond_false, p_spec_WordsFault _ h.c, p_spec_WordsFault _ h.d, Option.bind_some]
  cases hc : (wf b.2.2.2.1 != 0)
  case true => rfl
  cases hd : (wf b.2.2.2.2.1 != 0)
  case true => rfl
  obtain ⟨c1, c2⟩ := wf_allW hc
  obtain ⟨d1, d2⟩ := wf_allW hd
  simp only [cond_false, p_spec_l1Blocks _ c1 c2, p_spec_l1Blocks _ d1 d2, p_spec_l12Same _ _ h.e, p_spec_l12Same _ _ h.f, Option.bind_some]
  cases (b.2.2.2.2.2.1 == sums b.2.2.2.1)
  · rfl
  cases (b.2.2.2.2.2.2.1 == sums b.2.2.2.2.1) <;> rfl

theorem p_impl_BuildFault_f1 (x n : Int) (a : List Pt) (b c d e f : Li) (g i : Int) : F_impl_BuildFault_f1 x n a b c d e f g i = some ((cellOk n x, ()), ((n, (a, (b, (c, (d, (e, (f, (g, (i, ()))))))))), ()), ()) := by
  simp only [F_impl_BuildFault_f1, p_impl_within, Option.bind_some, cellOk]

theorem p_impl_BuildFault_f2 (x : Pt) (n : Int) (a : List Pt) (b c d e f : Li) (g i : Int) : F_impl_BuildFault_f2 x n a b c d e f g i = some ((!cellOk n x.1, ()), ((), ((n, (a, (b, (c, (d, (e, (f, (g, (i, ()))))))))), ())), ()) := by
  simp only [F_impl_BuildFault_f2, p_impl_BuildFault_f1, Option.bind_some]

theorem p_slices_IndexFunc_Port (l : List Pt) (hm : l.length ≤ maxLen) (n : Int) (a : List Pt) (b c d e f : Li) (g i : Int) :
    ∃ r : Int, decide (r ≥ 0) = l.any (fun p => !cellOk n p.1) ∧ F_slices_IndexFunc_Port l n a b c d e f g i = some ((r, ()), ((), ((n, (a, (b, (c, (d, (e, (f, (g, (i, ()))))))))), ())), ()) := by
  have hl := lim_idx (step := s_slices_IndexFunc_Port_l2) l (fun j => ((l, ((l.length : Int), ((j : Int), ()))), ((), ((n, (a, (b, (c, (d, (e, (f, (g, (i, ()))))))))), ())), ())) (fun p => !cellOk n p.1)
    (fun j => .inr (((j : Int), ()), ((), ((n, (a, (b, (c, (d, (e, (f, (g, (i, ()))))))))), ())), ())) (.inl ((), ((), ((n, (a, (b, (c, (d, (e, (f, (g, (i, ()))))))))), ())), ()))
    (fun j d hg => by
      have hlt := lt_of_get hg
      simp only [s_slices_IndexFunc_Port_l2, dec_lt hlt, cond_true, ib_nat hlt, Int.toNat_natCast, getD_of hg, wrap_succ hlt hm, p_impl_BuildFault_f2, Option.bind_some]
      cases cellOk n d.1 <;> rfl)
    (by simp only [s_slices_IndexFunc_Port_l2, dec_self, cond_false])
  rcases hl with ⟨j, h1, h2⟩ | ⟨h1, h2⟩
  · have h2' : l_slices_IndexFunc_Port_l2 ((l, ((l.length : Int), ((0 : Int), ()))), ((), ((n, (a, (b, (c, (d, (e, (f, (g, (i, ()))))))))), ())), ()) = _ := h2
    exact ⟨j, by rw [h1]; simp, by simp only [F_slices_IndexFunc_Port, h2', Option.bind_some]⟩
  · have h2' : l_slices_IndexFunc_Port_l2 ((l, ((l.length : Int), ((0 : Int), ()))), ((), ((n, (a, (b, (c, (d, (e, (f, (g, (i, ()))))))))), ())), ()) = _ := h2
    exact ⟨-1, by rw [h1]; simp, by simp only [F_slices_IndexFunc_Port, h2', Option.bind_some]⟩

theorem p_slices_ContainsFunc_Port (l : List Pt) (hm : l.length ≤ maxLen) (n : Int) (a : List Pt) (b c d e f : Li) (g i : Int) :
    F_slices_ContainsFunc_Port l n a b c d e f g i = some ((l.any (fun p => !cellOk n p.1), ()), ((), ((n, (a, (b, (c, (d, (e, (f, (g, (i, ()))))))))), ())), ()) := by
  obtain ⟨r, h1, h2⟩ := p_slices_IndexFunc_Port l hm n a b c d e f g i
  simp only [F_slices_ContainsFunc_Port, h2, Option.bind_some, h1]

theorem p_impl_BuildFault_f3 (x : Int) (n : Int) (a : List Pt) (b c d e f : Li) (g i : Int) : F_impl_BuildFault_f3 x n a b c d e f g i = some ((!cellOk n x, ()), ((), ((n, (a, (b, (c, (d, (e, (f, (g, (i, ()))))))))), ())), ()) := by
  simp only [F_impl_BuildFault_f3, p_impl_BuildFault_f1, Option.bind_some]

theorem p_slices_IndexFunc_int64 (l : Li) (hm : l.length ≤ maxLen) (n : Int) (a : List Pt) (b c d e f : Li) (g i : Int) :
    ∃ r : Int, decide (r ≥ 0) = l.any (fun x => !cellOk n x) ∧ F_slices_IndexFunc_int64 l n a b c d e f g i = some ((r, ()), ((), ((n, (a, (b, (c, (d, (e, (f, (g, (i, ()))))))))), ())), ()) := by
  have hl := lim_idx (step := s_slices_IndexFunc_int64_l2) l (fun j => ((l, ((l.length : Int), ((j : Int), ()))), ((), ((n, (a, (b, (c, (d, (e, (f, (g, (i, ()))))))))), ())), ())) (fun x => !cellOk n x)
    (fun j => .inr (((j : Int), ()), ((), ((n, (a, (b, (c, (d, (e, (f, (g, (i, ()))))))))), ())), ())) (.inl ((), ((), ((n, (a, (b, (c, (d, (e, (f, (g, (i, ()))))))))), ())), ()))
    (fun j d hg => by
      have hlt := lt_of_get hg
      simp only [s_slices_IndexFunc_int64_l2, dec_lt hlt, cond_true, ib_nat hlt, Int.toNat_natCast, getD_of hg, wrap_succ hlt hm, p_impl_BuildFault_f3, Option.bind_some]
      cases cellOk n d <;> rfl)
    (by simp only [s_slices_IndexFunc_int64_l2, dec_self, cond_false])
  rcases hl with ⟨j, h1, h2⟩ | ⟨h1, h2⟩
  · have h2' : l_slices_IndexFunc_int64_l2 ((l, ((l.length : Int), ((0 : Int), ()))), ((), ((n, (a, (b, (c, (d, (e, (f, (g, (i, ()))))))))), ())), ()) = _ := h2
    exact ⟨j, by rw [h1]; simp, by simp only [F_slices_IndexFunc_int64, h2', Option.bind_some]⟩
  · have h2' : l_slices_IndexFunc_int64_l2 ((l, ((l.length : Int), ((0 : Int), ()))), ((), ((n, (a, (b, (c, (d, (e, (f, (g, (i, ()))))))))), ())), ()) = _ := h2
    exact ⟨-1, by rw [h1]; simp, by simp only [F_slices_IndexFunc_int64, h2', Option.bind_some]⟩

theorem p_slices_ContainsFunc_int64 (l : Li) (hm : l.length ≤ maxLen) (n : Int) (a : List Pt) (b c d e f : Li) (g i : Int) :
    F_slices_ContainsFunc_int64 l n a b c d e f g i = some ((l.any (fun x => !cellOk n x), ()), ((), ((n, (a, (b, (c, (d, (e, (f, (g, (i, ()))))))))), ())), ()) := by
  obtain ⟨r, h1, h2⟩ := p_slices_IndexFunc_int64 l hm n a b c d e f g i
  simp only [F_slices_ContainsFunc_int64, h2, Option.bind_some, h1]

theorem p_impl_crcByte (c b : Nat) (hc : c < 65536) (hb : b < 256) : F_impl_crcByte (c : Int) (b : Int) = some ((((crcB c b : Nat) : Int), ()), (), ()) := by
  have hs : IntKind.wrap .i64 ((256 : Int) * (b : Int)) = ((b * 256 : Nat) : Int) := by
    rw [wrap_id (by omega) (by omega)]; omega
  have hl : ∀ s : Nat, s < 65536 → l_impl_crcByte_l3 (((s : Int), ((0 : Int), ())), (), ()) = some ((((Nat.repeat crc1 8 s : Nat) : Int), ()), (), ()) := fun s hs =>
    lim_count (step := s_impl_crcByte_l3) 8 (fun (i : Nat) (s : Nat) => (((s : Int), ((i : Int), ())), (), ())) crc1 (fun (s : Nat) => (((s : Int), ()), (), ())) (fun (s : Nat) => s < 65536)
      (fun i s hi hs => by
        have w1 : IntKind.wrap .i64 ((2 : Int) * (s : Int)) = ((2 * s : Nat) : Int) := by rw [wrap_id (by omega) (by omega)]; omega
        have w2 : IntKind.wrap .i64 ((i : Int) + 1) = ((i + 1 : Nat) : Int) := by rw [wrap_id (by omega) (by omega)]; omega
        have w3 : IntKind.wrap .i64 (IntKind.wrap .u16 ((2 * s : Nat) : Int)) = ((2 * s % 65536 : Nat) : Int) := by rw [wrap_u16, wrap_id (by omega) (by omega)]; omega
        simp only [s_impl_crcByte_l3, w1, w2, u16_eq, w3, crc1]
        rw [show decide ((i : Int) < 8) = true by simp; omega]
        rw [show (32768 : Int) = ((32768 : Nat) : Int) from rfl, andN hs (by decide), and15 hs]
        rw [show (4129 : Int) = ((4129 : Nat) : Int) from rfl, xorN (Nat.mod_lt _ (by decide)) (by decide)]
        rw [show ((32768 : Nat) : Int) = (32768 : Int) from rfl]
        cases decide ((s : Int) ≥ 32768) <;> rfl)
      (fun s _ => crc1_lt s) (fun s _ => by simp only [s_impl_crcByte_l3]; rfl) 8 0 s rfl hs
  have hx : c ^^^ b * 256 < 65536 := Nat.xor_lt_two_pow (n := 16) hc (by omega)
  simp only [F_impl_crcByte, hs]
  rw [xorN hc (by omega), hl _ hx]
  rfl

theorem p_impl_crc (l : Li) (hw : allW l) (hm : l.length ≤ maxLen) : F_impl_crc l = some ((((sumW l : Nat) : Int), ()), (), ()) := by
  have hl : l_impl_crc_l3 ((((65535 : Nat) : Int), (l, ((l.length : Int), ((0 : Int), ())))), (), ()) = some ((((sumW l : Nat) : Int), ()), (), ()) :=
    lim_foldl (step := s_impl_crc_l3) l (fun (i : Nat) (s : Nat) => (((s : Int), (l, ((l.length : Int), ((i : Int), ())))), (), ())) crcW (fun (s : Nat) => (((s : Int), ()), (), ())) (fun (s : Nat) => s < 65536)
      (fun i s d hs hg => by
        have hlt := lt_of_get hg
        obtain ⟨a, ha, rfl⟩ := isW_nat (hw d (List.mem_of_getElem? hg))
        have w1 : Int.fdiv (a : Int) (2 ^ min (Int.toNat (8 : Int)) (IntKind.bits .i64)) = ((a / 256 : Nat) : Int) := by
          rw [show (2 : Int) ^ min (Int.toNat (8 : Int)) (IntKind.bits .i64) = 256 by decide, Int.fdiv_eq_ediv_of_nonneg _ (by decide)]; omega
        have w2 : IntKind.wrap .i64 (((BitVec.ofInt (IntKind.bits .i64) (a : Int) &&& BitVec.ofInt (IntKind.bits .i64) (255 : Int)).toNat : Int)) = ((a % 256 : Nat) : Int) := by
          rw [show (255 : Int) = ((255 : Nat) : Int) from rfl, andN ha (by decide), show (255 : Nat) = 2 ^ 8 - 1 from rfl, Nat.and_two_pow_sub_one_eq_mod]
        refine ⟨?_, crcB_lt _ _⟩
        simp only [s_impl_crc_l3, dec_lt hlt, cond_true, ib_nat hlt, Int.toNat_natCast, getD_of hg, wrap_succ hlt hm, w1, w2, p_impl_crcByte s (a / 256) hs (by omega), p_impl_crcByte (crcB s (a / 256)) (a % 256) (crcB_lt _ _) (by omega), Option.bind_some, crcW])
      (fun s _ => by simp only [s_impl_crc_l3, dec_self, cond_false]) 65535 (by decide)
  have hl' : l_impl_crc_l3 (((65535 : Int), (l, ((l.length : Int), ((0 : Int), ())))), (), ()) = _ := hl
  simp only [F_impl_crc, hl', Option.bind_some]

theorem p_impl_blocks (l : Li) (h4 : l.length ≤ 400) : F_impl_blocks l = some ((), (), ((List.range (nblk l)).map (blk l), ())) := by
  have hl : l_impl_blocks_l3 ((l, (((0 * 8 : Nat) : Int), ())), (), ([], ())) = some ((), (), ((List.range (nblk l)).map (blk l), ())) :=
    lim_app (step := s_impl_blocks_l3) (List.range (nblk l)) (blk l) (fun i acc => ((l, (((i * 8 : Nat) : Int), ())), (), (acc, ()))) ((), (), ((List.range (nblk l)).map (blk l), ()))
      (fun i acc d hn hi hg => by
        obtain ⟨rfl, hlt⟩ := range_get hg
        have hk : d * 8 < l.length := by unfold nblk at hlt; omega
        have w1 : IntKind.wrap .i64 (((d * 8 : Nat) : Int) + 8) = ((d * 8 + 8 : Nat) : Int) := by rw [wrap_id (by omega) (by omega)]; omega
        have w2 : mn ((d * 8 + 8 : Nat) : Int) (l.length : Int) = ((min (d * 8 + 8) l.length : Nat) : Int) := by unfold mn; split <;> omega
        simp only [s_impl_blocks_l3, w1, w2, Int.toNat_natCast]
        rw [show decide (((d * 8 : Nat) : Int) < (l.length : Int)) = true from decide_eq_true (by omega)]
        rw [show decide ((0 : Int) ≤ ((d * 8 : Nat) : Int) ∧ ((d * 8 : Nat) : Int) ≤ ((min (d * 8 + 8) l.length : Nat) : Int) ∧ ((min (d * 8 + 8) l.length : Nat) : Int) ≤ (l.length : Int)) = true from decide_eq_true (by omega)]
        simp only [cond_true]
        rw [room24n _ (by simp; omega)]
        rw [show d * 8 + 8 = (d + 1) * 8 by omega]
        simp only [cond_true, blk]
        rw [show d * 8 + 8 = (d + 1) * 8 by omega])
      (by
        have hk : ¬ (((nblk l * 8 : Nat) : Int) < (l.length : Int)) := by unfold nblk; omega
        simp only [s_impl_blocks_l3, List.length_range, decide_eq_false hk, cond_false])
  have hl' : l_impl_blocks_l3 ((l, ((0 : Int), ())), (), ([], ())) = _ := hl
  simp only [F_impl_blocks, hl', Option.bind_some]

theorem p_impl_blockSums (l : Li) (hw : allW l) (h4 : l.length ≤ 400) : F_impl_blockSums l = some ((), (), (sums l, ())) := by
  have hn : ((List.range (nblk l)).map (blk l)).length ≤ 400 := by simp only [List.length_map, List.length_range, nblk]; omega
  have hm : ((List.range (nblk l)).map (blk l)).length ≤ maxLen := by simp only [maxLen]; omega
  generalize hq : (List.range (nblk l)).map (blk l) = q at hn hm
  have hs : sums l = q.map fun b => ((sumW b : Nat) : Int) := by rw [← hq, List.map_map]; rfl
  have hl : l_impl_blockSums_l3 ((((q.length : Nat) : Int), ((0 : Int), ())), (), ([], (q, ()))) = some ((), (), (sums l, ())) := by
    rw [hs]
    exact lim_app (step := s_impl_blockSums_l3) q (fun b => ((sumW b : Nat) : Int)) (fun i acc => ((((q.length : Nat) : Int), ((i : Int), ())), (), (acc, (q, ())))) ((), (), (q.map fun b => ((sumW b : Nat) : Int), ()))
      (fun i acc d hn hi hg => by
        have hlt := lt_of_get hg
        have hd : ∃ j, blk l j = d := by
          have := List.mem_of_getElem? hg
          rw [← hq, List.mem_map] at this
          obtain ⟨j, _, h⟩ := this
          exact ⟨j, h⟩
        obtain ⟨j, hj⟩ := hd
        have hdw : allW d := hj ▸ allW_blk hw j
        have hdl : d.length ≤ maxLen := by rw [← hj]; simp only [blk, maxLen, List.length_drop, List.length_take]; omega
        simp only [s_impl_blockSums_l3, dec_lt hlt, cond_true, ib_nat hlt, Int.toNat_natCast, getD_of hg, wrap_succ hlt hm, p_impl_crc d hdw hdl, Option.bind_some]
        rw [room8n _ (by simp; omega)]; rfl)
      (by simp only [s_impl_blockSums_l3, dec_self, cond_false])
  simp only [F_impl_blockSums, p_impl_blocks l h4, hq, hl, Option.bind_some]

theorem p_impl_BuildFault (b : Bd) (h : BdB b maxLen) : F_impl_BuildFault b = some ((bdFault b, ()), (), ()) := by
  have hl : l_impl_BuildFault_l9 (((([b.2.2.2.1, b.2.2.2.2.1]).length : Int), ((0 : Int), ())), ((b.1, (b.2.1, (b.2.2.1, (b.2.2.2.1, (b.2.2.2.2.1, (b.2.2.2.2.2.1, (b.2.2.2.2.2.2.1, (b.2.2.2.2.2.2.2.1, (b.2.2.2.2.2.2.2.2, ()))))))))), ()), ([b.2.2.2.1, b.2.2.2.2.1], ())) =
      some (bif wf b.2.2.2.1 != 0 then .inr ((wf b.2.2.2.1, ()), (), ()) else bif wf b.2.2.2.2.1 != 0 then .inr ((wf b.2.2.2.2.1, ()), (), ()) else .inl ((), ((b.1, (b.2.1, (b.2.2.1, (b.2.2.2.1, (b.2.2.2.2.1, (b.2.2.2.2.2.1, (b.2.2.2.2.2.2.1, (b.2.2.2.2.2.2.2.1, (b.2.2.2.2.2.2.2.2, ()))))))))), ()), ())) := by
    have w1 : IntKind.wrap .i64 ((0 : Int) + 1) = 1 := by decide
    have w2 : IntKind.wrap .i64 ((1 : Int) + 1) = 2 := by decide
    unfold l_impl_BuildFault_l9
    rw [lim_eq]
    simp only [s_impl_BuildFault_l9, List.length_cons, List.length_nil]
    rw [show decide ((0 : Int) < ((0 + 1 + 1 : Nat) : Int)) = true by decide, show ib (0 : Int) (0 + 1 + 1) = true by decide]
    simp only [cond_true, show (Int.toNat (0 : Int)) = 0 from rfl, List.getD_cons_zero, p_impl_WordsFault _ h.c, Option.bind_some, w1]
    cases (wf b.2.2.2.1 != 0)
    · simp only [cond_false]
      rw [lim_eq]
      simp only [s_impl_BuildFault_l9, List.length_cons, List.length_nil]
      rw [show decide ((1 : Int) < ((0 + 1 + 1 : Nat) : Int)) = true by decide, show ib (1 : Int) (0 + 1 + 1) = true by decide]
      simp only [cond_true, show (Int.toNat (1 : Int)) = 1 from rfl, List.getD_cons_succ, List.getD_cons_zero, p_impl_WordsFault _ h.d, Option.bind_some, w2]
      cases (wf b.2.2.2.2.1 != 0)
      · simp only [cond_false]
        rw [lim_eq]
        simp only [s_impl_BuildFault_l9]
        rw [show decide ((2 : Int) < ((0 + 1 + 1 : Nat) : Int)) = false by decide]
        rfl
      · rfl
    · rfl
  simp only [F_impl_BuildFault, p_impl_within, Option.bind_some, bdFault, p_slices_ContainsFunc_Port _ h.a, p_slices_ContainsFunc_int64 _ h.b, hl]
  simp only [show ∀ x a b : Int, (decide (a ≤ x) && decide (x ≤ b)) = inI x a b from fun _ _ _ => rfl]
  cases inI b.1 0 80
  · rfl
  cases inI b.2.2.2.2.2.2.2.1 0 20000
  · rfl
  cases inI b.2.2.2.2.2.2.2.2 0 20000
  · rfl
  simp only [Bool.not_true, Bool.or_self, cond_false, Option.bind_some]
  cases decide ((b.2.1.length : Int) > 24)
  case true => rfl
  cases decide ((b.2.2.1.length : Int) > 60)
  case true => rfl
  simp only [Bool.or_self, cond_false, Option.bind_some]
  cases b.2.1.any (fun p => !cellOk b.1 p.1)
  case true => rfl
  cases b.2.2.1.any (fun x => !cellOk b.1 x)
  case true => rfl
  cases hc : (wf b.2.2.2.1 != 0)
  case true => rfl
  cases hd : (wf b.2.2.2.2.1 != 0)
  case true => rfl
  obtain ⟨c1, c2⟩ := wf_allW hc
  obtain ⟨d1, d2⟩ := wf_allW hd
  simp only [cond_false, p_impl_blockSums _ c1 c2, p_impl_blockSums _ d1 d2, p_slices_Equal_int64 _ _ h.e, p_slices_Equal_int64 _ _ h.f, Option.bind_some]
  cases (b.2.2.2.2.2.1 == sums b.2.2.2.1)
  · rfl
  cases (b.2.2.2.2.2.2.1 == sums b.2.2.2.2.1) <;> rfl

def iotaP (n : Int) (k : Nat) : List Pt := (List.range k).map fun (i : Nat) => (n + 2 * (i : Int), (Int.tmod (n + 2 * (i : Int) + 1) 3 == 0))
theorem iotaP_get {n : Int} {k i : Nat} {d : Pt} (h : (iotaP n k)[i]? = some d) : d = (n + 2 * (i : Int), (Int.tmod (n + 2 * (i : Int) + 1) 3 == 0)) := by
  simp only [iotaP, List.getElem?_map] at h
  cases h' : (List.range k)[i]? with
  | none => rw [h'] at h; cases h
  | some j =>
    rw [h'] at h
    obtain ⟨rfl, _⟩ := range_get h'
    simp only [Option.map_some, Option.some.injEq] at h
    exact h.symm
theorem iotaP_len (n : Int) (k : Nat) : (iotaP n k).length = k := by simp [iotaP]
theorem getD_set {α : Type} (l : List α) (i : Nat) (v z : α) (h : i < l.length) : (l.set i v).getD i z = v := by
  rw [List.getD_eq_getElem?_getD, List.getElem?_set_self h]; rfl
def IsI (n : Int) (y : Li) (m : Int) : Prop := ∃ k : Nat, k ≤ 1048576 ∧ y = iota n k ∧ m = n + (k : Int)
def IsP (n : Int) (y : List Pt) (m : Int) : Prop := ∃ k : Nat, k ≤ 1048576 ∧ y = iotaP n k ∧ m = n + 2 * (k : Int)
def BdM (n : Int) (y0 : List Pt) (y1 y2 y3 y4 y5 : Li) (m : Int) : Prop := ∃ m1 m2 m3 m4 m5, IsP n y0 m1 ∧ IsI m1 y1 m2 ∧ IsI m2 y2 m3 ∧ IsI m3 y3 m4 ∧ IsI m4 y4 m5 ∧ IsI m5 y5 m
def ChM (n : Int) (y1 y2 y3 : Li) (m : Int) : Prop := ∃ m1 m2, IsI n y1 m1 ∧ IsI m1 y2 m2 ∧ IsI m2 y3 m
theorem IsI.le {n m : Int} {y : Li} (h : IsI n y m) : n ≤ m ∧ m ≤ n + 1048576 := by obtain ⟨k, h1, _, rfl⟩ := h; omega
theorem IsP.le {n m : Int} {y : List Pt} (h : IsP n y m) : n ≤ m ∧ m ≤ n + 2097152 := by obtain ⟨k, h1, _, rfl⟩ := h; omega
theorem BdM.le {n m : Int} {y0 : List Pt} {y1 y2 y3 y4 y5 : Li} (h : BdM n y0 y1 y2 y3 y4 y5 m) : n ≤ m ∧ m ≤ n + 8388608 := by
  obtain ⟨m1, m2, m3, m4, m5, a, b, c, d, e, f⟩ := h
  have := a.le; have := b.le; have := c.le; have := d.le; have := e.le; have := f.le
  omega
theorem ChM.le {n m : Int} {y1 y2 y3 : Li} (h : ChM n y1 y2 y3 m) : n ≤ m ∧ m ≤ n + 8388608 := by
  obtain ⟨m1, m2, a, b, c⟩ := h
  have := a.le; have := b.le; have := c.le
  omega
theorem m_int (n : Int) (l : Li) (h0 : 0 ≤ n) (h1 : n ≤ 1099511627776) (hl : l.length ≤ 1048576) : ∃ (m : Int) (y : Li), F_laws_markInt64S n l = some ((m, ()), (), (y, ())) ∧ IsI n y m :=
  ⟨_, _, p_laws_markInt64S n l h0 h1 hl, l.length, hl, rfl, rfl⟩

theorem m_laws_markPortS (n : Int) (l : List Pt) (h0 : 0 ≤ n) (h1 : n ≤ 1099511627776) (hl : l.length ≤ 1048576) :
    ∃ (m : Int) (y : List Pt), F_laws_markPortS n l = some ((m, ()), (), (y, ())) ∧ IsP n y m := by
  have hm : l.length ≤ maxLen := by simp only [maxLen]; omega
  have hk : l_laws_markPortS_l2 ((n, ((0 : Int), ())), (), (l, ())) = some ((n + 2 * (l.length : Int), ()), (), (iotaP n l.length, ())) := by
    have := lim_fill (step := s_laws_markPortS_l2) (fun i => (n + 2 * (i : Int), (Int.tmod (n + 2 * (i : Int) + 1) 3 == 0))) (fun i acc => ((n + 2 * (i : Int), ((i : Int), ())), (), (acc, ()))) (fun acc => ((n + 2 * (l.length : Int), ()), (), (acc, ()))) l
      (fun i acc hn hlt => by
        simp only [s_laws_markPortS_l2, hn, List.length_set, dec_lt hlt, cond_true, ib_nat hlt, Int.toNat_natCast, wrap_succ hlt hm, getD_set _ _ _ _ (show i < acc.length by omega), List.set_set]
        rw [wrap_id (x := n + 2 * (i : Int) + 1) (by omega) (by omega), wrap_id (x := n + 2 * (i : Int) + 1 + 1) (by omega) (by omega)]
        rw [show n + 2 * (i : Int) + 1 + 1 = n + 2 * ((i + 1 : Nat) : Int) by omega])
      (fun acc hn => by simp only [s_laws_markPortS_l2, hn, dec_self, cond_false])
    simp only [Int.natCast_zero, Int.mul_zero, Int.add_zero] at this
    exact this
  refine ⟨_, _, by simp only [F_laws_markPortS, hk, Option.bind_some], l.length, hl, rfl, rfl⟩

theorem m_laws_markBuild (a b c n : Int) (x0 : List Pt) (x1 x2 x3 x4 x5 : Li) (h0 : 0 ≤ n) (h1 : n ≤ 1073741824) (g0 : x0.length ≤ 1048576) (g1 : x1.length ≤ 1048576) (g2 : x2.length ≤ 1048576) (g3 : x3.length ≤ 1048576) (g4 : x4.length ≤ 1048576) (g5 : x5.length ≤ 1048576) :
    ∃ (m : Int) (y0 : List Pt) (y1 y2 y3 y4 y5 : Li), F_laws_markBuild a b c n x0 x1 x2 x3 x4 x5 = some ((m, ()), (), (y0, (y1, (y2, (y3, (y4, (y5, ()))))))) ∧ BdM n y0 y1 y2 y3 y4 y5 m := by
  obtain ⟨m1, y0, e0, i0⟩ := m_laws_markPortS n x0 h0 (by omega) g0
  have := i0.le
  obtain ⟨m2, y1, e1, i1⟩ := m_int m1 x1 (by omega) (by omega) g1
  have := i1.le
  obtain ⟨m3, y2, e2, i2⟩ := m_int m2 x2 (by omega) (by omega) g2
  have := i2.le
  obtain ⟨m4, y3, e3, i3⟩ := m_int m3 x3 (by omega) (by omega) g3
  have := i3.le
  obtain ⟨m5, y4, e4, i4⟩ := m_int m4 x4 (by omega) (by omega) g4
  have := i4.le
  obtain ⟨m6, y5, e5, i5⟩ := m_int m5 x5 (by omega) (by omega) g5
  exact ⟨m6, y0, y1, y2, y3, y4, y5, by simp only [F_laws_markBuild, e0, e1, e2, e3, e4, e5, Option.bind_some], m1, m2, m3, m4, m5, i0, i1, i2, i3, i4, i5⟩

theorem p_spec_l2Bit (x : Bool) : F_spec_l2Bit x = some (((bif x then 1 else 0 : Int), ()), (), ()) := by
  unfold F_spec_l2Bit
  cases x <;> rfl

theorem p_impl_flag (x : Bool) : F_impl_flag x = some (((bif x then 1 else 0 : Int), ()), (), ()) := by
  unfold F_impl_flag
  cases x <;> rfl

def isWd (x : Int) : Prop := 0 ≤ x ∧ x ≤ 65535
def wdo (x : Int) : Int := x % 65536
def sgn (x : Int) : Int := if 32768 ≤ x % 65536 then x % 65536 - 65536 else x % 65536
theorem wdo_isWd (x : Int) : isWd (wdo x) := by unfold isWd wdo; omega
theorem wdo_id {x : Int} (h : isWd x) : wdo x = x := by unfold isWd at h; unfold wdo; omega
theorem wrap_wdo (x : Int) : IntKind.wrap .i64 (IntKind.wrap .u16 x) = wdo x := by
  rw [wrap_u16, IntKind.wrap_i64]; unfold wdo; omega
theorem compl_eq (x : Int) : compl x = 65535 - wdo x := by
  unfold compl
  rw [wrap_wdo, IntKind.wrap_i64]; unfold wdo; omega
theorem compl_isWd (x : Int) : isWd (compl x) := by rw [compl_eq]; have := wdo_isWd x; unfold isWd at *; omega
theorem sgn_in (x : Int) : -32768 ≤ sgn x ∧ sgn x ≤ 32767 := by unfold sgn; split <;> omega
theorem wrap_i16 (x : Int) : IntKind.wrap .i64 (IntKind.wrap .i16 (IntKind.wrap .u16 x)) = sgn x := by
  rw [wrap_u16, IntKind.wrap_i64]
  have : IntKind.wrap .i16 (x % 65536) = sgn x := by
    simp only [IntKind.wrap, IntKind.bits, IntKind.signed, sgn]
    simp
  rw [this]
  have := sgn_in x
  omega

theorem p_spec_SignedOf (x : Int) : F_spec_SignedOf x = some ((sgn x, ()), (), ()) := by
  simp only [F_spec_SignedOf, wrap_i16]

theorem p_impl_SignedOf (x : Int) : F_impl_SignedOf x = some ((sgn x, ()), (), ()) := by
  simp only [F_impl_SignedOf, p_impl_WordOf, wrap_wdo, Option.bind_some]
  have h := wdo_isWd x
  unfold isWd at h
  by_cases h1 : 32768 ≤ x % 65536
  · rw [decide_eq_true (show wdo x ≥ 32768 by unfold wdo; omega)]
    rw [wrap_id (by omega) (by omega)]
    simp only [cond_true, sgn, if_pos h1, wdo]
  · rw [decide_eq_false (show ¬ wdo x ≥ 32768 by unfold wdo; omega)]
    simp only [cond_false, sgn, if_neg h1, wdo]

def negw (x : Int) : Int := wdo (0 - x)
theorem wdo_sub (x y : Int) : wdo (x - y) = wdo (wdo x - wdo y) := by unfold wdo; omega
theorem sgn_wdo (x : Int) : wdo (sgn x) = wdo x := by unfold sgn wdo; split <;> omega

theorem p_spec_NegOf (x : Int) : F_spec_NegOf x = some ((negw x, ()), (), ()) := by
  have h := sgn_in x
  simp only [F_spec_NegOf, p_spec_SignedOf, p_spec_WordOf, Option.bind_some, wrap_wdo]
  rw [wrap_id (by omega) (by omega)]
  unfold negw
  rw [wdo_sub, sgn_wdo, wdo_sub 0 x]

theorem p_impl_NegOf (x : Int) : F_impl_NegOf x = some ((negw x, ()), (), ()) := by
  have h := wdo_isWd x
  unfold isWd at h
  simp only [F_impl_NegOf, p_impl_WordOf, Option.bind_some, wrap_wdo]
  rw [wrap_id (by omega) (by omega)]
  unfold negw
  rw [wdo_sub, wdo_id (wdo_isWd x), wdo_sub 0 x]

def notw (x : Int) : Int := bif wdo x == 0 then 1 else 0

theorem p_spec_NotOf (x : Int) : F_spec_NotOf x = some ((notw x, ()), (), ()) := by
  simp only [F_spec_NotOf, p_spec_WordOf, Option.bind_some, wrap_wdo, notw]
  cases (wdo x == 0) <;> rfl

theorem p_impl_NotOf (x : Int) : F_impl_NotOf x = some ((notw x, ()), (), ()) := by
  simp only [F_impl_NotOf, p_impl_WordOf, p_impl_flag, Option.bind_some, wrap_wdo, notw]

def sigw (x y : Int) : Int := Int.tmod (IntKind.wrap .i64 (IntKind.wrap .i64 (IntKind.wrap .i64 (wdo x * 31) + wdo y) + 1)) 65521

theorem p_spec_SignOf (x y : Int) : F_spec_SignOf x y = some ((sigw x y, ()), (), ()) := by
  simp only [F_spec_SignOf, p_spec_WordOf, Option.bind_some, wrap_wdo, sigw]

theorem p_impl_SignOf (x y : Int) : F_impl_SignOf x y = some ((sigw x y, ()), (), ()) := by
  simp only [F_impl_SignOf, p_impl_WordOf, Option.bind_some, wrap_wdo, sigw]

theorem sigw_isWd (x y : Int) : isWd (sigw x y) := by
  have h1 := wdo_isWd x
  have h2 := wdo_isWd y
  unfold isWd at *
  unfold sigw
  rw [wrap_id (x := wdo x * 31) (by omega) (by omega), wrap_id (x := wdo x * 31 + wdo y) (by omega) (by omega), wrap_id (by omega) (by omega)]
  rw [Int.tmod_eq_emod_of_nonneg (by omega)]
  omega
/-- An op of two words: its code, its value. -/
def binw (op a b : Int) : Int × Int :=
  bif op == 1 then (0, wdo (a + b)) else
  bif op == 2 then (0, wdo (a - b)) else
  bif op == 3 then (0, wdo (a * b)) else
  bif op == 4 then (bif b == 0 then (4, 0) else (0, wdo (Int.tdiv (sgn a) (sgn b)))) else
  bif op == 5 then (bif b == 0 then (4, 0) else (0, wdo (Int.tmod (sgn a) (sgn b)))) else
  bif op == 6 then (0, ((a.toNat &&& b.toNat : Nat) : Int)) else
  bif op == 7 then (0, ((a.toNat ||| b.toNat : Nat) : Int)) else
  bif op == 8 then (0, ((a.toNat ^^^ b.toNat : Nat) : Int)) else
  bif op == 9 then (0, bif decide (sgn a < sgn b) then 1 else 0) else
  bif op == 10 then (0, bif a == b then 1 else 0) else (3, 0)
theorem wdo_add (x y : Int) : wdo (x + y) = wdo (wdo x + wdo y) := by unfold wdo; omega
theorem wdo_mul (x y : Int) : wdo (x * y) = wdo (wdo x * wdo y) := by unfold wdo; rw [Int.mul_emod]
theorem natW {a : Int} (h : isWd a) : ∃ n : Nat, n < 65536 ∧ a = (n : Int) := ⟨a.toNat, by unfold isWd at h; omega, by unfold isWd at h; omega⟩
theorem bv_nat {a : Nat} (h : a < 65536) : (BitVec.ofInt (IntKind.bits .i64) (a : Int)).toNat = a := by
  show (BitVec.ofInt 64 (a : Int)).toNat = a
  rw [BitVec.toNat_ofInt]; omega
theorem bvand {a b : Nat} (ha : a < 65536) (hb : b < 65536) : IntKind.wrap .i64 (((BitVec.ofInt (IntKind.bits .i64) (a : Int) &&& BitVec.ofInt (IntKind.bits .i64) (b : Int)).toNat : Int)) = ((a &&& b : Nat) : Int) ∧ (a &&& b) < 65536 := by
  have h : (a &&& b) < 65536 := Nat.and_lt_two_pow (n := 16) a hb
  rw [BitVec.toNat_and, bv_nat ha, bv_nat hb, wrap_id (by omega) (by omega)]
  exact ⟨rfl, h⟩
theorem bvor {a b : Nat} (ha : a < 65536) (hb : b < 65536) : IntKind.wrap .i64 (((BitVec.ofInt (IntKind.bits .i64) (a : Int) ||| BitVec.ofInt (IntKind.bits .i64) (b : Int)).toNat : Int)) = ((a ||| b : Nat) : Int) ∧ (a ||| b) < 65536 := by
  have h : (a ||| b) < 65536 := Nat.or_lt_two_pow (n := 16) ha hb
  rw [BitVec.toNat_or, bv_nat ha, bv_nat hb, wrap_id (by omega) (by omega)]
  exact ⟨rfl, h⟩
theorem bvxor {a b : Nat} (ha : a < 65536) (hb : b < 65536) : IntKind.wrap .i64 (((BitVec.ofInt (IntKind.bits .i64) (a : Int) ^^^ BitVec.ofInt (IntKind.bits .i64) (b : Int)).toNat : Int)) = ((a ^^^ b : Nat) : Int) ∧ (a ^^^ b) < 65536 := by
  have h : (a ^^^ b) < 65536 := Nat.xor_lt_two_pow (n := 16) ha hb
  rw [BitVec.toNat_xor, bv_nat ha, bv_nat hb, wrap_id (by omega) (by omega)]
  exact ⟨rfl, h⟩
theorem sgn_zero {b : Int} (h : isWd b) : (sgn b == 0) = (b == 0) := by
  unfold isWd at h
  unfold sgn
  split
  · rw [beq_eq_false_iff_ne.2 (by omega), beq_eq_false_iff_ne.2 (by omega)]
  · rw [show b % 65536 = b by omega]
theorem sgn_inj {a b : Int} (ha : isWd a) (hb : isWd b) : (sgn a == sgn b) = (a == b) := by
  unfold isWd at ha hb
  by_cases h : a = b
  · rw [h]; simp
  · rw [beq_eq_false_iff_ne.2 h, beq_eq_false_iff_ne]
    unfold sgn
    split <;> split <;> omega
theorem binw_isWd (op a b : Int) (ha : isWd a) (hb : isWd b) : isWd (binw op a b).2 := by
  obtain ⟨x, hx, rfl⟩ := natW ha
  obtain ⟨y, hy, rfl⟩ := natW hb
  have h1 := (bvand hx hy).2
  have h2 := (bvor hx hy).2
  have h3 := (bvxor hx hy).2
  unfold binw
  simp only [Int.toNat_natCast]
  repeat' (first | exact wdo_isWd _ | (cases h : (op == _) <;> simp only [cond_true, cond_false]) | (unfold isWd; omega) | (cases h : (_ == (0 : Int)) <;> simp only [cond_true, cond_false]))
  all_goals first | exact wdo_isWd _ | (unfold isWd; dsimp only; omega) | (unfold isWd; split <;> omega) | skip
  all_goals (unfold isWd; cases decide (sgn (x : Int) < sgn y) <;> cases ((x : Int) == y) <;> simp)

theorem p_impl_BinaryOf (op a b : Int) (ha : isWd a) (hb : isWd b) : F_impl_BinaryOf op a b = some ((((binw op a b).1, (binw op a b).2), ()), (), ()) := by
  have sa := sgn_in a
  have sb := sgn_in b
  have hz := sgn_zero hb
  have ea := wdo_id ha
  have eb := wdo_id hb
  have ia := ha
  have ib' := hb
  unfold isWd at ia ib'
  have hm : -9223372036854775808 ≤ a * b ∧ a * b ≤ 9223372036854775807 := by
    have h1 : 0 ≤ a * b := Int.mul_nonneg ia.1 ib'.1
    have h2 : a * b ≤ 65535 * 65535 := Int.mul_le_mul ia.2 ib'.2 ib'.1 (by omega)
    omega
  have hd : b ≠ 0 → -9223372036854775808 ≤ Int.tdiv (sgn a) (sgn b) ∧ Int.tdiv (sgn a) (sgn b) ≤ 9223372036854775807 := fun h0 => by
    have h1 := Int.natAbs_tdiv_le_natAbs (sgn a) (sgn b)
    omega
  unfold F_impl_BinaryOf binw
  simp only [p_impl_WordOf, p_impl_SignedOf, p_impl_flag, Option.bind_some, wrap_wdo, ea, eb]
  cases h1 : (op == 1)
  · cases h2 : (op == 2)
    · cases h3 : (op == 3)
      · cases h4 : (op == 4)
        · cases h5 : (op == 5)
          · obtain ⟨x, hx, rfl⟩ := natW ha
            obtain ⟨y, hy, rfl⟩ := natW hb
            have g1 := bvand hx hy
            have g2 := bvor hx hy
            have g3 := bvxor hx hy
            simp only [cond_false, Int.toNat_natCast, g1.1, g2.1, g3.1]
            have w : ∀ n : Nat, n < 65536 → wdo (n : Int) = n := fun n hn => wdo_id (by unfold isWd; omega)
            rw [w _ g1.2, w _ g2.2, w _ g3.2]
            cases (op == 6) <;> cases (op == 7) <;> cases (op == 8) <;> try rfl
            cases (op == 9)
            · cases (op == 10)
              · rfl
              · cases ((x : Int) == y) <;> rfl
            · cases decide (sgn (x : Int) < sgn y) <;> rfl
          · simp only [cond_true, cond_false, hz]
            cases hb0 : (b == 0) <;> rfl
        · have h5 : (op == 5) = false := by have := eq_of_beq h4; subst this; rfl
          simp only [cond_true, cond_false, hz, h5]
          cases hb0 : (b == 0)
          · have := hd (beq_eq_false_iff_ne.1 hb0)
            simp only [cond_false]
            rw [wrap_id this.1 this.2]
          · rfl
      · simp only [cond_true, cond_false]
        rw [wrap_id hm.1 hm.2]
    · simp only [cond_true, cond_false]
      rw [wrap_id (by omega) (by omega)]
  · simp only [cond_true]
    rw [wrap_id (by omega) (by omega)]

theorem p_spec_l2Binary (op a b : Int) (ha : isWd a) (hb : isWd b) : F_spec_l2Binary op a b = some (((binw op a b).2, ((binw op a b).1, ())), (), ()) := by
  have sa := sgn_in a
  have sb := sgn_in b
  have hz := sgn_zero hb
  have ea := wdo_id ha
  have eb := wdo_id hb
  have hm : -9223372036854775808 ≤ sgn a * sgn b ∧ sgn a * sgn b ≤ 9223372036854775807 := by
    have h1 : (sgn a * sgn b).natAbs ≤ 32768 * 32768 := by
      rw [Int.natAbs_mul]
      exact Nat.mul_le_mul (by omega) (by omega)
    omega
  have hd : b ≠ 0 → -9223372036854775808 ≤ Int.tdiv (sgn a) (sgn b) ∧ Int.tdiv (sgn a) (sgn b) ≤ 9223372036854775807 := fun h0 => by
    have h1 := Int.natAbs_tdiv_le_natAbs (sgn a) (sgn b)
    omega
  unfold F_spec_l2Binary binw
  simp only [p_spec_WordOf, p_spec_SignedOf, p_spec_l2Bit, Option.bind_some, wrap_wdo, ea, eb]
  cases h1 : (op == 1)
  · cases h2 : (op == 2)
    · cases h3 : (op == 3)
      · cases h4 : (op == 4)
        · cases h5 : (op == 5)
          · have hi := sgn_inj ha hb
            obtain ⟨x, hx, rfl⟩ := natW ha
            obtain ⟨y, hy, rfl⟩ := natW hb
            have g1 := bvand hx hy
            have g2 := bvor hx hy
            have g3 := bvxor hx hy
            simp only [cond_false, Int.toNat_natCast, g1.1, g2.1, g3.1, hi]
            cases (op == 6) <;> cases (op == 7) <;> cases (op == 8) <;> try rfl
            cases (op == 9)
            · cases (op == 10)
              · rfl
              · cases ((x : Int) == y) <;> rfl
            · cases decide (sgn (x : Int) < sgn y) <;> rfl
          · simp only [cond_true, cond_false, hz]
            cases hb0 : (b == 0) <;> rfl
        · simp only [cond_true, cond_false, hz]
          cases hb0 : (b == 0)
          · have := hd (beq_eq_false_iff_ne.1 hb0)
            simp only [cond_false]
            rw [wrap_id this.1 this.2]
          · rfl
      · simp only [cond_true, cond_false]
        rw [wrap_id hm.1 hm.2, wdo_mul (sgn a), sgn_wdo, sgn_wdo, ← wdo_mul]
    · simp only [cond_true, cond_false]
      rw [wrap_id (by omega) (by omega), wdo_sub (sgn a), sgn_wdo, sgn_wdo, ← wdo_sub]
  · simp only [cond_true]
    rw [wrap_id (by omega) (by omega), wdo_add (sgn a), sgn_wdo, sgn_wdo, ← wdo_add]

/-- An op of two words upside down. -/
def binv (op a b : Int) : Int × Int := bif (binw op (compl a) (compl b)).1 == 0 then (0, compl (binw op (compl a) (compl b)).2) else ((binw op (compl a) (compl b)).1, 0)
theorem binw_bad (op a b : Int) (h : ((binw op a b).1 == 0) = false) : (binw op a b).2 = 0 := by
  revert h
  unfold binw
  cases (op == 1)
  · cases (op == 2)
    · cases (op == 3)
      · cases (op == 4)
        · cases (op == 5)
          · cases (op == 6) <;> cases (op == 7) <;> cases (op == 8) <;> cases (op == 9) <;> cases (op == 10) <;> simp
          · cases (b == 0) <;> simp
        · cases (b == 0) <;> simp
      · simp
    · simp
  · simp

theorem p_spec_BinaryInv (op a b : Int) : F_spec_BinaryInv op a b = some (((binv op a b), ()), (), ()) := by
  simp only [F_spec_BinaryInv, p_spec_Complement, p_spec_l2Binary _ _ _ (compl_isWd a) (compl_isWd b), Option.bind_some, binv, bne]
  cases h : ((binw op (compl a) (compl b)).1 == 0) <;> rfl

theorem p_impl_BinaryInv (op a b : Int) : F_impl_BinaryInv op a b = some (((binv op a b), ()), (), ()) := by
  simp only [F_impl_BinaryInv, p_impl_Complement, p_impl_BinaryOf _ _ _ (compl_isWd a) (compl_isWd b), Option.bind_some, binv]
  cases h : ((binw op (compl a) (compl b)).1 == 0)
  · simp only [cond_false]
    rw [binw_bad _ _ _ h]
  · simp only [cond_true]
    rw [eq_of_beq h]

theorem binv_isWd (op a b : Int) : isWd (binv op a b).2 := by
  unfold binv
  cases h : ((binw op (compl a) (compl b)).1 == 0)
  · unfold isWd; simp
  · exact compl_isWd _
def aw (l : Li) : Prop := ∀ x ∈ l, isWd x
theorem aw_get {l : Li} (h : aw l) {i : Nat} (hi : i < l.length) : isWd (l.getD i 0) := by
  rw [List.getD_eq_getElem?_getD, List.getElem?_eq_getElem hi]
  exact h _ (List.getElem_mem hi)
theorem aw_getD {l : Li} (h : aw l) (i : Nat) : isWd (l.getD i 0) := by
  rcases Nat.lt_or_ge i l.length with hi | hi
  · exact aw_get h hi
  · rw [List.getD_eq_getElem?_getD, List.getElem?_eq_none hi]; unfold isWd; simp
theorem aw_set {l : Li} (h : aw l) {i : Nat} {v : Int} (hv : isWd v) : aw (l.set i v) := fun x hx => by
  rcases List.mem_or_eq_of_mem_set hx with hx | rfl
  · exact h x hx
  · exact hv
theorem kz : K.zero (.int .i64) = (0 : Int) := rfl
def argsR (op : Int) : Nat := bif op == 4 || op == 5 || op == 6 then 4 else bif op == 9 || op == 10 || op == 12 then 1 else bif op == 13 then 0 else 2

theorem p_spec_l10Args (op : Int) : F_spec_l10Args op = some (((argsR op : Int), ()), (), ()) := by
  unfold F_spec_l10Args argsR
  cases (op == 4) <;> cases (op == 5) <;> cases (op == 6) <;> try rfl
  cases (op == 9) <;> cases (op == 10) <;> cases (op == 12) <;> try rfl
  cases (op == 13) <;> rfl

theorem ops13 {op : Int} (h : 1 ≤ op ∧ op ≤ 13) : op = 1 ∨ op = 2 ∨ op = 3 ∨ op = 4 ∨ op = 5 ∨ op = 6 ∨ op = 7 ∨ op = 8 ∨ op = 9 ∨ op = 10 ∨ op = 11 ∨ op = 12 ∨ op = 13 := by omega

theorem p_impl_ArgsOfRegs (op : Int) : F_impl_ArgsOfRegs op = some ((bif decide (1 ≤ op) && decide (op ≤ 13) then (0, (argsR op : Int)) else (3, 0), ()), (), ()) := by
  unfold F_impl_ArgsOfRegs
  simp only [p_impl_within, Option.bind_some]
  cases h : (decide ((1 : Int) ≤ op) && decide (op ≤ 13))
  · rfl
  · simp only [Bool.and_eq_true, decide_eq_true_eq] at h
    rcases ops13 h with rfl | rfl | rfl | rfl | rfl | rfl | rfl | rfl | rfl | rfl | rfl | rfl | rfl <;> rfl

def opAt (code : Li) (pc : Int) : Int := code.getD pc.toNat 0
def wAt (code : Li) (pc : Int) : Li := (code.take (pc.toNat + 1 + argsR (opAt code pc))).drop (pc.toNat + 1)
/-- Is an instruction there whole? -/
def insOk (code : Li) (pc : Int) : Bool := decide (pc < code.length) && ((decide (1 ≤ opAt code pc) && decide (opAt code pc ≤ 13)) && decide (pc + argsR (opAt code pc) < code.length))
theorem argsR_le (op : Int) : argsR op ≤ 4 := by
  unfold argsR
  cases (op == 4 || op == 5 || op == 6) <;> cases (op == 9 || op == 10 || op == 12) <;> cases (op == 13) <;> simp
theorem insOk_spec {code : Li} {pc : Int} (h : insOk code pc = true) : pc < code.length ∧ (1 ≤ opAt code pc ∧ opAt code pc ≤ 13) ∧ pc + argsR (opAt code pc) < code.length := by
  simp only [insOk, Bool.and_eq_true, decide_eq_true_eq] at h
  exact h
theorem wAt_len {code : Li} {pc : Int} (h0 : 0 ≤ pc) (h : insOk code pc = true) : (wAt code pc).length = argsR (opAt code pc) := by
  obtain ⟨h1, h2, h3⟩ := insOk_spec h
  simp only [wAt, List.length_drop, List.length_take]
  omega
theorem wAt_get {code : Li} {pc : Int} (h0 : 0 ≤ pc) (h : insOk code pc = true) {i : Nat} (hi : i < argsR (opAt code pc)) : (wAt code pc).getD i 0 = code.getD (pc.toNat + 1 + i) 0 := by
  simp only [wAt, List.getD_eq_getElem?_getD, List.getElem?_drop, List.getElem?_take]
  rw [if_pos (by omega)]
theorem wAt_aw {code : Li} (pc : Int) (h : aw code) : aw (wAt code pc) := fun x hx => h x (List.mem_of_mem_take (List.mem_of_mem_drop hx))

theorem p_impl_instruction_rm (code : Li) (pc : Int) (h0 : 0 ≤ pc) (h1 : pc ≤ 65535) (hn : code.length ≤ 400) :
    F_impl_instruction_rm code pc = some ((bif insOk code pc then (opAt code pc, (wAt code pc, (true, ()))) else (0, ([], (false, ())))), (), ()) := by
  have ha := argsR_le (opAt code pc)
  unfold F_impl_instruction_rm
  simp only [p_impl_ArgsOfRegs, Option.bind_some, kz]
  rw [show code.getD pc.toNat (0 : Int) = opAt code pc from rfl]
  by_cases h2 : pc < code.length
  · rw [decide_eq_false (show ¬ pc ≥ (code.length : Int) by omega), ib_in h0 h2]
    simp only [cond_false, cond_true]
    cases h3 : (decide ((1 : Int) ≤ opAt code pc) && decide (opAt code pc ≤ 13))
    · simp only [insOk, h3, Bool.false_and, Bool.and_false, cond_false]; rfl
    · simp only [cond_true, insOk, h3, Bool.true_and, decide_eq_true h2]
      have e1 := wrap_id (x := pc + (argsR (opAt code pc) : Int)) (by omega) (by omega)
      have e2 := wrap_id (x := pc + 1) (by omega) (by omega)
      have e3 := wrap_id (x := pc + 1 + (argsR (opAt code pc) : Int)) (by omega) (by omega)
      simp only [e1, e2, e3]
      rw [show ((0 : Int) != 0) = false from rfl]
      simp only [cond_false, Option.bind_some]
      by_cases h4 : pc + (argsR (opAt code pc) : Int) < code.length
      · rw [decide_eq_false (show ¬ pc + (argsR (opAt code pc) : Int) ≥ (code.length : Int) by omega), decide_eq_true (show 0 ≤ pc + 1 ∧ pc + 1 ≤ pc + 1 + (argsR (opAt code pc) : Int) ∧ pc + 1 + (argsR (opAt code pc) : Int) ≤ (code.length : Int) by omega), decide_eq_true h4]
        simp only [cond_false, cond_true, wAt]
        rw [show (pc + 1 + (argsR (opAt code pc) : Int)).toNat = pc.toNat + 1 + argsR (opAt code pc) by omega, show (pc + 1).toNat = pc.toNat + 1 by omega]
      · rw [decide_eq_true (show pc + (argsR (opAt code pc) : Int) ≥ (code.length : Int) by omega), decide_eq_false h4]
        rfl
  · rw [decide_eq_true (show pc ≥ (code.length : Int) by omega)]
    simp only [insOk, decide_eq_false h2, Bool.false_and, cond_false, cond_true]

abbrev gw (w : Li) (i : Nat) : Int := w.getD i 0
def regsR (op : Int) (w : Li) : Li := bif op == 1 || op == 2 || op == 9 || op == 11 then [gw w 0] else bif op == 3 then [gw w 1] else bif op == 4 || op == 5 || op == 7 || op == 8 then [gw w 0, gw w 1] else
  bif op == 6 then [gw w 0, gw w 1, gw w 2] else []
theorem len4 : ∀ {w : Li}, w.length = 4 → ∃ a b c d, w = [a, b, c, d]
  | [a, b, c, d], _ => ⟨a, b, c, d, rfl⟩
theorem len2 : ∀ {w : Li}, w.length = 2 → ∃ a b, w = [a, b]
  | [a, b], _ => ⟨a, b, rfl⟩
theorem len1 : ∀ {w : Li}, w.length = 1 → ∃ a, w = [a]
  | [a], _ => ⟨a, rfl⟩

theorem p_impl_regsOf (op : Int) (w : Li) (h : 1 ≤ op ∧ op ≤ 13) (hw : w.length = argsR op) : F_impl_regsOf op w = some ((regsR op w, ()), (), ()) := by
  rcases ops13 h with rfl | rfl | rfl | rfl | rfl | rfl | rfl | rfl | rfl | rfl | rfl | rfl | rfl
  all_goals
    first
      | (obtain ⟨a, b, c, d, rfl⟩ := len4 hw; rfl)
      | (obtain ⟨a, b, rfl⟩ := len2 hw; rfl)
      | (obtain ⟨a, rfl⟩ := len1 hw; rfl)
      | rfl

theorem p_do_f1 (x : Int) : F_impl_RegMachine_do_f1 x = some ((decide (x ≥ 24), ()), (), ()) := rfl

theorem p_slices_IndexFunc_int64_rm (l : Li) (hm : l.length ≤ maxLen) : ∃ r : Int, (decide (r ≥ 0) = l.any (fun x => decide (x ≥ 24))) ∧ F_slices_IndexFunc_int64_rm l = some ((r, ()), (), ()) := by
  have key : ∀ (r : Li) (i : Nat), l.drop i = r → i ≤ l.length → ∃ z : Int, (decide (z ≥ 0) = r.any (fun x => decide (x ≥ 24))) ∧
      (match l_slices_IndexFunc_int64_rm_l2 ((l, ((l.length : Int), ((i : Int), ()))), (), ()) with
        | some (.inl y3) => z = -1
        | some (.inr z4) => z4.1.1 = z
        | none => False) := by
    intro r
    induction r with
    | nil =>
      intro i hd hle
      have : i = l.length := by have := congrArg List.length hd; simp at this; omega
      subst this
      refine ⟨-1, rfl, ?_⟩
      unfold l_slices_IndexFunc_int64_rm_l2
      rw [lim_eq]
      simp only [s_slices_IndexFunc_int64_rm_l2, dec_self, cond_false]
    | cons d r ih =>
      intro i hd hle
      have hlt : i < l.length := by have := congrArg List.length hd; simp at this; omega
      have hg : l[i]? = some d := by
        have := congrArg (·[0]?) hd
        simpa using this
      unfold l_slices_IndexFunc_int64_rm_l2
      rw [lim_eq]
      simp only [s_slices_IndexFunc_int64_rm_l2, dec_lt hlt, cond_true, ib_nat hlt, Int.toNat_natCast, getD_of hg, p_do_f1, Option.bind_some, wrap_succ hlt hm]
      cases hdd : decide (d ≥ 24)
      · simp only [cond_false]
        obtain ⟨z, h1, h2⟩ := ih (i + 1) (by rw [← List.drop_drop, hd]; rfl) hlt
        exact ⟨z, by rw [h1, List.any_cons, hdd, Bool.false_or], h2⟩
      · simp only [cond_true]
        exact ⟨(i : Int), by rw [List.any_cons, hdd, Bool.true_or]; simp, rfl⟩
  obtain ⟨z, h1, h2⟩ := key l 0 rfl (Nat.zero_le _)
  refine ⟨z, h1, ?_⟩
  simp only [F_slices_IndexFunc_int64_rm]
  rw [Int.natCast_zero] at h2
  cases hq : l_slices_IndexFunc_int64_rm_l2 ((l, ((l.length : Int), ((0 : Int), ()))), (), ()) with
  | none => rw [hq] at h2; exact h2.elim
  | some q =>
    rw [hq] at h2
    cases q with
    | inl y => simp only [Option.bind_some]; simp only at h2; rw [h2]
    | inr y => simp only [Option.bind_some]; simp only at h2; rw [h2]

theorem p_slices_ContainsFunc_int64_rm (l : Li) (hm : l.length ≤ maxLen) : F_slices_ContainsFunc_int64_rm l = some ((l.any (fun x => decide (x ≥ 24)), ()), (), ()) := by
  obtain ⟨r, h1, h2⟩ := p_slices_IndexFunc_int64_rm l hm
  simp only [F_slices_ContainsFunc_int64_rm, h2, Option.bind_some, h1]

/-- What an instruction names is not there. -/
def badC (op : Int) (w cl : Li) : Bool := bif op == 2 then !decide (gw w 1 < (cl.length : Int)) else bif op == 3 then !decide (gw w 0 < (cl.length : Int)) else false
def badR (op : Int) (w : Li) : Bool := (regsR op w).any (fun x => decide (x ≥ 24))
abbrev rg_ (rg : Li) (x : Int) : Int := rg.getD x.toNat 0
abbrev RSt : Type := Int × Int × Bool × Li × Li
/-- An instruction done: a trap; pc, signature, done, registers, cells. -/
def doR (op : Int) (w : Li) (pc sig : Int) (dn : Bool) (rg cl : Li) : Int × RSt :=
  bif op == 1 then (0, pc, sig, dn, rg.set (gw w 0).toNat (gw w 1), cl) else
  bif op == 2 then (0, pc, sig, dn, rg.set (gw w 0).toNat (rg_ cl (gw w 1)), cl) else
  bif op == 3 then (0, pc, sig, dn, rg, cl.set (gw w 0).toNat (rg_ rg (gw w 1))) else
  bif op == 4 then (
    bif !(decide (0 ≤ sgn (compl (rg_ rg (gw w 1)))) && decide (sgn (compl (rg_ rg (gw w 1))) ≤ gw w 3 - 1)) then (3, pc, sig, dn, rg, cl) else
    bif !decide (gw w 2 + sgn (compl (rg_ rg (gw w 1))) < (cl.length : Int)) then (1, pc, sig, dn, rg, cl) else
    (0, pc, sig, dn, rg.set (gw w 0).toNat (rg_ cl (gw w 2 + sgn (compl (rg_ rg (gw w 1))))), cl)) else
  bif op == 5 then (
    bif !(decide (0 ≤ sgn (compl (rg_ rg (gw w 0)))) && decide (sgn (compl (rg_ rg (gw w 0))) ≤ gw w 3 - 1)) then (3, pc, sig, dn, rg, cl) else
    bif !decide (gw w 2 + sgn (compl (rg_ rg (gw w 0))) < (cl.length : Int)) then (1, pc, sig, dn, rg, cl) else
    (0, pc, sig, dn, rg, cl.set (gw w 2 + sgn (compl (rg_ rg (gw w 0)))).toNat (rg_ rg (gw w 1)))) else
  bif op == 6 then (
    bif (binv (gw w 3) (rg_ rg (gw w 1)) (rg_ rg (gw w 2))).1 == 0 then (0, pc, sig, dn, rg.set (gw w 0).toNat (binv (gw w 3) (rg_ rg (gw w 1)) (rg_ rg (gw w 2))).2, cl) else
    bif (binv (gw w 3) (rg_ rg (gw w 1)) (rg_ rg (gw w 2))).1 == 3 then (1, pc, sig, dn, rg, cl) else ((binv (gw w 3) (rg_ rg (gw w 1)) (rg_ rg (gw w 2))).1, pc, sig, dn, rg, cl)) else
  bif op == 7 then (0, pc, sig, dn, rg.set (gw w 0).toNat (compl (negw (compl (rg_ rg (gw w 1))))), cl) else
  bif op == 8 then (0, pc, sig, dn, rg.set (gw w 0).toNat (compl (notw (compl (rg_ rg (gw w 1))))), cl) else
  bif op == 9 then (bif rg_ rg (gw w 0) != 65535 then (0, pc, sig, dn, rg.set (gw w 0).toNat 65534, cl) else (0, pc, sig, dn, rg, cl)) else
  bif op == 10 then (0, gw w 0, sig, dn, rg, cl) else
  bif op == 11 then (bif rg_ rg (gw w 0) == 65535 then (0, gw w 1, sig, dn, rg, cl) else (0, pc, sig, dn, rg, cl)) else
  bif op == 12 then (0, pc, sigw sig (gw w 0), dn, rg, cl) else
  bif op == 13 then (0, pc, sig, true, rg, cl) else (0, pc, sig, dn, rg, cl)
theorem p_do_f2 (x pc sig us tr : Int) (dn : Bool) (rg cl : Li) : F_impl_RegMachine_do_f2 x pc sig us tr dn rg cl = some ((decide (x < (cl.length : Int)), ()), ((), ((pc, (sig, (us, (tr, (dn, ()))))), ())), (rg, (cl, ()))) := rfl
abbrev outDo (us tr : Int) (r : Int × RSt) : (Int × Unit) × ((Int × Int × Int × Int × Bool × Unit) × Unit) × (Li × Li × Unit) :=
  ((r.1, ()), ((r.2.1, (r.2.2.1, (us, (tr, (r.2.2.2.1, ()))))), ()), (r.2.2.2.2.1, (r.2.2.2.2.2, ())))
theorem i02 : ib (0 : Int) 2 = true := by decide
theorem i12 : ib (1 : Int) 2 = true := by decide
theorem i01 : ib (0 : Int) 1 = true := by decide
theorem i04 : ib (0 : Int) 4 = true := by decide
theorem i14 : ib (1 : Int) 4 = true := by decide
theorem i24 : ib (2 : Int) 4 = true := by decide
theorem i34 : ib (3 : Int) 4 = true := by decide
theorem not_ge {x : Int} (h : decide (x ≥ 24) = false) : x < 24 := by have := of_decide_eq_false h; omega
theorem bif_same {α : Type} {b : Bool} {x y z : α} (h1 : b = true → x = z) (h2 : b = false → y = z) : (bif b then x else y) = z := by cases b <;> simp [h1, h2]

theorem p_impl_RegMachine_do (op : Int) (w : Li) (pc sig us tr : Int) (dn : Bool) (rg cl : Li) (h : 1 ≤ op ∧ op ≤ 13) (hw : w.length = argsR op) (hww : aw w) (hr : rg.length = 24) (hrw : aw rg) (hc : cl.length ≤ 80) :
    F_impl_RegMachine_do op w pc sig us tr dn rg cl = some (outDo us tr (bif badR op w || badC op w cl then (1, pc, sig, dn, rg, cl) else doR op w pc sig dn rg cl)) := by
  have hm : (regsR op w).length ≤ maxLen := by
    unfold regsR maxLen
    cases (op == 1 || op == 2 || op == 9 || op == 11) <;> cases (op == 3) <;> cases (op == 4 || op == 5 || op == 7 || op == 8) <;> cases (op == 6) <;> simp
  unfold F_impl_RegMachine_do
  simp only [p_impl_regsOf op w h hw, p_slices_ContainsFunc_int64_rm _ hm, Option.bind_some]
  rw [show (regsR op w).any (fun x => decide (x ≥ 24)) = badR op w from rfl]
  cases hb : badR op w
  · rw [Bool.false_or]
    simp only [cond_false]
    rcases ops13 h with rfl | rfl | rfl | rfl | rfl | rfl | rfl | rfl | rfl | rfl | rfl | rfl | rfl
    · obtain ⟨a, b, rfl⟩ := len2 hw
      have ha : isWd a := hww a (by simp)
      have hb' : isWd b := hww b (by simp)
      unfold isWd at ha hb'
      simp only [badR, regsR, gw, Int.reduceBEq, Bool.or_true, Bool.true_or, Bool.or_false, cond_true, cond_false, List.getD_cons_zero, List.getD_cons_succ, List.any_cons, List.any_nil] at hb
      have := not_ge hb
      simp only [Int.reduceBEq, cond_true, cond_false, badC, doR, List.length_cons, List.length_nil, Nat.zero_add, Nat.reduceAdd, i02, i12, kz, Int.reduceToNat, List.getD_cons_zero, List.getD_cons_succ, gw, rg_, p_do_f2, Option.bind_some]
      rw [ib_in ha.1 (by omega)]
      rfl
    · obtain ⟨a, b, rfl⟩ := len2 hw
      have hwa : isWd a := hww a (by simp)
      have hwb : isWd b := hww b (by simp)
      unfold isWd at hwa hwb
      simp only [badR, regsR, gw, Int.reduceBEq, Bool.or_true, Bool.true_or, Bool.or_false, Bool.false_or, Bool.or_eq_false_iff, cond_true, cond_false, List.getD_cons_zero, List.getD_cons_succ, List.any_cons, List.any_nil] at hb
      have r1 := not_ge hb
      simp only [Int.reduceBEq, cond_true, cond_false, badC, doR, List.length_cons, List.length_nil, Nat.zero_add, Nat.reduceAdd, i01, i02, i12, i04, i14, i24, i34, kz, Int.reduceToNat, List.getD_cons_zero, List.getD_cons_succ, gw, rg_, p_do_f2, Option.bind_some, p_impl_Complement, p_impl_SignedOf, p_impl_within, p_impl_BinaryInv, p_impl_NegOf, p_impl_NotOf, p_impl_SignOf]
      cases hd : decide (b < (cl.length : Int))
      · rfl
      · rw [ib_in hwb.1 (of_decide_eq_true hd), ib_in hwa.1 (by omega)]
        rfl
    · obtain ⟨a, b, rfl⟩ := len2 hw
      have hwa : isWd a := hww a (by simp)
      have hwb : isWd b := hww b (by simp)
      unfold isWd at hwa hwb
      simp only [badR, regsR, gw, Int.reduceBEq, Bool.or_true, Bool.true_or, Bool.or_false, Bool.false_or, Bool.or_eq_false_iff, cond_true, cond_false, List.getD_cons_zero, List.getD_cons_succ, List.any_cons, List.any_nil] at hb
      have r1 := not_ge hb
      simp only [Int.reduceBEq, cond_true, cond_false, badC, doR, List.length_cons, List.length_nil, Nat.zero_add, Nat.reduceAdd, i01, i02, i12, i04, i14, i24, i34, kz, Int.reduceToNat, List.getD_cons_zero, List.getD_cons_succ, gw, rg_, p_do_f2, Option.bind_some, p_impl_Complement, p_impl_SignedOf, p_impl_within, p_impl_BinaryInv, p_impl_NegOf, p_impl_NotOf, p_impl_SignOf]
      cases hd : decide (a < (cl.length : Int))
      · rfl
      · rw [ib_in hwb.1 (by omega), ib_in hwa.1 (of_decide_eq_true hd)]
        rfl
    · obtain ⟨a, b, c, d, rfl⟩ := len4 hw
      have hwa : isWd a := hww a (by simp)
      have hwb : isWd b := hww b (by simp)
      have hwc : isWd c := hww c (by simp)
      have hwd : isWd d := hww d (by simp)
      unfold isWd at hwa hwb hwc hwd
      simp only [badR, regsR, gw, Int.reduceBEq, Bool.or_true, Bool.true_or, Bool.or_false, Bool.false_or, Bool.or_eq_false_iff, cond_true, cond_false, List.getD_cons_zero, List.getD_cons_succ, List.any_cons, List.any_nil] at hb
      have r1 := not_ge hb.1
      have r2 := not_ge hb.2
      have hs := sgn_in (compl (rg.getD b.toNat 0))
      have e1 := wrap_id (x := d - 1) (by omega) (by omega)
      have e2 := wrap_id (x := c + sgn (compl (rg.getD b.toNat 0))) (by omega) (by omega)
      simp only [Int.reduceBEq, cond_true, cond_false, badC, doR, List.length_cons, List.length_nil, Nat.zero_add, Nat.reduceAdd, i01, i02, i12, i04, i14, i24, i34, kz, Int.reduceToNat, List.getD_cons_zero, List.getD_cons_succ, gw, rg_, p_do_f2, Option.bind_some, p_impl_Complement, p_impl_SignedOf, p_impl_within, p_impl_BinaryInv, p_impl_NegOf, p_impl_NotOf, p_impl_SignOf]
      rw [ib_in hwb.1 (by omega)]
      simp only [cond_true, e1, e2]
      cases hk : (decide (0 ≤ sgn (compl (rg.getD b.toNat 0))) && decide (sgn (compl (rg.getD b.toNat 0)) ≤ d - 1))
      · rfl
      · simp only [Bool.and_eq_true, decide_eq_true_eq] at hk
        cases hd' : decide (c + sgn (compl (rg.getD b.toNat 0)) < (cl.length : Int))
        · rfl
        · rw [ib_in (by omega) (of_decide_eq_true hd'), ib_in hwa.1 (by omega)]
          rfl
    · obtain ⟨a, b, c, d, rfl⟩ := len4 hw
      have hwa : isWd a := hww a (by simp)
      have hwb : isWd b := hww b (by simp)
      have hwc : isWd c := hww c (by simp)
      have hwd : isWd d := hww d (by simp)
      unfold isWd at hwa hwb hwc hwd
      simp only [badR, regsR, gw, Int.reduceBEq, Bool.or_true, Bool.true_or, Bool.or_false, Bool.false_or, Bool.or_eq_false_iff, cond_true, cond_false, List.getD_cons_zero, List.getD_cons_succ, List.any_cons, List.any_nil] at hb
      have r1 := not_ge hb.1
      have r2 := not_ge hb.2
      have hs := sgn_in (compl (rg.getD a.toNat 0))
      have e1 := wrap_id (x := d - 1) (by omega) (by omega)
      have e2 := wrap_id (x := c + sgn (compl (rg.getD a.toNat 0))) (by omega) (by omega)
      simp only [Int.reduceBEq, cond_true, cond_false, badC, doR, List.length_cons, List.length_nil, Nat.zero_add, Nat.reduceAdd, i01, i02, i12, i04, i14, i24, i34, kz, Int.reduceToNat, List.getD_cons_zero, List.getD_cons_succ, gw, rg_, p_do_f2, Option.bind_some, p_impl_Complement, p_impl_SignedOf, p_impl_within, p_impl_BinaryInv, p_impl_NegOf, p_impl_NotOf, p_impl_SignOf]
      rw [ib_in hwa.1 (by omega), ib_in hwb.1 (by omega)]
      simp only [cond_true, e1, e2]
      cases hk : (decide (0 ≤ sgn (compl (rg.getD a.toNat 0))) && decide (sgn (compl (rg.getD a.toNat 0)) ≤ d - 1))
      · rfl
      · simp only [Bool.and_eq_true, decide_eq_true_eq] at hk
        cases hd' : decide (c + sgn (compl (rg.getD a.toNat 0)) < (cl.length : Int))
        · rfl
        · rw [ib_in (x := c + sgn (compl (rg.getD a.toNat 0))) (by omega) (of_decide_eq_true hd')]
          rfl
    · obtain ⟨a, b, c, d, rfl⟩ := len4 hw
      have hwa : isWd a := hww a (by simp)
      have hwb : isWd b := hww b (by simp)
      have hwc : isWd c := hww c (by simp)
      have hwd : isWd d := hww d (by simp)
      unfold isWd at hwa hwb hwc hwd
      simp only [badR, regsR, gw, Int.reduceBEq, Bool.or_true, Bool.true_or, Bool.or_false, Bool.false_or, Bool.or_eq_false_iff, cond_true, cond_false, List.getD_cons_zero, List.getD_cons_succ, List.any_cons, List.any_nil] at hb
      have r1 := not_ge hb.1
      have r2 := not_ge hb.2.1
      have r3 := not_ge hb.2.2
      simp only [Int.reduceBEq, cond_true, cond_false, badC, doR, List.length_cons, List.length_nil, Nat.zero_add, Nat.reduceAdd, i01, i02, i12, i04, i14, i24, i34, kz, Int.reduceToNat, List.getD_cons_zero, List.getD_cons_succ, gw, rg_, p_do_f2, Option.bind_some, p_impl_Complement, p_impl_SignedOf, p_impl_within, p_impl_BinaryInv, p_impl_NegOf, p_impl_NotOf, p_impl_SignOf]
      rw [ib_in hwa.1 (by omega), ib_in hwb.1 (by omega), ib_in hwc.1 (by omega)]
      simp only [cond_true]
      cases h0 : ((binv d (rg.getD b.toNat 0) (rg.getD c.toNat 0)).1 == 0)
      · cases h3 : ((binv d (rg.getD b.toNat 0) (rg.getD c.toNat 0)).1 == 3) <;> rfl
      · rfl
    · obtain ⟨a, b, rfl⟩ := len2 hw
      have hwa : isWd a := hww a (by simp)
      have hwb : isWd b := hww b (by simp)
      unfold isWd at hwa hwb
      simp only [badR, regsR, gw, Int.reduceBEq, Bool.or_true, Bool.true_or, Bool.or_false, Bool.false_or, Bool.or_eq_false_iff, cond_true, cond_false, List.getD_cons_zero, List.getD_cons_succ, List.any_cons, List.any_nil] at hb
      have r1 := not_ge hb.1
      have r2 := not_ge hb.2
      simp only [Int.reduceBEq, cond_true, cond_false, badC, doR, List.length_cons, List.length_nil, Nat.zero_add, Nat.reduceAdd, i01, i02, i12, i04, i14, i24, i34, kz, Int.reduceToNat, List.getD_cons_zero, List.getD_cons_succ, gw, rg_, p_do_f2, Option.bind_some, p_impl_Complement, p_impl_SignedOf, p_impl_within, p_impl_BinaryInv, p_impl_NegOf, p_impl_NotOf, p_impl_SignOf]
      rw [ib_in hwa.1 (by omega), ib_in hwb.1 (by omega)]
      rfl
    · obtain ⟨a, b, rfl⟩ := len2 hw
      have hwa : isWd a := hww a (by simp)
      have hwb : isWd b := hww b (by simp)
      unfold isWd at hwa hwb
      simp only [badR, regsR, gw, Int.reduceBEq, Bool.or_true, Bool.true_or, Bool.or_false, Bool.false_or, Bool.or_eq_false_iff, cond_true, cond_false, List.getD_cons_zero, List.getD_cons_succ, List.any_cons, List.any_nil] at hb
      have r1 := not_ge hb.1
      have r2 := not_ge hb.2
      simp only [Int.reduceBEq, cond_true, cond_false, badC, doR, List.length_cons, List.length_nil, Nat.zero_add, Nat.reduceAdd, i01, i02, i12, i04, i14, i24, i34, kz, Int.reduceToNat, List.getD_cons_zero, List.getD_cons_succ, gw, rg_, p_do_f2, Option.bind_some, p_impl_Complement, p_impl_SignedOf, p_impl_within, p_impl_BinaryInv, p_impl_NegOf, p_impl_NotOf, p_impl_SignOf]
      rw [ib_in hwa.1 (by omega), ib_in hwb.1 (by omega)]
      rfl
    · obtain ⟨a, rfl⟩ := len1 hw
      have hwa : isWd a := hww a (by simp)
      unfold isWd at hwa
      simp only [badR, regsR, gw, Int.reduceBEq, Bool.or_true, Bool.true_or, Bool.or_false, Bool.false_or, Bool.or_eq_false_iff, cond_true, cond_false, List.getD_cons_zero, List.getD_cons_succ, List.any_cons, List.any_nil] at hb
      have r1 := not_ge hb
      simp only [Int.reduceBEq, cond_true, cond_false, badC, doR, List.length_cons, List.length_nil, Nat.zero_add, Nat.reduceAdd, i01, i02, i12, i04, i14, i24, i34, kz, Int.reduceToNat, List.getD_cons_zero, List.getD_cons_succ, gw, rg_, p_do_f2, Option.bind_some, p_impl_Complement, p_impl_SignedOf, p_impl_within, p_impl_BinaryInv, p_impl_NegOf, p_impl_NotOf, p_impl_SignOf]
      rw [ib_in hwa.1 (by omega)]
      simp only [cond_true]
      cases (rg.getD a.toNat 0 != 65535) <;> rfl
    · obtain ⟨a, rfl⟩ := len1 hw
      have hwa : isWd a := hww a (by simp)
      unfold isWd at hwa
      rfl
    · obtain ⟨a, b, rfl⟩ := len2 hw
      have hwa : isWd a := hww a (by simp)
      have hwb : isWd b := hww b (by simp)
      unfold isWd at hwa hwb
      simp only [badR, regsR, gw, Int.reduceBEq, Bool.or_true, Bool.true_or, Bool.or_false, Bool.false_or, Bool.or_eq_false_iff, cond_true, cond_false, List.getD_cons_zero, List.getD_cons_succ, List.any_cons, List.any_nil] at hb
      have r1 := not_ge hb
      simp only [Int.reduceBEq, cond_true, cond_false, badC, doR, List.length_cons, List.length_nil, Nat.zero_add, Nat.reduceAdd, i01, i02, i12, i04, i14, i24, i34, kz, Int.reduceToNat, List.getD_cons_zero, List.getD_cons_succ, gw, rg_, p_do_f2, Option.bind_some, p_impl_Complement, p_impl_SignedOf, p_impl_within, p_impl_BinaryInv, p_impl_NegOf, p_impl_NotOf, p_impl_SignOf]
      rw [ib_in hwa.1 (by omega)]
      simp only [cond_true]
      cases (rg.getD a.toNat 0 == 65535) <;> rfl
    · obtain ⟨a, rfl⟩ := len1 hw
      have hwa : isWd a := hww a (by simp)
      unfold isWd at hwa
      simp only [Int.reduceBEq, cond_true, cond_false, badC, doR, List.length_cons, List.length_nil, Nat.zero_add, Nat.reduceAdd, i01, i02, i12, i04, i14, i24, i34, kz, Int.reduceToNat, List.getD_cons_zero, List.getD_cons_succ, gw, rg_, p_do_f2, Option.bind_some, p_impl_Complement, p_impl_SignedOf, p_impl_within, p_impl_BinaryInv, p_impl_NegOf, p_impl_NotOf, p_impl_SignOf]
    · rfl
  · simp only [cond_true, Bool.true_or]

abbrev RM : Type := Int × Li × Li × Int × Int × Int × Bool

theorem p_spec_l10Row (m : RM) (first size index : Int) : F_spec_l10Row m first size index =
    some ((bif !(decide (0 ≤ sgn (compl index)) && decide (sgn (compl index) ≤ IntKind.wrap .i64 (size - 1))) then (0, (3, ())) else
      bif !decide (IntKind.wrap .i64 (first + sgn (compl index)) < (m.2.2.1.length : Int)) then (0, (1, ())) else (IntKind.wrap .i64 (first + sgn (compl index)), (0, ()))), (), ()) := by
  simp only [F_spec_l10Row, p_spec_Complement, p_spec_SignedOf, p_spec_l1In, Option.bind_some]
  cases (decide (0 ≤ sgn (compl index)) && decide (sgn (compl index) ≤ IntKind.wrap .i64 (size - 1)))
  · rfl
  · simp only [Bool.not_true, cond_false]
    by_cases h : IntKind.wrap .i64 (first + sgn (compl index)) < (m.2.2.1.length : Int)
    · rw [decide_eq_true h, decide_eq_false (show ¬ IntKind.wrap .i64 (first + sgn (compl index)) ≥ (m.2.2.1.length : Int) by omega)]; rfl
    · rw [decide_eq_false h, decide_eq_true (show IntKind.wrap .i64 (first + sgn (compl index)) ≥ (m.2.2.1.length : Int) by omega)]; rfl

theorem p_spec_l10Two (a b c d pc sig us tr : Int) (dn : Bool) (rg cl : Li) (hr : rg.length = 24) (ha : 0 ≤ a) (hb : 0 ≤ b) (hc : 0 ≤ c) (ha2 : a < 24) (hb2 : b < 24) (hc2 : c < 24) :
    F_spec_l10Two [a, b, c, d] pc sig us tr dn rg cl = some (
      bif (binv d (rg.getD b.toNat 0) (rg.getD c.toNat 0)).1 == 3 then ((1, ()), ((pc, (sig, (us, (tr, (dn, ()))))), ()), (rg, (cl, ()))) else
      bif (binv d (rg.getD b.toNat 0) (rg.getD c.toNat 0)).1 == 0 then (((binv d (rg.getD b.toNat 0) (rg.getD c.toNat 0)).1, ()), ((pc, (sig, (us, (tr, (dn, ()))))), ()), (rg.set a.toNat (binv d (rg.getD b.toNat 0) (rg.getD c.toNat 0)).2, (cl, ()))) else
      (((binv d (rg.getD b.toNat 0) (rg.getD c.toNat 0)).1, ()), ((pc, (sig, (us, (tr, (dn, ()))))), ()), (rg, (cl, ())))) := by
  simp only [F_spec_l10Two, List.length_cons, List.length_nil, Nat.zero_add, Nat.reduceAdd, i04, i14, i24, i34, kz, Int.reduceToNat, List.getD_cons_zero, List.getD_cons_succ, cond_true]
  rw [ib_in hb (by omega), ib_in hc (by omega), ib_in ha (by omega)]
  simp only [cond_true, p_spec_BinaryInv, Option.bind_some]
  cases ((binv d (rg.getD b.toNat 0) (rg.getD c.toNat 0)).1 == 3)
  · cases ((binv d (rg.getD b.toNat 0) (rg.getD c.toNat 0)).1 == 0) <;> rfl
  · rfl

abbrev outSp (pc sig us tr : Int) (dn : Bool) (rg cl : Li) (r : Int × RSt) : (Int × Unit) × ((Int × Int × Int × Int × Bool × Unit) × Unit) × (Li × Li × Unit) :=
  bif r.1 != 0 then ((r.1, ()), ((pc, (sig, (us, (tr, (dn, ()))))), ()), (rg, (cl, ()))) else outDo us tr r

theorem p_spec_l10Do (code : Li) (pc sig us tr : Int) (dn : Bool) (rg cl : Li) (h0 : 0 ≤ pc) (h1 : pc ≤ 65535) (hn : code.length ≤ 400) (hcw : aw code) (hins : insOk code pc = true)
    (hr : rg.length = 24) (hrw : aw rg) (hc : cl.length ≤ 80) (hb : badR (opAt code pc) (wAt code pc) = false) (hbc : badC (opAt code pc) (wAt code pc) cl = false) :
    F_spec_l10Do code pc sig us tr dn rg cl = some (outSp pc sig us tr dn rg cl (doR (opAt code pc) (wAt code pc) (pc + 1 + argsR (opAt code pc)) sig dn rg cl)) := by
  obtain ⟨g1, g2, g3⟩ := insOk_spec hins
  have hw := wAt_len h0 hins
  have hww := wAt_aw pc hcw
  have ha := argsR_le (opAt code pc)
  have e2 := wrap_id (x := pc + 1) (by omega) (by omega)
  have e3 := wrap_id (x := pc + 1 + (argsR (opAt code pc) : Int)) (by omega) (by omega)
  have e4 : (code.take (pc + 1 + (argsR (opAt code pc) : Int)).toNat).drop (pc + 1).toNat = wAt code pc := by
    unfold wAt
    rw [show (pc + 1 + (argsR (opAt code pc) : Int)).toNat = pc.toNat + 1 + argsR (opAt code pc) by omega, show (pc + 1).toNat = pc.toNat + 1 by omega]
  have e5 : code.getD pc.toNat (0 : Int) = opAt code pc := rfl
  have e6 : ib pc code.length = true := ib_in h0 g1
  have e7 : decide (0 ≤ pc + 1 ∧ pc + 1 ≤ pc + 1 + (argsR (opAt code pc) : Int) ∧ pc + 1 + (argsR (opAt code pc) : Int) ≤ (code.length : Int)) = true := decide_eq_true (by omega)
  unfold F_spec_l10Do
  simp only [p_spec_l10Args, Option.bind_some, kz, e5, e2, e3, e4, e6, e7, cond_true]
  generalize wAt code pc = w at hw hww hb hbc ⊢
  generalize (pc + 1 + (argsR (opAt code pc) : Int)) = nx
  generalize opAt code pc = op at hw hb hbc g2 ⊢
  clear e2 e3 e4 e5 e6 e7
  · rcases ops13 g2 with rfl | rfl | rfl | rfl | rfl | rfl | rfl | rfl | rfl | rfl | rfl | rfl | rfl
    · obtain ⟨a, b, rfl⟩ := len2 hw
      have hwa : isWd a := hww a (by simp)
      have hwb : isWd b := hww b (by simp)
      unfold isWd at hwa hwb
      simp only [badR, regsR, gw, Int.reduceBEq, Bool.or_true, Bool.true_or, Bool.or_false, Bool.false_or, Bool.or_eq_false_iff, cond_true, cond_false, List.getD_cons_zero, List.getD_cons_succ, List.any_cons, List.any_nil] at hb
      have r1 := not_ge hb
      simp only [Int.reduceBEq, cond_true, cond_false, doR, List.length_cons, List.length_nil, Nat.zero_add, Nat.reduceAdd, i01, i02, i12, i04, i14, i24, i34, kz, Int.reduceToNat, List.getD_cons_zero, List.getD_cons_succ, gw, rg_, Option.bind_some, p_spec_Complement, p_spec_SignedOf, p_spec_l10Row, p_spec_NegOf, p_spec_NotOf, p_spec_SignOf]
      rw [ib_in hwa.1 (by omega)]
      rfl
    · obtain ⟨a, b, rfl⟩ := len2 hw
      have hwa : isWd a := hww a (by simp)
      have hwb : isWd b := hww b (by simp)
      unfold isWd at hwa hwb
      simp only [badR, regsR, gw, Int.reduceBEq, Bool.or_true, Bool.true_or, Bool.or_false, Bool.false_or, Bool.or_eq_false_iff, cond_true, cond_false, List.getD_cons_zero, List.getD_cons_succ, List.any_cons, List.any_nil] at hb
      have r1 := not_ge hb
      simp only [badC, gw, Int.reduceBEq, cond_true, cond_false, List.getD_cons_zero, List.getD_cons_succ, Bool.not_eq_false', decide_eq_true_eq] at hbc
      simp only [Int.reduceBEq, cond_true, cond_false, doR, List.length_cons, List.length_nil, Nat.zero_add, Nat.reduceAdd, i01, i02, i12, i04, i14, i24, i34, kz, Int.reduceToNat, List.getD_cons_zero, List.getD_cons_succ, gw, rg_, Option.bind_some, p_spec_Complement, p_spec_SignedOf, p_spec_l10Row, p_spec_NegOf, p_spec_NotOf, p_spec_SignOf]
      rw [ib_in hwb.1 hbc, ib_in hwa.1 (by omega)]
      rfl
    · obtain ⟨a, b, rfl⟩ := len2 hw
      have hwa : isWd a := hww a (by simp)
      have hwb : isWd b := hww b (by simp)
      unfold isWd at hwa hwb
      simp only [badR, regsR, gw, Int.reduceBEq, Bool.or_true, Bool.true_or, Bool.or_false, Bool.false_or, Bool.or_eq_false_iff, cond_true, cond_false, List.getD_cons_zero, List.getD_cons_succ, List.any_cons, List.any_nil] at hb
      have r1 := not_ge hb
      simp only [badC, gw, Int.reduceBEq, cond_true, cond_false, List.getD_cons_zero, List.getD_cons_succ, Bool.not_eq_false', decide_eq_true_eq] at hbc
      simp only [Int.reduceBEq, cond_true, cond_false, doR, List.length_cons, List.length_nil, Nat.zero_add, Nat.reduceAdd, i01, i02, i12, i04, i14, i24, i34, kz, Int.reduceToNat, List.getD_cons_zero, List.getD_cons_succ, gw, rg_, Option.bind_some, p_spec_Complement, p_spec_SignedOf, p_spec_l10Row, p_spec_NegOf, p_spec_NotOf, p_spec_SignOf]
      rw [ib_in hwb.1 (by omega), ib_in hwa.1 hbc]
      rfl
    · obtain ⟨a, b, c, d, rfl⟩ := len4 hw
      have hwa : isWd a := hww a (by simp)
      have hwb : isWd b := hww b (by simp)
      have hwc : isWd c := hww c (by simp)
      have hwd : isWd d := hww d (by simp)
      unfold isWd at hwa hwb hwc hwd
      simp only [badR, regsR, gw, Int.reduceBEq, Bool.or_true, Bool.true_or, Bool.or_false, Bool.false_or, Bool.or_eq_false_iff, cond_true, cond_false, List.getD_cons_zero, List.getD_cons_succ, List.any_cons, List.any_nil] at hb
      have r1 := not_ge hb.1
      have r2 := not_ge hb.2
      have hs := sgn_in (compl (rg.getD b.toNat 0))
      have e1 := wrap_id (x := d - 1) (by omega) (by omega)
      have e2 := wrap_id (x := c + sgn (compl (rg.getD b.toNat 0))) (by omega) (by omega)
      simp only [Int.reduceBEq, cond_true, cond_false, doR, List.length_cons, List.length_nil, Nat.zero_add, Nat.reduceAdd, i01, i02, i12, i04, i14, i24, i34, kz, Int.reduceToNat, List.getD_cons_zero, List.getD_cons_succ, gw, rg_, Option.bind_some, p_spec_Complement, p_spec_SignedOf, p_spec_l10Row, p_spec_NegOf, p_spec_NotOf, p_spec_SignOf]
      rw [ib_in (x := b) (by omega) (by omega)]
      simp only [cond_true, e1, e2]
      cases hk : (decide (0 ≤ sgn (compl (rg.getD b.toNat 0))) && decide (sgn (compl (rg.getD b.toNat 0)) ≤ d - 1))
      · rfl
      · simp only [Bool.and_eq_true, decide_eq_true_eq] at hk
        cases hd' : decide (c + sgn (compl (rg.getD b.toNat 0)) < (cl.length : Int))
        · rfl
        · simp only [Bool.not_true, cond_false]
          rw [show ((0 : Int) != 0) = false from rfl]
          simp only [cond_false]
          rw [ib_in (x := c + sgn (compl (rg.getD b.toNat 0))) (by omega) (of_decide_eq_true hd')]
          rw [ib_in hwa.1 (by omega)]
          rfl
    · obtain ⟨a, b, c, d, rfl⟩ := len4 hw
      have hwa : isWd a := hww a (by simp)
      have hwb : isWd b := hww b (by simp)
      have hwc : isWd c := hww c (by simp)
      have hwd : isWd d := hww d (by simp)
      unfold isWd at hwa hwb hwc hwd
      simp only [badR, regsR, gw, Int.reduceBEq, Bool.or_true, Bool.true_or, Bool.or_false, Bool.false_or, Bool.or_eq_false_iff, cond_true, cond_false, List.getD_cons_zero, List.getD_cons_succ, List.any_cons, List.any_nil] at hb
      have r1 := not_ge hb.1
      have r2 := not_ge hb.2
      have hs := sgn_in (compl (rg.getD a.toNat 0))
      have e1 := wrap_id (x := d - 1) (by omega) (by omega)
      have e2 := wrap_id (x := c + sgn (compl (rg.getD a.toNat 0))) (by omega) (by omega)
      simp only [Int.reduceBEq, cond_true, cond_false, doR, List.length_cons, List.length_nil, Nat.zero_add, Nat.reduceAdd, i01, i02, i12, i04, i14, i24, i34, kz, Int.reduceToNat, List.getD_cons_zero, List.getD_cons_succ, gw, rg_, Option.bind_some, p_spec_Complement, p_spec_SignedOf, p_spec_l10Row, p_spec_NegOf, p_spec_NotOf, p_spec_SignOf]
      rw [ib_in (x := a) (by omega) (by omega)]
      simp only [cond_true, e1, e2]
      cases hk : (decide (0 ≤ sgn (compl (rg.getD a.toNat 0))) && decide (sgn (compl (rg.getD a.toNat 0)) ≤ d - 1))
      · rfl
      · simp only [Bool.and_eq_true, decide_eq_true_eq] at hk
        cases hd' : decide (c + sgn (compl (rg.getD a.toNat 0)) < (cl.length : Int))
        · rfl
        · simp only [Bool.not_true, cond_false]
          rw [show ((0 : Int) != 0) = false from rfl]
          simp only [cond_false]
          rw [ib_in (x := c + sgn (compl (rg.getD a.toNat 0))) (by omega) (of_decide_eq_true hd')]
          rw [ib_in hwb.1 (by omega)]
          rfl
    · obtain ⟨a, b, c, d, rfl⟩ := len4 hw
      have hwa : isWd a := hww a (by simp)
      have hwb : isWd b := hww b (by simp)
      have hwc : isWd c := hww c (by simp)
      have hwd : isWd d := hww d (by simp)
      unfold isWd at hwa hwb hwc hwd
      simp only [badR, regsR, gw, Int.reduceBEq, Bool.or_true, Bool.true_or, Bool.or_false, Bool.false_or, Bool.or_eq_false_iff, cond_true, cond_false, List.getD_cons_zero, List.getD_cons_succ, List.any_cons, List.any_nil] at hb
      have r1 := not_ge hb.1
      have r2 := not_ge hb.2.1
      have r3 := not_ge hb.2.2
      simp only [Int.reduceBEq, cond_true, cond_false, doR, List.length_cons, List.length_nil, Nat.zero_add, Nat.reduceAdd, i01, i02, i12, i04, i14, i24, i34, kz, Int.reduceToNat, List.getD_cons_zero, List.getD_cons_succ, gw, rg_, Option.bind_some, p_spec_Complement, p_spec_SignedOf, p_spec_l10Row, p_spec_NegOf, p_spec_NotOf, p_spec_SignOf]
      rw [p_spec_l10Two _ _ _ _ _ _ _ _ _ _ _ hr hwa.1 hwb.1 hwc.1 (by omega) (by omega) (by omega)]
      simp only [Option.bind_some, bne]
      cases h0 : ((binv d (rg.getD b.toNat 0) (rg.getD c.toNat 0)).1 == 0)
      · cases h3 : ((binv d (rg.getD b.toNat 0) (rg.getD c.toNat 0)).1 == 3)
        · simp only [cond_false, h0, outSp, bne, Bool.not_false, cond_true]
        · rfl
      · rw [eq_of_beq h0]; rfl
    · obtain ⟨a, b, rfl⟩ := len2 hw
      have hwa : isWd a := hww a (by simp)
      have hwb : isWd b := hww b (by simp)
      unfold isWd at hwa hwb
      simp only [badR, regsR, gw, Int.reduceBEq, Bool.or_true, Bool.true_or, Bool.or_false, Bool.false_or, Bool.or_eq_false_iff, cond_true, cond_false, List.getD_cons_zero, List.getD_cons_succ, List.any_cons, List.any_nil] at hb
      have r1 := not_ge hb.1
      have r2 := not_ge hb.2
      simp only [Int.reduceBEq, cond_true, cond_false, doR, List.length_cons, List.length_nil, Nat.zero_add, Nat.reduceAdd, i01, i02, i12, i04, i14, i24, i34, kz, Int.reduceToNat, List.getD_cons_zero, List.getD_cons_succ, gw, rg_, Option.bind_some, p_spec_Complement, p_spec_SignedOf, p_spec_l10Row, p_spec_NegOf, p_spec_NotOf, p_spec_SignOf]
      rw [ib_in hwa.1 (by omega), ib_in hwb.1 (by omega)]
      rfl
    · obtain ⟨a, b, rfl⟩ := len2 hw
      have hwa : isWd a := hww a (by simp)
      have hwb : isWd b := hww b (by simp)
      unfold isWd at hwa hwb
      simp only [badR, regsR, gw, Int.reduceBEq, Bool.or_true, Bool.true_or, Bool.or_false, Bool.false_or, Bool.or_eq_false_iff, cond_true, cond_false, List.getD_cons_zero, List.getD_cons_succ, List.any_cons, List.any_nil] at hb
      have r1 := not_ge hb.1
      have r2 := not_ge hb.2
      simp only [Int.reduceBEq, cond_true, cond_false, doR, List.length_cons, List.length_nil, Nat.zero_add, Nat.reduceAdd, i01, i02, i12, i04, i14, i24, i34, kz, Int.reduceToNat, List.getD_cons_zero, List.getD_cons_succ, gw, rg_, Option.bind_some, p_spec_Complement, p_spec_SignedOf, p_spec_l10Row, p_spec_NegOf, p_spec_NotOf, p_spec_SignOf]
      rw [ib_in hwa.1 (by omega), ib_in hwb.1 (by omega)]
      rfl
    · obtain ⟨a, rfl⟩ := len1 hw
      have hwa : isWd a := hww a (by simp)
      unfold isWd at hwa
      simp only [badR, regsR, gw, Int.reduceBEq, Bool.or_true, Bool.true_or, Bool.or_false, Bool.false_or, Bool.or_eq_false_iff, cond_true, cond_false, List.getD_cons_zero, List.getD_cons_succ, List.any_cons, List.any_nil] at hb
      have r1 := not_ge hb
      simp only [Int.reduceBEq, cond_true, cond_false, doR, List.length_cons, List.length_nil, Nat.zero_add, Nat.reduceAdd, i01, i02, i12, i04, i14, i24, i34, kz, Int.reduceToNat, List.getD_cons_zero, List.getD_cons_succ, gw, rg_, Option.bind_some, p_spec_Complement, p_spec_SignedOf, p_spec_l10Row, p_spec_NegOf, p_spec_NotOf, p_spec_SignOf]
      rw [ib_in hwa.1 (by omega)]
      simp only [cond_true]
      cases (rg.getD a.toNat 0 != 65535) <;> rfl
    · obtain ⟨a, rfl⟩ := len1 hw
      have hwa : isWd a := hww a (by simp)
      unfold isWd at hwa
      rfl
    · obtain ⟨a, b, rfl⟩ := len2 hw
      have hwa : isWd a := hww a (by simp)
      have hwb : isWd b := hww b (by simp)
      unfold isWd at hwa hwb
      simp only [badR, regsR, gw, Int.reduceBEq, Bool.or_true, Bool.true_or, Bool.or_false, Bool.false_or, Bool.or_eq_false_iff, cond_true, cond_false, List.getD_cons_zero, List.getD_cons_succ, List.any_cons, List.any_nil] at hb
      have r1 := not_ge hb
      simp only [Int.reduceBEq, cond_true, cond_false, doR, List.length_cons, List.length_nil, Nat.zero_add, Nat.reduceAdd, i01, i02, i12, i04, i14, i24, i34, kz, Int.reduceToNat, List.getD_cons_zero, List.getD_cons_succ, gw, rg_, Option.bind_some, p_spec_Complement, p_spec_SignedOf, p_spec_l10Row, p_spec_NegOf, p_spec_NotOf, p_spec_SignOf]
      rw [ib_in hwa.1 (by omega)]
      simp only [cond_true]
      cases (rg.getD a.toNat 0 == 65535) <;> rfl
    · obtain ⟨a, rfl⟩ := len1 hw
      have hwa : isWd a := hww a (by simp)
      unfold isWd at hwa
      simp only [Int.reduceBEq, cond_true, cond_false, doR, List.length_cons, List.length_nil, Nat.zero_add, Nat.reduceAdd, i01, i02, i12, i04, i14, i24, i34, kz, Int.reduceToNat, List.getD_cons_zero, List.getD_cons_succ, gw, rg_, Option.bind_some, p_spec_Complement, p_spec_SignedOf, p_spec_l10Row, p_spec_NegOf, p_spec_NotOf, p_spec_SignOf]
      rfl
    · rfl

def regIdx (op : Int) : Li := bif op == 1 || op == 9 || op == 11 || op == 2 then [1] else bif op == 3 then [2] else bif op == 4 || op == 5 || op == 7 || op == 8 then [1, 2] else bif op == 6 then [1, 2, 3] else []
def cellIdx (op : Int) : Int := bif op == 2 then 2 else bif op == 3 then 1 else -1

theorem p_spec_l10Places (op : Int) (h : 1 ≤ op ∧ op ≤ 13) : F_spec_l10Places op = some ((cellIdx op, ()), (), (regIdx op, ())) := by
  rcases ops13 h with rfl | rfl | rfl | rfl | rfl | rfl | rfl | rfl | rfl | rfl | rfl | rfl | rfl <;> rfl

theorem gwAt {code : Li} {pc : Int} (h0 : 0 ≤ pc) (h : insOk code pc = true) (i : Nat) (r : Int) (hr : r = (i : Int) + 1) (hi : i < argsR (opAt code pc)) : code.getD (pc + r).toNat 0 = gw (wAt code pc) i := by
  unfold gw
  rw [wAt_get h0 h hi]
  congr 1
  omega
theorem idx_bad {code : Li} {pc : Int} (h0 : 0 ≤ pc) (h : insOk code pc = true) : (regIdx (opAt code pc)).any (fun r => decide (code.getD (pc + r).toNat 0 ≥ 24)) = badR (opAt code pc) (wAt code pc) := by
  obtain ⟨g1, g2, g3⟩ := insOk_spec h
  have k := gwAt h0 h
  unfold badR regIdx regsR
  rcases ops13 g2 with e | e | e | e | e | e | e | e | e | e | e | e | e <;> rw [e] at k ⊢ <;>
    simp only [Int.reduceBEq, Bool.or_true, Bool.true_or, Bool.or_false, Bool.false_or, cond_true, cond_false, List.any_cons, List.any_nil]
  · rw [k 0 1 rfl (by decide)]
  · rw [k 0 1 rfl (by decide)]
  · rw [k 1 2 rfl (by decide)]
  · rw [k 0 1 rfl (by decide), k 1 2 rfl (by decide)]
  · rw [k 0 1 rfl (by decide), k 1 2 rfl (by decide)]
  · rw [k 0 1 rfl (by decide), k 1 2 rfl (by decide), k 2 3 rfl (by decide)]
  · rw [k 0 1 rfl (by decide), k 1 2 rfl (by decide)]
  · rw [k 0 1 rfl (by decide), k 1 2 rfl (by decide)]
  · rw [k 0 1 rfl (by decide)]
  · rw [k 0 1 rfl (by decide)]
theorem cell_bad {code : Li} {pc : Int} (cl : Li) (h0 : 0 ≤ pc) (h : insOk code pc = true) : (bif decide (cellIdx (opAt code pc) < 0) then true else decide (code.getD (pc + cellIdx (opAt code pc)).toNat 0 < (cl.length : Int))) = !badC (opAt code pc) (wAt code pc) cl := by
  obtain ⟨g1, g2, g3⟩ := insOk_spec h
  have k := gwAt h0 h
  unfold badC cellIdx
  rcases ops13 g2 with e | e | e | e | e | e | e | e | e | e | e | e | e <;> rw [e] at k ⊢ <;>
    simp only [Int.reduceBEq, cond_true, cond_false]
  all_goals try rfl
  · simp only [k 1 2 rfl (by decide), Bool.not_not]; rfl
  · simp only [k 0 1 rfl (by decide), Bool.not_not]; rfl
theorem idx_in (op : Int) (h : 1 ≤ op ∧ op ≤ 13) : (∀ r ∈ regIdx op, 1 ≤ r ∧ r ≤ (argsR op : Int)) ∧ (cellIdx op < 0 ∨ (1 ≤ cellIdx op ∧ cellIdx op ≤ (argsR op : Int))) ∧ (regIdx op).length ≤ 3 := by
  rcases ops13 h with rfl | rfl | rfl | rfl | rfl | rfl | rfl | rfl | rfl | rfl | rfl | rfl | rfl <;> decide

theorem p_spec_l10Ready (code : Li) (m : RM) (h0 : 0 ≤ m.1) (h1 : m.1 ≤ 65535) (hn : code.length ≤ 400) :
    F_spec_l10Ready code m = some ((insOk code m.1 && (!badR (opAt code m.1) (wAt code m.1) && !badC (opAt code m.1) (wAt code m.1) m.2.2.1), ()), (), ()) := by
  have ha := argsR_le (opAt code m.1)
  have e5 : code.getD m.1.toNat (0 : Int) = opAt code m.1 := rfl
  unfold F_spec_l10Ready
  simp only [p_spec_l10Args, p_spec_l1In, Option.bind_some, kz, e5]
  by_cases h2 : m.1 < (code.length : Int)
  · rw [decide_eq_false (show ¬ m.1 ≥ (code.length : Int) by omega), ib_in h0 h2]
    simp only [cond_false, cond_true, Option.bind_some]
    cases h3 : (decide ((1 : Int) ≤ opAt code m.1) && decide (opAt code m.1 ≤ 13))
    · simp only [insOk, h3, Bool.false_and, Bool.and_false]; rfl
    · simp only [Bool.not_true, cond_false]
      have g2 : 1 ≤ opAt code m.1 ∧ opAt code m.1 ≤ 13 := by simpa using h3
      have e1 := wrap_id (x := m.1 + (argsR (opAt code m.1) : Int)) (by omega) (by omega)
      simp only [e1]
      by_cases h4 : m.1 + (argsR (opAt code m.1) : Int) < (code.length : Int)
      · have hins : insOk code m.1 = true := by simp only [insOk, decide_eq_true h2, h3, decide_eq_true h4, Bool.and_true]
        rw [decide_eq_false (show ¬ m.1 + (argsR (opAt code m.1) : Int) ≥ (code.length : Int) by omega)]
        simp only [cond_false, p_spec_l10Places _ g2, Option.bind_some]
        obtain ⟨i1, i2, i3⟩ := idx_in _ g2
        have hl : l_spec_l10Ready_l9 ((code, (m, (cellIdx (opAt code m.1), ((0 : Int), ())))), (), (regIdx (opAt code m.1), ())) = _ :=
          lim_any (step := s_spec_l10Ready_l9) (regIdx (opAt code m.1)) (fun i => ((code, (m, (cellIdx (opAt code m.1), ((i : Int), ())))), (), (regIdx (opAt code m.1), ()))) (fun r => decide (code.getD (m.1 + r).toNat 0 ≥ 24)) (.inr ((false, ()), (), ())) (.inl ((code, (m, (cellIdx (opAt code m.1), ()))), (), ()))
            (fun i d hg => by
              have hlt := lt_of_get hg
              have hd := i1 d (List.mem_of_getElem? hg)
              have hw := wrap_id (x := m.1 + d) (by omega) (by omega)
              simp only [s_spec_l10Ready_l9, dec_lt hlt, cond_true, ib_nat hlt, Int.toNat_natCast, getD_of hg, wrap_succ hlt (show (regIdx (opAt code m.1)).length ≤ maxLen by simp only [maxLen]; omega), hw, kz]
              rw [ib_in (x := m.1 + d) (by omega) (by omega)]
              simp only [cond_true]
              cases decide (code.getD (m.1 + d).toNat (0 : Int) ≥ 24) <;> rfl)
            (by simp only [s_spec_l10Ready_l9, dec_self, cond_false])
        rw [hl, idx_bad h0 hins, hins, Bool.true_and]
        have hcb := cell_bad m.2.2.1 h0 hins
        cases hb : badR (opAt code m.1) (wAt code m.1)
        · simp only [cond_false, Option.bind_some, Bool.not_false, Bool.true_and]
          rw [← hcb]
          cases hci : decide (cellIdx (opAt code m.1) < 0)
          · have hci' := of_decide_eq_false hci
            have hw := wrap_id (x := m.1 + cellIdx (opAt code m.1)) (by omega) (by omega)
            simp only [cond_false, hw]
            rw [ib_in (x := m.1 + cellIdx (opAt code m.1)) (by omega) (by omega)]
            rfl
          · rfl
        · rfl
      · rw [decide_eq_true (show m.1 + (argsR (opAt code m.1) : Int) ≥ (code.length : Int) by omega)]
        simp only [insOk, decide_eq_false h4, Bool.and_false, Bool.false_and, cond_true]
  · rw [decide_eq_true (show m.1 ≥ (code.length : Int) by omega)]
    simp only [insOk, decide_eq_false h2, Bool.false_and]; rfl

/-- A step. -/
def stepR (code : Li) (m : RM) : RM :=
  bif m.2.2.2.2.2.2 || m.2.2.2.2.2.1 != 0 then m else
  bif insOk code m.1 && (!badR (opAt code m.1) (wAt code m.1) && !badC (opAt code m.1) (wAt code m.1) m.2.2.1) then (
    bif (doR (opAt code m.1) (wAt code m.1) (m.1 + 1 + argsR (opAt code m.1)) m.2.2.2.1 m.2.2.2.2.2.2 m.2.1 m.2.2.1).1 != 0 then
      (m.1, m.2.1, m.2.2.1, m.2.2.2.1, min (m.2.2.2.2.1 + 1) 1000000, (doR (opAt code m.1) (wAt code m.1) (m.1 + 1 + argsR (opAt code m.1)) m.2.2.2.1 m.2.2.2.2.2.2 m.2.1 m.2.2.1).1, m.2.2.2.2.2.2)
    else ((doR (opAt code m.1) (wAt code m.1) (m.1 + 1 + argsR (opAt code m.1)) m.2.2.2.1 m.2.2.2.2.2.2 m.2.1 m.2.2.1).2.1,
      (doR (opAt code m.1) (wAt code m.1) (m.1 + 1 + argsR (opAt code m.1)) m.2.2.2.1 m.2.2.2.2.2.2 m.2.1 m.2.2.1).2.2.2.2.1,
      (doR (opAt code m.1) (wAt code m.1) (m.1 + 1 + argsR (opAt code m.1)) m.2.2.2.1 m.2.2.2.2.2.2 m.2.1 m.2.2.1).2.2.2.2.2,
      (doR (opAt code m.1) (wAt code m.1) (m.1 + 1 + argsR (opAt code m.1)) m.2.2.2.1 m.2.2.2.2.2.2 m.2.1 m.2.2.1).2.2.1,
      min (m.2.2.2.2.1 + 1) 1000000, 0,
      (doR (opAt code m.1) (wAt code m.1) (m.1 + 1 + argsR (opAt code m.1)) m.2.2.2.1 m.2.2.2.2.2.2 m.2.1 m.2.2.1).2.2.2.1))
  else (m.1, m.2.1, m.2.2.1, m.2.2.2.1, min (m.2.2.2.2.1 + 1) 1000000, 1, m.2.2.2.2.2.2)
/-- What is so of each machine. -/
structure RMok (m : RM) : Prop where
  pc0 : 0 ≤ m.1
  pc1 : m.1 ≤ 65535
  rl : m.2.1.length = 24
  rw_ : aw m.2.1
  cl : m.2.2.1.length ≤ 80
  cw : aw m.2.2.1
  sg : isWd m.2.2.2.1
  us0 : 0 ≤ m.2.2.2.2.1
  us1 : m.2.2.2.2.1 ≤ 1000000
  t0 : 0 ≤ m.2.2.2.2.2.1
  t1 : m.2.2.2.2.2.1 ≤ 10

theorem p_spec_l10Copy (m : RM) (h : m.2.1.length ≤ 1048576) (h' : m.2.2.1.length ≤ 1048576) :
    F_spec_l10Copy m = some (((m.1, (m.2.2.2.1, (m.2.2.2.2.1, (m.2.2.2.2.2.1, (m.2.2.2.2.2.2, ()))))), ()), (), (m.2.1, (m.2.2.1, ()))) := by
  simp only [F_spec_l10Copy, room8 h, room8 h', cond_true]; rfl

theorem doR_err (op : Int) (w : Li) (pc sig : Int) (dn : Bool) (rg cl : Li) (h : ((doR op w pc sig dn rg cl).1 != 0) = true) : (doR op w pc sig dn rg cl).2 = (pc, sig, dn, rg, cl) := by
  revert h
  unfold doR
  cases (op == 1)
  · cases (op == 2)
    · cases (op == 3)
      · cases (op == 4)
        · cases (op == 5)
          · cases (op == 6)
            · cases (op == 7)
              · cases (op == 8)
                · cases (op == 9)
                  · cases (op == 10)
                    · cases (op == 11)
                      · cases (op == 12) <;> cases (op == 13) <;> simp
                      · cases (rg_ rg (gw w 0) == 65535) <;> simp
                    · simp
                  · cases (rg_ rg (gw w 0) != 65535) <;> simp
                · simp
              · simp
            · cases h0 : ((binv (gw w 3) (rg_ rg (gw w 1)) (rg_ rg (gw w 2))).1 == 0)
              · cases ((binv (gw w 3) (rg_ rg (gw w 1)) (rg_ rg (gw w 2))).1 == 3) <;> simp
              · simp
          · cases (decide (0 ≤ sgn (compl (rg_ rg (gw w 0)))) && decide (sgn (compl (rg_ rg (gw w 0))) ≤ gw w 3 - 1))
            · simp
            · cases decide (gw w 2 + sgn (compl (rg_ rg (gw w 0))) < (cl.length : Int)) <;> simp
        · cases (decide (0 ≤ sgn (compl (rg_ rg (gw w 1)))) && decide (sgn (compl (rg_ rg (gw w 1))) ≤ gw w 3 - 1))
          · simp
          · cases decide (gw w 2 + sgn (compl (rg_ rg (gw w 1))) < (cl.length : Int)) <;> simp
      · simp
    · simp
  · simp
abbrev outI (m : RM) : Unit × ((Int × Int × Int × Int × Bool × Unit) × Unit) × (Li × Li × Unit) := ((), ((m.1, (m.2.2.2.1, (m.2.2.2.2.1, (m.2.2.2.2.2.1, (m.2.2.2.2.2.2, ()))))), ()), (m.2.1, (m.2.2.1, ())))

theorem p_impl_RegMachine_step (code : Li) (pc : Int) (rg cl : Li) (sg us tr : Int) (dn : Bool) (hm : RMok (pc, rg, cl, sg, us, tr, dn)) (hn : code.length ≤ 400) (hcw : aw code) :
    F_impl_RegMachine_step code pc sg us tr dn rg cl = some (outI (stepR code (pc, rg, cl, sg, us, tr, dn))) := by
  have hpc0 := hm.pc0
  have hpc1 := hm.pc1
  have hrl := hm.rl
  have hcl := hm.cl
  have hu0 := hm.us0
  have hu1 := hm.us1
  simp only at hpc0 hpc1 hrl hcl hu0 hu1
  have hmin : mn (us + 1) 1000000 = min (us + 1) 1000000 := by unfold mn; split <;> omega
  have hw := wrap_id (x := us + 1) (by omega) (by omega)
  unfold F_impl_RegMachine_step
  simp only [p_impl_instruction_rm code pc hpc0 hpc1 hn, hw, hmin, stepR, outI]
  cases dn
  · simp only [cond_false, Option.bind_some, Bool.false_or]
    cases htr : (tr != 0)
    · have tr0 : tr = 0 := by simpa using htr
      subst tr0
      simp only [cond_false]
      cases hins : insOk code pc
      · rfl
      · obtain ⟨g1, g2, g3⟩ := insOk_spec hins
        have ha := argsR_le (opAt code pc)
        have e2 := wrap_id (x := pc + 1) (by omega) (by omega)
        have e3 := wrap_id (x := pc + 1 + (argsR (opAt code pc) : Int)) (by omega) (by omega)
        simp only [cond_true, cond_false, Bool.not_true, Bool.true_and, wAt_len hpc0 hins, e2, e3, p_impl_RegMachine_do (opAt code pc) (wAt code pc) _ sg (min (us + 1) 1000000) 0 false rg cl g2 (wAt_len hpc0 hins) (wAt_aw pc hcw) hrl hm.rw_ hcl, Option.bind_some, outDo]
        cases hb : badR (opAt code pc) (wAt code pc)
        · cases hbc : badC (opAt code pc) (wAt code pc) cl
          · have he := doR_err (opAt code pc) (wAt code pc) (pc + 1 + (argsR (opAt code pc) : Int)) sg false rg cl
            simp only [Bool.or_false, cond_false, Bool.not_false, Bool.and_true, cond_true]
            generalize doR (opAt code pc) (wAt code pc) (pc + 1 + (argsR (opAt code pc) : Int)) sg false rg cl = r at he ⊢
            obtain ⟨r1, r2⟩ := r
            cases hd : (r1 != 0)
            · have : r1 = 0 := by simpa using hd
              subst this
              rfl
            · have := he hd
              simp only at this
              rw [this]
              simp only [cond_true]
          · rfl
        · rfl
    · rfl
  · rfl

theorem aw_gw {w : Li} (h : aw w) (i : Nat) : isWd (gw w i) := aw_getD h i
theorem binw_code (op a b : Int) : 0 ≤ (binw op a b).1 ∧ (binw op a b).1 ≤ 10 := by
  unfold binw
  cases (op == 1)
  · cases (op == 2)
    · cases (op == 3)
      · cases (op == 4)
        · cases (op == 5)
          · cases (op == 6) <;> cases (op == 7) <;> cases (op == 8) <;> cases (op == 9) <;> cases (op == 10) <;> simp
          · cases (b == 0) <;> simp
        · cases (b == 0) <;> simp
      · simp
    · simp
  · simp
theorem doR_ok (op : Int) (w : Li) (pc sig : Int) (dn : Bool) (rg cl : Li) (hw : aw w) (hp : isWd pc) (hs : isWd sig) (hr : aw rg) (hc : aw cl) :
    0 ≤ (doR op w pc sig dn rg cl).1 ∧ (doR op w pc sig dn rg cl).1 ≤ 10 ∧ isWd (doR op w pc sig dn rg cl).2.1 ∧ isWd (doR op w pc sig dn rg cl).2.2.1 ∧ (doR op w pc sig dn rg cl).2.2.2.2.1.length = rg.length ∧ aw (doR op w pc sig dn rg cl).2.2.2.2.1 ∧
      (doR op w pc sig dn rg cl).2.2.2.2.2.length = cl.length ∧ aw (doR op w pc sig dn rg cl).2.2.2.2.2 := by
  have hg := fun i => aw_gw hw i
  have hrg : ∀ x, isWd (rg_ rg x) := fun x => aw_getD hr _
  have hcg : ∀ x, isWd (rg_ cl x) := fun x => aw_getD hc _
  have hsg := sigw_isWd
  have hv := binv_isWd (gw w 3) (rg_ rg (gw w 1)) (rg_ rg (gw w 2))
  have hcode : 0 ≤ (binv (gw w 3) (rg_ rg (gw w 1)) (rg_ rg (gw w 2))).1 ∧ (binv (gw w 3) (rg_ rg (gw w 1)) (rg_ rg (gw w 2))).1 ≤ 10 := by
    unfold binv
    cases hh : ((binw (gw w 3) (compl (rg_ rg (gw w 1))) (compl (rg_ rg (gw w 2)))).1 == 0)
    · exact ⟨(binw_code _ _ _).1, (binw_code _ _ _).2⟩
    · simp
  have h65 : isWd 65534 := by unfold isWd; omega
  have hcm := compl_isWd
  unfold doR
  cases (op == 1)
  · cases (op == 2)
    · cases (op == 3)
      · cases (op == 4)
        · cases (op == 5)
          · cases (op == 6)
            · cases (op == 7)
              · cases (op == 8)
                · cases (op == 9)
                  · cases (op == 10)
                    · cases (op == 11)
                      · cases (op == 12) <;> cases (op == 13) <;> exact ⟨by simp, by simp, by assumption, by first | assumption | exact hsg _ _, rfl, hr, rfl, hc⟩
                      · cases (rg_ rg (gw w 0) == 65535) <;> exact ⟨by simp, by simp, by first | assumption | exact hg _, hs, rfl, hr, rfl, hc⟩
                    · exact ⟨by simp, by simp, hg _, hs, rfl, hr, rfl, hc⟩
                  · cases (rg_ rg (gw w 0) != 65535)
                    · exact ⟨by simp, by simp, hp, hs, rfl, hr, rfl, hc⟩
                    · exact ⟨by simp, by simp, hp, hs, by simp, aw_set hr h65, rfl, hc⟩
                · exact ⟨by simp, by simp, hp, hs, by simp, aw_set hr (hcm _), rfl, hc⟩
              · exact ⟨by simp, by simp, hp, hs, by simp, aw_set hr (hcm _), rfl, hc⟩
            · cases h0 : ((binv (gw w 3) (rg_ rg (gw w 1)) (rg_ rg (gw w 2))).1 == 0)
              · cases ((binv (gw w 3) (rg_ rg (gw w 1)) (rg_ rg (gw w 2))).1 == 3)
                · exact ⟨hcode.1, hcode.2, hp, hs, rfl, hr, rfl, hc⟩
                · exact ⟨by simp, by simp, hp, hs, rfl, hr, rfl, hc⟩
              · exact ⟨by simp, by simp, hp, hs, by simp, aw_set hr hv, rfl, hc⟩
          · cases (decide (0 ≤ sgn (compl (rg_ rg (gw w 0)))) && decide (sgn (compl (rg_ rg (gw w 0))) ≤ gw w 3 - 1))
            · exact ⟨by simp, by simp, hp, hs, rfl, hr, rfl, hc⟩
            · cases decide (gw w 2 + sgn (compl (rg_ rg (gw w 0))) < (cl.length : Int))
              · exact ⟨by simp, by simp, hp, hs, rfl, hr, rfl, hc⟩
              · exact ⟨by simp, by simp, hp, hs, rfl, hr, by simp, aw_set hc (hrg _)⟩
        · cases (decide (0 ≤ sgn (compl (rg_ rg (gw w 1)))) && decide (sgn (compl (rg_ rg (gw w 1))) ≤ gw w 3 - 1))
          · exact ⟨by simp, by simp, hp, hs, rfl, hr, rfl, hc⟩
          · cases decide (gw w 2 + sgn (compl (rg_ rg (gw w 1))) < (cl.length : Int))
            · exact ⟨by simp, by simp, hp, hs, rfl, hr, rfl, hc⟩
            · exact ⟨by simp, by simp, hp, hs, by simp, aw_set hr (hcg _), rfl, hc⟩
      · exact ⟨by simp, by simp, hp, hs, rfl, hr, by simp, aw_set hc (hrg _)⟩
    · exact ⟨by simp, by simp, hp, hs, by simp, aw_set hr (hcg _), rfl, hc⟩
  · exact ⟨by simp, by simp, hp, hs, by simp, aw_set hr (hg _), rfl, hc⟩
theorem stepR_ok (code : Li) (m : RM) (hm : RMok m) (hn : code.length ≤ 400) (hcw : aw code) : RMok (stepR code m) ∧ (stepR code m).2.2.1.length = m.2.2.1.length ∧
    ((m.2.2.2.2.2.2 || m.2.2.2.2.2.1 != 0) = false → (stepR code m).2.2.2.2.1 = min (m.2.2.2.2.1 + 1) 1000000) := by
  obtain ⟨pc, rg, cl, sg, us, tr, dn⟩ := m
  have hpc0 := hm.pc0
  have hpc1 := hm.pc1
  have hrl := hm.rl
  have hcl := hm.cl
  have hu0 := hm.us0
  have hu1 := hm.us1
  simp only at hpc0 hpc1 hrl hcl hu0 hu1
  unfold stepR
  simp only
  cases h1 : (dn || tr != 0)
  · simp only [cond_false]
    cases hr : (insOk code pc && (!badR (opAt code pc) (wAt code pc) && !badC (opAt code pc) (wAt code pc) cl))
    · exact ⟨⟨hpc0, hpc1, hrl, hm.rw_, hcl, hm.cw, hm.sg, by simp only [cond_false]; omega, by simp only [cond_false]; omega, by simp, by simp⟩, rfl, fun _ => rfl⟩
    · simp only [Bool.and_eq_true] at hr
      obtain ⟨g1, g2, g3⟩ := insOk_spec hr.1
      have ha := argsR_le (opAt code pc)
      obtain ⟨d1, d2, d3, d4, d5, d6, d7, d8⟩ := doR_ok (opAt code pc) (wAt code pc) (pc + 1 + argsR (opAt code pc)) sg dn rg cl (wAt_aw pc hcw) (by unfold isWd; omega) hm.sg hm.rw_ hm.cw
      simp only [cond_true]
      generalize doR (opAt code pc) (wAt code pc) (pc + 1 + argsR (opAt code pc)) sg dn rg cl = r at d1 d2 d3 d4 d5 d6 d7 d8 ⊢
      cases (r.1 != 0)
      · exact ⟨⟨d3.1, d3.2, by simp only [cond_false]; rw [d5]; exact hrl, d6, by simp only [cond_false]; rw [d7]; exact hcl, d8, d4, by simp only [cond_false]; omega, by simp only [cond_false]; omega, by simp, by simp⟩, d7, fun _ => rfl⟩
      · exact ⟨⟨hpc0, hpc1, hrl, hm.rw_, hcl, hm.cw, hm.sg, by simp only [cond_true]; omega, by simp only [cond_true]; omega, d1, d2⟩, rfl, fun _ => rfl⟩
  · exact ⟨hm, rfl, fun h => by cases h⟩
def runF {σ ρ : Type} (go : σ → σ ⊕ ρ) (d : ρ) : Nat → σ → ρ
  | 0, _ => d
  | n + 1, s => match go s with
    | .inl s' => runF go d n s'
    | .inr r => r
theorem lim_runF {A B σ ρ : Type} {step : A → Option (A ⊕ B)} (go : σ → σ ⊕ ρ) (d : ρ) (mk : σ → A) (out : ρ → B) (I : σ → Prop) (μ : σ → Nat)
    (h : ∀ s, I s → step (mk s) = some (match go s with | .inl s' => .inl (mk s') | .inr r => .inr (out r)))
    (hI : ∀ s s', I s → go s = .inl s' → I s' ∧ μ s' < μ s) : ∀ n s, I s → μ s < n → lim step (mk s) = some (out (runF go d n s)) := by
  intro n
  induction n with
  | zero => intro s _ hs; omega
  | succ n ih =>
    intro s hs hn
    rw [lim_eq, h s hs]
    unfold runF
    cases hg : go s with
    | inl s' =>
      obtain ⟨h1, h2⟩ := hI s s' hs hg
      exact ih s' h1 (by omega)
    | inr r => rfl
theorem runF_ind {σ ρ : Type} (go : σ → σ ⊕ ρ) (d : ρ) (I : σ → Prop) (μ : σ → Nat) (Q : ρ → Prop)
    (hI : ∀ s s', I s → go s = .inl s' → I s' ∧ μ s' < μ s) (hQ : ∀ s r, I s → go s = .inr r → Q r) : ∀ n s, I s → μ s < n → Q (runF go d n s) := by
  intro n
  induction n with
  | zero => intro s _ hs; omega
  | succ n ih =>
    intro s hs hn
    unfold runF
    cases hg : go s with
    | inl s' =>
      obtain ⟨h1, h2⟩ := hI s s' hs hg
      exact ih s' h1 (by omega)
    | inr r => exact hQ s r hs hg
def goR (code : Li) (bu : Int) (m : RM) : RM ⊕ (Bool × RM) :=
  bif m.2.2.2.2.2.2 || m.2.2.2.2.2.1 != 0 then .inr (false, m) else
  bif decide (m.2.2.2.2.1 ≥ bu) then .inr (true, (m.1, m.2.1, m.2.2.1, m.2.2.2.1, m.2.2.2.2.1, 2, m.2.2.2.2.2.2)) else .inl (stepR code m)
structure RunI (bu : Int) (k : Nat) (m : RM) : Prop where
  ok : RMok m
  le : m.2.2.2.2.1 ≤ bu
  len : m.2.2.1.length = k
theorem goR_next (code : Li) (bu : Int) (k : Nat) (hb : bu ≤ 20000) (hn : code.length ≤ 400) (hcw : aw code) (m m' : RM) (hm : RunI bu k m) (h : goR code bu m = .inl m') : RunI bu k m' ∧ (bu - m'.2.2.2.2.1).toNat < (bu - m.2.2.2.2.1).toNat := by
  unfold goR at h
  cases h1 : (m.2.2.2.2.2.2 || m.2.2.2.2.2.1 != 0)
  · rw [h1] at h
    cases h2 : decide (m.2.2.2.2.1 ≥ bu)
    · rw [h2] at h
      simp only [cond_false] at h
      cases h
      have h2' := of_decide_eq_false h2
      obtain ⟨g1, g2, g3⟩ := stepR_ok code m hm.ok hn hcw
      have g4 := g3 h1
      have hu := hm.ok.us0
      refine ⟨⟨g1, by rw [g4]; omega, by rw [g2]; exact hm.len⟩, by rw [g4]; omega⟩
    · rw [h2] at h; cases h
  · rw [h1] at h; cases h
theorem goR_end (code : Li) (bu : Int) (k : Nat) (m : RM) (r : Bool × RM) (hm : RunI bu k m) (h : goR code bu m = .inr r) : RunI bu k r.2 ∧ (r.2.2.2.2.2.2.2 || r.2.2.2.2.2.2.1 != 0) = true ∧ (r.2.2.2.2.2.2.2 = true → r.2 = m ∧ m.2.2.2.2.2.2 = true) := by
  unfold goR at h
  cases h1 : (m.2.2.2.2.2.2 || m.2.2.2.2.2.1 != 0)
  · rw [h1] at h
    cases h2 : decide (m.2.2.2.2.1 ≥ bu)
    · rw [h2] at h; cases h
    · rw [h2] at h
      simp only [cond_false, cond_true] at h
      cases h
      obtain ⟨a1, a2, a3, a4, a5, a6, a7, a8, a9, a10, a11⟩ := hm.ok
      refine ⟨⟨⟨a1, a2, a3, a4, a5, a6, a7, a8, a9, by simp, by simp⟩, hm.le, hm.len⟩, by simp, fun h => ?_⟩
      simp only [Bool.or_eq_false_iff] at h1
      rw [h1.1] at h; cases h
  · rw [h1] at h
    simp only [cond_true] at h
    cases h
    exact ⟨hm, h1, fun h => ⟨rfl, h⟩⟩
def runM (code : Li) (bu : Int) (m : RM) : Bool × RM := runF (goR code bu) (false, m) (bu.toNat + 1) m
theorem runM_ok (code : Li) (bu : Int) (k : Nat) (h0 : 0 ≤ bu) (hb : bu ≤ 20000) (hn : code.length ≤ 400) (hcw : aw code) (m : RM) (hm : RunI bu k m) (hu : m.2.2.2.2.1 = 0) :
    RunI bu k (runM code bu m).2 ∧ ((runM code bu m).2.2.2.2.2.2.2 || (runM code bu m).2.2.2.2.2.2.1 != 0) = true :=
  runF_ind (goR code bu) (false, m) (RunI bu k) (fun m => (bu - m.2.2.2.2.1).toNat) (fun r => RunI bu k r.2 ∧ (r.2.2.2.2.2.2.2 || r.2.2.2.2.2.2.1 != 0) = true)
    (fun s s' hs hg => goR_next code bu k hb hn hcw s s' hs hg) (fun s r hs hg => ⟨(goR_end code bu k s r hs hg).1, (goR_end code bu k s r hs hg).2.1⟩) _ _ hm (by rw [hu]; omega)
def rep24 : Li := List.replicate 24 65535
theorem rep24_aw : aw rep24 := fun x hx => by rw [List.eq_of_mem_replicate hx]; unfold isWd; omega

theorem p_spec_l10Start (l : Li) (h : l.length ≤ 1048576) : F_spec_l10Start l = some (((0, (0, (0, (0, (false, ()))))), ()), (), (rep24, (l, ()))) := by
  have hk : ∀ z, l_spec_l10Start_l3 (((0 : Int), ()), (z, (((0 : Int), ((0 : Int), ((0 : Int), ((0 : Int), (false, ()))))), ())), ([], (l, ()))) = some ((), (z, (((0 : Int), ((0 : Int), ((0 : Int), ((0 : Int), (false, ()))))), ())), (rep24, (l, ()))) := fun z =>
    lim_rep (step := s_spec_l10Start_l3) 24 (65535 : Int) (fun i acc => (((i : Int), ()), (z, (((0 : Int), ((0 : Int), ((0 : Int), ((0 : Int), (false, ()))))), ())), (acc, (l, ())))) _
      (fun i acc hn hi => by
        simp only [s_spec_l10Start_l3]
        rw [show decide ((i : Int) < 24) = true by simp; omega, show room (acc ++ [(65535 : Int)]).length 8 = true by simp [room]; omega, wrap_id (by omega) (by omega)]
        rfl)
      (by simp only [s_spec_l10Start_l3]; rfl)
  simp only [F_spec_l10Start, room8 h, cond_true]
  rw [List.nil_append, hk]
  rfl

def rfF (m : RM) : Int :=
  bif !isW m.1 || !isW m.2.2.2.1 || m.2.1.any (fun x => !isW x) || m.2.2.1.any (fun x => !isW x) || !(decide (0 ≤ m.2.2.2.2.1) && decide (m.2.2.2.2.1 ≤ 1000000)) || !(decide (0 ≤ m.2.2.2.2.2.1) && decide (m.2.2.2.2.2.1 ≤ 10)) then 3 else
  bif (m.2.1.length : Int) != 24 then 1 else bif decide ((m.2.2.1.length : Int) > 80) then 2 else 0

theorem p_impl_RegFault (m : RM) (h : m.2.1.length ≤ maxLen) (h' : m.2.2.1.length ≤ maxLen) : F_impl_RegFault m = some ((rfF m, ()), (), ()) := by
  simp only [F_impl_RegFault, p_impl_isWord, p_impl_areWords _ h, p_impl_areWords _ h', p_impl_within, Option.bind_some, Bool.not_not, rfF]
  cases isW m.1 <;> cases isW m.2.2.2.1 <;> cases m.2.1.any (fun x => !isW x) <;> cases m.2.2.1.any (fun x => !isW x) <;> cases (decide (0 ≤ m.2.2.2.2.1) && decide (m.2.2.2.2.1 ≤ 1000000)) <;>
    cases (decide (0 ≤ m.2.2.2.2.2.1) && decide (m.2.2.2.2.2.1 ≤ 10)) <;> cases ((m.2.1.length : Int) != 24) <;> cases decide ((m.2.2.1.length : Int) > 80) <;> rfl

def m0 (l : Li) : RM := (0, rep24, l, 0, 0, 0, false)
def zM : RM := (0, [], [], 0, 0, 0, false)
theorem aw_any {l : Li} (h : l.any (fun x => !isW x) = false) : aw l := fun x hx => by
  have := List.any_eq_false.1 h x hx
  simp only [isW, Bool.not_eq_true', Bool.not_eq_false, Bool.and_eq_true, decide_eq_true_eq] at this
  exact this
theorem m0_ok {l : Li} (h : (rfF (m0 l) != 0) = false) : RMok (m0 l) := by
  have hz : rfF (m0 l) = 0 := by simpa using h
  unfold rfF m0 at hz
  simp only at hz
  cases h1 : l.any (fun x => !isW x)
  · rw [h1] at hz
    cases h2 : decide ((l.length : Int) > 80)
    · have := of_decide_eq_false h2
      exact ⟨by simp [m0], by simp [m0], by simp [m0, rep24], rep24_aw, by show l.length ≤ 80; omega, aw_any h1, by unfold isWd m0; simp, by simp [m0], by simp [m0], by simp [m0], by simp [m0]⟩
    · rw [h2] at hz
      revert hz
      rw [show (rep24.any fun x => !isW x) = false by decide, show ((rep24.length : Int) != 24) = false by decide]
      intro hz
      simp [isW] at hz
  · rw [h1] at hz
    revert hz
    simp

theorem p_Repeat : F_slices_Repeat_int64 [(65535 : Int)] (24 : Int) = some ((), (), (rep24, ())) := by
  have hb : F_bits_Mul (IntKind.wrap .u64 (([(65535 : Int)]).length : Int)) (IntKind.wrap .u64 24) = some ((0, (24, ())), (), ()) := by rfl
  have hl : l_slices_Repeat_int64_l8 ((((Nat.min ([(65535 : Int)]).length (((List.replicate (Int.toNat (IntKind.wrap .i64 (24 : Int))) (K.zero (.int .i64)))).length) : Nat) : Int), ()), (), ((splice (List.replicate (Int.toNat (IntKind.wrap .i64 (24 : Int))) (K.zero (.int .i64))) 0 (([(65535 : Int)]).take (((List.replicate (Int.toNat (IntKind.wrap .i64 (24 : Int))) (K.zero (.int .i64)))).length))), ())) = some ((), (), (rep24, ())) := by
    have hs : ∀ a b c, s_slices_Repeat_int64_l8 a = some (.inl b) → l_slices_Repeat_int64_l8 b = c → l_slices_Repeat_int64_l8 a = c := fun a b c h1 h2 => by
      unfold l_slices_Repeat_int64_l8
      rw [lim_eq, h1]; exact h2
    have he : ∀ a b, s_slices_Repeat_int64_l8 a = some (.inr b) → l_slices_Repeat_int64_l8 a = some b := fun a b h1 => by
      unfold l_slices_Repeat_int64_l8
      rw [lim_eq, h1]
    refine hs _ ((2, ()), (), (List.replicate 2 65535 ++ List.replicate 22 0, ())) _ (by rfl) ?_
    refine hs _ ((4, ()), (), (List.replicate 4 65535 ++ List.replicate 20 0, ())) _ (by rfl) ?_
    refine hs _ ((8, ()), (), (List.replicate 8 65535 ++ List.replicate 16 0, ())) _ (by rfl) ?_
    refine hs _ ((16, ()), (), (List.replicate 16 65535 ++ List.replicate 8 0, ())) _ (by rfl) ?_
    refine hs _ ((24, ()), (), (rep24, ())) _ (by rfl) ?_
    exact he _ _ (by rfl)
  unfold F_slices_Repeat_int64
  rw [show decide ((24 : Int) < 0) = false from rfl, hb]
  simp only [cond_false, Option.bind_some]
  rw [show decide ((0 : Int) > 0) = false from rfl, show decide ((24 : Int) > 9223372036854775807) = false from rfl]
  simp only [cond_false, Option.bind_some]
  rw [hl]
  rfl

theorem p_impl_StartRegs (l : Li) (h : l.length ≤ 1048576) : F_impl_StartRegs l = some (
    bif rfF (m0 l) != 0 then (((rfF (m0 l), (0, (0, (0, (0, (false, ())))))), ()), (), ([], ([], ()))) else (((0, (0, (0, (0, (0, (false, ())))))), ()), (), (rep24, (l, ())))) := by
  simp only [F_impl_StartRegs, p_slices_Clone_int64 l h, Option.bind_some]
  rw [p_Repeat]
  simp only [Option.bind_some]
  rw [p_impl_RegFault (0, rep24, l, 0, 0, 0, false) (by show rep24.length ≤ maxLen; decide) (by show l.length ≤ maxLen; simp only [maxLen]; omega)]
  simp only [Option.bind_some]
  rw [show rfF (0, rep24, l, 0, 0, 0, false) = rfF (m0 l) from rfl]
  cases (rfF (m0 l) != 0) <;> rfl

abbrev eM (m : RM) : Int × Li × Li × Int × Int × Int × Bool × Unit := (m.1, (m.2.1, (m.2.2.1, (m.2.2.2.1, (m.2.2.2.2.1, (m.2.2.2.2.2.1, (m.2.2.2.2.2.2, ())))))))

/-- RunRegs: a code, a machine. -/
def runC (code l : Li) (bu : Int) : Int × RM :=
  bif wf code != 0 then (wf code, zM) else bif rfF (m0 l) != 0 then (rfF (m0 l), zM) else bif !(decide (0 ≤ bu) && decide (bu ≤ 20000)) then (3, zM) else (0, (runM code bu (m0 l)).2)
theorem wf_aw {l : Li} (h : (wf l != 0) = false) : l.length ≤ 400 ∧ aw l := by
  have hz : wf l = 0 := by simpa using h
  unfold wf at hz
  cases h1 : decide ((l.length : Int) > 400)
  · rw [h1] at hz
    simp only [cond_false] at hz
    cases h2 : l.any (fun x => !isW x)
    · have := of_decide_eq_false h1
      exact ⟨by omega, aw_any h2⟩
    · rw [h2] at hz; cases hz
  · rw [h1] at hz; cases hz

abbrev oM (m : RM) : Int × Int × Int × Int × Bool × Unit := (m.1, (m.2.2.2.1, (m.2.2.2.2.1, (m.2.2.2.2.2.1, (m.2.2.2.2.2.2, ())))))

theorem p_impl_RunRegs (code l : Li) (bu : Int) (hc : code.length ≤ maxLen) (hl : l.length ≤ 1048576) : F_impl_RunRegs code l bu =
    some ((((runC code l bu).1, oM (runC code l bu).2), ()), (), ((runC code l bu).2.2.1, ((runC code l bu).2.2.2.1, ()))) := by
  simp only [F_impl_RunRegs, p_impl_WordsFault code hc, p_impl_StartRegs l hl, p_impl_within, Option.bind_some, runC]
  cases h1 : (wf code != 0)
  · obtain ⟨hn, hcw⟩ := wf_aw h1
    simp only [cond_false]
    cases h2 : (rfF (m0 l) != 0)
    · simp only [cond_false]
      rw [show ((0 : Int) != 0) = false from rfl]
      cases h3 : (decide (0 ≤ bu) && decide (bu ≤ 20000))
      · rfl
      · simp only [Bool.and_eq_true, decide_eq_true_eq] at h3
        simp only [cond_false, Bool.not_true]
        have hi : RunI bu l.length (m0 l) := ⟨m0_ok h2, h3.1, rfl⟩
        have key := lim_runF (step := s_impl_RunRegs_l10) (goR code bu) (false, m0 l)
          (fun m => ((code, (bu, ())), (((0 : Int), ((0 : Int), ((0 : Int), ((0 : Int), ((0 : Int), (false, ())))))), (((0 : Int), oM m), ())), (m.2.1, (m.2.2.1, ()))))
          (fun r => ((), (((0 : Int), ((0 : Int), ((0 : Int), ((0 : Int), ((0 : Int), (false, ())))))), (((0 : Int), oM r.2), ())), (r.2.2.1, (r.2.2.2.1, ()))))
          (RunI bu l.length) (fun m => (bu - m.2.2.2.2.1).toNat)
          (fun m hm => by
            obtain ⟨pc, rg, cl, sg, us, tr, dn⟩ := m
            simp only [s_impl_RunRegs_l10, oM, goR]
            cases dn
            · simp only [Bool.not_false, cond_true, Option.bind_some, Bool.false_or, bne]
              cases (tr == 0)
              · rfl
              · simp only [cond_true, Bool.not_true, cond_false]
                cases hd : decide (us ≥ bu)
                · have := of_decide_eq_false hd
                  rw [beq_eq_false_iff_ne.2 (show us ≠ bu by omega)]
                  simp only [cond_false]
                  rw [p_impl_RegMachine_step code pc rg cl sg us tr false hm.ok hn hcw]
                  rfl
                · have := of_decide_eq_true hd
                  have hle := hm.le
                  simp only at hle
                  rw [show (us == bu) = true by rw [beq_iff_eq]; omega]
                  rfl
            · rfl)
          (fun s s' hs hg => goR_next code bu l.length h3.2 hn hcw s s' hs hg) (bu.toNat + 1) (m0 l) hi (by show (bu - 0).toNat < bu.toNat + 1; omega)
        have hk : l_impl_RunRegs_l10 ((code, (bu, ())), (((0 : Int), ((0 : Int), ((0 : Int), ((0 : Int), ((0 : Int), (false, ())))))), (((0 : Int), ((0 : Int), ((0 : Int), ((0 : Int), ((0 : Int), (false, ())))))), ())), (rep24, (l, ()))) = _ := key
        rw [hk]
        rfl
    · simp only [cond_true, h2]; rfl
  · rfl

theorem runC_ok (code l : Li) (bu : Int) : (runC code l bu).2.2.1.length ≤ 24 ∧ (runC code l bu).2.2.2.1.length ≤ 80 := by
  unfold runC
  cases h1 : (wf code != 0)
  · obtain ⟨hn, hcw⟩ := wf_aw h1
    cases h2 : (rfF (m0 l) != 0)
    · cases h3 : (decide (0 ≤ bu) && decide (bu ≤ 20000))
      · simp [zM]
      · simp only [Bool.and_eq_true, decide_eq_true_eq] at h3
        have := (runM_ok code bu l.length h3.1 h3.2 hn hcw (m0 l) ⟨m0_ok h2, h3.1, rfl⟩ rfl).1.ok
        simp only [cond_false, Bool.not_true]
        exact ⟨by rw [this.rl]; exact Nat.le_refl _, this.cl⟩
    · simp [zM]
  · simp [zM]

def argsS (op : Int) : Nat := bif op == 4 || op == 5 then 2 else bif op == 7 || op == 8 || op == 9 || op == 13 then 0 else 1
theorem argsS_le (op : Int) : argsS op ≤ 2 := by
  unfold argsS
  cases (op == 4 || op == 5) <;> cases (op == 7 || op == 8 || op == 9 || op == 13) <;> simp

theorem p_spec_l8Args (op : Int) : F_spec_l8Args op = some (((argsS op : Int), ()), (), ()) := by
  unfold F_spec_l8Args argsS
  cases (op == 4) <;> cases (op == 5) <;> try rfl
  cases (op == 7) <;> cases (op == 8) <;> cases (op == 9) <;> cases (op == 13) <;> rfl

theorem p_impl_ArgsOfStack (op : Int) : F_impl_ArgsOfStack op = some ((bif decide (1 ≤ op) && decide (op ≤ 13) then (0, (argsS op : Int)) else (3, 0), ()), (), ()) := by
  unfold F_impl_ArgsOfStack
  simp only [p_impl_within, Option.bind_some]
  cases h : (decide ((1 : Int) ≤ op) && decide (op ≤ 13))
  · rfl
  · simp only [Bool.and_eq_true, decide_eq_true_eq] at h
    rcases ops13 h with rfl | rfl | rfl | rfl | rfl | rfl | rfl | rfl | rfl | rfl | rfl | rfl | rfl <;> rfl

def takesS (op : Int) : Nat := bif op == 5 || op == 6 then 2 else bif op == 3 || op == 4 || op == 7 || op == 8 || op == 9 || op == 11 then 1 else 0
def putsS (op : Int) : Nat := bif op == 1 || op == 2 || op == 4 || op == 6 || op == 7 || op == 8 || op == 9 then 1 else 0

theorem p_spec_l8Takes (op : Int) (h : 1 ≤ op ∧ op ≤ 13) : F_spec_l8Takes op = some (((takesS op : Int), ((putsS op : Int), ())), (), ()) := by
  rcases ops13 h with rfl | rfl | rfl | rfl | rfl | rfl | rfl | rfl | rfl | rfl | rfl | rfl | rfl <;> rfl

def wAtS (code : Li) (pc : Int) : Li := (code.take (pc.toNat + 1 + argsS (opAt code pc))).drop (pc.toNat + 1)
def insOkS (code : Li) (pc : Int) : Bool := decide (pc < code.length) && ((decide (1 ≤ opAt code pc) && decide (opAt code pc ≤ 13)) && decide (pc + argsS (opAt code pc) < code.length))
theorem insOkS_spec {code : Li} {pc : Int} (h : insOkS code pc = true) : pc < code.length ∧ (1 ≤ opAt code pc ∧ opAt code pc ≤ 13) ∧ pc + argsS (opAt code pc) < code.length := by
  simp only [insOkS, Bool.and_eq_true, decide_eq_true_eq] at h
  exact h
theorem wAtS_len {code : Li} {pc : Int} (h0 : 0 ≤ pc) (h : insOkS code pc = true) : (wAtS code pc).length = argsS (opAt code pc) := by
  obtain ⟨h1, h2, h3⟩ := insOkS_spec h
  simp only [wAtS, List.length_drop, List.length_take]
  omega
theorem wAtS_get {code : Li} {pc : Int} (h0 : 0 ≤ pc) (h : insOkS code pc = true) {i : Nat} (hi : i < argsS (opAt code pc)) : (wAtS code pc).getD i 0 = code.getD (pc.toNat + 1 + i) 0 := by
  simp only [wAtS, List.getD_eq_getElem?_getD, List.getElem?_drop, List.getElem?_take]
  rw [if_pos (by omega)]
theorem wAtS_aw {code : Li} (pc : Int) (h : aw code) : aw (wAtS code pc) := fun x hx => h x (List.mem_of_mem_take (List.mem_of_mem_drop hx))

theorem p_impl_instruction_sm (code : Li) (pc : Int) (h0 : 0 ≤ pc) (h1 : pc ≤ 65535) (hn : code.length ≤ 400) :
    F_impl_instruction_sm code pc = some ((bif insOkS code pc then (opAt code pc, (wAtS code pc, (true, ()))) else (0, ([], (false, ())))), (), ()) := by
  have ha := argsS_le (opAt code pc)
  unfold F_impl_instruction_sm
  simp only [p_impl_ArgsOfStack, Option.bind_some, kz]
  rw [show code.getD pc.toNat (0 : Int) = opAt code pc from rfl]
  by_cases h2 : pc < code.length
  · rw [decide_eq_false (show ¬ pc ≥ (code.length : Int) by omega), ib_in h0 h2]
    simp only [cond_false, cond_true]
    cases h3 : (decide ((1 : Int) ≤ opAt code pc) && decide (opAt code pc ≤ 13))
    · simp only [insOkS, h3, Bool.false_and, Bool.and_false, cond_false]; rfl
    · simp only [cond_true, insOkS, h3, Bool.true_and, decide_eq_true h2]
      have e1 := wrap_id (x := pc + (argsS (opAt code pc) : Int)) (by omega) (by omega)
      have e2 := wrap_id (x := pc + 1) (by omega) (by omega)
      have e3 := wrap_id (x := pc + 1 + (argsS (opAt code pc) : Int)) (by omega) (by omega)
      simp only [e1, e2, e3]
      rw [show ((0 : Int) != 0) = false from rfl]
      simp only [cond_false, Option.bind_some]
      by_cases h4 : pc + (argsS (opAt code pc) : Int) < code.length
      · rw [decide_eq_false (show ¬ pc + (argsS (opAt code pc) : Int) ≥ (code.length : Int) by omega), decide_eq_true (show 0 ≤ pc + 1 ∧ pc + 1 ≤ pc + 1 + (argsS (opAt code pc) : Int) ∧ pc + 1 + (argsS (opAt code pc) : Int) ≤ (code.length : Int) by omega), decide_eq_true h4]
        simp only [cond_false, cond_true, wAtS]
        rw [show (pc + 1 + (argsS (opAt code pc) : Int)).toNat = pc.toNat + 1 + argsS (opAt code pc) by omega, show (pc + 1).toNat = pc.toNat + 1 by omega]
      · rw [decide_eq_true (show pc + (argsS (opAt code pc) : Int) ≥ (code.length : Int) by omega), decide_eq_false h4]
        rfl
  · rw [decide_eq_true (show pc ≥ (code.length : Int) by omega)]
    simp only [insOkS, decide_eq_false h2, Bool.false_and, cond_false, cond_true]

theorem p_spec_l6Least (x : Int) : F_spec_l6Least x = some ((bif x != 0 then 1 else 0, ()), (), ()) := by
  simp only [F_spec_l6Least, p_spec_l2Bit, Option.bind_some]

/-- The stack without its n upmost; the i-th of these. -/
abbrev bs (n : Nat) (st : Li) : Li := st.take (st.length - n)
abbrev tk (n : Nat) (st : Li) (i : Nat) : Int := st.getD (st.length - n + i) 0
def badS (op : Int) (w st cl : Li) : Bool := decide (st.length < takesS op) || ((bif op == 1 || op == 2 then st.length == 40 else false) || (bif op == 2 || op == 3 then !decide (gw w 0 < (cl.length : Int)) else false))
abbrev SSt : Type := Int × Int × Bool × Li × Li
/-- An instruction done: a trap; pc, signature, done, stack, cells. -/
def doS (op : Int) (w : Li) (pc sig : Int) (dn : Bool) (st cl : Li) : Int × SSt :=
  bif op == 1 then (0, pc, sig, dn, st ++ [gw w 0], cl) else
  bif op == 2 then (0, pc, sig, dn, st ++ [rg_ cl (gw w 0)], cl) else
  bif op == 3 then (0, pc, sig, dn, bs 1 st, cl.set (gw w 0).toNat (tk 1 st 0)) else
  bif op == 4 then (
    bif !(decide (0 ≤ sgn (tk 1 st 0)) && decide (sgn (tk 1 st 0) ≤ gw w 1 - 1)) then (3, pc, sig, dn, st, cl) else
    bif !decide (gw w 0 + sgn (tk 1 st 0) < (cl.length : Int)) then (1, pc, sig, dn, st, cl) else
    (0, pc, sig, dn, bs 1 st ++ [rg_ cl (gw w 0 + sgn (tk 1 st 0))], cl)) else
  bif op == 5 then (
    bif !(decide (0 ≤ sgn (tk 2 st 0)) && decide (sgn (tk 2 st 0) ≤ gw w 1 - 1)) then (3, pc, sig, dn, st, cl) else
    bif !decide (gw w 0 + sgn (tk 2 st 0) < (cl.length : Int)) then (1, pc, sig, dn, st, cl) else
    (0, pc, sig, dn, bs 2 st, cl.set (gw w 0 + sgn (tk 2 st 0)).toNat (tk 2 st 1))) else
  bif op == 6 then (
    bif (binw (gw w 0) (tk 2 st 0) (tk 2 st 1)).1 == 0 then (0, pc, sig, dn, bs 2 st ++ [(binw (gw w 0) (tk 2 st 0) (tk 2 st 1)).2], cl) else
    bif (binw (gw w 0) (tk 2 st 0) (tk 2 st 1)).1 == 3 then (1, pc, sig, dn, st, cl) else ((binw (gw w 0) (tk 2 st 0) (tk 2 st 1)).1, pc, sig, dn, st, cl)) else
  bif op == 7 then (0, pc, sig, dn, bs 1 st ++ [negw (tk 1 st 0)], cl) else
  bif op == 8 then (0, pc, sig, dn, bs 1 st ++ [notw (tk 1 st 0)], cl) else
  bif op == 9 then (0, pc, sig, dn, bs 1 st ++ [bif tk 1 st 0 != 0 then 1 else 0], cl) else
  bif op == 10 then (0, gw w 0, sig, dn, st, cl) else
  bif op == 11 then (bif tk 1 st 0 == 0 then (0, gw w 0, sig, dn, bs 1 st, cl) else (0, pc, sig, dn, bs 1 st, cl)) else
  bif op == 12 then (0, pc, sigw sig (gw w 0), dn, st, cl) else
  bif op == 13 then (0, pc, sig, true, st, cl) else (0, pc, sig, dn, st, cl)
abbrev outS (us tr : Int) (r : Int × SSt) : (Int × Unit) × ((Int × Li × Int × Int × Int × Bool × Unit) × Unit) × (Li × Unit) :=
  ((r.1, ()), ((r.2.1, (r.2.2.2.2.1, (r.2.2.1, (us, (tr, (r.2.2.2.1, ())))))), ()), (r.2.2.2.2.2, ()))
theorem p_smdo_f2 (x pc : Int) (st : Li) (sig us tr : Int) (dn : Bool) (cl : Li) : F_impl_StackMachine_do_f2 x pc st sig us tr dn cl = some ((decide (x < (cl.length : Int)), ()), ((), ((pc, (st, (sig, (us, (tr, (dn, ())))))), ())), (cl, ())) := rfl
theorem p_smdo_f1 (x left pc : Int) (st : Li) (sig us tr : Int) (dn : Bool) (cl : Li) (h0 : 0 ≤ left) (h1 : left ≤ (st.length : Int)) (h2 : st.length ≤ 40) :
    F_impl_StackMachine_do_f1 x left pc st sig us tr dn cl = some ((), ((), ((left, ()), ((pc, (sig, (us, (tr, (dn, ()))))), ()))), (st.take left.toNat ++ [x], (cl, ()))) := by
  unfold F_impl_StackMachine_do_f1
  rw [decide_eq_true (show left = left from rfl), decide_eq_true (show 0 ≤ (0 : Int) ∧ (0 : Int) ≤ left ∧ left ≤ (st.length : Int) from ⟨Int.le_refl _, h0, h1⟩)]
  have : room (((st.take left.toNat).drop (Int.toNat 0)) ++ [x]).length 8 = true := by simp [room]; omega
  simp only [cond_true, this, List.isEmpty_cons, Bool.not_false, Bool.or_true]
  rfl
theorem tTab (op : Int) (h : 1 ≤ op ∧ op ≤ 13) : ib op ([(0 : Int), (0 : Int), (0 : Int), (1 : Int), (1 : Int), (2 : Int), (2 : Int), (1 : Int), (1 : Int), (1 : Int), (0 : Int), (1 : Int), (0 : Int), (0 : Int)]).length = true ∧
    ([(0 : Int), (0 : Int), (0 : Int), (1 : Int), (1 : Int), (2 : Int), (2 : Int), (1 : Int), (1 : Int), (1 : Int), (0 : Int), (1 : Int), (0 : Int), (0 : Int)]).getD (Int.toNat op) 0 = (takesS op : Int) := by
  rcases ops13 h with rfl | rfl | rfl | rfl | rfl | rfl | rfl | rfl | rfl | rfl | rfl | rfl | rfl <;> exact ⟨rfl, rfl⟩
theorem takesS_le (op : Int) : takesS op ≤ 2 := by
  unfold takesS
  cases (op == 5 || op == 6) <;> cases (op == 3 || op == 4 || op == 7 || op == 8 || op == 9 || op == 11) <;> simp
theorem drop1 {st : Li} {L : Nat} (h : st.length = L + 1) : st.drop L = [tk 1 st 0] ∧ bs 1 st = st.take L := by
  have hlt : L < st.length := by omega
  refine ⟨?_, by show st.take (st.length - 1) = _; rw [h]; rfl⟩
  rw [List.drop_eq_getElem_cons hlt, List.drop_of_length_le (by omega)]
  show [st[L]] = [st.getD (st.length - 1 + 0) 0]
  rw [show st.length - 1 + 0 = L by omega, List.getD_eq_getElem?_getD, List.getElem?_eq_getElem hlt]; rfl
theorem drop2 {st : Li} {L : Nat} (h : st.length = L + 2) : st.drop L = [tk 2 st 0, tk 2 st 1] ∧ bs 2 st = st.take L := by
  have hlt : L < st.length := by omega
  have hlt2 : L + 1 < st.length := by omega
  refine ⟨?_, by show st.take (st.length - 2) = _; rw [h]; rfl⟩
  rw [List.drop_eq_getElem_cons hlt, List.drop_eq_getElem_cons hlt2, List.drop_of_length_le (by omega)]
  show [st[L], st[L + 1]] = [st.getD (st.length - 2 + 0) 0, st.getD (st.length - 2 + 1) 0]
  rw [show st.length - 2 + 0 = L by omega, show st.length - 2 + 1 = L + 1 by omega, List.getD_eq_getElem?_getD, List.getElem?_eq_getElem hlt, List.getD_eq_getElem?_getD, List.getElem?_eq_getElem hlt2]; rfl
theorem beq40 (n : Nat) : (((n : Nat) : Int) == 40) = (n == 40) := by
  rw [Bool.eq_iff_iff]; simp; omega
theorem i0c (n : Nat) (h : 0 < n) : ib (0 : Int) n = true := by simp [ib]; omega
theorem i1c (n : Nat) (h : 1 < n) : ib (1 : Int) n = true := by simp [ib]; omega

theorem p_impl_StackMachine_do (op : Int) (w : Li) (pc : Int) (st : Li) (sig us tr : Int) (dn : Bool) (cl : Li) (h : 1 ≤ op ∧ op ≤ 13) (hw : w.length = argsS op) (hww : aw w) (hs : st.length ≤ 40) (hsw : aw st) (hc : cl.length ≤ 80) :
    F_impl_StackMachine_do op w pc st sig us tr dn cl = some (outS us tr (bif badS op w st cl then (1, pc, sig, dn, st, cl) else doS op w pc sig dn st cl)) := by
  have ht := takesS_le op
  have hwr := wrap_id (x := (st.length : Int) - (takesS op : Int)) (by omega) (by omega)
  unfold F_impl_StackMachine_do
  simp only [kz, (tTab op h).1, (tTab op h).2, cond_true, hwr]
  by_cases hlt : st.length < takesS op
  · rw [decide_eq_true (show (st.length : Int) - (takesS op : Int) < 0 by omega)]
    simp only [badS, decide_eq_true hlt, Bool.true_or, cond_true]
  · obtain ⟨L, hL⟩ : ∃ L : Nat, st.length = L + takesS op := ⟨st.length - takesS op, by omega⟩
    have hL2 : (st.length : Int) - (takesS op : Int) = (L : Int) := by omega
    have hd : (st.drop L).length ≤ 1048576 := by simp; omega
    simp only [hL2, Int.toNat_natCast, List.take_length, p_slices_Clone_int64 _ hd, Option.bind_some]
    rw [decide_eq_false (show ¬ ((L : Int) < 0) by omega), decide_eq_true (show 0 ≤ (L : Int) ∧ (L : Int) ≤ (st.length : Int) ∧ (st.length : Int) ≤ (st.length : Int) by omega)]
    have hbad : badS op w st cl = ((bif op == 1 || op == 2 then st.length == 40 else false) || (bif op == 2 || op == 3 then !decide (gw w 0 < (cl.length : Int)) else false)) := by
      simp only [badS, decide_eq_false hlt, Bool.false_or]
    rw [hbad]
    clear hbad hwr ht
    rcases ops13 h with rfl | rfl | rfl | rfl | rfl | rfl | rfl | rfl | rfl | rfl | rfl | rfl | rfl
    all_goals simp only [Int.reduceBEq, cond_true, cond_false, Bool.or_true, Bool.true_or, Bool.or_false, Bool.false_or, doS]
    · obtain ⟨a, rfl⟩ := len1 hw
      have hL : st.length = L := hL
      subst hL
      simp only [List.length_cons, List.length_nil, Nat.zero_add, Nat.reduceAdd, i01, i02, i12, Int.reduceToNat, List.getD_cons_zero, List.getD_cons_succ, gw, rg_, p_smdo_f2, Option.bind_some, p_impl_SignedOf, p_impl_within, p_impl_NegOf, p_impl_NotOf, p_impl_SignOf, p_impl_flag, cond_true, cond_false, (fun x => p_smdo_f1 x (st.length : Int) pc st sig us tr dn cl (by omega) (by omega) hs), Int.toNat_natCast, List.take_length, beq40]
      cases (st.length == 40) <;> rfl
    · obtain ⟨a, rfl⟩ := len1 hw
      have hL : st.length = L := hL
      subst hL
      have hwa : isWd a := hww a (by simp)
      unfold isWd at hwa
      simp only [List.length_cons, List.length_nil, Nat.zero_add, Nat.reduceAdd, i01, i02, i12, Int.reduceToNat, List.getD_cons_zero, List.getD_cons_succ, gw, rg_, p_smdo_f2, Option.bind_some, p_impl_SignedOf, p_impl_within, p_impl_NegOf, p_impl_NotOf, p_impl_SignOf, p_impl_flag, cond_true, cond_false, (fun x => p_smdo_f1 x (st.length : Int) pc st sig us tr dn cl (by omega) (by omega) hs), Int.toNat_natCast, List.take_length, beq40]
      cases hk : decide (a < (cl.length : Int))
      · cases (st.length == 40) <;> rfl
      · cases (st.length == 40)
        · rw [ib_in hwa.1 (of_decide_eq_true hk)]; rfl
        · rfl
    · obtain ⟨a, rfl⟩ := len1 hw
      have hwa : isWd a := hww a (by simp)
      unfold isWd at hwa
      obtain ⟨d1, d2⟩ := drop1 (st := st) (L := L) hL
      have hp : decide (0 ≤ (0 : Int) ∧ (0 : Int) ≤ (L : Int) ∧ (L : Int) ≤ (st.length : Int)) = true := decide_eq_true (by have : st.length = L + 1 := hL; omega)
      simp only [List.length_cons, List.length_nil, Nat.zero_add, Nat.reduceAdd, i01, i02, i12, Int.reduceToNat, List.getD_cons_zero, List.getD_cons_succ, gw, rg_, p_smdo_f2, Option.bind_some, p_impl_SignedOf, p_impl_within, p_impl_NegOf, p_impl_NotOf, p_impl_SignOf, p_impl_flag, cond_true, cond_false, d1, d2, hp, Int.toNat_natCast, List.drop_zero]
      cases hk : decide (a < (cl.length : Int))
      · rfl
      · rw [ib_in hwa.1 (of_decide_eq_true hk)]; rfl
    · obtain ⟨a, b, rfl⟩ := len2 hw
      have hwa : isWd a := hww a (by simp)
      have hwb : isWd b := hww b (by simp)
      unfold isWd at hwa hwb
      have hL : st.length = L + 1 := hL
      obtain ⟨d1, d2⟩ := drop1 hL
      rw [d1, d2]
      generalize tk 1 st 0 = x
      have hsg := sgn_in x
      have e1 := wrap_id (x := b - 1) (by omega) (by omega)
      have e2 := wrap_id (x := a + sgn x) (by omega) (by omega)
      simp only [List.length_cons, List.length_nil, Nat.zero_add, Nat.reduceAdd, i01, i02, i12, Int.reduceToNat, List.getD_cons_zero, List.getD_cons_succ, gw, rg_, p_smdo_f2, Option.bind_some, p_impl_SignedOf, p_impl_within, p_impl_NegOf, p_impl_NotOf, p_impl_SignOf, p_impl_flag, cond_true, cond_false, e1, e2, (fun x => p_smdo_f1 x (L : Int) pc st sig us tr dn cl (by omega) (by omega) hs), Int.toNat_natCast]
      cases hk : (decide (0 ≤ sgn x) && decide (sgn x ≤ b - 1))
      · rfl
      · simp only [Bool.and_eq_true, decide_eq_true_eq] at hk
        cases hd' : decide (a + sgn x < (cl.length : Int))
        · rfl
        · rw [ib_in (x := a + sgn x) (by omega) (of_decide_eq_true hd')]; rfl
    · obtain ⟨a, b, rfl⟩ := len2 hw
      have hwa : isWd a := hww a (by simp)
      have hwb : isWd b := hww b (by simp)
      unfold isWd at hwa hwb
      have hL : st.length = L + 2 := hL
      obtain ⟨d1, d2⟩ := drop2 hL
      have hp : decide (0 ≤ (0 : Int) ∧ (0 : Int) ≤ (L : Int) ∧ (L : Int) ≤ (st.length : Int)) = true := decide_eq_true (by omega)
      rw [d1, d2]
      generalize tk 2 st 0 = x
      generalize tk 2 st 1 = y
      have hsg := sgn_in x
      have e1 := wrap_id (x := b - 1) (by omega) (by omega)
      have e2 := wrap_id (x := a + sgn x) (by omega) (by omega)
      simp only [List.length_cons, List.length_nil, Nat.zero_add, Nat.reduceAdd, i01, i02, i12, Int.reduceToNat, List.getD_cons_zero, List.getD_cons_succ, gw, rg_, p_smdo_f2, Option.bind_some, p_impl_SignedOf, p_impl_within, p_impl_NegOf, p_impl_NotOf, p_impl_SignOf, p_impl_flag, cond_true, cond_false, e1, e2, hp, Int.toNat_natCast, List.drop_zero]
      cases hk : (decide (0 ≤ sgn x) && decide (sgn x ≤ b - 1))
      · rfl
      · simp only [Bool.and_eq_true, decide_eq_true_eq] at hk
        cases hd' : decide (a + sgn x < (cl.length : Int))
        · rfl
        · rw [ib_in (x := a + sgn x) (by omega) (of_decide_eq_true hd')]; rfl
    · obtain ⟨a, rfl⟩ := len1 hw
      have hL : st.length = L + 2 := hL
      obtain ⟨d1, d2⟩ := drop2 hL
      have hx : isWd (tk 2 st 0) := aw_getD hsw _
      have hy : isWd (tk 2 st 1) := aw_getD hsw _
      rw [d1, d2]
      simp only [List.length_cons, List.length_nil, Nat.zero_add, Nat.reduceAdd, i01, i02, i12, Int.reduceToNat, List.getD_cons_zero, List.getD_cons_succ, gw, rg_, p_smdo_f2, Option.bind_some, p_impl_SignedOf, p_impl_within, p_impl_NegOf, p_impl_NotOf, p_impl_SignOf, p_impl_flag, cond_true, cond_false, p_impl_BinaryOf _ _ _ hx hy, (fun x => p_smdo_f1 x (L : Int) pc st sig us tr dn cl (by omega) (by omega) hs), Int.toNat_natCast]
      cases h0 : ((binw a (tk 2 st 0) (tk 2 st 1)).1 == 0)
      · cases h3 : ((binw a (tk 2 st 0) (tk 2 st 1)).1 == 3) <;> rfl
      · rfl
    · have hL : st.length = L + 1 := hL
      obtain ⟨d1, d2⟩ := drop1 hL
      rw [d1, d2]
      simp only [List.length_cons, List.length_nil, Nat.zero_add, Nat.reduceAdd, i01, i02, i12, Int.reduceToNat, List.getD_cons_zero, List.getD_cons_succ, gw, rg_, p_smdo_f2, Option.bind_some, p_impl_SignedOf, p_impl_within, p_impl_NegOf, p_impl_NotOf, p_impl_SignOf, p_impl_flag, cond_true, cond_false, (fun x => p_smdo_f1 x (L : Int) pc st sig us tr dn cl (by omega) (by omega) hs), Int.toNat_natCast]
    · have hL : st.length = L + 1 := hL
      obtain ⟨d1, d2⟩ := drop1 hL
      rw [d1, d2]
      simp only [List.length_cons, List.length_nil, Nat.zero_add, Nat.reduceAdd, i01, i02, i12, Int.reduceToNat, List.getD_cons_zero, List.getD_cons_succ, gw, rg_, p_smdo_f2, Option.bind_some, p_impl_SignedOf, p_impl_within, p_impl_NegOf, p_impl_NotOf, p_impl_SignOf, p_impl_flag, cond_true, cond_false, (fun x => p_smdo_f1 x (L : Int) pc st sig us tr dn cl (by omega) (by omega) hs), Int.toNat_natCast]
    · have hL : st.length = L + 1 := hL
      obtain ⟨d1, d2⟩ := drop1 hL
      rw [d1, d2]
      simp only [List.length_cons, List.length_nil, Nat.zero_add, Nat.reduceAdd, i01, i02, i12, Int.reduceToNat, List.getD_cons_zero, List.getD_cons_succ, gw, rg_, p_smdo_f2, Option.bind_some, p_impl_SignedOf, p_impl_within, p_impl_NegOf, p_impl_NotOf, p_impl_SignOf, p_impl_flag, cond_true, cond_false, (fun x => p_smdo_f1 x (L : Int) pc st sig us tr dn cl (by omega) (by omega) hs), Int.toNat_natCast]
    · obtain ⟨a, rfl⟩ := len1 hw
      rfl
    · obtain ⟨a, rfl⟩ := len1 hw
      have hL : st.length = L + 1 := hL
      obtain ⟨d1, d2⟩ := drop1 hL
      have hp : decide (0 ≤ (0 : Int) ∧ (0 : Int) ≤ (L : Int) ∧ (L : Int) ≤ (st.length : Int)) = true := decide_eq_true (by omega)
      rw [d1, d2]
      simp only [List.length_cons, List.length_nil, Nat.zero_add, Nat.reduceAdd, i01, i02, i12, Int.reduceToNat, List.getD_cons_zero, List.getD_cons_succ, gw, rg_, p_smdo_f2, Option.bind_some, p_impl_SignedOf, p_impl_within, p_impl_NegOf, p_impl_NotOf, p_impl_SignOf, p_impl_flag, cond_true, cond_false, hp, Int.toNat_natCast, List.drop_zero]
      cases (tk 1 st 0 == 0) <;> rfl
    · obtain ⟨a, rfl⟩ := len1 hw
      simp only [List.length_cons, List.length_nil, Nat.zero_add, Nat.reduceAdd, i01, i02, i12, Int.reduceToNat, List.getD_cons_zero, List.getD_cons_succ, gw, rg_, p_smdo_f2, Option.bind_some, p_impl_SignedOf, p_impl_within, p_impl_NegOf, p_impl_NotOf, p_impl_SignOf, p_impl_flag, cond_true, cond_false]

abbrev SM : Type := Int × Li × Li × Int × Int × Int × Bool

theorem p_spec_l8Push (x pc sig us tr : Int) (dn : Bool) (st cl : Li) (h : st.length ≤ 1000) : F_spec_l8Push x pc sig us tr dn st cl = some ((), ((pc, (sig, (us, (tr, (dn, ()))))), ()), (st ++ [x], (cl, ()))) := by
  unfold F_spec_l8Push
  rw [show room (st ++ [x]).length 8 = true by simp [room]; omega]; rfl

theorem p_spec_l8Pop (pc sig us tr : Int) (dn : Bool) (st cl : Li) (L : Nat) (h : st.length = L + 1) (hs : L ≤ 1000) : F_spec_l8Pop pc sig us tr dn st cl = some ((tk 1 st 0, ()), ((pc, (sig, (us, (tr, (dn, ()))))), ()), (st.take L, (cl, ()))) := by
  unfold F_spec_l8Pop
  have e1 : IntKind.wrap .i64 ((st.length : Int) - 1) = (L : Int) := by rw [wrap_id (by omega) (by omega)]; omega
  rw [e1, ib_in (show (0 : Int) ≤ (L : Int) by omega) (show (L : Int) < (st.length : Int) by omega), decide_eq_true (show 0 ≤ (0 : Int) ∧ (0 : Int) ≤ (L : Int) ∧ (L : Int) ≤ (st.length : Int) by omega)]
  simp only [cond_true, Int.toNat_natCast, kz, Int.reduceToNat, List.drop_zero, Nat.sub_zero, tk]
  rw [show st.length - 1 + 0 = L by omega]

theorem tk_take {st : Li} {M : Nat} (h : st.length = M + 2) : tk 1 (st.take (M + 1)) 0 = tk 2 st 0 ∧ tk 1 st 0 = tk 2 st 1 ∧ (st.take (M + 1)).take M = st.take M ∧ (st.take (M + 1)).length = M + 1 := by
  refine ⟨?_, ?_, ?_, ?_⟩
  · show (st.take (M + 1)).getD ((st.take (M + 1)).length - 1 + 0) 0 = st.getD (st.length - 2 + 0) 0
    rw [List.length_take, show min (M + 1) st.length - 1 + 0 = M by omega, show st.length - 2 + 0 = M by omega, List.getD_eq_getElem?_getD, List.getD_eq_getElem?_getD, List.getElem?_take, if_pos (by omega)]
  · show st.getD (st.length - 1 + 0) 0 = st.getD (st.length - 2 + 1) 0
    rw [show st.length - 1 + 0 = st.length - 2 + 1 by omega]
  · rw [List.take_take, show min M (M + 1) = M by omega]
  · rw [List.length_take]; omega

theorem p_spec_l8Row (m : SM) (first size index : Int) (hf : -100000 ≤ first) (hf2 : first ≤ 100000) (hz : -100000 ≤ size) (hz2 : size ≤ 100000) : F_spec_l8Row m first size index =
    some ((bif !(decide (0 ≤ sgn index) && decide (sgn index ≤ size - 1)) then (0, (3, ())) else
      bif !decide (first + sgn index < (m.2.2.1.length : Int)) then (0, (1, ())) else (first + sgn index, (0, ()))), (), ()) := by
  have hsg := sgn_in index
  simp only [F_spec_l8Row, p_spec_SignedOf, p_spec_l1In, Option.bind_some, wrap_id (x := size - 1) (by omega) (by omega), wrap_id (x := first + sgn index) (by omega) (by omega)]
  cases (decide (0 ≤ sgn index) && decide (sgn index ≤ size - 1))
  · rfl
  · simp only [Bool.not_true, cond_false]
    by_cases h : first + sgn index < (m.2.2.1.length : Int)
    · rw [decide_eq_true h, decide_eq_false (show ¬ first + sgn index ≥ (m.2.2.1.length : Int) by omega)]; rfl
    · rw [decide_eq_false h, decide_eq_true (show first + sgn index ≥ (m.2.2.1.length : Int) by omega)]; rfl

abbrev outSp8 (op pc sig us tr : Int) (dn : Bool) (st cl : Li) (r : Int × SSt) : (Int × Unit) × ((Int × Int × Int × Int × Bool × Unit) × Unit) × (Li × Li × Unit) :=
  bif r.1 != 0 then ((r.1, ()), ((pc, (sig, (us, (tr, (dn, ()))))), ()), (bs (takesS op) st, (cl, ()))) else ((r.1, ()), ((r.2.1, (r.2.2.1, (us, (tr, (r.2.2.2.1, ()))))), ()), (r.2.2.2.2.1, (r.2.2.2.2.2, ())))

theorem p_spec_l8Do (code : Li) (pc sig us tr : Int) (dn : Bool) (st cl : Li) (op : Int) (w : Li) (hop : code.getD pc.toNat 0 = op) (h : 1 ≤ op ∧ op ≤ 13) (hib : ib pc code.length = true) (h0 : 0 ≤ pc) (h1 : pc ≤ 65535) (hw : w.length = argsS op) (hww : aw w)
    (hg : ∀ i : Nat, i < argsS op → code.getD (pc + (i + 1 : Nat)).toNat 0 = gw w i ∧ ib (pc + (i + 1 : Nat)) code.length = true) (hs : st.length ≤ 40) (hsw : aw st) (hc : cl.length ≤ 80) (hb : badS op w st cl = false) :
    F_spec_l8Do code pc sig us tr dn st cl = some (outSp8 op pc sig us tr dn st cl (doS op w (pc + 1 + argsS op) sig dn st cl)) := by
  have ha := argsS_le op
  have e2 := wrap_id (x := pc + 1) (by omega) (by omega)
  have e4 := wrap_id (x := pc + 2) (by omega) (by omega)
  have e3 := wrap_id (x := pc + 1 + (argsS op : Int)) (by omega) (by omega)
  unfold F_spec_l8Do
  simp only [p_spec_l8Args, Option.bind_some, kz, hop, hib, e2, e3, e4, cond_true]
  clear e3 e2 e4
  have tk0 : ¬ st.length < takesS op := by
    intro hlt
    simp only [badS, decide_eq_true hlt, Bool.true_or] at hb
    cases hb
  have P := fun (x a b c d : Int) (e : Bool) (s l : Li) (hh : s.length ≤ 1000) => p_spec_l8Push x a b c d e s l hh
  rcases ops13 h with rfl | rfl | rfl | rfl | rfl | rfl | rfl | rfl | rfl | rfl | rfl | rfl | rfl
  all_goals simp only [Int.reduceBEq, cond_true, cond_false, Bool.or_true, Bool.true_or, Bool.or_false, Bool.false_or, doS, badS] at hb ⊢
  · obtain ⟨g1, g2⟩ := hg 0 (by decide)
    have g1 : code.getD (pc + 1).toNat 0 = gw w 0 := g1
    have g2 : ib (pc + 1) code.length = true := g2
    simp only [g1, g2, cond_true, p_spec_l8Push _ _ _ _ _ _ st _ (by omega), Option.bind_some]; rfl
  · obtain ⟨g1, g2⟩ := hg 0 (by decide)
    have g1 : code.getD (pc + 1).toNat 0 = gw w 0 := g1
    have g2 : ib (pc + 1) code.length = true := g2
    have hwa := aw_gw hww 0
    unfold isWd at hwa
    simp only [Bool.or_eq_false_iff, Bool.not_eq_false', decide_eq_true_eq] at hb
    simp only [g1, g2, cond_true, ib_in hwa.1 hb.2.2, p_spec_l8Push _ _ _ _ _ _ st _ (by omega), Option.bind_some]; rfl
  · obtain ⟨g1, g2⟩ := hg 0 (by decide)
    have g1 : code.getD (pc + 1).toNat 0 = gw w 0 := g1
    have g2 : ib (pc + 1) code.length = true := g2
    have hwa := aw_gw hww 0
    unfold isWd at hwa
    simp only [Bool.or_eq_false_iff, Bool.not_eq_false', decide_eq_true_eq] at hb
    obtain ⟨L, hL⟩ : ∃ L, st.length = L + 1 := ⟨st.length - 1, by have : takesS 3 = 1 := rfl; omega⟩
    simp only [p_spec_l8Pop _ _ _ _ _ st _ L hL (by omega), g1, g2, cond_true, ib_in hwa.1 hb.2, Option.bind_some, (drop1 hL).2]; rfl
  · obtain ⟨g1, g2⟩ := hg 0 (by decide)
    have g1 : code.getD (pc + 1).toNat 0 = gw w 0 := g1
    have g2 : ib (pc + 1) code.length = true := g2
    obtain ⟨g3, g4⟩ := hg 1 (by decide)
    have g3 : code.getD (pc + 2).toNat 0 = gw w 1 := g3
    have g4 : ib (pc + 2) code.length = true := g4
    have hwa := aw_gw hww 0
    have hwb := aw_gw hww 1
    unfold isWd at hwa hwb
    obtain ⟨L, hL⟩ : ∃ L, st.length = L + 1 := ⟨st.length - 1, by have : takesS 4 = 1 := rfl; omega⟩
    simp only [p_spec_l8Pop _ _ _ _ _ st _ L hL (by omega), g1, g2, g3, g4, cond_true, Option.bind_some, (drop1 hL).2]
    generalize tk 1 st 0 = x
    generalize gw w 0 = a at *
    generalize gw w 1 = b at *
    rw [p_spec_l8Row _ a b x (by omega) (by omega) (by omega) (by omega)]
    simp only [Option.bind_some]
    cases hk : (decide (0 ≤ sgn x) && decide (sgn x ≤ b - 1))
    · simp only [Bool.not_false, cond_true]
      simp only [outSp8, show bs (takesS 4) st = st.take L from (drop1 hL).2]; rfl
    · simp only [Bool.and_eq_true, decide_eq_true_eq] at hk
      simp only [Bool.not_true, cond_false]
      cases hd' : decide (a + sgn x < (cl.length : Int))
      · simp only [Bool.not_false, cond_true]
        simp only [outSp8, show bs (takesS 4) st = st.take L from (drop1 hL).2]; rfl
      · simp only [Bool.not_true, cond_false]
        rw [ib_in (x := a + sgn x) (by omega) (of_decide_eq_true hd')]
        simp only [cond_true]
        rw [P _ _ _ _ _ _ (st.take L) _ (by rw [List.length_take]; omega)]; rfl
  · obtain ⟨g1, g2⟩ := hg 0 (by decide)
    have g1 : code.getD (pc + 1).toNat 0 = gw w 0 := g1
    have g2 : ib (pc + 1) code.length = true := g2
    obtain ⟨g3, g4⟩ := hg 1 (by decide)
    have g3 : code.getD (pc + 2).toNat 0 = gw w 1 := g3
    have g4 : ib (pc + 2) code.length = true := g4
    have hwa := aw_gw hww 0
    have hwb := aw_gw hww 1
    unfold isWd at hwa hwb
    obtain ⟨M, hM⟩ : ∃ M, st.length = M + 2 := ⟨st.length - 2, by have : takesS 5 = 2 := rfl; omega⟩
    obtain ⟨t1, t2, t3, t4⟩ := tk_take hM
    simp only [p_spec_l8Pop _ _ _ _ _ st _ (M + 1) hM (by omega), Option.bind_some, p_spec_l8Pop _ _ _ _ _ (st.take (M + 1)) _ M t4 (by omega), g1, g2, g3, g4, cond_true, (drop2 hM).2, t1, t2, t3]
    generalize tk 2 st 0 = x
    generalize tk 2 st 1 = y
    generalize gw w 0 = a at *
    generalize gw w 1 = b at *
    rw [p_spec_l8Row _ a b x (by omega) (by omega) (by omega) (by omega)]
    simp only [Option.bind_some]
    cases hk : (decide (0 ≤ sgn x) && decide (sgn x ≤ b - 1))
    · simp only [Bool.not_false, cond_true]
      simp only [outSp8, show bs (takesS 5) st = st.take M from (drop2 hM).2]; rfl
    · simp only [Bool.and_eq_true, decide_eq_true_eq] at hk
      simp only [Bool.not_true, cond_false]
      cases hd' : decide (a + sgn x < (cl.length : Int))
      · simp only [Bool.not_false, cond_true]
        simp only [outSp8, show bs (takesS 5) st = st.take M from (drop2 hM).2]; rfl
      · simp only [Bool.not_true, cond_false]
        rw [ib_in (x := a + sgn x) (by omega) (of_decide_eq_true hd')]
        rfl
  · obtain ⟨g1, g2⟩ := hg 0 (by decide)
    have g1 : code.getD (pc + 1).toNat 0 = gw w 0 := g1
    have g2 : ib (pc + 1) code.length = true := g2
    obtain ⟨M, hM⟩ : ∃ M, st.length = M + 2 := ⟨st.length - 2, by have : takesS 6 = 2 := rfl; omega⟩
    obtain ⟨t1, t2, t3, t4⟩ := tk_take hM
    have hx : isWd (tk 2 st 0) := aw_getD hsw _
    have hy : isWd (tk 2 st 1) := aw_getD hsw _
    simp only [p_spec_l8Pop _ _ _ _ _ st _ (M + 1) hM (by omega), Option.bind_some, p_spec_l8Pop _ _ _ _ _ (st.take (M + 1)) _ M t4 (by omega), g1, g2, cond_true, (drop2 hM).2, t1, t2, t3, p_spec_l2Binary _ _ _ hx hy]
    generalize binw (gw w 0) (tk 2 st 0) (tk 2 st 1) = z
    obtain ⟨z1, z2⟩ := z
    simp only
    cases h3 : (z1 == 3)
    · cases h0 : (z1 == 0)
      · have h0' : (z1 != 0) = true := by simp only [bne, h0, Bool.not_false]
        simp only [h0', cond_true, cond_false, outSp8, show bs (takesS 6) st = st.take M from (drop2 hM).2]
      · have hz : z1 = 0 := by simpa using h0
        subst hz
        rw [show ((0 : Int) != 0) = false from rfl]
        simp only [cond_true, cond_false]
        rw [P _ _ _ _ _ _ (st.take M) _ (by rw [List.length_take]; omega)]; rfl
    · have hz : z1 = 3 := by simpa using h3
      subst hz
      rw [show ((3 : Int) == 0) = false from rfl]
      simp only [cond_true, cond_false]
      simp only [outSp8, show bs (takesS 6) st = st.take M from (drop2 hM).2]; rfl
  · obtain ⟨L, hL⟩ : ∃ L, st.length = L + 1 := ⟨st.length - 1, by have : takesS 7 = 1 := rfl; omega⟩
    simp only [p_spec_l8Pop _ _ _ _ _ st _ L hL (by omega), p_spec_NegOf, p_spec_NotOf, p_spec_l6Least, Option.bind_some, (drop1 hL).2]
    rw [P _ _ _ _ _ _ (st.take L) _ (by rw [List.length_take]; omega)]; rfl
  · obtain ⟨L, hL⟩ : ∃ L, st.length = L + 1 := ⟨st.length - 1, by have : takesS 8 = 1 := rfl; omega⟩
    simp only [p_spec_l8Pop _ _ _ _ _ st _ L hL (by omega), p_spec_NegOf, p_spec_NotOf, p_spec_l6Least, Option.bind_some, (drop1 hL).2]
    rw [P _ _ _ _ _ _ (st.take L) _ (by rw [List.length_take]; omega)]; rfl
  · obtain ⟨L, hL⟩ : ∃ L, st.length = L + 1 := ⟨st.length - 1, by have : takesS 9 = 1 := rfl; omega⟩
    simp only [p_spec_l8Pop _ _ _ _ _ st _ L hL (by omega), p_spec_NegOf, p_spec_NotOf, p_spec_l6Least, Option.bind_some, (drop1 hL).2]
    rw [P _ _ _ _ _ _ (st.take L) _ (by rw [List.length_take]; omega)]; rfl
  · obtain ⟨g1, g2⟩ := hg 0 (by decide)
    have g1 : code.getD (pc + 1).toNat 0 = gw w 0 := g1
    have g2 : ib (pc + 1) code.length = true := g2
    simp only [g1, g2, cond_true]; rfl
  · obtain ⟨g1, g2⟩ := hg 0 (by decide)
    have g1 : code.getD (pc + 1).toNat 0 = gw w 0 := g1
    have g2 : ib (pc + 1) code.length = true := g2
    obtain ⟨L, hL⟩ : ∃ L, st.length = L + 1 := ⟨st.length - 1, by have : takesS 11 = 1 := rfl; omega⟩
    simp only [p_spec_l8Pop _ _ _ _ _ st _ L hL (by omega), Option.bind_some, (drop1 hL).2, g1, g2, cond_true]
    cases (tk 1 st 0 == 0) <;> rfl
  · obtain ⟨g1, g2⟩ := hg 0 (by decide)
    have g1 : code.getD (pc + 1).toNat 0 = gw w 0 := g1
    have g2 : ib (pc + 1) code.length = true := g2
    simp only [g1, g2, cond_true, p_spec_SignOf, Option.bind_some]; rfl
  · rfl

theorem wS {code : Li} {pc : Int} (h0 : 0 ≤ pc) (h : insOkS code pc = true) : ∀ i : Nat, i < argsS (opAt code pc) → code.getD (pc + (i + 1 : Nat)).toNat 0 = gw (wAtS code pc) i ∧ ib (pc + (i + 1 : Nat)) code.length = true := fun i hi => by
  obtain ⟨g1, g2, g3⟩ := insOkS_spec h
  refine ⟨?_, ib_in (by omega) (by omega)⟩
  unfold gw
  rw [wAtS_get h0 h hi]
  congr 1
  omega

theorem p_spec_l8Ready (code : Li) (m : SM) (h0 : 0 ≤ m.1) (h1 : m.1 ≤ 65535) (hn : code.length ≤ 400) (hs : m.2.1.length ≤ 40) :
    F_spec_l8Ready code m = some ((insOkS code m.1 && !badS (opAt code m.1) (wAtS code m.1) m.2.1 m.2.2.1, ()), (), ()) := by
  have ha := argsS_le (opAt code m.1)
  have e5 : code.getD m.1.toNat (0 : Int) = opAt code m.1 := rfl
  unfold F_spec_l8Ready
  simp only [p_spec_l8Args, p_spec_l1In, Option.bind_some, kz, e5]
  by_cases h2 : m.1 < (code.length : Int)
  · rw [decide_eq_false (show ¬ m.1 ≥ (code.length : Int) by omega), ib_in h0 h2]
    simp only [cond_false, cond_true, Option.bind_some]
    cases h3 : (decide ((1 : Int) ≤ opAt code m.1) && decide (opAt code m.1 ≤ 13))
    · simp only [insOkS, h3, Bool.false_and, Bool.and_false]; rfl
    · simp only [Bool.not_true, cond_false]
      have g2 : 1 ≤ opAt code m.1 ∧ opAt code m.1 ≤ 13 := by simpa using h3
      have e1 := wrap_id (x := m.1 + (argsS (opAt code m.1) : Int)) (by omega) (by omega)
      simp only [e1]
      by_cases h4 : m.1 + (argsS (opAt code m.1) : Int) < (code.length : Int)
      · have hins : insOkS code m.1 = true := by simp only [insOkS, decide_eq_true h2, h3, decide_eq_true h4, Bool.and_true]
        rw [decide_eq_false (show ¬ m.1 + (argsS (opAt code m.1) : Int) ≥ (code.length : Int) by omega), hins]
        have hw := wS h0 hins
        simp only [cond_false, p_spec_l8Takes _ g2, Option.bind_some, Bool.true_and]
        have ht := takesS_le (opAt code m.1)
        have hp : putsS (opAt code m.1) ≤ 1 := by
          unfold putsS
          cases (opAt code m.1 == 1 || opAt code m.1 == 2 || opAt code m.1 == 4 || opAt code m.1 == 6 || opAt code m.1 == 7 || opAt code m.1 == 8 || opAt code m.1 == 9) <;> simp
        rw [wrap_id (x := (m.2.1.length : Int) - (takesS (opAt code m.1) : Int)) (by omega) (by omega), wrap_id (x := (m.2.1.length : Int) - (takesS (opAt code m.1) : Int) + (putsS (opAt code m.1) : Int)) (by omega) (by omega)]
        have e6 := wrap_id (x := m.1 + 1) (by omega) (by omega)
        simp only [badS]
        by_cases hl : m.2.1.length < takesS (opAt code m.1)
        · rw [decide_eq_true (show (m.2.1.length : Int) < (takesS (opAt code m.1) : Int) by omega), decide_eq_true hl]; rfl
        · rw [decide_eq_false (show ¬ (m.2.1.length : Int) < (takesS (opAt code m.1) : Int) by omega), decide_eq_false hl]
          have hA : decide ((m.2.1.length : Int) - (takesS (opAt code m.1) : Int) + (putsS (opAt code m.1) : Int) > 40) = (bif opAt code m.1 == 1 || opAt code m.1 == 2 then m.2.1.length == 40 else false) := by
            rcases ops13 g2 with e | e | e | e | e | e | e | e | e | e | e | e | e <;> rw [e] <;> simp only [Int.reduceBEq, cond_true, cond_false, Bool.or_true, Bool.true_or, Bool.or_false, takesS, putsS] <;>
              rw [Bool.eq_iff_iff] <;> simp <;> omega
          simp only [cond_false, Option.bind_some, hA, Bool.false_or, e6]
          cases (bif opAt code m.1 == 1 || opAt code m.1 == 2 then m.2.1.length == 40 else false)
          · simp only [cond_false, Bool.false_or]
            cases h22 : (opAt code m.1 == 2)
            · cases h33 : (opAt code m.1 == 3)
              · rfl
              · have ek : opAt code m.1 = 3 := by simpa using h33
                rw [ek] at hw
                obtain ⟨k1, k2⟩ := hw 0 (by decide)
                have k1 : code.getD (m.1 + 1).toNat 0 = gw (wAtS code m.1) 0 := k1
                have k2 : ib (m.1 + 1) code.length = true := k2
                simp only [cond_true, cond_false, Option.bind_some, k1, k2, Bool.or_true, Bool.not_not]
            · have ek : opAt code m.1 = 2 := by simpa using h22
              rw [ek] at hw
              obtain ⟨k1, k2⟩ := hw 0 (by decide)
              have k1 : code.getD (m.1 + 1).toNat 0 = gw (wAtS code m.1) 0 := k1
              have k2 : ib (m.1 + 1) code.length = true := k2
              simp only [cond_true, cond_false, Option.bind_some, k1, k2, Bool.true_or, Bool.not_not]
          · rfl
      · rw [decide_eq_true (show m.1 + (argsS (opAt code m.1) : Int) ≥ (code.length : Int) by omega)]
        simp only [insOkS, decide_eq_false h4, Bool.and_false, Bool.false_and, cond_true]
  · rw [decide_eq_true (show m.1 ≥ (code.length : Int) by omega)]
    simp only [insOkS, decide_eq_false h2, Bool.false_and]; rfl

abbrev dS (code : Li) (m : SM) : Int × SSt := doS (opAt code m.1) (wAtS code m.1) (m.1 + 1 + argsS (opAt code m.1)) m.2.2.2.1 m.2.2.2.2.2.2 m.2.1 m.2.2.1
/-- A step. -/
def stepS (code : Li) (m : SM) : SM :=
  bif m.2.2.2.2.2.2 || m.2.2.2.2.2.1 != 0 then m else
  bif insOkS code m.1 && !badS (opAt code m.1) (wAtS code m.1) m.2.1 m.2.2.1 then (
    bif (dS code m).1 != 0 then (m.1, m.2.1, m.2.2.1, m.2.2.2.1, min (m.2.2.2.2.1 + 1) 1000000, (dS code m).1, m.2.2.2.2.2.2)
    else ((dS code m).2.1, (dS code m).2.2.2.2.1, (dS code m).2.2.2.2.2, (dS code m).2.2.1, min (m.2.2.2.2.1 + 1) 1000000, 0, (dS code m).2.2.2.1))
  else (m.1, m.2.1, m.2.2.1, m.2.2.2.1, min (m.2.2.2.2.1 + 1) 1000000, 1, m.2.2.2.2.2.2)
/-- What is so of each machine. -/
structure SMok (m : SM) : Prop where
  pc0 : 0 ≤ m.1
  pc1 : m.1 ≤ 65535
  sl : m.2.1.length ≤ 40
  sw : aw m.2.1
  cl : m.2.2.1.length ≤ 80
  cw : aw m.2.2.1
  sg : isWd m.2.2.2.1
  us0 : 0 ≤ m.2.2.2.2.1
  us1 : m.2.2.2.2.1 ≤ 1000000
  t0 : 0 ≤ m.2.2.2.2.2.1
  t1 : m.2.2.2.2.2.1 ≤ 10

theorem p_spec_l8Copy (m : SM) (h : m.2.1.length ≤ 1048576) (h' : m.2.2.1.length ≤ 1048576) :
    F_spec_l8Copy m = some (((m.1, (m.2.2.2.1, (m.2.2.2.2.1, (m.2.2.2.2.2.1, (m.2.2.2.2.2.2, ()))))), ()), (), (m.2.1, (m.2.2.1, ()))) := by
  simp only [F_spec_l8Copy, room8 h, room8 h', cond_true]; rfl

abbrev outM (m : SM) : ((Int × Int × Int × Int × Bool × Unit) × Unit) × Unit × (Li × Li × Unit) := (((m.1, (m.2.2.2.1, (m.2.2.2.2.1, (m.2.2.2.2.2.1, (m.2.2.2.2.2.2, ()))))), ()), (), (m.2.1, (m.2.2.1, ())))

theorem p_spec_l8Step (code : Li) (m : SM) (hm : SMok m) (hn : code.length ≤ 400) (hcw : aw code) : F_spec_l8Step code m.1 m.2.2.2.1 m.2.2.2.2.1 m.2.2.2.2.2.1 m.2.2.2.2.2.2 m.2.1 m.2.2.1 = some (outM (stepS code m)) := by
  obtain ⟨pc, st, cl, sg, us, tr, dn⟩ := m
  have hpc0 := hm.pc0
  have hpc1 := hm.pc1
  have hsl := hm.sl
  have hcl := hm.cl
  have hu0 := hm.us0
  have hu1 := hm.us1
  simp only at hpc0 hpc1 hsl hcl hu0 hu1
  have hmin : ∀ x : Int, min 1000000 x = min x 1000000 := fun x => by omega
  have hw := wrap_id (x := us + 1) (by omega) (by omega)
  unfold F_spec_l8Step
  simp only [p_spec_l1Min, p_spec_l8Copy (pc, st, cl, sg, us, tr, dn) (show st.length ≤ 1048576 by omega) (show cl.length ≤ 1048576 by omega), p_spec_l8Ready code (pc, st, cl, sg, us, tr, dn) hpc0 hpc1 hn hsl, hw, hmin, stepS]
  cases dn
  · simp only [cond_false, Option.bind_some, Bool.false_or]
    cases htr : (tr != 0)
    · have tr0 : tr = 0 := by simpa using htr
      subst tr0
      simp only [cond_false]
      cases hr : (insOkS code pc && !badS (opAt code pc) (wAtS code pc) st cl)
      · rfl
      · simp only [Bool.and_eq_true, Bool.not_eq_true'] at hr
        obtain ⟨g1, g2, g3⟩ := insOkS_spec hr.1
        simp only [Bool.not_true, cond_false, cond_true, p_spec_l8Do code pc sg (min (us + 1) 1000000) 0 false st cl (opAt code pc) (wAtS code pc) rfl g2 (ib_in hpc0 g1) hpc0 hpc1 (wAtS_len hpc0 hr.1) (wAtS_aw pc hcw) (wS hpc0 hr.1) hsl hm.sw hcl hr.2, Option.bind_some, outSp8]
        simp only [dS]
        generalize doS (opAt code pc) (wAtS code pc) (pc + 1 + argsS (opAt code pc)) sg false st cl = r
        obtain ⟨r1, r2⟩ := r
        cases hd : (r1 != 0)
        · simp only [cond_false, outM, hd]
        · simp only [cond_true, outM, hd]
    · rfl
  · rfl

theorem doS_err (op : Int) (w : Li) (pc sig : Int) (dn : Bool) (st cl : Li) (h : ((doS op w pc sig dn st cl).1 != 0) = true) : (doS op w pc sig dn st cl).2 = (pc, sig, dn, st, cl) := by
  revert h
  unfold doS
  cases (op == 1)
  · cases (op == 2)
    · cases (op == 3)
      · cases (op == 4)
        · cases (op == 5)
          · cases (op == 6)
            · cases (op == 7)
              · cases (op == 8)
                · cases (op == 9)
                  · cases (op == 10)
                    · cases (op == 11)
                      · cases (op == 12) <;> cases (op == 13) <;> simp
                      · cases (tk 1 st 0 == 0) <;> simp
                    · simp
                  · simp
                · simp
              · simp
            · cases h0 : ((binw (gw w 0) (tk 2 st 0) (tk 2 st 1)).1 == 0)
              · cases ((binw (gw w 0) (tk 2 st 0) (tk 2 st 1)).1 == 3) <;> simp
              · simp
          · cases (decide (0 ≤ sgn (tk 2 st 0)) && decide (sgn (tk 2 st 0) ≤ gw w 1 - 1))
            · simp
            · cases decide (gw w 0 + sgn (tk 2 st 0) < (cl.length : Int)) <;> simp
        · cases (decide (0 ≤ sgn (tk 1 st 0)) && decide (sgn (tk 1 st 0) ≤ gw w 1 - 1))
          · simp
          · cases decide (gw w 0 + sgn (tk 1 st 0) < (cl.length : Int)) <;> simp
      · simp
    · simp
  · simp

theorem p_impl_StackMachine_step (code : Li) (pc : Int) (st cl : Li) (sg us tr : Int) (dn : Bool) (hm : SMok (pc, st, cl, sg, us, tr, dn)) (hn : code.length ≤ 400) (hcw : aw code) :
    F_impl_StackMachine_step code pc st sg us tr dn cl = some ((), (((stepS code (pc, st, cl, sg, us, tr, dn)).1, ((stepS code (pc, st, cl, sg, us, tr, dn)).2.1, ((stepS code (pc, st, cl, sg, us, tr, dn)).2.2.2.1, ((stepS code (pc, st, cl, sg, us, tr, dn)).2.2.2.2.1, ((stepS code (pc, st, cl, sg, us, tr, dn)).2.2.2.2.2.1, ((stepS code (pc, st, cl, sg, us, tr, dn)).2.2.2.2.2.2, ())))))), ()), ((stepS code (pc, st, cl, sg, us, tr, dn)).2.2.1, ())) := by
  have hpc0 := hm.pc0
  have hpc1 := hm.pc1
  have hsl := hm.sl
  have hcl := hm.cl
  have hu0 := hm.us0
  have hu1 := hm.us1
  simp only at hpc0 hpc1 hsl hcl hu0 hu1
  have hmin : mn (us + 1) 1000000 = min (us + 1) 1000000 := by unfold mn; split <;> omega
  have hw := wrap_id (x := us + 1) (by omega) (by omega)
  unfold F_impl_StackMachine_step
  simp only [p_impl_instruction_sm code pc hpc0 hpc1 hn, hw, hmin, stepS]
  cases dn
  · simp only [cond_false, Option.bind_some, Bool.false_or]
    cases htr : (tr != 0)
    · have tr0 : tr = 0 := by simpa using htr
      subst tr0
      simp only [cond_false]
      cases hins : insOkS code pc
      · rfl
      · obtain ⟨g1, g2, g3⟩ := insOkS_spec hins
        have ha := argsS_le (opAt code pc)
        have e2 := wrap_id (x := pc + 1) (by omega) (by omega)
        have e3 := wrap_id (x := pc + 1 + (argsS (opAt code pc) : Int)) (by omega) (by omega)
        simp only [cond_true, cond_false, Bool.not_true, Bool.true_and, wAtS_len hpc0 hins, e2, e3, p_impl_StackMachine_do (opAt code pc) (wAtS code pc) _ st sg (min (us + 1) 1000000) 0 false cl g2 (wAtS_len hpc0 hins) (wAtS_aw pc hcw) hsl hm.sw hcl, Option.bind_some, outS]
        cases hb : badS (opAt code pc) (wAtS code pc) st cl
        · have he := doS_err (opAt code pc) (wAtS code pc) (pc + 1 + (argsS (opAt code pc) : Int)) sg false st cl
          simp only [cond_false, Bool.not_false, cond_true, dS]
          generalize doS (opAt code pc) (wAtS code pc) (pc + 1 + (argsS (opAt code pc) : Int)) sg false st cl = r at he ⊢
          obtain ⟨r1, r2⟩ := r
          cases hd : (r1 != 0)
          · have : r1 = 0 := by simpa using hd
            subst this
            rfl
          · have := he hd
            simp only at this
            rw [this]
            simp only [cond_true]
        · rfl
    · rfl
  · rfl

theorem aw_app {l : Li} {x : Int} (h : aw l) (hx : isWd x) : aw (l ++ [x]) := fun y hy => by
  rcases List.mem_append.1 hy with hy | hy
  · exact h y hy
  · simp at hy; subst hy; exact hx
theorem aw_bs {l : Li} (n : Nat) (h : aw l) : aw (bs n l) := fun y hy => h y (List.mem_of_mem_take hy)
theorem len_bs (n : Nat) (l : Li) (h : l.length ≤ 40) : (bs n l).length ≤ 40 := by simp only [bs, List.length_take]; omega
theorem len_bs1 (n : Nat) (l : Li) (x : Int) (h : l.length ≤ 40) (hn : 1 ≤ n) : (bs n l ++ [x]).length ≤ 40 := by simp only [bs, List.length_append, List.length_take, List.length_cons, List.length_nil]; omega
theorem doS_ok (op : Int) (w : Li) (pc sig : Int) (dn : Bool) (st cl : Li) (hw : aw w) (hp : isWd pc) (hs : isWd sig) (hr : aw st) (hl : st.length ≤ 40) (hb : badS op w st cl = false) (hc : aw cl) :
    0 ≤ (doS op w pc sig dn st cl).1 ∧ (doS op w pc sig dn st cl).1 ≤ 10 ∧ isWd (doS op w pc sig dn st cl).2.1 ∧ isWd (doS op w pc sig dn st cl).2.2.1 ∧ (doS op w pc sig dn st cl).2.2.2.2.1.length ≤ 40 ∧ aw (doS op w pc sig dn st cl).2.2.2.2.1 ∧
      (doS op w pc sig dn st cl).2.2.2.2.2.length = cl.length ∧ aw (doS op w pc sig dn st cl).2.2.2.2.2 := by
  have hg := fun i => aw_gw hw i
  have hcg : ∀ x, isWd (rg_ cl x) := fun x => aw_getD hc _
  have htk : ∀ n i, isWd (tk n st i) := fun n i => aw_getD hr _
  have hbin := binw_isWd (gw w 0) (tk 2 st 0) (tk 2 st 1) (htk _ _) (htk _ _)
  have hcode := binw_code (gw w 0) (tk 2 st 0) (tk 2 st 1)
  have hneg : ∀ x, isWd (negw x) := fun x => wdo_isWd _
  have hnot : ∀ x, isWd (notw x) := fun x => by unfold notw isWd; cases (wdo x == 0) <;> simp
  have hbit : ∀ b : Bool, isWd (bif b then 1 else 0) := fun b => by unfold isWd; cases b <;> simp
  have hpush : (op == 1) = true ∨ (op == 2) = true → ∀ x, (st ++ [x]).length ≤ 40 := fun h x => by
    have : st.length ≠ 40 := fun he => by
      unfold badS at hb
      have : (op == 1 || op == 2) = true := by rcases h with h | h <;> simp [h]
      rw [this, he] at hb
      simp at hb
    simp only [List.length_append, List.length_cons, List.length_nil]; omega
  unfold doS
  cases h1 : (op == 1)
  · cases h2 : (op == 2)
    · cases (op == 3)
      · cases (op == 4)
        · cases (op == 5)
          · cases (op == 6)
            · cases (op == 7)
              · cases (op == 8)
                · cases (op == 9)
                  · cases (op == 10)
                    · cases (op == 11)
                      · cases (op == 12)
                        · cases (op == 13) <;> exact ⟨by simp, by simp, hp, hs, hl, hr, rfl, hc⟩
                        · exact ⟨by simp, by simp, hp, sigw_isWd _ _, hl, hr, rfl, hc⟩
                      · cases (tk 1 st 0 == 0)
                        · exact ⟨by simp, by simp, hp, hs, len_bs _ _ hl, aw_bs _ hr, rfl, hc⟩
                        · exact ⟨by simp, by simp, hg 0, hs, len_bs _ _ hl, aw_bs _ hr, rfl, hc⟩
                    · exact ⟨by simp, by simp, hg 0, hs, hl, hr, rfl, hc⟩
                  · exact ⟨by simp, by simp, hp, hs, len_bs1 _ _ _ hl (by decide), aw_app (aw_bs _ hr) (hbit _), rfl, hc⟩
                · exact ⟨by simp, by simp, hp, hs, len_bs1 _ _ _ hl (by decide), aw_app (aw_bs _ hr) (hnot _), rfl, hc⟩
              · exact ⟨by simp, by simp, hp, hs, len_bs1 _ _ _ hl (by decide), aw_app (aw_bs _ hr) (hneg _), rfl, hc⟩
            · cases ((binw (gw w 0) (tk 2 st 0) (tk 2 st 1)).1 == 0)
              · cases ((binw (gw w 0) (tk 2 st 0) (tk 2 st 1)).1 == 3)
                · exact ⟨hcode.1, hcode.2, hp, hs, hl, hr, rfl, hc⟩
                · exact ⟨by simp, by simp, hp, hs, hl, hr, rfl, hc⟩
              · exact ⟨by simp, by simp, hp, hs, len_bs1 _ _ _ hl (by decide), aw_app (aw_bs _ hr) hbin, rfl, hc⟩
          · cases (decide (0 ≤ sgn (tk 2 st 0)) && decide (sgn (tk 2 st 0) ≤ gw w 1 - 1))
            · exact ⟨by simp, by simp, hp, hs, hl, hr, rfl, hc⟩
            · cases decide (gw w 0 + sgn (tk 2 st 0) < (cl.length : Int))
              · exact ⟨by simp, by simp, hp, hs, hl, hr, rfl, hc⟩
              · exact ⟨by simp, by simp, hp, hs, len_bs _ _ hl, aw_bs _ hr, by simp, aw_set hc (htk _ _)⟩
        · cases (decide (0 ≤ sgn (tk 1 st 0)) && decide (sgn (tk 1 st 0) ≤ gw w 1 - 1))
          · exact ⟨by simp, by simp, hp, hs, hl, hr, rfl, hc⟩
          · cases decide (gw w 0 + sgn (tk 1 st 0) < (cl.length : Int))
            · exact ⟨by simp, by simp, hp, hs, hl, hr, rfl, hc⟩
            · exact ⟨by simp, by simp, hp, hs, len_bs1 _ _ _ hl (by decide), aw_app (aw_bs _ hr) (hcg _), rfl, hc⟩
      · exact ⟨by simp, by simp, hp, hs, len_bs _ _ hl, aw_bs _ hr, by simp, aw_set hc (htk _ _)⟩
    · exact ⟨by simp, by simp, hp, hs, hpush (.inr h2) _, aw_app hr (hcg _), rfl, hc⟩
  · exact ⟨by simp, by simp, hp, hs, hpush (.inl h1) _, aw_app hr (hg 0), rfl, hc⟩
theorem stepS_ok (code : Li) (m : SM) (hm : SMok m) (hn : code.length ≤ 400) (hcw : aw code) : SMok (stepS code m) ∧ (stepS code m).2.2.1.length = m.2.2.1.length ∧
    ((m.2.2.2.2.2.2 || m.2.2.2.2.2.1 != 0) = false → (stepS code m).2.2.2.2.1 = min (m.2.2.2.2.1 + 1) 1000000) := by
  obtain ⟨pc, st, cl, sg, us, tr, dn⟩ := m
  have hpc0 := hm.pc0
  have hpc1 := hm.pc1
  have hsl := hm.sl
  have hcl := hm.cl
  have hu0 := hm.us0
  have hu1 := hm.us1
  simp only at hpc0 hpc1 hsl hcl hu0 hu1
  unfold stepS
  simp only
  cases h1 : (dn || tr != 0)
  · simp only [cond_false]
    cases hr : (insOkS code pc && !badS (opAt code pc) (wAtS code pc) st cl)
    · exact ⟨⟨hpc0, hpc1, hsl, hm.sw, hcl, hm.cw, hm.sg, by simp only [cond_false]; omega, by simp only [cond_false]; omega, by simp, by simp⟩, rfl, fun _ => rfl⟩
    · simp only [Bool.and_eq_true, Bool.not_eq_true'] at hr
      obtain ⟨g1, g2, g3⟩ := insOkS_spec hr.1
      have ha := argsS_le (opAt code pc)
      obtain ⟨d1, d2, d3, d4, d5, d6, d7, d8⟩ := doS_ok (opAt code pc) (wAtS code pc) (pc + 1 + argsS (opAt code pc)) sg dn st cl (wAtS_aw pc hcw) (by unfold isWd; omega) hm.sg hm.sw hsl hr.2 hm.cw
      simp only [cond_true, dS]
      generalize doS (opAt code pc) (wAtS code pc) (pc + 1 + argsS (opAt code pc)) sg dn st cl = r at d1 d2 d3 d4 d5 d6 d7 d8 ⊢
      cases (r.1 != 0)
      · exact ⟨⟨d3.1, d3.2, d5, d6, by simp only [cond_false]; rw [d7]; exact hcl, d8, d4, by simp only [cond_false]; omega, by simp only [cond_false]; omega, by simp, by simp⟩, d7, fun _ => rfl⟩
      · exact ⟨⟨hpc0, hpc1, hsl, hm.sw, hcl, hm.cw, hm.sg, by simp only [cond_true]; omega, by simp only [cond_true]; omega, d1, d2⟩, rfl, fun _ => rfl⟩
  · exact ⟨hm, rfl, fun h => by cases h⟩
def goS (code : Li) (bu : Int) (m : SM) : SM ⊕ (Bool × SM) :=
  bif m.2.2.2.2.2.2 || m.2.2.2.2.2.1 != 0 then .inr (false, m) else
  bif decide (m.2.2.2.2.1 ≥ bu) then .inr (true, (m.1, m.2.1, m.2.2.1, m.2.2.2.1, m.2.2.2.2.1, 2, m.2.2.2.2.2.2)) else .inl (stepS code m)
structure RunJ (bu : Int) (k : Nat) (m : SM) : Prop where
  ok : SMok m
  le : m.2.2.2.2.1 ≤ bu
  len : m.2.2.1.length = k
theorem goS_next (code : Li) (bu : Int) (k : Nat) (hb : bu ≤ 20000) (hn : code.length ≤ 400) (hcw : aw code) (m m' : SM) (hm : RunJ bu k m) (h : goS code bu m = .inl m') : RunJ bu k m' ∧ (bu - m'.2.2.2.2.1).toNat < (bu - m.2.2.2.2.1).toNat := by
  unfold goS at h
  cases h1 : (m.2.2.2.2.2.2 || m.2.2.2.2.2.1 != 0)
  · rw [h1] at h
    cases h2 : decide (m.2.2.2.2.1 ≥ bu)
    · rw [h2] at h
      simp only [cond_false] at h
      cases h
      have h2' := of_decide_eq_false h2
      obtain ⟨g1, g2, g3⟩ := stepS_ok code m hm.ok hn hcw
      have g4 := g3 h1
      have hu := hm.ok.us0
      refine ⟨⟨g1, by rw [g4]; omega, by rw [g2]; exact hm.len⟩, by rw [g4]; omega⟩
    · rw [h2] at h; cases h
  · rw [h1] at h; cases h
theorem goS_end (code : Li) (bu : Int) (k : Nat) (m : SM) (r : Bool × SM) (hm : RunJ bu k m) (h : goS code bu m = .inr r) : RunJ bu k r.2 := by
  unfold goS at h
  cases h1 : (m.2.2.2.2.2.2 || m.2.2.2.2.2.1 != 0)
  · rw [h1] at h
    cases h2 : decide (m.2.2.2.2.1 ≥ bu)
    · rw [h2] at h; cases h
    · rw [h2] at h
      simp only [cond_false, cond_true] at h
      cases h
      obtain ⟨a1, a2, a3, a4, a5, a6, a7, a8, a9, a10, a11⟩ := hm.ok
      exact ⟨⟨a1, a2, a3, a4, a5, a6, a7, a8, a9, by simp, by simp⟩, hm.le, hm.len⟩
  · rw [h1] at h
    simp only [cond_true] at h
    cases h
    exact hm
def runS (code : Li) (bu : Int) (m : SM) : Bool × SM := runF (goS code bu) (false, m) (bu.toNat + 1) m
theorem runS_ok (code : Li) (bu : Int) (k : Nat) (h0 : 0 ≤ bu) (hb : bu ≤ 20000) (hn : code.length ≤ 400) (hcw : aw code) (m : SM) (hm : RunJ bu k m) (hu : m.2.2.2.2.1 = 0) : RunJ bu k (runS code bu m).2 :=
  runF_ind (goS code bu) (false, m) (RunJ bu k) (fun m => (bu - m.2.2.2.2.1).toNat) (fun r => RunJ bu k r.2) (fun s s' hs hg => goS_next code bu k hb hn hcw s s' hs hg) (fun s r hs hg => goS_end code bu k s r hs hg) _ _ hm (by rw [hu]; omega)
def s0 (l : Li) : SM := (0, [], l, 0, 0, 0, false)
theorem s0_ok {l : Li} (h : aw l) (hl : l.length ≤ 80) : SMok (s0 l) :=
  ⟨by simp [s0], by simp [s0], by simp [s0], fun x hx => by simp [s0] at hx, hl, h, by unfold isWd s0; simp, by simp [s0], by simp [s0], by simp [s0], by simp [s0]⟩
abbrev z5 : Int × Int × Int × Int × Bool × Unit := ((0 : Int), ((0 : Int), ((0 : Int), ((0 : Int), (false, ())))))
abbrev i5 (m : SM) : Int × Int × Int × Int × Bool × Unit := (m.1, (m.2.2.2.1, (m.2.2.2.2.1, (m.2.2.2.2.2.1, (m.2.2.2.2.2.2, ())))))

theorem p_spec_l8Run (code l : Li) (bu : Int) (h0 : 0 ≤ bu) (hb : bu ≤ 20000) (hn : code.length ≤ 400) (hcw : aw code) (hlw : aw l) (hl : l.length ≤ 80) :
    F_spec_l8Run code l bu = some (outM (runS code bu (s0 l)).2) := by
  have hi : RunJ bu l.length (s0 l) := ⟨s0_ok hlw hl, h0, rfl⟩
  have key := lim_runF (step := s_spec_l8Run_l2) (goS code bu) (false, s0 l)
    (fun m => ((code, (bu, ())), (z5, (i5 m, ())), (m.2.1, (m.2.2.1, ()))))
    (fun r => bif r.1 then .inr ((), (i5 r.2, ()), (r.2.2.1, (r.2.2.2.1, ()))) else .inl ((), (z5, (i5 r.2, ())), (r.2.2.1, (r.2.2.2.1, ()))))
    (RunJ bu l.length) (fun m => (bu - m.2.2.2.2.1).toNat)
    (fun m hm => by
      have hst := p_spec_l8Step code m hm.ok hn hcw
      obtain ⟨pc, st, cl, sg, us, tr, dn⟩ := m
      simp only at hst
      simp only [s_spec_l8Run_l2, goS]
      cases dn
      · simp only [Bool.not_false, cond_true, Option.bind_some, Bool.false_or, bne]
        cases (tr == 0)
        · rfl
        · simp only [cond_true, Bool.not_true, cond_false]
          cases decide (us ≥ bu)
          · simp only [cond_false]
            rw [hst]
            rfl
          · rfl
      · rfl)
    (fun s s' hs hg => goS_next code bu l.length hb hn hcw s s' hs hg) (bu.toNat + 1) (s0 l) hi (by show (bu - 0).toNat < bu.toNat + 1; omega)
  unfold F_spec_l8Run
  rw [room8 (show l.length ≤ 1048576 by omega)]
  simp only [cond_true]
  have hk : l_spec_l8Run_l2 ((code, (bu, ())), (z5, (z5, ())), ([], (([] ++ l), ()))) = _ := key
  rw [hk]
  rw [show runF (goS code bu) (false, s0 l) (bu.toNat + 1) (s0 l) = runS code bu (s0 l) from rfl]
  cases h : (runS code bu (s0 l)).1 <;> rfl

theorem p_spec_l10Step_o (code : Li) (m : RM) (hm : RMok m) (hn : code.length ≤ 400) (hcw : aw code) : F_spec_l10Step_o code m.1 m.2.2.2.1 m.2.2.2.2.1 m.2.2.2.2.2.1 m.2.2.2.2.2.2 m.2.1 m.2.2.1 = some (outM (stepR code m)) := by
  obtain ⟨pc, rg, cl, sg, us, tr, dn⟩ := m
  have hpc0 := hm.pc0
  have hpc1 := hm.pc1
  have hrl := hm.rl
  have hcl := hm.cl
  have hu0 := hm.us0
  have hu1 := hm.us1
  simp only at hpc0 hpc1 hrl hcl hu0 hu1
  have hmin : ∀ x : Int, min 1000000 x = min x 1000000 := fun x => by omega
  have hw := wrap_id (x := us + 1) (by omega) (by omega)
  unfold F_spec_l10Step_o
  simp only [p_spec_l1Min, p_spec_l10Copy (pc, rg, cl, sg, us, tr, dn) (show rg.length ≤ 1048576 by omega) (show cl.length ≤ 1048576 by omega), p_spec_l10Ready code (pc, rg, cl, sg, us, tr, dn) hpc0 hpc1 hn, hw, hmin, stepR]
  cases dn
  · simp only [cond_false, Option.bind_some, Bool.false_or]
    cases htr : (tr != 0)
    · have tr0 : tr = 0 := by simpa using htr
      subst tr0
      simp only [cond_false]
      cases hr : (insOk code pc && (!badR (opAt code pc) (wAt code pc) && !badC (opAt code pc) (wAt code pc) cl))
      · rfl
      · simp only [Bool.and_eq_true, Bool.not_eq_true'] at hr
        simp only [Bool.not_true, cond_false, cond_true, p_spec_l10Do code pc sg (min (us + 1) 1000000) 0 false rg cl hpc0 hpc1 hn hcw hr.1 hrl hm.rw_ hcl hr.2.1 hr.2.2, Option.bind_some, outSp]
        generalize doR (opAt code pc) (wAt code pc) (pc + 1 + argsR (opAt code pc)) sg false rg cl = r
        obtain ⟨r1, r2⟩ := r
        cases hd : (r1 != 0)
        · simp only [cond_false, outDo, outM, hd, bne_self_eq_false]
        · simp only [cond_true, outM, hd]
    · rfl
  · rfl

theorem p_spec_l10Run_o (code l : Li) (bu : Int) (h0 : 0 ≤ bu) (hb : bu ≤ 20000) (hn : code.length ≤ 400) (hcw : aw code) (hf : (rfF (m0 l) != 0) = false) (hl : l.length ≤ 1048576) :
    F_spec_l10Run_o code l bu = some (outM (runM code bu (m0 l)).2) := by
  have hi : RunI bu l.length (m0 l) := ⟨m0_ok hf, h0, rfl⟩
  have key := lim_runF (step := s_spec_l10Run_o_l2) (goR code bu) (false, m0 l)
    (fun m => ((code, (bu, ())), (z5, (i5 m, ())), (m.2.1, (m.2.2.1, ()))))
    (fun r => bif r.1 then .inr ((), (i5 r.2, ()), (r.2.2.1, (r.2.2.2.1, ()))) else .inl ((), (z5, (i5 r.2, ())), (r.2.2.1, (r.2.2.2.1, ()))))
    (RunI bu l.length) (fun m => (bu - m.2.2.2.2.1).toNat)
    (fun m hm => by
      have hst := p_spec_l10Step_o code m hm.ok hn hcw
      obtain ⟨pc, rg, cl, sg, us, tr, dn⟩ := m
      simp only at hst
      simp only [s_spec_l10Run_o_l2, goR]
      cases dn
      · simp only [Bool.not_false, cond_true, Option.bind_some, Bool.false_or, bne]
        cases (tr == 0)
        · rfl
        · simp only [cond_true, Bool.not_true, cond_false]
          cases decide (us ≥ bu)
          · simp only [cond_false]
            rw [hst]
            rfl
          · rfl
      · rfl)
    (fun s s' hs hg => goR_next code bu l.length hb hn hcw s s' hs hg) (bu.toNat + 1) (m0 l) hi (by show (bu - 0).toNat < bu.toNat + 1; omega)
  unfold F_spec_l10Run_o
  simp only [p_spec_l10Start l hl, Option.bind_some]
  have hk : l_spec_l10Run_o_l2 ((code, (bu, ())), (z5, (z5, ())), (rep24, (l, ()))) = _ := key
  rw [hk]
  rw [show runF (goR code bu) (false, m0 l) (bu.toNat + 1) (m0 l) = runM code bu (m0 l) from rfl]
  cases h : (runM code bu (m0 l)).1 <;> rfl

theorem p_impl_StackFault (l : Li) (h : aw l) (hl : l.length ≤ 80) : F_impl_StackFault (0, [], l, 0, 0, 0, false) = some ((0, ()), (), ()) := by
  have ha : l.any (fun x => !isW x) = false := List.any_eq_false.2 fun x hx => by
    have := h x hx
    unfold isWd at this
    simp [isW, this.1, this.2]
  have hm : l.length ≤ maxLen := by simp only [maxLen]; omega
  have e1 : decide ((l.length : Int) > 80) = false := decide_eq_false (by omega)
  simp only [F_impl_StackFault, p_impl_isWord, p_impl_areWords [] (by simp [maxLen]), p_impl_areWords _ hm, ha, p_impl_within, Option.bind_some, e1]
  rfl

theorem p_impl_StartStack (l : Li) (h : aw l) (hl : l.length ≤ 80) : F_impl_StartStack l = some (((0, (0, (0, (0, (0, (false, ())))))), ()), (), (l, ())) := by
  simp only [F_impl_StartStack, p_slices_Clone_int64 l (by omega), Option.bind_some, p_impl_StackFault l h hl]
  rfl

theorem p_impl_RunStack (code l : Li) (bu : Int) (h0 : 0 ≤ bu) (hb : bu ≤ 20000) (hf : (wf code != 0) = false) (hlw : aw l) (hl : l.length ≤ 80) :
    F_impl_RunStack code l bu = some (((0, ((runS code bu (s0 l)).2.1, ((runS code bu (s0 l)).2.2.1, ((runS code bu (s0 l)).2.2.2.2.1, ((runS code bu (s0 l)).2.2.2.2.2.1, ((runS code bu (s0 l)).2.2.2.2.2.2.1, ((runS code bu (s0 l)).2.2.2.2.2.2.2, ()))))))), ()), (), ((runS code bu (s0 l)).2.2.2.1, ())) := by
  obtain ⟨hn, hcw⟩ := wf_aw hf
  have hi : RunJ bu l.length (s0 l) := ⟨s0_ok hlw hl, h0, rfl⟩
  simp only [F_impl_RunStack, p_impl_WordsFault code (by simp only [maxLen]; omega), p_impl_StartStack l hlw hl, p_impl_within, Option.bind_some, hf, cond_false]
  rw [show ((0 : Int) != 0) = false from rfl, decide_eq_true h0, decide_eq_true hb]
  simp only [Bool.and_self, Bool.not_true, cond_false]
  have key := lim_runF (step := s_impl_RunStack_l10) (goS code bu) (false, s0 l)
    (fun m => ((code, (bu, ())), (((0 : Int), ((0 : Int), ((0 : Int), ((0 : Int), ((0 : Int), (false, ())))))), (((0 : Int), (m.1, (m.2.1, (m.2.2.2.1, (m.2.2.2.2.1, (m.2.2.2.2.2.1, (m.2.2.2.2.2.2, ()))))))), ())), (m.2.2.1, ())))
    (fun r => ((), (((0 : Int), ((0 : Int), ((0 : Int), ((0 : Int), ((0 : Int), (false, ())))))), (((0 : Int), (r.2.1, (r.2.2.1, (r.2.2.2.2.1, (r.2.2.2.2.2.1, (r.2.2.2.2.2.2.1, (r.2.2.2.2.2.2.2, ()))))))), ())), (r.2.2.2.1, ())))
    (RunJ bu l.length) (fun m => (bu - m.2.2.2.2.1).toNat)
    (fun m hm => by
      obtain ⟨pc, st, cl, sg, us, tr, dn⟩ := m
      simp only [s_impl_RunStack_l10, goS]
      cases dn
      · simp only [Bool.not_false, cond_true, Option.bind_some, Bool.false_or, bne]
        cases (tr == 0)
        · rfl
        · simp only [cond_true, Bool.not_true, cond_false]
          cases hd : decide (us ≥ bu)
          · have := of_decide_eq_false hd
            rw [beq_eq_false_iff_ne.2 (show us ≠ bu by omega)]
            simp only [cond_false]
            rw [p_impl_StackMachine_step code pc st cl sg us tr false hm.ok hn hcw]
            rfl
          · have := of_decide_eq_true hd
            have hle := hm.le
            simp only at hle
            rw [show (us == bu) = true by rw [beq_iff_eq]; omega]
            rfl
      · rfl)
    (fun s s' hs hg => goS_next code bu l.length hb hn hcw s s' hs hg) (bu.toNat + 1) (s0 l) hi (by show (bu - 0).toNat < bu.toNat + 1; omega)
  have hk : l_impl_RunStack_l10 ((code, (bu, ())), (((0 : Int), ((0 : Int), ((0 : Int), ((0 : Int), ((0 : Int), (false, ())))))), (((0 : Int), ((0 : Int), ([], ((0 : Int), ((0 : Int), ((0 : Int), (false, ()))))))), ())), (l, ())) = _ := key
  rw [hk]
  rfl

def latV (q : Pt × Int) : Int := bif q.1.2 then (bif q.2 != 0 then 1 else 0) else q.2
def latP (f : Int → Int) (acc : Li) (q : Pt × Int) : Li := acc.set q.1.1.toNat (f (latV q))
/-- The inputs, put into the cells. -/
def latF (f : Int → Int) (ps : List Pt) (ins cl : Li) : Li := (ps.zip ins).foldl (latP f) cl
theorem latF_len (f : Int → Int) (ps : List Pt) (ins cl : Li) : (latF f ps ins cl).length = cl.length := by
  unfold latF
  generalize ps.zip ins = l
  induction l generalizing cl with
  | nil => rfl
  | cons a l ih => rw [List.foldl_cons, ih]; simp [latP]
theorem latV_wd {q : Pt × Int} (h : isWd q.2) : isWd (latV q) := by
  unfold latV
  cases q.1.2
  · exact h
  · unfold isWd; cases (q.2 != 0) <;> simp
theorem latF_aw {f : Int → Int} (hf : ∀ x, isWd x → isWd (f x)) {ps : List Pt} {ins cl : Li} (hi : aw ins) (hc : aw cl) : aw (latF f ps ins cl) := by
  unfold latF
  have hz : ∀ q ∈ ps.zip ins, isWd q.2 := fun q hq => hi _ (List.of_mem_zip hq).2
  revert hz
  generalize ps.zip ins = l
  induction l generalizing cl with
  | nil => intro _; exact hc
  | cons a l ih =>
    intro hz
    rw [List.foldl_cons]
    exact ih (aw_set hc (hf _ (latV_wd (hz a (by simp))))) fun q hq => hz q (by simp [hq])
theorem latF_compl (ps : List Pt) (ins cl : Li) : (latF id ps ins cl).map compl = latF compl ps ins (cl.map compl) := by
  unfold latF
  generalize ps.zip ins = l
  induction l generalizing cl with
  | nil => rfl
  | cons a l ih =>
    rw [List.foldl_cons, List.foldl_cons, ih]
    congr 1
    simp only [latP, List.map_set, id]
theorem cc1 {x : Int} (h : isWd x) : compl (compl x) = x := by
  rw [compl_eq, compl_eq]
  unfold isWd at h
  unfold wdo
  omega
theorem cc2 {l : Li} (h : aw l) : (l.map compl).map compl = l := by
  rw [List.map_map]
  have : ∀ x ∈ l, (compl ∘ compl) x = id x := fun x hx => cc1 (h x hx)
  rw [List.map_congr_left this, List.map_id]
theorem zip_get {ps : List Pt} {ins : Li} {i : Nat} {d : Pt × Int} (h : (ps.zip ins)[i]? = some d) : ps[i]? = some d.1 ∧ ins[i]? = some d.2 := by
  rw [List.getElem?_zip_eq_some] at h; exact h

theorem p_impl_latch (ps : List Pt) (ins cl : Li) (hl : ins.length = ps.length) (hw : ins.any (fun x => !isW x) = false) (hc : ∀ p ∈ ps, 0 ≤ p.1 ∧ p.1 < (cl.length : Int)) (hps : ps.length ≤ 24) (hcl : cl.length ≤ 80) :
    F_impl_latch ps cl ins = some ((true, ()), (), (latF id ps ins cl, ())) := by
  have hzl : (ps.zip ins).length = ps.length := by rw [List.length_zip]; omega
  have h5 : l_impl_latch_l5 ((ins, (ps, ((ps.length : Int), ((0 : Int), ())))), (), (cl, ())) = _ :=
    lim_foldl (step := s_impl_latch_l5) (ps.zip ins) (fun i acc => ((ins, (ps, ((ps.length : Int), ((i : Int), ())))), (), (acc, ()))) (latP id) (fun acc => ((), (), (acc, ()))) (fun acc => acc.length = cl.length)
      (fun i acc d ha hg => by
        obtain ⟨g1, g2⟩ := zip_get hg
        have hlt := lt_of_get g1
        have hlt2 := lt_of_get g2
        obtain ⟨c0, c1⟩ := hc d.1 (List.mem_of_getElem? g1)
        refine ⟨?_, by simp [latP, ha]⟩
        have hib : ib d.1.1 acc.length = true := ib_in c0 (by rw [ha]; exact c1)
        simp only [s_impl_latch_l5, dec_lt hlt, cond_true, ib_nat hlt, ib_nat hlt2, Int.toNat_natCast, getD_of g1, getD_of g2, hib, wrap_succ hlt (show ps.length ≤ maxLen by simp only [maxLen]; omega), p_impl_flag, Option.bind_some, List.length_set, List.set_set, latP, latV, id]
        cases d.1.2 <;> rfl)
      (fun acc _ => by rw [hzl]; simp only [s_impl_latch_l5, dec_self, cond_false]) cl rfl
  unfold F_impl_latch
  rw [show ((ins.length : Int) != (ps.length : Int)) = false by rw [hl]; simp]
  simp only [cond_false, p_impl_areWords ins (by simp only [maxLen]; omega), hw, Option.bind_some, Bool.not_true, Bool.not_false, p_slices_Clone_int64 cl (by omega), h5]
  rfl

/-- A scan: the trap, the steps, the channel behind it. -/
def scanC (b : Bd) (c : Ch) (ins : Li) : Int × Int × Ch :=
  bif c.1 == 1 then ((runS c.2.1 b.2.2.2.2.2.2.2.1 (s0 (latF id b.2.1 ins c.2.2.2.1))).2.2.2.2.2.2.1, (runS c.2.1 b.2.2.2.2.2.2.2.1 (s0 (latF id b.2.1 ins c.2.2.2.1))).2.2.2.2.2.1, (c.1, c.2.1, c.2.2.1, (runS c.2.1 b.2.2.2.2.2.2.2.1 (s0 (latF id b.2.1 ins c.2.2.2.1))).2.2.2.1, c.2.2.2.2.1, (runS c.2.1 b.2.2.2.2.2.2.2.1 (s0 (latF id b.2.1 ins c.2.2.2.1))).2.2.2.2.1))
  else ((runM c.2.1 b.2.2.2.2.2.2.2.2 (m0 (latF compl b.2.1 ins c.2.2.2.1))).2.2.2.2.2.2.1, (runM c.2.1 b.2.2.2.2.2.2.2.2 (m0 (latF compl b.2.1 ins c.2.2.2.1))).2.2.2.2.2.1, (c.1, c.2.1, c.2.2.1, (runM c.2.1 b.2.2.2.2.2.2.2.2 (m0 (latF compl b.2.1 ins c.2.2.2.1))).2.2.2.1, c.2.2.2.2.1, (runM c.2.1 b.2.2.2.2.2.2.2.2 (m0 (latF compl b.2.1 ins c.2.2.2.1))).2.2.2.2.1))
def zC : Ch := (0, [], [], [], 0, 0)
def misC (b : Bd) (c : Ch) (ins : Li) : Bool := ((ins.length : Int) != (b.2.1.length : Int)) || (ins.any (fun x => !isW x) || ((c.2.2.2.1.length : Int) != b.1))
def scanF (b : Bd) (c : Ch) (ins : Li) : Int × Int × Int × Ch :=
  bif bdFault b != 0 then (bdFault b, 0, 0, zC) else bif chFault c != 0 then (chFault c, 0, 0, zC) else bif misC b c ins then (1, 0, 0, zC) else (0, scanC b c ins)
abbrev outK (r : Int × Int × Int × Ch) : ((Int × Int × Int × Int × Int × Int × Unit) × Unit) × Unit × (Li × Li × Li × Unit) := (((r.1, (r.2.1, (r.2.2.1, (r.2.2.2.1, (r.2.2.2.2.2.2.2.1, (r.2.2.2.2.2.2.2.2, ())))))), ()), (), (r.2.2.2.2.1, (r.2.2.2.2.2.1, (r.2.2.2.2.2.2.1, ()))))
/-- What is so of a build and a channel without fault that fit. -/
structure Fit (b : Bd) (c : Ch) (ins : Li) : Prop where
  ba0 : 0 ≤ b.2.2.2.2.2.2.2.1
  ba1 : b.2.2.2.2.2.2.2.1 ≤ 20000
  bb0 : 0 ≤ b.2.2.2.2.2.2.2.2
  bb1 : b.2.2.2.2.2.2.2.2 ≤ 20000
  ps : b.2.1.length ≤ 24
  pc : ∀ p ∈ b.2.1, 0 ≤ p.1 ∧ p.1 < (c.2.2.2.1.length : Int)
  wf : (wf c.2.1 != 0) = false
  cw : aw c.2.2.2.1
  cl : c.2.2.2.1.length ≤ 80
  il : ins.length = b.2.1.length
  iw : ins.any (fun x => !isW x) = false
theorem fit_of {b : Bd} {c : Ch} {ins : Li} (h1 : (bdFault b != 0) = false) (h2 : (chFault c != 0) = false) (h3 : misC b c ins = false) : Fit b c ins := by
  have z1 : bdFault b = 0 := by simpa using h1
  have z2 : chFault c = 0 := by simpa using h2
  unfold misC at h3
  simp only [Bool.or_eq_false_iff] at h3
  obtain ⟨i1, i2, i3⟩ := h3
  have il : ins.length = b.2.1.length := by have := i1; simp at this; omega
  have i3 : (c.2.2.2.1.length : Int) = b.1 := by simpa using i3
  unfold chFault at z2
  cases k1 : (!(c.1 == 1 || c.1 == 2))
  case true => rw [k1] at z2; cases z2
  cases k2 : (wf c.2.1 != 0)
  case true => rw [k1, k2] at z2; simp only [cond_true, cond_false] at z2; rw [z2] at k2; cases k2
  cases k3 : (wf c.2.2.1 != 0)
  case true => rw [k1, k2, k3] at z2; simp only [cond_true, cond_false] at z2; rw [z2] at k3; cases k3
  rw [k1, k2, k3] at z2
  simp only [cond_false] at z2
  cases k4 : (c.2.2.2.1.any (fun x => !isW x) || !isW c.2.2.2.2.1 || !isW c.2.2.2.2.2)
  case true => rw [k4] at z2; cases z2
  rw [k4] at z2
  simp only [cond_false] at z2
  cases k5 : decide ((c.2.2.2.1.length : Int) > 80)
  case true => rw [k5] at z2; cases z2
  simp only [Bool.or_eq_false_iff] at k4
  have hcl := of_decide_eq_false k5
  unfold bdFault at z1
  cases j1 : (!inI b.1 0 80 || !inI b.2.2.2.2.2.2.2.1 0 20000 || !inI b.2.2.2.2.2.2.2.2 0 20000)
  case true => rw [j1] at z1; cases z1
  rw [j1] at z1
  simp only [cond_false] at z1
  cases j2 : (decide ((b.2.1.length : Int) > 24) || decide ((b.2.2.1.length : Int) > 60))
  case true => rw [j2] at z1; cases z1
  rw [j2] at z1
  simp only [cond_false] at z1
  cases j3 : (b.2.1.any (fun p => !cellOk b.1 p.1))
  case true => rw [j3] at z1; cases z1
  simp only [Bool.or_eq_false_iff, Bool.not_eq_false', inI, Bool.and_eq_true, decide_eq_true_eq, decide_eq_false_iff_not] at j1 j2
  refine ⟨j1.1.2.1, j1.1.2.2, j1.2.1, j1.2.2, by omega, fun p hp => ?_, k2, aw_any k4.1.1, by omega, il, i2⟩
  have := List.any_eq_false.1 j3 p hp
  simp only [Bool.not_eq_true', Bool.not_eq_false, cellOk, Bool.and_eq_true, decide_eq_true_eq] at this
  rw [wrap_id (by omega) (by omega)] at this
  omega
theorem m0_rf {l : Li} (h : aw l) (hl : l.length ≤ 80) : (rfF (m0 l) != 0) = false := by
  have ha : l.any (fun x => !isW x) = false := List.any_eq_false.2 fun x hx => by
    have := h x hx
    unfold isWd at this
    simp [isW, this.1, this.2]
  have e1 : decide ((l.length : Int) > 80) = false := decide_eq_false (by omega)
  unfold rfF m0
  simp only [ha, e1]
  rw [show (rep24.any fun x => !isW x) = false by decide, show ((rep24.length : Int) != 24) = false by decide]
  rfl

theorem p_spec_l13Scan (b : Bd) (c : Ch) (ins : Li) (hf : Fit b c ins) (hk : c.1 = 1 ∨ c.1 = 2) :
    F_spec_l13Scan ins b.1 b.2.1 b.2.2.1 b.2.2.2.1 b.2.2.2.2.1 b.2.2.2.2.2.1 b.2.2.2.2.2.2.1 b.2.2.2.2.2.2.2.1 b.2.2.2.2.2.2.2.2 c.1 c.2.2.2.2.1 c.2.2.2.2.2 c.2.1 c.2.2.1 c.2.2.2.1 =
      some (((scanC b c ins).1, ((scanC b c ins).2.1, ())), ((b.1, (b.2.1, (b.2.2.1, (b.2.2.2.1, (b.2.2.2.2.1, (b.2.2.2.2.2.1, (b.2.2.2.2.2.2.1, (b.2.2.2.2.2.2.2.1, (b.2.2.2.2.2.2.2.2, ()))))))))), (((scanC b c ins).2.2.1, ((scanC b c ins).2.2.2.2.2.2.1, ((scanC b c ins).2.2.2.2.2.2.2, ()))), ())), ((scanC b c ins).2.2.2.1, ((scanC b c ins).2.2.2.2.1, ((scanC b c ins).2.2.2.2.2.1, ())))) := by
  obtain ⟨hn, hcw⟩ := wf_aw hf.wf
  obtain ⟨n, ps, os, ca, cb, sa, sb, ba, bb⟩ := b
  obtain ⟨k, code, sums, cl, nx, sg⟩ := c
  obtain ⟨ba0, ba1, bb0, bb1, hps, hpc, hwf, hcc, hcl, hil, hiw⟩ := hf
  have hiw' := aw_any hiw
  simp only at ba0 ba1 bb0 bb1 hps hpc hwf hcc hcl hil hn hcw hk ⊢
  have hzl : (ps.zip ins).length = ps.length := by rw [List.length_zip]; omega
  have hl : l_spec_l13Scan_l2 ((ins, ((0 : Int), ())), ((n, (ps, (os, (ca, (cb, (sa, (sb, (ba, (bb, ()))))))))), ((k, (nx, (sg, ()))), ())), (code, (sums, (cl, ())))) = _ :=
    lim_foldl (step := s_spec_l13Scan_l2) (ps.zip ins) (fun i acc => ((ins, ((i : Int), ())), ((n, (ps, (os, (ca, (cb, (sa, (sb, (ba, (bb, ()))))))))), ((k, (nx, (sg, ()))), ())), (code, (sums, (acc, ()))))) (latP (bif k == 2 then compl else id))
      (fun acc => ((), ((n, (ps, (os, (ca, (cb, (sa, (sb, (ba, (bb, ()))))))))), ((k, (nx, (sg, ()))), ())), (code, (sums, (acc, ()))))) (fun acc => acc.length = cl.length)
      (fun i acc d ha hg => by
        obtain ⟨g1, g2⟩ := zip_get hg
        have hlt := lt_of_get g1
        have hlt2 := lt_of_get g2
        obtain ⟨c0, c1⟩ := hpc d.1 (List.mem_of_getElem? g1)
        refine ⟨?_, by simp [latP, ha]⟩
        have hib : ib d.1.1 acc.length = true := ib_in c0 (by rw [ha]; exact c1)
        simp only [s_spec_l13Scan_l2, dec_lt hlt, cond_true, ib_nat hlt, ib_nat hlt2, Int.toNat_natCast, getD_of g1, getD_of g2, hib, wrap_succ hlt (show ps.length ≤ maxLen by simp only [maxLen]; omega), p_spec_l6Least, p_spec_Complement, Option.bind_some, latP, latV]
        cases d.1.2 <;> cases (k == 2) <;> rfl)
      (fun acc _ => by rw [hzl]; simp only [s_spec_l13Scan_l2, dec_self, cond_false]) cl rfl
  unfold F_spec_l13Scan
  rw [hl]
  simp only [Option.bind_some, scanC]
  rcases hk with rfl | rfl
  · rw [show ((1 : Int) == 2) = false from rfl, show ((1 : Int) == 1) = true from rfl]
    simp only [cond_true, cond_false]
    rw [show (ps.zip ins).foldl (latP id) cl = latF id ps ins cl from rfl]
    rw [p_spec_l8Run code _ ba ba0 ba1 hn hcw (latF_aw (f := id) (ps := ps) (fun _ h => h) hiw' hcc) (by rw [latF_len]; exact hcl)]
    rfl
  · rw [show ((2 : Int) == 2) = true from rfl, show ((2 : Int) == 1) = false from rfl]
    simp only [cond_true, cond_false]
    rw [show (ps.zip ins).foldl (latP compl) cl = latF compl ps ins cl from rfl]
    rw [p_spec_l10Run_o code _ bb bb0 bb1 hn hcw (m0_rf (latF_aw (f := compl) (ps := ps) (fun _ _ => compl_isWd _) hiw' hcc) (by rw [latF_len]; exact hcl)) (by rw [latF_len]; omega)]
    rfl

theorem ch_kind {c : Ch} (h : (chFault c != 0) = false) : c.1 = 1 ∨ c.1 = 2 := by
  have z2 : chFault c = 0 := by simpa using h
  unfold chFault at z2
  cases k1 : (c.1 == 1 || c.1 == 2)
  · rw [k1] at z2; cases z2
  · simpa using k1

theorem p_spec_ScanChan (b : Bd) (c : Ch) (ins : Li) (hb : BdB b maxLen) (hc : ChB c 1048576) (hc' : ChB c maxLen) (hi : ins.length ≤ maxLen) : F_spec_ScanChan b c ins = some (outK (scanF b c ins)) := by
  unfold F_spec_ScanChan
  simp only [p_spec_l12Fault b hb, p_spec_l13Fault c hc', p_spec_l6All ins hi, p_spec_l13Copy c hc, Option.bind_some, scanF]
  cases h1 : (bdFault b != 0)
  case true => rfl
  cases h2 : (chFault c != 0)
  case true => rfl
  simp only [cond_false]
  have hm : ((bif ((ins.length : Int) != (b.2.1.length : Int)) then some (true, ()) else bif (!!ins.any (fun x => !isW x)) then some (true, ()) else some (((c.2.2.2.1.length : Int) != b.1), ())) : Option (Bool × Unit)) = some (misC b c ins, ()) := by
    unfold misC
    cases ((ins.length : Int) != (b.2.1.length : Int)) <;> cases ins.any (fun x => !isW x) <;> rfl
  rw [hm]
  simp only [Option.bind_some]
  cases h3 : misC b c ins
  case true => rfl
  have hf := fit_of h1 h2 h3
  simp only [cond_false]
  rw [p_spec_l13Scan b c ins hf (ch_kind h2)]
  rfl

theorem p_impl_Chan_scan (b : Bd) (c : Ch) (ins : Li) (hf : Fit b c ins) (hk : c.1 = 1 ∨ c.1 = 2) (hc : ChB c 1048576) : F_impl_Chan_scan c b ins = some (outK (0, scanC b c ins)) := by
  obtain ⟨hn, hcw⟩ := wf_aw hf.wf
  unfold F_impl_Chan_scan
  simp only [p_impl_Chan_copied c hc, Option.bind_some]
  obtain ⟨n, ps, os, ca, cb, sa, sb, ba, bb⟩ := b
  obtain ⟨k, code, sums, cl, nx, sg⟩ := c
  obtain ⟨ba0, ba1, bb0, bb1, hps, hpc, hwf, hcc, hcl, hil, hiw⟩ := hf
  have hiw' := aw_any hiw
  simp only at ba0 ba1 bb0 bb1 hps hpc hwf hcc hcl hil hn hcw hk ⊢
  simp only [scanC]
  rcases hk with rfl | rfl
  · rw [show ((1 : Int) == 1) = true from rfl]
    simp only [cond_true, p_impl_latch ps ins cl hil hiw hpc hps hcl, Option.bind_some]
    rw [p_impl_RunStack code _ ba ba0 ba1 hwf (latF_aw (f := id) (ps := ps) (fun _ h => h) hiw' hcc) (by rw [latF_len]; exact hcl)]
    rfl
  · rw [show ((2 : Int) == 1) = false from rfl]
    simp only [cond_false]
    rw [p_impl_inverted cl (by omega)]
    simp only [Option.bind_some]
    rw [p_impl_latch ps ins (cl.map compl) hil hiw (by simpa using hpc) hps (by simpa using hcl)]
    simp only [Option.bind_some]
    rw [p_impl_inverted _ (by rw [latF_len]; simp; omega)]
    simp only [Option.bind_some]
    rw [latF_compl, cc2 hcc]
    have hr := m0_rf (l := latF compl ps ins cl) (latF_aw (f := compl) (ps := ps) (fun _ _ => compl_isWd _) hiw' hcc) (by rw [latF_len]; exact hcl)
    rw [p_impl_RunRegs code _ bb (by simp only [maxLen]; omega) (by rw [latF_len]; omega)]
    have hrc : runC code (latF compl ps ins cl) bb = (0, (runM code bb (m0 (latF compl ps ins cl))).2) := by
      unfold runC
      rw [hwf, hr, decide_eq_true bb0, decide_eq_true bb1]; rfl
    rw [hrc]
    rfl

theorem p_impl_ScanChan (b : Bd) (c : Ch) (ins : Li) (hb : BdB b maxLen) (hc : ChB c 1048576) (hc' : ChB c maxLen) (hi : ins.length ≤ maxLen) : F_impl_ScanChan b c ins = some (outK (scanF b c ins)) := by
  unfold F_impl_ScanChan
  simp only [p_impl_BuildFault b hb, p_impl_ChanFault c hc', p_impl_areWords ins hi, Option.bind_some, scanF]
  have hm : ((bif ((ins.length : Int) != (b.2.1.length : Int)) then some (true, ()) else bif (!!ins.any (fun x => !isW x)) then some (true, ()) else some (((c.2.2.2.1.length : Int) != b.1), ())) : Option (Bool × Unit)) = some (misC b c ins, ()) := by
    unfold misC
    cases ((ins.length : Int) != (b.2.1.length : Int)) <;> cases ins.any (fun x => !isW x) <;> rfl
  simp only [bne] at hm
  simp only [hm, bne]
  cases h1 : (bdFault b == 0)
  case false => rfl
  cases h2 : (chFault c == 0)
  case false => rfl
  simp only [cond_true, cond_false, Bool.not_true, Option.bind_some]
  cases h3 : misC b c ins
  case true => rfl
  have h1' : (bdFault b != 0) = false := by simp only [bne, h1, Bool.not_true]
  have h2' : (chFault c != 0) = false := by simp only [bne, h2, Bool.not_true]
  have hf := fit_of h1' h2' h3
  simp only [cond_false]
  rw [p_impl_Chan_scan b c ins hf (ch_kind h2') hc]
  rfl

theorem scanF_len (b : Bd) (c : Ch) (ins : Li) (n : Nat) (hn : 400 ≤ n) (h : ChB c n) : ChB (scanF b c ins).2.2.2 n := by
  have hz : ChB zC n := ⟨by simp [zC], by simp [zC], by simp [zC]⟩
  unfold scanF
  cases h1 : (bdFault b != 0)
  case true => exact hz
  cases h2 : (chFault c != 0)
  case true => exact hz
  cases h3 : misC b c ins
  case true => exact hz
  obtain ⟨ba0, ba1, bb0, bb1, hps, hpc, hwf, hcc, hcl, hil, hiw⟩ := fit_of h1 h2 h3
  obtain ⟨hnn, hcw⟩ := wf_aw hwf
  simp only [cond_false, scanC]
  cases (c.1 == 1)
  · have := (runC_ok c.2.1 (latF compl b.2.1 ins c.2.2.2.1) b.2.2.2.2.2.2.2.2).2
    have hr := m0_rf (l := latF compl b.2.1 ins c.2.2.2.1) (latF_aw (f := compl) (ps := b.2.1) (fun _ _ => compl_isWd _) (aw_any hiw) hcc) (by rw [latF_len]; exact hcl)
    have hrc : runC c.2.1 (latF compl b.2.1 ins c.2.2.2.1) b.2.2.2.2.2.2.2.2 = (0, (runM c.2.1 b.2.2.2.2.2.2.2.2 (m0 (latF compl b.2.1 ins c.2.2.2.1))).2) := by
      unfold runC
      rw [hwf, hr, decide_eq_true bb0, decide_eq_true bb1]; rfl
    rw [hrc] at this
    exact ⟨h.a, h.b, by show _ ≤ n; simp only at this; simp only [cond_false]; omega⟩
  · have hs := runS_ok c.2.1 b.2.2.2.2.2.2.2.1 (latF id b.2.1 ins c.2.2.2.1).length ba0 ba1 hnn hcw (s0 (latF id b.2.1 ins c.2.2.2.1)) ⟨s0_ok (latF_aw (f := id) (ps := b.2.1) (fun _ h => h) (aw_any hiw) hcc) (by rw [latF_len]; exact hcl), ba0, rfl⟩ rfl
    have := hs.ok.cl
    exact ⟨h.a, h.b, by show _ ≤ n; simp only [cond_true]; omega⟩

theorem p_laws_FnExactScanChan (b : Bd) (c : Ch) (l : Li) (hwb : Wf (.pr (.int .i64) (.pr (.sl (.pr (.int .i64) .bool)) (.pr (.sl (.int .i64)) (.pr (.sl (.int .i64)) (.pr (.sl (.int .i64)) (.pr (.sl (.int .i64)) (.pr (.sl (.int .i64)) (.pr (.int .i64) (.int .i64))))))))) b)
    (hwc : Wf (.pr (.int .i64) (.pr (.sl (.int .i64)) (.pr (.sl (.int .i64)) (.pr (.sl (.int .i64)) (.pr (.int .i64) (.int .i64)))))) c) (hwl : Wf (.sl (.int .i64)) l) : F_laws_FnExactScanChan b c l = some ((true, ()), (), ()) := by
  have hb' : BdB b maxLen := ⟨hwb.2.1.1, hwb.2.2.1.1, hwb.2.2.2.1.1, hwb.2.2.2.2.1.1, hwb.2.2.2.2.2.1.1, hwb.2.2.2.2.2.2.1.1⟩
  have hc' : ChB c maxLen := ⟨hwc.2.1.1, hwc.2.2.1.1, hwc.2.2.2.1.1⟩
  have hlm : l.length ≤ maxLen := hwl.1
  obtain ⟨r, e, g⟩ := z_laws_szBuild b 1048576 (by decide) (by decide) hb'
  simp only [F_laws_FnExactScanChan, e, Option.bind_some]
  cases q1 : decide ((l.length : Int) > 1048576)
  case true => rfl
  have hl1 : l.length ≤ 1048576 := by have := of_decide_eq_false q1; omega
  simp only [cond_false]
  cases q : decide (r < 0)
  case true => rfl
  obtain ⟨g0, g1, hb⟩ := g q
  obtain ⟨r2, e2, g2⟩ := z_laws_szChan c r g0 g1 hc'
  simp only [cond_false, e2, Option.bind_some]
  cases q2 : decide (r2 < 0)
  case true => rfl
  obtain ⟨_, _, hc⟩ := g2 q2
  have ht := scanF_len b c l 1048576 (by decide) hc
  have ht' := scanF_len b c l maxLen (by decide) hc'
  obtain ⟨m, y0, y1, y2, y3, y4, y5, em, im⟩ := m_laws_markBuild b.1 b.2.2.2.2.2.2.2.1 b.2.2.2.2.2.2.2.2 1 b.2.1 b.2.2.1 b.2.2.2.1 b.2.2.2.2.1 b.2.2.2.2.2.1 b.2.2.2.2.2.2.1 (by decide) (by decide) hb.a hb.b hb.c hb.d hb.e hb.f
  have hm := im.le
  have hca := hc.a
  have hcb := hc.b
  have hcc := hc.c
  simp only [cond_false, p_laws_toBuild b hb, p_laws_toChan c hc, p_laws_toInt64S l hl1, p_spec_ScanChan b c l hb' hc hc' hlm, p_impl_ScanChan b c l hb' hc hc' hlm, Option.bind_some, em]
  generalize scanF b c l = u at ht ht'
  have ta := ht.a
  have tb := ht.b
  have tc := ht.c
  simp only [p_laws_eqChanResult (u.1, u.2.1, u.2.2.1, u.2.2.2) ht', p_laws_eqBuild b hb', p_laws_eqChan c hc', p_laws_eqInt64S l hlm,
    p_laws_markChan c.1 c.2.2.2.2.1 c.2.2.2.2.2 m c.2.1 c.2.2.1 c.2.2.2.1 (by omega) (by omega) hca hcb hcc, Option.bind_some, Bool.not_true, cond_false]
  rw [p_laws_markInt64S (m + (c.2.1.length : Int) + (c.2.2.1.length : Int) + (c.2.2.2.1.length : Int)) l (by omega) (by omega) hl1]
  simp only [Option.bind_some]
  rw [decide_eq_false (show ¬ m + (c.2.1.length : Int) + (c.2.2.1.length : Int) + (c.2.2.2.1.length : Int) + (l.length : Int) < 0 by omega)]
  simp only [cond_false, Option.bind_some,
    p_laws_markChanResult u.1 u.2.1 u.2.2.1 u.2.2.2.1 u.2.2.2.2.2.2.2.1 u.2.2.2.2.2.2.2.2 1 u.2.2.2.2.1 u.2.2.2.2.2.1 u.2.2.2.2.2.2.1 (by decide) (by decide) ta tb tc,
    p_laws_heldChanResult u.1 u.2.1 u.2.2.1 u.2.2.2.1 u.2.2.2.2.2.2.2.1 u.2.2.2.2.2.2.2.2 1 u.2.2.2.2.1.length u.2.2.2.2.2.1.length u.2.2.2.2.2.2.1.length (by decide) (by decide) ta tb tc]
  rw [decide_eq_false (show ¬ (1 : Int) + u.2.2.2.2.1.length + u.2.2.2.2.2.1.length + u.2.2.2.2.2.2.1.length < 0 by omega)]
  simp only [cond_false, bne_self_eq_false]

end Go.Ev
