/- What is proved here: the pure function of FnExactTestChan yields true for each argument that can be read; no condition. -/
import Derived.Test.YtfglckpbconanaaTestA
set_option linter.unusedVariables false
set_option linter.unusedSimpArgs false
namespace Go.Ev
abbrev Li : Type := List Int
abbrev Ch : Type := Int × Li × Li × Li × Int × Int
theorem lim_fill {A B α : Type} {step : A → Option (A ⊕ B)} (v : Nat → α) (mk : Nat → List α → A) (out : List α → B) (l : List α)
    (h1 : ∀ i acc, acc.length = l.length → i < l.length → step (mk i acc) = some (.inl (mk (i + 1) (acc.set i (v i))))) (h2 : ∀ acc, acc.length = l.length → step (mk l.length acc) = some (.inr (out acc))) :
    lim step (mk 0 l) = some (out ((List.range l.length).map v)) := by
  have key : ∀ (k i : Nat) (acc : List α), i + k = l.length → acc.length = l.length → acc.take i = (List.range i).map v → lim step (mk i acc) = some (out ((List.range l.length).map v)) := by
    intro k
    induction k with
    | zero =>
      intro i acc hi hn ht
      have : i = l.length := by omega
      subst this
      rw [List.take_of_length_le (by omega)] at ht
      rw [lim_eq, h2 _ hn, ht]
    | succ k ih =>
      intro i acc hi hn ht
      rw [lim_eq, h1 i acc hn (by omega)]
      refine ih (i + 1) _ (by omega) (by simp [hn]) ?_
      rw [List.take_add_one, List.getElem?_set_self (by omega), List.take_set_of_le (Nat.le_refl i), ht, List.range_succ, List.map_append]
      rfl
  exact key l.length 0 l (by omega) rfl (by simp)
theorem lim_app {A B α β : Type} {step : A → Option (A ⊕ B)} (l : List α) (f : α → β) (mk : Nat → List β → A) (out : B)
    (h1 : ∀ i acc d, acc.length ≤ l.length → acc.length = i → l[i]? = some d → step (mk i acc) = some (.inl (mk (i + 1) (acc ++ [f d])))) (h2 : step (mk l.length (l.map f)) = some (.inr out)) :
    lim step (mk 0 []) = some out := by
  have key : ∀ (r : List α) (i : Nat), l.drop i = r → i ≤ l.length → lim step (mk i ((l.take i).map f)) = some out := by
    intro r
    induction r with
    | nil =>
      intro i hd hle
      have : i = l.length := by have := congrArg List.length hd; simp at this; omega
      subst this
      rw [List.take_of_length_le (Nat.le_refl _), lim_eq, h2]
    | cons d r ih =>
      intro i hd hle
      have hlt : i < l.length := by have := congrArg List.length hd; simp at this; omega
      have hg : l[i]? = some d := by
        have := congrArg (·[0]?) hd
        simpa using this
      rw [lim_eq, h1 i _ d (by simp; omega) (by simp; omega) hg]
      have := ih (i + 1) (by rw [← List.drop_drop, hd]; rfl) hlt
      rw [List.take_add_one, hg, List.map_append] at this
      exact this
  have := key l 0 rfl (Nat.zero_le _)
  simpa using this
theorem range_get {n i d : Nat} (h : (List.range n)[i]? = some d) : d = i ∧ i < n := by
  obtain ⟨h1, h2⟩ := List.getElem?_eq_some_iff.1 h
  simp at h2 h1
  omega
theorem map_const {α β : Type} (v : β) (l : List α) : l.map (fun _ => v) = List.replicate l.length v := by
  induction l with
  | nil => rfl
  | cons a l ih => simp [ih, List.replicate_succ]
theorem lim_rep {A B α : Type} {step : A → Option (A ⊕ B)} (n : Nat) (v : α) (mk : Nat → List α → A) (out : B)
    (h1 : ∀ i acc, i < n → acc.length = i → step (mk i acc) = some (.inl (mk (i + 1) (acc ++ [v])))) (h2 : step (mk n (List.replicate n v)) = some (.inr out)) : lim step (mk 0 []) = some out := by
  refine lim_app (step := step) (List.range n) (fun _ => v) mk out (fun i acc d hn hi hg => h1 i acc (range_get hg).2 hi) ?_
  rw [map_const, List.length_range]; exact h2
theorem ib_in {x : Int} {n : Nat} (h0 : 0 ≤ x) (h1 : x < n) : ib x n = true := by simp [ib, h0, h1]
theorem any_no {α : Type} (l : List α) : l.any (fun _ => false) = false := by induction l with | nil => rfl | cons a l ih => simp [ih]
theorem room8 {l : Li} (h : l.length ≤ 1048576) : room ([] ++ l).length 8 = true := by simp [room]; omega
theorem i_cases {p : Prop} [Decidable p] : decide p = true ∨ decide p = false := by cases decide p <;> simp
theorem wrap_u16 (x : Int) : IntKind.wrap .u16 x = x % 65536 := by simp [IntKind.wrap, IntKind.bits, IntKind.signed]
theorem u16_eq (x : Int) : ((BitVec.ofInt (IntKind.bits .i64) x &&& BitVec.ofInt (IntKind.bits .i64) (65535 : Int)).toNat : Int) = IntKind.wrap .u16 x := by
  rw [wrap_u16, BitVec.toNat_and]
  have h1 : (BitVec.ofInt (IntKind.bits .i64) (65535 : Int)).toNat = 2 ^ 16 - 1 := by decide
  rw [h1, Nat.and_two_pow_sub_one_eq_mod]
  show (((BitVec.ofInt 64 x).toNat % 2 ^ 16 : Nat) : Int) = _
  rw [BitVec.toNat_ofInt]
  omega
def isW (x : Int) : Bool := decide (0 ≤ x) && decide (x ≤ 65535)
def wf (l : Li) : Int := bif decide ((l.length : Int) > 400) then 2 else bif l.any (fun x => !isW x) then 3 else 0
theorem all_any (l : Li) : l.all isW = !l.any (fun x => !isW x) := by induction l with | nil => rfl | cons a l ih => simp [ih]
def chFault (c : Ch) : Int := bif !(c.1 == 1 || c.1 == 2) then 1 else bif wf c.2.1 != 0 then wf c.2.1 else bif wf c.2.2.1 != 0 then wf c.2.2.1 else
  bif c.2.2.2.1.any (fun x => !isW x) || !isW c.2.2.2.2.1 || !isW c.2.2.2.2.2 then 3 else bif decide ((c.2.2.2.1.length : Int) > 80) then 2 else 0
structure ChB (c : Ch) (n : Nat) : Prop where
  a : c.2.1.length ≤ n
  b : c.2.2.1.length ≤ n
  c : c.2.2.2.1.length ≤ n
def iota (n : Int) (k : Nat) : Li := (List.range k).map fun (i : Nat) => n + (i : Int)
theorem iota_get {n : Int} {k i : Nat} {d : Int} (h : (iota n k)[i]? = some d) : d = n + i := by
  simp only [iota, List.getElem?_map] at h
  cases h' : (List.range k)[i]? with
  | none => rw [h'] at h; cases h
  | some j =>
    rw [h'] at h
    have := (List.getElem?_eq_some_iff.1 h').2
    simp at this
    simp only [Option.map_some, Option.some.injEq] at h
    omega
theorem iota_len (n : Int) (k : Nat) : (iota n k).length = k := by simp [iota]
def compl (x : Int) : Int := IntKind.wrap .i64 (65535 - IntKind.wrap .i64 (IntKind.wrap .u16 x))
def tc (c : Ch) : Int × Li := bif chFault c != 0 then (chFault c, []) else (0, bif c.1 == 2 then c.2.2.2.1.map compl else c.2.2.2.1)
theorem tc_len (c : Ch) (n : Nat) (h : ChB c n) : (tc c).2.length ≤ n := by
  have := h.c
  unfold tc
  cases (chFault c != 0)
  · cases (c.1 == 2) <;> simpa using this
  · simp

theorem p_laws_szInt64S (l : Li) (left : Int) (h0 : 0 ≤ left) (h1 : left ≤ 1048576) (hl : l.length ≤ maxLen) :
    F_laws_szInt64S l left = some ((if left - (l.length : Int) < 0 then -1 else left - l.length, ()), (), ()) := by
  simp only [maxLen] at hl
  have hw : IntKind.wrap .i64 (left - (l.length : Int)) = left - l.length := wrap_id (by omega) (by omega)
  unfold F_laws_szInt64S
  rw [hw]
  by_cases hn : left - (l.length : Int) < 0
  · simp [hn]
  · simp [hn]
theorem z_laws_szInt64S (l : Li) (left : Int) (h0 : 0 ≤ left) (h1 : left ≤ 1048576) (hl : l.length ≤ maxLen) :
    ∃ r : Int, F_laws_szInt64S l left = some ((r, ()), (), ()) ∧ (decide (r < 0) = false → 0 ≤ r ∧ r ≤ 1048576 ∧ l.length ≤ 1048576) := by
  refine ⟨_, p_laws_szInt64S l left h0 h1 hl, fun h => ?_⟩
  have h := of_decide_eq_false h
  split at h
  · omega
  · rename_i hh; rw [if_neg hh]; omega

theorem z_laws_szChan (c : Ch) (left : Int) (h0 : 0 ≤ left) (h1 : left ≤ 1048576) (hl : ChB c maxLen) :
    ∃ r : Int, F_laws_szChan c left = some ((r, ()), (), ()) ∧ (decide (r < 0) = false → 0 ≤ r ∧ r ≤ 1048576 ∧ ChB c 1048576) := by
  obtain ⟨r1, e1, g1⟩ := z_laws_szInt64S c.2.1 left h0 h1 hl.a
  simp only [F_laws_szChan, e1, Option.bind_some]
  cases q1 : decide (r1 < 0)
  · obtain ⟨a1, a2, a3⟩ := g1 q1
    obtain ⟨r2, e2, g2⟩ := z_laws_szInt64S c.2.2.1 r1 a1 a2 hl.b
    simp only [cond_false, e2, Option.bind_some]
    cases q2 : decide (r2 < 0)
    · obtain ⟨b1, b2, b3⟩ := g2 q2
      obtain ⟨r3, e3, g3⟩ := z_laws_szInt64S c.2.2.2.1 r2 b1 b2 hl.c
      simp only [cond_false, e3, Option.bind_some]
      cases q3 : decide (r3 < 0)
      · obtain ⟨c1, c2, c3⟩ := g3 q3
        exact ⟨r3, rfl, fun _ => ⟨c1, c2, a3, b3, c3⟩⟩
      · exact ⟨-1, rfl, fun h => by simp at h⟩
    · exact ⟨-1, rfl, fun h => by simp at h⟩
  · exact ⟨-1, rfl, fun h => by simp at h⟩

theorem p_laws_toInt64S (l : Li) (h : l.length ≤ 1048576) : F_laws_toInt64S l = some ((), (), (l, ())) := by
  have hm : l.length ≤ maxLen := by simp only [maxLen]; omega
  have hl : l_laws_toInt64S_l3 ((l, ((0 : Int), ())), (), ((List.replicate l.length (0 : Int)), ())) = some ((), (), (l, ())) :=
    lim_copy (step := s_laws_toInt64S_l3) l (fun i acc => ((l, ((i : Int), ())), (), (acc, ()))) (fun acc => ((), (), (acc, ()))) (0 : Int)
      (fun i acc d hn hg => by
        have hlt := lt_of_get hg
        simp only [s_laws_toInt64S_l3, dec_lt hlt, cond_true, ib_nat hlt, Int.toNat_natCast, getD_of hg, wrap_succ hlt hm]
        rw [ib_nat (show i < acc.length by omega)]
        rfl)
      (fun acc => by simp only [s_laws_toInt64S_l3, dec_self, cond_false])
  have hroom : room l.length 8 = true := by simp [room]; omega
  simp only [F_laws_toInt64S, Int.toNat_natCast, hroom, cond_true]
  rw [show decide (0 ≤ (l.length : Int) ∧ (l.length : Int) ≤ (l.length : Int)) = true by simp]
  simp only [cond_true]
  rw [show K.zero (.int .i64) = (0 : Int) from rfl, hl]
  rfl

theorem p_laws_toChan (c : Ch) (h : ChB c 1048576) : F_laws_toChan c = some (((c.1, (c.2.2.2.2.1, (c.2.2.2.2.2, ()))), ()), (), (c.2.1, (c.2.2.1, (c.2.2.2.1, ())))) := by
  simp only [F_laws_toChan, p_laws_toInt64S _ h.a, p_laws_toInt64S _ h.b, p_laws_toInt64S _ h.c, Option.bind_some]

theorem p_laws_eqInt64S (l : Li) (hm : l.length ≤ maxLen) : F_laws_eqInt64S l l = some ((true, ()), (), ()) := by
  have h4 : l_laws_eqInt64S_l4 ((l, (l, ((0 : Int), ()))), (), ()) = _ :=
    lim_any (step := s_laws_eqInt64S_l4) l (fun i => ((l, (l, ((i : Int), ()))), (), ())) (fun _ => false) (.inl ((), (), ())) (.inl ((), (), ()))
      (fun i d hg => by
        have hlt := lt_of_get hg
        simp only [s_laws_eqInt64S_l4, dec_lt hlt, cond_true, ib_nat hlt, Int.toNat_natCast, getD_of hg, wrap_succ hlt hm, bne_self_eq_false, cond_false])
      (by simp only [s_laws_eqInt64S_l4, dec_self, cond_false])
  rw [any_no] at h4
  simp only [F_laws_eqInt64S, bne_self_eq_false, cond_false, h4, Option.bind_some]

theorem p_laws_eqChan (c : Ch) (h : ChB c maxLen) : F_laws_eqChan c c = some ((true, ()), (), ()) := by
  simp only [F_laws_eqChan, bne_self_eq_false, cond_false, p_laws_eqInt64S _ h.a, p_laws_eqInt64S _ h.b, p_laws_eqInt64S _ h.c, Option.bind_some, Bool.not_true]

theorem p_laws_eqChanResult (x : Int × Int × Int × Ch) (h : ChB x.2.2.2 maxLen) : F_laws_eqChanResult x x = some ((true, ()), (), ()) := by
  simp only [F_laws_eqChanResult, bne_self_eq_false, cond_false, p_laws_eqChan _ h, Option.bind_some, Bool.not_true]

theorem p_laws_markInt64S (n : Int) (l : Li) (h0 : 0 ≤ n) (h1 : n ≤ 1099511627776) (hl : l.length ≤ 1048576) :
    F_laws_markInt64S n l = some ((n + (l.length : Int), ()), (), (iota n l.length, ())) := by
  have hm : l.length ≤ maxLen := by simp only [maxLen]; omega
  have hk : l_laws_markInt64S_l2 ((n, ((0 : Int), ())), (), (l, ())) = some ((n + (l.length : Int), ()), (), (iota n l.length, ())) := by
    have := lim_fill (step := s_laws_markInt64S_l2) (fun i => n + (i : Int)) (fun i acc => ((n + (i : Int), ((i : Int), ())), (), (acc, ()))) (fun acc => ((n + (l.length : Int), ()), (), (acc, ()))) l
      (fun i acc hn hlt => by
        simp only [s_laws_markInt64S_l2, hn, dec_lt hlt, cond_true, ib_nat hlt, Int.toNat_natCast, wrap_succ hlt hm]
        rw [wrap_id (x := n + (i : Int) + 1) (by omega) (by omega)]
        rw [show n + (i : Int) + 1 = n + ((i + 1 : Nat) : Int) by omega])
      (fun acc hn => by simp only [s_laws_markInt64S_l2, hn, dec_self, cond_false])
    simp only [Int.natCast_zero, Int.add_zero] at this
    exact this
  simp only [F_laws_markInt64S, hk, Option.bind_some]

theorem p_laws_markChan (a b c n : Int) (x y z : Li) (h0 : 0 ≤ n) (h1 : n ≤ 1073741824) (hx : x.length ≤ 1048576) (hy : y.length ≤ 1048576) (hz : z.length ≤ 1048576) :
    F_laws_markChan a b c n x y z = some ((n + (x.length : Int) + (y.length : Int) + (z.length : Int), ()), (), (iota n x.length, (iota (n + (x.length : Int)) y.length, (iota (n + (x.length : Int) + (y.length : Int)) z.length, ())))) := by
  simp only [F_laws_markChan, p_laws_markInt64S n x h0 (by omega) hx, p_laws_markInt64S (n + (x.length : Int)) y (by omega) (by omega) hy, p_laws_markInt64S (n + (x.length : Int) + (y.length : Int)) z (by omega) (by omega) hz, Option.bind_some]

theorem p_laws_markChanResult (u v w a b c n : Int) (x y z : Li) (h0 : 0 ≤ n) (h1 : n ≤ 1073741824) (hx : x.length ≤ 1048576) (hy : y.length ≤ 1048576) (hz : z.length ≤ 1048576) :
    F_laws_markChanResult u v w a b c n x y z = some ((n + (x.length : Int) + (y.length : Int) + (z.length : Int), ()), (), (iota n x.length, (iota (n + (x.length : Int)) y.length, (iota (n + (x.length : Int) + (y.length : Int)) z.length, ())))) := by
  simp only [F_laws_markChanResult, p_laws_markChan a b c n x y z h0 h1 hx hy hz, Option.bind_some]

theorem p_laws_heldInt64S (n : Int) (k : Nat) (h0 : 0 ≤ n) (h1 : n ≤ 1099511627776) (hl : k ≤ 1048576) :
    F_laws_heldInt64S (iota n k) n = some ((n + (k : Int), ()), (), ()) := by
  have hm : (iota n k).length ≤ maxLen := by simp only [maxLen, iota_len]; omega
  have hk : l_laws_heldInt64S_l2 ((iota n k, (n, ((0 : Int), ()))), (), ()) = some (bif (iota n k).any (fun _ => false) then .inl ((n + (k : Int), ()), (), ()) else .inl ((n + (k : Int), ()), (), ())) := by
    have := lim_any (step := s_laws_heldInt64S_l2) (iota n k) (fun i => ((iota n k, (n + (i : Int), ((i : Int), ()))), (), ())) (fun _ => false) (.inl ((n + (k : Int), ()), (), ())) (.inl ((n + (k : Int), ()), (), ()))
      (fun i d hg => by
        have hlt := lt_of_get hg
        have hd := iota_get hg
        have hik : i < k := by rw [iota_len] at hlt; exact hlt
        simp only [s_laws_heldInt64S_l2, dec_lt hlt, cond_true, ib_nat hlt, Int.toNat_natCast, getD_of hg, wrap_succ hlt hm, hd, bne_self_eq_false, cond_false]
        rw [wrap_id (x := n + (i : Int) + 1) (by omega) (by omega)]
        rw [show n + (i : Int) + 1 = n + ((i + 1 : Nat) : Int) by omega])
      (by simp only [s_laws_heldInt64S_l2, dec_self, cond_false, iota_len])
    simp only [Int.natCast_zero, Int.add_zero] at this
    exact this
  rw [any_no] at hk
  simp only [F_laws_heldInt64S, hk, Option.bind_some, cond_false]

theorem p_laws_heldChan (a b c n : Int) (x y z : Nat) (h0 : 0 ≤ n) (h1 : n ≤ 1073741824) (hx : x ≤ 1048576) (hy : y ≤ 1048576) (hz : z ≤ 1048576) :
    F_laws_heldChan (a, iota n x, iota (n + (x : Int)) y, iota (n + (x : Int) + (y : Int)) z, b, c) n = some ((n + (x : Int) + (y : Int) + (z : Int), ()), (), ()) := by
  simp only [F_laws_heldChan, p_laws_heldInt64S n x h0 (by omega) hx, p_laws_heldInt64S (n + (x : Int)) y (by omega) (by omega) hy, p_laws_heldInt64S (n + (x : Int) + (y : Int)) z (by omega) (by omega) hz, Option.bind_some]
  rw [decide_eq_false (show ¬ n + (x : Int) < 0 by omega), decide_eq_false (show ¬ n + (x : Int) + (y : Int) < 0 by omega), decide_eq_false (show ¬ n + (x : Int) + (y : Int) + (z : Int) < 0 by omega)]; rfl

theorem p_laws_heldChanResult (u v w a b c n : Int) (x y z : Nat) (h0 : 0 ≤ n) (h1 : n ≤ 1073741824) (hx : x ≤ 1048576) (hy : y ≤ 1048576) (hz : z ≤ 1048576) :
    F_laws_heldChanResult (u, v, w, a, iota n x, iota (n + (x : Int)) y, iota (n + (x : Int) + (y : Int)) z, b, c) n = some ((n + (x : Int) + (y : Int) + (z : Int), ()), (), ()) := by
  simp only [F_laws_heldChanResult, p_laws_heldChan a b c n x y z h0 h1 hx hy hz, Option.bind_some]
  rw [decide_eq_false (show ¬ n + (x : Int) + (y : Int) + (z : Int) < 0 by omega)]; rfl

theorem p_spec_l13Kind (x : Int) : F_spec_l13Kind x = some (((x == 1 || x == 2), ()), (), ()) := by
  unfold F_spec_l13Kind
  cases (x == 1) <;> rfl

theorem p_spec_l1In (x a b : Int) : F_spec_l1In x a b = some (((decide (a ≤ x) && decide (x ≤ b)), ()), (), ()) := by
  unfold F_spec_l1In
  simp only [ge_iff_le]
  cases decide (a ≤ x) <;> rfl

theorem p_spec_l1Word (x : Int) : F_spec_l1Word x = some ((isW x, ()), (), ()) := by
  simp only [F_spec_l1Word, p_spec_l1In, Option.bind_some, isW]

theorem p_spec_l6All (l : Li) (hm : l.length ≤ maxLen) : F_spec_l6All l = some ((!l.any (fun x => !isW x), ()), (), ()) := by
  have h2 : l_spec_l6All_l2 ((l, ((0 : Int), ())), (), ()) = _ :=
    lim_any (step := s_spec_l6All_l2) l (fun i => ((l, ((i : Int), ())), (), ())) (fun x => !isW x) (.inr ((false, ()), (), ())) (.inl ((), (), ()))
      (fun i d hg => by
        have hlt := lt_of_get hg
        simp only [s_spec_l6All_l2, dec_lt hlt, cond_true, ib_nat hlt, Int.toNat_natCast, getD_of hg, wrap_succ hlt hm, p_spec_l1Word, Option.bind_some]
        cases isW d <;> rfl)
      (by simp only [s_spec_l6All_l2, dec_self, cond_false])
  simp only [F_spec_l6All, h2, Option.bind_some]
  cases l.any (fun x => !isW x) <;> rfl

theorem p_spec_WordsFault (l : Li) (hm : l.length ≤ maxLen) : F_spec_WordsFault l = some ((wf l, ()), (), ()) := by
  have h2 : l_spec_WordsFault_l4 ((l, ((0 : Int), ())), (), ()) = _ :=
    lim_any (step := s_spec_WordsFault_l4) l (fun i => ((l, ((i : Int), ())), (), ())) (fun x => !isW x) (.inr (((3 : Int), ()), (), ())) (.inl ((), (), ()))
      (fun i d hg => by
        have hlt := lt_of_get hg
        simp only [s_spec_WordsFault_l4, dec_lt hlt, cond_true, ib_nat hlt, Int.toNat_natCast, getD_of hg, wrap_succ hlt hm, p_spec_l1Word, Option.bind_some]
        cases isW d <;> rfl)
      (by simp only [s_spec_WordsFault_l4, dec_self, cond_false])
  simp only [F_spec_WordsFault, h2, Option.bind_some, wf]
  cases decide ((l.length : Int) > 400)
  · cases l.any (fun x => !isW x) <;> rfl
  · rfl

theorem p_spec_l13Fault (c : Ch) (h : ChB c maxLen) : F_spec_l13Fault c = some ((chFault c, ()), (), ()) := by
  simp only [F_spec_l13Fault, p_spec_l13Kind, p_spec_WordsFault _ h.a, p_spec_WordsFault _ h.b, p_spec_l6All _ h.c, p_spec_l1Word, Option.bind_some, chFault]
  cases (c.1 == 1 || c.1 == 2)
  · rfl
  · simp only [Bool.not_true, cond_false]
    cases (wf c.2.1 != 0)
    · cases (wf c.2.2.1 != 0)
      · cases c.2.2.2.1.any (fun x => !isW x) <;> cases isW c.2.2.2.2.1 <;> cases isW c.2.2.2.2.2 <;> cases decide ((c.2.2.2.1.length : Int) > 80) <;> rfl
      · rfl
    · rfl

theorem p_impl_within (x a b : Int) : F_impl_within x a b = some (((decide (a ≤ x) && decide (x ≤ b)), ()), (), ()) := by
  unfold F_impl_within
  cases decide (a ≤ x) <;> rfl

theorem p_impl_isWord (x : Int) : F_impl_isWord x = some ((isW x, ()), (), ()) := by
  simp only [F_impl_isWord, p_impl_within, Option.bind_some, isW]

theorem p_impl_areWords (l : Li) (hm : l.length ≤ maxLen) : F_impl_areWords l = some ((!l.any (fun x => !isW x), ()), (), ()) := by
  have h2 : l_impl_areWords_l2 ((l, ((l.length : Int), ((0 : Int), ()))), (), ()) = _ :=
    lim_any (step := s_impl_areWords_l2) l (fun i => ((l, ((l.length : Int), ((i : Int), ()))), (), ())) (fun x => !isW x) (.inr ((false, ()), (), ())) (.inl ((), (), ()))
      (fun i d hg => by
        have hlt := lt_of_get hg
        simp only [s_impl_areWords_l2, dec_lt hlt, cond_true, ib_nat hlt, Int.toNat_natCast, getD_of hg, wrap_succ hlt hm, p_impl_isWord, Option.bind_some]
        cases isW d <;> rfl)
      (by simp only [s_impl_areWords_l2, dec_self, cond_false])
  simp only [F_impl_areWords, h2, Option.bind_some]
  cases l.any (fun x => !isW x) <;> rfl

theorem p_impl_WordsFault (l : Li) (hm : l.length ≤ maxLen) : F_impl_WordsFault l = some ((wf l, ()), (), ()) := by
  simp only [F_impl_WordsFault, p_impl_areWords _ hm, Option.bind_some, wf, Bool.not_not]
  cases decide ((l.length : Int) > 400)
  · cases l.any (fun x => !isW x) <;> rfl
  · rfl

theorem p_impl_ChanFault (c : Ch) (h : ChB c maxLen) : F_impl_ChanFault c = some ((chFault c, ()), (), ()) := by
  have hl : l_impl_ChanFault_l4 (((([c.2.1, c.2.2.1]).length : Int), ((0 : Int), ())), ((c.1, (c.2.1, (c.2.2.1, (c.2.2.2.1, (c.2.2.2.2.1, (c.2.2.2.2.2, ())))))), ()), ([c.2.1, c.2.2.1], ())) =
      some (bif wf c.2.1 != 0 then .inr ((wf c.2.1, ()), (), ()) else bif wf c.2.2.1 != 0 then .inr ((wf c.2.2.1, ()), (), ()) else .inl ((), ((c.1, (c.2.1, (c.2.2.1, (c.2.2.2.1, (c.2.2.2.2.1, (c.2.2.2.2.2, ())))))), ()), ())) := by
    have w1 : IntKind.wrap .i64 ((0 : Int) + 1) = 1 := by decide
    have w2 : IntKind.wrap .i64 ((1 : Int) + 1) = 2 := by decide
    unfold l_impl_ChanFault_l4
    rw [lim_eq]
    simp only [s_impl_ChanFault_l4, List.length_cons, List.length_nil]
    rw [show decide ((0 : Int) < ((0 + 1 + 1 : Nat) : Int)) = true by decide, show ib (0 : Int) (0 + 1 + 1) = true by decide]
    simp only [cond_true, show (Int.toNat (0 : Int)) = 0 from rfl, List.getD_cons_zero, p_impl_WordsFault _ h.a, Option.bind_some, w1]
    cases (wf c.2.1 != 0)
    · simp only [cond_false]
      rw [lim_eq]
      simp only [s_impl_ChanFault_l4, List.length_cons, List.length_nil]
      rw [show decide ((1 : Int) < ((0 + 1 + 1 : Nat) : Int)) = true by decide, show ib (1 : Int) (0 + 1 + 1) = true by decide]
      simp only [cond_true, show (Int.toNat (1 : Int)) = 1 from rfl, List.getD_cons_succ, List.getD_cons_zero, p_impl_WordsFault _ h.b, Option.bind_some, w2]
      cases (wf c.2.2.1 != 0)
      · simp only [cond_false]
        rw [lim_eq]
        simp only [s_impl_ChanFault_l4]
        rw [show decide ((2 : Int) < ((0 + 1 + 1 : Nat) : Int)) = false by decide]
        rfl
      · rfl
    · rfl
  simp only [F_impl_ChanFault, hl, Option.bind_some, chFault, bne]
  cases (c.1 == 1) <;> cases (c.1 == 2)
  · rfl
  all_goals
    simp only [Bool.not_true, Bool.not_false, cond_true, cond_false, Option.bind_some, Bool.or_true, Bool.true_or]
    cases (wf c.2.1 == 0)
    · rfl
    · cases (wf c.2.2.1 == 0)
      · rfl
      · simp only [Bool.not_true, cond_false, p_impl_areWords _ h.c, p_impl_isWord, Option.bind_some, Bool.not_not]
        cases c.2.2.2.1.any (fun x => !isW x) <;> cases isW c.2.2.2.2.1 <;> cases isW c.2.2.2.2.2 <;> cases decide ((c.2.2.2.1.length : Int) > 80) <;> rfl

theorem p_slices_Clone_int64 (l : Li) (h : l.length ≤ 1048576) : F_slices_Clone_int64 l = some ((), (), (l, ())) := by
  have hr := room8 h
  simp only [List.nil_append] at hr
  simp only [F_slices_Clone_int64, List.nil_append, hr, cond_true, nilB]
  cases l with
  | nil => simp
  | cons a l => rfl

def hxor (x v : Int) : Int := IntKind.wrap .i64 (((BitVec.ofInt (IntKind.bits .i64) x ^^^ BitVec.ofInt (IntKind.bits .i64) v).toNat : Int))
abbrev HL : Type := Int × Int × Int × Li × Li × Li
def hurtL (k i v w1 w2 : Int) (x y z : Li) : HL :=
  bif k == 1 then bif isW v && ib i x.length then (0, w1, w2, x.set i.toNat (hxor (x.getD i.toNat 0) v), y, z) else (3, w1, w2, x, y, z)
  else bif k == 2 then bif isW v && ib i z.length then (0, w1, w2, x, y, z.set i.toNat (hxor (z.getD i.toNat 0) v)) else (3, w1, w2, x, y, z)
  else bif k == 3 then bif isW v && ib i y.length then (0, w1, w2, x, y.set i.toNat (hxor (y.getD i.toNat 0) v), z) else (3, w1, w2, x, y, z)
  else bif k == 4 then bif isW v && ib i 1 then (0, hxor w1 v, w2, x, y, z) else (3, w1, w2, x, y, z)
  else bif k == 5 then bif isW v && ib i 1 then (0, w1, hxor w2 v, x, y, z) else (3, w1, w2, x, y, z)
  else (1, w1, w2, x, y, z)
theorem hurtL_len (k i v w1 w2 : Int) (x y z : Li) : (hurtL k i v w1 w2 x y z).2.2.2.1.length = x.length ∧ (hurtL k i v w1 w2 x y z).2.2.2.2.1.length = y.length ∧ (hurtL k i v w1 w2 x y z).2.2.2.2.2.length = z.length := by
  unfold hurtL
  cases (k == 1)
  · cases (k == 2)
    · cases (k == 3)
      · cases (k == 4)
        · cases (k == 5)
          · exact ⟨rfl, rfl, rfl⟩
          · cases (isW v && ib i 1) <;> exact ⟨rfl, rfl, rfl⟩
        · cases (isW v && ib i 1) <;> exact ⟨rfl, rfl, rfl⟩
      · cases (isW v && ib i y.length) <;> simp
    · cases (isW v && ib i z.length) <;> simp
  · cases (isW v && ib i x.length) <;> simp
theorem inL (i : Int) (n : Nat) : (decide (0 ≤ i) && decide (i ≤ (n : Int) - 1)) = ib i n := by
  unfold ib
  rw [← Bool.decide_and]
  exact decide_eq_decide.2 (by omega)
theorem wrap_pred (n : Nat) (h : n ≤ maxLen) : IntKind.wrap .i64 ((n : Int) - 1) = (n : Int) - 1 := by
  simp only [maxLen] at h
  exact wrap_id (by omega) (by omega)
def hurtC (c : Ch) (k i v : Int) : Int × Ch :=
  bif chFault c != 0 then (chFault c, 0, [], [], [], 0, 0) else
  bif (hurtL k i v c.2.2.2.2.1 c.2.2.2.2.2 c.2.1 c.2.2.1 c.2.2.2.1).1 != 0 then ((hurtL k i v c.2.2.2.2.1 c.2.2.2.2.2 c.2.1 c.2.2.1 c.2.2.2.1).1, 0, [], [], [], 0, 0) else
  (0, c.1, (hurtL k i v c.2.2.2.2.1 c.2.2.2.2.2 c.2.1 c.2.2.1 c.2.2.2.1).2.2.2.1, (hurtL k i v c.2.2.2.2.1 c.2.2.2.2.2 c.2.1 c.2.2.1 c.2.2.2.1).2.2.2.2.1, (hurtL k i v c.2.2.2.2.1 c.2.2.2.2.2 c.2.1 c.2.2.1 c.2.2.2.1).2.2.2.2.2, (hurtL k i v c.2.2.2.2.1 c.2.2.2.2.2 c.2.1 c.2.2.1 c.2.2.2.1).2.1, (hurtL k i v c.2.2.2.2.1 c.2.2.2.2.2 c.2.1 c.2.2.1 c.2.2.2.1).2.2.1)
theorem hurtC_len (c : Ch) (k i v : Int) (n : Nat) (h : ChB c n) : ChB (hurtC c k i v).2 n := by
  obtain ⟨a, b, d⟩ := hurtL_len k i v c.2.2.2.2.1 c.2.2.2.2.2 c.2.1 c.2.2.1 c.2.2.2.1
  unfold hurtC
  cases (chFault c != 0)
  · simp only [cond_false]
    generalize hurtL k i v c.2.2.2.2.1 c.2.2.2.2.2 c.2.1 c.2.2.1 c.2.2.2.1 = r at a b d ⊢
    cases (r.1 != 0)
    · exact ⟨by simpa [a] using h.a, by simpa [b] using h.b, by simpa [d] using h.c⟩
    · exact ⟨Nat.zero_le _, Nat.zero_le _, Nat.zero_le _⟩
  · exact ⟨Nat.zero_le _, Nat.zero_le _, Nat.zero_le _⟩
abbrev outC (r : Int × Ch) : ((Int × Int × Int × Int × Int × Int × Unit) × Unit) × Unit × (Li × Li × Li × Unit) := (((r.1, ((0 : Int), ((0 : Int), (r.2.1, (r.2.2.2.2.2.1, (r.2.2.2.2.2.2, ())))))), ()), (), (r.2.2.1, (r.2.2.2.1, (r.2.2.2.2.1, ()))))

theorem p_spec_l13Copy (c : Ch) (h : ChB c 1048576) : F_spec_l13Copy c = some (((c.1, (c.2.2.2.2.1, (c.2.2.2.2.2, ()))), ()), (), (c.2.1, (c.2.2.1, (c.2.2.2.1, ())))) := by
  have ha := room8 h.a
  have hb := room8 h.b
  have hc := room8 h.c
  simp only [List.nil_append] at ha hb hc
  simp only [F_spec_l13Copy, List.nil_append, ha, hb, hc, cond_true]

theorem p_impl_Chan_copied (c : Ch) (h : ChB c 1048576) : F_impl_Chan_copied c = some (((c.1, (c.2.2.2.2.1, (c.2.2.2.2.2, ()))), ()), (), (c.2.1, (c.2.2.1, (c.2.2.2.1, ())))) := by
  simp only [F_impl_Chan_copied, p_slices_Clone_int64 _ h.a, p_slices_Clone_int64 _ h.b, p_slices_Clone_int64 _ h.c, Option.bind_some]

abbrev Pt : Type := Int × Bool
abbrev Bd : Type := Int × List Pt × Li × Li × Li × Li × Li × Int × Int
structure BdB (x : Bd) (n : Nat) : Prop where
  a : x.2.1.length ≤ n
  b : x.2.2.1.length ≤ n
  c : x.2.2.2.1.length ≤ n
  d : x.2.2.2.2.1.length ≤ n
  e : x.2.2.2.2.2.1.length ≤ n
  f : x.2.2.2.2.2.2.1.length ≤ n
theorem lim_count {A B σ : Type} {step : A → Option (A ⊕ B)} (n : Nat) (mk : Nat → σ → A) (f : σ → σ) (out : σ → B) (I : σ → Prop)
    (h1 : ∀ i s, i < n → I s → step (mk i s) = some (.inl (mk (i + 1) (f s)))) (hI : ∀ s, I s → I (f s)) (h2 : ∀ s, I s → step (mk n s) = some (.inr (out s))) :
    ∀ (k i : Nat) (s : σ), i + k = n → I s → lim step (mk i s) = some (out (Nat.repeat f k s))
  | 0, i, s, hi, hs => by
    obtain rfl : i = n := by omega
    rw [lim_eq, h2 s hs]; rfl
  | k + 1, i, s, hi, hs => by
    rw [lim_eq, h1 i s (by omega) hs]
    simp only
    rw [lim_count n mk f out I h1 hI h2 k (i + 1) (f s) (by omega) (hI s hs)]
    have : ∀ (k : Nat) (s : σ), Nat.repeat f k (f s) = Nat.repeat f (k + 1) s := by
      intro k
      induction k with
      | zero => intro s; rfl
      | succ k ih => intro s; show f (Nat.repeat f k (f s)) = _; rw [ih]; rfl
    rw [this]
theorem lim_foldl {A B α σ : Type} {step : A → Option (A ⊕ B)} (l : List α) (mk : Nat → σ → A) (f : σ → α → σ) (out : σ → B) (I : σ → Prop)
    (h1 : ∀ i s d, I s → l[i]? = some d → step (mk i s) = some (.inl (mk (i + 1) (f s d))) ∧ I (f s d)) (h2 : ∀ s, I s → step (mk l.length s) = some (.inr (out s))) (s0 : σ) (h0 : I s0) :
    lim step (mk 0 s0) = some (out (l.foldl f s0)) := by
  have key : ∀ (r : List α) (i : Nat) (s : σ), I s → l.drop i = r → i ≤ l.length → lim step (mk i s) = some (out (r.foldl f s)) := by
    intro r
    induction r with
    | nil =>
      intro i s hs hd hle
      have : i = l.length := by have := congrArg List.length hd; simp at this; omega
      subst this
      rw [lim_eq, h2 s hs]; rfl
    | cons d r ih =>
      intro i s hs hd hle
      have hlt : i < l.length := by have := congrArg List.length hd; simp at this; omega
      have hg : l[i]? = some d := by
        have := congrArg (·[0]?) hd
        simpa using this
      rw [lim_eq, (h1 i s d hs hg).1]
      exact ih (i + 1) _ (h1 i s d hs hg).2 (by rw [← List.drop_drop, hd]; rfl) hlt
  exact key l 0 s0 h0 rfl (Nat.zero_le _)
theorem lim_idx {A B α : Type} {step : A → Option (A ⊕ B)} (l : List α) (mk : Nat → A) (p : α → Bool) (hit : Nat → B) (out : B)
    (h1 : ∀ i d, l[i]? = some d → step (mk i) = some (bif p d then .inr (hit i) else .inl (mk (i + 1)))) (h2 : step (mk l.length) = some (.inr out)) :
    (∃ i : Nat, l.any p = true ∧ lim step (mk 0) = some (hit i)) ∨ (l.any p = false ∧ lim step (mk 0) = some out) := by
  have key : ∀ (r : List α) (i : Nat), l.drop i = r → i ≤ l.length → (∃ j : Nat, r.any p = true ∧ lim step (mk i) = some (hit j)) ∨ (r.any p = false ∧ lim step (mk i) = some out) := by
    intro r
    induction r with
    | nil =>
      intro i hd hle
      have : i = l.length := by have := congrArg List.length hd; simp at this; omega
      subst this
      exact .inr ⟨rfl, by rw [lim_eq, h2]⟩
    | cons d r ih =>
      intro i hd hle
      have hlt : i < l.length := by have := congrArg List.length hd; simp at this; omega
      have hg : l[i]? = some d := by
        have := congrArg (·[0]?) hd
        simpa using this
      rw [lim_eq, h1 i d hg]
      cases hp : p d
      · simp only [cond_false, List.any_cons, hp, Bool.false_or]
        exact ih (i + 1) (by rw [← List.drop_drop, hd]; rfl) hlt
      · exact .inl ⟨i, by simp [hp], rfl⟩
  exact key l 0 rfl (Nat.zero_le _)
theorem zip_any : ∀ {l1 l2 : Li}, l1.length = l2.length → (l1.zip l2).any (fun q => q.1 != q.2) = !(l1 == l2)
  | [], [], _ => rfl
  | [], _ :: _, h => by cases h
  | _ :: _, [], h => by cases h
  | a :: l1, b :: l2, h => by
    have ih := zip_any (l1 := l1) (l2 := l2) (by simpa using h)
    simp only [bne] at ih
    simp only [List.zip_cons_cons, List.any_cons, List.cons_beq_cons, Bool.not_and, bne, ih]
theorem lim_same {A B : Type} {step : A → Option (A ⊕ B)} (l1 l2 : Li) (hlen : l1.length = l2.length) (mk : Nat → A) (hit out : B)
    (h1 : ∀ i a b, l1[i]? = some a → l2[i]? = some b → step (mk i) = some (bif a != b then .inr hit else .inl (mk (i + 1)))) (h2 : step (mk l1.length) = some (.inr out)) :
    lim step (mk 0) = some (bif l1 == l2 then out else hit) := by
  have := lim_any (step := step) (l1.zip l2) mk (fun q => q.1 != q.2) hit out
    (fun i d hg => by
      rw [List.getElem?_zip_eq_some] at hg
      exact h1 i d.1 d.2 hg.1 hg.2)
    (by rw [show (l1.zip l2).length = l1.length by simp [hlen]]; exact h2)
  rw [this, zip_any hlen]
  cases (l1 == l2) <;> rfl
theorem len_ne {l1 l2 : Li} (h : l1.length ≠ l2.length) : (l1 == l2) = false := by
  rw [beq_eq_false_iff_ne]
  intro he; exact h (by rw [he])
theorem nat_mod {a : Nat} (h : a < 65536) : (BitVec.ofInt (IntKind.bits .i64) (a : Int)).toNat = a := by
  show (BitVec.ofInt 64 (a : Int)).toNat = a
  rw [BitVec.toNat_ofInt]; omega
theorem xorN {a b : Nat} (ha : a < 65536) (hb : b < 65536) : IntKind.wrap .i64 (((BitVec.ofInt (IntKind.bits .i64) (a : Int) ^^^ BitVec.ofInt (IntKind.bits .i64) (b : Int)).toNat : Int)) = ((a ^^^ b : Nat) : Int) := by
  rw [BitVec.toNat_xor, nat_mod ha, nat_mod hb]
  have : a ^^^ b < 2 ^ 16 := Nat.xor_lt_two_pow ha hb
  exact wrap_id (by omega) (by omega)
theorem andN {a b : Nat} (ha : a < 65536) (hb : b < 65536) : IntKind.wrap .i64 (((BitVec.ofInt (IntKind.bits .i64) (a : Int) &&& BitVec.ofInt (IntKind.bits .i64) (b : Int)).toNat : Int)) = ((a &&& b : Nat) : Int) := by
  rw [BitVec.toNat_and, nat_mod ha, nat_mod hb]
  have : a &&& b ≤ b := Nat.and_le_right
  exact wrap_id (by omega) (by omega)
theorem and15 {a : Nat} (ha : a < 65536) : (((a &&& 32768 : Nat) : Int) != 0) = decide ((a : Int) ≥ 32768) := by
  have h : a &&& 2 ^ 15 = 2 ^ 15 * (a / 2 ^ 15 % 2) := by
    apply Nat.eq_of_testBit_eq
    intro j
    rw [Nat.testBit_and, Nat.testBit_two_pow]
    by_cases hj : 15 = j
    · subst hj
      rw [Nat.testBit_eq_decide_div_mod_eq]
      rcases Nat.mod_two_eq_zero_or_one (a / 2 ^ 15) with h | h
      · rw [h]; simp
      · rw [h, Nat.mul_one, Nat.testBit_two_pow]; simp
    · rcases Nat.mod_two_eq_zero_or_one (a / 2 ^ 15) with h | h
      · rw [h]; simp [hj]
      · rw [h, Nat.mul_one, Nat.testBit_two_pow]; simp [hj]
  rw [show (32768 : Nat) = 2 ^ 15 from rfl, h]
  by_cases hh : 32768 ≤ a
  · rw [show a / 2 ^ 15 % 2 = 1 by omega, decide_eq_true (by omega)]; rfl
  · rw [show a / 2 ^ 15 % 2 = 0 by omega, decide_eq_false (by omega)]; rfl
def crc1 (n : Nat) : Nat := bif decide ((n : Int) ≥ 32768) then (2 * n % 65536) ^^^ 4129 else 2 * n % 65536
theorem crc1_lt (n : Nat) : crc1 n < 65536 := by
  unfold crc1
  cases decide ((n : Int) ≥ 32768)
  · exact Nat.mod_lt _ (by decide)
  · exact Nat.xor_lt_two_pow (n := 16) (Nat.mod_lt _ (by decide)) (by decide)
def crcB (c b : Nat) : Nat := Nat.repeat crc1 8 (c ^^^ (b * 256))
theorem crcB_lt (c b : Nat) : crcB c b < 65536 := crc1_lt _
def crcW (c : Nat) (w : Int) : Nat := crcB (crcB c (w.toNat / 256)) (w.toNat % 256)
def sumW (l : Li) : Nat := l.foldl crcW 65535
def blk (l : Li) (j : Nat) : Li := (l.take (min (j * 8 + 8) l.length)).drop (j * 8)
def nblk (l : Li) : Nat := (l.length + 7) / 8
def sums (l : Li) : Li := (List.range (nblk l)).map fun j => ((sumW (blk l j) : Nat) : Int)
theorem isW_nat {x : Int} (h : isW x = true) : ∃ a : Nat, a < 65536 ∧ x = (a : Int) := by
  simp only [isW, Bool.and_eq_true, decide_eq_true_eq] at h
  exact ⟨x.toNat, by omega, by omega⟩
def allW (l : Li) : Prop := ∀ x ∈ l, isW x = true
theorem wf_allW {l : Li} (h : (wf l != 0) = false) : allW l ∧ l.length ≤ 400 := by
  unfold wf at h
  cases h1 : decide ((l.length : Int) > 400)
  · rw [h1] at h
    have h1 := of_decide_eq_false h1
    cases h2 : l.any (fun x => !isW x)
    · refine ⟨fun x hx => ?_, by omega⟩
      rw [List.any_eq_false] at h2
      have := h2 x hx
      simpa using this
    · rw [h2] at h; simp at h
  · rw [h1] at h; simp at h
theorem allW_blk {l : Li} (h : allW l) (j : Nat) : allW (blk l j) := fun x hx => h x (List.mem_of_mem_take (List.mem_of_mem_drop hx))
def cellOk (n x : Int) : Bool := decide (0 ≤ x) && decide (x ≤ IntKind.wrap .i64 (n - 1))
def inI (x a b : Int) : Bool := decide (a ≤ x) && decide (x ≤ b)
def bdFault (b : Bd) : Int :=
  bif !inI b.1 0 80 || !inI b.2.2.2.2.2.2.2.1 0 20000 || !inI b.2.2.2.2.2.2.2.2 0 20000 then 3
  else bif decide ((b.2.1.length : Int) > 24) || decide ((b.2.2.1.length : Int) > 60) then 2
  else bif b.2.1.any (fun p => !cellOk b.1 p.1) then 3
  else bif b.2.2.1.any (fun x => !cellOk b.1 x) then 3
  else bif wf b.2.2.2.1 != 0 then wf b.2.2.2.1
  else bif wf b.2.2.2.2.1 != 0 then wf b.2.2.2.2.1
  else bif !(b.2.2.2.2.2.1 == sums b.2.2.2.1) then 6
  else bif !(b.2.2.2.2.2.2.1 == sums b.2.2.2.2.1) then 6 else 0
theorem room8n (n : Nat) (h : n ≤ 1048576) : room n 8 = true := by simp [room]; omega
theorem room24n (n : Nat) (h : n ≤ 1048576) : room n 24 = true := by simp [room]; omega

theorem p_spec_l1Crc (c b : Nat) (hc : c < 65536) (hb : b < 256) : F_spec_l1Crc (c : Int) (b : Int) = some ((((crcB c b : Nat) : Int), ()), (), ()) := by
  have hs : IntKind.wrap .i64 ((b : Int) * 2 ^ min (Int.toNat (8 : Int)) (IntKind.bits .i64)) = ((b * 256 : Nat) : Int) := by
    rw [show (2 : Int) ^ min (Int.toNat (8 : Int)) (IntKind.bits .i64) = 256 by decide]
    rw [wrap_id (by omega) (by omega)]; omega
  have hl : ∀ s : Nat, s < 65536 → l_spec_l1Crc_l3 (((s : Int), ((0 : Int), ())), (), ()) = some ((((Nat.repeat crc1 8 s : Nat) : Int), ()), (), ()) := fun s hs =>
    lim_count (step := s_spec_l1Crc_l3) 8 (fun (i : Nat) (s : Nat) => (((s : Int), ((i : Int), ())), (), ())) crc1 (fun (s : Nat) => (((s : Int), ()), (), ())) (fun (s : Nat) => s < 65536)
      (fun i s hi hs => by
        have w1 : IntKind.wrap .i64 ((s : Int) * 2) = ((2 * s : Nat) : Int) := by rw [wrap_id (by omega) (by omega)]; omega
        have w2 : IntKind.wrap .i64 ((i : Int) + 1) = ((i + 1 : Nat) : Int) := by rw [wrap_id (by omega) (by omega)]; omega
        have w3 : Int.tmod ((2 * s : Nat) : Int) 65536 = ((2 * s % 65536 : Nat) : Int) := by rw [Int.tmod_eq_emod_of_nonneg (by omega)]; omega
        simp only [s_spec_l1Crc_l3, w1, w2, w3, crc1]
        rw [show decide ((i : Int) < 8) = true by simp; omega]
        rw [show (4129 : Int) = ((4129 : Nat) : Int) from rfl, xorN (Nat.mod_lt _ (by decide)) (by decide)]
        cases decide ((s : Int) ≥ 32768) <;> rfl)
      (fun s _ => crc1_lt s) (fun s _ => by simp only [s_spec_l1Crc_l3]; rfl) 8 0 s rfl hs
  have hx : c ^^^ b * 256 < 65536 := Nat.xor_lt_two_pow (n := 16) hc (by omega)
  simp only [F_spec_l1Crc, hs]
  rw [xorN hc (by omega), hl _ hx]
  rfl

theorem p_spec_l1Sum (l : Li) (hw : allW l) (hm : l.length ≤ maxLen) : F_spec_l1Sum l = some ((((sumW l : Nat) : Int), ()), (), ()) := by
  have hl : l_spec_l1Sum_l3 ((l, (((65535 : Nat) : Int), ((0 : Int), ()))), (), ()) = some ((((sumW l : Nat) : Int), ()), (), ()) :=
    lim_foldl (step := s_spec_l1Sum_l3) l (fun (i : Nat) (s : Nat) => ((l, ((s : Int), ((i : Int), ()))), (), ())) crcW (fun (s : Nat) => (((s : Int), ()), (), ())) (fun (s : Nat) => s < 65536)
      (fun i s d hs hg => by
        have hlt := lt_of_get hg
        obtain ⟨a, ha, rfl⟩ := isW_nat (hw d (List.mem_of_getElem? hg))
        have w1 : IntKind.wrap .i64 (Int.tdiv (a : Int) 256) = ((a / 256 : Nat) : Int) := by rw [Int.tdiv_eq_ediv_of_nonneg (by omega), wrap_id (by omega) (by omega)]; omega
        have w2 : Int.tmod (a : Int) 256 = ((a % 256 : Nat) : Int) := by rw [Int.tmod_eq_emod_of_nonneg (by omega)]; omega
        refine ⟨?_, crcB_lt _ _⟩
        simp only [s_spec_l1Sum_l3, dec_lt hlt, cond_true, ib_nat hlt, Int.toNat_natCast, getD_of hg, wrap_succ hlt hm, w1, w2, p_spec_l1Crc s (a / 256) hs (by omega), p_spec_l1Crc (crcB s (a / 256)) (a % 256) (crcB_lt _ _) (by omega), Option.bind_some, crcW])
      (fun s _ => by simp only [s_spec_l1Sum_l3, dec_self, cond_false]) 65535 (by decide)
  have hl' : l_spec_l1Sum_l3 ((l, ((65535 : Int), ((0 : Int), ()))), (), ()) = _ := hl
  simp only [F_spec_l1Sum, hl', Option.bind_some]

theorem p_spec_l1Min (x y : Int) : F_spec_l1Min x y = some ((min x y, ()), (), ()) := by
  unfold F_spec_l1Min
  cases h : decide (x < y)
  · have := of_decide_eq_false h
    rw [show min x y = y by omega]; rfl
  · have := of_decide_eq_true h
    rw [show min x y = x by omega]; rfl

theorem p_impl_crcByte (c b : Nat) (hc : c < 65536) (hb : b < 256) : F_impl_crcByte (c : Int) (b : Int) = some ((((crcB c b : Nat) : Int), ()), (), ()) := by
  have hs : IntKind.wrap .i64 ((256 : Int) * (b : Int)) = ((b * 256 : Nat) : Int) := by
    rw [wrap_id (by omega) (by omega)]; omega
  have hl : ∀ s : Nat, s < 65536 → l_impl_crcByte_l3 (((s : Int), ((0 : Int), ())), (), ()) = some ((((Nat.repeat crc1 8 s : Nat) : Int), ()), (), ()) := fun s hs =>
    lim_count (step := s_impl_crcByte_l3) 8 (fun (i : Nat) (s : Nat) => (((s : Int), ((i : Int), ())), (), ())) crc1 (fun (s : Nat) => (((s : Int), ()), (), ())) (fun (s : Nat) => s < 65536)
      (fun i s hi hs => by
        have w1 : IntKind.wrap .i64 ((2 : Int) * (s : Int)) = ((2 * s : Nat) : Int) := by rw [wrap_id (by omega) (by omega)]; omega
        have w2 : IntKind.wrap .i64 ((i : Int) + 1) = ((i + 1 : Nat) : Int) := by rw [wrap_id (by omega) (by omega)]; omega
        have w3 : IntKind.wrap .i64 (IntKind.wrap .u16 ((2 * s : Nat) : Int)) = ((2 * s % 65536 : Nat) : Int) := by rw [wrap_u16, wrap_id (by omega) (by omega)]; omega
        simp only [s_impl_crcByte_l3, w1, w2, u16_eq, w3, crc1]
        rw [show decide ((i : Int) < 8) = true by simp; omega]
        rw [show (32768 : Int) = ((32768 : Nat) : Int) from rfl, andN hs (by decide), and15 hs]
        rw [show (4129 : Int) = ((4129 : Nat) : Int) from rfl, xorN (Nat.mod_lt _ (by decide)) (by decide)]
        rw [show ((32768 : Nat) : Int) = (32768 : Int) from rfl]
        cases decide ((s : Int) ≥ 32768) <;> rfl)
      (fun s _ => crc1_lt s) (fun s _ => by simp only [s_impl_crcByte_l3]; rfl) 8 0 s rfl hs
  have hx : c ^^^ b * 256 < 65536 := Nat.xor_lt_two_pow (n := 16) hc (by omega)
  simp only [F_impl_crcByte, hs]
  rw [xorN hc (by omega), hl _ hx]
  rfl

theorem p_impl_crc (l : Li) (hw : allW l) (hm : l.length ≤ maxLen) : F_impl_crc l = some ((((sumW l : Nat) : Int), ()), (), ()) := by
  have hl : l_impl_crc_l3 ((((65535 : Nat) : Int), (l, ((l.length : Int), ((0 : Int), ())))), (), ()) = some ((((sumW l : Nat) : Int), ()), (), ()) :=
    lim_foldl (step := s_impl_crc_l3) l (fun (i : Nat) (s : Nat) => (((s : Int), (l, ((l.length : Int), ((i : Int), ())))), (), ())) crcW (fun (s : Nat) => (((s : Int), ()), (), ())) (fun (s : Nat) => s < 65536)
      (fun i s d hs hg => by
        have hlt := lt_of_get hg
        obtain ⟨a, ha, rfl⟩ := isW_nat (hw d (List.mem_of_getElem? hg))
        have w1 : Int.fdiv (a : Int) (2 ^ min (Int.toNat (8 : Int)) (IntKind.bits .i64)) = ((a / 256 : Nat) : Int) := by
          rw [show (2 : Int) ^ min (Int.toNat (8 : Int)) (IntKind.bits .i64) = 256 by decide, Int.fdiv_eq_ediv_of_nonneg _ (by decide)]; omega
        have w2 : IntKind.wrap .i64 (((BitVec.ofInt (IntKind.bits .i64) (a : Int) &&& BitVec.ofInt (IntKind.bits .i64) (255 : Int)).toNat : Int)) = ((a % 256 : Nat) : Int) := by
          rw [show (255 : Int) = ((255 : Nat) : Int) from rfl, andN ha (by decide), show (255 : Nat) = 2 ^ 8 - 1 from rfl, Nat.and_two_pow_sub_one_eq_mod]
        refine ⟨?_, crcB_lt _ _⟩
        simp only [s_impl_crc_l3, dec_lt hlt, cond_true, ib_nat hlt, Int.toNat_natCast, getD_of hg, wrap_succ hlt hm, w1, w2, p_impl_crcByte s (a / 256) hs (by omega), p_impl_crcByte (crcB s (a / 256)) (a % 256) (crcB_lt _ _) (by omega), Option.bind_some, crcW])
      (fun s _ => by simp only [s_impl_crc_l3, dec_self, cond_false]) 65535 (by decide)
  have hl' : l_impl_crc_l3 (((65535 : Int), (l, ((l.length : Int), ((0 : Int), ())))), (), ()) = _ := hl
  simp only [F_impl_crc, hl', Option.bind_some]

theorem p_impl_blocks (l : Li) (h4 : l.length ≤ 400) : F_impl_blocks l = some ((), (), ((List.range (nblk l)).map (blk l), ())) := by
  have hl : l_impl_blocks_l3 ((l, (((0 * 8 : Nat) : Int), ())), (), ([], ())) = some ((), (), ((List.range (nblk l)).map (blk l), ())) :=
    lim_app (step := s_impl_blocks_l3) (List.range (nblk l)) (blk l) (fun i acc => ((l, (((i * 8 : Nat) : Int), ())), (), (acc, ()))) ((), (), ((List.range (nblk l)).map (blk l), ()))
      (fun i acc d hn hi hg => by
        obtain ⟨rfl, hlt⟩ := range_get hg
        have hk : d * 8 < l.length := by unfold nblk at hlt; omega
        have w1 : IntKind.wrap .i64 (((d * 8 : Nat) : Int) + 8) = ((d * 8 + 8 : Nat) : Int) := by rw [wrap_id (by omega) (by omega)]; omega
        have w2 : mn ((d * 8 + 8 : Nat) : Int) (l.length : Int) = ((min (d * 8 + 8) l.length : Nat) : Int) := by unfold mn; split <;> omega
        simp only [s_impl_blocks_l3, w1, w2, Int.toNat_natCast]
        rw [show decide (((d * 8 : Nat) : Int) < (l.length : Int)) = true from decide_eq_true (by omega)]
        rw [show decide ((0 : Int) ≤ ((d * 8 : Nat) : Int) ∧ ((d * 8 : Nat) : Int) ≤ ((min (d * 8 + 8) l.length : Nat) : Int) ∧ ((min (d * 8 + 8) l.length : Nat) : Int) ≤ (l.length : Int)) = true from decide_eq_true (by omega)]
        simp only [cond_true]
        rw [room24n _ (by simp; omega)]
        rw [show d * 8 + 8 = (d + 1) * 8 by omega]
        simp only [cond_true, blk]
        rw [show d * 8 + 8 = (d + 1) * 8 by omega])
      (by
        have hk : ¬ (((nblk l * 8 : Nat) : Int) < (l.length : Int)) := by unfold nblk; omega
        simp only [s_impl_blocks_l3, List.length_range, decide_eq_false hk, cond_false])
  have hl' : l_impl_blocks_l3 ((l, ((0 : Int), ())), (), ([], ())) = _ := hl
  simp only [F_impl_blocks, hl', Option.bind_some]

/-- The block that is tested next. -/
def testAt (c : Ch) : Int := bif decide (c.2.2.2.2.1 ≥ (nblk c.2.1 : Int)) then 0 else c.2.2.2.2.1
def testNx (c : Ch) : Int := bif decide (testAt c + 1 < (nblk c.2.1 : Int)) then testAt c + 1 else 0
def testTr (c : Ch) : Int := bif (c.2.2.1.length : Int) != (nblk c.2.1 : Int) then 6 else bif (nblk c.2.1 : Int) == 0 then 0 else
  bif ((sumW (blk c.2.1 (testAt c).toNat) : Nat) : Int) != c.2.2.1.getD (testAt c).toNat 0 then 6 else 0
theorem chF {c : Ch} (h : (chFault c != 0) = false) : allW c.2.1 ∧ c.2.1.length ≤ 400 ∧ c.2.2.1.length ≤ 400 ∧ c.2.2.2.1.length ≤ 80 ∧ 0 ≤ c.2.2.2.2.1 ∧ c.2.2.2.2.1 ≤ 65535 := by
  have hz : chFault c = 0 := by simpa using h
  unfold chFault at hz
  cases h1 : (c.1 == 1 || c.1 == 2)
  · rw [h1] at hz; cases hz
  · rw [h1] at hz
    simp only [Bool.not_true, cond_false] at hz
    cases h2 : (wf c.2.1 != 0)
    · rw [h2] at hz
      simp only [cond_false] at hz
      cases h3 : (wf c.2.2.1 != 0)
      · rw [h3] at hz
        simp only [cond_false] at hz
        cases h4 : (c.2.2.2.1.any (fun x => !isW x) || !isW c.2.2.2.2.1 || !isW c.2.2.2.2.2)
        · rw [h4] at hz
          simp only [cond_false] at hz
          cases h5 : decide ((c.2.2.2.1.length : Int) > 80)
          · have := of_decide_eq_false h5
            simp only [Bool.or_eq_false_iff, Bool.not_eq_false'] at h4
            have hn := h4.1.2
            simp only [isW, Bool.and_eq_true, decide_eq_true_eq] at hn
            exact ⟨(wf_allW h2).1, (wf_allW h2).2, (wf_allW h3).2, by omega, hn.1, hn.2⟩
          · rw [h5] at hz; cases hz
        · rw [h4] at hz; cases hz
      · rw [h3] at hz
        simp only [cond_true] at hz
        rw [hz] at h3; cases h3
    · rw [h2] at hz
      simp only [cond_true] at hz
      rw [hz] at h2; cases h2
theorem blk_eq (l : Li) (j : Nat) : (l.drop (j * 8)).take (min l.length ((j + 1) * 8) - j * 8) = blk l j := by
  unfold blk
  rw [List.drop_take, Nat.min_comm, show j * 8 + 8 = (j + 1) * 8 by omega]
theorem blk_len (l : Li) (j : Nat) (h : l.length ≤ 400) : (blk l j).length ≤ maxLen := by
  simp only [blk, maxLen, List.length_drop, List.length_take]; omega

theorem p_spec_l13Test (c : Ch) (h : (chFault c != 0) = false) : F_spec_l13Test c.1 c.2.2.2.2.1 c.2.2.2.2.2 c.2.1 c.2.2.1 c.2.2.2.1 =
    some ((testTr c, ()), ((c.1, (testNx c, (c.2.2.2.2.2, ()))), ()), (c.2.1, (c.2.2.1, (c.2.2.2.1, ())))) := by
  obtain ⟨hw, h4, hs4, hc80, n0, n1⟩ := chF h
  obtain ⟨k, code, sm, cl, nx, sg⟩ := c
  simp only at hw h4 hs4 hc80 n0 n1
  have e1 := wrap_id (x := (code.length : Int) + 8) (by omega) (by omega)
  have e2 := wrap_id (x := (code.length : Int) + 8 - 1) (by omega) (by omega)
  have e3 : Int.tdiv ((code.length : Int) + 8 - 1) 8 = (nblk code : Int) := by
    rw [Int.tdiv_eq_ediv_of_nonneg (by omega)]; unfold nblk; omega
  have hnb : nblk code ≤ 50 := by unfold nblk; omega
  have e4 := wrap_id (x := (nblk code : Int)) (by omega) (by omega)
  have e5 := wrap_id (x := nx + 1) (by omega) (by omega)
  have e6 := wrap_id (x := (nx + 1) * 8) (by omega) (by omega)
  have e7 := wrap_id (x := nx * 8) (by omega) (by omega)
  have hlen8 : nblk code * 8 ≤ code.length + 7 ∧ code.length ≤ nblk code * 8 := by unfold nblk; omega
  unfold F_spec_l13Test
  simp only [e1, e2, e3, e4, e5, e6, e7, p_spec_l1Min]
  cases q1 : decide (nx ≥ (nblk code : Int))
  · have q1' := of_decide_eq_false q1
    have ht : testAt (k, code, sm, cl, nx, sg) = nx := by unfold testAt; simp only [q1, cond_false]
    simp only [cond_false, testTr, testNx, ht]
    have m1 : ((min (code.length : Int) ((nx + 1) * 8)).toNat : Nat) = min code.length ((nx.toNat + 1) * 8) := by omega
    have hsum : F_spec_l1Sum ((code.drop (nx * 8).toNat).take ((min (code.length : Int) ((nx + 1) * 8)).toNat - (nx * 8).toNat)) = some ((((sumW (blk code nx.toNat) : Nat) : Int), ()), (), ()) := by
      rw [m1, show (nx * 8).toNat = nx.toNat * 8 by omega, blk_eq]
      exact p_spec_l1Sum _ (allW_blk hw _) (blk_len _ _ h4)
    have hd : decide (0 ≤ nx * 8 ∧ nx * 8 ≤ min (code.length : Int) ((nx + 1) * 8) ∧ min (code.length : Int) ((nx + 1) * 8) ≤ (code.length : Int)) = true := decide_eq_true (by omega)
    cases q3 : ((sm.length : Int) != (nblk code : Int))
    · have q3' : (sm.length : Int) = (nblk code : Int) := by simpa using q3
      cases q4 : ((nblk code : Int) == 0)
      · have hib : ib nx sm.length = true := ib_in n0 (by omega)
        simp only [cond_false, Option.bind_some, hd, cond_true, hsum, hib]
        rw [show K.zero (.int .i64) = (0 : Int) from rfl]
        cases (((sumW (blk code nx.toNat) : Nat) : Int) != sm.getD nx.toNat 0) <;> cases decide (nx + 1 < (nblk code : Int)) <;> rfl
      · have : (nblk code : Int) = 0 := by simpa using q4
        omega
    · cases decide (nx + 1 < (nblk code : Int)) <;> rfl
  · have ht : testAt (k, code, sm, cl, nx, sg) = 0 := by unfold testAt; simp only [q1, cond_true]
    simp only [cond_true, testTr, testNx, ht]
    have m1 : ((min (code.length : Int) 8).toNat : Nat) = min code.length ((0 + 1) * 8) := by omega
    have hsum : F_spec_l1Sum ((code.drop (Int.toNat (0 : Int))).take ((min (code.length : Int) 8).toNat - Int.toNat (0 : Int))) = some ((((sumW (blk code 0) : Nat) : Int), ()), (), ()) := by
      have := blk_eq code 0
      rw [Nat.zero_mul] at this
      rw [m1, show Int.toNat (0 : Int) = 0 from rfl, this]
      exact p_spec_l1Sum _ (allW_blk hw _) (blk_len _ _ h4)
    have hd : decide (0 ≤ (0 : Int) ∧ (0 : Int) ≤ min (code.length : Int) 8 ∧ min (code.length : Int) 8 ≤ (code.length : Int)) = true := decide_eq_true (by omega)
    rw [show (0 : Int) + 1 = 1 from rfl]
    cases q3 : ((sm.length : Int) != (nblk code : Int))
    · have q3' : (sm.length : Int) = (nblk code : Int) := by simpa using q3
      cases q4 : ((nblk code : Int) == 0)
      · have q4' : (nblk code : Int) ≠ 0 := by simpa using q4
        have hib : ib (0 : Int) sm.length = true := ib_in (by omega) (by omega)
        simp only [cond_false, Option.bind_some, hd, cond_true, hsum, hib]
        rw [show K.zero (.int .i64) = (0 : Int) from rfl, show Int.toNat (0 : Int) = 0 from rfl]
        cases (((sumW (blk code 0) : Nat) : Int) != sm.getD 0 0) <;> cases decide ((1 : Int) < (nblk code : Int)) <;> rfl
      · cases decide ((1 : Int) < (nblk code : Int)) <;> rfl
    · cases decide ((1 : Int) < (nblk code : Int)) <;> rfl

theorem p_impl_Chan_test (c : Ch) (h : (chFault c != 0) = false) : F_impl_Chan_test c = some (((c.1, c.2.1, c.2.2.1, c.2.2.2.1, testNx c, c.2.2.2.2.2), (testTr c, ())), (), ()) := by
  obtain ⟨hw, h4, hs4, hc80, n0, n1⟩ := chF h
  obtain ⟨k, code, sm, cl, nx, sg⟩ := c
  simp only at hw h4 hs4 hc80 n0 n1
  have hnb : nblk code ≤ 50 := by unfold nblk; omega
  have e5 := wrap_id (x := nx + 1) (by omega) (by omega)
  have hlen : (((List.range (nblk code)).map (blk code)).length : Int) = (nblk code : Int) := by simp
  have hget : ∀ j : Nat, j < nblk code → ((List.range (nblk code)).map (blk code)).getD j (K.zero (.sl (.int .i64))) = blk code j := fun j hj => by
    rw [List.getD_eq_getElem?_getD, List.getElem?_map, List.getElem?_range hj]; rfl
  have hcrc : ∀ j : Nat, F_impl_crc (blk code j) = some ((((sumW (blk code j) : Nat) : Int), ()), (), ()) := fun j => p_impl_crc _ (allW_blk hw _) (blk_len _ _ h4)
  unfold F_impl_Chan_test
  simp only [p_impl_blocks code h4, Option.bind_some, hlen, e5]
  have hl2 : ((List.range (nblk code)).map (blk code)).length = nblk code := by simp
  cases q1 : decide (nx ≥ (nblk code : Int))
  · have q1' := of_decide_eq_false q1
    have ht : testAt (k, code, sm, cl, nx, sg) = nx := by unfold testAt; simp only [q1, cond_false]
    simp only [cond_false, testTr, testNx, ht]
    have hib2 : ib nx ((List.range (nblk code)).map (blk code)).length = true := ib_in n0 (by rw [hl2]; omega)
    have hg := hget nx.toNat (by omega)
    have q5 : decide ((nblk code : Int) > 0) = true := decide_eq_true (by omega)
    have q6 : decide (nx + 1 < (nblk code : Int)) = !decide (nx + 1 ≥ (nblk code : Int)) := by
      by_cases hh : nx + 1 < (nblk code : Int)
      · rw [decide_eq_true hh, decide_eq_false (by omega)]; rfl
      · rw [decide_eq_false hh, decide_eq_true (by omega)]; rfl
    rw [q6]
    cases q3 : ((sm.length : Int) != (nblk code : Int))
    · have q3' : (sm.length : Int) = (nblk code : Int) := by simpa using q3
      have hib : ib nx sm.length = true := ib_in n0 (by omega)
      have q4 : ((nblk code : Int) == 0) = false := beq_eq_false_iff_ne.2 (by omega)
      simp only [cond_false, q5, cond_true, hib2, hg, hcrc, Option.bind_some, hib, q4]
      rw [show K.zero (.int .i64) = (0 : Int) from rfl]
      cases decide (nx + 1 ≥ (nblk code : Int)) <;> cases (((sumW (blk code nx.toNat) : Nat) : Int) != sm.getD nx.toNat 0) <;> rfl
    · cases decide (nx + 1 ≥ (nblk code : Int)) <;> rfl
  · have ht : testAt (k, code, sm, cl, nx, sg) = 0 := by unfold testAt; simp only [q1, cond_true]
    simp only [cond_true, testTr, testNx, ht]
    rw [show (0 : Int) + 1 = 1 from rfl]
    have q6 : decide ((1 : Int) < (nblk code : Int)) = !decide ((1 : Int) ≥ (nblk code : Int)) := by
      by_cases hh : (1 : Int) < (nblk code : Int)
      · rw [decide_eq_true hh, decide_eq_false (by omega)]; rfl
      · rw [decide_eq_false hh, decide_eq_true (by omega)]; rfl
    rw [q6]
    cases q3 : ((sm.length : Int) != (nblk code : Int))
    · have q3' : (sm.length : Int) = (nblk code : Int) := by simpa using q3
      by_cases hz : nblk code = 0
      · rw [show ((nblk code : Nat) : Int) = 0 by omega]
        rfl
      · have hib2 : ib (0 : Int) ((List.range (nblk code)).map (blk code)).length = true := ib_in (by omega) (by rw [hl2]; omega)
        have hg := hget 0 (by omega)
        have hib : ib (0 : Int) sm.length = true := ib_in (by omega) (by omega)
        have q5 : decide ((nblk code : Int) > 0) = true := decide_eq_true (by omega)
        have q4 : ((nblk code : Int) == 0) = false := beq_eq_false_iff_ne.2 (by omega)
        rw [show Int.toNat (0 : Int) = 0 from rfl]
        simp only [cond_false, q5, cond_true, hib2, hg, hcrc, Option.bind_some, hib, q4]
        rw [show K.zero (.int .i64) = (0 : Int) from rfl]
        cases decide ((1 : Int) ≥ (nblk code : Int)) <;> cases (((sumW (blk code 0) : Nat) : Int) != sm.getD 0 0) <;> rfl
    · cases decide ((1 : Int) ≥ (nblk code : Int)) <;> rfl

def testC (c : Ch) : Int × Int × Int × Ch := bif chFault c != 0 then (chFault c, 0, 0, 0, [], [], [], 0, 0) else (0, testTr c, 0, c.1, c.2.1, c.2.2.1, c.2.2.2.1, testNx c, c.2.2.2.2.2)
theorem testC_len (c : Ch) (n : Nat) (h : ChB c n) : ChB (testC c).2.2.2 n := by
  unfold testC
  cases (chFault c != 0)
  · exact ⟨h.a, h.b, h.c⟩
  · exact ⟨Nat.zero_le _, Nat.zero_le _, Nat.zero_le _⟩
abbrev outT (r : Int × Int × Int × Ch) : ((Int × Int × Int × Int × Int × Int × Unit) × Unit) × Unit × (Li × Li × Li × Unit) :=
  (((r.1, (r.2.1, (r.2.2.1, (r.2.2.2.1, (r.2.2.2.2.2.2.2.1, (r.2.2.2.2.2.2.2.2, ())))))), ()), (), (r.2.2.2.2.1, (r.2.2.2.2.2.1, (r.2.2.2.2.2.2.1, ()))))

theorem p_spec_TestChan (c : Ch) (h : ChB c 1048576) (h' : ChB c maxLen) : F_spec_TestChan c = some (outT (testC c)) := by
  simp only [F_spec_TestChan, p_spec_l13Fault _ h', p_spec_l13Copy c h, Option.bind_some, testC]
  cases hf : (chFault c != 0)
  · simp only [cond_false, p_spec_l13Test c hf, Option.bind_some]
  · rfl

theorem p_impl_TestChan (c : Ch) (h : ChB c 1048576) (h' : ChB c maxLen) : F_impl_TestChan c = some (outT (testC c)) := by
  simp only [F_impl_TestChan, p_impl_ChanFault _ h', p_impl_Chan_copied c h, Option.bind_some, testC]
  cases hf : (chFault c != 0)
  · simp only [cond_false]
    rw [show (c.1, c.2.1, c.2.2.1, c.2.2.2.1, c.2.2.2.2.1, c.2.2.2.2.2) = c from rfl, p_impl_Chan_test c hf]
    rfl
  · rfl

theorem p_laws_FnExactTestChan (c : Ch) (hw : Wf (.pr (.int .i64) (.pr (.sl (.int .i64)) (.pr (.sl (.int .i64)) (.pr (.sl (.int .i64)) (.pr (.int .i64) (.int .i64)))))) c) : F_laws_FnExactTestChan c = some ((true, ()), (), ()) := by
  have h' : ChB c maxLen := ⟨hw.2.1.1, hw.2.2.1.1, hw.2.2.2.1.1⟩
  obtain ⟨r, e, g⟩ := z_laws_szChan c 1048576 (by decide) (by decide) h'
  simp only [F_laws_FnExactTestChan, e, Option.bind_some]
  cases q : decide (r < 0)
  · obtain ⟨_, _, h⟩ := g q
    have ht := testC_len c _ h
    have ht' := testC_len c _ h'
    have ha := h.a
    have hb := h.b
    have hc := h.c
    simp only [cond_false, p_laws_toChan c h, p_spec_TestChan c h h', p_impl_TestChan c h h', outT, Option.bind_some]
    generalize testC c = u at ht ht'
    have ta := ht.a
    have tb := ht.b
    have tc := ht.c
    simp only [p_laws_eqChanResult (u.1, u.2.1, u.2.2.1, u.2.2.2) ht', p_laws_eqChan c h',
      p_laws_markChan c.1 c.2.2.2.2.1 c.2.2.2.2.2 1 c.2.1 c.2.2.1 c.2.2.2.1 (by decide) (by decide) ha hb hc, p_laws_markChanResult u.1 u.2.1 u.2.2.1 u.2.2.2.1 u.2.2.2.2.2.2.2.1 u.2.2.2.2.2.2.2.2 1 u.2.2.2.2.1 u.2.2.2.2.2.1 u.2.2.2.2.2.2.1 (by decide) (by decide) ta tb tc,
      p_laws_heldChanResult u.1 u.2.1 u.2.2.1 u.2.2.2.1 u.2.2.2.2.2.2.2.1 u.2.2.2.2.2.2.2.2 1 u.2.2.2.2.1.length u.2.2.2.2.2.1.length u.2.2.2.2.2.2.1.length (by decide) (by decide) ta tb tc, Option.bind_some, Bool.not_true, bne_self_eq_false]
    rw [decide_eq_false (show ¬ (1 : Int) + c.2.1.length + c.2.2.1.length + c.2.2.2.1.length < 0 by omega), decide_eq_false (show ¬ (1 : Int) + u.2.2.2.2.1.length + u.2.2.2.2.2.1.length + u.2.2.2.2.2.2.1.length < 0 by omega)]
    rfl
  · rfl

end Go.Ev
