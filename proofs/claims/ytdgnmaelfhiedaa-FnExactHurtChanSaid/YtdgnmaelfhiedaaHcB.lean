/- What is proved here: the pure function of FnExactHurtChan yields true for each argument that can be read; no condition. -/
import Derived.Test.YtdgnmaelfhiedaaHcA
set_option linter.unusedVariables false
set_option linter.unusedSimpArgs false
namespace Go.Ev
abbrev Li : Type := List Int
abbrev Ch : Type := Int × Li × Li × Li × Int × Int
theorem lim_fill {A B α : Type} {step : A → Option (A ⊕ B)} (v : Nat → α) (mk : Nat → List α → A) (out : List α → B) (l : List α)
    (h1 : ∀ i acc, acc.length = l.length → i < l.length → step (mk i acc) = some (.inl (mk (i + 1) (acc.set i (v i))))) (h2 : ∀ acc, acc.length = l.length → step (mk l.length acc) = some (.inr (out acc))) :
    lim step (mk 0 l) = some (out ((List.range l.length).map v)) := by
  have key : ∀ (k i : Nat) (acc : List α), i + k = l.length → acc.length = l.length → acc.take i = (List.range i).map v → lim step (mk i acc) = some (out ((List.range l.length).map v)) := by
    intro k
    induction k with
    | zero =>
      intro i acc hi hn ht
      have : i = l.length := by omega
      subst this
      rw [List.take_of_length_le (by omega)] at ht
      rw [lim_eq, h2 _ hn, ht]
    | succ k ih =>
      intro i acc hi hn ht
      rw [lim_eq, h1 i acc hn (by omega)]
      refine ih (i + 1) _ (by omega) (by simp [hn]) ?_
      rw [List.take_add_one, List.getElem?_set_self (by omega), List.take_set_of_le (Nat.le_refl i), ht, List.range_succ, List.map_append]
      rfl
  exact key l.length 0 l (by omega) rfl (by simp)
theorem lim_app {A B α β : Type} {step : A → Option (A ⊕ B)} (l : List α) (f : α → β) (mk : Nat → List β → A) (out : B)
    (h1 : ∀ i acc d, acc.length ≤ l.length → acc.length = i → l[i]? = some d → step (mk i acc) = some (.inl (mk (i + 1) (acc ++ [f d])))) (h2 : step (mk l.length (l.map f)) = some (.inr out)) :
    lim step (mk 0 []) = some out := by
  have key : ∀ (r : List α) (i : Nat), l.drop i = r → i ≤ l.length → lim step (mk i ((l.take i).map f)) = some out := by
    intro r
    induction r with
    | nil =>
      intro i hd hle
      have : i = l.length := by have := congrArg List.length hd; simp at this; omega
      subst this
      rw [List.take_of_length_le (Nat.le_refl _), lim_eq, h2]
    | cons d r ih =>
      intro i hd hle
      have hlt : i < l.length := by have := congrArg List.length hd; simp at this; omega
      have hg : l[i]? = some d := by
        have := congrArg (·[0]?) hd
        simpa using this
      rw [lim_eq, h1 i _ d (by simp; omega) (by simp; omega) hg]
      have := ih (i + 1) (by rw [← List.drop_drop, hd]; rfl) hlt
      rw [List.take_add_one, hg, List.map_append] at this
      exact this
  have := key l 0 rfl (Nat.zero_le _)
  simpa using this
theorem any_no {α : Type} (l : List α) : l.any (fun _ => false) = false := by induction l with | nil => rfl | cons a l ih => simp [ih]
theorem room8 {l : Li} (h : l.length ≤ 1048576) : room ([] ++ l).length 8 = true := by simp [room]; omega
theorem i_cases {p : Prop} [Decidable p] : decide p = true ∨ decide p = false := by cases decide p <;> simp
theorem wrap_u16 (x : Int) : IntKind.wrap .u16 x = x % 65536 := by simp [IntKind.wrap, IntKind.bits, IntKind.signed]
theorem u16_eq (x : Int) : ((BitVec.ofInt (IntKind.bits .i64) x &&& BitVec.ofInt (IntKind.bits .i64) (65535 : Int)).toNat : Int) = IntKind.wrap .u16 x := by
  rw [wrap_u16, BitVec.toNat_and]
  have h1 : (BitVec.ofInt (IntKind.bits .i64) (65535 : Int)).toNat = 2 ^ 16 - 1 := by decide
  rw [h1, Nat.and_two_pow_sub_one_eq_mod]
  show (((BitVec.ofInt 64 x).toNat % 2 ^ 16 : Nat) : Int) = _
  rw [BitVec.toNat_ofInt]
  omega
def isW (x : Int) : Bool := decide (0 ≤ x) && decide (x ≤ 65535)
def wf (l : Li) : Int := bif decide ((l.length : Int) > 400) then 2 else bif l.any (fun x => !isW x) then 3 else 0
theorem all_any (l : Li) : l.all isW = !l.any (fun x => !isW x) := by induction l with | nil => rfl | cons a l ih => simp [ih]
def chFault (c : Ch) : Int := bif !(c.1 == 1 || c.1 == 2) then 1 else bif wf c.2.1 != 0 then wf c.2.1 else bif wf c.2.2.1 != 0 then wf c.2.2.1 else
  bif c.2.2.2.1.any (fun x => !isW x) || !isW c.2.2.2.2.1 || !isW c.2.2.2.2.2 then 3 else bif decide ((c.2.2.2.1.length : Int) > 80) then 2 else 0
structure ChB (c : Ch) (n : Nat) : Prop where
  a : c.2.1.length ≤ n
  b : c.2.2.1.length ≤ n
  c : c.2.2.2.1.length ≤ n
def iota (n : Int) (k : Nat) : Li := (List.range k).map fun (i : Nat) => n + (i : Int)
theorem iota_get {n : Int} {k i : Nat} {d : Int} (h : (iota n k)[i]? = some d) : d = n + i := by
  simp only [iota, List.getElem?_map] at h
  cases h' : (List.range k)[i]? with
  | none => rw [h'] at h; cases h
  | some j =>
    rw [h'] at h
    have := (List.getElem?_eq_some_iff.1 h').2
    simp at this
    simp only [Option.map_some, Option.some.injEq] at h
    omega
theorem iota_len (n : Int) (k : Nat) : (iota n k).length = k := by simp [iota]
def compl (x : Int) : Int := IntKind.wrap .i64 (65535 - IntKind.wrap .i64 (IntKind.wrap .u16 x))
def tc (c : Ch) : Int × Li := bif chFault c != 0 then (chFault c, []) else (0, bif c.1 == 2 then c.2.2.2.1.map compl else c.2.2.2.1)
theorem tc_len (c : Ch) (n : Nat) (h : ChB c n) : (tc c).2.length ≤ n := by
  have := h.c
  unfold tc
  cases (chFault c != 0)
  · cases (c.1 == 2) <;> simpa using this
  · simp

theorem p_laws_szInt64S (l : Li) (left : Int) (h0 : 0 ≤ left) (h1 : left ≤ 1048576) (hl : l.length ≤ maxLen) :
    F_laws_szInt64S l left = some ((if left - (l.length : Int) < 0 then -1 else left - l.length, ()), (), ()) := by
  simp only [maxLen] at hl
  have hw : IntKind.wrap .i64 (left - (l.length : Int)) = left - l.length := wrap_id (by omega) (by omega)
  unfold F_laws_szInt64S
  rw [hw]
  by_cases hn : left - (l.length : Int) < 0
  · simp [hn]
  · simp [hn]
theorem z_laws_szInt64S (l : Li) (left : Int) (h0 : 0 ≤ left) (h1 : left ≤ 1048576) (hl : l.length ≤ maxLen) :
    ∃ r : Int, F_laws_szInt64S l left = some ((r, ()), (), ()) ∧ (decide (r < 0) = false → 0 ≤ r ∧ r ≤ 1048576 ∧ l.length ≤ 1048576) := by
  refine ⟨_, p_laws_szInt64S l left h0 h1 hl, fun h => ?_⟩
  have h := of_decide_eq_false h
  split at h
  · omega
  · rename_i hh; rw [if_neg hh]; omega

theorem z_laws_szChan (c : Ch) (left : Int) (h0 : 0 ≤ left) (h1 : left ≤ 1048576) (hl : ChB c maxLen) :
    ∃ r : Int, F_laws_szChan c left = some ((r, ()), (), ()) ∧ (decide (r < 0) = false → 0 ≤ r ∧ r ≤ 1048576 ∧ ChB c 1048576) := by
  obtain ⟨r1, e1, g1⟩ := z_laws_szInt64S c.2.1 left h0 h1 hl.a
  simp only [F_laws_szChan, e1, Option.bind_some]
  cases q1 : decide (r1 < 0)
  · obtain ⟨a1, a2, a3⟩ := g1 q1
    obtain ⟨r2, e2, g2⟩ := z_laws_szInt64S c.2.2.1 r1 a1 a2 hl.b
    simp only [cond_false, e2, Option.bind_some]
    cases q2 : decide (r2 < 0)
    · obtain ⟨b1, b2, b3⟩ := g2 q2
      obtain ⟨r3, e3, g3⟩ := z_laws_szInt64S c.2.2.2.1 r2 b1 b2 hl.c
      simp only [cond_false, e3, Option.bind_some]
      cases q3 : decide (r3 < 0)
      · obtain ⟨c1, c2, c3⟩ := g3 q3
        exact ⟨r3, rfl, fun _ => ⟨c1, c2, a3, b3, c3⟩⟩
      · exact ⟨-1, rfl, fun h => by simp at h⟩
    · exact ⟨-1, rfl, fun h => by simp at h⟩
  · exact ⟨-1, rfl, fun h => by simp at h⟩

theorem p_laws_toInt64S (l : Li) (h : l.length ≤ 1048576) : F_laws_toInt64S l = some ((), (), (l, ())) := by
  have hm : l.length ≤ maxLen := by simp only [maxLen]; omega
  have hl : l_laws_toInt64S_l3 ((l, ((0 : Int), ())), (), ((List.replicate l.length (0 : Int)), ())) = some ((), (), (l, ())) :=
    lim_copy (step := s_laws_toInt64S_l3) l (fun i acc => ((l, ((i : Int), ())), (), (acc, ()))) (fun acc => ((), (), (acc, ()))) (0 : Int)
      (fun i acc d hn hg => by
        have hlt := lt_of_get hg
        simp only [s_laws_toInt64S_l3, dec_lt hlt, cond_true, ib_nat hlt, Int.toNat_natCast, getD_of hg, wrap_succ hlt hm]
        rw [ib_nat (show i < acc.length by omega)]
        rfl)
      (fun acc => by simp only [s_laws_toInt64S_l3, dec_self, cond_false])
  have hroom : room l.length 8 = true := by simp [room]; omega
  simp only [F_laws_toInt64S, Int.toNat_natCast, hroom, cond_true]
  rw [show decide (0 ≤ (l.length : Int) ∧ (l.length : Int) ≤ (l.length : Int)) = true by simp]
  simp only [cond_true]
  rw [show K.zero (.int .i64) = (0 : Int) from rfl, hl]
  rfl

theorem p_laws_toChan (c : Ch) (h : ChB c 1048576) : F_laws_toChan c = some (((c.1, (c.2.2.2.2.1, (c.2.2.2.2.2, ()))), ()), (), (c.2.1, (c.2.2.1, (c.2.2.2.1, ())))) := by
  simp only [F_laws_toChan, p_laws_toInt64S _ h.a, p_laws_toInt64S _ h.b, p_laws_toInt64S _ h.c, Option.bind_some]

theorem p_laws_eqInt64S (l : Li) (hm : l.length ≤ maxLen) : F_laws_eqInt64S l l = some ((true, ()), (), ()) := by
  have h4 : l_laws_eqInt64S_l4 ((l, (l, ((0 : Int), ()))), (), ()) = _ :=
    lim_any (step := s_laws_eqInt64S_l4) l (fun i => ((l, (l, ((i : Int), ()))), (), ())) (fun _ => false) (.inl ((), (), ())) (.inl ((), (), ()))
      (fun i d hg => by
        have hlt := lt_of_get hg
        simp only [s_laws_eqInt64S_l4, dec_lt hlt, cond_true, ib_nat hlt, Int.toNat_natCast, getD_of hg, wrap_succ hlt hm, bne_self_eq_false, cond_false])
      (by simp only [s_laws_eqInt64S_l4, dec_self, cond_false])
  rw [any_no] at h4
  simp only [F_laws_eqInt64S, bne_self_eq_false, cond_false, h4, Option.bind_some]

theorem p_laws_eqChan (c : Ch) (h : ChB c maxLen) : F_laws_eqChan c c = some ((true, ()), (), ()) := by
  simp only [F_laws_eqChan, bne_self_eq_false, cond_false, p_laws_eqInt64S _ h.a, p_laws_eqInt64S _ h.b, p_laws_eqInt64S _ h.c, Option.bind_some, Bool.not_true]

theorem p_laws_eqChanResult (x : Int × Int × Int × Ch) (h : ChB x.2.2.2 maxLen) : F_laws_eqChanResult x x = some ((true, ()), (), ()) := by
  simp only [F_laws_eqChanResult, bne_self_eq_false, cond_false, p_laws_eqChan _ h, Option.bind_some, Bool.not_true]

theorem p_laws_markInt64S (n : Int) (l : Li) (h0 : 0 ≤ n) (h1 : n ≤ 1099511627776) (hl : l.length ≤ 1048576) :
    F_laws_markInt64S n l = some ((n + (l.length : Int), ()), (), (iota n l.length, ())) := by
  have hm : l.length ≤ maxLen := by simp only [maxLen]; omega
  have hk : l_laws_markInt64S_l2 ((n, ((0 : Int), ())), (), (l, ())) = some ((n + (l.length : Int), ()), (), (iota n l.length, ())) := by
    have := lim_fill (step := s_laws_markInt64S_l2) (fun i => n + (i : Int)) (fun i acc => ((n + (i : Int), ((i : Int), ())), (), (acc, ()))) (fun acc => ((n + (l.length : Int), ()), (), (acc, ()))) l
      (fun i acc hn hlt => by
        simp only [s_laws_markInt64S_l2, hn, dec_lt hlt, cond_true, ib_nat hlt, Int.toNat_natCast, wrap_succ hlt hm]
        rw [wrap_id (x := n + (i : Int) + 1) (by omega) (by omega)]
        rw [show n + (i : Int) + 1 = n + ((i + 1 : Nat) : Int) by omega])
      (fun acc hn => by simp only [s_laws_markInt64S_l2, hn, dec_self, cond_false])
    simp only [Int.natCast_zero, Int.add_zero] at this
    exact this
  simp only [F_laws_markInt64S, hk, Option.bind_some]

theorem p_laws_markChan (a b c n : Int) (x y z : Li) (h0 : 0 ≤ n) (h1 : n ≤ 1073741824) (hx : x.length ≤ 1048576) (hy : y.length ≤ 1048576) (hz : z.length ≤ 1048576) :
    F_laws_markChan a b c n x y z = some ((n + (x.length : Int) + (y.length : Int) + (z.length : Int), ()), (), (iota n x.length, (iota (n + (x.length : Int)) y.length, (iota (n + (x.length : Int) + (y.length : Int)) z.length, ())))) := by
  simp only [F_laws_markChan, p_laws_markInt64S n x h0 (by omega) hx, p_laws_markInt64S (n + (x.length : Int)) y (by omega) (by omega) hy, p_laws_markInt64S (n + (x.length : Int) + (y.length : Int)) z (by omega) (by omega) hz, Option.bind_some]

theorem p_laws_markChanResult (u v w a b c n : Int) (x y z : Li) (h0 : 0 ≤ n) (h1 : n ≤ 1073741824) (hx : x.length ≤ 1048576) (hy : y.length ≤ 1048576) (hz : z.length ≤ 1048576) :
    F_laws_markChanResult u v w a b c n x y z = some ((n + (x.length : Int) + (y.length : Int) + (z.length : Int), ()), (), (iota n x.length, (iota (n + (x.length : Int)) y.length, (iota (n + (x.length : Int) + (y.length : Int)) z.length, ())))) := by
  simp only [F_laws_markChanResult, p_laws_markChan a b c n x y z h0 h1 hx hy hz, Option.bind_some]

theorem p_laws_heldInt64S (n : Int) (k : Nat) (h0 : 0 ≤ n) (h1 : n ≤ 1099511627776) (hl : k ≤ 1048576) :
    F_laws_heldInt64S (iota n k) n = some ((n + (k : Int), ()), (), ()) := by
  have hm : (iota n k).length ≤ maxLen := by simp only [maxLen, iota_len]; omega
  have hk : l_laws_heldInt64S_l2 ((iota n k, (n, ((0 : Int), ()))), (), ()) = some (bif (iota n k).any (fun _ => false) then .inl ((n + (k : Int), ()), (), ()) else .inl ((n + (k : Int), ()), (), ())) := by
    have := lim_any (step := s_laws_heldInt64S_l2) (iota n k) (fun i => ((iota n k, (n + (i : Int), ((i : Int), ()))), (), ())) (fun _ => false) (.inl ((n + (k : Int), ()), (), ())) (.inl ((n + (k : Int), ()), (), ()))
      (fun i d hg => by
        have hlt := lt_of_get hg
        have hd := iota_get hg
        have hik : i < k := by rw [iota_len] at hlt; exact hlt
        simp only [s_laws_heldInt64S_l2, dec_lt hlt, cond_true, ib_nat hlt, Int.toNat_natCast, getD_of hg, wrap_succ hlt hm, hd, bne_self_eq_false, cond_false]
        rw [wrap_id (x := n + (i : Int) + 1) (by omega) (by omega)]
        rw [show n + (i : Int) + 1 = n + ((i + 1 : Nat) : Int) by omega])
      (by simp only [s_laws_heldInt64S_l2, dec_self, cond_false, iota_len])
    simp only [Int.natCast_zero, Int.add_zero] at this
    exact this
  rw [any_no] at hk
  simp only [F_laws_heldInt64S, hk, Option.bind_some, cond_false]

theorem p_laws_heldChan (a b c n : Int) (x y z : Nat) (h0 : 0 ≤ n) (h1 : n ≤ 1073741824) (hx : x ≤ 1048576) (hy : y ≤ 1048576) (hz : z ≤ 1048576) :
    F_laws_heldChan (a, iota n x, iota (n + (x : Int)) y, iota (n + (x : Int) + (y : Int)) z, b, c) n = some ((n + (x : Int) + (y : Int) + (z : Int), ()), (), ()) := by
  simp only [F_laws_heldChan, p_laws_heldInt64S n x h0 (by omega) hx, p_laws_heldInt64S (n + (x : Int)) y (by omega) (by omega) hy, p_laws_heldInt64S (n + (x : Int) + (y : Int)) z (by omega) (by omega) hz, Option.bind_some]
  rw [decide_eq_false (show ¬ n + (x : Int) < 0 by omega), decide_eq_false (show ¬ n + (x : Int) + (y : Int) < 0 by omega), decide_eq_false (show ¬ n + (x : Int) + (y : Int) + (z : Int) < 0 by omega)]; rfl

theorem p_laws_heldChanResult (u v w a b c n : Int) (x y z : Nat) (h0 : 0 ≤ n) (h1 : n ≤ 1073741824) (hx : x ≤ 1048576) (hy : y ≤ 1048576) (hz : z ≤ 1048576) :
    F_laws_heldChanResult (u, v, w, a, iota n x, iota (n + (x : Int)) y, iota (n + (x : Int) + (y : Int)) z, b, c) n = some ((n + (x : Int) + (y : Int) + (z : Int), ()), (), ()) := by
  simp only [F_laws_heldChanResult, p_laws_heldChan a b c n x y z h0 h1 hx hy hz, Option.bind_some]
  rw [decide_eq_false (show ¬ n + (x : Int) + (y : Int) + (z : Int) < 0 by omega)]; rfl

theorem p_spec_l13Kind (x : Int) : F_spec_l13Kind x = some (((x == 1 || x == 2), ()), (), ()) := by
  unfold F_spec_l13Kind
  cases (x == 1) <;> rfl

theorem p_spec_l1In (x a b : Int) : F_spec_l1In x a b = some (((decide (a ≤ x) && decide (x ≤ b)), ()), (), ()) := by
  unfold F_spec_l1In
  simp only [ge_iff_le]
  cases decide (a ≤ x) <;> rfl

theorem p_spec_l1Word (x : Int) : F_spec_l1Word x = some ((isW x, ()), (), ()) := by
  simp only [F_spec_l1Word, p_spec_l1In, Option.bind_some, isW]

theorem p_spec_l6All (l : Li) (hm : l.length ≤ maxLen) : F_spec_l6All l = some ((!l.any (fun x => !isW x), ()), (), ()) := by
  have h2 : l_spec_l6All_l2 ((l, ((0 : Int), ())), (), ()) = _ :=
    lim_any (step := s_spec_l6All_l2) l (fun i => ((l, ((i : Int), ())), (), ())) (fun x => !isW x) (.inr ((false, ()), (), ())) (.inl ((), (), ()))
      (fun i d hg => by
        have hlt := lt_of_get hg
        simp only [s_spec_l6All_l2, dec_lt hlt, cond_true, ib_nat hlt, Int.toNat_natCast, getD_of hg, wrap_succ hlt hm, p_spec_l1Word, Option.bind_some]
        cases isW d <;> rfl)
      (by simp only [s_spec_l6All_l2, dec_self, cond_false])
  simp only [F_spec_l6All, h2, Option.bind_some]
  cases l.any (fun x => !isW x) <;> rfl

theorem p_spec_WordsFault (l : Li) (hm : l.length ≤ maxLen) : F_spec_WordsFault l = some ((wf l, ()), (), ()) := by
  have h2 : l_spec_WordsFault_l4 ((l, ((0 : Int), ())), (), ()) = _ :=
    lim_any (step := s_spec_WordsFault_l4) l (fun i => ((l, ((i : Int), ())), (), ())) (fun x => !isW x) (.inr (((3 : Int), ()), (), ())) (.inl ((), (), ()))
      (fun i d hg => by
        have hlt := lt_of_get hg
        simp only [s_spec_WordsFault_l4, dec_lt hlt, cond_true, ib_nat hlt, Int.toNat_natCast, getD_of hg, wrap_succ hlt hm, p_spec_l1Word, Option.bind_some]
        cases isW d <;> rfl)
      (by simp only [s_spec_WordsFault_l4, dec_self, cond_false])
  simp only [F_spec_WordsFault, h2, Option.bind_some, wf]
  cases decide ((l.length : Int) > 400)
  · cases l.any (fun x => !isW x) <;> rfl
  · rfl

theorem p_spec_l13Fault (c : Ch) (h : ChB c maxLen) : F_spec_l13Fault c = some ((chFault c, ()), (), ()) := by
  simp only [F_spec_l13Fault, p_spec_l13Kind, p_spec_WordsFault _ h.a, p_spec_WordsFault _ h.b, p_spec_l6All _ h.c, p_spec_l1Word, Option.bind_some, chFault]
  cases (c.1 == 1 || c.1 == 2)
  · rfl
  · simp only [Bool.not_true, cond_false]
    cases (wf c.2.1 != 0)
    · cases (wf c.2.2.1 != 0)
      · cases c.2.2.2.1.any (fun x => !isW x) <;> cases isW c.2.2.2.2.1 <;> cases isW c.2.2.2.2.2 <;> cases decide ((c.2.2.2.1.length : Int) > 80) <;> rfl
      · rfl
    · rfl

theorem p_impl_within (x a b : Int) : F_impl_within x a b = some (((decide (a ≤ x) && decide (x ≤ b)), ()), (), ()) := by
  unfold F_impl_within
  cases decide (a ≤ x) <;> rfl

theorem p_impl_isWord (x : Int) : F_impl_isWord x = some ((isW x, ()), (), ()) := by
  simp only [F_impl_isWord, p_impl_within, Option.bind_some, isW]

theorem p_impl_areWords (l : Li) (hm : l.length ≤ maxLen) : F_impl_areWords l = some ((!l.any (fun x => !isW x), ()), (), ()) := by
  have h2 : l_impl_areWords_l2 ((l, ((l.length : Int), ((0 : Int), ()))), (), ()) = _ :=
    lim_any (step := s_impl_areWords_l2) l (fun i => ((l, ((l.length : Int), ((i : Int), ()))), (), ())) (fun x => !isW x) (.inr ((false, ()), (), ())) (.inl ((), (), ()))
      (fun i d hg => by
        have hlt := lt_of_get hg
        simp only [s_impl_areWords_l2, dec_lt hlt, cond_true, ib_nat hlt, Int.toNat_natCast, getD_of hg, wrap_succ hlt hm, p_impl_isWord, Option.bind_some]
        cases isW d <;> rfl)
      (by simp only [s_impl_areWords_l2, dec_self, cond_false])
  simp only [F_impl_areWords, h2, Option.bind_some]
  cases l.any (fun x => !isW x) <;> rfl

theorem p_impl_WordsFault (l : Li) (hm : l.length ≤ maxLen) : F_impl_WordsFault l = some ((wf l, ()), (), ()) := by
  simp only [F_impl_WordsFault, p_impl_areWords _ hm, Option.bind_some, wf, Bool.not_not]
  cases decide ((l.length : Int) > 400)
  · cases l.any (fun x => !isW x) <;> rfl
  · rfl

theorem p_impl_ChanFault (c : Ch) (h : ChB c maxLen) : F_impl_ChanFault c = some ((chFault c, ()), (), ()) := by
  have hl : l_impl_ChanFault_l4 (((([c.2.1, c.2.2.1]).length : Int), ((0 : Int), ())), ((c.1, (c.2.1, (c.2.2.1, (c.2.2.2.1, (c.2.2.2.2.1, (c.2.2.2.2.2, ())))))), ()), ([c.2.1, c.2.2.1], ())) =
      some (bif wf c.2.1 != 0 then .inr ((wf c.2.1, ()), (), ()) else bif wf c.2.2.1 != 0 then .inr ((wf c.2.2.1, ()), (), ()) else .inl ((), ((c.1, (c.2.1, (c.2.2.1, (c.2.2.2.1, (c.2.2.2.2.1, (c.2.2.2.2.2, ())))))), ()), ())) := by
    have w1 : IntKind.wrap .i64 ((0 : Int) + 1) = 1 := by decide
    have w2 : IntKind.wrap .i64 ((1 : Int) + 1) = 2 := by decide
    unfold l_impl_ChanFault_l4
    rw [lim_eq]
    simp only [s_impl_ChanFault_l4, List.length_cons, List.length_nil]
    rw [show decide ((0 : Int) < ((0 + 1 + 1 : Nat) : Int)) = true by decide, show ib (0 : Int) (0 + 1 + 1) = true by decide]
    simp only [cond_true, show (Int.toNat (0 : Int)) = 0 from rfl, List.getD_cons_zero, p_impl_WordsFault _ h.a, Option.bind_some, w1]
    cases (wf c.2.1 != 0)
    · simp only [cond_false]
      rw [lim_eq]
      simp only [s_impl_ChanFault_l4, List.length_cons, List.length_nil]
      rw [show decide ((1 : Int) < ((0 + 1 + 1 : Nat) : Int)) = true by decide, show ib (1 : Int) (0 + 1 + 1) = true by decide]
      simp only [cond_true, show (Int.toNat (1 : Int)) = 1 from rfl, List.getD_cons_succ, List.getD_cons_zero, p_impl_WordsFault _ h.b, Option.bind_some, w2]
      cases (wf c.2.2.1 != 0)
      · simp only [cond_false]
        rw [lim_eq]
        simp only [s_impl_ChanFault_l4]
        rw [show decide ((2 : Int) < ((0 + 1 + 1 : Nat) : Int)) = false by decide]
        rfl
      · rfl
    · rfl
  simp only [F_impl_ChanFault, hl, Option.bind_some, chFault, bne]
  cases (c.1 == 1) <;> cases (c.1 == 2)
  · rfl
  all_goals
    simp only [Bool.not_true, Bool.not_false, cond_true, cond_false, Option.bind_some, Bool.or_true, Bool.true_or]
    cases (wf c.2.1 == 0)
    · rfl
    · cases (wf c.2.2.1 == 0)
      · rfl
      · simp only [Bool.not_true, cond_false, p_impl_areWords _ h.c, p_impl_isWord, Option.bind_some, Bool.not_not]
        cases c.2.2.2.1.any (fun x => !isW x) <;> cases isW c.2.2.2.2.1 <;> cases isW c.2.2.2.2.2 <;> cases decide ((c.2.2.2.1.length : Int) > 80) <;> rfl

theorem p_slices_Clone_int64 (l : Li) (h : l.length ≤ 1048576) : F_slices_Clone_int64 l = some ((), (), (l, ())) := by
  have hr := room8 h
  simp only [List.nil_append] at hr
  simp only [F_slices_Clone_int64, List.nil_append, hr, cond_true, nilB]
  cases l with
  | nil => simp
  | cons a l => rfl

def hxor (x v : Int) : Int := IntKind.wrap .i64 (((BitVec.ofInt (IntKind.bits .i64) x ^^^ BitVec.ofInt (IntKind.bits .i64) v).toNat : Int))
abbrev HL : Type := Int × Int × Int × Li × Li × Li
def hurtL (k i v w1 w2 : Int) (x y z : Li) : HL :=
  bif k == 1 then bif isW v && ib i x.length then (0, w1, w2, x.set i.toNat (hxor (x.getD i.toNat 0) v), y, z) else (3, w1, w2, x, y, z)
  else bif k == 2 then bif isW v && ib i z.length then (0, w1, w2, x, y, z.set i.toNat (hxor (z.getD i.toNat 0) v)) else (3, w1, w2, x, y, z)
  else bif k == 3 then bif isW v && ib i y.length then (0, w1, w2, x, y.set i.toNat (hxor (y.getD i.toNat 0) v), z) else (3, w1, w2, x, y, z)
  else bif k == 4 then bif isW v && ib i 1 then (0, hxor w1 v, w2, x, y, z) else (3, w1, w2, x, y, z)
  else bif k == 5 then bif isW v && ib i 1 then (0, w1, hxor w2 v, x, y, z) else (3, w1, w2, x, y, z)
  else (1, w1, w2, x, y, z)
theorem hurtL_len (k i v w1 w2 : Int) (x y z : Li) : (hurtL k i v w1 w2 x y z).2.2.2.1.length = x.length ∧ (hurtL k i v w1 w2 x y z).2.2.2.2.1.length = y.length ∧ (hurtL k i v w1 w2 x y z).2.2.2.2.2.length = z.length := by
  unfold hurtL
  cases (k == 1)
  · cases (k == 2)
    · cases (k == 3)
      · cases (k == 4)
        · cases (k == 5)
          · exact ⟨rfl, rfl, rfl⟩
          · cases (isW v && ib i 1) <;> exact ⟨rfl, rfl, rfl⟩
        · cases (isW v && ib i 1) <;> exact ⟨rfl, rfl, rfl⟩
      · cases (isW v && ib i y.length) <;> simp
    · cases (isW v && ib i z.length) <;> simp
  · cases (isW v && ib i x.length) <;> simp
theorem inL (i : Int) (n : Nat) : (decide (0 ≤ i) && decide (i ≤ (n : Int) - 1)) = ib i n := by
  unfold ib
  rw [← Bool.decide_and]
  exact decide_eq_decide.2 (by omega)
theorem wrap_pred (n : Nat) (h : n ≤ maxLen) : IntKind.wrap .i64 ((n : Int) - 1) = (n : Int) - 1 := by
  simp only [maxLen] at h
  exact wrap_id (by omega) (by omega)
def hurtC (c : Ch) (k i v : Int) : Int × Ch :=
  bif chFault c != 0 then (chFault c, 0, [], [], [], 0, 0) else
  bif (hurtL k i v c.2.2.2.2.1 c.2.2.2.2.2 c.2.1 c.2.2.1 c.2.2.2.1).1 != 0 then ((hurtL k i v c.2.2.2.2.1 c.2.2.2.2.2 c.2.1 c.2.2.1 c.2.2.2.1).1, 0, [], [], [], 0, 0) else
  (0, c.1, (hurtL k i v c.2.2.2.2.1 c.2.2.2.2.2 c.2.1 c.2.2.1 c.2.2.2.1).2.2.2.1, (hurtL k i v c.2.2.2.2.1 c.2.2.2.2.2 c.2.1 c.2.2.1 c.2.2.2.1).2.2.2.2.1, (hurtL k i v c.2.2.2.2.1 c.2.2.2.2.2 c.2.1 c.2.2.1 c.2.2.2.1).2.2.2.2.2, (hurtL k i v c.2.2.2.2.1 c.2.2.2.2.2 c.2.1 c.2.2.1 c.2.2.2.1).2.1, (hurtL k i v c.2.2.2.2.1 c.2.2.2.2.2 c.2.1 c.2.2.1 c.2.2.2.1).2.2.1)
theorem hurtC_len (c : Ch) (k i v : Int) (n : Nat) (h : ChB c n) : ChB (hurtC c k i v).2 n := by
  obtain ⟨a, b, d⟩ := hurtL_len k i v c.2.2.2.2.1 c.2.2.2.2.2 c.2.1 c.2.2.1 c.2.2.2.1
  unfold hurtC
  cases (chFault c != 0)
  · simp only [cond_false]
    generalize hurtL k i v c.2.2.2.2.1 c.2.2.2.2.2 c.2.1 c.2.2.1 c.2.2.2.1 = r at a b d ⊢
    cases (r.1 != 0)
    · exact ⟨by simpa [a] using h.a, by simpa [b] using h.b, by simpa [d] using h.c⟩
    · exact ⟨Nat.zero_le _, Nat.zero_le _, Nat.zero_le _⟩
  · exact ⟨Nat.zero_le _, Nat.zero_le _, Nat.zero_le _⟩
abbrev outC (r : Int × Ch) : ((Int × Int × Int × Int × Int × Int × Unit) × Unit) × Unit × (Li × Li × Li × Unit) := (((r.1, ((0 : Int), ((0 : Int), (r.2.1, (r.2.2.2.2.2.1, (r.2.2.2.2.2.2, ())))))), ()), (), (r.2.2.1, (r.2.2.2.1, (r.2.2.2.2.1, ()))))

theorem p_spec_l13Copy (c : Ch) (h : ChB c 1048576) : F_spec_l13Copy c = some (((c.1, (c.2.2.2.2.1, (c.2.2.2.2.2, ()))), ()), (), (c.2.1, (c.2.2.1, (c.2.2.2.1, ())))) := by
  have ha := room8 h.a
  have hb := room8 h.b
  have hc := room8 h.c
  simp only [List.nil_append] at ha hb hc
  simp only [F_spec_l13Copy, List.nil_append, ha, hb, hc, cond_true]

theorem p_impl_Chan_copied (c : Ch) (h : ChB c 1048576) : F_impl_Chan_copied c = some (((c.1, (c.2.2.2.2.1, (c.2.2.2.2.2, ()))), ()), (), (c.2.1, (c.2.2.1, (c.2.2.2.1, ())))) := by
  simp only [F_impl_Chan_copied, p_slices_Clone_int64 _ h.a, p_slices_Clone_int64 _ h.b, p_slices_Clone_int64 _ h.c, Option.bind_some]

theorem p_spec_l13Hurt (k i v kd w1 w2 : Int) (x y z : Li) (hx : x.length ≤ maxLen) (hy : y.length ≤ maxLen) (hz : z.length ≤ maxLen) : F_spec_l13Hurt k i v kd w1 w2 x y z =
    some ((((hurtL k i v w1 w2 x y z).1, ()), ((kd, ((hurtL k i v w1 w2 x y z).2.1, ((hurtL k i v w1 w2 x y z).2.2.1, ()))), ()), ((hurtL k i v w1 w2 x y z).2.2.2.1, ((hurtL k i v w1 w2 x y z).2.2.2.2.1, ((hurtL k i v w1 w2 x y z).2.2.2.2.2, ()))))) := by
  by_cases h1 : k = 1
  · subst h1
    simp only [F_spec_l13Hurt, p_spec_l1In, p_spec_l1Word, Option.bind_some, hurtL]
    cases isW v
    · rfl
    · rw [show ib (1 : Int) ([(0 : Int), (x.length : Int), (z.length : Int), (y.length : Int), 1, 1]).length = true from rfl]
      simp only [show ([(0 : Int), (x.length : Int), (z.length : Int), (y.length : Int), 1, 1]).getD (Int.toNat 1) (K.zero (.int .i64)) = (x.length : Int) from rfl, wrap_pred _ hx, inL]
      cases ib i x.length <;> rfl
  by_cases h2 : k = 2
  · subst h2
    simp only [F_spec_l13Hurt, p_spec_l1In, p_spec_l1Word, Option.bind_some, hurtL]
    cases isW v
    · rfl
    · rw [show ib (2 : Int) ([(0 : Int), (x.length : Int), (z.length : Int), (y.length : Int), 1, 1]).length = true from rfl]
      simp only [show ([(0 : Int), (x.length : Int), (z.length : Int), (y.length : Int), 1, 1]).getD (Int.toNat 2) (K.zero (.int .i64)) = (z.length : Int) from rfl, wrap_pred _ hz, inL]
      cases ib i z.length <;> rfl
  by_cases h3 : k = 3
  · subst h3
    simp only [F_spec_l13Hurt, p_spec_l1In, p_spec_l1Word, Option.bind_some, hurtL]
    cases isW v
    · rfl
    · rw [show ib (3 : Int) ([(0 : Int), (x.length : Int), (z.length : Int), (y.length : Int), 1, 1]).length = true from rfl]
      simp only [show ([(0 : Int), (x.length : Int), (z.length : Int), (y.length : Int), 1, 1]).getD (Int.toNat 3) (K.zero (.int .i64)) = (y.length : Int) from rfl, wrap_pred _ hy, inL]
      cases ib i y.length <;> rfl
  by_cases h4 : k = 4
  · subst h4
    simp only [F_spec_l13Hurt, p_spec_l1In, p_spec_l1Word, Option.bind_some, hurtL]
    cases isW v
    · rfl
    · rw [show ib (4 : Int) ([(0 : Int), (x.length : Int), (z.length : Int), (y.length : Int), 1, 1]).length = true from rfl]
      simp only [show ([(0 : Int), (x.length : Int), (z.length : Int), (y.length : Int), 1, 1]).getD (Int.toNat 4) (K.zero (.int .i64)) = ((1 : Nat) : Int) from rfl, wrap_pred 1 (by decide), inL]
      cases ib i 1 <;> rfl
  by_cases h5 : k = 5
  · subst h5
    simp only [F_spec_l13Hurt, p_spec_l1In, p_spec_l1Word, Option.bind_some, hurtL]
    cases isW v
    · rfl
    · rw [show ib (5 : Int) ([(0 : Int), (x.length : Int), (z.length : Int), (y.length : Int), 1, 1]).length = true from rfl]
      simp only [show ([(0 : Int), (x.length : Int), (z.length : Int), (y.length : Int), 1, 1]).getD (Int.toNat 5) (K.zero (.int .i64)) = ((1 : Nat) : Int) from rfl, wrap_pred 1 (by decide), inL]
      cases ib i 1 <;> rfl
  · simp only [F_spec_l13Hurt, p_spec_l1In, Option.bind_some, hurtL]
    rw [show (decide ((1 : Int) ≤ k) && decide (k ≤ (5 : Int))) = false by rw [← Bool.decide_and]; exact decide_eq_false (by omega)]
    rw [beq_false_of_ne h1, beq_false_of_ne h2, beq_false_of_ne h3, beq_false_of_ne h4, beq_false_of_ne h5]
    rfl

theorem p_spec_HurtChan (c : Ch) (k i v : Int) (h : ChB c 1048576) (h' : ChB c maxLen) : F_spec_HurtChan c k i v = some (outC (hurtC c k i v)) := by
  simp only [F_spec_HurtChan, p_spec_l13Fault _ h', p_spec_l13Copy _ h, p_spec_l13Hurt _ _ _ _ _ _ _ _ _ h'.a h'.b h'.c, Option.bind_some, hurtC]
  cases (chFault c != 0)
  · simp only [cond_false]
    generalize hurtL k i v c.2.2.2.2.1 c.2.2.2.2.2 c.2.1 c.2.2.1 c.2.2.2.1 = r
    cases (r.1 != 0) <;> rfl
  · rfl

theorem p_impl_HurtChan (c : Ch) (k i v : Int) (h : ChB c 1048576) (h' : ChB c maxLen) : F_impl_HurtChan c k i v = some (outC (hurtC c k i v)) := by
  simp only [F_impl_HurtChan, p_impl_ChanFault _ h', p_impl_Chan_copied _ h, p_impl_isWord, p_impl_within, Option.bind_some, hurtC, wrap_pred _ h'.a, wrap_pred _ h'.b, wrap_pred _ h'.c, wrap_pred 1 (by decide),
    show ((List.replicate (Int.toNat 1) (K.zero (.int .i64))).length) = 1 from rfl, inL]
  cases (chFault c != 0)
  · simp only [cond_false]
    by_cases h1 : k = 1
    · subst h1
      simp only [hurtL]
      cases isW v <;> cases ib i c.2.1.length <;> rfl
    by_cases h2 : k = 2
    · subst h2
      simp only [hurtL]
      cases isW v <;> cases ib i c.2.2.2.1.length <;> rfl
    by_cases h3 : k = 3
    · subst h3
      simp only [hurtL]
      cases isW v <;> cases ib i c.2.2.1.length <;> rfl
    by_cases h4 : k = 4
    · subst h4
      simp only [hurtL]
      cases isW v <;> cases ib i 1 <;> rfl
    by_cases h5 : k = 5
    · subst h5
      simp only [hurtL]
      cases isW v <;> cases ib i 1 <;> rfl
    · simp only [hurtL]
      rw [beq_false_of_ne h1, beq_false_of_ne h2, beq_false_of_ne h3, beq_false_of_ne h4, beq_false_of_ne h5]
      rfl
  · rfl

theorem p_laws_FnExactHurtChan (c : Ch) (k i v : Int) (hw : Wf (.pr (.int .i64) (.pr (.sl (.int .i64)) (.pr (.sl (.int .i64)) (.pr (.sl (.int .i64)) (.pr (.int .i64) (.int .i64)))))) c) : F_laws_FnExactHurtChan c k i v = some ((true, ()), (), ()) := by
  have h' : ChB c maxLen := ⟨hw.2.1.1, hw.2.2.1.1, hw.2.2.2.1.1⟩
  obtain ⟨r, e, g⟩ := z_laws_szChan c 1048576 (by decide) (by decide) h'
  simp only [F_laws_FnExactHurtChan, e, Option.bind_some]
  cases q : decide (r < 0)
  · obtain ⟨_, _, h⟩ := g q
    have ht := hurtC_len c k i v _ h
    have ht' := hurtC_len c k i v _ h'
    have ha := h.a
    have hb := h.b
    have hc := h.c
    simp only [cond_false, p_laws_toChan c h, p_spec_HurtChan c k i v h h', p_impl_HurtChan c k i v h h', outC, Option.bind_some]
    generalize hurtC c k i v = u at ht ht'
    have ta := ht.a
    have tb := ht.b
    have tc := ht.c
    simp only [p_laws_eqChanResult (u.1, 0, 0, u.2) ht', p_laws_eqChan c h',
      p_laws_markChan c.1 c.2.2.2.2.1 c.2.2.2.2.2 1 c.2.1 c.2.2.1 c.2.2.2.1 (by decide) (by decide) ha hb hc, p_laws_markChanResult u.1 0 0 u.2.1 u.2.2.2.2.2.1 u.2.2.2.2.2.2 1 u.2.2.1 u.2.2.2.1 u.2.2.2.2.1 (by decide) (by decide) ta tb tc,
      p_laws_heldChanResult u.1 0 0 u.2.1 u.2.2.2.2.2.1 u.2.2.2.2.2.2 1 u.2.2.1.length u.2.2.2.1.length u.2.2.2.2.1.length (by decide) (by decide) ta tb tc, Option.bind_some, Bool.not_true, bne_self_eq_false]
    rw [decide_eq_false (show ¬ (1 : Int) + c.2.1.length + c.2.2.1.length + c.2.2.2.1.length < 0 by omega), decide_eq_false (show ¬ (1 : Int) + u.2.2.1.length + u.2.2.2.1.length + u.2.2.2.2.1.length < 0 by omega)]
    rfl
  · rfl

end Go.Ev
