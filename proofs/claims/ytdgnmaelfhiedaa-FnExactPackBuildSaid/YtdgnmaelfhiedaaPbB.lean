/- What is proved here: the pure function of FnExactPackBuild yields true for each argument that can be read; no condition. -/
import Derived.Test.YtdgnmaelfhiedaaPbA
set_option linter.unusedVariables false
set_option linter.unusedSimpArgs false
namespace Go.Ev
abbrev Li : Type := List Int
abbrev Ch : Type := Int × Li × Li × Li × Int × Int
theorem lim_fill {A B α : Type} {step : A → Option (A ⊕ B)} (v : Nat → α) (mk : Nat → List α → A) (out : List α → B) (l : List α)
    (h1 : ∀ i acc, acc.length = l.length → i < l.length → step (mk i acc) = some (.inl (mk (i + 1) (acc.set i (v i))))) (h2 : ∀ acc, acc.length = l.length → step (mk l.length acc) = some (.inr (out acc))) :
    lim step (mk 0 l) = some (out ((List.range l.length).map v)) := by
  have key : ∀ (k i : Nat) (acc : List α), i + k = l.length → acc.length = l.length → acc.take i = (List.range i).map v → lim step (mk i acc) = some (out ((List.range l.length).map v)) := by
    intro k
    induction k with
    | zero =>
      intro i acc hi hn ht
      have : i = l.length := by omega
      subst this
      rw [List.take_of_length_le (by omega)] at ht
      rw [lim_eq, h2 _ hn, ht]
    | succ k ih =>
      intro i acc hi hn ht
      rw [lim_eq, h1 i acc hn (by omega)]
      refine ih (i + 1) _ (by omega) (by simp [hn]) ?_
      rw [List.take_add_one, List.getElem?_set_self (by omega), List.take_set_of_le (Nat.le_refl i), ht, List.range_succ, List.map_append]
      rfl
  exact key l.length 0 l (by omega) rfl (by simp)
theorem lim_app {A B α β : Type} {step : A → Option (A ⊕ B)} (l : List α) (f : α → β) (mk : Nat → List β → A) (out : B)
    (h1 : ∀ i acc d, acc.length ≤ l.length → acc.length = i → l[i]? = some d → step (mk i acc) = some (.inl (mk (i + 1) (acc ++ [f d])))) (h2 : step (mk l.length (l.map f)) = some (.inr out)) :
    lim step (mk 0 []) = some out := by
  have key : ∀ (r : List α) (i : Nat), l.drop i = r → i ≤ l.length → lim step (mk i ((l.take i).map f)) = some out := by
    intro r
    induction r with
    | nil =>
      intro i hd hle
      have : i = l.length := by have := congrArg List.length hd; simp at this; omega
      subst this
      rw [List.take_of_length_le (Nat.le_refl _), lim_eq, h2]
    | cons d r ih =>
      intro i hd hle
      have hlt : i < l.length := by have := congrArg List.length hd; simp at this; omega
      have hg : l[i]? = some d := by
        have := congrArg (·[0]?) hd
        simpa using this
      rw [lim_eq, h1 i _ d (by simp; omega) (by simp; omega) hg]
      have := ih (i + 1) (by rw [← List.drop_drop, hd]; rfl) hlt
      rw [List.take_add_one, hg, List.map_append] at this
      exact this
  have := key l 0 rfl (Nat.zero_le _)
  simpa using this
theorem any_no {α : Type} (l : List α) : l.any (fun _ => false) = false := by induction l with | nil => rfl | cons a l ih => simp [ih]
theorem room8 {l : Li} (h : l.length ≤ 1048576) : room ([] ++ l).length 8 = true := by simp [room]; omega
theorem i_cases {p : Prop} [Decidable p] : decide p = true ∨ decide p = false := by cases decide p <;> simp
theorem wrap_u16 (x : Int) : IntKind.wrap .u16 x = x % 65536 := by simp [IntKind.wrap, IntKind.bits, IntKind.signed]
theorem u16_eq (x : Int) : ((BitVec.ofInt (IntKind.bits .i64) x &&& BitVec.ofInt (IntKind.bits .i64) (65535 : Int)).toNat : Int) = IntKind.wrap .u16 x := by
  rw [wrap_u16, BitVec.toNat_and]
  have h1 : (BitVec.ofInt (IntKind.bits .i64) (65535 : Int)).toNat = 2 ^ 16 - 1 := by decide
  rw [h1, Nat.and_two_pow_sub_one_eq_mod]
  show (((BitVec.ofInt 64 x).toNat % 2 ^ 16 : Nat) : Int) = _
  rw [BitVec.toNat_ofInt]
  omega
def isW (x : Int) : Bool := decide (0 ≤ x) && decide (x ≤ 65535)
def wf (l : Li) : Int := bif decide ((l.length : Int) > 400) then 2 else bif l.any (fun x => !isW x) then 3 else 0
theorem all_any (l : Li) : l.all isW = !l.any (fun x => !isW x) := by induction l with | nil => rfl | cons a l ih => simp [ih]
def chFault (c : Ch) : Int := bif !(c.1 == 1 || c.1 == 2) then 1 else bif wf c.2.1 != 0 then wf c.2.1 else bif wf c.2.2.1 != 0 then wf c.2.2.1 else
  bif c.2.2.2.1.any (fun x => !isW x) || !isW c.2.2.2.2.1 || !isW c.2.2.2.2.2 then 3 else bif decide ((c.2.2.2.1.length : Int) > 80) then 2 else 0
structure ChB (c : Ch) (n : Nat) : Prop where
  a : c.2.1.length ≤ n
  b : c.2.2.1.length ≤ n
  c : c.2.2.2.1.length ≤ n
def iota (n : Int) (k : Nat) : Li := (List.range k).map fun (i : Nat) => n + (i : Int)
theorem iota_get {n : Int} {k i : Nat} {d : Int} (h : (iota n k)[i]? = some d) : d = n + i := by
  simp only [iota, List.getElem?_map] at h
  cases h' : (List.range k)[i]? with
  | none => rw [h'] at h; cases h
  | some j =>
    rw [h'] at h
    have := (List.getElem?_eq_some_iff.1 h').2
    simp at this
    simp only [Option.map_some, Option.some.injEq] at h
    omega
theorem iota_len (n : Int) (k : Nat) : (iota n k).length = k := by simp [iota]
def compl (x : Int) : Int := IntKind.wrap .i64 (65535 - IntKind.wrap .i64 (IntKind.wrap .u16 x))
def tc (c : Ch) : Int × Li := bif chFault c != 0 then (chFault c, []) else (0, bif c.1 == 2 then c.2.2.2.1.map compl else c.2.2.2.1)
theorem tc_len (c : Ch) (n : Nat) (h : ChB c n) : (tc c).2.length ≤ n := by
  have := h.c
  unfold tc
  cases (chFault c != 0)
  · cases (c.1 == 2) <;> simpa using this
  · simp

theorem p_laws_szInt64S (l : Li) (left : Int) (h0 : 0 ≤ left) (h1 : left ≤ 1048576) (hl : l.length ≤ maxLen) :
    F_laws_szInt64S l left = some ((if left - (l.length : Int) < 0 then -1 else left - l.length, ()), (), ()) := by
  simp only [maxLen] at hl
  have hw : IntKind.wrap .i64 (left - (l.length : Int)) = left - l.length := wrap_id (by omega) (by omega)
  unfold F_laws_szInt64S
  rw [hw]
  by_cases hn : left - (l.length : Int) < 0
  · simp [hn]
  · simp [hn]
theorem z_laws_szInt64S (l : Li) (left : Int) (h0 : 0 ≤ left) (h1 : left ≤ 1048576) (hl : l.length ≤ maxLen) :
    ∃ r : Int, F_laws_szInt64S l left = some ((r, ()), (), ()) ∧ (decide (r < 0) = false → 0 ≤ r ∧ r ≤ 1048576 ∧ l.length ≤ 1048576) := by
  refine ⟨_, p_laws_szInt64S l left h0 h1 hl, fun h => ?_⟩
  have h := of_decide_eq_false h
  split at h
  · omega
  · rename_i hh; rw [if_neg hh]; omega

theorem p_laws_toInt64S (l : Li) (h : l.length ≤ 1048576) : F_laws_toInt64S l = some ((), (), (l, ())) := by
  have hm : l.length ≤ maxLen := by simp only [maxLen]; omega
  have hl : l_laws_toInt64S_l3 ((l, ((0 : Int), ())), (), ((List.replicate l.length (0 : Int)), ())) = some ((), (), (l, ())) :=
    lim_copy (step := s_laws_toInt64S_l3) l (fun i acc => ((l, ((i : Int), ())), (), (acc, ()))) (fun acc => ((), (), (acc, ()))) (0 : Int)
      (fun i acc d hn hg => by
        have hlt := lt_of_get hg
        simp only [s_laws_toInt64S_l3, dec_lt hlt, cond_true, ib_nat hlt, Int.toNat_natCast, getD_of hg, wrap_succ hlt hm]
        rw [ib_nat (show i < acc.length by omega)]
        rfl)
      (fun acc => by simp only [s_laws_toInt64S_l3, dec_self, cond_false])
  have hroom : room l.length 8 = true := by simp [room]; omega
  simp only [F_laws_toInt64S, Int.toNat_natCast, hroom, cond_true]
  rw [show decide (0 ≤ (l.length : Int) ∧ (l.length : Int) ≤ (l.length : Int)) = true by simp]
  simp only [cond_true]
  rw [show K.zero (.int .i64) = (0 : Int) from rfl, hl]
  rfl

theorem p_laws_eqInt64S (l : Li) (hm : l.length ≤ maxLen) : F_laws_eqInt64S l l = some ((true, ()), (), ()) := by
  have h4 : l_laws_eqInt64S_l4 ((l, (l, ((0 : Int), ()))), (), ()) = _ :=
    lim_any (step := s_laws_eqInt64S_l4) l (fun i => ((l, (l, ((i : Int), ()))), (), ())) (fun _ => false) (.inl ((), (), ())) (.inl ((), (), ()))
      (fun i d hg => by
        have hlt := lt_of_get hg
        simp only [s_laws_eqInt64S_l4, dec_lt hlt, cond_true, ib_nat hlt, Int.toNat_natCast, getD_of hg, wrap_succ hlt hm, bne_self_eq_false, cond_false])
      (by simp only [s_laws_eqInt64S_l4, dec_self, cond_false])
  rw [any_no] at h4
  simp only [F_laws_eqInt64S, bne_self_eq_false, cond_false, h4, Option.bind_some]

theorem p_laws_eqIntsResult (x : Int × Li) (hm : x.2.length ≤ maxLen) : F_laws_eqIntsResult x x = some ((true, ()), (), ()) := by
  simp only [F_laws_eqIntsResult, bne_self_eq_false, cond_false, p_laws_eqInt64S _ hm, Option.bind_some, Bool.not_true]

theorem p_laws_markInt64S (n : Int) (l : Li) (h0 : 0 ≤ n) (h1 : n ≤ 1099511627776) (hl : l.length ≤ 1048576) :
    F_laws_markInt64S n l = some ((n + (l.length : Int), ()), (), (iota n l.length, ())) := by
  have hm : l.length ≤ maxLen := by simp only [maxLen]; omega
  have hk : l_laws_markInt64S_l2 ((n, ((0 : Int), ())), (), (l, ())) = some ((n + (l.length : Int), ()), (), (iota n l.length, ())) := by
    have := lim_fill (step := s_laws_markInt64S_l2) (fun i => n + (i : Int)) (fun i acc => ((n + (i : Int), ((i : Int), ())), (), (acc, ()))) (fun acc => ((n + (l.length : Int), ()), (), (acc, ()))) l
      (fun i acc hn hlt => by
        simp only [s_laws_markInt64S_l2, hn, dec_lt hlt, cond_true, ib_nat hlt, Int.toNat_natCast, wrap_succ hlt hm]
        rw [wrap_id (x := n + (i : Int) + 1) (by omega) (by omega)]
        rw [show n + (i : Int) + 1 = n + ((i + 1 : Nat) : Int) by omega])
      (fun acc hn => by simp only [s_laws_markInt64S_l2, hn, dec_self, cond_false])
    simp only [Int.natCast_zero, Int.add_zero] at this
    exact this
  simp only [F_laws_markInt64S, hk, Option.bind_some]

theorem p_laws_markIntsResult (a n : Int) (x : Li) (h0 : 0 ≤ n) (h1 : n ≤ 1073741824) (hx : x.length ≤ 1048576) :
    F_laws_markIntsResult a n x = some ((n + (x.length : Int), ()), (), (iota n x.length, ())) := by
  simp only [F_laws_markIntsResult, p_laws_markInt64S n x h0 (by omega) hx, Option.bind_some]

theorem p_laws_heldInt64S (n : Int) (k : Nat) (h0 : 0 ≤ n) (h1 : n ≤ 1099511627776) (hl : k ≤ 1048576) :
    F_laws_heldInt64S (iota n k) n = some ((n + (k : Int), ()), (), ()) := by
  have hm : (iota n k).length ≤ maxLen := by simp only [maxLen, iota_len]; omega
  have hk : l_laws_heldInt64S_l2 ((iota n k, (n, ((0 : Int), ()))), (), ()) = some (bif (iota n k).any (fun _ => false) then .inl ((n + (k : Int), ()), (), ()) else .inl ((n + (k : Int), ()), (), ())) := by
    have := lim_any (step := s_laws_heldInt64S_l2) (iota n k) (fun i => ((iota n k, (n + (i : Int), ((i : Int), ()))), (), ())) (fun _ => false) (.inl ((n + (k : Int), ()), (), ())) (.inl ((n + (k : Int), ()), (), ()))
      (fun i d hg => by
        have hlt := lt_of_get hg
        have hd := iota_get hg
        have hik : i < k := by rw [iota_len] at hlt; exact hlt
        simp only [s_laws_heldInt64S_l2, dec_lt hlt, cond_true, ib_nat hlt, Int.toNat_natCast, getD_of hg, wrap_succ hlt hm, hd, bne_self_eq_false, cond_false]
        rw [wrap_id (x := n + (i : Int) + 1) (by omega) (by omega)]
        rw [show n + (i : Int) + 1 = n + ((i + 1 : Nat) : Int) by omega])
      (by simp only [s_laws_heldInt64S_l2, dec_self, cond_false, iota_len])
    simp only [Int.natCast_zero, Int.add_zero] at this
    exact this
  rw [any_no] at hk
  simp only [F_laws_heldInt64S, hk, Option.bind_some, cond_false]

theorem p_laws_heldIntsResult (a n : Int) (k : Nat) (h0 : 0 ≤ n) (h1 : n ≤ 1073741824) (hl : k ≤ 1048576) :
    F_laws_heldIntsResult (a, iota n k) n = some ((n + (k : Int), ()), (), ()) := by
  simp only [F_laws_heldIntsResult, p_laws_heldInt64S n k h0 (by omega) hl, Option.bind_some]
  rw [decide_eq_false (show ¬ n + (k : Int) < 0 by omega)]; rfl

theorem p_spec_l1In (x a b : Int) : F_spec_l1In x a b = some (((decide (a ≤ x) && decide (x ≤ b)), ()), (), ()) := by
  unfold F_spec_l1In
  simp only [ge_iff_le]
  cases decide (a ≤ x) <;> rfl

theorem p_spec_l1Word (x : Int) : F_spec_l1Word x = some ((isW x, ()), (), ()) := by
  simp only [F_spec_l1Word, p_spec_l1In, Option.bind_some, isW]

theorem p_spec_WordsFault (l : Li) (hm : l.length ≤ maxLen) : F_spec_WordsFault l = some ((wf l, ()), (), ()) := by
  have h2 : l_spec_WordsFault_l4 ((l, ((0 : Int), ())), (), ()) = _ :=
    lim_any (step := s_spec_WordsFault_l4) l (fun i => ((l, ((i : Int), ())), (), ())) (fun x => !isW x) (.inr (((3 : Int), ()), (), ())) (.inl ((), (), ()))
      (fun i d hg => by
        have hlt := lt_of_get hg
        simp only [s_spec_WordsFault_l4, dec_lt hlt, cond_true, ib_nat hlt, Int.toNat_natCast, getD_of hg, wrap_succ hlt hm, p_spec_l1Word, Option.bind_some]
        cases isW d <;> rfl)
      (by simp only [s_spec_WordsFault_l4, dec_self, cond_false])
  simp only [F_spec_WordsFault, h2, Option.bind_some, wf]
  cases decide ((l.length : Int) > 400)
  · cases l.any (fun x => !isW x) <;> rfl
  · rfl

theorem p_impl_within (x a b : Int) : F_impl_within x a b = some (((decide (a ≤ x) && decide (x ≤ b)), ()), (), ()) := by
  unfold F_impl_within
  cases decide (a ≤ x) <;> rfl

theorem p_impl_isWord (x : Int) : F_impl_isWord x = some ((isW x, ()), (), ()) := by
  simp only [F_impl_isWord, p_impl_within, Option.bind_some, isW]

theorem p_impl_areWords (l : Li) (hm : l.length ≤ maxLen) : F_impl_areWords l = some ((!l.any (fun x => !isW x), ()), (), ()) := by
  have h2 : l_impl_areWords_l2 ((l, ((l.length : Int), ((0 : Int), ()))), (), ()) = _ :=
    lim_any (step := s_impl_areWords_l2) l (fun i => ((l, ((l.length : Int), ((i : Int), ()))), (), ())) (fun x => !isW x) (.inr ((false, ()), (), ())) (.inl ((), (), ()))
      (fun i d hg => by
        have hlt := lt_of_get hg
        simp only [s_impl_areWords_l2, dec_lt hlt, cond_true, ib_nat hlt, Int.toNat_natCast, getD_of hg, wrap_succ hlt hm, p_impl_isWord, Option.bind_some]
        cases isW d <;> rfl)
      (by simp only [s_impl_areWords_l2, dec_self, cond_false])
  simp only [F_impl_areWords, h2, Option.bind_some]
  cases l.any (fun x => !isW x) <;> rfl

theorem p_impl_WordsFault (l : Li) (hm : l.length ≤ maxLen) : F_impl_WordsFault l = some ((wf l, ()), (), ()) := by
  simp only [F_impl_WordsFault, p_impl_areWords _ hm, Option.bind_some, wf, Bool.not_not]
  cases decide ((l.length : Int) > 400)
  · cases l.any (fun x => !isW x) <;> rfl
  · rfl

def hxor (x v : Int) : Int := IntKind.wrap .i64 (((BitVec.ofInt (IntKind.bits .i64) x ^^^ BitVec.ofInt (IntKind.bits .i64) v).toNat : Int))
abbrev HL : Type := Int × Int × Int × Li × Li × Li
def hurtL (k i v w1 w2 : Int) (x y z : Li) : HL :=
  bif k == 1 then bif isW v && ib i x.length then (0, w1, w2, x.set i.toNat (hxor (x.getD i.toNat 0) v), y, z) else (3, w1, w2, x, y, z)
  else bif k == 2 then bif isW v && ib i z.length then (0, w1, w2, x, y, z.set i.toNat (hxor (z.getD i.toNat 0) v)) else (3, w1, w2, x, y, z)
  else bif k == 3 then bif isW v && ib i y.length then (0, w1, w2, x, y.set i.toNat (hxor (y.getD i.toNat 0) v), z) else (3, w1, w2, x, y, z)
  else bif k == 4 then bif isW v && ib i 1 then (0, hxor w1 v, w2, x, y, z) else (3, w1, w2, x, y, z)
  else bif k == 5 then bif isW v && ib i 1 then (0, w1, hxor w2 v, x, y, z) else (3, w1, w2, x, y, z)
  else (1, w1, w2, x, y, z)
theorem hurtL_len (k i v w1 w2 : Int) (x y z : Li) : (hurtL k i v w1 w2 x y z).2.2.2.1.length = x.length ∧ (hurtL k i v w1 w2 x y z).2.2.2.2.1.length = y.length ∧ (hurtL k i v w1 w2 x y z).2.2.2.2.2.length = z.length := by
  unfold hurtL
  cases (k == 1)
  · cases (k == 2)
    · cases (k == 3)
      · cases (k == 4)
        · cases (k == 5)
          · exact ⟨rfl, rfl, rfl⟩
          · cases (isW v && ib i 1) <;> exact ⟨rfl, rfl, rfl⟩
        · cases (isW v && ib i 1) <;> exact ⟨rfl, rfl, rfl⟩
      · cases (isW v && ib i y.length) <;> simp
    · cases (isW v && ib i z.length) <;> simp
  · cases (isW v && ib i x.length) <;> simp
theorem inL (i : Int) (n : Nat) : (decide (0 ≤ i) && decide (i ≤ (n : Int) - 1)) = ib i n := by
  unfold ib
  rw [← Bool.decide_and]
  exact decide_eq_decide.2 (by omega)
theorem wrap_pred (n : Nat) (h : n ≤ maxLen) : IntKind.wrap .i64 ((n : Int) - 1) = (n : Int) - 1 := by
  simp only [maxLen] at h
  exact wrap_id (by omega) (by omega)
def hurtC (c : Ch) (k i v : Int) : Int × Ch :=
  bif chFault c != 0 then (chFault c, 0, [], [], [], 0, 0) else
  bif (hurtL k i v c.2.2.2.2.1 c.2.2.2.2.2 c.2.1 c.2.2.1 c.2.2.2.1).1 != 0 then ((hurtL k i v c.2.2.2.2.1 c.2.2.2.2.2 c.2.1 c.2.2.1 c.2.2.2.1).1, 0, [], [], [], 0, 0) else
  (0, c.1, (hurtL k i v c.2.2.2.2.1 c.2.2.2.2.2 c.2.1 c.2.2.1 c.2.2.2.1).2.2.2.1, (hurtL k i v c.2.2.2.2.1 c.2.2.2.2.2 c.2.1 c.2.2.1 c.2.2.2.1).2.2.2.2.1, (hurtL k i v c.2.2.2.2.1 c.2.2.2.2.2 c.2.1 c.2.2.1 c.2.2.2.1).2.2.2.2.2, (hurtL k i v c.2.2.2.2.1 c.2.2.2.2.2 c.2.1 c.2.2.1 c.2.2.2.1).2.1, (hurtL k i v c.2.2.2.2.1 c.2.2.2.2.2 c.2.1 c.2.2.1 c.2.2.2.1).2.2.1)
theorem hurtC_len (c : Ch) (k i v : Int) (n : Nat) (h : ChB c n) : ChB (hurtC c k i v).2 n := by
  obtain ⟨a, b, d⟩ := hurtL_len k i v c.2.2.2.2.1 c.2.2.2.2.2 c.2.1 c.2.2.1 c.2.2.2.1
  unfold hurtC
  cases (chFault c != 0)
  · simp only [cond_false]
    generalize hurtL k i v c.2.2.2.2.1 c.2.2.2.2.2 c.2.1 c.2.2.1 c.2.2.2.1 = r at a b d ⊢
    cases (r.1 != 0)
    · exact ⟨by simpa [a] using h.a, by simpa [b] using h.b, by simpa [d] using h.c⟩
    · exact ⟨Nat.zero_le _, Nat.zero_le _, Nat.zero_le _⟩
  · exact ⟨Nat.zero_le _, Nat.zero_le _, Nat.zero_le _⟩
abbrev outC (r : Int × Ch) : ((Int × Int × Int × Int × Int × Int × Unit) × Unit) × Unit × (Li × Li × Li × Unit) := (((r.1, ((0 : Int), ((0 : Int), (r.2.1, (r.2.2.2.2.2.1, (r.2.2.2.2.2.2, ())))))), ()), (), (r.2.2.1, (r.2.2.2.1, (r.2.2.2.2.1, ()))))

abbrev Pt : Type := Int × Bool
abbrev Bd : Type := Int × List Pt × Li × Li × Li × Li × Li × Int × Int
structure BdB (x : Bd) (n : Nat) : Prop where
  a : x.2.1.length ≤ n
  b : x.2.2.1.length ≤ n
  c : x.2.2.2.1.length ≤ n
  d : x.2.2.2.2.1.length ≤ n
  e : x.2.2.2.2.2.1.length ≤ n
  f : x.2.2.2.2.2.2.1.length ≤ n
theorem lim_count {A B σ : Type} {step : A → Option (A ⊕ B)} (n : Nat) (mk : Nat → σ → A) (f : σ → σ) (out : σ → B) (I : σ → Prop)
    (h1 : ∀ i s, i < n → I s → step (mk i s) = some (.inl (mk (i + 1) (f s)))) (hI : ∀ s, I s → I (f s)) (h2 : ∀ s, I s → step (mk n s) = some (.inr (out s))) :
    ∀ (k i : Nat) (s : σ), i + k = n → I s → lim step (mk i s) = some (out (Nat.repeat f k s))
  | 0, i, s, hi, hs => by
    obtain rfl : i = n := by omega
    rw [lim_eq, h2 s hs]; rfl
  | k + 1, i, s, hi, hs => by
    rw [lim_eq, h1 i s (by omega) hs]
    simp only
    rw [lim_count n mk f out I h1 hI h2 k (i + 1) (f s) (by omega) (hI s hs)]
    have : ∀ (k : Nat) (s : σ), Nat.repeat f k (f s) = Nat.repeat f (k + 1) s := by
      intro k
      induction k with
      | zero => intro s; rfl
      | succ k ih => intro s; show f (Nat.repeat f k (f s)) = _; rw [ih]; rfl
    rw [this]
theorem lim_foldl {A B α σ : Type} {step : A → Option (A ⊕ B)} (l : List α) (mk : Nat → σ → A) (f : σ → α → σ) (out : σ → B) (I : σ → Prop)
    (h1 : ∀ i s d, I s → l[i]? = some d → step (mk i s) = some (.inl (mk (i + 1) (f s d))) ∧ I (f s d)) (h2 : ∀ s, I s → step (mk l.length s) = some (.inr (out s))) (s0 : σ) (h0 : I s0) :
    lim step (mk 0 s0) = some (out (l.foldl f s0)) := by
  have key : ∀ (r : List α) (i : Nat) (s : σ), I s → l.drop i = r → i ≤ l.length → lim step (mk i s) = some (out (r.foldl f s)) := by
    intro r
    induction r with
    | nil =>
      intro i s hs hd hle
      have : i = l.length := by have := congrArg List.length hd; simp at this; omega
      subst this
      rw [lim_eq, h2 s hs]; rfl
    | cons d r ih =>
      intro i s hs hd hle
      have hlt : i < l.length := by have := congrArg List.length hd; simp at this; omega
      have hg : l[i]? = some d := by
        have := congrArg (·[0]?) hd
        simpa using this
      rw [lim_eq, (h1 i s d hs hg).1]
      exact ih (i + 1) _ (h1 i s d hs hg).2 (by rw [← List.drop_drop, hd]; rfl) hlt
  exact key l 0 s0 h0 rfl (Nat.zero_le _)
theorem lim_idx {A B α : Type} {step : A → Option (A ⊕ B)} (l : List α) (mk : Nat → A) (p : α → Bool) (hit : Nat → B) (out : B)
    (h1 : ∀ i d, l[i]? = some d → step (mk i) = some (bif p d then .inr (hit i) else .inl (mk (i + 1)))) (h2 : step (mk l.length) = some (.inr out)) :
    (∃ i : Nat, l.any p = true ∧ lim step (mk 0) = some (hit i)) ∨ (l.any p = false ∧ lim step (mk 0) = some out) := by
  have key : ∀ (r : List α) (i : Nat), l.drop i = r → i ≤ l.length → (∃ j : Nat, r.any p = true ∧ lim step (mk i) = some (hit j)) ∨ (r.any p = false ∧ lim step (mk i) = some out) := by
    intro r
    induction r with
    | nil =>
      intro i hd hle
      have : i = l.length := by have := congrArg List.length hd; simp at this; omega
      subst this
      exact .inr ⟨rfl, by rw [lim_eq, h2]⟩
    | cons d r ih =>
      intro i hd hle
      have hlt : i < l.length := by have := congrArg List.length hd; simp at this; omega
      have hg : l[i]? = some d := by
        have := congrArg (·[0]?) hd
        simpa using this
      rw [lim_eq, h1 i d hg]
      cases hp : p d
      · simp only [cond_false, List.any_cons, hp, Bool.false_or]
        exact ih (i + 1) (by rw [← List.drop_drop, hd]; rfl) hlt
      · exact .inl ⟨i, by simp [hp], rfl⟩
  exact key l 0 rfl (Nat.zero_le _)
theorem zip_any : ∀ {l1 l2 : Li}, l1.length = l2.length → (l1.zip l2).any (fun q => q.1 != q.2) = !(l1 == l2)
  | [], [], _ => rfl
  | [], _ :: _, h => by cases h
  | _ :: _, [], h => by cases h
  | a :: l1, b :: l2, h => by
    have ih := zip_any (l1 := l1) (l2 := l2) (by simpa using h)
    simp only [bne] at ih
    simp only [List.zip_cons_cons, List.any_cons, List.cons_beq_cons, Bool.not_and, bne, ih]
theorem lim_same {A B : Type} {step : A → Option (A ⊕ B)} (l1 l2 : Li) (hlen : l1.length = l2.length) (mk : Nat → A) (hit out : B)
    (h1 : ∀ i a b, l1[i]? = some a → l2[i]? = some b → step (mk i) = some (bif a != b then .inr hit else .inl (mk (i + 1)))) (h2 : step (mk l1.length) = some (.inr out)) :
    lim step (mk 0) = some (bif l1 == l2 then out else hit) := by
  have := lim_any (step := step) (l1.zip l2) mk (fun q => q.1 != q.2) hit out
    (fun i d hg => by
      rw [List.getElem?_zip_eq_some] at hg
      exact h1 i d.1 d.2 hg.1 hg.2)
    (by rw [show (l1.zip l2).length = l1.length by simp [hlen]]; exact h2)
  rw [this, zip_any hlen]
  cases (l1 == l2) <;> rfl
theorem len_ne {l1 l2 : Li} (h : l1.length ≠ l2.length) : (l1 == l2) = false := by
  rw [beq_eq_false_iff_ne]
  intro he; exact h (by rw [he])
theorem nat_mod {a : Nat} (h : a < 65536) : (BitVec.ofInt (IntKind.bits .i64) (a : Int)).toNat = a := by
  show (BitVec.ofInt 64 (a : Int)).toNat = a
  rw [BitVec.toNat_ofInt]; omega
theorem xorN {a b : Nat} (ha : a < 65536) (hb : b < 65536) : IntKind.wrap .i64 (((BitVec.ofInt (IntKind.bits .i64) (a : Int) ^^^ BitVec.ofInt (IntKind.bits .i64) (b : Int)).toNat : Int)) = ((a ^^^ b : Nat) : Int) := by
  rw [BitVec.toNat_xor, nat_mod ha, nat_mod hb]
  have : a ^^^ b < 2 ^ 16 := Nat.xor_lt_two_pow ha hb
  exact wrap_id (by omega) (by omega)
theorem andN {a b : Nat} (ha : a < 65536) (hb : b < 65536) : IntKind.wrap .i64 (((BitVec.ofInt (IntKind.bits .i64) (a : Int) &&& BitVec.ofInt (IntKind.bits .i64) (b : Int)).toNat : Int)) = ((a &&& b : Nat) : Int) := by
  rw [BitVec.toNat_and, nat_mod ha, nat_mod hb]
  have : a &&& b ≤ b := Nat.and_le_right
  exact wrap_id (by omega) (by omega)
theorem and15 {a : Nat} (ha : a < 65536) : (((a &&& 32768 : Nat) : Int) != 0) = decide ((a : Int) ≥ 32768) := by
  have h : a &&& 2 ^ 15 = 2 ^ 15 * (a / 2 ^ 15 % 2) := by
    apply Nat.eq_of_testBit_eq
    intro j
    rw [Nat.testBit_and, Nat.testBit_two_pow]
    by_cases hj : 15 = j
    · subst hj
      rw [Nat.testBit_eq_decide_div_mod_eq]
      rcases Nat.mod_two_eq_zero_or_one (a / 2 ^ 15) with h | h
      · rw [h]; simp
      · rw [h, Nat.mul_one, Nat.testBit_two_pow]; simp
    · rcases Nat.mod_two_eq_zero_or_one (a / 2 ^ 15) with h | h
      · rw [h]; simp [hj]
      · rw [h, Nat.mul_one, Nat.testBit_two_pow]; simp [hj]
  rw [show (32768 : Nat) = 2 ^ 15 from rfl, h]
  by_cases hh : 32768 ≤ a
  · rw [show a / 2 ^ 15 % 2 = 1 by omega, decide_eq_true (by omega)]; rfl
  · rw [show a / 2 ^ 15 % 2 = 0 by omega, decide_eq_false (by omega)]; rfl
def crc1 (n : Nat) : Nat := bif decide ((n : Int) ≥ 32768) then (2 * n % 65536) ^^^ 4129 else 2 * n % 65536
theorem crc1_lt (n : Nat) : crc1 n < 65536 := by
  unfold crc1
  cases decide ((n : Int) ≥ 32768)
  · exact Nat.mod_lt _ (by decide)
  · exact Nat.xor_lt_two_pow (n := 16) (Nat.mod_lt _ (by decide)) (by decide)
def crcB (c b : Nat) : Nat := Nat.repeat crc1 8 (c ^^^ (b * 256))
theorem crcB_lt (c b : Nat) : crcB c b < 65536 := crc1_lt _
def crcW (c : Nat) (w : Int) : Nat := crcB (crcB c (w.toNat / 256)) (w.toNat % 256)
def sumW (l : Li) : Nat := l.foldl crcW 65535
def blk (l : Li) (j : Nat) : Li := (l.take (min (j * 8 + 8) l.length)).drop (j * 8)
def nblk (l : Li) : Nat := (l.length + 7) / 8
def sums (l : Li) : Li := (List.range (nblk l)).map fun j => ((sumW (blk l j) : Nat) : Int)
theorem isW_nat {x : Int} (h : isW x = true) : ∃ a : Nat, a < 65536 ∧ x = (a : Int) := by
  simp only [isW, Bool.and_eq_true, decide_eq_true_eq] at h
  exact ⟨x.toNat, by omega, by omega⟩
def allW (l : Li) : Prop := ∀ x ∈ l, isW x = true
theorem wf_allW {l : Li} (h : (wf l != 0) = false) : allW l ∧ l.length ≤ 400 := by
  unfold wf at h
  cases h1 : decide ((l.length : Int) > 400)
  · rw [h1] at h
    have h1 := of_decide_eq_false h1
    cases h2 : l.any (fun x => !isW x)
    · refine ⟨fun x hx => ?_, by omega⟩
      rw [List.any_eq_false] at h2
      have := h2 x hx
      simpa using this
    · rw [h2] at h; simp at h
  · rw [h1] at h; simp at h
theorem allW_blk {l : Li} (h : allW l) (j : Nat) : allW (blk l j) := fun x hx => h x (List.mem_of_mem_take (List.mem_of_mem_drop hx))
theorem range_get {n i d : Nat} (h : (List.range n)[i]? = some d) : d = i ∧ i < n := by
  obtain ⟨h1, h2⟩ := List.getElem?_eq_some_iff.1 h
  simp at h2 h1
  omega
def cellOk (n x : Int) : Bool := decide (0 ≤ x) && decide (x ≤ IntKind.wrap .i64 (n - 1))
def inI (x a b : Int) : Bool := decide (a ≤ x) && decide (x ≤ b)
def bdFault (b : Bd) : Int :=
  bif !inI b.1 0 80 || !inI b.2.2.2.2.2.2.2.1 0 20000 || !inI b.2.2.2.2.2.2.2.2 0 20000 then 3
  else bif decide ((b.2.1.length : Int) > 24) || decide ((b.2.2.1.length : Int) > 60) then 2
  else bif b.2.1.any (fun p => !cellOk b.1 p.1) then 3
  else bif b.2.2.1.any (fun x => !cellOk b.1 x) then 3
  else bif wf b.2.2.2.1 != 0 then wf b.2.2.2.1
  else bif wf b.2.2.2.2.1 != 0 then wf b.2.2.2.2.1
  else bif !(b.2.2.2.2.2.1 == sums b.2.2.2.1) then 6
  else bif !(b.2.2.2.2.2.2.1 == sums b.2.2.2.2.1) then 6 else 0
theorem room8n (n : Nat) (h : n ≤ 1048576) : room n 8 = true := by simp [room]; omega
theorem room24n (n : Nat) (h : n ≤ 1048576) : room n 24 = true := by simp [room]; omega

theorem z_laws_szPortS (l : List Pt) (left : Int) (h0 : 0 ≤ left) (h1 : left ≤ 1048576) (hl : l.length ≤ maxLen) :
    ∃ r : Int, F_laws_szPortS l left = some ((r, ()), (), ()) ∧ (decide (r < 0) = false → 0 ≤ r ∧ r ≤ 1048576 ∧ l.length ≤ 1048576) := by
  simp only [maxLen] at hl
  have hw : IntKind.wrap .i64 (left - (l.length : Int)) = left - l.length := wrap_id (by omega) (by omega)
  unfold F_laws_szPortS
  rw [hw]
  cases hn : decide (left - (l.length : Int) < 0)
  · have hn' := of_decide_eq_false hn
    exact ⟨_, rfl, fun _ => by omega⟩
  · exact ⟨-1, rfl, fun h => by simp at h⟩

theorem z_laws_szBuild (b : Bd) (left : Int) (h0 : 0 ≤ left) (h1 : left ≤ 1048576) (hl : BdB b maxLen) :
    ∃ r : Int, F_laws_szBuild b left = some ((r, ()), (), ()) ∧ (decide (r < 0) = false → 0 ≤ r ∧ r ≤ 1048576 ∧ BdB b 1048576) := by
  have no : ∃ r : Int, some ((((-1 : Int), ()), (), ()) : (Int × Unit) × Unit × Unit) = some ((r, ()), (), ()) ∧ (decide (r < 0) = false → 0 ≤ r ∧ r ≤ 1048576 ∧ BdB b 1048576) := ⟨-1, rfl, fun h => by simp at h⟩
  obtain ⟨r1, e1, g1⟩ := z_laws_szPortS b.2.1 left h0 h1 hl.a
  simp only [F_laws_szBuild, e1, Option.bind_some]
  cases q1 : decide (r1 < 0)
  case true => exact no
  obtain ⟨a1, a2, a3⟩ := g1 q1
  obtain ⟨r2, e2, g2⟩ := z_laws_szInt64S b.2.2.1 r1 a1 a2 hl.b
  simp only [cond_false, e2, Option.bind_some]
  cases q2 : decide (r2 < 0)
  case true => exact no
  obtain ⟨b1, b2, b3⟩ := g2 q2
  obtain ⟨r3, e3, g3⟩ := z_laws_szInt64S b.2.2.2.1 r2 b1 b2 hl.c
  simp only [cond_false, e3, Option.bind_some]
  cases q3 : decide (r3 < 0)
  case true => exact no
  obtain ⟨c1, c2, c3⟩ := g3 q3
  obtain ⟨r4, e4, g4⟩ := z_laws_szInt64S b.2.2.2.2.1 r3 c1 c2 hl.d
  simp only [cond_false, e4, Option.bind_some]
  cases q4 : decide (r4 < 0)
  case true => exact no
  obtain ⟨d1, d2, d3⟩ := g4 q4
  obtain ⟨r5, e5, g5⟩ := z_laws_szInt64S b.2.2.2.2.2.1 r4 d1 d2 hl.e
  simp only [cond_false, e5, Option.bind_some]
  cases q5 : decide (r5 < 0)
  case true => exact no
  obtain ⟨f1, f2, f3⟩ := g5 q5
  obtain ⟨r6, e6, g6⟩ := z_laws_szInt64S b.2.2.2.2.2.2.1 r5 f1 f2 hl.f
  simp only [cond_false, e6, Option.bind_some]
  cases q6 : decide (r6 < 0)
  case true => exact no
  obtain ⟨k1, k2, k3⟩ := g6 q6
  exact ⟨r6, rfl, fun _ => ⟨k1, k2, a3, b3, c3, d3, f3, k3⟩⟩

theorem p_laws_toPort (x : Pt) : F_laws_toPort x = some ((x, ()), (), ()) := rfl

theorem p_laws_toPortS (l : List Pt) (h : l.length ≤ 1048576) : F_laws_toPortS l = some ((), (), (l, ())) := by
  have hm : l.length ≤ maxLen := by simp only [maxLen]; omega
  have hl : l_laws_toPortS_l3 ((l, ((0 : Int), ())), (), ((List.replicate l.length (K.zero (.pr (.int .i64) .bool))), ())) = some ((), (), (l, ())) :=
    lim_copy (step := s_laws_toPortS_l3) l (fun i acc => ((l, ((i : Int), ())), (), (acc, ()))) (fun acc => ((), (), (acc, ()))) (K.zero (.pr (.int .i64) .bool))
      (fun i acc d hn hg => by
        have hlt := lt_of_get hg
        simp only [s_laws_toPortS_l3, dec_lt hlt, cond_true, ib_nat hlt, Int.toNat_natCast, getD_of hg, wrap_succ hlt hm, p_laws_toPort, Option.bind_some]
        rw [ib_nat (show i < acc.length by omega)]
        rfl)
      (fun acc => by simp only [s_laws_toPortS_l3, dec_self, cond_false])
  have hroom : room l.length 16 = true := by simp [room]; omega
  simp only [F_laws_toPortS, Int.toNat_natCast, hroom, cond_true]
  rw [show decide (0 ≤ (l.length : Int) ∧ (l.length : Int) ≤ (l.length : Int)) = true by simp]
  simp only [cond_true]
  rw [hl]
  rfl

theorem p_laws_toBuild (b : Bd) (h : BdB b 1048576) : F_laws_toBuild b = some (((b.1, (b.2.2.2.2.2.2.2.1, (b.2.2.2.2.2.2.2.2, ()))), ()), (), (b.2.1, (b.2.2.1, (b.2.2.2.1, (b.2.2.2.2.1, (b.2.2.2.2.2.1, (b.2.2.2.2.2.2.1, ()))))))) := by
  simp only [F_laws_toBuild, p_laws_toPortS _ h.a, p_laws_toInt64S _ h.b, p_laws_toInt64S _ h.c, p_laws_toInt64S _ h.d, p_laws_toInt64S _ h.e, p_laws_toInt64S _ h.f, Option.bind_some]

theorem p_laws_eqPort (x : Pt) : F_laws_eqPort x x = some ((true, ()), (), ()) := by
  simp only [F_laws_eqPort, bne_self_eq_false, cond_false, beq_self_eq_true, Bool.not_true]

theorem p_laws_eqPortS (l : List Pt) (hm : l.length ≤ maxLen) : F_laws_eqPortS l l = some ((true, ()), (), ()) := by
  have h4 : l_laws_eqPortS_l4 ((l, (l, ((0 : Int), ()))), (), ()) = _ :=
    lim_any (step := s_laws_eqPortS_l4) l (fun i => ((l, (l, ((i : Int), ()))), (), ())) (fun _ => false) (.inl ((), (), ())) (.inl ((), (), ()))
      (fun i d hg => by
        have hlt := lt_of_get hg
        simp only [s_laws_eqPortS_l4, dec_lt hlt, cond_true, ib_nat hlt, Int.toNat_natCast, getD_of hg, wrap_succ hlt hm, p_laws_eqPort, Option.bind_some, Bool.not_true, cond_false])
      (by simp only [s_laws_eqPortS_l4, dec_self, cond_false])
  rw [any_no] at h4
  simp only [F_laws_eqPortS, bne_self_eq_false, cond_false, h4, Option.bind_some]

theorem p_laws_eqBuild (b : Bd) (h : BdB b maxLen) : F_laws_eqBuild b b = some ((true, ()), (), ()) := by
  simp only [F_laws_eqBuild, bne_self_eq_false, cond_false, p_laws_eqPortS _ h.a, p_laws_eqInt64S _ h.b, p_laws_eqInt64S _ h.c, p_laws_eqInt64S _ h.d, p_laws_eqInt64S _ h.e, p_laws_eqInt64S _ h.f, Option.bind_some, Bool.not_true]

theorem p_spec_l12Same (x y : Li) (hm : x.length ≤ maxLen) : F_spec_l12Same x y = some ((x == y, ()), (), ()) := by
  by_cases hn : x.length = y.length
  · have h4 : l_spec_l12Same_l4 ((x, (y, ((0 : Int), ()))), (), ()) = _ :=
      lim_same (step := s_spec_l12Same_l4) x y hn (fun i => ((x, (y, ((i : Int), ()))), (), ())) (.inr ((false, ()), (), ())) (.inl ((), (), ()))
        (fun i a b ha hb => by
          have hlt := lt_of_get ha
          simp only [s_spec_l12Same_l4, dec_lt hlt, cond_true, ib_nat hlt, ib_nat (lt_of_get hb), Int.toNat_natCast, getD_of ha, getD_of hb, wrap_succ hlt hm]
          cases (a != b) <;> rfl)
        (by simp only [s_spec_l12Same_l4, dec_self, cond_false])
    simp only [F_spec_l12Same, hn, bne_self_eq_false, cond_false, h4, Option.bind_some]
    cases (x == y) <;> rfl
  · have hb : (((x.length : Int)) != (y.length : Int)) = true := by simp; omega
    simp only [F_spec_l12Same, hb, cond_true, len_ne hn]

theorem p_slices_Equal_int64 (x y : Li) (hm : x.length ≤ maxLen) : F_slices_Equal_int64 x y = some ((x == y, ()), (), ()) := by
  by_cases hn : x.length = y.length
  · have h4 : l_slices_Equal_int64_l4 ((x, (y, ((x.length : Int), ((0 : Int), ())))), (), ()) = _ :=
      lim_same (step := s_slices_Equal_int64_l4) x y hn (fun i => ((x, (y, ((x.length : Int), ((i : Int), ())))), (), ())) (.inr ((false, ()), (), ())) (.inl ((), (), ()))
        (fun i a b ha hb => by
          have hlt := lt_of_get ha
          simp only [s_slices_Equal_int64_l4, dec_lt hlt, cond_true, ib_nat hlt, ib_nat (lt_of_get hb), Int.toNat_natCast, getD_of ha, getD_of hb, wrap_succ hlt hm]
          cases (a != b) <;> rfl)
        (by simp only [s_slices_Equal_int64_l4, dec_self, cond_false])
    have hb : (((x.length : Int)) != (y.length : Int)) = false := by rw [hn]; simp
    simp only [F_slices_Equal_int64, hb, cond_false, h4, Option.bind_some]
    cases (x == y) <;> rfl
  · have hb : (((x.length : Int)) != (y.length : Int)) = true := by simp; omega
    simp only [F_slices_Equal_int64, hb, cond_true, len_ne hn]

theorem p_spec_l12Cell (b : Bd) (x : Int) : F_spec_l12Cell b x = some ((cellOk b.1 x, ()), (), ()) := by
  simp only [F_spec_l12Cell, p_spec_l1In, Option.bind_some, cellOk]

theorem p_spec_l1Crc (c b : Nat) (hc : c < 65536) (hb : b < 256) : F_spec_l1Crc (c : Int) (b : Int) = some ((((crcB c b : Nat) : Int), ()), (), ()) := by
  have hs : IntKind.wrap .i64 ((b : Int) * 2 ^ min (Int.toNat (8 : Int)) (IntKind.bits .i64)) = ((b * 256 : Nat) : Int) := by
    rw [show (2 : Int) ^ min (Int.toNat (8 : Int)) (IntKind.bits .i64) = 256 by decide]
    rw [wrap_id (by omega) (by omega)]; omega
  have hl : ∀ s : Nat, s < 65536 → l_spec_l1Crc_l3 (((s : Int), ((0 : Int), ())), (), ()) = some ((((Nat.repeat crc1 8 s : Nat) : Int), ()), (), ()) := fun s hs =>
    lim_count (step := s_spec_l1Crc_l3) 8 (fun (i : Nat) (s : Nat) => (((s : Int), ((i : Int), ())), (), ())) crc1 (fun (s : Nat) => (((s : Int), ()), (), ())) (fun (s : Nat) => s < 65536)
      (fun i s hi hs => by
        have w1 : IntKind.wrap .i64 ((s : Int) * 2) = ((2 * s : Nat) : Int) := by rw [wrap_id (by omega) (by omega)]; omega
        have w2 : IntKind.wrap .i64 ((i : Int) + 1) = ((i + 1 : Nat) : Int) := by rw [wrap_id (by omega) (by omega)]; omega
        have w3 : Int.tmod ((2 * s : Nat) : Int) 65536 = ((2 * s % 65536 : Nat) : Int) := by rw [Int.tmod_eq_emod_of_nonneg (by omega)]; omega
        simp only [s_spec_l1Crc_l3, w1, w2, w3, crc1]
        rw [show decide ((i : Int) < 8) = true by simp; omega]
        rw [show (4129 : Int) = ((4129 : Nat) : Int) from rfl, xorN (Nat.mod_lt _ (by decide)) (by decide)]
        cases decide ((s : Int) ≥ 32768) <;> rfl)
      (fun s _ => crc1_lt s) (fun s _ => by simp only [s_spec_l1Crc_l3]; rfl) 8 0 s rfl hs
  have hx : c ^^^ b * 256 < 65536 := Nat.xor_lt_two_pow (n := 16) hc (by omega)
  simp only [F_spec_l1Crc, hs]
  rw [xorN hc (by omega), hl _ hx]
  rfl

theorem p_spec_l1Sum (l : Li) (hw : allW l) (hm : l.length ≤ maxLen) : F_spec_l1Sum l = some ((((sumW l : Nat) : Int), ()), (), ()) := by
  have hl : l_spec_l1Sum_l3 ((l, (((65535 : Nat) : Int), ((0 : Int), ()))), (), ()) = some ((((sumW l : Nat) : Int), ()), (), ()) :=
    lim_foldl (step := s_spec_l1Sum_l3) l (fun (i : Nat) (s : Nat) => ((l, ((s : Int), ((i : Int), ()))), (), ())) crcW (fun (s : Nat) => (((s : Int), ()), (), ())) (fun (s : Nat) => s < 65536)
      (fun i s d hs hg => by
        have hlt := lt_of_get hg
        obtain ⟨a, ha, rfl⟩ := isW_nat (hw d (List.mem_of_getElem? hg))
        have w1 : IntKind.wrap .i64 (Int.tdiv (a : Int) 256) = ((a / 256 : Nat) : Int) := by rw [Int.tdiv_eq_ediv_of_nonneg (by omega), wrap_id (by omega) (by omega)]; omega
        have w2 : Int.tmod (a : Int) 256 = ((a % 256 : Nat) : Int) := by rw [Int.tmod_eq_emod_of_nonneg (by omega)]; omega
        refine ⟨?_, crcB_lt _ _⟩
        simp only [s_spec_l1Sum_l3, dec_lt hlt, cond_true, ib_nat hlt, Int.toNat_natCast, getD_of hg, wrap_succ hlt hm, w1, w2, p_spec_l1Crc s (a / 256) hs (by omega), p_spec_l1Crc (crcB s (a / 256)) (a % 256) (crcB_lt _ _) (by omega), Option.bind_some, crcW])
      (fun s _ => by simp only [s_spec_l1Sum_l3, dec_self, cond_false]) 65535 (by decide)
  have hl' : l_spec_l1Sum_l3 ((l, ((65535 : Int), ((0 : Int), ()))), (), ()) = _ := hl
  simp only [F_spec_l1Sum, hl', Option.bind_some]

theorem p_spec_l1Min (x y : Int) : F_spec_l1Min x y = some ((min x y, ()), (), ()) := by
  unfold F_spec_l1Min
  cases h : decide (x < y)
  · have := of_decide_eq_false h
    rw [show min x y = y by omega]; rfl
  · have := of_decide_eq_true h
    rw [show min x y = x by omega]; rfl

theorem p_spec_l1Blocks (l : Li) (hw : allW l) (h4 : l.length ≤ 400) : F_spec_l1Blocks l = some ((), (), (sums l, ())) := by
  have hm : ∀ j, (blk l j).length ≤ maxLen := fun j => by simp only [blk, maxLen, List.length_drop, List.length_take]; omega
  have hl : l_spec_l1Blocks_l3 ((l, (((0 * 8 : Nat) : Int), ())), (), ([], ())) = some ((), (), (sums l, ())) :=
    lim_app (step := s_spec_l1Blocks_l3) (List.range (nblk l)) (fun j => ((sumW (blk l j) : Nat) : Int)) (fun i acc => ((l, (((i * 8 : Nat) : Int), ())), (), (acc, ()))) ((), (), (sums l, ()))
      (fun i acc d hn hi hg => by
        obtain ⟨rfl, hlt⟩ := range_get hg
        have hk : d * 8 < l.length := by unfold nblk at hlt; omega
        have w1 : IntKind.wrap .i64 (((d * 8 : Nat) : Int) + 8) = ((d * 8 + 8 : Nat) : Int) := by rw [wrap_id (by omega) (by omega)]; omega
        have w2 : min (l.length : Int) ((d * 8 + 8 : Nat) : Int) = ((min (d * 8 + 8) l.length : Nat) : Int) := by omega
        simp only [s_spec_l1Blocks_l3, w1, p_spec_l1Min, w2, Option.bind_some, Int.toNat_natCast]
        rw [show decide (((d * 8 : Nat) : Int) < (l.length : Int)) = true from decide_eq_true (by omega)]
        rw [show decide ((0 : Int) ≤ ((d * 8 : Nat) : Int) ∧ ((d * 8 : Nat) : Int) ≤ ((min (d * 8 + 8) l.length : Nat) : Int) ∧ ((min (d * 8 + 8) l.length : Nat) : Int) ≤ (l.length : Int)) = true from decide_eq_true (by omega)]
        have hs := p_spec_l1Sum (blk l d) (allW_blk hw d) (hm d)
        simp only [blk] at hs
        rw [hs]
        simp only [cond_true, Option.bind_some]
        rw [room8n _ (by simp; omega)]
        rw [show (d + 1) * 8 = d * 8 + 8 by omega]
        rfl)
      (by
        have hk : ¬ (((nblk l * 8 : Nat) : Int) < (l.length : Int)) := by unfold nblk; omega
        simp only [s_spec_l1Blocks_l3, List.length_range, decide_eq_false hk, cond_false]; rfl)
  have hl' : l_spec_l1Blocks_l3 ((l, ((0 : Int), ())), (), ([], ())) = _ := hl
  simp only [F_spec_l1Blocks, hl', Option.bind_some]

theorem p_spec_l12Fault (b : Bd) (h : BdB b maxLen) : F_spec_l12Fault b = some ((bdFault b, ()), (), ()) := by
  have h6 : l_spec_l12Fault_l6 ((b, ((0 : Int), ())), (), ()) = _ :=
    lim_any (step := s_spec_l12Fault_l6) b.2.1 (fun i => ((b, ((i : Int), ())), (), ())) (fun p => !cellOk b.1 p.1) (.inr (((3 : Int), ()), (), ())) (.inl ((b, ()), (), ()))
      (fun i d hg => by
        have hlt := lt_of_get hg
        simp only [s_spec_l12Fault_l6, dec_lt hlt, cond_true, ib_nat hlt, Int.toNat_natCast, getD_of hg, wrap_succ hlt h.a, p_spec_l12Cell, Option.bind_some]
        cases cellOk b.1 d.1 <;> rfl)
      (by simp only [s_spec_l12Fault_l6, dec_self, cond_false])
  have h11 : l_spec_l12Fault_l11 ((b, ((0 : Int), ())), (), ()) = _ :=
    lim_any (step := s_spec_l12Fault_l11) b.2.2.1 (fun i => ((b, ((i : Int), ())), (), ())) (fun x => !cellOk b.1 x) (.inr (((3 : Int), ()), (), ())) (.inl ((b, ()), (), ()))
      (fun i d hg => by
        have hlt := lt_of_get hg
        simp only [s_spec_l12Fault_l11, dec_lt hlt, cond_true, ib_nat hlt, Int.toNat_natCast, getD_of hg, wrap_succ hlt h.b, p_spec_l12Cell, Option.bind_some]
        cases cellOk b.1 d <;> rfl)
      (by simp only [s_spec_l12Fault_l11, dec_self, cond_false])
  simp only [F_spec_l12Fault, p_spec_l1In, Option.bind_some, bdFault, h6]
  simp only [show ∀ x a b : Int, (decide (a ≤ x) && decide (x ≤ b)) = inI x a b from fun _ _ _ => rfl]
  cases inI b.1 0 80
  · rfl
  cases inI b.2.2.2.2.2.2.2.1 0 20000
  · rfl
  cases inI b.2.2.2.2.2.2.2.2 0 20000
  · rfl
  simp only [Bool.not_true, Bool.or_self, cond_false, Option.bind_some]
  cases decide ((b.2.1.length : Int) > 24)
  case true => rfl
  cases decide ((b.2.2.1.length : Int) > 60)
  case true => rfl
  simp only [Bool.or_self, cond_false, Option.bind_some]
  cases b.2.1.any (fun p => !cellOk b.1 p.1)
  case true => rfl
  simp only [cond_false, h11, Option.bind_some]
  cases b.2.2.1.any (fun x => !cellOk b.1 x)
  case true => rfl
  simp only [cond_false, p_spec_WordsFault _ h.c, p_spec_WordsFault _ h.d, Option.bind_some]
  cases hc : (wf b.2.2.2.1 != 0)
  case true => rfl
  cases hd : (wf b.2.2.2.2.1 != 0)
  case true => rfl
  obtain ⟨c1, c2⟩ := wf_allW hc
  obtain ⟨d1, d2⟩ := wf_allW hd
  simp only [cond_false, p_spec_l1Blocks _ c1 c2, p_spec_l1Blocks _ d1 d2, p_spec_l12Same _ _ h.e, p_spec_l12Same _ _ h.f, Option.bind_some]
  cases (b.2.2.2.2.2.1 == sums b.2.2.2.1)
  · rfl
  cases (b.2.2.2.2.2.2.1 == sums b.2.2.2.2.1) <;> rfl

theorem p_impl_BuildFault_f1 (x n : Int) (a : List Pt) (b c d e f : Li) (g i : Int) : F_impl_BuildFault_f1 x n a b c d e f g i = some ((cellOk n x, ()), ((n, (a, (b, (c, (d, (e, (f, (g, (i, ()))))))))), ()), ()) := by
  simp only [F_impl_BuildFault_f1, p_impl_within, Option.bind_some, cellOk]

theorem p_impl_BuildFault_f2 (x : Pt) (n : Int) (a : List Pt) (b c d e f : Li) (g i : Int) : F_impl_BuildFault_f2 x n a b c d e f g i = some ((!cellOk n x.1, ()), ((), ((n, (a, (b, (c, (d, (e, (f, (g, (i, ()))))))))), ())), ()) := by
  simp only [F_impl_BuildFault_f2, p_impl_BuildFault_f1, Option.bind_some]

theorem p_slices_IndexFunc_Port (l : List Pt) (hm : l.length ≤ maxLen) (n : Int) (a : List Pt) (b c d e f : Li) (g i : Int) :
    ∃ r : Int, decide (r ≥ 0) = l.any (fun p => !cellOk n p.1) ∧ F_slices_IndexFunc_Port l n a b c d e f g i = some ((r, ()), ((), ((n, (a, (b, (c, (d, (e, (f, (g, (i, ()))))))))), ())), ()) := by
  have hl := lim_idx (step := s_slices_IndexFunc_Port_l2) l (fun j => ((l, ((l.length : Int), ((j : Int), ()))), ((), ((n, (a, (b, (c, (d, (e, (f, (g, (i, ()))))))))), ())), ())) (fun p => !cellOk n p.1)
    (fun j => .inr (((j : Int), ()), ((), ((n, (a, (b, (c, (d, (e, (f, (g, (i, ()))))))))), ())), ())) (.inl ((), ((), ((n, (a, (b, (c, (d, (e, (f, (g, (i, ()))))))))), ())), ()))
    (fun j d hg => by
      have hlt := lt_of_get hg
      simp only [s_slices_IndexFunc_Port_l2, dec_lt hlt, cond_true, ib_nat hlt, Int.toNat_natCast, getD_of hg, wrap_succ hlt hm, p_impl_BuildFault_f2, Option.bind_some]
      cases cellOk n d.1 <;> rfl)
    (by simp only [s_slices_IndexFunc_Port_l2, dec_self, cond_false])
  rcases hl with ⟨j, h1, h2⟩ | ⟨h1, h2⟩
  · have h2' : l_slices_IndexFunc_Port_l2 ((l, ((l.length : Int), ((0 : Int), ()))), ((), ((n, (a, (b, (c, (d, (e, (f, (g, (i, ()))))))))), ())), ()) = _ := h2
    exact ⟨j, by rw [h1]; simp, by simp only [F_slices_IndexFunc_Port, h2', Option.bind_some]⟩
  · have h2' : l_slices_IndexFunc_Port_l2 ((l, ((l.length : Int), ((0 : Int), ()))), ((), ((n, (a, (b, (c, (d, (e, (f, (g, (i, ()))))))))), ())), ()) = _ := h2
    exact ⟨-1, by rw [h1]; simp, by simp only [F_slices_IndexFunc_Port, h2', Option.bind_some]⟩

theorem p_slices_ContainsFunc_Port (l : List Pt) (hm : l.length ≤ maxLen) (n : Int) (a : List Pt) (b c d e f : Li) (g i : Int) :
    F_slices_ContainsFunc_Port l n a b c d e f g i = some ((l.any (fun p => !cellOk n p.1), ()), ((), ((n, (a, (b, (c, (d, (e, (f, (g, (i, ()))))))))), ())), ()) := by
  obtain ⟨r, h1, h2⟩ := p_slices_IndexFunc_Port l hm n a b c d e f g i
  simp only [F_slices_ContainsFunc_Port, h2, Option.bind_some, h1]

theorem p_impl_BuildFault_f3 (x : Int) (n : Int) (a : List Pt) (b c d e f : Li) (g i : Int) : F_impl_BuildFault_f3 x n a b c d e f g i = some ((!cellOk n x, ()), ((), ((n, (a, (b, (c, (d, (e, (f, (g, (i, ()))))))))), ())), ()) := by
  simp only [F_impl_BuildFault_f3, p_impl_BuildFault_f1, Option.bind_some]

theorem p_slices_IndexFunc_int64 (l : Li) (hm : l.length ≤ maxLen) (n : Int) (a : List Pt) (b c d e f : Li) (g i : Int) :
    ∃ r : Int, decide (r ≥ 0) = l.any (fun x => !cellOk n x) ∧ F_slices_IndexFunc_int64 l n a b c d e f g i = some ((r, ()), ((), ((n, (a, (b, (c, (d, (e, (f, (g, (i, ()))))))))), ())), ()) := by
  have hl := lim_idx (step := s_slices_IndexFunc_int64_l2) l (fun j => ((l, ((l.length : Int), ((j : Int), ()))), ((), ((n, (a, (b, (c, (d, (e, (f, (g, (i, ()))))))))), ())), ())) (fun x => !cellOk n x)
    (fun j => .inr (((j : Int), ()), ((), ((n, (a, (b, (c, (d, (e, (f, (g, (i, ()))))))))), ())), ())) (.inl ((), ((), ((n, (a, (b, (c, (d, (e, (f, (g, (i, ()))))))))), ())), ()))
    (fun j d hg => by
      have hlt := lt_of_get hg
      simp only [s_slices_IndexFunc_int64_l2, dec_lt hlt, cond_true, ib_nat hlt, Int.toNat_natCast, getD_of hg, wrap_succ hlt hm, p_impl_BuildFault_f3, Option.bind_some]
      cases cellOk n d <;> rfl)
    (by simp only [s_slices_IndexFunc_int64_l2, dec_self, cond_false])
  rcases hl with ⟨j, h1, h2⟩ | ⟨h1, h2⟩
  · have h2' : l_slices_IndexFunc_int64_l2 ((l, ((l.length : Int), ((0 : Int), ()))), ((), ((n, (a, (b, (c, (d, (e, (f, (g, (i, ()))))))))), ())), ()) = _ := h2
    exact ⟨j, by rw [h1]; simp, by simp only [F_slices_IndexFunc_int64, h2', Option.bind_some]⟩
  · have h2' : l_slices_IndexFunc_int64_l2 ((l, ((l.length : Int), ((0 : Int), ()))), ((), ((n, (a, (b, (c, (d, (e, (f, (g, (i, ()))))))))), ())), ()) = _ := h2
    exact ⟨-1, by rw [h1]; simp, by simp only [F_slices_IndexFunc_int64, h2', Option.bind_some]⟩

theorem p_slices_ContainsFunc_int64 (l : Li) (hm : l.length ≤ maxLen) (n : Int) (a : List Pt) (b c d e f : Li) (g i : Int) :
    F_slices_ContainsFunc_int64 l n a b c d e f g i = some ((l.any (fun x => !cellOk n x), ()), ((), ((n, (a, (b, (c, (d, (e, (f, (g, (i, ()))))))))), ())), ()) := by
  obtain ⟨r, h1, h2⟩ := p_slices_IndexFunc_int64 l hm n a b c d e f g i
  simp only [F_slices_ContainsFunc_int64, h2, Option.bind_some, h1]

theorem p_impl_crcByte (c b : Nat) (hc : c < 65536) (hb : b < 256) : F_impl_crcByte (c : Int) (b : Int) = some ((((crcB c b : Nat) : Int), ()), (), ()) := by
  have hs : IntKind.wrap .i64 ((256 : Int) * (b : Int)) = ((b * 256 : Nat) : Int) := by
    rw [wrap_id (by omega) (by omega)]; omega
  have hl : ∀ s : Nat, s < 65536 → l_impl_crcByte_l3 (((s : Int), ((0 : Int), ())), (), ()) = some ((((Nat.repeat crc1 8 s : Nat) : Int), ()), (), ()) := fun s hs =>
    lim_count (step := s_impl_crcByte_l3) 8 (fun (i : Nat) (s : Nat) => (((s : Int), ((i : Int), ())), (), ())) crc1 (fun (s : Nat) => (((s : Int), ()), (), ())) (fun (s : Nat) => s < 65536)
      (fun i s hi hs => by
        have w1 : IntKind.wrap .i64 ((2 : Int) * (s : Int)) = ((2 * s : Nat) : Int) := by rw [wrap_id (by omega) (by omega)]; omega
        have w2 : IntKind.wrap .i64 ((i : Int) + 1) = ((i + 1 : Nat) : Int) := by rw [wrap_id (by omega) (by omega)]; omega
        have w3 : IntKind.wrap .i64 (IntKind.wrap .u16 ((2 * s : Nat) : Int)) = ((2 * s % 65536 : Nat) : Int) := by rw [wrap_u16, wrap_id (by omega) (by omega)]; omega
        simp only [s_impl_crcByte_l3, w1, w2, u16_eq, w3, crc1]
        rw [show decide ((i : Int) < 8) = true by simp; omega]
        rw [show (32768 : Int) = ((32768 : Nat) : Int) from rfl, andN hs (by decide), and15 hs]
        rw [show (4129 : Int) = ((4129 : Nat) : Int) from rfl, xorN (Nat.mod_lt _ (by decide)) (by decide)]
        rw [show ((32768 : Nat) : Int) = (32768 : Int) from rfl]
        cases decide ((s : Int) ≥ 32768) <;> rfl)
      (fun s _ => crc1_lt s) (fun s _ => by simp only [s_impl_crcByte_l3]; rfl) 8 0 s rfl hs
  have hx : c ^^^ b * 256 < 65536 := Nat.xor_lt_two_pow (n := 16) hc (by omega)
  simp only [F_impl_crcByte, hs]
  rw [xorN hc (by omega), hl _ hx]
  rfl

theorem p_impl_crc (l : Li) (hw : allW l) (hm : l.length ≤ maxLen) : F_impl_crc l = some ((((sumW l : Nat) : Int), ()), (), ()) := by
  have hl : l_impl_crc_l3 ((((65535 : Nat) : Int), (l, ((l.length : Int), ((0 : Int), ())))), (), ()) = some ((((sumW l : Nat) : Int), ()), (), ()) :=
    lim_foldl (step := s_impl_crc_l3) l (fun (i : Nat) (s : Nat) => (((s : Int), (l, ((l.length : Int), ((i : Int), ())))), (), ())) crcW (fun (s : Nat) => (((s : Int), ()), (), ())) (fun (s : Nat) => s < 65536)
      (fun i s d hs hg => by
        have hlt := lt_of_get hg
        obtain ⟨a, ha, rfl⟩ := isW_nat (hw d (List.mem_of_getElem? hg))
        have w1 : Int.fdiv (a : Int) (2 ^ min (Int.toNat (8 : Int)) (IntKind.bits .i64)) = ((a / 256 : Nat) : Int) := by
          rw [show (2 : Int) ^ min (Int.toNat (8 : Int)) (IntKind.bits .i64) = 256 by decide, Int.fdiv_eq_ediv_of_nonneg _ (by decide)]; omega
        have w2 : IntKind.wrap .i64 (((BitVec.ofInt (IntKind.bits .i64) (a : Int) &&& BitVec.ofInt (IntKind.bits .i64) (255 : Int)).toNat : Int)) = ((a % 256 : Nat) : Int) := by
          rw [show (255 : Int) = ((255 : Nat) : Int) from rfl, andN ha (by decide), show (255 : Nat) = 2 ^ 8 - 1 from rfl, Nat.and_two_pow_sub_one_eq_mod]
        refine ⟨?_, crcB_lt _ _⟩
        simp only [s_impl_crc_l3, dec_lt hlt, cond_true, ib_nat hlt, Int.toNat_natCast, getD_of hg, wrap_succ hlt hm, w1, w2, p_impl_crcByte s (a / 256) hs (by omega), p_impl_crcByte (crcB s (a / 256)) (a % 256) (crcB_lt _ _) (by omega), Option.bind_some, crcW])
      (fun s _ => by simp only [s_impl_crc_l3, dec_self, cond_false]) 65535 (by decide)
  have hl' : l_impl_crc_l3 (((65535 : Int), (l, ((l.length : Int), ((0 : Int), ())))), (), ()) = _ := hl
  simp only [F_impl_crc, hl', Option.bind_some]

theorem p_impl_blocks (l : Li) (h4 : l.length ≤ 400) : F_impl_blocks l = some ((), (), ((List.range (nblk l)).map (blk l), ())) := by
  have hl : l_impl_blocks_l3 ((l, (((0 * 8 : Nat) : Int), ())), (), ([], ())) = some ((), (), ((List.range (nblk l)).map (blk l), ())) :=
    lim_app (step := s_impl_blocks_l3) (List.range (nblk l)) (blk l) (fun i acc => ((l, (((i * 8 : Nat) : Int), ())), (), (acc, ()))) ((), (), ((List.range (nblk l)).map (blk l), ()))
      (fun i acc d hn hi hg => by
        obtain ⟨rfl, hlt⟩ := range_get hg
        have hk : d * 8 < l.length := by unfold nblk at hlt; omega
        have w1 : IntKind.wrap .i64 (((d * 8 : Nat) : Int) + 8) = ((d * 8 + 8 : Nat) : Int) := by rw [wrap_id (by omega) (by omega)]; omega
        have w2 : mn ((d * 8 + 8 : Nat) : Int) (l.length : Int) = ((min (d * 8 + 8) l.length : Nat) : Int) := by unfold mn; split <;> omega
        simp only [s_impl_blocks_l3, w1, w2, Int.toNat_natCast]
        rw [show decide (((d * 8 : Nat) : Int) < (l.length : Int)) = true from decide_eq_true (by omega)]
        rw [show decide ((0 : Int) ≤ ((d * 8 : Nat) : Int) ∧ ((d * 8 : Nat) : Int) ≤ ((min (d * 8 + 8) l.length : Nat) : Int) ∧ ((min (d * 8 + 8) l.length : Nat) : Int) ≤ (l.length : Int)) = true from decide_eq_true (by omega)]
        simp only [cond_true]
        rw [room24n _ (by simp; omega)]
        rw [show d * 8 + 8 = (d + 1) * 8 by omega]
        simp only [cond_true, blk]
        rw [show d * 8 + 8 = (d + 1) * 8 by omega])
      (by
        have hk : ¬ (((nblk l * 8 : Nat) : Int) < (l.length : Int)) := by unfold nblk; omega
        simp only [s_impl_blocks_l3, List.length_range, decide_eq_false hk, cond_false])
  have hl' : l_impl_blocks_l3 ((l, ((0 : Int), ())), (), ([], ())) = _ := hl
  simp only [F_impl_blocks, hl', Option.bind_some]

theorem p_impl_blockSums (l : Li) (hw : allW l) (h4 : l.length ≤ 400) : F_impl_blockSums l = some ((), (), (sums l, ())) := by
  have hn : ((List.range (nblk l)).map (blk l)).length ≤ 400 := by simp only [List.length_map, List.length_range, nblk]; omega
  have hm : ((List.range (nblk l)).map (blk l)).length ≤ maxLen := by simp only [maxLen]; omega
  generalize hq : (List.range (nblk l)).map (blk l) = q at hn hm
  have hs : sums l = q.map fun b => ((sumW b : Nat) : Int) := by rw [← hq, List.map_map]; rfl
  have hl : l_impl_blockSums_l3 ((((q.length : Nat) : Int), ((0 : Int), ())), (), ([], (q, ()))) = some ((), (), (sums l, ())) := by
    rw [hs]
    exact lim_app (step := s_impl_blockSums_l3) q (fun b => ((sumW b : Nat) : Int)) (fun i acc => ((((q.length : Nat) : Int), ((i : Int), ())), (), (acc, (q, ())))) ((), (), (q.map fun b => ((sumW b : Nat) : Int), ()))
      (fun i acc d hn hi hg => by
        have hlt := lt_of_get hg
        have hd : ∃ j, blk l j = d := by
          have := List.mem_of_getElem? hg
          rw [← hq, List.mem_map] at this
          obtain ⟨j, _, h⟩ := this
          exact ⟨j, h⟩
        obtain ⟨j, hj⟩ := hd
        have hdw : allW d := hj ▸ allW_blk hw j
        have hdl : d.length ≤ maxLen := by rw [← hj]; simp only [blk, maxLen, List.length_drop, List.length_take]; omega
        simp only [s_impl_blockSums_l3, dec_lt hlt, cond_true, ib_nat hlt, Int.toNat_natCast, getD_of hg, wrap_succ hlt hm, p_impl_crc d hdw hdl, Option.bind_some]
        rw [room8n _ (by simp; omega)]; rfl)
      (by simp only [s_impl_blockSums_l3, dec_self, cond_false])
  simp only [F_impl_blockSums, p_impl_blocks l h4, hq, hl, Option.bind_some]

theorem p_impl_BuildFault (b : Bd) (h : BdB b maxLen) : F_impl_BuildFault b = some ((bdFault b, ()), (), ()) := by
  have hl : l_impl_BuildFault_l9 (((([b.2.2.2.1, b.2.2.2.2.1]).length : Int), ((0 : Int), ())), ((b.1, (b.2.1, (b.2.2.1, (b.2.2.2.1, (b.2.2.2.2.1, (b.2.2.2.2.2.1, (b.2.2.2.2.2.2.1, (b.2.2.2.2.2.2.2.1, (b.2.2.2.2.2.2.2.2, ()))))))))), ()), ([b.2.2.2.1, b.2.2.2.2.1], ())) =
      some (bif wf b.2.2.2.1 != 0 then .inr ((wf b.2.2.2.1, ()), (), ()) else bif wf b.2.2.2.2.1 != 0 then .inr ((wf b.2.2.2.2.1, ()), (), ()) else .inl ((), ((b.1, (b.2.1, (b.2.2.1, (b.2.2.2.1, (b.2.2.2.2.1, (b.2.2.2.2.2.1, (b.2.2.2.2.2.2.1, (b.2.2.2.2.2.2.2.1, (b.2.2.2.2.2.2.2.2, ()))))))))), ()), ())) := by
    have w1 : IntKind.wrap .i64 ((0 : Int) + 1) = 1 := by decide
    have w2 : IntKind.wrap .i64 ((1 : Int) + 1) = 2 := by decide
    unfold l_impl_BuildFault_l9
    rw [lim_eq]
    simp only [s_impl_BuildFault_l9, List.length_cons, List.length_nil]
    rw [show decide ((0 : Int) < ((0 + 1 + 1 : Nat) : Int)) = true by decide, show ib (0 : Int) (0 + 1 + 1) = true by decide]
    simp only [cond_true, show (Int.toNat (0 : Int)) = 0 from rfl, List.getD_cons_zero, p_impl_WordsFault _ h.c, Option.bind_some, w1]
    cases (wf b.2.2.2.1 != 0)
    · simp only [cond_false]
      rw [lim_eq]
      simp only [s_impl_BuildFault_l9, List.length_cons, List.length_nil]
      rw [show decide ((1 : Int) < ((0 + 1 + 1 : Nat) : Int)) = true by decide, show ib (1 : Int) (0 + 1 + 1) = true by decide]
      simp only [cond_true, show (Int.toNat (1 : Int)) = 1 from rfl, List.getD_cons_succ, List.getD_cons_zero, p_impl_WordsFault _ h.d, Option.bind_some, w2]
      cases (wf b.2.2.2.2.1 != 0)
      · simp only [cond_false]
        rw [lim_eq]
        simp only [s_impl_BuildFault_l9]
        rw [show decide ((2 : Int) < ((0 + 1 + 1 : Nat) : Int)) = false by decide]
        rfl
      · rfl
    · rfl
  simp only [F_impl_BuildFault, p_impl_within, Option.bind_some, bdFault, p_slices_ContainsFunc_Port _ h.a, p_slices_ContainsFunc_int64 _ h.b, hl]
  simp only [show ∀ x a b : Int, (decide (a ≤ x) && decide (x ≤ b)) = inI x a b from fun _ _ _ => rfl]
  cases inI b.1 0 80
  · rfl
  cases inI b.2.2.2.2.2.2.2.1 0 20000
  · rfl
  cases inI b.2.2.2.2.2.2.2.2 0 20000
  · rfl
  simp only [Bool.not_true, Bool.or_self, cond_false, Option.bind_some]
  cases decide ((b.2.1.length : Int) > 24)
  case true => rfl
  cases decide ((b.2.2.1.length : Int) > 60)
  case true => rfl
  simp only [Bool.or_self, cond_false, Option.bind_some]
  cases b.2.1.any (fun p => !cellOk b.1 p.1)
  case true => rfl
  cases b.2.2.1.any (fun x => !cellOk b.1 x)
  case true => rfl
  cases hc : (wf b.2.2.2.1 != 0)
  case true => rfl
  cases hd : (wf b.2.2.2.2.1 != 0)
  case true => rfl
  obtain ⟨c1, c2⟩ := wf_allW hc
  obtain ⟨d1, d2⟩ := wf_allW hd
  simp only [cond_false, p_impl_blockSums _ c1 c2, p_impl_blockSums _ d1 d2, p_slices_Equal_int64 _ _ h.e, p_slices_Equal_int64 _ _ h.f, Option.bind_some]
  cases (b.2.2.2.2.2.1 == sums b.2.2.2.1)
  · rfl
  cases (b.2.2.2.2.2.2.1 == sums b.2.2.2.2.1) <;> rfl

def iotaP (n : Int) (k : Nat) : List Pt := (List.range k).map fun (i : Nat) => (n + 2 * (i : Int), (Int.tmod (n + 2 * (i : Int) + 1) 3 == 0))
theorem iotaP_get {n : Int} {k i : Nat} {d : Pt} (h : (iotaP n k)[i]? = some d) : d = (n + 2 * (i : Int), (Int.tmod (n + 2 * (i : Int) + 1) 3 == 0)) := by
  simp only [iotaP, List.getElem?_map] at h
  cases h' : (List.range k)[i]? with
  | none => rw [h'] at h; cases h
  | some j =>
    rw [h'] at h
    obtain ⟨rfl, _⟩ := range_get h'
    simp only [Option.map_some, Option.some.injEq] at h
    exact h.symm
theorem iotaP_len (n : Int) (k : Nat) : (iotaP n k).length = k := by simp [iotaP]
theorem getD_set {α : Type} (l : List α) (i : Nat) (v z : α) (h : i < l.length) : (l.set i v).getD i z = v := by
  rw [List.getD_eq_getElem?_getD, List.getElem?_set_self h]; rfl
def IsI (n : Int) (y : Li) (m : Int) : Prop := ∃ k : Nat, k ≤ 1048576 ∧ y = iota n k ∧ m = n + (k : Int)
def IsP (n : Int) (y : List Pt) (m : Int) : Prop := ∃ k : Nat, k ≤ 1048576 ∧ y = iotaP n k ∧ m = n + 2 * (k : Int)
def BdM (n : Int) (y0 : List Pt) (y1 y2 y3 y4 y5 : Li) (m : Int) : Prop := ∃ m1 m2 m3 m4 m5, IsP n y0 m1 ∧ IsI m1 y1 m2 ∧ IsI m2 y2 m3 ∧ IsI m3 y3 m4 ∧ IsI m4 y4 m5 ∧ IsI m5 y5 m
def ChM (n : Int) (y1 y2 y3 : Li) (m : Int) : Prop := ∃ m1 m2, IsI n y1 m1 ∧ IsI m1 y2 m2 ∧ IsI m2 y3 m
theorem IsI.le {n m : Int} {y : Li} (h : IsI n y m) : n ≤ m ∧ m ≤ n + 1048576 := by obtain ⟨k, h1, _, rfl⟩ := h; omega
theorem IsP.le {n m : Int} {y : List Pt} (h : IsP n y m) : n ≤ m ∧ m ≤ n + 2097152 := by obtain ⟨k, h1, _, rfl⟩ := h; omega
theorem BdM.le {n m : Int} {y0 : List Pt} {y1 y2 y3 y4 y5 : Li} (h : BdM n y0 y1 y2 y3 y4 y5 m) : n ≤ m ∧ m ≤ n + 8388608 := by
  obtain ⟨m1, m2, m3, m4, m5, a, b, c, d, e, f⟩ := h
  have := a.le; have := b.le; have := c.le; have := d.le; have := e.le; have := f.le
  omega
theorem ChM.le {n m : Int} {y1 y2 y3 : Li} (h : ChM n y1 y2 y3 m) : n ≤ m ∧ m ≤ n + 8388608 := by
  obtain ⟨m1, m2, a, b, c⟩ := h
  have := a.le; have := b.le; have := c.le
  omega
theorem m_int (n : Int) (l : Li) (h0 : 0 ≤ n) (h1 : n ≤ 1099511627776) (hl : l.length ≤ 1048576) : ∃ (m : Int) (y : Li), F_laws_markInt64S n l = some ((m, ()), (), (y, ())) ∧ IsI n y m :=
  ⟨_, _, p_laws_markInt64S n l h0 h1 hl, l.length, hl, rfl, rfl⟩

theorem m_laws_markPortS (n : Int) (l : List Pt) (h0 : 0 ≤ n) (h1 : n ≤ 1099511627776) (hl : l.length ≤ 1048576) :
    ∃ (m : Int) (y : List Pt), F_laws_markPortS n l = some ((m, ()), (), (y, ())) ∧ IsP n y m := by
  have hm : l.length ≤ maxLen := by simp only [maxLen]; omega
  have hk : l_laws_markPortS_l2 ((n, ((0 : Int), ())), (), (l, ())) = some ((n + 2 * (l.length : Int), ()), (), (iotaP n l.length, ())) := by
    have := lim_fill (step := s_laws_markPortS_l2) (fun i => (n + 2 * (i : Int), (Int.tmod (n + 2 * (i : Int) + 1) 3 == 0))) (fun i acc => ((n + 2 * (i : Int), ((i : Int), ())), (), (acc, ()))) (fun acc => ((n + 2 * (l.length : Int), ()), (), (acc, ()))) l
      (fun i acc hn hlt => by
        simp only [s_laws_markPortS_l2, hn, List.length_set, dec_lt hlt, cond_true, ib_nat hlt, Int.toNat_natCast, wrap_succ hlt hm, getD_set _ _ _ _ (show i < acc.length by omega), List.set_set]
        rw [wrap_id (x := n + 2 * (i : Int) + 1) (by omega) (by omega), wrap_id (x := n + 2 * (i : Int) + 1 + 1) (by omega) (by omega)]
        rw [show n + 2 * (i : Int) + 1 + 1 = n + 2 * ((i + 1 : Nat) : Int) by omega])
      (fun acc hn => by simp only [s_laws_markPortS_l2, hn, dec_self, cond_false])
    simp only [Int.natCast_zero, Int.mul_zero, Int.add_zero] at this
    exact this
  refine ⟨_, _, by simp only [F_laws_markPortS, hk, Option.bind_some], l.length, hl, rfl, rfl⟩

theorem m_laws_markBuild (a b c n : Int) (x0 : List Pt) (x1 x2 x3 x4 x5 : Li) (h0 : 0 ≤ n) (h1 : n ≤ 1073741824) (g0 : x0.length ≤ 1048576) (g1 : x1.length ≤ 1048576) (g2 : x2.length ≤ 1048576) (g3 : x3.length ≤ 1048576) (g4 : x4.length ≤ 1048576) (g5 : x5.length ≤ 1048576) :
    ∃ (m : Int) (y0 : List Pt) (y1 y2 y3 y4 y5 : Li), F_laws_markBuild a b c n x0 x1 x2 x3 x4 x5 = some ((m, ()), (), (y0, (y1, (y2, (y3, (y4, (y5, ()))))))) ∧ BdM n y0 y1 y2 y3 y4 y5 m := by
  obtain ⟨m1, y0, e0, i0⟩ := m_laws_markPortS n x0 h0 (by omega) g0
  have := i0.le
  obtain ⟨m2, y1, e1, i1⟩ := m_int m1 x1 (by omega) (by omega) g1
  have := i1.le
  obtain ⟨m3, y2, e2, i2⟩ := m_int m2 x2 (by omega) (by omega) g2
  have := i2.le
  obtain ⟨m4, y3, e3, i3⟩ := m_int m3 x3 (by omega) (by omega) g3
  have := i3.le
  obtain ⟨m5, y4, e4, i4⟩ := m_int m4 x4 (by omega) (by omega) g4
  have := i4.le
  obtain ⟨m6, y5, e5, i5⟩ := m_int m5 x5 (by omega) (by omega) g5
  exact ⟨m6, y0, y1, y2, y3, y4, y5, by simp only [F_laws_markBuild, e0, e1, e2, e3, e4, e5, Option.bind_some], m1, m2, m3, m4, m5, i0, i1, i2, i3, i4, i5⟩

theorem lim_app0 {A B α β : Type} {step : A → Option (A ⊕ B)} (l : List α) (f : α → β) (acc0 : List β) (mk : Nat → List β → A) (out : B)
    (h1 : ∀ i acc d, acc.length = acc0.length + i → l[i]? = some d → step (mk i acc) = some (.inl (mk (i + 1) (acc ++ [f d])))) (h2 : step (mk l.length (acc0 ++ l.map f)) = some (.inr out)) :
    lim step (mk 0 acc0) = some out := by
  have := lim_app (step := step) l f (fun i acc => mk i (acc0 ++ acc)) out
    (fun i acc d hn hi hg => by rw [h1 i (acc0 ++ acc) d (by simp [hi]) hg, List.append_assoc]) h2
  simpa using this
theorem roomBig (n : Nat) (h : n ≤ 1099511627776) : room n 8 = true := by simp [room]; omega
def pw (p : Pt) : Int := IntKind.wrap .i64 (p.1 + IntKind.wrap .i64 (100 * (bif p.2 then 1 else 0)))
def packA (b : Bd) : Li := (((((([21930, b.1, b.2.2.2.2.2.2.2.1, b.2.2.2.2.2.2.2.2, (b.2.1.length : Int), (b.2.2.1.length : Int), (b.2.2.2.1.length : Int), (b.2.2.2.2.1.length : Int)] : Li) ++ b.2.1.map pw) ++ b.2.2.1) ++ b.2.2.2.1) ++ b.2.2.2.2.1) ++ b.2.2.2.2.2.1) ++ b.2.2.2.2.2.2.1
def packL (b : Bd) : Li := packA b ++ [((sumW (packA b) : Nat) : Int)]
def packC (b : Bd) : Int × Li := bif bdFault b != 0 then (bdFault b, []) else bif decide (((packL b).length : Int) > 1200) then (2, []) else (0, packL b)
theorem sumW_lt (l : Li) : sumW l < 65536 := by
  unfold sumW
  have : ∀ (l : Li) (c : Nat), c < 65536 → l.foldl crcW c < 65536 := by
    intro l
    induction l with
    | nil => intro c h; exact h
    | cons a l ih => intro c h; exact ih _ (crcB_lt _ _)
  exact this l _ (by decide)
structure BdF (b : Bd) : Prop where
  n : 0 ≤ b.1 ∧ b.1 ≤ 80
  x : 0 ≤ b.2.2.2.2.2.2.2.1 ∧ b.2.2.2.2.2.2.2.1 ≤ 20000
  y : 0 ≤ b.2.2.2.2.2.2.2.2 ∧ b.2.2.2.2.2.2.2.2 ≤ 20000
  p : b.2.1.length ≤ 24
  o : b.2.2.1.length ≤ 60
  ps : ∀ q ∈ b.2.1, cellOk b.1 q.1 = true
  os : ∀ q ∈ b.2.2.1, cellOk b.1 q = true
  ca : allW b.2.2.2.1 ∧ b.2.2.2.1.length ≤ 400
  cb : allW b.2.2.2.2.1 ∧ b.2.2.2.2.1.length ≤ 400
  sa : b.2.2.2.2.2.1 = sums b.2.2.2.1
  sb : b.2.2.2.2.2.2.1 = sums b.2.2.2.2.1
theorem bd_facts {b : Bd} (h : (bdFault b != 0) = false) : BdF b := by
  unfold bdFault at h
  cases h1 : (!inI b.1 0 80 || !inI b.2.2.2.2.2.2.2.1 0 20000 || !inI b.2.2.2.2.2.2.2.2 0 20000)
  case true => rw [h1] at h; cases h
  rw [h1, cond_false] at h
  cases h2 : (decide ((b.2.1.length : Int) > 24) || decide ((b.2.2.1.length : Int) > 60))
  case true => rw [h2] at h; cases h
  rw [h2, cond_false] at h
  cases h3 : b.2.1.any (fun p => !cellOk b.1 p.1)
  case true => rw [h3] at h; cases h
  rw [h3, cond_false] at h
  cases h4 : b.2.2.1.any (fun x => !cellOk b.1 x)
  case true => rw [h4] at h; cases h
  rw [h4, cond_false] at h
  cases h5 : (wf b.2.2.2.1 != 0)
  case true => rw [h5, cond_true, h5] at h; cases h
  rw [h5, cond_false] at h
  cases h6 : (wf b.2.2.2.2.1 != 0)
  case true => rw [h6, cond_true, h6] at h; cases h
  rw [h6, cond_false] at h
  cases h7 : (b.2.2.2.2.2.1 == sums b.2.2.2.1)
  case false => rw [h7] at h; cases h
  rw [h7] at h
  cases h8 : (b.2.2.2.2.2.2.1 == sums b.2.2.2.2.1)
  case false => rw [h8] at h; cases h
  simp only [Bool.or_eq_false_iff, Bool.not_eq_false', inI, Bool.and_eq_true, decide_eq_true_eq, decide_eq_false_iff_not] at h1 h2
  refine ⟨h1.1.1, h1.1.2, h1.2, by omega, by omega, fun q hq => ?_, fun q hq => ?_, wf_allW h5, wf_allW h6, by simpa using h7, by simpa using h8⟩
  · have := List.any_eq_false.1 h3 q hq
    simpa using this
  · have := List.any_eq_false.1 h4 q hq
    simpa using this
theorem isW_of {x : Int} (h0 : 0 ≤ x) (h1 : x ≤ 65535) : isW x = true := by simp [isW, h0, h1]
theorem cell_in {n x : Int} (hn : 0 ≤ n ∧ n ≤ 80) (h : cellOk n x = true) : 0 ≤ x ∧ x ≤ 79 := by
  simp only [cellOk, Bool.and_eq_true, decide_eq_true_eq] at h
  rw [wrap_id (by omega) (by omega)] at h
  omega
theorem pw_in {n : Int} {p : Pt} (hn : 0 ≤ n ∧ n ≤ 80) (h : cellOk n p.1 = true) : 0 ≤ pw p ∧ pw p ≤ 179 := by
  have := cell_in hn h
  unfold pw
  cases p.2
  · simp only [cond_false, Int.mul_zero]
    rw [wrap_id (x := 0) (by omega) (by omega), wrap_id (by omega) (by omega)]; omega
  · simp only [cond_true, Int.mul_one]
    rw [wrap_id (x := 100) (by omega) (by omega), wrap_id (by omega) (by omega)]; omega
theorem sums_allW (l : Li) : allW (sums l) := fun x hx => by
  simp only [sums, List.mem_map] at hx
  obtain ⟨j, _, rfl⟩ := hx
  have := sumW_lt (blk l j)
  exact isW_of (by omega) (by omega)
theorem packA_allW {b : Bd} (h : BdF b) : allW (packA b) := by
  have hh : allW ([21930, b.1, b.2.2.2.2.2.2.2.1, b.2.2.2.2.2.2.2.2, (b.2.1.length : Int), (b.2.2.1.length : Int), (b.2.2.2.1.length : Int), (b.2.2.2.2.1.length : Int)] : Li) := by
    have h1 := h.n; have h2 := h.x; have h3 := h.y; have h4 := h.p; have h5 := h.o; have h6 := h.ca.2; have h7 := h.cb.2
    intro x hx
    simp only [List.mem_cons, List.not_mem_nil, or_false] at hx
    rcases hx with rfl | rfl | rfl | rfl | rfl | rfl | rfl | rfl <;> exact isW_of (by omega) (by omega)
  intro x hx
  simp only [packA, List.mem_append] at hx
  rcases hx with (((((hx | hx) | hx) | hx) | hx) | hx) | hx
  · exact hh x hx
  · obtain ⟨q, hq, rfl⟩ := List.mem_map.1 hx
    have := pw_in h.n (h.ps q hq)
    exact isW_of (by omega) (by omega)
  · have := cell_in h.n (h.os x hx)
    exact isW_of (by omega) (by omega)
  · exact h.ca.1 x hx
  · exact h.cb.1 x hx
  · rw [h.sa] at hx; exact sums_allW _ x hx
  · rw [h.sb] at hx; exact sums_allW _ x hx
theorem packA_len (b : Bd) (h : BdB b 1048576) : (packA b).length ≤ 8388608 := by
  have h1 := h.a; have h2 := h.b; have h3 := h.c; have h4 := h.d; have h5 := h.e; have h6 := h.f
  simp only [packA, List.length_append, List.length_map, List.length_cons, List.length_nil]; omega
theorem packC_len (b : Bd) : (packC b).2.length ≤ 1048576 := by
  unfold packC
  cases (bdFault b != 0)
  · cases h : decide (((packL b).length : Int) > 1200)
    · have := of_decide_eq_false h
      simp only [cond_false]; omega
    · simp
  · simp

theorem p_spec_l2Bit (x : Bool) : F_spec_l2Bit x = some (((bif x then 1 else 0 : Int), ()), (), ()) := by
  unfold F_spec_l2Bit
  cases x <;> rfl

theorem p_impl_flag (x : Bool) : F_impl_flag x = some (((bif x then 1 else 0 : Int), ()), (), ()) := by
  unfold F_impl_flag
  cases x <;> rfl

theorem p_spec_l12Words (b : Bd) (h : BdB b 1048576) (hf : BdF b) : F_spec_l12Words b = some ((), (), (packL b, ())) := by
  have hm : b.2.1.length ≤ maxLen := by have := h.a; simp only [maxLen]; omega
  have hl : ∀ acc0 : Li, acc0.length ≤ 1048576 → l_spec_l12Words_l3 ((b, ((0 : Int), ())), (), (acc0, ())) = some ((b, ()), (), (acc0 ++ b.2.1.map pw, ())) := fun acc0 h0 =>
    lim_app0 (step := s_spec_l12Words_l3) b.2.1 pw acc0 (fun i acc => ((b, ((i : Int), ())), (), (acc, ()))) ((b, ()), (), (acc0 ++ b.2.1.map pw, ()))
      (fun i acc d hn hg => by
        have hlt := lt_of_get hg
        have ha := h.a
        simp only [s_spec_l12Words_l3, dec_lt hlt, cond_true, ib_nat hlt, Int.toNat_natCast, getD_of hg, wrap_succ hlt hm, p_spec_l2Bit, Option.bind_some]
        rw [roomBig _ (by simp; omega)]; rfl)
      (by simp only [s_spec_l12Words_l3, dec_self, cond_false])
  have h1 := h.a; have h2 := h.b; have h3 := h.c; have h4 := h.d; have h5 := h.e; have h6 := h.f
  have hp := packA_len b h
  have hw := packA_allW hf
  have hsum := p_spec_l1Sum (packA b) hw (by simp only [maxLen]; omega)
  unfold F_spec_l12Words
  rw [hl _ (by simp)]
  simp only [Option.bind_some]
  rw [roomBig _ (by simp; omega), roomBig _ (by simp; omega), roomBig _ (by simp; omega), roomBig _ (by simp; omega), roomBig _ (by simp; omega)]
  simp only [cond_true]
  simp only [packA] at hsum hp
  rw [hsum]
  simp only [Option.bind_some]
  rw [roomBig _ (by simp; omega)]
  rfl

theorem p_spec_PackBuild (b : Bd) (h : BdB b 1048576) (h' : BdB b maxLen) : F_spec_PackBuild b = some ((((packC b).1, ()), ()), (), ((packC b).2, ())) := by
  simp only [F_spec_PackBuild, p_spec_l12Fault b h', Option.bind_some, packC]
  cases hb : (bdFault b != 0)
  · simp only [cond_false, p_spec_l12Words b h (bd_facts hb), Option.bind_some]
    cases decide (((packL b).length : Int) > 1200) <;> rfl
  · rfl

theorem p_slices_Grow_int64 (n : Nat) (h : n ≤ 1099511627776) : F_slices_Grow_int64 (n : Int) = some ((), (), ([], ())) := by
  have hw : IntKind.wrap .i64 ((n : Int) - 0) = (n : Int) := by rw [wrap_id (by omega) (by omega)]; omega
  unfold F_slices_Grow_int64
  rw [hw, decide_eq_false (show ¬ (n : Int) < 0 by omega)]
  simp only [cond_false]
  cases hn : decide ((n : Int) > 0)
  · rfl
  · simp only [cond_true, Int.toNat_natCast, List.length_replicate]
    rw [decide_eq_true (show (0 : Int) ≤ (n : Int) by omega), roomBig _ h, decide_eq_true (show (0 : Int) ≤ 0 ∧ (0 : Int) ≤ 0 ∧ (0 : Int) ≤ (n : Int) by omega)]
    simp

theorem p_slices_Concat_int64 (ls : List Li) (hn : ls.length ≤ 16) (hl : ∀ l ∈ ls, l.length ≤ 8388608) : F_slices_Concat_int64 ls = some ((), (), (ls.flatten, ())) := by
  have hm : ls.length ≤ maxLen := by simp only [maxLen]; omega
  have h3 : l_slices_Concat_int64_l3 ((ls, ((((0 : Nat) : Int)), (ls, ((ls.length : Int), ((0 : Int), ()))))), (), ()) = some ((ls, (((ls.foldl (fun s l => s + l.length) 0 : Nat) : Int), ())), (), ()) := by
    have key : ∀ (r : List Li) (i s : Nat), ls.drop i = r → i ≤ ls.length → s ≤ i * 8388608 → lim s_slices_Concat_int64_l3 ((ls, ((s : Int), (ls, ((ls.length : Int), ((i : Int), ()))))), (), ()) = some ((ls, (((r.foldl (fun s l => s + l.length) s : Nat) : Int), ())), (), ()) := by
      intro r
      induction r with
      | nil =>
        intro i s hd hle hs
        have : i = ls.length := by have := congrArg List.length hd; simp at this; omega
        subst this
        rw [lim_eq]
        simp only [s_slices_Concat_int64_l3, dec_self, cond_false]
        rfl
      | cons d r ih =>
        intro i s hd hle hs
        have hlt : i < ls.length := by have := congrArg List.length hd; simp at this; omega
        have hg : ls[i]? = some d := by
          have := congrArg (·[0]?) hd
          simpa using this
        have hdl := hl d (List.mem_of_getElem? hg)
        have hw : IntKind.wrap .i64 ((s : Int) + (d.length : Int)) = ((s + d.length : Nat) : Int) := by rw [wrap_id (by omega) (by omega)]; omega
        rw [lim_eq]
        simp only [s_slices_Concat_int64_l3, dec_lt hlt, cond_true, ib_nat hlt, Int.toNat_natCast, getD_of hg, wrap_succ hlt hm, hw]
        rw [decide_eq_false (show ¬ ((s + d.length : Nat) : Int) < 0 by omega)]
        simp only [cond_false]
        exact ih (i + 1) (s + d.length) (by rw [← List.drop_drop, hd]; rfl) hlt (by rw [Nat.add_mul]; omega)
    exact key ls 0 0 rfl (Nat.zero_le _) (Nat.zero_le _)
  have hsum : ∀ (r : List Li) (s : Nat), (∀ l ∈ r, l.length ≤ 8388608) → r.foldl (fun s l => s + l.length) s ≤ s + r.length * 8388608 := by
    intro r
    induction r with
    | nil => intro s _; simp
    | cons d r ih =>
      intro s hr
      have := ih (s + d.length) (fun l hl => hr l (by simp [hl]))
      have hd := hr d (by simp)
      simp only [List.foldl_cons, List.length_cons, Nat.add_mul]
      omega
  have hs := hsum ls 0 hl
  have hfl : ∀ r : List Li, (∀ l ∈ r, l.length ≤ 8388608) → r.flatten.length ≤ r.length * 8388608 := by
    intro r
    induction r with
    | nil => intro _; simp
    | cons d r ih =>
      intro hr
      have := ih (fun l hl => hr l (by simp [hl]))
      have hd := hr d (by simp)
      simp only [List.flatten_cons, List.length_append, List.length_cons, Nat.add_mul]
      omega
  have h11 : l_slices_Concat_int64_l11 ((ls, ((ls.length : Int), ((0 : Int), ()))), (), (([] : Li), ())) = some ((), (), (ls.flatten, ())) := by
    have key : ∀ (r : List Li) (i : Nat) (acc : Li), ls.drop i = r → i ≤ ls.length → acc.length ≤ i * 8388608 → lim s_slices_Concat_int64_l11 ((ls, ((ls.length : Int), ((i : Int), ()))), (), (acc, ())) = some ((), (), (acc ++ r.flatten, ())) := by
      intro r
      induction r with
      | nil =>
        intro i acc hd hle hs
        have : i = ls.length := by have := congrArg List.length hd; simp at this; omega
        subst this
        rw [lim_eq]
        simp only [s_slices_Concat_int64_l11, dec_self, cond_false, List.flatten_nil, List.append_nil]
      | cons d r ih =>
        intro i acc hd hle hs
        have hlt : i < ls.length := by have := congrArg List.length hd; simp at this; omega
        have hg : ls[i]? = some d := by
          have := congrArg (·[0]?) hd
          simpa using this
        have hdl := hl d (List.mem_of_getElem? hg)
        rw [lim_eq]
        simp only [s_slices_Concat_int64_l11, dec_lt hlt, cond_true, ib_nat hlt, Int.toNat_natCast, getD_of hg, wrap_succ hlt hm]
        rw [roomBig _ (by simp; omega)]
        simp only [cond_true]
        rw [ih (i + 1) (acc ++ d) (by rw [← List.drop_drop, hd]; rfl) hlt (by simp [Nat.add_mul]; omega)]
        simp
    have := key ls 0 [] rfl (Nat.zero_le _) (Nat.zero_le _)
    rw [List.nil_append] at this
    exact this
  have h3' : l_slices_Concat_int64_l3 ((ls, ((0 : Int), (ls, ((ls.length : Int), ((0 : Int), ()))))), (), ()) = _ := h3
  simp only [F_slices_Concat_int64, h3', Option.bind_some, p_slices_Grow_int64 _ (show ls.foldl (fun s l => s + l.length) 0 ≤ 1099511627776 by omega), h11]

theorem p_impl_Build_pack (b : Bd) (h : BdB b 1048576) (hf : BdF b) : F_impl_Build_pack b = some ((), (), (packL b, ())) := by
  have hm : b.2.1.length ≤ maxLen := by have := h.a; simp only [maxLen]; omega
  have hl : ∀ (acc0 : Li) (c), acc0.length ≤ 1048576 → l_impl_Build_pack_l3 ((b.2.1, ((b.2.1.length : Int), ((0 : Int), ()))), (c, ()), (acc0, ())) = some ((), (c, ()), (acc0 ++ b.2.1.map pw, ())) := fun acc0 c h0 =>
    lim_app0 (step := s_impl_Build_pack_l3) b.2.1 pw acc0 (fun i acc => ((b.2.1, ((b.2.1.length : Int), ((i : Int), ()))), (c, ()), (acc, ()))) ((), (c, ()), (acc0 ++ b.2.1.map pw, ()))
      (fun i acc d hn hg => by
        have hlt := lt_of_get hg
        have ha := h.a
        simp only [s_impl_Build_pack_l3, dec_lt hlt, cond_true, ib_nat hlt, Int.toNat_natCast, getD_of hg, wrap_succ hlt hm, p_impl_flag, Option.bind_some]
        rw [roomBig _ (by simp; omega)]; rfl)
      (by simp only [s_impl_Build_pack_l3, dec_self, cond_false])
  have h1 := h.a; have h2 := h.b; have h3 := h.c; have h4 := h.d; have h5 := h.e; have h6 := h.f
  have hp := packA_len b h
  have hw := packA_allW hf
  have hsum := p_impl_crc (packA b) hw (by simp only [maxLen]; omega)
  unfold F_impl_Build_pack
  rw [hl _ _ (by simp)]
  simp only [Option.bind_some]
  rw [p_slices_Concat_int64 _ (by simp) (by
    intro l hl
    simp only [List.mem_cons, List.not_mem_nil, or_false] at hl
    rcases hl with rfl | rfl | rfl | rfl | rfl | rfl
    · simp; omega
    all_goals omega)]
  simp only [Option.bind_some]
  have he : ([([21930, b.1, b.2.2.2.2.2.2.2.1, b.2.2.2.2.2.2.2.2, (b.2.1.length : Int), (b.2.2.1.length : Int), (b.2.2.2.1.length : Int), (b.2.2.2.2.1.length : Int)] : Li) ++ b.2.1.map pw, b.2.2.1, b.2.2.2.1, b.2.2.2.2.1, b.2.2.2.2.2.1, b.2.2.2.2.2.2.1] : List Li).flatten = packA b := by
    simp only [List.flatten_cons, List.flatten_nil, packA, List.append_nil, List.append_assoc]
  rw [he, hsum]
  simp only [Option.bind_some]
  rw [roomBig _ (by simp; omega)]
  rfl

theorem p_impl_PackBuild (b : Bd) (h : BdB b 1048576) (h' : BdB b maxLen) : F_impl_PackBuild b = some ((((packC b).1, ()), ()), (), ((packC b).2, ())) := by
  simp only [F_impl_PackBuild, p_impl_BuildFault b h', Option.bind_some, packC]
  cases hb : (bdFault b != 0)
  · simp only [cond_false, p_impl_Build_pack b h (bd_facts hb), Option.bind_some]
    cases decide (((packL b).length : Int) > 1200) <;> rfl
  · rfl

theorem p_laws_FnExactPackBuild (b : Bd) (hw : Wf (.pr (.int .i64) (.pr (.sl (.pr (.int .i64) .bool)) (.pr (.sl (.int .i64)) (.pr (.sl (.int .i64)) (.pr (.sl (.int .i64)) (.pr (.sl (.int .i64)) (.pr (.sl (.int .i64)) (.pr (.int .i64) (.int .i64))))))))) b) : F_laws_FnExactPackBuild b = some ((true, ()), (), ()) := by
  have h' : BdB b maxLen := ⟨hw.2.1.1, hw.2.2.1.1, hw.2.2.2.1.1, hw.2.2.2.2.1.1, hw.2.2.2.2.2.1.1, hw.2.2.2.2.2.2.1.1⟩
  obtain ⟨r, e, g⟩ := z_laws_szBuild b 1048576 (by decide) (by decide) h'
  simp only [F_laws_FnExactPackBuild, e, Option.bind_some]
  cases q : decide (r < 0)
  · obtain ⟨_, _, h⟩ := g q
    have ht := packC_len b
    have ht' : (packC b).2.length ≤ maxLen := by simp only [maxLen]; omega
    obtain ⟨m, y0, y1, y2, y3, y4, y5, em, im⟩ := m_laws_markBuild b.1 b.2.2.2.2.2.2.2.1 b.2.2.2.2.2.2.2.2 1 b.2.1 b.2.2.1 b.2.2.2.1 b.2.2.2.2.1 b.2.2.2.2.2.1 b.2.2.2.2.2.2.1 (by decide) (by decide) h.a h.b h.c h.d h.e h.f
    have hm := im.le
    simp only [cond_false, p_laws_toBuild b h, p_spec_PackBuild b h h', p_impl_PackBuild b h h', Option.bind_some, em, p_laws_eqBuild b h']
    generalize packC b = u at ht ht'
    simp only [p_laws_eqIntsResult (u.1, u.2) ht', p_laws_markIntsResult u.1 1 u.2 (by decide) (by decide) ht, p_laws_heldIntsResult u.1 1 u.2.length (by decide) (by decide) ht, Option.bind_some, Bool.not_true, bne_self_eq_false]
    rw [decide_eq_false (show ¬ m < 0 by omega), decide_eq_false (show ¬ (1 : Int) + u.2.length < 0 by omega)]
    rfl
  · rfl

end Go.Ev
