/- What is proved here: the pure function of FnRegisters yields true for each argument that can be read; no condition. -/
import Derived.Test.YtfglckpbconanaaRegsA
set_option linter.unusedVariables false
set_option linter.unusedSimpArgs false
namespace Go.Ev
abbrev Li : Type := List Int
abbrev Ch : Type := Int × Li × Li × Li × Int × Int
theorem lim_fill {A B α : Type} {step : A → Option (A ⊕ B)} (v : Nat → α) (mk : Nat → List α → A) (out : List α → B) (l : List α)
    (h1 : ∀ i acc, acc.length = l.length → i < l.length → step (mk i acc) = some (.inl (mk (i + 1) (acc.set i (v i))))) (h2 : ∀ acc, acc.length = l.length → step (mk l.length acc) = some (.inr (out acc))) :
    lim step (mk 0 l) = some (out ((List.range l.length).map v)) := by
  have key : ∀ (k i : Nat) (acc : List α), i + k = l.length → acc.length = l.length → acc.take i = (List.range i).map v → lim step (mk i acc) = some (out ((List.range l.length).map v)) := by
    intro k
    induction k with
    | zero =>
      intro i acc hi hn ht
      have : i = l.length := by omega
      subst this
      rw [List.take_of_length_le (by omega)] at ht
      rw [lim_eq, h2 _ hn, ht]
    | succ k ih =>
      intro i acc hi hn ht
      rw [lim_eq, h1 i acc hn (by omega)]
      refine ih (i + 1) _ (by omega) (by simp [hn]) ?_
      rw [List.take_add_one, List.getElem?_set_self (by omega), List.take_set_of_le (Nat.le_refl i), ht, List.range_succ, List.map_append]
      rfl
  exact key l.length 0 l (by omega) rfl (by simp)
theorem lim_app {A B α β : Type} {step : A → Option (A ⊕ B)} (l : List α) (f : α → β) (mk : Nat → List β → A) (out : B)
    (h1 : ∀ i acc d, acc.length ≤ l.length → acc.length = i → l[i]? = some d → step (mk i acc) = some (.inl (mk (i + 1) (acc ++ [f d])))) (h2 : step (mk l.length (l.map f)) = some (.inr out)) :
    lim step (mk 0 []) = some out := by
  have key : ∀ (r : List α) (i : Nat), l.drop i = r → i ≤ l.length → lim step (mk i ((l.take i).map f)) = some out := by
    intro r
    induction r with
    | nil =>
      intro i hd hle
      have : i = l.length := by have := congrArg List.length hd; simp at this; omega
      subst this
      rw [List.take_of_length_le (Nat.le_refl _), lim_eq, h2]
    | cons d r ih =>
      intro i hd hle
      have hlt : i < l.length := by have := congrArg List.length hd; simp at this; omega
      have hg : l[i]? = some d := by
        have := congrArg (·[0]?) hd
        simpa using this
      rw [lim_eq, h1 i _ d (by simp; omega) (by simp; omega) hg]
      have := ih (i + 1) (by rw [← List.drop_drop, hd]; rfl) hlt
      rw [List.take_add_one, hg, List.map_append] at this
      exact this
  have := key l 0 rfl (Nat.zero_le _)
  simpa using this
theorem range_get {n i d : Nat} (h : (List.range n)[i]? = some d) : d = i ∧ i < n := by
  obtain ⟨h1, h2⟩ := List.getElem?_eq_some_iff.1 h
  simp at h2 h1
  omega
theorem map_const {α β : Type} (v : β) (l : List α) : l.map (fun _ => v) = List.replicate l.length v := by
  induction l with
  | nil => rfl
  | cons a l ih => simp [ih, List.replicate_succ]
theorem lim_rep {A B α : Type} {step : A → Option (A ⊕ B)} (n : Nat) (v : α) (mk : Nat → List α → A) (out : B)
    (h1 : ∀ i acc, i < n → acc.length = i → step (mk i acc) = some (.inl (mk (i + 1) (acc ++ [v])))) (h2 : step (mk n (List.replicate n v)) = some (.inr out)) : lim step (mk 0 []) = some out := by
  refine lim_app (step := step) (List.range n) (fun _ => v) mk out (fun i acc d hn hi hg => h1 i acc (range_get hg).2 hi) ?_
  rw [map_const, List.length_range]; exact h2
theorem any_no {α : Type} (l : List α) : l.any (fun _ => false) = false := by induction l with | nil => rfl | cons a l ih => simp [ih]
theorem room8 {l : Li} (h : l.length ≤ 1048576) : room ([] ++ l).length 8 = true := by simp [room]; omega
theorem i_cases {p : Prop} [Decidable p] : decide p = true ∨ decide p = false := by cases decide p <;> simp
theorem wrap_u16 (x : Int) : IntKind.wrap .u16 x = x % 65536 := by simp [IntKind.wrap, IntKind.bits, IntKind.signed]
theorem u16_eq (x : Int) : ((BitVec.ofInt (IntKind.bits .i64) x &&& BitVec.ofInt (IntKind.bits .i64) (65535 : Int)).toNat : Int) = IntKind.wrap .u16 x := by
  rw [wrap_u16, BitVec.toNat_and]
  have h1 : (BitVec.ofInt (IntKind.bits .i64) (65535 : Int)).toNat = 2 ^ 16 - 1 := by decide
  rw [h1, Nat.and_two_pow_sub_one_eq_mod]
  show (((BitVec.ofInt 64 x).toNat % 2 ^ 16 : Nat) : Int) = _
  rw [BitVec.toNat_ofInt]
  omega
def isW (x : Int) : Bool := decide (0 ≤ x) && decide (x ≤ 65535)
def wf (l : Li) : Int := bif decide ((l.length : Int) > 400) then 2 else bif l.any (fun x => !isW x) then 3 else 0
theorem all_any (l : Li) : l.all isW = !l.any (fun x => !isW x) := by induction l with | nil => rfl | cons a l ih => simp [ih]
def chFault (c : Ch) : Int := bif !(c.1 == 1 || c.1 == 2) then 1 else bif wf c.2.1 != 0 then wf c.2.1 else bif wf c.2.2.1 != 0 then wf c.2.2.1 else
  bif c.2.2.2.1.any (fun x => !isW x) || !isW c.2.2.2.2.1 || !isW c.2.2.2.2.2 then 3 else bif decide ((c.2.2.2.1.length : Int) > 80) then 2 else 0
structure ChB (c : Ch) (n : Nat) : Prop where
  a : c.2.1.length ≤ n
  b : c.2.2.1.length ≤ n
  c : c.2.2.2.1.length ≤ n
def iota (n : Int) (k : Nat) : Li := (List.range k).map fun (i : Nat) => n + (i : Int)
theorem iota_get {n : Int} {k i : Nat} {d : Int} (h : (iota n k)[i]? = some d) : d = n + i := by
  simp only [iota, List.getElem?_map] at h
  cases h' : (List.range k)[i]? with
  | none => rw [h'] at h; cases h
  | some j =>
    rw [h'] at h
    have := (List.getElem?_eq_some_iff.1 h').2
    simp at this
    simp only [Option.map_some, Option.some.injEq] at h
    omega
theorem iota_len (n : Int) (k : Nat) : (iota n k).length = k := by simp [iota]
def compl (x : Int) : Int := IntKind.wrap .i64 (65535 - IntKind.wrap .i64 (IntKind.wrap .u16 x))
def tc (c : Ch) : Int × Li := bif chFault c != 0 then (chFault c, []) else (0, bif c.1 == 2 then c.2.2.2.1.map compl else c.2.2.2.1)
theorem tc_len (c : Ch) (n : Nat) (h : ChB c n) : (tc c).2.length ≤ n := by
  have := h.c
  unfold tc
  cases (chFault c != 0)
  · cases (c.1 == 2) <;> simpa using this
  · simp

theorem p_spec_l1In (x a b : Int) : F_spec_l1In x a b = some (((decide (a ≤ x) && decide (x ≤ b)), ()), (), ()) := by
  unfold F_spec_l1In
  simp only [ge_iff_le]
  cases decide (a ≤ x) <;> rfl

theorem p_spec_l1Word (x : Int) : F_spec_l1Word x = some ((isW x, ()), (), ()) := by
  simp only [F_spec_l1Word, p_spec_l1In, Option.bind_some, isW]

theorem p_spec_l6All (l : Li) (hm : l.length ≤ maxLen) : F_spec_l6All l = some ((!l.any (fun x => !isW x), ()), (), ()) := by
  have h2 : l_spec_l6All_l2 ((l, ((0 : Int), ())), (), ()) = _ :=
    lim_any (step := s_spec_l6All_l2) l (fun i => ((l, ((i : Int), ())), (), ())) (fun x => !isW x) (.inr ((false, ()), (), ())) (.inl ((), (), ()))
      (fun i d hg => by
        have hlt := lt_of_get hg
        simp only [s_spec_l6All_l2, dec_lt hlt, cond_true, ib_nat hlt, Int.toNat_natCast, getD_of hg, wrap_succ hlt hm, p_spec_l1Word, Option.bind_some]
        cases isW d <;> rfl)
      (by simp only [s_spec_l6All_l2, dec_self, cond_false])
  simp only [F_spec_l6All, h2, Option.bind_some]
  cases l.any (fun x => !isW x) <;> rfl

theorem p_spec_WordsFault (l : Li) (hm : l.length ≤ maxLen) : F_spec_WordsFault l = some ((wf l, ()), (), ()) := by
  have h2 : l_spec_WordsFault_l4 ((l, ((0 : Int), ())), (), ()) = _ :=
    lim_any (step := s_spec_WordsFault_l4) l (fun i => ((l, ((i : Int), ())), (), ())) (fun x => !isW x) (.inr (((3 : Int), ()), (), ())) (.inl ((), (), ()))
      (fun i d hg => by
        have hlt := lt_of_get hg
        simp only [s_spec_WordsFault_l4, dec_lt hlt, cond_true, ib_nat hlt, Int.toNat_natCast, getD_of hg, wrap_succ hlt hm, p_spec_l1Word, Option.bind_some]
        cases isW d <;> rfl)
      (by simp only [s_spec_WordsFault_l4, dec_self, cond_false])
  simp only [F_spec_WordsFault, h2, Option.bind_some, wf]
  cases decide ((l.length : Int) > 400)
  · cases l.any (fun x => !isW x) <;> rfl
  · rfl

theorem p_spec_WordOf (x : Int) : F_spec_WordOf x = some ((IntKind.wrap .i64 (IntKind.wrap .u16 x), ()), (), ()) := rfl

theorem p_spec_Complement (x : Int) : F_spec_Complement x = some ((compl x, ()), (), ()) := by
  simp only [F_spec_Complement, p_spec_WordOf, Option.bind_some, compl]

theorem p_impl_within (x a b : Int) : F_impl_within x a b = some (((decide (a ≤ x) && decide (x ≤ b)), ()), (), ()) := by
  unfold F_impl_within
  cases decide (a ≤ x) <;> rfl

theorem p_impl_isWord (x : Int) : F_impl_isWord x = some ((isW x, ()), (), ()) := by
  simp only [F_impl_isWord, p_impl_within, Option.bind_some, isW]

theorem p_impl_areWords (l : Li) (hm : l.length ≤ maxLen) : F_impl_areWords l = some ((!l.any (fun x => !isW x), ()), (), ()) := by
  have h2 : l_impl_areWords_l2 ((l, ((l.length : Int), ((0 : Int), ()))), (), ()) = _ :=
    lim_any (step := s_impl_areWords_l2) l (fun i => ((l, ((l.length : Int), ((i : Int), ()))), (), ())) (fun x => !isW x) (.inr ((false, ()), (), ())) (.inl ((), (), ()))
      (fun i d hg => by
        have hlt := lt_of_get hg
        simp only [s_impl_areWords_l2, dec_lt hlt, cond_true, ib_nat hlt, Int.toNat_natCast, getD_of hg, wrap_succ hlt hm, p_impl_isWord, Option.bind_some]
        cases isW d <;> rfl)
      (by simp only [s_impl_areWords_l2, dec_self, cond_false])
  simp only [F_impl_areWords, h2, Option.bind_some]
  cases l.any (fun x => !isW x) <;> rfl

theorem p_impl_WordsFault (l : Li) (hm : l.length ≤ maxLen) : F_impl_WordsFault l = some ((wf l, ()), (), ()) := by
  simp only [F_impl_WordsFault, p_impl_areWords _ hm, Option.bind_some, wf, Bool.not_not]
  cases decide ((l.length : Int) > 400)
  · cases l.any (fun x => !isW x) <;> rfl
  · rfl

theorem p_slices_Clone_int64 (l : Li) (h : l.length ≤ 1048576) : F_slices_Clone_int64 l = some ((), (), (l, ())) := by
  have hr := room8 h
  simp only [List.nil_append] at hr
  simp only [F_slices_Clone_int64, List.nil_append, hr, cond_true, nilB]
  cases l with
  | nil => simp
  | cons a l => rfl

theorem p_impl_WordOf (x : Int) : F_impl_WordOf x = some ((IntKind.wrap .i64 (IntKind.wrap .u16 x), ()), (), ()) := by
  rw [F_impl_WordOf, u16_eq]

theorem p_impl_Complement (x : Int) : F_impl_Complement x = some ((compl x, ()), (), ()) := by
  simp only [F_impl_Complement, p_impl_WordOf, Option.bind_some, compl]

theorem p_impl_inverted (l : Li) (hl : l.length ≤ 1048576) : F_impl_inverted l = some ((), (), (l.map compl, ())) := by
  have hm : l.length ≤ maxLen := by simp only [maxLen]; omega
  have h3 : l_impl_inverted_l3 ((l, ((l.length : Int), ((0 : Int), ()))), (), ([], ())) = _ :=
    lim_app (step := s_impl_inverted_l3) l compl (fun i acc => ((l, ((l.length : Int), ((i : Int), ()))), (), (acc, ()))) ((), (), (l.map compl, ()))
      (fun i acc d hn _ hg => by
        have hlt := lt_of_get hg
        simp only [s_impl_inverted_l3, dec_lt hlt, cond_true, ib_nat hlt, Int.toNat_natCast, getD_of hg, wrap_succ hlt hm, p_impl_Complement, Option.bind_some]
        rw [show room (acc ++ [compl d]).length 8 = true by simp [room]; omega]; rfl)
      (by simp only [s_impl_inverted_l3, dec_self, cond_false])
  simp only [F_impl_inverted, h3, Option.bind_some]

def hxor (x v : Int) : Int := IntKind.wrap .i64 (((BitVec.ofInt (IntKind.bits .i64) x ^^^ BitVec.ofInt (IntKind.bits .i64) v).toNat : Int))
abbrev HL : Type := Int × Int × Int × Li × Li × Li
def hurtL (k i v w1 w2 : Int) (x y z : Li) : HL :=
  bif k == 1 then bif isW v && ib i x.length then (0, w1, w2, x.set i.toNat (hxor (x.getD i.toNat 0) v), y, z) else (3, w1, w2, x, y, z)
  else bif k == 2 then bif isW v && ib i z.length then (0, w1, w2, x, y, z.set i.toNat (hxor (z.getD i.toNat 0) v)) else (3, w1, w2, x, y, z)
  else bif k == 3 then bif isW v && ib i y.length then (0, w1, w2, x, y.set i.toNat (hxor (y.getD i.toNat 0) v), z) else (3, w1, w2, x, y, z)
  else bif k == 4 then bif isW v && ib i 1 then (0, hxor w1 v, w2, x, y, z) else (3, w1, w2, x, y, z)
  else bif k == 5 then bif isW v && ib i 1 then (0, w1, hxor w2 v, x, y, z) else (3, w1, w2, x, y, z)
  else (1, w1, w2, x, y, z)
theorem hurtL_len (k i v w1 w2 : Int) (x y z : Li) : (hurtL k i v w1 w2 x y z).2.2.2.1.length = x.length ∧ (hurtL k i v w1 w2 x y z).2.2.2.2.1.length = y.length ∧ (hurtL k i v w1 w2 x y z).2.2.2.2.2.length = z.length := by
  unfold hurtL
  cases (k == 1)
  · cases (k == 2)
    · cases (k == 3)
      · cases (k == 4)
        · cases (k == 5)
          · exact ⟨rfl, rfl, rfl⟩
          · cases (isW v && ib i 1) <;> exact ⟨rfl, rfl, rfl⟩
        · cases (isW v && ib i 1) <;> exact ⟨rfl, rfl, rfl⟩
      · cases (isW v && ib i y.length) <;> simp
    · cases (isW v && ib i z.length) <;> simp
  · cases (isW v && ib i x.length) <;> simp
theorem inL (i : Int) (n : Nat) : (decide (0 ≤ i) && decide (i ≤ (n : Int) - 1)) = ib i n := by
  unfold ib
  rw [← Bool.decide_and]
  exact decide_eq_decide.2 (by omega)
theorem wrap_pred (n : Nat) (h : n ≤ maxLen) : IntKind.wrap .i64 ((n : Int) - 1) = (n : Int) - 1 := by
  simp only [maxLen] at h
  exact wrap_id (by omega) (by omega)
def hurtC (c : Ch) (k i v : Int) : Int × Ch :=
  bif chFault c != 0 then (chFault c, 0, [], [], [], 0, 0) else
  bif (hurtL k i v c.2.2.2.2.1 c.2.2.2.2.2 c.2.1 c.2.2.1 c.2.2.2.1).1 != 0 then ((hurtL k i v c.2.2.2.2.1 c.2.2.2.2.2 c.2.1 c.2.2.1 c.2.2.2.1).1, 0, [], [], [], 0, 0) else
  (0, c.1, (hurtL k i v c.2.2.2.2.1 c.2.2.2.2.2 c.2.1 c.2.2.1 c.2.2.2.1).2.2.2.1, (hurtL k i v c.2.2.2.2.1 c.2.2.2.2.2 c.2.1 c.2.2.1 c.2.2.2.1).2.2.2.2.1, (hurtL k i v c.2.2.2.2.1 c.2.2.2.2.2 c.2.1 c.2.2.1 c.2.2.2.1).2.2.2.2.2, (hurtL k i v c.2.2.2.2.1 c.2.2.2.2.2 c.2.1 c.2.2.1 c.2.2.2.1).2.1, (hurtL k i v c.2.2.2.2.1 c.2.2.2.2.2 c.2.1 c.2.2.1 c.2.2.2.1).2.2.1)
theorem hurtC_len (c : Ch) (k i v : Int) (n : Nat) (h : ChB c n) : ChB (hurtC c k i v).2 n := by
  obtain ⟨a, b, d⟩ := hurtL_len k i v c.2.2.2.2.1 c.2.2.2.2.2 c.2.1 c.2.2.1 c.2.2.2.1
  unfold hurtC
  cases (chFault c != 0)
  · simp only [cond_false]
    generalize hurtL k i v c.2.2.2.2.1 c.2.2.2.2.2 c.2.1 c.2.2.1 c.2.2.2.1 = r at a b d ⊢
    cases (r.1 != 0)
    · exact ⟨by simpa [a] using h.a, by simpa [b] using h.b, by simpa [d] using h.c⟩
    · exact ⟨Nat.zero_le _, Nat.zero_le _, Nat.zero_le _⟩
  · exact ⟨Nat.zero_le _, Nat.zero_le _, Nat.zero_le _⟩
abbrev outC (r : Int × Ch) : ((Int × Int × Int × Int × Int × Int × Unit) × Unit) × Unit × (Li × Li × Li × Unit) := (((r.1, ((0 : Int), ((0 : Int), (r.2.1, (r.2.2.2.2.2.1, (r.2.2.2.2.2.2, ())))))), ()), (), (r.2.2.1, (r.2.2.2.1, (r.2.2.2.2.1, ()))))

theorem p_spec_l1Min (x y : Int) : F_spec_l1Min x y = some ((min x y, ()), (), ()) := by
  unfold F_spec_l1Min
  cases h : decide (x < y)
  · have := of_decide_eq_false h
    rw [show min x y = y by omega]; rfl
  · have := of_decide_eq_true h
    rw [show min x y = x by omega]; rfl

theorem p_spec_l2Bit (x : Bool) : F_spec_l2Bit x = some (((bif x then 1 else 0 : Int), ()), (), ()) := by
  unfold F_spec_l2Bit
  cases x <;> rfl

theorem p_impl_flag (x : Bool) : F_impl_flag x = some (((bif x then 1 else 0 : Int), ()), (), ()) := by
  unfold F_impl_flag
  cases x <;> rfl

def isWd (x : Int) : Prop := 0 ≤ x ∧ x ≤ 65535
def wdo (x : Int) : Int := x % 65536
def sgn (x : Int) : Int := if 32768 ≤ x % 65536 then x % 65536 - 65536 else x % 65536
theorem wdo_isWd (x : Int) : isWd (wdo x) := by unfold isWd wdo; omega
theorem wdo_id {x : Int} (h : isWd x) : wdo x = x := by unfold isWd at h; unfold wdo; omega
theorem wrap_wdo (x : Int) : IntKind.wrap .i64 (IntKind.wrap .u16 x) = wdo x := by
  rw [wrap_u16, IntKind.wrap_i64]; unfold wdo; omega
theorem compl_eq (x : Int) : compl x = 65535 - wdo x := by
  unfold compl
  rw [wrap_wdo, IntKind.wrap_i64]; unfold wdo; omega
theorem compl_isWd (x : Int) : isWd (compl x) := by rw [compl_eq]; have := wdo_isWd x; unfold isWd at *; omega
theorem sgn_in (x : Int) : -32768 ≤ sgn x ∧ sgn x ≤ 32767 := by unfold sgn; split <;> omega
theorem wrap_i16 (x : Int) : IntKind.wrap .i64 (IntKind.wrap .i16 (IntKind.wrap .u16 x)) = sgn x := by
  rw [wrap_u16, IntKind.wrap_i64]
  have : IntKind.wrap .i16 (x % 65536) = sgn x := by
    simp only [IntKind.wrap, IntKind.bits, IntKind.signed, sgn]
    simp
  rw [this]
  have := sgn_in x
  omega

theorem p_spec_SignedOf (x : Int) : F_spec_SignedOf x = some ((sgn x, ()), (), ()) := by
  simp only [F_spec_SignedOf, wrap_i16]

theorem p_impl_SignedOf (x : Int) : F_impl_SignedOf x = some ((sgn x, ()), (), ()) := by
  simp only [F_impl_SignedOf, p_impl_WordOf, wrap_wdo, Option.bind_some]
  have h := wdo_isWd x
  unfold isWd at h
  by_cases h1 : 32768 ≤ x % 65536
  · rw [decide_eq_true (show wdo x ≥ 32768 by unfold wdo; omega)]
    rw [wrap_id (by omega) (by omega)]
    simp only [cond_true, sgn, if_pos h1, wdo]
  · rw [decide_eq_false (show ¬ wdo x ≥ 32768 by unfold wdo; omega)]
    simp only [cond_false, sgn, if_neg h1, wdo]

def negw (x : Int) : Int := wdo (0 - x)
theorem wdo_sub (x y : Int) : wdo (x - y) = wdo (wdo x - wdo y) := by unfold wdo; omega
theorem sgn_wdo (x : Int) : wdo (sgn x) = wdo x := by unfold sgn wdo; split <;> omega

theorem p_spec_NegOf (x : Int) : F_spec_NegOf x = some ((negw x, ()), (), ()) := by
  have h := sgn_in x
  simp only [F_spec_NegOf, p_spec_SignedOf, p_spec_WordOf, Option.bind_some, wrap_wdo]
  rw [wrap_id (by omega) (by omega)]
  unfold negw
  rw [wdo_sub, sgn_wdo, wdo_sub 0 x]

theorem p_impl_NegOf (x : Int) : F_impl_NegOf x = some ((negw x, ()), (), ()) := by
  have h := wdo_isWd x
  unfold isWd at h
  simp only [F_impl_NegOf, p_impl_WordOf, Option.bind_some, wrap_wdo]
  rw [wrap_id (by omega) (by omega)]
  unfold negw
  rw [wdo_sub, wdo_id (wdo_isWd x), wdo_sub 0 x]

def notw (x : Int) : Int := bif wdo x == 0 then 1 else 0

theorem p_spec_NotOf (x : Int) : F_spec_NotOf x = some ((notw x, ()), (), ()) := by
  simp only [F_spec_NotOf, p_spec_WordOf, Option.bind_some, wrap_wdo, notw]
  cases (wdo x == 0) <;> rfl

theorem p_impl_NotOf (x : Int) : F_impl_NotOf x = some ((notw x, ()), (), ()) := by
  simp only [F_impl_NotOf, p_impl_WordOf, p_impl_flag, Option.bind_some, wrap_wdo, notw]

def sigw (x y : Int) : Int := Int.tmod (IntKind.wrap .i64 (IntKind.wrap .i64 (IntKind.wrap .i64 (wdo x * 31) + wdo y) + 1)) 65521

theorem p_spec_SignOf (x y : Int) : F_spec_SignOf x y = some ((sigw x y, ()), (), ()) := by
  simp only [F_spec_SignOf, p_spec_WordOf, Option.bind_some, wrap_wdo, sigw]

theorem p_impl_SignOf (x y : Int) : F_impl_SignOf x y = some ((sigw x y, ()), (), ()) := by
  simp only [F_impl_SignOf, p_impl_WordOf, Option.bind_some, wrap_wdo, sigw]

theorem sigw_isWd (x y : Int) : isWd (sigw x y) := by
  have h1 := wdo_isWd x
  have h2 := wdo_isWd y
  unfold isWd at *
  unfold sigw
  rw [wrap_id (x := wdo x * 31) (by omega) (by omega), wrap_id (x := wdo x * 31 + wdo y) (by omega) (by omega), wrap_id (by omega) (by omega)]
  rw [Int.tmod_eq_emod_of_nonneg (by omega)]
  omega
/-- An op of two words: its code, its value. -/
def binw (op a b : Int) : Int × Int :=
  bif op == 1 then (0, wdo (a + b)) else
  bif op == 2 then (0, wdo (a - b)) else
  bif op == 3 then (0, wdo (a * b)) else
  bif op == 4 then (bif b == 0 then (4, 0) else (0, wdo (Int.tdiv (sgn a) (sgn b)))) else
  bif op == 5 then (bif b == 0 then (4, 0) else (0, wdo (Int.tmod (sgn a) (sgn b)))) else
  bif op == 6 then (0, ((a.toNat &&& b.toNat : Nat) : Int)) else
  bif op == 7 then (0, ((a.toNat ||| b.toNat : Nat) : Int)) else
  bif op == 8 then (0, ((a.toNat ^^^ b.toNat : Nat) : Int)) else
  bif op == 9 then (0, bif decide (sgn a < sgn b) then 1 else 0) else
  bif op == 10 then (0, bif a == b then 1 else 0) else (3, 0)
theorem wdo_add (x y : Int) : wdo (x + y) = wdo (wdo x + wdo y) := by unfold wdo; omega
theorem wdo_mul (x y : Int) : wdo (x * y) = wdo (wdo x * wdo y) := by unfold wdo; rw [Int.mul_emod]
theorem natW {a : Int} (h : isWd a) : ∃ n : Nat, n < 65536 ∧ a = (n : Int) := ⟨a.toNat, by unfold isWd at h; omega, by unfold isWd at h; omega⟩
theorem bv_nat {a : Nat} (h : a < 65536) : (BitVec.ofInt (IntKind.bits .i64) (a : Int)).toNat = a := by
  show (BitVec.ofInt 64 (a : Int)).toNat = a
  rw [BitVec.toNat_ofInt]; omega
theorem bvand {a b : Nat} (ha : a < 65536) (hb : b < 65536) : IntKind.wrap .i64 (((BitVec.ofInt (IntKind.bits .i64) (a : Int) &&& BitVec.ofInt (IntKind.bits .i64) (b : Int)).toNat : Int)) = ((a &&& b : Nat) : Int) ∧ (a &&& b) < 65536 := by
  have h : (a &&& b) < 65536 := Nat.and_lt_two_pow (n := 16) a hb
  rw [BitVec.toNat_and, bv_nat ha, bv_nat hb, wrap_id (by omega) (by omega)]
  exact ⟨rfl, h⟩
theorem bvor {a b : Nat} (ha : a < 65536) (hb : b < 65536) : IntKind.wrap .i64 (((BitVec.ofInt (IntKind.bits .i64) (a : Int) ||| BitVec.ofInt (IntKind.bits .i64) (b : Int)).toNat : Int)) = ((a ||| b : Nat) : Int) ∧ (a ||| b) < 65536 := by
  have h : (a ||| b) < 65536 := Nat.or_lt_two_pow (n := 16) ha hb
  rw [BitVec.toNat_or, bv_nat ha, bv_nat hb, wrap_id (by omega) (by omega)]
  exact ⟨rfl, h⟩
theorem bvxor {a b : Nat} (ha : a < 65536) (hb : b < 65536) : IntKind.wrap .i64 (((BitVec.ofInt (IntKind.bits .i64) (a : Int) ^^^ BitVec.ofInt (IntKind.bits .i64) (b : Int)).toNat : Int)) = ((a ^^^ b : Nat) : Int) ∧ (a ^^^ b) < 65536 := by
  have h : (a ^^^ b) < 65536 := Nat.xor_lt_two_pow (n := 16) ha hb
  rw [BitVec.toNat_xor, bv_nat ha, bv_nat hb, wrap_id (by omega) (by omega)]
  exact ⟨rfl, h⟩
theorem sgn_zero {b : Int} (h : isWd b) : (sgn b == 0) = (b == 0) := by
  unfold isWd at h
  unfold sgn
  split
  · rw [beq_eq_false_iff_ne.2 (by omega), beq_eq_false_iff_ne.2 (by omega)]
  · rw [show b % 65536 = b by omega]
theorem sgn_inj {a b : Int} (ha : isWd a) (hb : isWd b) : (sgn a == sgn b) = (a == b) := by
  unfold isWd at ha hb
  by_cases h : a = b
  · rw [h]; simp
  · rw [beq_eq_false_iff_ne.2 h, beq_eq_false_iff_ne]
    unfold sgn
    split <;> split <;> omega
theorem binw_isWd (op a b : Int) (ha : isWd a) (hb : isWd b) : isWd (binw op a b).2 := by
  obtain ⟨x, hx, rfl⟩ := natW ha
  obtain ⟨y, hy, rfl⟩ := natW hb
  have h1 := (bvand hx hy).2
  have h2 := (bvor hx hy).2
  have h3 := (bvxor hx hy).2
  unfold binw
  simp only [Int.toNat_natCast]
  repeat' (first | exact wdo_isWd _ | (cases h : (op == _) <;> simp only [cond_true, cond_false]) | (unfold isWd; omega) | (cases h : (_ == (0 : Int)) <;> simp only [cond_true, cond_false]))
  all_goals first | exact wdo_isWd _ | (unfold isWd; dsimp only; omega) | (unfold isWd; split <;> omega) | skip
  all_goals (unfold isWd; cases decide (sgn (x : Int) < sgn y) <;> cases ((x : Int) == y) <;> simp)

theorem p_impl_BinaryOf (op a b : Int) (ha : isWd a) (hb : isWd b) : F_impl_BinaryOf op a b = some ((((binw op a b).1, (binw op a b).2), ()), (), ()) := by
  have sa := sgn_in a
  have sb := sgn_in b
  have hz := sgn_zero hb
  have ea := wdo_id ha
  have eb := wdo_id hb
  have ia := ha
  have ib' := hb
  unfold isWd at ia ib'
  have hm : -9223372036854775808 ≤ a * b ∧ a * b ≤ 9223372036854775807 := by
    have h1 : 0 ≤ a * b := Int.mul_nonneg ia.1 ib'.1
    have h2 : a * b ≤ 65535 * 65535 := Int.mul_le_mul ia.2 ib'.2 ib'.1 (by omega)
    omega
  have hd : b ≠ 0 → -9223372036854775808 ≤ Int.tdiv (sgn a) (sgn b) ∧ Int.tdiv (sgn a) (sgn b) ≤ 9223372036854775807 := fun h0 => by
    have h1 := Int.natAbs_tdiv_le_natAbs (sgn a) (sgn b)
    omega
  unfold F_impl_BinaryOf binw
  simp only [p_impl_WordOf, p_impl_SignedOf, p_impl_flag, Option.bind_some, wrap_wdo, ea, eb]
  cases h1 : (op == 1)
  · cases h2 : (op == 2)
    · cases h3 : (op == 3)
      · cases h4 : (op == 4)
        · cases h5 : (op == 5)
          · obtain ⟨x, hx, rfl⟩ := natW ha
            obtain ⟨y, hy, rfl⟩ := natW hb
            have g1 := bvand hx hy
            have g2 := bvor hx hy
            have g3 := bvxor hx hy
            simp only [cond_false, Int.toNat_natCast, g1.1, g2.1, g3.1]
            have w : ∀ n : Nat, n < 65536 → wdo (n : Int) = n := fun n hn => wdo_id (by unfold isWd; omega)
            rw [w _ g1.2, w _ g2.2, w _ g3.2]
            cases (op == 6) <;> cases (op == 7) <;> cases (op == 8) <;> try rfl
            cases (op == 9)
            · cases (op == 10)
              · rfl
              · cases ((x : Int) == y) <;> rfl
            · cases decide (sgn (x : Int) < sgn y) <;> rfl
          · simp only [cond_true, cond_false, hz]
            cases hb0 : (b == 0) <;> rfl
        · have h5 : (op == 5) = false := by have := eq_of_beq h4; subst this; rfl
          simp only [cond_true, cond_false, hz, h5]
          cases hb0 : (b == 0)
          · have := hd (beq_eq_false_iff_ne.1 hb0)
            simp only [cond_false]
            rw [wrap_id this.1 this.2]
          · rfl
      · simp only [cond_true, cond_false]
        rw [wrap_id hm.1 hm.2]
    · simp only [cond_true, cond_false]
      rw [wrap_id (by omega) (by omega)]
  · simp only [cond_true]
    rw [wrap_id (by omega) (by omega)]

theorem p_spec_l2Binary (op a b : Int) (ha : isWd a) (hb : isWd b) : F_spec_l2Binary op a b = some (((binw op a b).2, ((binw op a b).1, ())), (), ()) := by
  have sa := sgn_in a
  have sb := sgn_in b
  have hz := sgn_zero hb
  have ea := wdo_id ha
  have eb := wdo_id hb
  have hm : -9223372036854775808 ≤ sgn a * sgn b ∧ sgn a * sgn b ≤ 9223372036854775807 := by
    have h1 : (sgn a * sgn b).natAbs ≤ 32768 * 32768 := by
      rw [Int.natAbs_mul]
      exact Nat.mul_le_mul (by omega) (by omega)
    omega
  have hd : b ≠ 0 → -9223372036854775808 ≤ Int.tdiv (sgn a) (sgn b) ∧ Int.tdiv (sgn a) (sgn b) ≤ 9223372036854775807 := fun h0 => by
    have h1 := Int.natAbs_tdiv_le_natAbs (sgn a) (sgn b)
    omega
  unfold F_spec_l2Binary binw
  simp only [p_spec_WordOf, p_spec_SignedOf, p_spec_l2Bit, Option.bind_some, wrap_wdo, ea, eb]
  cases h1 : (op == 1)
  · cases h2 : (op == 2)
    · cases h3 : (op == 3)
      · cases h4 : (op == 4)
        · cases h5 : (op == 5)
          · have hi := sgn_inj ha hb
            obtain ⟨x, hx, rfl⟩ := natW ha
            obtain ⟨y, hy, rfl⟩ := natW hb
            have g1 := bvand hx hy
            have g2 := bvor hx hy
            have g3 := bvxor hx hy
            simp only [cond_false, Int.toNat_natCast, g1.1, g2.1, g3.1, hi]
            cases (op == 6) <;> cases (op == 7) <;> cases (op == 8) <;> try rfl
            cases (op == 9)
            · cases (op == 10)
              · rfl
              · cases ((x : Int) == y) <;> rfl
            · cases decide (sgn (x : Int) < sgn y) <;> rfl
          · simp only [cond_true, cond_false, hz]
            cases hb0 : (b == 0) <;> rfl
        · simp only [cond_true, cond_false, hz]
          cases hb0 : (b == 0)
          · have := hd (beq_eq_false_iff_ne.1 hb0)
            simp only [cond_false]
            rw [wrap_id this.1 this.2]
          · rfl
      · simp only [cond_true, cond_false]
        rw [wrap_id hm.1 hm.2, wdo_mul (sgn a), sgn_wdo, sgn_wdo, ← wdo_mul]
    · simp only [cond_true, cond_false]
      rw [wrap_id (by omega) (by omega), wdo_sub (sgn a), sgn_wdo, sgn_wdo, ← wdo_sub]
  · simp only [cond_true]
    rw [wrap_id (by omega) (by omega), wdo_add (sgn a), sgn_wdo, sgn_wdo, ← wdo_add]

/-- An op of two words upside down. -/
def binv (op a b : Int) : Int × Int := bif (binw op (compl a) (compl b)).1 == 0 then (0, compl (binw op (compl a) (compl b)).2) else ((binw op (compl a) (compl b)).1, 0)
theorem binw_bad (op a b : Int) (h : ((binw op a b).1 == 0) = false) : (binw op a b).2 = 0 := by
  revert h
  unfold binw
  cases (op == 1)
  · cases (op == 2)
    · cases (op == 3)
      · cases (op == 4)
        · cases (op == 5)
          · cases (op == 6) <;> cases (op == 7) <;> cases (op == 8) <;> cases (op == 9) <;> cases (op == 10) <;> simp
          · cases (b == 0) <;> simp
        · cases (b == 0) <;> simp
      · simp
    · simp
  · simp

theorem p_spec_BinaryInv (op a b : Int) : F_spec_BinaryInv op a b = some (((binv op a b), ()), (), ()) := by
  simp only [F_spec_BinaryInv, p_spec_Complement, p_spec_l2Binary _ _ _ (compl_isWd a) (compl_isWd b), Option.bind_some, binv, bne]
  cases h : ((binw op (compl a) (compl b)).1 == 0) <;> rfl

theorem p_impl_BinaryInv (op a b : Int) : F_impl_BinaryInv op a b = some (((binv op a b), ()), (), ()) := by
  simp only [F_impl_BinaryInv, p_impl_Complement, p_impl_BinaryOf _ _ _ (compl_isWd a) (compl_isWd b), Option.bind_some, binv]
  cases h : ((binw op (compl a) (compl b)).1 == 0)
  · simp only [cond_false]
    rw [binw_bad _ _ _ h]
  · simp only [cond_true]
    rw [eq_of_beq h]

theorem binv_isWd (op a b : Int) : isWd (binv op a b).2 := by
  unfold binv
  cases h : ((binw op (compl a) (compl b)).1 == 0)
  · unfold isWd; simp
  · exact compl_isWd _
def aw (l : Li) : Prop := ∀ x ∈ l, isWd x
theorem aw_get {l : Li} (h : aw l) {i : Nat} (hi : i < l.length) : isWd (l.getD i 0) := by
  rw [List.getD_eq_getElem?_getD, List.getElem?_eq_getElem hi]
  exact h _ (List.getElem_mem hi)
theorem aw_getD {l : Li} (h : aw l) (i : Nat) : isWd (l.getD i 0) := by
  rcases Nat.lt_or_ge i l.length with hi | hi
  · exact aw_get h hi
  · rw [List.getD_eq_getElem?_getD, List.getElem?_eq_none hi]; unfold isWd; simp
theorem aw_set {l : Li} (h : aw l) {i : Nat} {v : Int} (hv : isWd v) : aw (l.set i v) := fun x hx => by
  rcases List.mem_or_eq_of_mem_set hx with hx | rfl
  · exact h x hx
  · exact hv
theorem ib_in {x : Int} {n : Nat} (h0 : 0 ≤ x) (h1 : x < n) : ib x n = true := by simp [ib, h0, h1]
theorem kz : K.zero (.int .i64) = (0 : Int) := rfl
def argsR (op : Int) : Nat := bif op == 4 || op == 5 || op == 6 then 4 else bif op == 9 || op == 10 || op == 12 then 1 else bif op == 13 then 0 else 2

theorem p_spec_l10Args (op : Int) : F_spec_l10Args op = some (((argsR op : Int), ()), (), ()) := by
  unfold F_spec_l10Args argsR
  cases (op == 4) <;> cases (op == 5) <;> cases (op == 6) <;> try rfl
  cases (op == 9) <;> cases (op == 10) <;> cases (op == 12) <;> try rfl
  cases (op == 13) <;> rfl

theorem ops13 {op : Int} (h : 1 ≤ op ∧ op ≤ 13) : op = 1 ∨ op = 2 ∨ op = 3 ∨ op = 4 ∨ op = 5 ∨ op = 6 ∨ op = 7 ∨ op = 8 ∨ op = 9 ∨ op = 10 ∨ op = 11 ∨ op = 12 ∨ op = 13 := by omega

theorem p_impl_ArgsOfRegs (op : Int) : F_impl_ArgsOfRegs op = some ((bif decide (1 ≤ op) && decide (op ≤ 13) then (0, (argsR op : Int)) else (3, 0), ()), (), ()) := by
  unfold F_impl_ArgsOfRegs
  simp only [p_impl_within, Option.bind_some]
  cases h : (decide ((1 : Int) ≤ op) && decide (op ≤ 13))
  · rfl
  · simp only [Bool.and_eq_true, decide_eq_true_eq] at h
    rcases ops13 h with rfl | rfl | rfl | rfl | rfl | rfl | rfl | rfl | rfl | rfl | rfl | rfl | rfl <;> rfl

def opAt (code : Li) (pc : Int) : Int := code.getD pc.toNat 0
def wAt (code : Li) (pc : Int) : Li := (code.take (pc.toNat + 1 + argsR (opAt code pc))).drop (pc.toNat + 1)
/-- Is an instruction there whole? -/
def insOk (code : Li) (pc : Int) : Bool := decide (pc < code.length) && ((decide (1 ≤ opAt code pc) && decide (opAt code pc ≤ 13)) && decide (pc + argsR (opAt code pc) < code.length))
theorem argsR_le (op : Int) : argsR op ≤ 4 := by
  unfold argsR
  cases (op == 4 || op == 5 || op == 6) <;> cases (op == 9 || op == 10 || op == 12) <;> cases (op == 13) <;> simp
theorem insOk_spec {code : Li} {pc : Int} (h : insOk code pc = true) : pc < code.length ∧ (1 ≤ opAt code pc ∧ opAt code pc ≤ 13) ∧ pc + argsR (opAt code pc) < code.length := by
  simp only [insOk, Bool.and_eq_true, decide_eq_true_eq] at h
  exact h
theorem wAt_len {code : Li} {pc : Int} (h0 : 0 ≤ pc) (h : insOk code pc = true) : (wAt code pc).length = argsR (opAt code pc) := by
  obtain ⟨h1, h2, h3⟩ := insOk_spec h
  simp only [wAt, List.length_drop, List.length_take]
  omega
theorem wAt_get {code : Li} {pc : Int} (h0 : 0 ≤ pc) (h : insOk code pc = true) {i : Nat} (hi : i < argsR (opAt code pc)) : (wAt code pc).getD i 0 = code.getD (pc.toNat + 1 + i) 0 := by
  simp only [wAt, List.getD_eq_getElem?_getD, List.getElem?_drop, List.getElem?_take]
  rw [if_pos (by omega)]
theorem wAt_aw {code : Li} (pc : Int) (h : aw code) : aw (wAt code pc) := fun x hx => h x (List.mem_of_mem_take (List.mem_of_mem_drop hx))

theorem p_impl_instruction_rm (code : Li) (pc : Int) (h0 : 0 ≤ pc) (h1 : pc ≤ 65535) (hn : code.length ≤ 400) :
    F_impl_instruction_rm code pc = some ((bif insOk code pc then (opAt code pc, (wAt code pc, (true, ()))) else (0, ([], (false, ())))), (), ()) := by
  have ha := argsR_le (opAt code pc)
  unfold F_impl_instruction_rm
  simp only [p_impl_ArgsOfRegs, Option.bind_some, kz]
  rw [show code.getD pc.toNat (0 : Int) = opAt code pc from rfl]
  by_cases h2 : pc < code.length
  · rw [decide_eq_false (show ¬ pc ≥ (code.length : Int) by omega), ib_in h0 h2]
    simp only [cond_false, cond_true]
    cases h3 : (decide ((1 : Int) ≤ opAt code pc) && decide (opAt code pc ≤ 13))
    · simp only [insOk, h3, Bool.false_and, Bool.and_false, cond_false]; rfl
    · simp only [cond_true, insOk, h3, Bool.true_and, decide_eq_true h2]
      have e1 := wrap_id (x := pc + (argsR (opAt code pc) : Int)) (by omega) (by omega)
      have e2 := wrap_id (x := pc + 1) (by omega) (by omega)
      have e3 := wrap_id (x := pc + 1 + (argsR (opAt code pc) : Int)) (by omega) (by omega)
      simp only [e1, e2, e3]
      rw [show ((0 : Int) != 0) = false from rfl]
      simp only [cond_false, Option.bind_some]
      by_cases h4 : pc + (argsR (opAt code pc) : Int) < code.length
      · rw [decide_eq_false (show ¬ pc + (argsR (opAt code pc) : Int) ≥ (code.length : Int) by omega), decide_eq_true (show 0 ≤ pc + 1 ∧ pc + 1 ≤ pc + 1 + (argsR (opAt code pc) : Int) ∧ pc + 1 + (argsR (opAt code pc) : Int) ≤ (code.length : Int) by omega), decide_eq_true h4]
        simp only [cond_false, cond_true, wAt]
        rw [show (pc + 1 + (argsR (opAt code pc) : Int)).toNat = pc.toNat + 1 + argsR (opAt code pc) by omega, show (pc + 1).toNat = pc.toNat + 1 by omega]
      · rw [decide_eq_true (show pc + (argsR (opAt code pc) : Int) ≥ (code.length : Int) by omega), decide_eq_false h4]
        rfl
  · rw [decide_eq_true (show pc ≥ (code.length : Int) by omega)]
    simp only [insOk, decide_eq_false h2, Bool.false_and, cond_false, cond_true]

abbrev gw (w : Li) (i : Nat) : Int := w.getD i 0
def regsR (op : Int) (w : Li) : Li := bif op == 1 || op == 2 || op == 9 || op == 11 then [gw w 0] else bif op == 3 then [gw w 1] else bif op == 4 || op == 5 || op == 7 || op == 8 then [gw w 0, gw w 1] else
  bif op == 6 then [gw w 0, gw w 1, gw w 2] else []
theorem len4 : ∀ {w : Li}, w.length = 4 → ∃ a b c d, w = [a, b, c, d]
  | [a, b, c, d], _ => ⟨a, b, c, d, rfl⟩
theorem len2 : ∀ {w : Li}, w.length = 2 → ∃ a b, w = [a, b]
  | [a, b], _ => ⟨a, b, rfl⟩
theorem len1 : ∀ {w : Li}, w.length = 1 → ∃ a, w = [a]
  | [a], _ => ⟨a, rfl⟩

theorem p_impl_regsOf (op : Int) (w : Li) (h : 1 ≤ op ∧ op ≤ 13) (hw : w.length = argsR op) : F_impl_regsOf op w = some ((regsR op w, ()), (), ()) := by
  rcases ops13 h with rfl | rfl | rfl | rfl | rfl | rfl | rfl | rfl | rfl | rfl | rfl | rfl | rfl
  all_goals
    first
      | (obtain ⟨a, b, c, d, rfl⟩ := len4 hw; rfl)
      | (obtain ⟨a, b, rfl⟩ := len2 hw; rfl)
      | (obtain ⟨a, rfl⟩ := len1 hw; rfl)
      | rfl

theorem p_do_f1 (x : Int) : F_impl_RegMachine_do_f1 x = some ((decide (x ≥ 24), ()), (), ()) := rfl

theorem p_slices_IndexFunc_int64_rm (l : Li) (hm : l.length ≤ maxLen) : ∃ r : Int, (decide (r ≥ 0) = l.any (fun x => decide (x ≥ 24))) ∧ F_slices_IndexFunc_int64_rm l = some ((r, ()), (), ()) := by
  have key : ∀ (r : Li) (i : Nat), l.drop i = r → i ≤ l.length → ∃ z : Int, (decide (z ≥ 0) = r.any (fun x => decide (x ≥ 24))) ∧
      (match l_slices_IndexFunc_int64_rm_l2 ((l, ((l.length : Int), ((i : Int), ()))), (), ()) with
        | some (.inl y3) => z = -1
        | some (.inr z4) => z4.1.1 = z
        | none => False) := by
    intro r
    induction r with
    | nil =>
      intro i hd hle
      have : i = l.length := by have := congrArg List.length hd; simp at this; omega
      subst this
      refine ⟨-1, rfl, ?_⟩
      unfold l_slices_IndexFunc_int64_rm_l2
      rw [lim_eq]
      simp only [s_slices_IndexFunc_int64_rm_l2, dec_self, cond_false]
    | cons d r ih =>
      intro i hd hle
      have hlt : i < l.length := by have := congrArg List.length hd; simp at this; omega
      have hg : l[i]? = some d := by
        have := congrArg (·[0]?) hd
        simpa using this
      unfold l_slices_IndexFunc_int64_rm_l2
      rw [lim_eq]
      simp only [s_slices_IndexFunc_int64_rm_l2, dec_lt hlt, cond_true, ib_nat hlt, Int.toNat_natCast, getD_of hg, p_do_f1, Option.bind_some, wrap_succ hlt hm]
      cases hdd : decide (d ≥ 24)
      · simp only [cond_false]
        obtain ⟨z, h1, h2⟩ := ih (i + 1) (by rw [← List.drop_drop, hd]; rfl) hlt
        exact ⟨z, by rw [h1, List.any_cons, hdd, Bool.false_or], h2⟩
      · simp only [cond_true]
        exact ⟨(i : Int), by rw [List.any_cons, hdd, Bool.true_or]; simp, rfl⟩
  obtain ⟨z, h1, h2⟩ := key l 0 rfl (Nat.zero_le _)
  refine ⟨z, h1, ?_⟩
  simp only [F_slices_IndexFunc_int64_rm]
  rw [Int.natCast_zero] at h2
  cases hq : l_slices_IndexFunc_int64_rm_l2 ((l, ((l.length : Int), ((0 : Int), ()))), (), ()) with
  | none => rw [hq] at h2; exact h2.elim
  | some q =>
    rw [hq] at h2
    cases q with
    | inl y => simp only [Option.bind_some]; simp only at h2; rw [h2]
    | inr y => simp only [Option.bind_some]; simp only at h2; rw [h2]

theorem p_slices_ContainsFunc_int64_rm (l : Li) (hm : l.length ≤ maxLen) : F_slices_ContainsFunc_int64_rm l = some ((l.any (fun x => decide (x ≥ 24)), ()), (), ()) := by
  obtain ⟨r, h1, h2⟩ := p_slices_IndexFunc_int64_rm l hm
  simp only [F_slices_ContainsFunc_int64_rm, h2, Option.bind_some, h1]

/-- What an instruction names is not there. -/
def badC (op : Int) (w cl : Li) : Bool := bif op == 2 then !decide (gw w 1 < (cl.length : Int)) else bif op == 3 then !decide (gw w 0 < (cl.length : Int)) else false
def badR (op : Int) (w : Li) : Bool := (regsR op w).any (fun x => decide (x ≥ 24))
abbrev rg_ (rg : Li) (x : Int) : Int := rg.getD x.toNat 0
abbrev RSt : Type := Int × Int × Bool × Li × Li
/-- An instruction done: a trap; pc, signature, done, registers, cells. -/
def doR (op : Int) (w : Li) (pc sig : Int) (dn : Bool) (rg cl : Li) : Int × RSt :=
  bif op == 1 then (0, pc, sig, dn, rg.set (gw w 0).toNat (gw w 1), cl) else
  bif op == 2 then (0, pc, sig, dn, rg.set (gw w 0).toNat (rg_ cl (gw w 1)), cl) else
  bif op == 3 then (0, pc, sig, dn, rg, cl.set (gw w 0).toNat (rg_ rg (gw w 1))) else
  bif op == 4 then (
    bif !(decide (0 ≤ sgn (compl (rg_ rg (gw w 1)))) && decide (sgn (compl (rg_ rg (gw w 1))) ≤ gw w 3 - 1)) then (3, pc, sig, dn, rg, cl) else
    bif !decide (gw w 2 + sgn (compl (rg_ rg (gw w 1))) < (cl.length : Int)) then (1, pc, sig, dn, rg, cl) else
    (0, pc, sig, dn, rg.set (gw w 0).toNat (rg_ cl (gw w 2 + sgn (compl (rg_ rg (gw w 1))))), cl)) else
  bif op == 5 then (
    bif !(decide (0 ≤ sgn (compl (rg_ rg (gw w 0)))) && decide (sgn (compl (rg_ rg (gw w 0))) ≤ gw w 3 - 1)) then (3, pc, sig, dn, rg, cl) else
    bif !decide (gw w 2 + sgn (compl (rg_ rg (gw w 0))) < (cl.length : Int)) then (1, pc, sig, dn, rg, cl) else
    (0, pc, sig, dn, rg, cl.set (gw w 2 + sgn (compl (rg_ rg (gw w 0)))).toNat (rg_ rg (gw w 1)))) else
  bif op == 6 then (
    bif (binv (gw w 3) (rg_ rg (gw w 1)) (rg_ rg (gw w 2))).1 == 0 then (0, pc, sig, dn, rg.set (gw w 0).toNat (binv (gw w 3) (rg_ rg (gw w 1)) (rg_ rg (gw w 2))).2, cl) else
    bif (binv (gw w 3) (rg_ rg (gw w 1)) (rg_ rg (gw w 2))).1 == 3 then (1, pc, sig, dn, rg, cl) else ((binv (gw w 3) (rg_ rg (gw w 1)) (rg_ rg (gw w 2))).1, pc, sig, dn, rg, cl)) else
  bif op == 7 then (0, pc, sig, dn, rg.set (gw w 0).toNat (compl (negw (compl (rg_ rg (gw w 1))))), cl) else
  bif op == 8 then (0, pc, sig, dn, rg.set (gw w 0).toNat (compl (notw (compl (rg_ rg (gw w 1))))), cl) else
  bif op == 9 then (bif rg_ rg (gw w 0) != 65535 then (0, pc, sig, dn, rg.set (gw w 0).toNat 65534, cl) else (0, pc, sig, dn, rg, cl)) else
  bif op == 10 then (0, gw w 0, sig, dn, rg, cl) else
  bif op == 11 then (bif rg_ rg (gw w 0) == 65535 then (0, gw w 1, sig, dn, rg, cl) else (0, pc, sig, dn, rg, cl)) else
  bif op == 12 then (0, pc, sigw sig (gw w 0), dn, rg, cl) else
  bif op == 13 then (0, pc, sig, true, rg, cl) else (0, pc, sig, dn, rg, cl)
theorem p_do_f2 (x pc sig us tr : Int) (dn : Bool) (rg cl : Li) : F_impl_RegMachine_do_f2 x pc sig us tr dn rg cl = some ((decide (x < (cl.length : Int)), ()), ((), ((pc, (sig, (us, (tr, (dn, ()))))), ())), (rg, (cl, ()))) := rfl
abbrev outDo (us tr : Int) (r : Int × RSt) : (Int × Unit) × ((Int × Int × Int × Int × Bool × Unit) × Unit) × (Li × Li × Unit) :=
  ((r.1, ()), ((r.2.1, (r.2.2.1, (us, (tr, (r.2.2.2.1, ()))))), ()), (r.2.2.2.2.1, (r.2.2.2.2.2, ())))
theorem i02 : ib (0 : Int) 2 = true := by decide
theorem i12 : ib (1 : Int) 2 = true := by decide
theorem i01 : ib (0 : Int) 1 = true := by decide
theorem i04 : ib (0 : Int) 4 = true := by decide
theorem i14 : ib (1 : Int) 4 = true := by decide
theorem i24 : ib (2 : Int) 4 = true := by decide
theorem i34 : ib (3 : Int) 4 = true := by decide
theorem not_ge {x : Int} (h : decide (x ≥ 24) = false) : x < 24 := by have := of_decide_eq_false h; omega
theorem bif_same {α : Type} {b : Bool} {x y z : α} (h1 : b = true → x = z) (h2 : b = false → y = z) : (bif b then x else y) = z := by cases b <;> simp [h1, h2]

theorem p_impl_RegMachine_do (op : Int) (w : Li) (pc sig us tr : Int) (dn : Bool) (rg cl : Li) (h : 1 ≤ op ∧ op ≤ 13) (hw : w.length = argsR op) (hww : aw w) (hr : rg.length = 24) (hrw : aw rg) (hc : cl.length ≤ 80) :
    F_impl_RegMachine_do op w pc sig us tr dn rg cl = some (outDo us tr (bif badR op w || badC op w cl then (1, pc, sig, dn, rg, cl) else doR op w pc sig dn rg cl)) := by
  have hm : (regsR op w).length ≤ maxLen := by
    unfold regsR maxLen
    cases (op == 1 || op == 2 || op == 9 || op == 11) <;> cases (op == 3) <;> cases (op == 4 || op == 5 || op == 7 || op == 8) <;> cases (op == 6) <;> simp
  unfold F_impl_RegMachine_do
  simp only [p_impl_regsOf op w h hw, p_slices_ContainsFunc_int64_rm _ hm, Option.bind_some]
  rw [show (regsR op w).any (fun x => decide (x ≥ 24)) = badR op w from rfl]
  cases hb : badR op w
  · rw [Bool.false_or]
    simp only [cond_false]
    rcases ops13 h with rfl | rfl | rfl | rfl | rfl | rfl | rfl | rfl | rfl | rfl | rfl | rfl | rfl
    · obtain ⟨a, b, rfl⟩ := len2 hw
      have ha : isWd a := hww a (by simp)
      have hb' : isWd b := hww b (by simp)
      unfold isWd at ha hb'
      simp only [badR, regsR, gw, Int.reduceBEq, Bool.or_true, Bool.true_or, Bool.or_false, cond_true, cond_false, List.getD_cons_zero, List.getD_cons_succ, List.any_cons, List.any_nil] at hb
      have := not_ge hb
      simp only [Int.reduceBEq, cond_true, cond_false, badC, doR, List.length_cons, List.length_nil, Nat.zero_add, Nat.reduceAdd, i02, i12, kz, Int.reduceToNat, List.getD_cons_zero, List.getD_cons_succ, gw, rg_, p_do_f2, Option.bind_some]
      rw [ib_in ha.1 (by omega)]
      rfl
    · obtain ⟨a, b, rfl⟩ := len2 hw
      have hwa : isWd a := hww a (by simp)
      have hwb : isWd b := hww b (by simp)
      unfold isWd at hwa hwb
      simp only [badR, regsR, gw, Int.reduceBEq, Bool.or_true, Bool.true_or, Bool.or_false, Bool.false_or, Bool.or_eq_false_iff, cond_true, cond_false, List.getD_cons_zero, List.getD_cons_succ, List.any_cons, List.any_nil] at hb
      have r1 := not_ge hb
      simp only [Int.reduceBEq, cond_true, cond_false, badC, doR, List.length_cons, List.length_nil, Nat.zero_add, Nat.reduceAdd, i01, i02, i12, i04, i14, i24, i34, kz, Int.reduceToNat, List.getD_cons_zero, List.getD_cons_succ, gw, rg_, p_do_f2, Option.bind_some, p_impl_Complement, p_impl_SignedOf, p_impl_within, p_impl_BinaryInv, p_impl_NegOf, p_impl_NotOf, p_impl_SignOf]
      cases hd : decide (b < (cl.length : Int))
      · rfl
      · rw [ib_in hwb.1 (of_decide_eq_true hd), ib_in hwa.1 (by omega)]
        rfl
    · obtain ⟨a, b, rfl⟩ := len2 hw
      have hwa : isWd a := hww a (by simp)
      have hwb : isWd b := hww b (by simp)
      unfold isWd at hwa hwb
      simp only [badR, regsR, gw, Int.reduceBEq, Bool.or_true, Bool.true_or, Bool.or_false, Bool.false_or, Bool.or_eq_false_iff, cond_true, cond_false, List.getD_cons_zero, List.getD_cons_succ, List.any_cons, List.any_nil] at hb
      have r1 := not_ge hb
      simp only [Int.reduceBEq, cond_true, cond_false, badC, doR, List.length_cons, List.length_nil, Nat.zero_add, Nat.reduceAdd, i01, i02, i12, i04, i14, i24, i34, kz, Int.reduceToNat, List.getD_cons_zero, List.getD_cons_succ, gw, rg_, p_do_f2, Option.bind_some, p_impl_Complement, p_impl_SignedOf, p_impl_within, p_impl_BinaryInv, p_impl_NegOf, p_impl_NotOf, p_impl_SignOf]
      cases hd : decide (a < (cl.length : Int))
      · rfl
      · rw [ib_in hwb.1 (by omega), ib_in hwa.1 (of_decide_eq_true hd)]
        rfl
    · obtain ⟨a, b, c, d, rfl⟩ := len4 hw
      have hwa : isWd a := hww a (by simp)
      have hwb : isWd b := hww b (by simp)
      have hwc : isWd c := hww c (by simp)
      have hwd : isWd d := hww d (by simp)
      unfold isWd at hwa hwb hwc hwd
      simp only [badR, regsR, gw, Int.reduceBEq, Bool.or_true, Bool.true_or, Bool.or_false, Bool.false_or, Bool.or_eq_false_iff, cond_true, cond_false, List.getD_cons_zero, List.getD_cons_succ, List.any_cons, List.any_nil] at hb
      have r1 := not_ge hb.1
      have r2 := not_ge hb.2
      have hs := sgn_in (compl (rg.getD b.toNat 0))
      have e1 := wrap_id (x := d - 1) (by omega) (by omega)
      have e2 := wrap_id (x := c + sgn (compl (rg.getD b.toNat 0))) (by omega) (by omega)
      simp only [Int.reduceBEq, cond_true, cond_false, badC, doR, List.length_cons, List.length_nil, Nat.zero_add, Nat.reduceAdd, i01, i02, i12, i04, i14, i24, i34, kz, Int.reduceToNat, List.getD_cons_zero, List.getD_cons_succ, gw, rg_, p_do_f2, Option.bind_some, p_impl_Complement, p_impl_SignedOf, p_impl_within, p_impl_BinaryInv, p_impl_NegOf, p_impl_NotOf, p_impl_SignOf]
      rw [ib_in hwb.1 (by omega)]
      simp only [cond_true, e1, e2]
      cases hk : (decide (0 ≤ sgn (compl (rg.getD b.toNat 0))) && decide (sgn (compl (rg.getD b.toNat 0)) ≤ d - 1))
      · rfl
      · simp only [Bool.and_eq_true, decide_eq_true_eq] at hk
        cases hd' : decide (c + sgn (compl (rg.getD b.toNat 0)) < (cl.length : Int))
        · rfl
        · rw [ib_in (by omega) (of_decide_eq_true hd'), ib_in hwa.1 (by omega)]
          rfl
    · obtain ⟨a, b, c, d, rfl⟩ := len4 hw
      have hwa : isWd a := hww a (by simp)
      have hwb : isWd b := hww b (by simp)
      have hwc : isWd c := hww c (by simp)
      have hwd : isWd d := hww d (by simp)
      unfold isWd at hwa hwb hwc hwd
      simp only [badR, regsR, gw, Int.reduceBEq, Bool.or_true, Bool.true_or, Bool.or_false, Bool.false_or, Bool.or_eq_false_iff, cond_true, cond_false, List.getD_cons_zero, List.getD_cons_succ, List.any_cons, List.any_nil] at hb
      have r1 := not_ge hb.1
      have r2 := not_ge hb.2
      have hs := sgn_in (compl (rg.getD a.toNat 0))
      have e1 := wrap_id (x := d - 1) (by omega) (by omega)
      have e2 := wrap_id (x := c + sgn (compl (rg.getD a.toNat 0))) (by omega) (by omega)
      simp only [Int.reduceBEq, cond_true, cond_false, badC, doR, List.length_cons, List.length_nil, Nat.zero_add, Nat.reduceAdd, i01, i02, i12, i04, i14, i24, i34, kz, Int.reduceToNat, List.getD_cons_zero, List.getD_cons_succ, gw, rg_, p_do_f2, Option.bind_some, p_impl_Complement, p_impl_SignedOf, p_impl_within, p_impl_BinaryInv, p_impl_NegOf, p_impl_NotOf, p_impl_SignOf]
      rw [ib_in hwa.1 (by omega), ib_in hwb.1 (by omega)]
      simp only [cond_true, e1, e2]
      cases hk : (decide (0 ≤ sgn (compl (rg.getD a.toNat 0))) && decide (sgn (compl (rg.getD a.toNat 0)) ≤ d - 1))
      · rfl
      · simp only [Bool.and_eq_true, decide_eq_true_eq] at hk
        cases hd' : decide (c + sgn (compl (rg.getD a.toNat 0)) < (cl.length : Int))
        · rfl
        · rw [ib_in (x := c + sgn (compl (rg.getD a.toNat 0))) (by omega) (of_decide_eq_true hd')]
          rfl
    · obtain ⟨a, b, c, d, rfl⟩ := len4 hw
      have hwa : isWd a := hww a (by simp)
      have hwb : isWd b := hww b (by simp)
      have hwc : isWd c := hww c (by simp)
      have hwd : isWd d := hww d (by simp)
      unfold isWd at hwa hwb hwc hwd
      simp only [badR, regsR, gw, Int.reduceBEq, Bool.or_true, Bool.true_or, Bool.or_false, Bool.false_or, Bool.or_eq_false_iff, cond_true, cond_false, List.getD_cons_zero, List.getD_cons_succ, List.any_cons, List.any_nil] at hb
      have r1 := not_ge hb.1
      have r2 := not_ge hb.2.1
      have r3 := not_ge hb.2.2
      simp only [Int.reduceBEq, cond_true, cond_false, badC, doR, List.length_cons, List.length_nil, Nat.zero_add, Nat.reduceAdd, i01, i02, i12, i04, i14, i24, i34, kz, Int.reduceToNat, List.getD_cons_zero, List.getD_cons_succ, gw, rg_, p_do_f2, Option.bind_some, p_impl_Complement, p_impl_SignedOf, p_impl_within, p_impl_BinaryInv, p_impl_NegOf, p_impl_NotOf, p_impl_SignOf]
      rw [ib_in hwa.1 (by omega), ib_in hwb.1 (by omega), ib_in hwc.1 (by omega)]
      simp only [cond_true]
      cases h0 : ((binv d (rg.getD b.toNat 0) (rg.getD c.toNat 0)).1 == 0)
      · cases h3 : ((binv d (rg.getD b.toNat 0) (rg.getD c.toNat 0)).1 == 3) <;> rfl
      · rfl
    · obtain ⟨a, b, rfl⟩ := len2 hw
      have hwa : isWd a := hww a (by simp)
      have hwb : isWd b := hww b (by simp)
      unfold isWd at hwa hwb
      simp only [badR, regsR, gw, Int.reduceBEq, Bool.or_true, Bool.true_or, Bool.or_false, Bool.false_or, Bool.or_eq_false_iff, cond_true, cond_false, List.getD_cons_zero, List.getD_cons_succ, List.any_cons, List.any_nil] at hb
      have r1 := not_ge hb.1
      have r2 := not_ge hb.2
      simp only [Int.reduceBEq, cond_true, cond_false, badC, doR, List.length_cons, List.length_nil, Nat.zero_add, Nat.reduceAdd, i01, i02, i12, i04, i14, i24, i34, kz, Int.reduceToNat, List.getD_cons_zero, List.getD_cons_succ, gw, rg_, p_do_f2, Option.bind_some, p_impl_Complement, p_impl_SignedOf, p_impl_within, p_impl_BinaryInv, p_impl_NegOf, p_impl_NotOf, p_impl_SignOf]
      rw [ib_in hwa.1 (by omega), ib_in hwb.1 (by omega)]
      rfl
    · obtain ⟨a, b, rfl⟩ := len2 hw
      have hwa : isWd a := hww a (by simp)
      have hwb : isWd b := hww b (by simp)
      unfold isWd at hwa hwb
      simp only [badR, regsR, gw, Int.reduceBEq, Bool.or_true, Bool.true_or, Bool.or_false, Bool.false_or, Bool.or_eq_false_iff, cond_true, cond_false, List.getD_cons_zero, List.getD_cons_succ, List.any_cons, List.any_nil] at hb
      have r1 := not_ge hb.1
      have r2 := not_ge hb.2
      simp only [Int.reduceBEq, cond_true, cond_false, badC, doR, List.length_cons, List.length_nil, Nat.zero_add, Nat.reduceAdd, i01, i02, i12, i04, i14, i24, i34, kz, Int.reduceToNat, List.getD_cons_zero, List.getD_cons_succ, gw, rg_, p_do_f2, Option.bind_some, p_impl_Complement, p_impl_SignedOf, p_impl_within, p_impl_BinaryInv, p_impl_NegOf, p_impl_NotOf, p_impl_SignOf]
      rw [ib_in hwa.1 (by omega), ib_in hwb.1 (by omega)]
      rfl
    · obtain ⟨a, rfl⟩ := len1 hw
      have hwa : isWd a := hww a (by simp)
      unfold isWd at hwa
      simp only [badR, regsR, gw, Int.reduceBEq, Bool.or_true, Bool.true_or, Bool.or_false, Bool.false_or, Bool.or_eq_false_iff, cond_true, cond_false, List.getD_cons_zero, List.getD_cons_succ, List.any_cons, List.any_nil] at hb
      have r1 := not_ge hb
      simp only [Int.reduceBEq, cond_true, cond_false, badC, doR, List.length_cons, List.length_nil, Nat.zero_add, Nat.reduceAdd, i01, i02, i12, i04, i14, i24, i34, kz, Int.reduceToNat, List.getD_cons_zero, List.getD_cons_succ, gw, rg_, p_do_f2, Option.bind_some, p_impl_Complement, p_impl_SignedOf, p_impl_within, p_impl_BinaryInv, p_impl_NegOf, p_impl_NotOf, p_impl_SignOf]
      rw [ib_in hwa.1 (by omega)]
      simp only [cond_true]
      cases (rg.getD a.toNat 0 != 65535) <;> rfl
    · obtain ⟨a, rfl⟩ := len1 hw
      have hwa : isWd a := hww a (by simp)
      unfold isWd at hwa
      rfl
    · obtain ⟨a, b, rfl⟩ := len2 hw
      have hwa : isWd a := hww a (by simp)
      have hwb : isWd b := hww b (by simp)
      unfold isWd at hwa hwb
      simp only [badR, regsR, gw, Int.reduceBEq, Bool.or_true, Bool.true_or, Bool.or_false, Bool.false_or, Bool.or_eq_false_iff, cond_true, cond_false, List.getD_cons_zero, List.getD_cons_succ, List.any_cons, List.any_nil] at hb
      have r1 := not_ge hb
      simp only [Int.reduceBEq, cond_true, cond_false, badC, doR, List.length_cons, List.length_nil, Nat.zero_add, Nat.reduceAdd, i01, i02, i12, i04, i14, i24, i34, kz, Int.reduceToNat, List.getD_cons_zero, List.getD_cons_succ, gw, rg_, p_do_f2, Option.bind_some, p_impl_Complement, p_impl_SignedOf, p_impl_within, p_impl_BinaryInv, p_impl_NegOf, p_impl_NotOf, p_impl_SignOf]
      rw [ib_in hwa.1 (by omega)]
      simp only [cond_true]
      cases (rg.getD a.toNat 0 == 65535) <;> rfl
    · obtain ⟨a, rfl⟩ := len1 hw
      have hwa : isWd a := hww a (by simp)
      unfold isWd at hwa
      simp only [Int.reduceBEq, cond_true, cond_false, badC, doR, List.length_cons, List.length_nil, Nat.zero_add, Nat.reduceAdd, i01, i02, i12, i04, i14, i24, i34, kz, Int.reduceToNat, List.getD_cons_zero, List.getD_cons_succ, gw, rg_, p_do_f2, Option.bind_some, p_impl_Complement, p_impl_SignedOf, p_impl_within, p_impl_BinaryInv, p_impl_NegOf, p_impl_NotOf, p_impl_SignOf]
    · rfl
  · simp only [cond_true, Bool.true_or]

abbrev RM : Type := Int × Li × Li × Int × Int × Int × Bool

theorem p_spec_l10Row (m : RM) (first size index : Int) : F_spec_l10Row m first size index =
    some ((bif !(decide (0 ≤ sgn (compl index)) && decide (sgn (compl index) ≤ IntKind.wrap .i64 (size - 1))) then (0, (3, ())) else
      bif !decide (IntKind.wrap .i64 (first + sgn (compl index)) < (m.2.2.1.length : Int)) then (0, (1, ())) else (IntKind.wrap .i64 (first + sgn (compl index)), (0, ()))), (), ()) := by
  simp only [F_spec_l10Row, p_spec_Complement, p_spec_SignedOf, p_spec_l1In, Option.bind_some]
  cases (decide (0 ≤ sgn (compl index)) && decide (sgn (compl index) ≤ IntKind.wrap .i64 (size - 1)))
  · rfl
  · simp only [Bool.not_true, cond_false]
    by_cases h : IntKind.wrap .i64 (first + sgn (compl index)) < (m.2.2.1.length : Int)
    · rw [decide_eq_true h, decide_eq_false (show ¬ IntKind.wrap .i64 (first + sgn (compl index)) ≥ (m.2.2.1.length : Int) by omega)]; rfl
    · rw [decide_eq_false h, decide_eq_true (show IntKind.wrap .i64 (first + sgn (compl index)) ≥ (m.2.2.1.length : Int) by omega)]; rfl

theorem p_spec_l10Two (a b c d pc sig us tr : Int) (dn : Bool) (rg cl : Li) (hr : rg.length = 24) (ha : 0 ≤ a) (hb : 0 ≤ b) (hc : 0 ≤ c) (ha2 : a < 24) (hb2 : b < 24) (hc2 : c < 24) :
    F_spec_l10Two [a, b, c, d] pc sig us tr dn rg cl = some (
      bif (binv d (rg.getD b.toNat 0) (rg.getD c.toNat 0)).1 == 3 then ((1, ()), ((pc, (sig, (us, (tr, (dn, ()))))), ()), (rg, (cl, ()))) else
      bif (binv d (rg.getD b.toNat 0) (rg.getD c.toNat 0)).1 == 0 then (((binv d (rg.getD b.toNat 0) (rg.getD c.toNat 0)).1, ()), ((pc, (sig, (us, (tr, (dn, ()))))), ()), (rg.set a.toNat (binv d (rg.getD b.toNat 0) (rg.getD c.toNat 0)).2, (cl, ()))) else
      (((binv d (rg.getD b.toNat 0) (rg.getD c.toNat 0)).1, ()), ((pc, (sig, (us, (tr, (dn, ()))))), ()), (rg, (cl, ())))) := by
  simp only [F_spec_l10Two, List.length_cons, List.length_nil, Nat.zero_add, Nat.reduceAdd, i04, i14, i24, i34, kz, Int.reduceToNat, List.getD_cons_zero, List.getD_cons_succ, cond_true]
  rw [ib_in hb (by omega), ib_in hc (by omega), ib_in ha (by omega)]
  simp only [cond_true, p_spec_BinaryInv, Option.bind_some]
  cases ((binv d (rg.getD b.toNat 0) (rg.getD c.toNat 0)).1 == 3)
  · cases ((binv d (rg.getD b.toNat 0) (rg.getD c.toNat 0)).1 == 0) <;> rfl
  · rfl

abbrev outSp (pc sig us tr : Int) (dn : Bool) (rg cl : Li) (r : Int × RSt) : (Int × Unit) × ((Int × Int × Int × Int × Bool × Unit) × Unit) × (Li × Li × Unit) :=
  bif r.1 != 0 then ((r.1, ()), ((pc, (sig, (us, (tr, (dn, ()))))), ()), (rg, (cl, ()))) else outDo us tr r

theorem p_spec_l10Do (code : Li) (pc sig us tr : Int) (dn : Bool) (rg cl : Li) (h0 : 0 ≤ pc) (h1 : pc ≤ 65535) (hn : code.length ≤ 400) (hcw : aw code) (hins : insOk code pc = true)
    (hr : rg.length = 24) (hrw : aw rg) (hc : cl.length ≤ 80) (hb : badR (opAt code pc) (wAt code pc) = false) (hbc : badC (opAt code pc) (wAt code pc) cl = false) :
    F_spec_l10Do code pc sig us tr dn rg cl = some (outSp pc sig us tr dn rg cl (doR (opAt code pc) (wAt code pc) (pc + 1 + argsR (opAt code pc)) sig dn rg cl)) := by
  obtain ⟨g1, g2, g3⟩ := insOk_spec hins
  have hw := wAt_len h0 hins
  have hww := wAt_aw pc hcw
  have ha := argsR_le (opAt code pc)
  have e2 := wrap_id (x := pc + 1) (by omega) (by omega)
  have e3 := wrap_id (x := pc + 1 + (argsR (opAt code pc) : Int)) (by omega) (by omega)
  have e4 : (code.take (pc + 1 + (argsR (opAt code pc) : Int)).toNat).drop (pc + 1).toNat = wAt code pc := by
    unfold wAt
    rw [show (pc + 1 + (argsR (opAt code pc) : Int)).toNat = pc.toNat + 1 + argsR (opAt code pc) by omega, show (pc + 1).toNat = pc.toNat + 1 by omega]
  have e5 : code.getD pc.toNat (0 : Int) = opAt code pc := rfl
  have e6 : ib pc code.length = true := ib_in h0 g1
  have e7 : decide (0 ≤ pc + 1 ∧ pc + 1 ≤ pc + 1 + (argsR (opAt code pc) : Int) ∧ pc + 1 + (argsR (opAt code pc) : Int) ≤ (code.length : Int)) = true := decide_eq_true (by omega)
  unfold F_spec_l10Do
  simp only [p_spec_l10Args, Option.bind_some, kz, e5, e2, e3, e4, e6, e7, cond_true]
  generalize wAt code pc = w at hw hww hb hbc ⊢
  generalize (pc + 1 + (argsR (opAt code pc) : Int)) = nx
  generalize opAt code pc = op at hw hb hbc g2 ⊢
  clear e2 e3 e4 e5 e6 e7
  · rcases ops13 g2 with rfl | rfl | rfl | rfl | rfl | rfl | rfl | rfl | rfl | rfl | rfl | rfl | rfl
    · obtain ⟨a, b, rfl⟩ := len2 hw
      have hwa : isWd a := hww a (by simp)
      have hwb : isWd b := hww b (by simp)
      unfold isWd at hwa hwb
      simp only [badR, regsR, gw, Int.reduceBEq, Bool.or_true, Bool.true_or, Bool.or_false, Bool.false_or, Bool.or_eq_false_iff, cond_true, cond_false, List.getD_cons_zero, List.getD_cons_succ, List.any_cons, List.any_nil] at hb
      have r1 := not_ge hb
      simp only [Int.reduceBEq, cond_true, cond_false, doR, List.length_cons, List.length_nil, Nat.zero_add, Nat.reduceAdd, i01, i02, i12, i04, i14, i24, i34, kz, Int.reduceToNat, List.getD_cons_zero, List.getD_cons_succ, gw, rg_, Option.bind_some, p_spec_Complement, p_spec_SignedOf, p_spec_l10Row, p_spec_NegOf, p_spec_NotOf, p_spec_SignOf]
      rw [ib_in hwa.1 (by omega)]
      rfl
    · obtain ⟨a, b, rfl⟩ := len2 hw
      have hwa : isWd a := hww a (by simp)
      have hwb : isWd b := hww b (by simp)
      unfold isWd at hwa hwb
      simp only [badR, regsR, gw, Int.reduceBEq, Bool.or_true, Bool.true_or, Bool.or_false, Bool.false_or, Bool.or_eq_false_iff, cond_true, cond_false, List.getD_cons_zero, List.getD_cons_succ, List.any_cons, List.any_nil] at hb
      have r1 := not_ge hb
      simp only [badC, gw, Int.reduceBEq, cond_true, cond_false, List.getD_cons_zero, List.getD_cons_succ, Bool.not_eq_false', decide_eq_true_eq] at hbc
      simp only [Int.reduceBEq, cond_true, cond_false, doR, List.length_cons, List.length_nil, Nat.zero_add, Nat.reduceAdd, i01, i02, i12, i04, i14, i24, i34, kz, Int.reduceToNat, List.getD_cons_zero, List.getD_cons_succ, gw, rg_, Option.bind_some, p_spec_Complement, p_spec_SignedOf, p_spec_l10Row, p_spec_NegOf, p_spec_NotOf, p_spec_SignOf]
      rw [ib_in hwb.1 hbc, ib_in hwa.1 (by omega)]
      rfl
    · obtain ⟨a, b, rfl⟩ := len2 hw
      have hwa : isWd a := hww a (by simp)
      have hwb : isWd b := hww b (by simp)
      unfold isWd at hwa hwb
      simp only [badR, regsR, gw, Int.reduceBEq, Bool.or_true, Bool.true_or, Bool.or_false, Bool.false_or, Bool.or_eq_false_iff, cond_true, cond_false, List.getD_cons_zero, List.getD_cons_succ, List.any_cons, List.any_nil] at hb
      have r1 := not_ge hb
      simp only [badC, gw, Int.reduceBEq, cond_true, cond_false, List.getD_cons_zero, List.getD_cons_succ, Bool.not_eq_false', decide_eq_true_eq] at hbc
      simp only [Int.reduceBEq, cond_true, cond_false, doR, List.length_cons, List.length_nil, Nat.zero_add, Nat.reduceAdd, i01, i02, i12, i04, i14, i24, i34, kz, Int.reduceToNat, List.getD_cons_zero, List.getD_cons_succ, gw, rg_, Option.bind_some, p_spec_Complement, p_spec_SignedOf, p_spec_l10Row, p_spec_NegOf, p_spec_NotOf, p_spec_SignOf]
      rw [ib_in hwb.1 (by omega), ib_in hwa.1 hbc]
      rfl
    · obtain ⟨a, b, c, d, rfl⟩ := len4 hw
      have hwa : isWd a := hww a (by simp)
      have hwb : isWd b := hww b (by simp)
      have hwc : isWd c := hww c (by simp)
      have hwd : isWd d := hww d (by simp)
      unfold isWd at hwa hwb hwc hwd
      simp only [badR, regsR, gw, Int.reduceBEq, Bool.or_true, Bool.true_or, Bool.or_false, Bool.false_or, Bool.or_eq_false_iff, cond_true, cond_false, List.getD_cons_zero, List.getD_cons_succ, List.any_cons, List.any_nil] at hb
      have r1 := not_ge hb.1
      have r2 := not_ge hb.2
      have hs := sgn_in (compl (rg.getD b.toNat 0))
      have e1 := wrap_id (x := d - 1) (by omega) (by omega)
      have e2 := wrap_id (x := c + sgn (compl (rg.getD b.toNat 0))) (by omega) (by omega)
      simp only [Int.reduceBEq, cond_true, cond_false, doR, List.length_cons, List.length_nil, Nat.zero_add, Nat.reduceAdd, i01, i02, i12, i04, i14, i24, i34, kz, Int.reduceToNat, List.getD_cons_zero, List.getD_cons_succ, gw, rg_, Option.bind_some, p_spec_Complement, p_spec_SignedOf, p_spec_l10Row, p_spec_NegOf, p_spec_NotOf, p_spec_SignOf]
      rw [ib_in (x := b) (by omega) (by omega)]
      simp only [cond_true, e1, e2]
      cases hk : (decide (0 ≤ sgn (compl (rg.getD b.toNat 0))) && decide (sgn (compl (rg.getD b.toNat 0)) ≤ d - 1))
      · rfl
      · simp only [Bool.and_eq_true, decide_eq_true_eq] at hk
        cases hd' : decide (c + sgn (compl (rg.getD b.toNat 0)) < (cl.length : Int))
        · rfl
        · simp only [Bool.not_true, cond_false]
          rw [show ((0 : Int) != 0) = false from rfl]
          simp only [cond_false]
          rw [ib_in (x := c + sgn (compl (rg.getD b.toNat 0))) (by omega) (of_decide_eq_true hd')]
          rw [ib_in hwa.1 (by omega)]
          rfl
    · obtain ⟨a, b, c, d, rfl⟩ := len4 hw
      have hwa : isWd a := hww a (by simp)
      have hwb : isWd b := hww b (by simp)
      have hwc : isWd c := hww c (by simp)
      have hwd : isWd d := hww d (by simp)
      unfold isWd at hwa hwb hwc hwd
      simp only [badR, regsR, gw, Int.reduceBEq, Bool.or_true, Bool.true_or, Bool.or_false, Bool.false_or, Bool.or_eq_false_iff, cond_true, cond_false, List.getD_cons_zero, List.getD_cons_succ, List.any_cons, List.any_nil] at hb
      have r1 := not_ge hb.1
      have r2 := not_ge hb.2
      have hs := sgn_in (compl (rg.getD a.toNat 0))
      have e1 := wrap_id (x := d - 1) (by omega) (by omega)
      have e2 := wrap_id (x := c + sgn (compl (rg.getD a.toNat 0))) (by omega) (by omega)
      simp only [Int.reduceBEq, cond_true, cond_false, doR, List.length_cons, List.length_nil, Nat.zero_add, Nat.reduceAdd, i01, i02, i12, i04, i14, i24, i34, kz, Int.reduceToNat, List.getD_cons_zero, List.getD_cons_succ, gw, rg_, Option.bind_some, p_spec_Complement, p_spec_SignedOf, p_spec_l10Row, p_spec_NegOf, p_spec_NotOf, p_spec_SignOf]
      rw [ib_in (x := a) (by omega) (by omega)]
      simp only [cond_true, e1, e2]
      cases hk : (decide (0 ≤ sgn (compl (rg.getD a.toNat 0))) && decide (sgn (compl (rg.getD a.toNat 0)) ≤ d - 1))
      · rfl
      · simp only [Bool.and_eq_true, decide_eq_true_eq] at hk
        cases hd' : decide (c + sgn (compl (rg.getD a.toNat 0)) < (cl.length : Int))
        · rfl
        · simp only [Bool.not_true, cond_false]
          rw [show ((0 : Int) != 0) = false from rfl]
          simp only [cond_false]
          rw [ib_in (x := c + sgn (compl (rg.getD a.toNat 0))) (by omega) (of_decide_eq_true hd')]
          rw [ib_in hwb.1 (by omega)]
          rfl
    · obtain ⟨a, b, c, d, rfl⟩ := len4 hw
      have hwa : isWd a := hww a (by simp)
      have hwb : isWd b := hww b (by simp)
      have hwc : isWd c := hww c (by simp)
      have hwd : isWd d := hww d (by simp)
      unfold isWd at hwa hwb hwc hwd
      simp only [badR, regsR, gw, Int.reduceBEq, Bool.or_true, Bool.true_or, Bool.or_false, Bool.false_or, Bool.or_eq_false_iff, cond_true, cond_false, List.getD_cons_zero, List.getD_cons_succ, List.any_cons, List.any_nil] at hb
      have r1 := not_ge hb.1
      have r2 := not_ge hb.2.1
      have r3 := not_ge hb.2.2
      simp only [Int.reduceBEq, cond_true, cond_false, doR, List.length_cons, List.length_nil, Nat.zero_add, Nat.reduceAdd, i01, i02, i12, i04, i14, i24, i34, kz, Int.reduceToNat, List.getD_cons_zero, List.getD_cons_succ, gw, rg_, Option.bind_some, p_spec_Complement, p_spec_SignedOf, p_spec_l10Row, p_spec_NegOf, p_spec_NotOf, p_spec_SignOf]
      rw [p_spec_l10Two _ _ _ _ _ _ _ _ _ _ _ hr hwa.1 hwb.1 hwc.1 (by omega) (by omega) (by omega)]
      simp only [Option.bind_some, bne]
      cases h0 : ((binv d (rg.getD b.toNat 0) (rg.getD c.toNat 0)).1 == 0)
      · cases h3 : ((binv d (rg.getD b.toNat 0) (rg.getD c.toNat 0)).1 == 3)
        · simp only [cond_false, h0, outSp, bne, Bool.not_false, cond_true]
        · rfl
      · rw [eq_of_beq h0]; rfl
    · obtain ⟨a, b, rfl⟩ := len2 hw
      have hwa : isWd a := hww a (by simp)
      have hwb : isWd b := hww b (by simp)
      unfold isWd at hwa hwb
      simp only [badR, regsR, gw, Int.reduceBEq, Bool.or_true, Bool.true_or, Bool.or_false, Bool.false_or, Bool.or_eq_false_iff, cond_true, cond_false, List.getD_cons_zero, List.getD_cons_succ, List.any_cons, List.any_nil] at hb
      have r1 := not_ge hb.1
      have r2 := not_ge hb.2
      simp only [Int.reduceBEq, cond_true, cond_false, doR, List.length_cons, List.length_nil, Nat.zero_add, Nat.reduceAdd, i01, i02, i12, i04, i14, i24, i34, kz, Int.reduceToNat, List.getD_cons_zero, List.getD_cons_succ, gw, rg_, Option.bind_some, p_spec_Complement, p_spec_SignedOf, p_spec_l10Row, p_spec_NegOf, p_spec_NotOf, p_spec_SignOf]
      rw [ib_in hwa.1 (by omega), ib_in hwb.1 (by omega)]
      rfl
    · obtain ⟨a, b, rfl⟩ := len2 hw
      have hwa : isWd a := hww a (by simp)
      have hwb : isWd b := hww b (by simp)
      unfold isWd at hwa hwb
      simp only [badR, regsR, gw, Int.reduceBEq, Bool.or_true, Bool.true_or, Bool.or_false, Bool.false_or, Bool.or_eq_false_iff, cond_true, cond_false, List.getD_cons_zero, List.getD_cons_succ, List.any_cons, List.any_nil] at hb
      have r1 := not_ge hb.1
      have r2 := not_ge hb.2
      simp only [Int.reduceBEq, cond_true, cond_false, doR, List.length_cons, List.length_nil, Nat.zero_add, Nat.reduceAdd, i01, i02, i12, i04, i14, i24, i34, kz, Int.reduceToNat, List.getD_cons_zero, List.getD_cons_succ, gw, rg_, Option.bind_some, p_spec_Complement, p_spec_SignedOf, p_spec_l10Row, p_spec_NegOf, p_spec_NotOf, p_spec_SignOf]
      rw [ib_in hwa.1 (by omega), ib_in hwb.1 (by omega)]
      rfl
    · obtain ⟨a, rfl⟩ := len1 hw
      have hwa : isWd a := hww a (by simp)
      unfold isWd at hwa
      simp only [badR, regsR, gw, Int.reduceBEq, Bool.or_true, Bool.true_or, Bool.or_false, Bool.false_or, Bool.or_eq_false_iff, cond_true, cond_false, List.getD_cons_zero, List.getD_cons_succ, List.any_cons, List.any_nil] at hb
      have r1 := not_ge hb
      simp only [Int.reduceBEq, cond_true, cond_false, doR, List.length_cons, List.length_nil, Nat.zero_add, Nat.reduceAdd, i01, i02, i12, i04, i14, i24, i34, kz, Int.reduceToNat, List.getD_cons_zero, List.getD_cons_succ, gw, rg_, Option.bind_some, p_spec_Complement, p_spec_SignedOf, p_spec_l10Row, p_spec_NegOf, p_spec_NotOf, p_spec_SignOf]
      rw [ib_in hwa.1 (by omega)]
      simp only [cond_true]
      cases (rg.getD a.toNat 0 != 65535) <;> rfl
    · obtain ⟨a, rfl⟩ := len1 hw
      have hwa : isWd a := hww a (by simp)
      unfold isWd at hwa
      rfl
    · obtain ⟨a, b, rfl⟩ := len2 hw
      have hwa : isWd a := hww a (by simp)
      have hwb : isWd b := hww b (by simp)
      unfold isWd at hwa hwb
      simp only [badR, regsR, gw, Int.reduceBEq, Bool.or_true, Bool.true_or, Bool.or_false, Bool.false_or, Bool.or_eq_false_iff, cond_true, cond_false, List.getD_cons_zero, List.getD_cons_succ, List.any_cons, List.any_nil] at hb
      have r1 := not_ge hb
      simp only [Int.reduceBEq, cond_true, cond_false, doR, List.length_cons, List.length_nil, Nat.zero_add, Nat.reduceAdd, i01, i02, i12, i04, i14, i24, i34, kz, Int.reduceToNat, List.getD_cons_zero, List.getD_cons_succ, gw, rg_, Option.bind_some, p_spec_Complement, p_spec_SignedOf, p_spec_l10Row, p_spec_NegOf, p_spec_NotOf, p_spec_SignOf]
      rw [ib_in hwa.1 (by omega)]
      simp only [cond_true]
      cases (rg.getD a.toNat 0 == 65535) <;> rfl
    · obtain ⟨a, rfl⟩ := len1 hw
      have hwa : isWd a := hww a (by simp)
      unfold isWd at hwa
      simp only [Int.reduceBEq, cond_true, cond_false, doR, List.length_cons, List.length_nil, Nat.zero_add, Nat.reduceAdd, i01, i02, i12, i04, i14, i24, i34, kz, Int.reduceToNat, List.getD_cons_zero, List.getD_cons_succ, gw, rg_, Option.bind_some, p_spec_Complement, p_spec_SignedOf, p_spec_l10Row, p_spec_NegOf, p_spec_NotOf, p_spec_SignOf]
      rfl
    · rfl

def regIdx (op : Int) : Li := bif op == 1 || op == 9 || op == 11 || op == 2 then [1] else bif op == 3 then [2] else bif op == 4 || op == 5 || op == 7 || op == 8 then [1, 2] else bif op == 6 then [1, 2, 3] else []
def cellIdx (op : Int) : Int := bif op == 2 then 2 else bif op == 3 then 1 else -1

theorem p_spec_l10Places (op : Int) (h : 1 ≤ op ∧ op ≤ 13) : F_spec_l10Places op = some ((cellIdx op, ()), (), (regIdx op, ())) := by
  rcases ops13 h with rfl | rfl | rfl | rfl | rfl | rfl | rfl | rfl | rfl | rfl | rfl | rfl | rfl <;> rfl

theorem gwAt {code : Li} {pc : Int} (h0 : 0 ≤ pc) (h : insOk code pc = true) (i : Nat) (r : Int) (hr : r = (i : Int) + 1) (hi : i < argsR (opAt code pc)) : code.getD (pc + r).toNat 0 = gw (wAt code pc) i := by
  unfold gw
  rw [wAt_get h0 h hi]
  congr 1
  omega
theorem idx_bad {code : Li} {pc : Int} (h0 : 0 ≤ pc) (h : insOk code pc = true) : (regIdx (opAt code pc)).any (fun r => decide (code.getD (pc + r).toNat 0 ≥ 24)) = badR (opAt code pc) (wAt code pc) := by
  obtain ⟨g1, g2, g3⟩ := insOk_spec h
  have k := gwAt h0 h
  unfold badR regIdx regsR
  rcases ops13 g2 with e | e | e | e | e | e | e | e | e | e | e | e | e <;> rw [e] at k ⊢ <;>
    simp only [Int.reduceBEq, Bool.or_true, Bool.true_or, Bool.or_false, Bool.false_or, cond_true, cond_false, List.any_cons, List.any_nil]
  · rw [k 0 1 rfl (by decide)]
  · rw [k 0 1 rfl (by decide)]
  · rw [k 1 2 rfl (by decide)]
  · rw [k 0 1 rfl (by decide), k 1 2 rfl (by decide)]
  · rw [k 0 1 rfl (by decide), k 1 2 rfl (by decide)]
  · rw [k 0 1 rfl (by decide), k 1 2 rfl (by decide), k 2 3 rfl (by decide)]
  · rw [k 0 1 rfl (by decide), k 1 2 rfl (by decide)]
  · rw [k 0 1 rfl (by decide), k 1 2 rfl (by decide)]
  · rw [k 0 1 rfl (by decide)]
  · rw [k 0 1 rfl (by decide)]
theorem cell_bad {code : Li} {pc : Int} (cl : Li) (h0 : 0 ≤ pc) (h : insOk code pc = true) : (bif decide (cellIdx (opAt code pc) < 0) then true else decide (code.getD (pc + cellIdx (opAt code pc)).toNat 0 < (cl.length : Int))) = !badC (opAt code pc) (wAt code pc) cl := by
  obtain ⟨g1, g2, g3⟩ := insOk_spec h
  have k := gwAt h0 h
  unfold badC cellIdx
  rcases ops13 g2 with e | e | e | e | e | e | e | e | e | e | e | e | e <;> rw [e] at k ⊢ <;>
    simp only [Int.reduceBEq, cond_true, cond_false]
  all_goals try rfl
  · simp only [k 1 2 rfl (by decide), Bool.not_not]; rfl
  · simp only [k 0 1 rfl (by decide), Bool.not_not]; rfl
theorem idx_in (op : Int) (h : 1 ≤ op ∧ op ≤ 13) : (∀ r ∈ regIdx op, 1 ≤ r ∧ r ≤ (argsR op : Int)) ∧ (cellIdx op < 0 ∨ (1 ≤ cellIdx op ∧ cellIdx op ≤ (argsR op : Int))) ∧ (regIdx op).length ≤ 3 := by
  rcases ops13 h with rfl | rfl | rfl | rfl | rfl | rfl | rfl | rfl | rfl | rfl | rfl | rfl | rfl <;> decide

theorem p_spec_l10Ready (code : Li) (m : RM) (h0 : 0 ≤ m.1) (h1 : m.1 ≤ 65535) (hn : code.length ≤ 400) :
    F_spec_l10Ready code m = some ((insOk code m.1 && (!badR (opAt code m.1) (wAt code m.1) && !badC (opAt code m.1) (wAt code m.1) m.2.2.1), ()), (), ()) := by
  have ha := argsR_le (opAt code m.1)
  have e5 : code.getD m.1.toNat (0 : Int) = opAt code m.1 := rfl
  unfold F_spec_l10Ready
  simp only [p_spec_l10Args, p_spec_l1In, Option.bind_some, kz, e5]
  by_cases h2 : m.1 < (code.length : Int)
  · rw [decide_eq_false (show ¬ m.1 ≥ (code.length : Int) by omega), ib_in h0 h2]
    simp only [cond_false, cond_true, Option.bind_some]
    cases h3 : (decide ((1 : Int) ≤ opAt code m.1) && decide (opAt code m.1 ≤ 13))
    · simp only [insOk, h3, Bool.false_and, Bool.and_false]; rfl
    · simp only [Bool.not_true, cond_false]
      have g2 : 1 ≤ opAt code m.1 ∧ opAt code m.1 ≤ 13 := by simpa using h3
      have e1 := wrap_id (x := m.1 + (argsR (opAt code m.1) : Int)) (by omega) (by omega)
      simp only [e1]
      by_cases h4 : m.1 + (argsR (opAt code m.1) : Int) < (code.length : Int)
      · have hins : insOk code m.1 = true := by simp only [insOk, decide_eq_true h2, h3, decide_eq_true h4, Bool.and_true]
        rw [decide_eq_false (show ¬ m.1 + (argsR (opAt code m.1) : Int) ≥ (code.length : Int) by omega)]
        simp only [cond_false, p_spec_l10Places _ g2, Option.bind_some]
        obtain ⟨i1, i2, i3⟩ := idx_in _ g2
        have hl : l_spec_l10Ready_l9 ((code, (m, (cellIdx (opAt code m.1), ((0 : Int), ())))), (), (regIdx (opAt code m.1), ())) = _ :=
          lim_any (step := s_spec_l10Ready_l9) (regIdx (opAt code m.1)) (fun i => ((code, (m, (cellIdx (opAt code m.1), ((i : Int), ())))), (), (regIdx (opAt code m.1), ()))) (fun r => decide (code.getD (m.1 + r).toNat 0 ≥ 24)) (.inr ((false, ()), (), ())) (.inl ((code, (m, (cellIdx (opAt code m.1), ()))), (), ()))
            (fun i d hg => by
              have hlt := lt_of_get hg
              have hd := i1 d (List.mem_of_getElem? hg)
              have hw := wrap_id (x := m.1 + d) (by omega) (by omega)
              simp only [s_spec_l10Ready_l9, dec_lt hlt, cond_true, ib_nat hlt, Int.toNat_natCast, getD_of hg, wrap_succ hlt (show (regIdx (opAt code m.1)).length ≤ maxLen by simp only [maxLen]; omega), hw, kz]
              rw [ib_in (x := m.1 + d) (by omega) (by omega)]
              simp only [cond_true]
              cases decide (code.getD (m.1 + d).toNat (0 : Int) ≥ 24) <;> rfl)
            (by simp only [s_spec_l10Ready_l9, dec_self, cond_false])
        rw [hl, idx_bad h0 hins, hins, Bool.true_and]
        have hcb := cell_bad m.2.2.1 h0 hins
        cases hb : badR (opAt code m.1) (wAt code m.1)
        · simp only [cond_false, Option.bind_some, Bool.not_false, Bool.true_and]
          rw [← hcb]
          cases hci : decide (cellIdx (opAt code m.1) < 0)
          · have hci' := of_decide_eq_false hci
            have hw := wrap_id (x := m.1 + cellIdx (opAt code m.1)) (by omega) (by omega)
            simp only [cond_false, hw]
            rw [ib_in (x := m.1 + cellIdx (opAt code m.1)) (by omega) (by omega)]
            rfl
          · rfl
        · rfl
      · rw [decide_eq_true (show m.1 + (argsR (opAt code m.1) : Int) ≥ (code.length : Int) by omega)]
        simp only [insOk, decide_eq_false h4, Bool.and_false, Bool.false_and, cond_true]
  · rw [decide_eq_true (show m.1 ≥ (code.length : Int) by omega)]
    simp only [insOk, decide_eq_false h2, Bool.false_and]; rfl

/-- A step. -/
def stepR (code : Li) (m : RM) : RM :=
  bif m.2.2.2.2.2.2 || m.2.2.2.2.2.1 != 0 then m else
  bif insOk code m.1 && (!badR (opAt code m.1) (wAt code m.1) && !badC (opAt code m.1) (wAt code m.1) m.2.2.1) then (
    bif (doR (opAt code m.1) (wAt code m.1) (m.1 + 1 + argsR (opAt code m.1)) m.2.2.2.1 m.2.2.2.2.2.2 m.2.1 m.2.2.1).1 != 0 then
      (m.1, m.2.1, m.2.2.1, m.2.2.2.1, min (m.2.2.2.2.1 + 1) 1000000, (doR (opAt code m.1) (wAt code m.1) (m.1 + 1 + argsR (opAt code m.1)) m.2.2.2.1 m.2.2.2.2.2.2 m.2.1 m.2.2.1).1, m.2.2.2.2.2.2)
    else ((doR (opAt code m.1) (wAt code m.1) (m.1 + 1 + argsR (opAt code m.1)) m.2.2.2.1 m.2.2.2.2.2.2 m.2.1 m.2.2.1).2.1,
      (doR (opAt code m.1) (wAt code m.1) (m.1 + 1 + argsR (opAt code m.1)) m.2.2.2.1 m.2.2.2.2.2.2 m.2.1 m.2.2.1).2.2.2.2.1,
      (doR (opAt code m.1) (wAt code m.1) (m.1 + 1 + argsR (opAt code m.1)) m.2.2.2.1 m.2.2.2.2.2.2 m.2.1 m.2.2.1).2.2.2.2.2,
      (doR (opAt code m.1) (wAt code m.1) (m.1 + 1 + argsR (opAt code m.1)) m.2.2.2.1 m.2.2.2.2.2.2 m.2.1 m.2.2.1).2.2.1,
      min (m.2.2.2.2.1 + 1) 1000000, 0,
      (doR (opAt code m.1) (wAt code m.1) (m.1 + 1 + argsR (opAt code m.1)) m.2.2.2.1 m.2.2.2.2.2.2 m.2.1 m.2.2.1).2.2.2.1))
  else (m.1, m.2.1, m.2.2.1, m.2.2.2.1, min (m.2.2.2.2.1 + 1) 1000000, 1, m.2.2.2.2.2.2)
/-- What is so of each machine. -/
structure RMok (m : RM) : Prop where
  pc0 : 0 ≤ m.1
  pc1 : m.1 ≤ 65535
  rl : m.2.1.length = 24
  rw_ : aw m.2.1
  cl : m.2.2.1.length ≤ 80
  cw : aw m.2.2.1
  sg : isWd m.2.2.2.1
  us0 : 0 ≤ m.2.2.2.2.1
  us1 : m.2.2.2.2.1 ≤ 1000000
  t0 : 0 ≤ m.2.2.2.2.2.1
  t1 : m.2.2.2.2.2.1 ≤ 10

theorem p_spec_l10Copy (m : RM) (h : m.2.1.length ≤ 1048576) (h' : m.2.2.1.length ≤ 1048576) :
    F_spec_l10Copy m = some (((m.1, (m.2.2.2.1, (m.2.2.2.2.1, (m.2.2.2.2.2.1, (m.2.2.2.2.2.2, ()))))), ()), (), (m.2.1, (m.2.2.1, ()))) := by
  simp only [F_spec_l10Copy, room8 h, room8 h', cond_true]; rfl

theorem p_spec_l10Step (code : Li) (m : RM) (hm : RMok m) (hn : code.length ≤ 400) (hcw : aw code) : F_spec_l10Step code m = some ((stepR code m, ()), (), ()) := by
  obtain ⟨pc, rg, cl, sg, us, tr, dn⟩ := m
  have hpc0 := hm.pc0
  have hpc1 := hm.pc1
  have hrl := hm.rl
  have hcl := hm.cl
  have hu0 := hm.us0
  have hu1 := hm.us1
  simp only at hpc0 hpc1 hrl hcl hu0 hu1
  have hmin : ∀ x : Int, min 1000000 x = min x 1000000 := fun x => by omega
  have hw := wrap_id (x := us + 1) (by omega) (by omega)
  unfold F_spec_l10Step
  simp only [p_spec_l1Min, p_spec_l10Copy (pc, rg, cl, sg, us, tr, dn) (show rg.length ≤ 1048576 by omega) (show cl.length ≤ 1048576 by omega), p_spec_l10Ready code (pc, rg, cl, sg, us, tr, dn) hpc0 hpc1 hn, hw, hmin, stepR]
  cases dn
  · simp only [cond_false, Option.bind_some, Bool.false_or]
    cases htr : (tr != 0)
    · have tr0 : tr = 0 := by simpa using htr
      subst tr0
      simp only [cond_false]
      cases hr : (insOk code pc && (!badR (opAt code pc) (wAt code pc) && !badC (opAt code pc) (wAt code pc) cl))
      · rfl
      · simp only [Bool.and_eq_true, Bool.not_eq_true'] at hr
        simp only [Bool.not_true, cond_false, cond_true, p_spec_l10Do code pc sg (min (us + 1) 1000000) 0 false rg cl hpc0 hpc1 hn hcw hr.1 hrl hm.rw_ hcl hr.2.1 hr.2.2, Option.bind_some, outSp]
        generalize doR (opAt code pc) (wAt code pc) (pc + 1 + argsR (opAt code pc)) sg false rg cl = r
        obtain ⟨r1, r2⟩ := r
        cases hd : (r1 != 0)
        · simp only [cond_false, outDo, hd, bne_self_eq_false]
        · simp only [cond_true, hd]
    · rfl
  · rfl

theorem doR_err (op : Int) (w : Li) (pc sig : Int) (dn : Bool) (rg cl : Li) (h : ((doR op w pc sig dn rg cl).1 != 0) = true) : (doR op w pc sig dn rg cl).2 = (pc, sig, dn, rg, cl) := by
  revert h
  unfold doR
  cases (op == 1)
  · cases (op == 2)
    · cases (op == 3)
      · cases (op == 4)
        · cases (op == 5)
          · cases (op == 6)
            · cases (op == 7)
              · cases (op == 8)
                · cases (op == 9)
                  · cases (op == 10)
                    · cases (op == 11)
                      · cases (op == 12) <;> cases (op == 13) <;> simp
                      · cases (rg_ rg (gw w 0) == 65535) <;> simp
                    · simp
                  · cases (rg_ rg (gw w 0) != 65535) <;> simp
                · simp
              · simp
            · cases h0 : ((binv (gw w 3) (rg_ rg (gw w 1)) (rg_ rg (gw w 2))).1 == 0)
              · cases ((binv (gw w 3) (rg_ rg (gw w 1)) (rg_ rg (gw w 2))).1 == 3) <;> simp
              · simp
          · cases (decide (0 ≤ sgn (compl (rg_ rg (gw w 0)))) && decide (sgn (compl (rg_ rg (gw w 0))) ≤ gw w 3 - 1))
            · simp
            · cases decide (gw w 2 + sgn (compl (rg_ rg (gw w 0))) < (cl.length : Int)) <;> simp
        · cases (decide (0 ≤ sgn (compl (rg_ rg (gw w 1)))) && decide (sgn (compl (rg_ rg (gw w 1))) ≤ gw w 3 - 1))
          · simp
          · cases decide (gw w 2 + sgn (compl (rg_ rg (gw w 1))) < (cl.length : Int)) <;> simp
      · simp
    · simp
  · simp
abbrev outI (m : RM) : Unit × ((Int × Int × Int × Int × Bool × Unit) × Unit) × (Li × Li × Unit) := ((), ((m.1, (m.2.2.2.1, (m.2.2.2.2.1, (m.2.2.2.2.2.1, (m.2.2.2.2.2.2, ()))))), ()), (m.2.1, (m.2.2.1, ())))

theorem p_impl_RegMachine_step (code : Li) (pc : Int) (rg cl : Li) (sg us tr : Int) (dn : Bool) (hm : RMok (pc, rg, cl, sg, us, tr, dn)) (hn : code.length ≤ 400) (hcw : aw code) :
    F_impl_RegMachine_step code pc sg us tr dn rg cl = some (outI (stepR code (pc, rg, cl, sg, us, tr, dn))) := by
  have hpc0 := hm.pc0
  have hpc1 := hm.pc1
  have hrl := hm.rl
  have hcl := hm.cl
  have hu0 := hm.us0
  have hu1 := hm.us1
  simp only at hpc0 hpc1 hrl hcl hu0 hu1
  have hmin : mn (us + 1) 1000000 = min (us + 1) 1000000 := by unfold mn; split <;> omega
  have hw := wrap_id (x := us + 1) (by omega) (by omega)
  unfold F_impl_RegMachine_step
  simp only [p_impl_instruction_rm code pc hpc0 hpc1 hn, hw, hmin, stepR, outI]
  cases dn
  · simp only [cond_false, Option.bind_some, Bool.false_or]
    cases htr : (tr != 0)
    · have tr0 : tr = 0 := by simpa using htr
      subst tr0
      simp only [cond_false]
      cases hins : insOk code pc
      · rfl
      · obtain ⟨g1, g2, g3⟩ := insOk_spec hins
        have ha := argsR_le (opAt code pc)
        have e2 := wrap_id (x := pc + 1) (by omega) (by omega)
        have e3 := wrap_id (x := pc + 1 + (argsR (opAt code pc) : Int)) (by omega) (by omega)
        simp only [cond_true, cond_false, Bool.not_true, Bool.true_and, wAt_len hpc0 hins, e2, e3, p_impl_RegMachine_do (opAt code pc) (wAt code pc) _ sg (min (us + 1) 1000000) 0 false rg cl g2 (wAt_len hpc0 hins) (wAt_aw pc hcw) hrl hm.rw_ hcl, Option.bind_some, outDo]
        cases hb : badR (opAt code pc) (wAt code pc)
        · cases hbc : badC (opAt code pc) (wAt code pc) cl
          · have he := doR_err (opAt code pc) (wAt code pc) (pc + 1 + (argsR (opAt code pc) : Int)) sg false rg cl
            simp only [Bool.or_false, cond_false, Bool.not_false, Bool.and_true, cond_true]
            generalize doR (opAt code pc) (wAt code pc) (pc + 1 + (argsR (opAt code pc) : Int)) sg false rg cl = r at he ⊢
            obtain ⟨r1, r2⟩ := r
            cases hd : (r1 != 0)
            · have : r1 = 0 := by simpa using hd
              subst this
              rfl
            · have := he hd
              simp only at this
              rw [this]
              simp only [cond_true]
          · rfl
        · rfl
    · rfl
  · rfl

theorem aw_gw {w : Li} (h : aw w) (i : Nat) : isWd (gw w i) := aw_getD h i
theorem binw_code (op a b : Int) : 0 ≤ (binw op a b).1 ∧ (binw op a b).1 ≤ 10 := by
  unfold binw
  cases (op == 1)
  · cases (op == 2)
    · cases (op == 3)
      · cases (op == 4)
        · cases (op == 5)
          · cases (op == 6) <;> cases (op == 7) <;> cases (op == 8) <;> cases (op == 9) <;> cases (op == 10) <;> simp
          · cases (b == 0) <;> simp
        · cases (b == 0) <;> simp
      · simp
    · simp
  · simp
theorem doR_ok (op : Int) (w : Li) (pc sig : Int) (dn : Bool) (rg cl : Li) (hw : aw w) (hp : isWd pc) (hs : isWd sig) (hr : aw rg) (hc : aw cl) :
    0 ≤ (doR op w pc sig dn rg cl).1 ∧ (doR op w pc sig dn rg cl).1 ≤ 10 ∧ isWd (doR op w pc sig dn rg cl).2.1 ∧ isWd (doR op w pc sig dn rg cl).2.2.1 ∧ (doR op w pc sig dn rg cl).2.2.2.2.1.length = rg.length ∧ aw (doR op w pc sig dn rg cl).2.2.2.2.1 ∧
      (doR op w pc sig dn rg cl).2.2.2.2.2.length = cl.length ∧ aw (doR op w pc sig dn rg cl).2.2.2.2.2 := by
  have hg := fun i => aw_gw hw i
  have hrg : ∀ x, isWd (rg_ rg x) := fun x => aw_getD hr _
  have hcg : ∀ x, isWd (rg_ cl x) := fun x => aw_getD hc _
  have hsg := sigw_isWd
  have hv := binv_isWd (gw w 3) (rg_ rg (gw w 1)) (rg_ rg (gw w 2))
  have hcode : 0 ≤ (binv (gw w 3) (rg_ rg (gw w 1)) (rg_ rg (gw w 2))).1 ∧ (binv (gw w 3) (rg_ rg (gw w 1)) (rg_ rg (gw w 2))).1 ≤ 10 := by
    unfold binv
    cases hh : ((binw (gw w 3) (compl (rg_ rg (gw w 1))) (compl (rg_ rg (gw w 2)))).1 == 0)
    · exact ⟨(binw_code _ _ _).1, (binw_code _ _ _).2⟩
    · simp
  have h65 : isWd 65534 := by unfold isWd; omega
  have hcm := compl_isWd
  unfold doR
  cases (op == 1)
  · cases (op == 2)
    · cases (op == 3)
      · cases (op == 4)
        · cases (op == 5)
          · cases (op == 6)
            · cases (op == 7)
              · cases (op == 8)
                · cases (op == 9)
                  · cases (op == 10)
                    · cases (op == 11)
                      · cases (op == 12) <;> cases (op == 13) <;> exact ⟨by simp, by simp, by assumption, by first | assumption | exact hsg _ _, rfl, hr, rfl, hc⟩
                      · cases (rg_ rg (gw w 0) == 65535) <;> exact ⟨by simp, by simp, by first | assumption | exact hg _, hs, rfl, hr, rfl, hc⟩
                    · exact ⟨by simp, by simp, hg _, hs, rfl, hr, rfl, hc⟩
                  · cases (rg_ rg (gw w 0) != 65535)
                    · exact ⟨by simp, by simp, hp, hs, rfl, hr, rfl, hc⟩
                    · exact ⟨by simp, by simp, hp, hs, by simp, aw_set hr h65, rfl, hc⟩
                · exact ⟨by simp, by simp, hp, hs, by simp, aw_set hr (hcm _), rfl, hc⟩
              · exact ⟨by simp, by simp, hp, hs, by simp, aw_set hr (hcm _), rfl, hc⟩
            · cases h0 : ((binv (gw w 3) (rg_ rg (gw w 1)) (rg_ rg (gw w 2))).1 == 0)
              · cases ((binv (gw w 3) (rg_ rg (gw w 1)) (rg_ rg (gw w 2))).1 == 3)
                · exact ⟨hcode.1, hcode.2, hp, hs, rfl, hr, rfl, hc⟩
                · exact ⟨by simp, by simp, hp, hs, rfl, hr, rfl, hc⟩
              · exact ⟨by simp, by simp, hp, hs, by simp, aw_set hr hv, rfl, hc⟩
          · cases (decide (0 ≤ sgn (compl (rg_ rg (gw w 0)))) && decide (sgn (compl (rg_ rg (gw w 0))) ≤ gw w 3 - 1))
            · exact ⟨by simp, by simp, hp, hs, rfl, hr, rfl, hc⟩
            · cases decide (gw w 2 + sgn (compl (rg_ rg (gw w 0))) < (cl.length : Int))
              · exact ⟨by simp, by simp, hp, hs, rfl, hr, rfl, hc⟩
              · exact ⟨by simp, by simp, hp, hs, rfl, hr, by simp, aw_set hc (hrg _)⟩
        · cases (decide (0 ≤ sgn (compl (rg_ rg (gw w 1)))) && decide (sgn (compl (rg_ rg (gw w 1))) ≤ gw w 3 - 1))
          · exact ⟨by simp, by simp, hp, hs, rfl, hr, rfl, hc⟩
          · cases decide (gw w 2 + sgn (compl (rg_ rg (gw w 1))) < (cl.length : Int))
            · exact ⟨by simp, by simp, hp, hs, rfl, hr, rfl, hc⟩
            · exact ⟨by simp, by simp, hp, hs, by simp, aw_set hr (hcg _), rfl, hc⟩
      · exact ⟨by simp, by simp, hp, hs, rfl, hr, by simp, aw_set hc (hrg _)⟩
    · exact ⟨by simp, by simp, hp, hs, by simp, aw_set hr (hcg _), rfl, hc⟩
  · exact ⟨by simp, by simp, hp, hs, by simp, aw_set hr (hg _), rfl, hc⟩
theorem stepR_ok (code : Li) (m : RM) (hm : RMok m) (hn : code.length ≤ 400) (hcw : aw code) : RMok (stepR code m) ∧ (stepR code m).2.2.1.length = m.2.2.1.length ∧
    ((m.2.2.2.2.2.2 || m.2.2.2.2.2.1 != 0) = false → (stepR code m).2.2.2.2.1 = min (m.2.2.2.2.1 + 1) 1000000) := by
  obtain ⟨pc, rg, cl, sg, us, tr, dn⟩ := m
  have hpc0 := hm.pc0
  have hpc1 := hm.pc1
  have hrl := hm.rl
  have hcl := hm.cl
  have hu0 := hm.us0
  have hu1 := hm.us1
  simp only at hpc0 hpc1 hrl hcl hu0 hu1
  unfold stepR
  simp only
  cases h1 : (dn || tr != 0)
  · simp only [cond_false]
    cases hr : (insOk code pc && (!badR (opAt code pc) (wAt code pc) && !badC (opAt code pc) (wAt code pc) cl))
    · exact ⟨⟨hpc0, hpc1, hrl, hm.rw_, hcl, hm.cw, hm.sg, by simp only [cond_false]; omega, by simp only [cond_false]; omega, by simp, by simp⟩, rfl, fun _ => rfl⟩
    · simp only [Bool.and_eq_true] at hr
      obtain ⟨g1, g2, g3⟩ := insOk_spec hr.1
      have ha := argsR_le (opAt code pc)
      obtain ⟨d1, d2, d3, d4, d5, d6, d7, d8⟩ := doR_ok (opAt code pc) (wAt code pc) (pc + 1 + argsR (opAt code pc)) sg dn rg cl (wAt_aw pc hcw) (by unfold isWd; omega) hm.sg hm.rw_ hm.cw
      simp only [cond_true]
      generalize doR (opAt code pc) (wAt code pc) (pc + 1 + argsR (opAt code pc)) sg dn rg cl = r at d1 d2 d3 d4 d5 d6 d7 d8 ⊢
      cases (r.1 != 0)
      · exact ⟨⟨d3.1, d3.2, by simp only [cond_false]; rw [d5]; exact hrl, d6, by simp only [cond_false]; rw [d7]; exact hcl, d8, d4, by simp only [cond_false]; omega, by simp only [cond_false]; omega, by simp, by simp⟩, d7, fun _ => rfl⟩
      · exact ⟨⟨hpc0, hpc1, hrl, hm.rw_, hcl, hm.cw, hm.sg, by simp only [cond_true]; omega, by simp only [cond_true]; omega, d1, d2⟩, rfl, fun _ => rfl⟩
  · exact ⟨hm, rfl, fun h => by cases h⟩
def runF {σ ρ : Type} (go : σ → σ ⊕ ρ) (d : ρ) : Nat → σ → ρ
  | 0, _ => d
  | n + 1, s => match go s with
    | .inl s' => runF go d n s'
    | .inr r => r
theorem lim_runF {A B σ ρ : Type} {step : A → Option (A ⊕ B)} (go : σ → σ ⊕ ρ) (d : ρ) (mk : σ → A) (out : ρ → B) (I : σ → Prop) (μ : σ → Nat)
    (h : ∀ s, I s → step (mk s) = some (match go s with | .inl s' => .inl (mk s') | .inr r => .inr (out r)))
    (hI : ∀ s s', I s → go s = .inl s' → I s' ∧ μ s' < μ s) : ∀ n s, I s → μ s < n → lim step (mk s) = some (out (runF go d n s)) := by
  intro n
  induction n with
  | zero => intro s _ hs; omega
  | succ n ih =>
    intro s hs hn
    rw [lim_eq, h s hs]
    unfold runF
    cases hg : go s with
    | inl s' =>
      obtain ⟨h1, h2⟩ := hI s s' hs hg
      exact ih s' h1 (by omega)
    | inr r => rfl
theorem runF_ind {σ ρ : Type} (go : σ → σ ⊕ ρ) (d : ρ) (I : σ → Prop) (μ : σ → Nat) (Q : ρ → Prop)
    (hI : ∀ s s', I s → go s = .inl s' → I s' ∧ μ s' < μ s) (hQ : ∀ s r, I s → go s = .inr r → Q r) : ∀ n s, I s → μ s < n → Q (runF go d n s) := by
  intro n
  induction n with
  | zero => intro s _ hs; omega
  | succ n ih =>
    intro s hs hn
    unfold runF
    cases hg : go s with
    | inl s' =>
      obtain ⟨h1, h2⟩ := hI s s' hs hg
      exact ih s' h1 (by omega)
    | inr r => exact hQ s r hs hg
def goR (code : Li) (bu : Int) (m : RM) : RM ⊕ (Bool × RM) :=
  bif m.2.2.2.2.2.2 || m.2.2.2.2.2.1 != 0 then .inr (false, m) else
  bif decide (m.2.2.2.2.1 ≥ bu) then .inr (true, (m.1, m.2.1, m.2.2.1, m.2.2.2.1, m.2.2.2.2.1, 2, m.2.2.2.2.2.2)) else .inl (stepR code m)
structure RunI (bu : Int) (k : Nat) (m : RM) : Prop where
  ok : RMok m
  le : m.2.2.2.2.1 ≤ bu
  len : m.2.2.1.length = k
theorem goR_next (code : Li) (bu : Int) (k : Nat) (hb : bu ≤ 20000) (hn : code.length ≤ 400) (hcw : aw code) (m m' : RM) (hm : RunI bu k m) (h : goR code bu m = .inl m') : RunI bu k m' ∧ (bu - m'.2.2.2.2.1).toNat < (bu - m.2.2.2.2.1).toNat := by
  unfold goR at h
  cases h1 : (m.2.2.2.2.2.2 || m.2.2.2.2.2.1 != 0)
  · rw [h1] at h
    cases h2 : decide (m.2.2.2.2.1 ≥ bu)
    · rw [h2] at h
      simp only [cond_false] at h
      cases h
      have h2' := of_decide_eq_false h2
      obtain ⟨g1, g2, g3⟩ := stepR_ok code m hm.ok hn hcw
      have g4 := g3 h1
      have hu := hm.ok.us0
      refine ⟨⟨g1, by rw [g4]; omega, by rw [g2]; exact hm.len⟩, by rw [g4]; omega⟩
    · rw [h2] at h; cases h
  · rw [h1] at h; cases h
theorem goR_end (code : Li) (bu : Int) (k : Nat) (m : RM) (r : Bool × RM) (hm : RunI bu k m) (h : goR code bu m = .inr r) : RunI bu k r.2 ∧ (r.2.2.2.2.2.2.2 || r.2.2.2.2.2.2.1 != 0) = true ∧ (r.2.2.2.2.2.2.2 = true → r.2 = m ∧ m.2.2.2.2.2.2 = true) := by
  unfold goR at h
  cases h1 : (m.2.2.2.2.2.2 || m.2.2.2.2.2.1 != 0)
  · rw [h1] at h
    cases h2 : decide (m.2.2.2.2.1 ≥ bu)
    · rw [h2] at h; cases h
    · rw [h2] at h
      simp only [cond_false, cond_true] at h
      cases h
      obtain ⟨a1, a2, a3, a4, a5, a6, a7, a8, a9, a10, a11⟩ := hm.ok
      refine ⟨⟨⟨a1, a2, a3, a4, a5, a6, a7, a8, a9, by simp, by simp⟩, hm.le, hm.len⟩, by simp, fun h => ?_⟩
      simp only [Bool.or_eq_false_iff] at h1
      rw [h1.1] at h; cases h
  · rw [h1] at h
    simp only [cond_true] at h
    cases h
    exact ⟨hm, h1, fun h => ⟨rfl, h⟩⟩
def runM (code : Li) (bu : Int) (m : RM) : Bool × RM := runF (goR code bu) (false, m) (bu.toNat + 1) m
theorem runM_ok (code : Li) (bu : Int) (k : Nat) (h0 : 0 ≤ bu) (hb : bu ≤ 20000) (hn : code.length ≤ 400) (hcw : aw code) (m : RM) (hm : RunI bu k m) (hu : m.2.2.2.2.1 = 0) :
    RunI bu k (runM code bu m).2 ∧ ((runM code bu m).2.2.2.2.2.2.2 || (runM code bu m).2.2.2.2.2.2.1 != 0) = true :=
  runF_ind (goR code bu) (false, m) (RunI bu k) (fun m => (bu - m.2.2.2.2.1).toNat) (fun r => RunI bu k r.2 ∧ (r.2.2.2.2.2.2.2 || r.2.2.2.2.2.2.1 != 0) = true)
    (fun s s' hs hg => goR_next code bu k hb hn hcw s s' hs hg) (fun s r hs hg => ⟨(goR_end code bu k s r hs hg).1, (goR_end code bu k s r hs hg).2.1⟩) _ _ hm (by rw [hu]; omega)
def rep24 : Li := List.replicate 24 65535
theorem rep24_aw : aw rep24 := fun x hx => by rw [List.eq_of_mem_replicate hx]; unfold isWd; omega

theorem p_spec_l10Start (l : Li) (h : l.length ≤ 1048576) : F_spec_l10Start l = some (((0, (0, (0, (0, (false, ()))))), ()), (), (rep24, (l, ()))) := by
  have hk : ∀ z, l_spec_l10Start_l3 (((0 : Int), ()), (z, (((0 : Int), ((0 : Int), ((0 : Int), ((0 : Int), (false, ()))))), ())), ([], (l, ()))) = some ((), (z, (((0 : Int), ((0 : Int), ((0 : Int), ((0 : Int), (false, ()))))), ())), (rep24, (l, ()))) := fun z =>
    lim_rep (step := s_spec_l10Start_l3) 24 (65535 : Int) (fun i acc => (((i : Int), ()), (z, (((0 : Int), ((0 : Int), ((0 : Int), ((0 : Int), (false, ()))))), ())), (acc, (l, ())))) _
      (fun i acc hn hi => by
        simp only [s_spec_l10Start_l3]
        rw [show decide ((i : Int) < 24) = true by simp; omega, show room (acc ++ [(65535 : Int)]).length 8 = true by simp [room]; omega, wrap_id (by omega) (by omega)]
        rfl)
      (by simp only [s_spec_l10Start_l3]; rfl)
  simp only [F_spec_l10Start, room8 h, cond_true]
  rw [List.nil_append, hk]
  rfl

def rfF (m : RM) : Int :=
  bif !isW m.1 || !isW m.2.2.2.1 || m.2.1.any (fun x => !isW x) || m.2.2.1.any (fun x => !isW x) || !(decide (0 ≤ m.2.2.2.2.1) && decide (m.2.2.2.2.1 ≤ 1000000)) || !(decide (0 ≤ m.2.2.2.2.2.1) && decide (m.2.2.2.2.2.1 ≤ 10)) then 3 else
  bif (m.2.1.length : Int) != 24 then 1 else bif decide ((m.2.2.1.length : Int) > 80) then 2 else 0

theorem p_spec_l10Fault (m : RM) (h : m.2.1.length ≤ maxLen) (h' : m.2.2.1.length ≤ maxLen) : F_spec_l10Fault m = some ((rfF m, ()), (), ()) := by
  simp only [F_spec_l10Fault, p_spec_l1Word, p_spec_l6All _ h, p_spec_l6All _ h', p_spec_l1In, Option.bind_some, Bool.not_not, rfF]
  cases isW m.1 <;> cases isW m.2.2.2.1 <;> cases m.2.1.any (fun x => !isW x) <;> cases m.2.2.1.any (fun x => !isW x) <;> cases (decide (0 ≤ m.2.2.2.2.1) && decide (m.2.2.2.2.1 ≤ 1000000)) <;>
    cases (decide (0 ≤ m.2.2.2.2.2.1) && decide (m.2.2.2.2.2.1 ≤ 10)) <;> cases ((m.2.1.length : Int) != 24) <;> cases decide ((m.2.2.1.length : Int) > 80) <;> rfl

theorem p_impl_RegFault (m : RM) (h : m.2.1.length ≤ maxLen) (h' : m.2.2.1.length ≤ maxLen) : F_impl_RegFault m = some ((rfF m, ()), (), ()) := by
  simp only [F_impl_RegFault, p_impl_isWord, p_impl_areWords _ h, p_impl_areWords _ h', p_impl_within, Option.bind_some, Bool.not_not, rfF]
  cases isW m.1 <;> cases isW m.2.2.2.1 <;> cases m.2.1.any (fun x => !isW x) <;> cases m.2.2.1.any (fun x => !isW x) <;> cases (decide (0 ≤ m.2.2.2.2.1) && decide (m.2.2.2.2.1 ≤ 1000000)) <;>
    cases (decide (0 ≤ m.2.2.2.2.2.1) && decide (m.2.2.2.2.2.1 ≤ 10)) <;> cases ((m.2.1.length : Int) != 24) <;> cases decide ((m.2.2.1.length : Int) > 80) <;> rfl

def m0 (l : Li) : RM := (0, rep24, l, 0, 0, 0, false)
def zM : RM := (0, [], [], 0, 0, 0, false)
theorem aw_any {l : Li} (h : l.any (fun x => !isW x) = false) : aw l := fun x hx => by
  have := List.any_eq_false.1 h x hx
  simp only [isW, Bool.not_eq_true', Bool.not_eq_false, Bool.and_eq_true, decide_eq_true_eq] at this
  exact this
theorem m0_ok {l : Li} (h : (rfF (m0 l) != 0) = false) : RMok (m0 l) := by
  have hz : rfF (m0 l) = 0 := by simpa using h
  unfold rfF m0 at hz
  simp only at hz
  cases h1 : l.any (fun x => !isW x)
  · rw [h1] at hz
    cases h2 : decide ((l.length : Int) > 80)
    · have := of_decide_eq_false h2
      exact ⟨by simp [m0], by simp [m0], by simp [m0, rep24], rep24_aw, by show l.length ≤ 80; omega, aw_any h1, by unfold isWd m0; simp, by simp [m0], by simp [m0], by simp [m0], by simp [m0]⟩
    · rw [h2] at hz
      revert hz
      rw [show (rep24.any fun x => !isW x) = false by decide, show ((rep24.length : Int) != 24) = false by decide]
      intro hz
      simp [isW] at hz
  · rw [h1] at hz
    revert hz
    simp

theorem p_spec_StartRegs (l : Li) (h : l.length ≤ 1048576) : F_spec_StartRegs l = some (
    bif rfF (m0 l) != 0 then (((rfF (m0 l), (0, (0, (0, (0, (false, ())))))), ()), (), ([], ([], ()))) else (((0, (0, (0, (0, (0, (false, ())))))), ()), (), (rep24, (l, ())))) := by
  simp only [F_spec_StartRegs, p_spec_l10Start l h, Option.bind_some]
  rw [p_spec_l10Fault (0, rep24, l, 0, 0, 0, false) (by show rep24.length ≤ maxLen; decide) (by show l.length ≤ maxLen; simp only [maxLen]; omega)]
  simp only [Option.bind_some]
  rw [show rfF (0, rep24, l, 0, 0, 0, false) = rfF (m0 l) from rfl]
  cases (rfF (m0 l) != 0) <;> rfl

theorem p_Repeat : F_slices_Repeat_int64 [(65535 : Int)] (24 : Int) = some ((), (), (rep24, ())) := by
  have hb : F_bits_Mul (IntKind.wrap .u64 (([(65535 : Int)]).length : Int)) (IntKind.wrap .u64 24) = some ((0, (24, ())), (), ()) := by rfl
  have hl : l_slices_Repeat_int64_l8 ((((Nat.min ([(65535 : Int)]).length (((List.replicate (Int.toNat (IntKind.wrap .i64 (24 : Int))) (K.zero (.int .i64)))).length) : Nat) : Int), ()), (), ((splice (List.replicate (Int.toNat (IntKind.wrap .i64 (24 : Int))) (K.zero (.int .i64))) 0 (([(65535 : Int)]).take (((List.replicate (Int.toNat (IntKind.wrap .i64 (24 : Int))) (K.zero (.int .i64)))).length))), ())) = some ((), (), (rep24, ())) := by
    have hs : ∀ a b c, s_slices_Repeat_int64_l8 a = some (.inl b) → l_slices_Repeat_int64_l8 b = c → l_slices_Repeat_int64_l8 a = c := fun a b c h1 h2 => by
      unfold l_slices_Repeat_int64_l8
      rw [lim_eq, h1]; exact h2
    have he : ∀ a b, s_slices_Repeat_int64_l8 a = some (.inr b) → l_slices_Repeat_int64_l8 a = some b := fun a b h1 => by
      unfold l_slices_Repeat_int64_l8
      rw [lim_eq, h1]
    refine hs _ ((2, ()), (), (List.replicate 2 65535 ++ List.replicate 22 0, ())) _ (by rfl) ?_
    refine hs _ ((4, ()), (), (List.replicate 4 65535 ++ List.replicate 20 0, ())) _ (by rfl) ?_
    refine hs _ ((8, ()), (), (List.replicate 8 65535 ++ List.replicate 16 0, ())) _ (by rfl) ?_
    refine hs _ ((16, ()), (), (List.replicate 16 65535 ++ List.replicate 8 0, ())) _ (by rfl) ?_
    refine hs _ ((24, ()), (), (rep24, ())) _ (by rfl) ?_
    exact he _ _ (by rfl)
  unfold F_slices_Repeat_int64
  rw [show decide ((24 : Int) < 0) = false from rfl, hb]
  simp only [cond_false, Option.bind_some]
  rw [show decide ((0 : Int) > 0) = false from rfl, show decide ((24 : Int) > 9223372036854775807) = false from rfl]
  simp only [cond_false, Option.bind_some]
  rw [hl]
  rfl

theorem p_impl_StartRegs (l : Li) (h : l.length ≤ 1048576) : F_impl_StartRegs l = some (
    bif rfF (m0 l) != 0 then (((rfF (m0 l), (0, (0, (0, (0, (false, ())))))), ()), (), ([], ([], ()))) else (((0, (0, (0, (0, (0, (false, ())))))), ()), (), (rep24, (l, ())))) := by
  simp only [F_impl_StartRegs, p_slices_Clone_int64 l h, Option.bind_some]
  rw [p_Repeat]
  simp only [Option.bind_some]
  rw [p_impl_RegFault (0, rep24, l, 0, 0, 0, false) (by show rep24.length ≤ maxLen; decide) (by show l.length ≤ maxLen; simp only [maxLen]; omega)]
  simp only [Option.bind_some]
  rw [show rfF (0, rep24, l, 0, 0, 0, false) = rfF (m0 l) from rfl]
  cases (rfF (m0 l) != 0) <;> rfl

abbrev eM (m : RM) : Int × Li × Li × Int × Int × Int × Bool × Unit := (m.1, (m.2.1, (m.2.2.1, (m.2.2.2.1, (m.2.2.2.2.1, (m.2.2.2.2.2.1, (m.2.2.2.2.2.2, ())))))))

theorem p_spec_l10Run (code l : Li) (bu : Int) (h0 : 0 ≤ bu) (hb : bu ≤ 20000) (hn : code.length ≤ 400) (hcw : aw code) (hf : (rfF (m0 l) != 0) = false) (hl : l.length ≤ 1048576) :
    F_spec_l10Run code l bu = some (((runM code bu (m0 l)).2, ()), (), ()) := by
  have hi : RunI bu l.length (m0 l) := ⟨m0_ok hf, h0, rfl⟩
  have key := lim_runF (step := s_spec_l10Run_l2) (goR code bu) (false, m0 l)
    (fun m => ((code, (bu, ())), (((0 : Int), ((0 : Int), ((0 : Int), ((0 : Int), (false, ()))))), (eM m, ())), ()))
    (fun r => bif r.1 then .inr ((), (eM r.2, ()), ()) else .inl ((), (((0 : Int), ((0 : Int), ((0 : Int), ((0 : Int), (false, ()))))), (eM r.2, ())), ()))
    (RunI bu l.length) (fun m => (bu - m.2.2.2.2.1).toNat)
    (fun m hm => by
      obtain ⟨pc, rg, cl, sg, us, tr, dn⟩ := m
      simp only [s_spec_l10Run_l2, eM, goR]
      cases dn
      · simp only [Bool.not_false, cond_true, Option.bind_some, Bool.false_or, bne]
        cases (tr == 0)
        · rfl
        · simp only [cond_true, Bool.not_true, cond_false]
          cases decide (us ≥ bu)
          · simp only [cond_false]
            rw [p_spec_l10Step code (pc, rg, cl, sg, us, tr, false) hm.ok hn hcw]
            rfl
          · rfl
      · rfl)
    (fun s s' hs hg => goR_next code bu l.length hb hn hcw s s' hs hg) (bu.toNat + 1) (m0 l) hi (by show (bu - 0).toNat < bu.toNat + 1; omega)
  unfold F_spec_l10Run
  simp only [p_spec_l10Start l hl, Option.bind_some]
  have hk : l_spec_l10Run_l2 ((code, (bu, ())), (((0 : Int), ((0 : Int), ((0 : Int), ((0 : Int), (false, ()))))), ((0, (rep24, (l, (0, (0, (0, (false, ()))))))), ())), ()) = _ := key
  rw [hk]
  rw [show runF (goR code bu) (false, m0 l) (bu.toNat + 1) (m0 l) = runM code bu (m0 l) from rfl]
  cases h : (runM code bu (m0 l)).1 <;> rfl

/-- RunRegs: a code, a machine. -/
def runC (code l : Li) (bu : Int) : Int × RM :=
  bif wf code != 0 then (wf code, zM) else bif rfF (m0 l) != 0 then (rfF (m0 l), zM) else bif !(decide (0 ≤ bu) && decide (bu ≤ 20000)) then (3, zM) else (0, (runM code bu (m0 l)).2)
theorem wf_aw {l : Li} (h : (wf l != 0) = false) : l.length ≤ 400 ∧ aw l := by
  have hz : wf l = 0 := by simpa using h
  unfold wf at hz
  cases h1 : decide ((l.length : Int) > 400)
  · rw [h1] at hz
    simp only [cond_false] at hz
    cases h2 : l.any (fun x => !isW x)
    · have := of_decide_eq_false h1
      exact ⟨by omega, aw_any h2⟩
    · rw [h2] at hz; cases hz
  · rw [h1] at hz; cases hz

theorem p_spec_RunRegs (code l : Li) (bu : Int) (hc : code.length ≤ maxLen) (hl : l.length ≤ 1048576) : F_spec_RunRegs code l bu = some ((runC code l bu, ()), (), ()) := by
  simp only [F_spec_RunRegs, p_spec_WordsFault code hc, p_spec_StartRegs l hl, p_spec_l1In, Option.bind_some, runC]
  cases h1 : (wf code != 0)
  · obtain ⟨hn, hcw⟩ := wf_aw h1
    simp only [cond_false]
    cases h2 : (rfF (m0 l) != 0)
    · simp only [cond_false]
      rw [show ((0 : Int) != 0) = false from rfl]
      cases h3 : (decide (0 ≤ bu) && decide (bu ≤ 20000))
      · rfl
      · simp only [Bool.and_eq_true, decide_eq_true_eq] at h3
        simp only [cond_false, Bool.not_true, p_spec_l10Run code l bu h3.1 h3.2 hn hcw h2 hl, Option.bind_some]
    · simp only [cond_true, h2]; rfl
  · rfl

abbrev oM (m : RM) : Int × Int × Int × Int × Bool × Unit := (m.1, (m.2.2.2.1, (m.2.2.2.2.1, (m.2.2.2.2.2.1, (m.2.2.2.2.2.2, ())))))

theorem p_impl_RunRegs (code l : Li) (bu : Int) (hc : code.length ≤ maxLen) (hl : l.length ≤ 1048576) : F_impl_RunRegs code l bu =
    some ((((runC code l bu).1, oM (runC code l bu).2), ()), (), ((runC code l bu).2.2.1, ((runC code l bu).2.2.2.1, ()))) := by
  simp only [F_impl_RunRegs, p_impl_WordsFault code hc, p_impl_StartRegs l hl, p_impl_within, Option.bind_some, runC]
  cases h1 : (wf code != 0)
  · obtain ⟨hn, hcw⟩ := wf_aw h1
    simp only [cond_false]
    cases h2 : (rfF (m0 l) != 0)
    · simp only [cond_false]
      rw [show ((0 : Int) != 0) = false from rfl]
      cases h3 : (decide (0 ≤ bu) && decide (bu ≤ 20000))
      · rfl
      · simp only [Bool.and_eq_true, decide_eq_true_eq] at h3
        simp only [cond_false, Bool.not_true]
        have hi : RunI bu l.length (m0 l) := ⟨m0_ok h2, h3.1, rfl⟩
        have key := lim_runF (step := s_impl_RunRegs_l10) (goR code bu) (false, m0 l)
          (fun m => ((code, (bu, ())), (((0 : Int), ((0 : Int), ((0 : Int), ((0 : Int), ((0 : Int), (false, ())))))), (((0 : Int), oM m), ())), (m.2.1, (m.2.2.1, ()))))
          (fun r => ((), (((0 : Int), ((0 : Int), ((0 : Int), ((0 : Int), ((0 : Int), (false, ())))))), (((0 : Int), oM r.2), ())), (r.2.2.1, (r.2.2.2.1, ()))))
          (RunI bu l.length) (fun m => (bu - m.2.2.2.2.1).toNat)
          (fun m hm => by
            obtain ⟨pc, rg, cl, sg, us, tr, dn⟩ := m
            simp only [s_impl_RunRegs_l10, oM, goR]
            cases dn
            · simp only [Bool.not_false, cond_true, Option.bind_some, Bool.false_or, bne]
              cases (tr == 0)
              · rfl
              · simp only [cond_true, Bool.not_true, cond_false]
                cases hd : decide (us ≥ bu)
                · have := of_decide_eq_false hd
                  rw [beq_eq_false_iff_ne.2 (show us ≠ bu by omega)]
                  simp only [cond_false]
                  rw [p_impl_RegMachine_step code pc rg cl sg us tr false hm.ok hn hcw]
                  rfl
                · have := of_decide_eq_true hd
                  have hle := hm.le
                  simp only at hle
                  rw [show (us == bu) = true by rw [beq_iff_eq]; omega]
                  rfl
            · rfl)
          (fun s s' hs hg => goR_next code bu l.length h3.2 hn hcw s s' hs hg) (bu.toNat + 1) (m0 l) hi (by show (bu - 0).toNat < bu.toNat + 1; omega)
        have hk : l_impl_RunRegs_l10 ((code, (bu, ())), (((0 : Int), ((0 : Int), ((0 : Int), ((0 : Int), ((0 : Int), (false, ())))))), (((0 : Int), ((0 : Int), ((0 : Int), ((0 : Int), ((0 : Int), (false, ())))))), ())), (rep24, (l, ()))) = _ := key
        rw [hk]
        rfl
    · simp only [cond_true, h2]; rfl
  · rfl

theorem runC_ok (code l : Li) (bu : Int) : (runC code l bu).2.2.1.length ≤ 24 ∧ (runC code l bu).2.2.2.1.length ≤ 80 := by
  unfold runC
  cases h1 : (wf code != 0)
  · obtain ⟨hn, hcw⟩ := wf_aw h1
    cases h2 : (rfF (m0 l) != 0)
    · cases h3 : (decide (0 ≤ bu) && decide (bu ≤ 20000))
      · simp [zM]
      · simp only [Bool.and_eq_true, decide_eq_true_eq] at h3
        have := (runM_ok code bu l.length h3.1 h3.2 hn hcw (m0 l) ⟨m0_ok h2, h3.1, rfl⟩ rfl).1.ok
        simp only [cond_false, Bool.not_true]
        exact ⟨by rw [this.rl]; exact Nat.le_refl _, this.cl⟩
    · simp [zM]
  · simp [zM]

theorem lim_ex {A B : Type} {step : A → Option (A ⊕ B)} (I : Nat → A → Prop) (Q : B → Prop)
    (h : ∀ n a, I n a → (∃ b, step a = some (.inr b) ∧ Q b) ∨ (∃ a' m, step a = some (.inl a') ∧ m < n ∧ I m a')) : ∀ n a, I n a → ∃ b, lim step a = some b ∧ Q b := by
  intro n
  induction n using Nat.strongRecOn with
  | ind n ih =>
    intro a ha
    rcases h n a ha with ⟨b, h1, h2⟩ | ⟨a', m, h1, h2, h3⟩
    · exact ⟨b, by rw [lim_eq, h1], h2⟩
    · obtain ⟨b, h4, h5⟩ := ih m h2 a' h3
      exact ⟨b, by rw [lim_eq, h1]; exact h4, h5⟩
/-- Bytes that a draw reads. -/
structure SrcOk (c : Li) : Prop where
  len : c.length ≤ 1048576
  byt : ∀ x ∈ c, 0 ≤ x ∧ x ≤ 255
theorem src_get {c : Li} (h : SrcOk c) (i : Nat) : 0 ≤ c.getD i 0 ∧ c.getD i 0 ≤ 255 := by
  rw [List.getD_eq_getElem?_getD]
  cases hg : c[i]? with
  | none => simp
  | some x => exact h.byt x (List.mem_of_getElem? hg)
theorem kz8 : K.zero (.int .u8) = (0 : Int) := rfl
theorem tmod_in {x n : Int} (h0 : 0 ≤ x) (h1 : 1 ≤ n) : 0 ≤ Int.tmod x n ∧ Int.tmod x n < n := by
  rw [Int.tmod_eq_emod_of_nonneg h0]
  exact ⟨Int.emod_nonneg _ (by omega), Int.emod_lt_of_pos _ (by omega)⟩

theorem p_spec_l1Next (n : Int) (c : Li) (pos : Int) (hc : SrcOk c) (h0 : 0 ≤ pos) (h1 : pos ≤ 1000000000) :
    ∃ r : Int, F_spec_l1Next n c pos = some ((r, ()), ((c, (pos + 1, ())), ()), ()) ∧ (r = 0 ∨ (0 ≤ r ∧ r < n)) := by
  have hl := hc.len
  have e1 := wrap_id (x := pos + 1) (by omega) (by omega)
  have e2 : IntKind.wrap .i64 (pos + 1 - 1) = pos := by rw [wrap_id (by omega) (by omega)]; omega
  have e3 := wrap_id (x := pos * 7) (by omega) (by omega)
  unfold F_spec_l1Next
  simp only [e1, e2, e3]
  cases q1 : decide (n < 1)
  · have q1' := of_decide_eq_false q1
    simp only [cond_false]
    cases q2 : ((c.length : Int) == 0)
    · have q2' : (c.length : Int) ≠ 0 := by simpa using q2
      have hcl : 1 ≤ (c.length : Int) := by omega
      simp only [cond_false]
      have t1 := tmod_in h0 hcl
      have t2 := tmod_in (x := pos + 1) (n := (c.length : Int)) (by omega) hcl
      rw [ib_in t1.1 t1.2]
      simp only [cond_true, kz8]
      have hn0 : (n == 0) = false := beq_eq_false_iff_ne.2 (by omega)
      have d0 : 0 ≤ Int.tdiv pos (c.length : Int) := Int.tdiv_nonneg h0 (by omega)
      have d1 : Int.tdiv pos (c.length : Int) ≤ pos := Int.tdiv_le_self _ h0
      have b1 := src_get hc (Int.tmod pos (c.length : Int)).toNat
      have b2 := src_get hc (Int.tmod (pos + 1) (c.length : Int)).toNat
      have w1 := wrap_id (x := Int.tdiv pos (c.length : Int)) (by omega) (by omega)
      have w2 := wrap_id (x := Int.tdiv pos (c.length : Int) * 37) (by omega) (by omega)
      have w3 := wrap_id (x := c.getD (Int.tmod pos (c.length : Int)).toNat 0) (by omega) (by omega)
      have w4 := wrap_id (x := c.getD (Int.tmod pos (c.length : Int)).toNat 0 + Int.tdiv pos (c.length : Int) * 37) (by omega) (by omega)
      simp only [w1, w2, w3, w4, hn0, cond_false]
      cases q3 : decide (n > 200)
      · simp only [cond_false]
        exact ⟨_, rfl, .inr (tmod_in (by omega) (by omega))⟩
      · simp only [cond_true]
        rw [ib_in t2.1 t2.2]
        have w5 := wrap_id (x := c.getD (Int.tmod (pos + 1) (c.length : Int)).toNat 0) (by omega) (by omega)
        have w6 := wrap_id (x := c.getD (Int.tmod (pos + 1) (c.length : Int)).toNat 0 * 13) (by omega) (by omega)
        have w7 := wrap_id (x := (c.getD (Int.tmod pos (c.length : Int)).toNat 0 + Int.tdiv pos (c.length : Int) * 37) * 251) (by omega) (by omega)
        have w8 := wrap_id (x := (c.getD (Int.tmod pos (c.length : Int)).toNat 0 + Int.tdiv pos (c.length : Int) * 37) * 251 + c.getD (Int.tmod (pos + 1) (c.length : Int)).toNat 0 * 13) (by omega) (by omega)
        have w9 := wrap_id (x := (c.getD (Int.tmod pos (c.length : Int)).toNat 0 + Int.tdiv pos (c.length : Int) * 37) * 251 + c.getD (Int.tmod (pos + 1) (c.length : Int)).toNat 0 * 13 + pos) (by omega) (by omega)
        simp only [cond_true, w5, w6, w7, w8, w9]
        exact ⟨_, rfl, .inr (tmod_in (by omega) (by omega))⟩
    · have hn0 : (n == 0) = false := beq_eq_false_iff_ne.2 (by omega)
      simp only [cond_true, hn0, cond_false]
      exact ⟨_, rfl, .inr (tmod_in (by omega) (by omega))⟩
  · exact ⟨0, rfl, .inl rfl⟩

theorem p_spec_l1Pick (l : Li) (c : Li) (pos : Int) (hc : SrcOk c) (h0 : 0 ≤ pos) (h1 : pos ≤ 1000000000) (hl : l ≠ []) :
    ∃ r : Int, F_spec_l1Pick l c pos = some ((r, ()), ((c, (pos + 1, ())), ()), ()) ∧ r ∈ l := by
  obtain ⟨r, e, hr⟩ := p_spec_l1Next (l.length : Int) c pos hc h0 h1
  have hlen : 0 < l.length := List.length_pos_iff.2 hl
  have hr' : 0 ≤ r ∧ r < (l.length : Int) := by rcases hr with rfl | hr <;> omega
  simp only [F_spec_l1Pick, e, Option.bind_some, ib_in hr'.1 hr'.2, cond_true, kz]
  refine ⟨_, rfl, ?_⟩
  rw [List.getD_eq_getElem?_getD, List.getElem?_eq_getElem (by omega)]
  exact List.getElem_mem _

theorem p_spec_l1Chance (n : Int) (c : Li) (pos : Int) (hc : SrcOk c) (h0 : 0 ≤ pos) (h1 : pos ≤ 1000000000) : ∃ b : Bool, F_spec_l1Chance n c pos = some ((b, ()), ((c, (pos + 1, ())), ()), ()) := by
  obtain ⟨r, e, hr⟩ := p_spec_l1Next n c pos hc h0 h1
  simp only [F_spec_l1Chance, e, Option.bind_some]
  exact ⟨_, rfl⟩

theorem p_spec_l1DrawWord (c : Li) (pos : Int) (hc : SrcOk c) (h0 : 0 ≤ pos) (h1 : pos ≤ 999999990) : ∃ r : Int, F_spec_l1DrawWord c pos = some ((r, ()), ((c, (pos + 4, ())), ()), ()) := by
  obtain ⟨r1, e1, _⟩ := p_spec_l1Next 90 c pos hc h0 (by omega)
  obtain ⟨r2, e2, _⟩ := p_spec_l1Next 256 c (pos + 1) hc (by omega) (by omega)
  obtain ⟨r3, e3, _⟩ := p_spec_l1Next 9 c (pos + 1 + 1) hc (by omega) (by omega)
  obtain ⟨r4, e4, _⟩ := p_spec_l1Pick [r1, IntKind.wrap .i64 (r2 * 257), IntKind.wrap .i64 (65535 - r3), 32768, 32767, 0] c (pos + 1 + 1 + 1) hc (by omega) (by omega) (by simp)
  simp only [F_spec_l1DrawWord, e1, e2, e3, e4, Option.bind_some]
  exact ⟨r4, by rw [show pos + 1 + 1 + 1 + 1 = pos + 4 by omega]⟩

theorem p_spec_l1Words (c : Li) (pos : Int) (hc : SrcOk c) (h0 : 0 ≤ pos) (h1 : pos ≤ 900000000) :
    ∃ (p' : Int) (l : Li), F_spec_l1Words c pos = some ((), ((c, (p', ())), ()), (l, ())) ∧ pos ≤ p' ∧ p' ≤ pos + 10000 ∧ l.length ≤ 500 := by
  obtain ⟨r1, e1, g1⟩ := p_spec_l1Next 9 c pos hc h0 (by omega)
  obtain ⟨r2, e2, g2⟩ := p_spec_l1Next 30 c (pos + 1) hc (by omega) (by omega)
  obtain ⟨r3, e3, g3⟩ := p_spec_l1Pick [r1, r2, 400] c (pos + 1 + 1) hc (by omega) (by omega) (by simp)
  have hr3 : 0 ≤ r3 ∧ r3 ≤ 400 := by simp at g3; omega
  obtain ⟨b, hb, p', l, q1, q2, q3, q4⟩ := lim_ex (step := s_spec_l1Words_l3) (fun n a => ∃ (k p : Int) (l : Li), a = ((k, ()), ((c, (p, ())), ()), (l, ())) ∧ 0 ≤ k ∧ n = k.toNat ∧ pos ≤ p ∧ p + 4 * k ≤ pos + 3000 ∧ (l.length : Int) + k ≤ 400)
    (fun b => ∃ (p : Int) (l : Li), b = ((), ((c, (p, ())), ()), (l, ())) ∧ pos ≤ p ∧ p ≤ pos + 3000 ∧ l.length ≤ 400)
    (fun n a ⟨k, p, l, ha, hk, hn, hp0, hp1, hl⟩ => by
      subst ha
      simp only [s_spec_l1Words_l3]
      cases q : decide (k > 0)
      · exact .inl ⟨_, rfl, p, l, rfl, hp0, by omega, by omega⟩
      · have q' := of_decide_eq_true q
        obtain ⟨w, ew⟩ := p_spec_l1DrawWord c p hc (by omega) (by omega)
        simp only [cond_true, ew, Option.bind_some]
        rw [show room (l ++ [w]).length 8 = true by simp [room]; omega, wrap_id (x := k - 1) (by omega) (by omega)]
        exact .inr ⟨_, (k - 1).toNat, rfl, by omega, k - 1, p + 4, l ++ [w], rfl, by omega, rfl, by omega, by omega, by simp; omega⟩)
    r3.toNat ((r3, ()), ((c, (pos + 1 + 1 + 1, ())), ()), ([], ())) ⟨r3, pos + 1 + 1 + 1, [], rfl, hr3.1, rfl, by omega, by omega, by simp; omega⟩
  subst q1
  obtain ⟨r6, e6, _⟩ := p_spec_l1Next 14 c p' hc (by omega) (by omega)
  have hb' : l_spec_l1Words_l3 ((r3, ()), ((c, (pos + 1 + 1 + 1, ())), ()), ([], ())) = _ := hb
  simp only [F_spec_l1Words, e1, e2, e3, hb', e6, Option.bind_some]
  cases (r6 == 0)
  · simp only [cond_false]
    cases (r6 == 1)
    · exact ⟨p' + 1, l, rfl, by omega, by omega, by omega⟩
    · exact ⟨p' + 1, _, rfl, by omega, by omega, by rw [List.length_replicate]; exact Nat.le_of_ble_eq_true rfl⟩
  · simp only [cond_true]
    cases q : decide ((l.length : Int) > 0)
    · exact ⟨p' + 1, l, rfl, by omega, by omega, by omega⟩
    · have q' := of_decide_eq_true q
      obtain ⟨r7, e7, g7⟩ := p_spec_l1Next (l.length : Int) c (p' + 1) hc (by omega) (by omega)
      obtain ⟨r8, e8, _⟩ := p_spec_l1Pick [-1, 65536] c (p' + 1 + 1) hc (by omega) (by omega) (by simp)
      simp only [cond_true, e7, e8, Option.bind_some]
      rw [ib_in (x := r7) (by omega) (by omega)]
      exact ⟨p' + 1 + 1 + 1, _, rfl, by omega, by omega, by simp; omega⟩

theorem p_spec_l10Code_in (op : Int) (k0 : Int) (c : Li) (pos : Int) (acc : Li) (hc : SrcOk c) (h0 : 0 ≤ pos) (h1 : pos ≤ 900000000) (ha : acc.length ≤ 100) :
    ∃ (p' : Int) (l : Li), l_spec_l10Code_l8 ((k0, (op, ((0 : Int), ()))), ((c, (pos, ())), ()), (acc, ())) = some ((k0, ()), ((c, (p', ())), ()), (l, ())) ∧ pos ≤ p' ∧ p' ≤ pos + 24 ∧ l.length ≤ acc.length + 4 := by
  have ha4 := argsR_le op
  obtain ⟨b, hb, p', l, q1, q2, q3, q4⟩ := lim_ex (step := s_spec_l10Code_l8) (fun n a => ∃ (j p : Int) (l : Li), a = ((k0, (op, (j, ()))), ((c, (p, ())), ()), (l, ())) ∧ 0 ≤ j ∧ j ≤ argsR op ∧ n = ((argsR op : Int) - j).toNat ∧ pos ≤ p ∧ p ≤ pos + 6 * j ∧ (l.length : Int) = acc.length + j)
    (fun b => ∃ (p : Int) (l : Li), b = ((k0, ()), ((c, (p, ())), ()), (l, ())) ∧ pos ≤ p ∧ p ≤ pos + 24 ∧ l.length ≤ acc.length + 4)
    (fun n a ⟨j, p, l, he, hj0, hj1, hn, hp0, hp1, hl⟩ => by
      subst he
      simp only [s_spec_l10Code_l8, p_spec_l10Args, Option.bind_some]
      cases q : decide (j < (argsR op : Int))
      · exact .inl ⟨_, rfl, p, l, rfl, hp0, by omega, by omega⟩
      · have q' := of_decide_eq_true q
        obtain ⟨r4, e4, _⟩ := p_spec_l1Next 6 c p hc (by omega) (by omega)
        obtain ⟨r5, e5, _⟩ := p_spec_l1Next 4 c (p + 1) hc (by omega) (by omega)
        obtain ⟨r6, e6, _⟩ := p_spec_l1Next 20 c (p + 1 + 1) hc (by omega) (by omega)
        obtain ⟨r7, e7, _⟩ := p_spec_l1Next 5 c (p + 1 + 1 + 1) hc (by omega) (by omega)
        obtain ⟨r8, e8, _⟩ := p_spec_l1Next 2 c (p + 1 + 1 + 1 + 1) hc (by omega) (by omega)
        obtain ⟨r9, e9, _⟩ := p_spec_l1Pick [r4, r5, r6, IntKind.wrap .i64 (65535 - IntKind.wrap .i64 (r7 * r8))] c (p + 1 + 1 + 1 + 1 + 1) hc (by omega) (by omega) (by simp)
        simp only [cond_true, e4, e5, e6, e7, e8, e9, Option.bind_some]
        rw [show room (l ++ [r9]).length 8 = true by simp [room]; omega, wrap_id (x := j + 1) (by omega) (by omega)]
        exact .inr ⟨_, ((argsR op : Int) - (j + 1)).toNat, rfl, by omega, j + 1, p + 1 + 1 + 1 + 1 + 1 + 1, l ++ [r9], rfl, by omega, by omega, rfl, by omega, by omega, by simp; omega⟩)
    ((argsR op : Int) - 0).toNat ((k0, (op, ((0 : Int), ()))), ((c, (pos, ())), ()), (acc, ())) ⟨0, pos, acc, rfl, by omega, by omega, rfl, by omega, by omega, by omega⟩
  subst q1
  exact ⟨p', l, hb, q2, q3, q4⟩

theorem p_spec_l10Code (c : Li) (pos : Int) (hc : SrcOk c) (h0 : 0 ≤ pos) (h1 : pos ≤ 800000000) :
    ∃ (p' : Int) (l : Li), F_spec_l10Code c pos = some ((), ((c, (p', ())), ()), (l, ())) ∧ pos ≤ p' ∧ p' ≤ pos + 20000 ∧ l.length ≤ 500 := by
  obtain ⟨r1, e1, g1⟩ := p_spec_l1Next 14 c pos hc h0 (by omega)
  have hr1 : 0 ≤ r1 ∧ r1 ≤ 13 := by omega
  obtain ⟨b, hb, p', l, q1, q2, q3, q4⟩ := lim_ex (step := s_spec_l10Code_l3) (fun n a => ∃ (k p : Int) (l : Li), a = ((k, ()), ((c, (p, ())), ()), (l, ())) ∧ 0 ≤ k ∧ n = k.toNat ∧ pos ≤ p ∧ p + 25 * k ≤ pos + 400 ∧ (l.length : Int) + 5 * k ≤ 65)
    (fun b => ∃ (p : Int) (l : Li), b = ((), ((c, (p, ())), ()), (l, ())) ∧ pos ≤ p ∧ p ≤ pos + 400 ∧ l.length ≤ 65)
    (fun n a ⟨k, p, l, ha, hk, hn, hp0, hp1, hl⟩ => by
      subst ha
      simp only [s_spec_l10Code_l3]
      cases q : decide (k > 0)
      · exact .inl ⟨_, rfl, p, l, rfl, hp0, by omega, by omega⟩
      · have q' := of_decide_eq_true q
        obtain ⟨r2, e2, _⟩ := p_spec_l1Next 13 c p hc (by omega) (by omega)
        obtain ⟨p2, l2, e3, u1, u2, u3⟩ := p_spec_l10Code_in (IntKind.wrap .i64 (1 + r2)) k c (p + 1) (l ++ [IntKind.wrap .i64 (1 + r2)]) hc (by omega) (by omega) (by simp; omega)
        simp only [cond_true, e2, Option.bind_some]
        rw [show room (l ++ [IntKind.wrap .i64 (1 + r2)]).length 8 = true by simp [room]; omega]
        simp only [cond_true, e3, Option.bind_some]
        rw [wrap_id (x := k - 1) (by omega) (by omega)]
        simp only [List.length_append, List.length_cons, List.length_nil] at u3
        exact .inr ⟨_, (k - 1).toNat, rfl, by omega, k - 1, p2, l2, rfl, by omega, rfl, by omega, by omega, by omega⟩)
    r1.toNat ((r1, ()), ((c, (pos + 1, ())), ()), ([], ())) ⟨r1, pos + 1, [], rfl, hr1.1, rfl, by omega, by omega, by simp; omega⟩
  subst q1
  have hb' : l_spec_l10Code_l3 ((r1, ()), ((c, (pos + 1, ())), ()), ([], ())) = _ := hb
  obtain ⟨b2, e4⟩ := p_spec_l1Chance 2 c p' hc (by omega) (by omega)
  obtain ⟨b3, e5⟩ := p_spec_l1Chance 14 c (p' + 1) hc (by omega) (by omega)
  obtain ⟨p6, l6, e6, u1, u2, u3⟩ := p_spec_l1Words c (p' + 1 + 1) hc (by omega) (by omega)
  simp only [F_spec_l10Code, e1, hb', e4, e5, Option.bind_some]
  rw [show room (l ++ [(13 : Int)]).length 8 = true by simp [room]; omega]
  cases b2
  · simp only [cond_false]
    cases b3
    · exact ⟨p' + 1 + 1, l, rfl, by omega, by omega, by omega⟩
    · simp only [cond_true, e6, Option.bind_some]
      exact ⟨p6, l6, rfl, by omega, by omega, u3⟩
  · simp only [cond_true]
    cases b3
    · exact ⟨p' + 1 + 1, l ++ [13], rfl, by omega, by omega, by simp; omega⟩
    · simp only [cond_true, e6, Option.bind_some]
      exact ⟨p6, l6, rfl, by omega, by omega, u3⟩

theorem p_spec_l8Cells (c : Li) (pos : Int) (hc : SrcOk c) (h0 : 0 ≤ pos) (h1 : pos ≤ 800000000) :
    ∃ (p' : Int) (l : Li), F_spec_l8Cells c pos = some ((), ((c, (p', ())), ()), (l, ())) ∧ pos ≤ p' ∧ p' ≤ pos + 20000 ∧ l.length ≤ 500 := by
  obtain ⟨r1, e1, g1⟩ := p_spec_l1Next 8 c pos hc h0 (by omega)
  have hr1 : 0 ≤ r1 ∧ r1 ≤ 7 := by omega
  obtain ⟨b, hb, p', l, q1, q2, q3, q4⟩ := lim_ex (step := s_spec_l8Cells_l3) (fun n a => ∃ (k p : Int) (l : Li), a = ((k, ()), ((c, (p, ())), ()), (l, ())) ∧ 0 ≤ k ∧ n = k.toNat ∧ pos ≤ p ∧ p + 6 * k ≤ pos + 60 ∧ (l.length : Int) + k ≤ 7)
    (fun b => ∃ (p : Int) (l : Li), b = ((), ((c, (p, ())), ()), (l, ())) ∧ pos ≤ p ∧ p ≤ pos + 60 ∧ l.length ≤ 7)
    (fun n a ⟨k, p, l, ha, hk, hn, hp0, hp1, hl⟩ => by
      subst ha
      simp only [s_spec_l8Cells_l3]
      cases q : decide (k > 0)
      · exact .inl ⟨_, rfl, p, l, rfl, hp0, by omega, by omega⟩
      · have q' := of_decide_eq_true q
        obtain ⟨r2, e2, _⟩ := p_spec_l1Next 5 c p hc (by omega) (by omega)
        obtain ⟨w, ew⟩ := p_spec_l1DrawWord c (p + 1) hc (by omega) (by omega)
        obtain ⟨r4, e4, _⟩ := p_spec_l1Pick [r2, w] c (p + 1 + 4) hc (by omega) (by omega) (by simp)
        simp only [cond_true, e2, ew, e4, Option.bind_some]
        rw [show room (l ++ [r4]).length 8 = true by simp [room]; omega, wrap_id (x := k - 1) (by omega) (by omega)]
        exact .inr ⟨_, (k - 1).toNat, rfl, by omega, k - 1, p + 1 + 4 + 1, l ++ [r4], rfl, by omega, rfl, by omega, by omega, by simp; omega⟩)
    r1.toNat ((r1, ()), ((c, (pos + 1, ())), ()), ([], ())) ⟨r1, pos + 1, [], rfl, hr1.1, rfl, by omega, by omega, by simp; omega⟩
  subst q1
  have hb' : l_spec_l8Cells_l3 ((r1, ()), ((c, (pos + 1, ())), ()), ([], ())) = _ := hb
  obtain ⟨r6, e6, _⟩ := p_spec_l1Next 20 c p' hc (by omega) (by omega)
  simp only [F_spec_l8Cells, e1, hb', e6, Option.bind_some]
  cases (r6 == 0)
  · simp only [cond_false]
    cases (r6 == 1)
    · exact ⟨p' + 1, l, rfl, by omega, by omega, by omega⟩
    · exact ⟨p' + 1, _, rfl, by omega, by omega, by rw [List.length_replicate]; exact Nat.le_of_ble_eq_true rfl⟩
  · obtain ⟨r7, e7, _⟩ := p_spec_l1Pick [-1, 65536] c (p' + 1) hc (by omega) (by omega) (by simp)
    simp only [cond_true, e7, Option.bind_some]
    rw [show room (l ++ [r7]).length 8 = true by simp [room]; omega]
    exact ⟨p' + 1 + 1, l ++ [r7], rfl, by omega, by omega, by simp; omega⟩

theorem p_spec_DrawRunRegs (c : Li) (hc : SrcOk c) : ∃ (bu : Int) (w l : Li), F_spec_DrawRunRegs c = some ((w, (l, (bu, ()))), (), ()) ∧ w.length ≤ 500 ∧ l.length ≤ 500 := by
  obtain ⟨p1, w, e1, u1, u2, u3⟩ := p_spec_l10Code c 0 hc (by omega) (by omega)
  obtain ⟨p2, l, e2, v1, v2, v3⟩ := p_spec_l8Cells c p1 hc (by omega) (by omega)
  obtain ⟨r3, e3, _⟩ := p_spec_l1Next 20 c p2 hc (by omega) (by omega)
  obtain ⟨r4, e4, _⟩ := p_spec_l1Pick [100, r3, 0, 20000, 20001, -1] c (p2 + 1) hc (by omega) (by omega) (by simp)
  simp only [F_spec_DrawRunRegs, F_spec_l1Source, e1, e2, e3, e4, Option.bind_some]
  exact ⟨r4, w, l, rfl, u3, v3⟩

theorem aw_no {l : Li} (h : aw l) : l.any (fun x => !isW x) = false := by
  rw [List.any_eq_false]
  intro x hx
  have := h x hx
  unfold isWd at this
  simp [isW, this.1, this.2]
theorem isW_of' {x : Int} (h : isWd x) : isW x = true := by unfold isWd at h; simp [isW, h.1, h.2]
theorem rfF_ok {m : RM} (h : RMok m) : rfF m = 0 := by
  have a := h.rl
  have b := h.cl
  unfold rfF
  rw [isW_of' (x := m.1) ⟨h.pc0, h.pc1⟩, isW_of' h.sg, aw_no h.rw_, aw_no h.cw, decide_eq_true h.us0, decide_eq_true h.us1, decide_eq_true h.t0, decide_eq_true h.t1, a, decide_eq_false (show ¬ (m.2.2.1.length : Int) > 80 by omega)]
  rfl

theorem p_impl_StepRegs (code : Li) (m : RM) (hm : RMok m) (hn : code.length ≤ 400) (hcw : aw code) : F_impl_StepRegs code m = some (((0, oM (stepR code m)), ()), (), ((stepR code m).2.1, ((stepR code m).2.2.1, ()))) := by
  obtain ⟨pc, rg, cl, sg, us, tr, dn⟩ := m
  have a := hm.rl
  have b := hm.cl
  simp only at a b
  have hw : wf code = 0 := by
    unfold wf
    rw [decide_eq_false (show ¬ (code.length : Int) > 400 by omega), aw_no hcw]; rfl
  simp only [F_impl_StepRegs, p_impl_WordsFault code (by simp only [maxLen]; omega), p_impl_RegFault (pc, rg, cl, sg, us, tr, dn) (by show rg.length ≤ maxLen; simp only [maxLen]; omega) (by show cl.length ≤ maxLen; simp only [maxLen]; omega), hw, rfF_ok hm, Option.bind_some, bne_self_eq_false, cond_false,
    p_slices_Clone_int64 rg (by omega), p_slices_Clone_int64 cl (by omega), p_impl_RegMachine_step code pc rg cl sg us tr dn hm hn hcw, outI, oM]

theorem p_impl_InvertAll (l : Li) (hl : l.length ≤ 80) (hw : aw l) : F_impl_InvertAll l = some (((0, ()), ()), (), (l.map compl, ())) := by
  have hz : wf l = 0 := by
    unfold wf
    rw [decide_eq_false (show ¬ (l.length : Int) > 400 by omega), aw_no hw]; rfl
  simp only [F_impl_InvertAll, p_impl_WordsFault l (by simp only [maxLen]; omega), p_impl_inverted l (by omega), hz, Option.bind_some, bne_self_eq_false, cond_false]

theorem p_laws_lwNums (l : Li) (hm : l.length ≤ maxLen) : F_laws_lwNums l l = some ((true, ()), (), ()) := by
  have h4 : l_laws_lwNums_l4 ((l, (l, ((0 : Int), ()))), (), ()) = _ :=
    lim_any (step := s_laws_lwNums_l4) l (fun i => ((l, (l, ((i : Int), ()))), (), ())) (fun _ => false) (.inl ((), (), ())) (.inl ((), (), ()))
      (fun i d hg => by
        have hlt := lt_of_get hg
        simp only [s_laws_lwNums_l4, dec_lt hlt, cond_true, ib_nat hlt, Int.toNat_natCast, getD_of hg, wrap_succ hlt hm, bne_self_eq_false, cond_false])
      (by simp only [s_laws_lwNums_l4, dec_self, cond_false])
  rw [any_no] at h4
  simp only [F_laws_lwNums, bne_self_eq_false, cond_false, h4, Option.bind_some]

theorem compl_compl {x : Int} (h : isWd x) : compl (compl x) = x := by
  rw [compl_eq, compl_eq]
  unfold isWd at h
  unfold wdo
  omega
theorem map_compl2 {l : Li} (h : aw l) : (l.map compl).map compl = l := by
  rw [List.map_map]
  have : ∀ x ∈ l, (compl ∘ compl) x = id x := fun x hx => compl_compl (h x hx)
  rw [List.map_congr_left this, List.map_id]
def DT (m : RM) : Prop := m.2.2.2.2.2.2 = true → m.2.2.2.2.2.1 = 0
theorem stepR_dt (code : Li) (m : RM) (h : (m.2.2.2.2.2.2 || m.2.2.2.2.2.1 != 0) = false) : DT (stepR code m) := by
  have hd : m.2.2.2.2.2.2 = false := by simp only [Bool.or_eq_false_iff] at h; exact h.1
  unfold DT stepR
  rw [h]
  simp only [cond_false]
  cases (insOk code m.1 && (!badR (opAt code m.1) (wAt code m.1) && !badC (opAt code m.1) (wAt code m.1) m.2.2.1))
  · simp only [cond_false, hd]; intro h; cases h
  · simp only [cond_true]
    cases ((doR (opAt code m.1) (wAt code m.1) (m.1 + 1 + argsR (opAt code m.1)) m.2.2.2.1 m.2.2.2.2.2.2 m.2.1 m.2.2.1).1 != 0)
    · simp only [cond_false]; intro _; trivial
    · simp only [cond_true, hd]; intro h; cases h
theorem runM_dt (code : Li) (bu : Int) (k : Nat) (h0 : 0 ≤ bu) (hb : bu ≤ 20000) (hn : code.length ≤ 400) (hcw : aw code) (m : RM) (hm : RunI bu k m) (hu : m.2.2.2.2.1 = 0) (hd : DT m) : DT (runM code bu m).2 :=
  runF_ind (goR code bu) (false, m) (fun m => RunI bu k m ∧ DT m) (fun m => (bu - m.2.2.2.2.1).toNat) (fun r => DT r.2)
    (fun s s' hs hg => by
      obtain ⟨h1, h2⟩ := goR_next code bu k hb hn hcw s s' hs.1 hg
      refine ⟨⟨h1, ?_⟩, h2⟩
      unfold goR at hg
      cases h3 : (s.2.2.2.2.2.2 || s.2.2.2.2.2.1 != 0)
      · rw [h3] at hg
        cases h4 : decide (s.2.2.2.2.1 ≥ bu)
        · rw [h4] at hg
          simp only [cond_false] at hg
          cases hg
          exact stepR_dt code s h3
        · rw [h4] at hg; cases hg
      · rw [h3] at hg; cases hg)
    (fun s r hs hg => by
      unfold goR at hg
      cases h3 : (s.2.2.2.2.2.2 || s.2.2.2.2.2.1 != 0)
      · rw [h3] at hg
        have hd : s.2.2.2.2.2.2 = false := by simp only [Bool.or_eq_false_iff] at h3; exact h3.1
        cases h4 : decide (s.2.2.2.2.1 ≥ bu)
        · rw [h4] at hg; cases hg
        · rw [h4] at hg
          simp only [cond_false, cond_true] at hg
          cases hg
          intro h
          simp only at h
          rw [hd] at h; cases h
      · rw [h3] at hg
        simp only [cond_true] at hg
        cases hg
        exact hs.2) _ _ ⟨hm, hd⟩ (by rw [hu]; omega)
/-- What is so of a machine that ran. -/
structure EndOk (code l : Li) (bu : Int) (m : RM) : Prop where
  ok : RMok m
  le : m.2.2.2.2.1 ≤ bu
  len : m.2.2.1.length = l.length
  stop : (m.2.2.2.2.2.2 || m.2.2.2.2.2.1 != 0) = true
  dt : DT m
  cn : code.length ≤ 400
  ca : aw code
  ll : l.length ≤ 80
  la : aw l
theorem runC_end (code l : Li) (bu : Int) (h : ((runC code l bu).1 != 0) = false) : EndOk code l bu (runC code l bu).2 := by
  unfold runC at h ⊢
  cases h1 : (wf code != 0)
  · obtain ⟨hn, hcw⟩ := wf_aw h1
    rw [h1] at h
    simp only [cond_false] at h ⊢
    cases h2 : (rfF (m0 l) != 0)
    · rw [h2] at h
      simp only [cond_false] at h ⊢
      cases h3 : (decide (0 ≤ bu) && decide (bu ≤ 20000))
      · rw [h3] at h; cases h
      · simp only [Bool.and_eq_true, decide_eq_true_eq] at h3
        have hm0 := m0_ok h2
        have hi : RunI bu l.length (m0 l) := ⟨hm0, h3.1, rfl⟩
        obtain ⟨g1, g2⟩ := runM_ok code bu l.length h3.1 h3.2 hn hcw (m0 l) hi rfl
        have g3 := runM_dt code bu l.length h3.1 h3.2 hn hcw (m0 l) hi rfl (fun h => by cases h)
        simp only [Bool.not_true, cond_false]
        exact ⟨g1.ok, g1.le, g1.len, g2, g3, hn, hcw, hm0.cl, hm0.cw⟩
    · rw [h2] at h
      simp only [cond_true] at h
      rw [h2] at h; cases h
  · rw [h1] at h
    simp only [cond_true] at h
    rw [h1] at h; cases h

theorem p_laws_FnRegisters (c : Li) (hw : Wf (.sl (.int .u8)) c) : F_laws_FnRegisters c = some ((true, ()), (), ()) := by
  simp only [F_laws_FnRegisters, F_laws_lwBig, Option.bind_some]
  cases q1 : decide ((c.length : Int) > 1048576)
  · have q1' := of_decide_eq_false q1
    have hc : SrcOk c := ⟨by omega, fun x hx => by
      have := hw.2 x hx
      simp only [Wf] at this
      simp [Lit.wf, IntKind.min, IntKind.max, IntKind.bits, IntKind.signed] at this
      omega⟩
    obtain ⟨bu, w, l, e, lw, ll⟩ := p_spec_DrawRunRegs c hc
    have hwm : w.length ≤ maxLen := by simp only [maxLen]; omega
    simp only [cond_false, e, Option.bind_some, p_impl_RunRegs w l bu hwm (by omega), p_spec_RunRegs w l bu hwm (by omega)]
    cases q2 : ((runC w l bu).1 != 0)
    · have hE := runC_end w l bu q2
      generalize (runC w l bu).2 = m at hE ⊢
      obtain ⟨pc, rg, cl, sg, us, tr, dn⟩ := m
      have hrl := hE.ok.rl
      have hcl := hE.ok.cl
      have hst := hE.stop
      have hdt := hE.dt
      have hle := hE.le
      have hlen := hE.len
      simp only [DT] at hrl hcl hst hdt hle hlen
      have hstep : stepR w (pc, rg, cl, sg, us, tr, dn) = (pc, rg, cl, sg, us, tr, dn) := by
        unfold stepR
        simp only [hst, cond_true]
      have hmm : aw (l.map compl) := fun x hx => by
        obtain ⟨y, _, rfl⟩ := List.mem_map.1 hx
        exact compl_isWd y
      simp only [cond_false, oM, p_impl_StepRegs w (pc, rg, cl, sg, us, tr, dn) hE.ok hE.cn hE.ca, hstep, p_impl_InvertAll l hE.ll hE.la, p_impl_RegFault (pc, rg, cl, sg, us, tr, dn) (by show rg.length ≤ maxLen; simp only [maxLen]; omega) (by show cl.length ≤ maxLen; simp only [maxLen]; omega), rfF_ok hE.ok, Option.bind_some,
        beq_self_eq_true, cond_true, hlen, p_impl_InvertAll (l.map compl) (by simp; exact hE.ll) hmm, map_compl2 hE.la, p_laws_lwNums l (by simp only [maxLen]; omega)]
      rw [decide_eq_true hle]
      cases dn
      · simp only [Bool.false_or] at hst
        rw [hst]; rfl
      · rw [hdt rfl]; rfl
    · simp only [cond_true, Option.bind_some, beq_self_eq_true]
  · rfl

end Go.Ev
