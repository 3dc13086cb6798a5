/- What is proved here: the pure function of FnExactHurtsOf yields true for each argument that can be read; no condition. -/
import Derived.Test.YtiipbidabcjnjaaHuA
set_option linter.unusedVariables false
set_option linter.unusedSimpArgs false
namespace Go.Ev

abbrev Dg : Type := Int × List Int × Int × Int × Int × Int

/-! copies -/
theorem f50 (l : List Int) (h : l.length ≤ 1048576) : F50 (l, ()) = some ((), (l, ())) := by
  have hl := lim_fold (α := Int) (σ := List Int) (step := s50_l3) l (fun i acc => ((l, ((), ((i : Int), ()))), (), (acc, ()))) (fun i acc d => .inl (acc.set i d)) (fun acc => (((), ()), (), (acc, ())))
    (fun i acc => acc.length = l.length ∧ acc.take i = l.take i)
    (fun i acc d hi hd => by
      have hlt := lt_of_get hd
      have hi1 := hi.1
      simp only [s50_l3, dec_lt hlt, cond_true, ib_nat hlt, Int.toNat_natCast, getD_of hd, wrap_succ hlt (show l.length ≤ maxLen by simp only [maxLen]; omega)]
      rw [ib_nat (show i < acc.length by omega)]
      rfl)
    (fun acc hi => by simp only [s50_l3, dec_self, cond_false])
    (fun i acc d acc' hi hd he => by
      have hlt := lt_of_get hd
      cases he
      refine ⟨by simp [hi.1], ?_⟩
      rw [List.take_add_one, List.take_add_one, List.getElem?_set_self (by have := hi.1; omega), hd, List.take_set_of_le (Nat.le_refl i), hi.2])
    l 0 (List.replicate l.length 0) ⟨by simp, by simp⟩ rfl (Nat.zero_le _)
  have hf : ∀ (r : List Int) (i : Nat) (acc : List Int), l.drop i = r → acc.length = l.length → acc.take i = l.take i → foldE (B := XT xs50_l3) (fun i acc d => .inl (acc.set i d)) (fun acc => (((), ()), (), (acc, ()))) i r acc = (((), ()), (), (l, ())) := by
    intro r
    induction r with
    | nil =>
      intro i acc hd hn ht
      have : l.length ≤ i := by simpa using hd
      rw [List.take_of_length_le (by omega), List.take_of_length_le this] at ht
      simp only [foldE, ht]
    | cons d r ih =>
      intro i acc hd hn ht
      have hlt : i < l.length := by have := congrArg List.length hd; simp at this; omega
      have hg : l[i]? = some d := by
        have := congrArg (·[0]?) hd
        simpa using this
      simp only [foldE]
      refine ih (i + 1) _ (by rw [← List.drop_drop, hd]; rfl) (by simp [hn]) ?_
      rw [List.take_add_one, List.take_add_one, List.getElem?_set_self (by omega), hg, List.take_set_of_le (Nat.le_refl i), ht]
  rw [hf l 0 _ rfl (by simp) (by simp)] at hl
  have hl' : l50_l3 ((l, ((), ((0 : Int), ()))), (), (List.replicate l.length 0, ())) = _ := hl
  have hroom : room l.length 8 = true := by simp [room]; omega
  simp only [F50, Int.toNat_natCast, hroom, cond_true]
  rw [show decide (0 ≤ (l.length : Int) ∧ (l.length : Int) ≤ (l.length : Int)) = true by simp]
  simp only [cond_true]
  rw [show K.zero (.int .i64) = (0 : Int) from rfl, hl']
  rfl

theorem f59 (d : Dg) (h : d.2.1.length ≤ 1048576) : F59 (d, ()) = some ((), (d, ())) := by
  simp only [F59, f50 _ h, Option.bind_some]

theorem f15 (l : List Dg) (h : l.length ≤ 1048576) (h2 : ∀ d ∈ l, d.2.1.length ≤ 1048576) : F15 (l, ()) = some ((), (l, ())) := by
  have hl := lim_fold (α := Dg) (σ := List Dg) (step := s15_l3) l (fun i acc => ((l, ((), ((i : Int), ()))), (), (acc, ()))) (fun i acc d => .inl (acc.set i d)) (fun acc => (((), ()), (), (acc, ())))
    (fun i acc => acc.length = l.length ∧ acc.take i = l.take i)
    (fun i acc d hi hd => by
      have hlt := lt_of_get hd
      have hi1 := hi.1
      simp only [s15_l3, dec_lt hlt, cond_true, ib_nat hlt, Int.toNat_natCast, getD_of hd, wrap_succ hlt (show l.length ≤ maxLen by simp only [maxLen]; omega), f59 d (h2 d (List.mem_of_getElem? hd)), Option.bind_some]
      rw [ib_nat (show i < acc.length by omega)]
      rfl)
    (fun acc hi => by simp only [s15_l3, dec_self, cond_false])
    (fun i acc d acc' hi hd he => by
      have hlt := lt_of_get hd
      cases he
      refine ⟨by simp [hi.1], ?_⟩
      rw [List.take_add_one, List.take_add_one, List.getElem?_set_self (by have := hi.1; omega), hd, List.take_set_of_le (Nat.le_refl i), hi.2])
    l 0 (List.replicate l.length (0, [], 0, 0, 0, 0)) ⟨by simp, by simp⟩ rfl (Nat.zero_le _)
  have hf : ∀ (r : List Dg) (i : Nat) (acc : List Dg), l.drop i = r → acc.length = l.length → acc.take i = l.take i → foldE (B := XT xs15_l3) (fun i acc d => .inl (acc.set i d)) (fun acc => (((), ()), (), (acc, ()))) i r acc = (((), ()), (), (l, ())) := by
    intro r
    induction r with
    | nil =>
      intro i acc hd hn ht
      have : l.length ≤ i := by simpa using hd
      rw [List.take_of_length_le (by omega), List.take_of_length_le this] at ht
      simp only [foldE, ht]
    | cons d r ih =>
      intro i acc hd hn ht
      have hlt : i < l.length := by have := congrArg List.length hd; simp at this; omega
      have hg : l[i]? = some d := by
        have := congrArg (·[0]?) hd
        simpa using this
      simp only [foldE]
      refine ih (i + 1) _ (by rw [← List.drop_drop, hd]; rfl) (by simp [hn]) ?_
      rw [List.take_add_one, List.take_add_one, List.getElem?_set_self (by omega), hg, List.take_set_of_le (Nat.le_refl i), ht]
  rw [hf l 0 _ rfl (by simp) (by simp)] at hl
  have hl' : l15_l3 ((l, ((), ((0 : Int), ()))), (), (List.replicate l.length (0, [], 0, 0, 0, 0), ())) = _ := hl
  have hroom : room l.length 64 = true := by simp [room]; omega
  simp only [F15, Int.toNat_natCast, hroom, cond_true]
  rw [show decide (0 ≤ (l.length : Int) ∧ (l.length : Int) ≤ (l.length : Int)) = true by simp]
  simp only [cond_true]
  rw [show K.zero k4 = ((0, [], 0, 0, 0, 0) : Dg) from rfl, hl']
  rfl

/-! sizes -/
theorem f57 (d : Dg) (left : Int) (h0 : 0 ≤ left) (h1 : left ≤ 1048576) (hd : d.2.1.length ≤ maxLen) :
    F57 (d, (left, ())) = some ((), ((if left - d.2.1.length < 0 then -1 else left - d.2.1.length), ())) := by
  simp only [maxLen] at hd
  have hw : IntKind.wrap .i64 (left - (d.2.1.length : Int)) = left - d.2.1.length := wrap_id (by omega) (by omega)
  simp only [F57, F64, hw]
  by_cases hn : left - (d.2.1.length : Int) < 0
  · simp [hn]
  · simp [hn]

def sz (l : List Dg) : Int → Int := foldE (fun _ left d => if left - (d.2.1.length : Int) < 0 then .inr (-1) else .inl (left - d.2.1.length)) (fun left => left) 0 l
theorem f13 (l : List Dg) (hl : l.length ≤ maxLen) (hd : ∀ d ∈ l, d.2.1.length ≤ maxLen) :
    ∃ r : Int, F13 (l, ((1048576 : Int), ())) = some ((), (r, ())) ∧ (¬ r < 0 → l.length ≤ 1048576 ∧ ∀ d ∈ l, d.2.1.length ≤ 1048576) := by
  have hl' := hl
  simp only [maxLen] at hl'
  have hw : IntKind.wrap .i64 (1048576 - (l.length : Int)) = 1048576 - l.length := wrap_id (by omega) (by omega)
  by_cases hn : (1048576 : Int) - (l.length : Int) < 0
  · refine ⟨-1, ?_, fun h => by omega⟩
    simp [F13, hw, hn]
  · have hfold := lim_fold (α := Dg) (σ := Int) (step := s13_l5) l (fun i left => ((l, (left, ((i : Int), ()))), (), ())) (fun i left d => if left - (d.2.1.length : Int) < 0 then .inr (.inr (((-1 : Int), ()), (), ())) else .inl (left - d.2.1.length)) (fun left => .inl ((left, ()), (), ()))
      (fun i left => 0 ≤ left ∧ left ≤ 1048576)
      (fun i left d hi hg => by
        have hlt := lt_of_get hg
        simp only [s13_l5, dec_lt hlt, cond_true, ib_nat hlt, Int.toNat_natCast, getD_of hg, wrap_succ hlt hl, f57 d left hi.1 hi.2 (hd d (List.mem_of_getElem? hg)), Option.bind_some]
        by_cases hm : left - (d.2.1.length : Int) < 0
        · simp [hm]
        · simp [hm])
      (fun left hi => by simp only [s13_l5, dec_self, cond_false])
      (fun i left d left' hi hg he => by
        by_cases hm : left - (d.2.1.length : Int) < 0
        · simp [hm] at he
        · simp [hm] at he; omega)
      l 0 (1048576 - l.length) ⟨by omega, by omega⟩ rfl (Nat.zero_le _)
    have hf : ∀ (r : List Dg) (i : Nat) (left : Int), 0 ≤ left → left ≤ 1048576 → ∃ y : Int, (∀ (g : XT xs13_l5 → Option (Outs as13 × Ress rs13)), (∀ z, g (.inl ((z, ()), (), ())) = some ((), (z, ()))) → (∀ z, g (.inr ((z, ()), (), ())) = some ((), (z, ()))) →
        g (foldE (fun i left (d : Dg) => if left - (d.2.1.length : Int) < 0 then .inr (.inr (((-1 : Int), ()), (), ())) else .inl (left - d.2.1.length)) (fun left => .inl ((left, ()), (), ())) i r left) = some ((), (y, ()))) ∧ (¬ y < 0 → ∀ d ∈ r, d.2.1.length ≤ 1048576) := by
      intro r
      induction r with
      | nil => intro i left h0 h1; exact ⟨left, fun g g1 g2 => by simp only [foldE]; exact g1 left, fun _ d hd => by cases hd⟩
      | cons d r ih =>
        intro i left h0 h1
        by_cases hm : left - (d.2.1.length : Int) < 0
        · exact ⟨-1, fun g g1 g2 => by simp only [foldE, if_pos hm]; exact g2 (-1), fun h => by omega⟩
        · obtain ⟨y, hy1, hy2⟩ := ih (i + 1) (left - d.2.1.length) (by omega) (by omega)
          refine ⟨y, fun g g1 g2 => by simp only [foldE, if_neg hm]; exact hy1 g g1 g2, fun h d' hd' => ?_⟩
          rcases List.mem_cons.1 hd' with rfl | hd'
          · omega
          · exact hy2 h d' hd'
    obtain ⟨y, hy1, hy2⟩ := hf l 0 (1048576 - l.length) (by omega) (by omega)
    refine ⟨y, ?_, fun h => ⟨by omega, hy2 h⟩⟩
    have hfold' : l13_l5 ((l, ((1048576 - l.length : Int), ((0 : Int), ()))), (), ()) = _ := hfold
    simp only [F13, hw]
    rw [show decide ((1048576 : Int) - (l.length : Int) < 0) = false by simp [hn]]
    simp only [cond_false, hfold', Option.bind_some]
    exact hy1 (fun y3 => match y3 with
      | .inl y4 => some ((), (y4.1.1, ()))
      | .inr z5 => some ((), (z5.1.1, ()))) (fun z => rfl) (fun z => rfl)

/-! the faults -/
def badD (d : Dg) : Bool := (!(decide (d.1 ≥ 1) && decide (d.1 ≤ 3)) || (decide ((d.2.1.length : Int) > 0) && (d.1 != 1))) || ((d.1 != 2) && (((d.2.2.1 != 0) || (d.2.2.2.1 != 0)) || ((d.2.2.2.2.1 != 0) || (d.2.2.2.2.2 != 0))))
def longD (d : Dg) : Bool := decide ((d.2.1.length : Int) > 24)
def faultD (l : List Dg) : Int := if (l.length : Int) > 60 then 2 else if l.any longD then 2 else if l.any badD then 1 else 0

theorem fold_search {B : Type} (p : Dg → Bool) (hit out : B) (f : Nat → Unit → Dg → Unit ⊕ B) (o : Unit → B) (hf : ∀ i d, f i () d = bif p d then .inr hit else .inl ()) (ho : o () = out) : ∀ (r : List Dg) (i : Nat), foldE f o i r () = if r.any p then hit else out
  | [], i => by simp [foldE, ho]
  | d :: r, i => by
    unfold foldE
    rw [hf]
    cases hp : p d
    · have := fold_search p hit out f o hf ho r (i + 1)
      simp only [cond_false, this, List.any_cons, hp, Bool.false_or]
    · simp [hp]

theorem f14 (l : List Dg) (hl : l.length ≤ maxLen) : F14 (l, ()) = some ((), (faultD l, ())) := by
  have h4 := lim_fold (α := Dg) (σ := Unit) (step := s14_l4) l (fun i _ => ((l, ((i : Int), ())), (), ())) (fun i _ d => bif longD d then .inr (.inr (((2 : Int), ()), (), ())) else .inl ()) (fun _ => .inl ((l, ()), (), ())) (fun _ _ => True)
    (fun i _ d _ hg => by
      have hlt := lt_of_get hg
      simp only [s14_l4, dec_lt hlt, cond_true, ib_nat hlt, Int.toNat_natCast, getD_of hg, wrap_succ hlt hl]
      cases hp : longD d
      · have hp' : decide ((d.2.1.length : Int) > 24) = false := hp
        simp only [hp', cond_false]
      · have hp' : decide ((d.2.1.length : Int) > 24) = true := hp
        simp only [hp', cond_true])
    (fun _ _ => by simp only [s14_l4, dec_self, cond_false]) (fun _ _ _ _ _ _ _ => trivial) l 0 () trivial rfl (Nat.zero_le _)
  rw [fold_search longD (.inr (((2 : Int), ()), (), ())) (.inl ((l, ()), (), ())) _ _ (fun i d => rfl) rfl] at h4
  have h9 := lim_fold (α := Dg) (σ := Unit) (step := s14_l9) l (fun i _ => ((l, ((i : Int), ())), (), ())) (fun i _ d => bif badD d then .inr (.inr (((1 : Int), ()), (), ())) else .inl ()) (fun _ => .inl ((), (), ())) (fun _ _ => True)
    (fun i _ d _ hg => by
      have hlt := lt_of_get hg
      simp only [s14_l9, dec_lt hlt, cond_true, ib_nat hlt, Int.toNat_natCast, getD_of hg, wrap_succ hlt hl, F58]
      obtain ⟨d1, d2, d3, d4, d5, d6⟩ := d
      simp only [badD]
      cases decide (d1 ≥ 1) <;> cases decide (d1 ≤ 3) <;> cases decide ((d2.length : Int) > 0) <;> cases (d1 != 1) <;> cases (d1 != 2) <;> cases (d3 != 0) <;> cases (d4 != 0) <;> cases (d5 != 0) <;> cases (d6 != 0) <;> rfl)
    (fun _ _ => by simp only [s14_l9, dec_self, cond_false]) (fun _ _ _ _ _ _ _ => trivial) l 0 () trivial rfl (Nat.zero_le _)
  rw [fold_search badD (.inr (((1 : Int), ()), (), ())) (.inl ((), (), ())) _ _ (fun i d => rfl) rfl] at h9
  have h4' : l14_l4 ((l, ((0 : Int), ())), (), ()) = _ := h4
  have h9' : l14_l9 ((l, ((0 : Int), ())), (), ()) = _ := h9
  unfold faultD
  by_cases hn : (l.length : Int) > 60
  · simp [F14, hn]
  · simp only [F14, decide_eq_false hn, cond_false, h4', Option.bind_some, if_neg hn]
    by_cases hl : l.any longD = true
    · simp [hl]
    · simp only [if_neg hl, h9', Option.bind_some]
      by_cases hb : l.any badD = true
      · simp [hb]
      · simp [hb]

theorem f105 (l : List Dg) (hl : l.length ≤ maxLen) : ∃ r : Int, F105_61 (l, ((), ())) = some ((), (r, ())) ∧ (decide (r ≥ 0) = l.any longD) := by
  have h2 := lim_fold (α := Dg) (σ := Unit) (step := s105_61_l2) l (fun i _ => ((l, ((), ((l.length : Int), ((i : Int), ())))), (), ())) (fun i _ d => if longD d then .inr (.inr (((i : Int), ()), (), ())) else .inl ()) (fun _ => .inl ((), (), ())) (fun _ _ => True)
    (fun i _ d _ hg => by
      have hlt := lt_of_get hg
      simp only [s105_61_l2, dec_lt hlt, cond_true, ib_nat hlt, Int.toNat_natCast, getD_of hg, wrap_succ hlt hl, F61, Option.bind_some]
      cases hp : longD d
      · have hp' : decide ((d.2.1.length : Int) > 24) = false := hp
        simp only [hp', cond_false]; simp
      · have hp' : decide ((d.2.1.length : Int) > 24) = true := hp
        simp only [hp', cond_true]; simp)
    (fun _ _ => by simp only [s105_61_l2, dec_self, cond_false]) (fun _ _ _ _ _ _ _ => trivial) l 0 () trivial rfl (Nat.zero_le _)
  have hf : ∀ (r : List Dg) (i : Nat), ∃ y : Int, (∀ (g : XT xs105_61_l2 → Option (Outs as105_61 × Ress rs105_61)), (∀ z, g (.inl z) = some ((), (-1, ()))) → (∀ z, g (.inr ((z, ()), (), ())) = some ((), (z, ()))) →
      g (foldE (fun i (_ : Unit) d => if longD d then .inr (.inr (((i : Int), ()), (), ())) else .inl ()) (fun _ => .inl ((), (), ())) i r ()) = some ((), (y, ()))) ∧ decide (y ≥ 0) = r.any longD := by
    intro r
    induction r with
    | nil => intro i; exact ⟨-1, fun g g1 g2 => by simp only [foldE]; exact g1 _, by simp⟩
    | cons d r ih =>
      intro i
      by_cases hm : longD d = true
      · exact ⟨i, fun g g1 g2 => by simp only [foldE, if_pos hm]; exact g2 i, by simp [hm]⟩
      · obtain ⟨y, hy1, hy2⟩ := ih (i + 1)
        exact ⟨y, fun g g1 g2 => by simp only [foldE, if_neg hm]; exact hy1 g g1 g2, by simp [hm, hy2]⟩
  obtain ⟨y, hy1, hy2⟩ := hf l 0
  refine ⟨y, ?_, hy2⟩
  have h2' : l105_61_l2 ((l, ((), ((l.length : Int), ((0 : Int), ())))), (), ()) = _ := h2
  simp only [F105_61, h2', Option.bind_some]
  exact hy1 (fun y3 => match y3 with
    | .inl y4 => some ((), ((-1 : Int), ()))
    | .inr z5 => some ((), (z5.1.1, ()))) (fun z => rfl) (fun z => rfl)

theorem f16 (l : List Dg) (hl : l.length ≤ maxLen) : F16 (l, ()) = some ((), (faultD l, ())) := by
  have h4 := lim_fold (α := Dg) (σ := Unit) (step := s16_l4) l (fun i _ => ((l, ((l.length : Int), ((i : Int), ()))), (), ())) (fun i _ d => bif badD d then .inr (.inr (((1 : Int), ()), (), ())) else .inl ()) (fun _ => .inl ((), (), ())) (fun _ _ => True)
    (fun i _ d _ hg => by
      have hlt := lt_of_get hg
      simp only [s16_l4, dec_lt hlt, cond_true, ib_nat hlt, Int.toNat_natCast, getD_of hg, wrap_succ hlt hl, F62]
      obtain ⟨d1, d2, d3, d4, d5, d6⟩ := d
      simp only [badD, ge_iff_le]
      cases decide (1 ≤ d1) <;> cases decide (d1 ≤ 3) <;> cases decide ((d2.length : Int) > 0) <;> cases (d1 != 1) <;> cases (d1 != 2) <;> cases (d3 != 0) <;> cases (d4 != 0) <;> cases (d5 != 0) <;> cases (d6 != 0) <;> rfl)
    (fun _ _ => by simp only [s16_l4, dec_self, cond_false]) (fun _ _ _ _ _ _ _ => trivial) l 0 () trivial rfl (Nat.zero_le _)
  rw [fold_search badD (.inr (((1 : Int), ()), (), ())) (.inl ((), (), ())) _ _ (fun i d => rfl) rfl] at h4
  have h4' : l16_l4 ((l, ((l.length : Int), ((0 : Int), ()))), (), ()) = _ := h4
  obtain ⟨q, hq1, hq2⟩ := f105 l hl
  unfold faultD
  by_cases hn : (l.length : Int) > 60
  · simp [F16, hn]
  · simp only [F16, decide_eq_false hn, cond_false, F60_61, hq1, Option.bind_some, hq2, if_neg hn, h4']
    by_cases hl : l.any longD = true
    · simp [hl]
    · simp only [Bool.not_eq_true _ ▸ hl, cond_false]
      by_cases hb : l.any badD = true
      · simp [hb]
      · simp [hb]

/-! what is equal -/
theorem f53 (l : List Int) (hl : l.length ≤ maxLen) : F53 (l, (l, ())) = some ((), (true, ())) := by
  have h4 := lim_fold (α := Int) (σ := Unit) (step := s53_l4) l (fun i _ => ((l, (l, ((i : Int), ()))), (), ())) (fun i _ d => .inl ()) (fun _ => .inl ((), (), ())) (fun _ _ => True)
    (fun i _ d _ hg => by
      have hlt := lt_of_get hg
      simp only [s53_l4, dec_lt hlt, cond_true, ib_nat hlt, Int.toNat_natCast, getD_of hg, wrap_succ hlt hl, bne_self_eq_false, cond_false])
    (fun _ _ => by simp only [s53_l4, dec_self, cond_false]) (fun _ _ _ _ _ _ _ => trivial) l 0 () trivial rfl (Nat.zero_le _)
  have hf : ∀ (r : List Int) (i : Nat), foldE (B := XT xs53_l4) (fun i (_ : Unit) (d : Int) => .inl ()) (fun _ => .inl ((), (), ())) i r () = .inl ((), (), ()) := by
    intro r
    induction r with
    | nil => intro i; rfl
    | cons d r ih => intro i; simp only [foldE]; exact ih _
  rw [hf] at h4
  have h4' : l53_l4 ((l, (l, ((0 : Int), ()))), (), ()) = _ := h4
  simp only [F53, bne_self_eq_false, cond_false, h4', Option.bind_some]
theorem f63 (d : Dg) (hd : d.2.1.length ≤ maxLen) : F63 (d, (d, ())) = some ((), (true, ())) := by
  simp only [F63, bne_self_eq_false, cond_false, f53 _ hd, Option.bind_some, Bool.not_true]
theorem f17 (l : List Dg) (hl : l.length ≤ maxLen) (hd : ∀ d ∈ l, d.2.1.length ≤ maxLen) : F17 (l, (l, ())) = some ((), (true, ())) := by
  have h4 := lim_fold (α := Dg) (σ := Unit) (step := s17_l4) l (fun i _ => ((l, (l, ((i : Int), ()))), (), ())) (fun i _ d => .inl ()) (fun _ => .inl ((), (), ())) (fun _ _ => True)
    (fun i _ d _ hg => by
      have hlt := lt_of_get hg
      simp only [s17_l4, dec_lt hlt, cond_true, ib_nat hlt, Int.toNat_natCast, getD_of hg, wrap_succ hlt hl, f63 d (hd d (List.mem_of_getElem? hg)), Option.bind_some, Bool.not_true, cond_false])
    (fun _ _ => by simp only [s17_l4, dec_self, cond_false]) (fun _ _ _ _ _ _ _ => trivial) l 0 () trivial rfl (Nat.zero_le _)
  have hf : ∀ (r : List Dg) (i : Nat), foldE (B := XT xs17_l4) (fun i (_ : Unit) (d : Dg) => .inl ()) (fun _ => .inl ((), (), ())) i r () = .inl ((), (), ()) := by
    intro r
    induction r with
    | nil => intro i; rfl
    | cons d r ih => intro i; simp only [foldE]; exact ih _
  rw [hf] at h4
  have h4' : l17_l4 ((l, (l, ((0 : Int), ()))), (), ()) = _ := h4
  simp only [F17, bne_self_eq_false, cond_false, h4', Option.bind_some]


/-! who was hurt -/
def badH (acc : Int) (d : Dg) : Bool := !(d.2.2.1 == 1 || d.2.2.1 == 2) || ((acc != 0) && (acc != d.2.2.1))
def hurtF : List Dg → Int → Option Int
  | [], acc => some acc
  | d :: l, acc => bif d.1 != 2 then hurtF l acc else bif badH acc d then none else hurtF l d.2.2.1
theorem fold_hurt {B : Type} (f : Nat → Int → Dg → Int ⊕ B) (out : Int → B) (hit : B) (hf : ∀ i acc d, f i acc d = bif d.1 != 2 then .inl acc else bif badH acc d then .inr hit else .inl d.2.2.1) :
    ∀ (r : List Dg) (i : Nat) (acc : Int), foldE f out i r acc = match hurtF r acc with | some v => out v | none => hit
  | [], i, acc => rfl
  | d :: r, i, acc => by
    unfold foldE hurtF
    rw [hf]
    cases (d.1 != 2)
    · simp only [cond_false]
      cases badH acc d
      · simp only [cond_false]; exact fold_hurt f out hit hf r (i + 1) _
      · rfl
    · simp only [cond_true]; exact fold_hurt f out hit hf r (i + 1) _

def resH (l : List Dg) : Int × Int := bif faultD l != 0 then (faultD l, 0) else match hurtF l 0 with | some v => (0, v) | none => (0, 3)
theorem f23 (l : List Dg) (hl : l.length ≤ maxLen) : F23 (l, ()) = some ((), (resH l, ())) := by
  have h6 := lim_fold (α := Dg) (σ := Int) (step := s23_l6) l (fun i acc => ((l, ((), (acc, ((i : Int), ())))), (((0 : Int), ((0 : Int), ())), ()), ())) (fun i acc d => bif d.1 != 2 then .inl acc else bif badH acc d then .inr (.inr (((), ()), (((0 : Int), ((3 : Int), ())), ()), ())) else .inl d.2.2.1) (fun acc => .inl (((), (acc, ())), (((0 : Int), ((0 : Int), ())), ()), ())) (fun _ _ => True)
    (fun i acc d _ hg => by
      have hlt := lt_of_get hg
      simp only [s23_l6, dec_lt hlt, cond_true, ib_nat hlt, Int.toNat_natCast, getD_of hg, wrap_succ hlt hl, F69]
      obtain ⟨d1, d2, d3, d4, d5, d6⟩ := d
      simp only [badH]
      cases (d1 != 2) <;> cases (d3 == 1) <;> cases (d3 == 2) <;> cases (acc != 0) <;> cases (acc != d3) <;> rfl)
    (fun _ _ => by simp only [s23_l6, dec_self, cond_false]) (fun _ _ _ _ _ _ _ => trivial) l 0 0 trivial rfl (Nat.zero_le _)
  rw [fold_hurt (B := XT xs23_l6) (hit := (.inr (((), ()), (((0 : Int), ((3 : Int), ())), ()), ()) : XT xs23_l6)) (hf := fun _ _ _ => rfl)] at h6
  have h6' : l23_l6 ((l, ((), ((0 : Int), ((0 : Int), ())))), (((0 : Int), ((0 : Int), ())), ()), ()) = _ := h6
  simp only [F23, f14 l hl, Option.bind_some, resH]
  cases (faultD l != 0)
  · simp only [cond_false, h6', Option.bind_some]
    cases hurtF l 0 <;> rfl
  · rfl
theorem f24 (l : List Dg) (hl : l.length ≤ maxLen) : F24 (l, ()) = some ((), (resH l, ())) := by
  have h6 := lim_fold (α := Dg) (σ := Int) (step := s24_l6) l (fun i acc => (((), (acc, (l, ((l.length : Int), ((i : Int), ()))))), (((0 : Int), ((0 : Int), ())), ()), ())) (fun i acc d => bif d.1 != 2 then .inl acc else bif badH acc d then .inr (.inr (((), ()), (((0 : Int), ((3 : Int), ())), ()), ())) else .inl d.2.2.1) (fun acc => .inl (((), (acc, ())), (((0 : Int), ((0 : Int), ())), ()), ())) (fun _ _ => True)
    (fun i acc d _ hg => by
      have hlt := lt_of_get hg
      simp only [s24_l6, dec_lt hlt, cond_true, ib_nat hlt, Int.toNat_natCast, getD_of hg, wrap_succ hlt hl]
      obtain ⟨d1, d2, d3, d4, d5, d6⟩ := d
      simp only [badH, bne]
      cases (d1 == 2) <;> cases (d3 == 1) <;> cases (d3 == 2) <;> cases (acc == 0) <;> cases (acc == d3) <;> rfl)
    (fun _ _ => by simp only [s24_l6, dec_self, cond_false]) (fun _ _ _ _ _ _ _ => trivial) l 0 0 trivial rfl (Nat.zero_le _)
  rw [fold_hurt (B := XT xs24_l6) (hit := (.inr (((), ()), (((0 : Int), ((3 : Int), ())), ()), ()) : XT xs24_l6)) (hf := fun _ _ _ => rfl)] at h6
  have h6' : l24_l6 (((), ((0 : Int), (l, ((l.length : Int), ((0 : Int), ()))))), (((0 : Int), ((0 : Int), ())), ()), ()) = _ := h6
  simp only [F24, f16 l hl, Option.bind_some, resH]
  cases (faultD l != 0)
  · simp only [cond_false, h6', Option.bind_some]
    cases hurtF l 0 <;> rfl
  · rfl

/-- THE LAW. -/
theorem pure5 (l : K.T (.sl k4)) (h : Wf (.sl k4) l) : F5 (l, ()) = some ((), (true, ())) := by
  obtain ⟨h1, h2⟩ := h
  have hd : ∀ d ∈ l, d.2.1.length ≤ maxLen := fun d hd => (h2 d hd).2.1.1
  obtain ⟨r, hr, hr2⟩ := f13 l h1 hd
  simp only [F5, hr, Option.bind_some]
  by_cases hn : r < 0
  · simp [hn]
  · obtain ⟨g1, g2⟩ := hr2 hn
    simp only [decide_eq_false hn, cond_false, f15 l g1 g2, f23 l h1, f24 l h1, f17 l h1 hd, F25, Option.bind_some, bne_self_eq_false, Bool.not_true]
#print axioms pure5
end Go.Ev
