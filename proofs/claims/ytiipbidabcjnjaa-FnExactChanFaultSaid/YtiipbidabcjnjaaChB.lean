/- What is proved here: the pure function of FnExactChanFault yields true for each argument that can be read; no condition. -/
import Derived.Test.YtiipbidabcjnjaaChA
set_option linter.unusedVariables false
set_option linter.unusedSimpArgs false
namespace Go.Ev

abbrev Ch : Type := Int × List Int × List Int × List Int × Int × Int

theorem f50 (l : List Int) (h : l.length ≤ 1048576) : F50 (l, ()) = some ((), (l, ())) := by
  have hl := lim_copy (step := s50_l3) l (fun i acc => ((l, ((), ((i : Int), ()))), (), (acc, ()))) (fun acc => (((), ()), (), (acc, ()))) 0
    (fun i acc d hn hd => by
      have hlt := lt_of_get hd
      simp only [s50_l3, dec_lt hlt, cond_true, ib_nat hlt, Int.toNat_natCast, getD_of hd, wrap_succ hlt (show l.length ≤ maxLen by simp only [maxLen]; omega)]
      rw [ib_nat (show i < acc.length by omega)]
      rfl)
    (fun acc => by simp only [s50_l3, dec_self, cond_false])
  have hl' : l50_l3 ((l, ((), ((0 : Int), ()))), (), (List.replicate l.length 0, ())) = _ := hl
  have hroom : room l.length 8 = true := by simp [room]; omega
  simp only [F50, Int.toNat_natCast, hroom, cond_true]
  rw [show decide (0 ≤ (l.length : Int) ∧ (l.length : Int) ≤ (l.length : Int)) = true by simp]
  simp only [cond_true]
  rw [show K.zero (.int .i64) = (0 : Int) from rfl, hl']
  rfl

theorem f53 (l : List Int) (hl : l.length ≤ maxLen) : F53 (l, (l, ())) = some ((), (true, ())) := by
  have h4 := lim_any (step := s53_l4) l (fun i => ((l, (l, ((i : Int), ()))), (), ())) (fun _ => false) (.inl ((), (), ())) (.inl ((), (), ()))
    (fun i d hg => by
      have hlt := lt_of_get hg
      simp only [s53_l4, dec_lt hlt, cond_true, ib_nat hlt, Int.toNat_natCast, getD_of hg, wrap_succ hlt hl, bne_self_eq_false, cond_false])
    (by simp only [s53_l4, dec_self, cond_false])
  have h4' : l53_l4 ((l, (l, ((0 : Int), ()))), (), ()) = _ := h4
  simp only [F53, bne_self_eq_false, cond_false, h4', Option.bind_some]
  cases l.any fun _ => false <;> rfl

theorem f64 (l : List Int) (left : Int) (h0 : 0 ≤ left) (h1 : left ≤ 1048576) (hd : l.length ≤ maxLen) :
    F64 (l, (left, ())) = some ((), ((if left - l.length < 0 then -1 else left - l.length), ())) := by
  simp only [maxLen] at hd
  have hw : IntKind.wrap .i64 (left - (l.length : Int)) = left - l.length := wrap_id (by omega) (by omega)
  simp only [F64, hw]
  by_cases hn : left - (l.length : Int) < 0
  · simp [hn]
  · simp [hn]

theorem f18 (c : Ch) (h1 : c.2.1.length ≤ maxLen) (h2 : c.2.2.1.length ≤ maxLen) (h3 : c.2.2.2.1.length ≤ maxLen) :
    ∃ r : Int, F18 (c, ((1048576 : Int), ())) = some ((), (r, ())) ∧ (¬ r < 0 → c.2.1.length ≤ 1048576 ∧ c.2.2.1.length ≤ 1048576 ∧ c.2.2.2.1.length ≤ 1048576) := by
  simp only [F18, f64 c.2.1 1048576 (by omega) (by omega) h1, Option.bind_some]
  by_cases a1 : (1048576 : Int) - c.2.1.length < 0
  · exact ⟨-1, by simp [a1], fun h => by omega⟩
  · simp only [if_neg a1, decide_eq_false a1, cond_false, f64 c.2.2.1 (1048576 - c.2.1.length) (by omega) (by omega) h2, Option.bind_some]
    by_cases a2 : (1048576 : Int) - c.2.1.length - c.2.2.1.length < 0
    · exact ⟨-1, by simp [a2], fun h => by omega⟩
    · simp only [if_neg a2, decide_eq_false a2, cond_false, f64 c.2.2.2.1 (1048576 - c.2.1.length - c.2.2.1.length) (by omega) (by omega) h3, Option.bind_some]
      by_cases a3 : (1048576 : Int) - c.2.1.length - c.2.2.1.length - c.2.2.2.1.length < 0
      · exact ⟨-1, by simp [a3], fun h => by omega⟩
      · exact ⟨(1048576 : Int) - c.2.1.length - c.2.2.1.length - c.2.2.2.1.length, by simp only [if_neg a3, decide_eq_false a3, cond_false], fun _ => by omega⟩

theorem f20 (c : Ch) (h1 : c.2.1.length ≤ 1048576) (h2 : c.2.2.1.length ≤ 1048576) (h3 : c.2.2.2.1.length ≤ 1048576) : F20 (c, ()) = some ((), (c, ())) := by
  simp only [F20, f50 _ h1, f50 _ h2, f50 _ h3, Option.bind_some]

def in16 (x : Int) : Bool := decide (x ≥ 0) && decide (x ≤ 65535)
theorem f58 (x lo hi : Int) : F58 (x, (lo, (hi, ()))) = some ((), ((decide (x ≥ lo) && decide (x ≤ hi)), ())) := by
  simp only [F58]
  cases decide (x ≥ lo) <;> rfl
theorem f62 (x lo hi : Int) : F62 (x, (lo, (hi, ()))) = some ((), ((decide (x ≥ lo) && decide (x ≤ hi)), ())) := by
  simp only [F62, ge_iff_le]
  cases decide (lo ≤ x) <;> rfl
theorem f107 (x : Int) : F107 (x, ()) = some ((), (in16 x, ())) := by simp only [F107, f58 x 0 65535, Option.bind_some]; rfl
theorem f68 (x : Int) : F68 (x, ()) = some ((), (in16 x, ())) := by simp only [F68, f62 x 0 65535, Option.bind_some]; rfl

def no16 (l : List Int) : Bool := l.any fun x => !in16 x
def wordsF (l : List Int) : Int := if (l.length : Int) > 400 then 2 else bif no16 l then 3 else 0
theorem f106 (l : List Int) (hl : l.length ≤ maxLen) : F106 (l, ()) = some ((), (wordsF l, ())) := by
  have h4 := lim_any (step := s106_l4) l (fun i => ((l, ((i : Int), ())), (), ())) (fun x => !in16 x) (.inr (((3 : Int), ()), (), ())) (.inl ((), (), ()))
    (fun i d hg => by
      have hlt := lt_of_get hg
      simp only [s106_l4, dec_lt hlt, cond_true, ib_nat hlt, Int.toNat_natCast, getD_of hg, wrap_succ hlt hl, f107 d, Option.bind_some]
      cases in16 d <;> rfl)
    (by simp only [s106_l4, dec_self, cond_false])
  have h4' : l106_l4 ((l, ((0 : Int), ())), (), ()) = _ := h4
  unfold wordsF
  by_cases hn : (l.length : Int) > 400
  · simp [F106, hn]
  · simp only [F106, decide_eq_false hn, cond_false, h4', Option.bind_some, if_neg hn, no16]
    cases l.any fun x => !in16 x <;> rfl
theorem f95 (l : List Int) (hl : l.length ≤ maxLen) : F95 (l, ()) = some ((), (!no16 l, ())) := by
  have h4 := lim_any (step := s95_l2) l (fun i => ((l, ((i : Int), ())), (), ())) (fun x => !in16 x) (.inr ((false, ()), (), ())) (.inl ((), (), ()))
    (fun i d hg => by
      have hlt := lt_of_get hg
      simp only [s95_l2, dec_lt hlt, cond_true, ib_nat hlt, Int.toNat_natCast, getD_of hg, wrap_succ hlt hl, f107 d, Option.bind_some]
      cases in16 d <;> rfl)
    (by simp only [s95_l2, dec_self, cond_false])
  have h4' : l95_l2 ((l, ((0 : Int), ())), (), ()) = _ := h4
  simp only [F95, h4', Option.bind_some, no16]
  cases l.any fun x => !in16 x <;> rfl
theorem f67 (l : List Int) (hl : l.length ≤ maxLen) : F67 (l, ()) = some ((), (!no16 l, ())) := by
  have h4 := lim_any (step := s67_l2) l (fun i => ((l, ((l.length : Int), ((i : Int), ()))), (), ())) (fun x => !in16 x) (.inr ((false, ()), (), ())) (.inl ((), (), ()))
    (fun i d hg => by
      have hlt := lt_of_get hg
      simp only [s67_l2, dec_lt hlt, cond_true, ib_nat hlt, Int.toNat_natCast, getD_of hg, wrap_succ hlt hl, f68 d, Option.bind_some]
      cases in16 d <;> rfl)
    (by simp only [s67_l2, dec_self, cond_false])
  have h4' : l67_l2 ((l, ((l.length : Int), ((0 : Int), ()))), (), ()) = _ := h4
  simp only [F67, h4', Option.bind_some, no16]
  cases l.any fun x => !in16 x <;> rfl
theorem f66 (l : List Int) (hl : l.length ≤ maxLen) : F66 (l, ()) = some ((), (wordsF l, ())) := by
  unfold wordsF
  by_cases hn : (l.length : Int) > 400
  · simp [F66, hn]
  · simp only [F66, decide_eq_false hn, cond_false, f67 l hl, Option.bind_some, if_neg hn]
    cases no16 l <;> rfl

def tailF (c : Ch) : Int := bif (no16 c.2.2.2.1 || !in16 c.2.2.2.2.1) || !in16 c.2.2.2.2.2 then 3 else bif decide ((c.2.2.2.1.length : Int) > 80) then 2 else 0
def chanF (c : Ch) : Int :=
  bif !(c.1 == 1 || c.1 == 2) then 1 else bif wordsF c.2.1 != 0 then wordsF c.2.1 else bif wordsF c.2.2.1 != 0 then wordsF c.2.2.1 else tailF c

theorem f65 (c : Ch) (h1 : c.2.1.length ≤ maxLen) (h2 : c.2.2.1.length ≤ maxLen) (h3 : c.2.2.2.1.length ≤ maxLen) : F65 (c, ()) = some ((), (chanF c, ())) := by
  simp only [F65, F69, f106 _ h1, f106 _ h2, f95 _ h3, f107 c.2.2.2.2.1, f107 c.2.2.2.2.2, Option.bind_some, chanF, tailF]
  cases (c.1 == 1) <;> cases (c.1 == 2) <;> simp only [cond_true, cond_false, Option.bind_some, Bool.or_true, Bool.or_false, Bool.true_or, Bool.not_true, Bool.not_false] <;> try rfl
  all_goals
    cases (wordsF c.2.1 != 0) <;> cases (wordsF c.2.2.1 != 0) <;> cases no16 c.2.2.2.1 <;> cases in16 c.2.2.2.2.1 <;> cases in16 c.2.2.2.2.2 <;> cases decide ((c.2.2.2.1.length : Int) > 80) <;> rfl

theorem f21 (c : Ch) (h1 : c.2.1.length ≤ maxLen) (h2 : c.2.2.1.length ≤ maxLen) (h3 : c.2.2.2.1.length ≤ maxLen) : F21 (c, ()) = some ((), (chanF c, ())) := by
  have e0 : l21_l4 (((), ((), (([c.2.1, c.2.2.1].length : Int), ((0 : Int), ())))), ((c.1, (c.2.1, (c.2.2.1, (c.2.2.2.1, (c.2.2.2.2.1, (c.2.2.2.2.2, ())))))), ()), ([c.2.1, c.2.2.1], ())) =
      some (bif wordsF c.2.1 != 0 then .inr ((wordsF c.2.1, ()), (), ()) else bif wordsF c.2.2.1 != 0 then .inr ((wordsF c.2.2.1, ()), (), ()) else .inl (((), ()), ((c.1, (c.2.1, (c.2.2.1, (c.2.2.2.1, (c.2.2.2.2.1, (c.2.2.2.2.2, ())))))), ()), ())) := by
    have s0 : s21_l4 (((), ((), ((2 : Int), ((0 : Int), ())))), ((c.1, (c.2.1, (c.2.2.1, (c.2.2.2.1, (c.2.2.2.2.1, (c.2.2.2.2.2, ())))))), ()), ([c.2.1, c.2.2.1], ())) =
        some (bif wordsF c.2.1 != 0 then .inr (.inr ((wordsF c.2.1, ()), (), ())) else .inl (((), ((), ((2 : Int), ((1 : Int), ())))), ((c.1, (c.2.1, (c.2.2.1, (c.2.2.2.1, (c.2.2.2.2.1, (c.2.2.2.2.2, ())))))), ()), ([c.2.1, c.2.2.1], ()))) := by
      have : F66 (([c.2.1, c.2.2.1].getD (Int.toNat 0) (K.zero (.sl (.int .i64)))), ()) = some ((), (wordsF c.2.1, ())) := f66 _ h1
      simp only [s21_l4, this, Option.bind_some]
      rw [show IntKind.wrap .i64 ((0 : Int) + 1) = 1 by rfl]
      cases (wordsF c.2.1 != 0) <;> rfl
    have s1 : s21_l4 (((), ((), ((2 : Int), ((1 : Int), ())))), ((c.1, (c.2.1, (c.2.2.1, (c.2.2.2.1, (c.2.2.2.2.1, (c.2.2.2.2.2, ())))))), ()), ([c.2.1, c.2.2.1], ())) =
        some (bif wordsF c.2.2.1 != 0 then .inr (.inr ((wordsF c.2.2.1, ()), (), ())) else .inl (((), ((), ((2 : Int), ((2 : Int), ())))), ((c.1, (c.2.1, (c.2.2.1, (c.2.2.2.1, (c.2.2.2.2.1, (c.2.2.2.2.2, ())))))), ()), ([c.2.1, c.2.2.1], ()))) := by
      have : F66 (([c.2.1, c.2.2.1].getD (Int.toNat 1) (K.zero (.sl (.int .i64)))), ()) = some ((), (wordsF c.2.2.1, ())) := f66 _ h2
      simp only [s21_l4, this, Option.bind_some]
      rw [show IntKind.wrap .i64 ((1 : Int) + 1) = 2 by rfl]
      cases (wordsF c.2.2.1 != 0) <;> rfl
    have s2 : s21_l4 (((), ((), ((2 : Int), ((2 : Int), ())))), ((c.1, (c.2.1, (c.2.2.1, (c.2.2.2.1, (c.2.2.2.2.1, (c.2.2.2.2.2, ())))))), ()), ([c.2.1, c.2.2.1], ())) =
        some (.inr (.inl (((), ()), ((c.1, (c.2.1, (c.2.2.1, (c.2.2.2.1, (c.2.2.2.2.1, (c.2.2.2.2.2, ())))))), ()), ()))) := rfl
    show lim s21_l4 (((), ((), ((2 : Int), ((0 : Int), ())))), _, _) = _
    rw [lim_eq, s0]
    cases (wordsF c.2.1 != 0)
    · simp only [cond_false]
      rw [lim_eq, s1]
      cases (wordsF c.2.2.1 != 0)
      · simp only [cond_false]
        rw [lim_eq, s2]
      · rfl
    · rfl
  simp only [F21, e0, chanF, tailF, Option.bind_some]
  have hb : (bif c.1 != 1 then some ((c.1 != 2), ()) else some (false, ())) = some ((!(c.1 == 1 || c.1 == 2)), ()) := by
    rw [bne, bne]
    cases (c.1 == 1) <;> cases (c.1 == 2) <;> rfl
  rw [hb]
  simp only [Option.bind_some]
  cases (!(c.1 == 1 || c.1 == 2))
  · simp only [cond_false]
    cases (wordsF c.2.1 != 0)
    · simp only [cond_false]
      cases (wordsF c.2.2.1 != 0)
      · simp only [cond_false, f67 _ h3, f68 c.2.2.2.2.1, f68 c.2.2.2.2.2, Option.bind_some]
        cases no16 c.2.2.2.1 <;> cases in16 c.2.2.2.2.1 <;> cases in16 c.2.2.2.2.2 <;> cases decide ((c.2.2.2.1.length : Int) > 80) <;> rfl
      · rfl
    · rfl
  · rfl

theorem f22 (c : Ch) (h1 : c.2.1.length ≤ maxLen) (h2 : c.2.2.1.length ≤ maxLen) (h3 : c.2.2.2.1.length ≤ maxLen) : F22 (c, (c, ())) = some ((), (true, ())) := by
  simp only [F22, bne_self_eq_false, cond_false, f53 _ h1, f53 _ h2, f53 _ h3, Option.bind_some, Bool.not_true]

/-- THE LAW. -/
theorem pure4 (c : K.T k4) (h : Wf k4 c) : F4 (c, ()) = some ((), (true, ())) := by
  have w1 := h.2.1.1
  have w2 := h.2.2.1.1
  have w3 := h.2.2.2.1.1
  obtain ⟨r, hr, hr2⟩ := f18 c w1 w2 w3
  simp only [F4, hr, Option.bind_some]
  by_cases hn : r < 0
  · simp [hn]
  · obtain ⟨g1, g2, g3⟩ := hr2 hn
    simp only [decide_eq_false hn, cond_false, f20 c g1 g2 g3, F19, f65 c w1 w2 w3, f21 c w1 w2 w3, f22 c w1 w2 w3, Option.bind_some, bne_self_eq_false, Bool.not_true]
#print axioms pure4
end Go.Ev
