/- What is proved here: the contract of each function that FnExactHurtsOf reaches; no condition. -/
import Derived.Test.YtiipbidabcjnjaaProg
import Derived.Test.YtiipbidabcjnjaaLd
import Derived.KernelRfl
set_option linter.unusedVariables false
namespace Go.Ev
open Go.Proofs
def bodyOf (f : Func) : Code := f.body.getD .skip
noncomputable abbrev P : Program := Try.prog
abbrev k0 : K := (.pr (.int .i64) (.int .i64))
abbrev k1 : K := (.pr (.int .i64) k0)
abbrev k2 : K := (.pr (.int .i64) k1)
abbrev k3 : K := (.pr (.sl (.int .i64)) k2)
abbrev k4 : K := (.pr (.int .i64) k3)
def tab : List (Nat × TI) := [
  (2, (⟨.other, false, 1, 8, [.int .i64 0], some (.int .i64)⟩ : TI)),
  (22, (⟨.slice 81, false, 1, 24, [.nil], some (.sl k4)⟩ : TI)),
  (25, (⟨.slice 82, false, 1, 24, [.nil], some (.sl k4)⟩ : TI)),
  (29, (⟨.slice 2, false, 1, 24, [.nil], some (.sl (.int .i64))⟩ : TI)),
  (39, (⟨.struct [(0, 1, false), (1, 1, false)], true, 2, 16, [.int .i64 0, .int .i64 0], some k0⟩ : TI)),
  (81, (⟨.struct [(0, 1, false), (1, 1, false), (2, 1, false), (3, 1, false), (4, 1, false), (5, 1, false)], true, 6, 64, [.int .i64 0, .nil, .int .i64 0, .int .i64 0, .int .i64 0, .int .i64 0], some k4⟩ : TI)),
  (82, (⟨.struct [(0, 1, false), (1, 1, false), (2, 1, false), (3, 1, false), (4, 1, false), (5, 1, false)], true, 6, 64, [.int .i64 0, .nil, .int .i64 0, .int .i64 0, .int .i64 0, .int .i64 0], some k4⟩ : TI))]
def ty : Ty := fun t => (Tr.ofList tab).get t
theorem tyOk : TyOk P ty := tyOk_of_tab (by kernel_rfl)
theorem mixed : P.follows .mixedOrders = true := by kernel_rfl
/-! laws.szInt64S -/
abbrev as64 : List AS := [.val false (.sl (.int .i64)), .val false (.int .i64)]
abbrev rs64 : List RS := [.val false (.int .i64)]
noncomputable def g64 : List (FuncId × SumX) := []
def j64 : Nat → Option (List (Nat × SS)) := jOf []
theorem gok64 : GOk P (gamOf g64) := gam_ok (tab := g64) (fun p hp => by cases hp)
noncomputable abbrev b64 : Code := bodyOf Try.f64
noncomputable def F64 : Args as64 → Option (Outs as64 × Ress rs64) := fun x =>
  bif (decide ((IntKind.wrap .i64 (x.2.1 - ((x.1).length : Int))) < (0 : Int))) then
    (some ((), ((-1 : Int), ())))
  else
  some ((), ((IntKind.wrap .i64 (x.2.1 - ((x.1).length : Int))), ()))
theorem e64 : ∀ x, evCode ty (gamOf g64) j64 (lamOf []) b64 (st0 12 as64 x) (fin ty as64 rs64 [.tmp 4]) = F64 x := fun x => by kernel_rfl
theorem c64 : FnC P 64 as64 rs64 F64 :=
  fnC_of_ev tyOk mixed gok64 (fn := Try.f64) (by kernel_rfl) (c := b64) (by kernel_rfl) (by kernel_rfl) ⟨by decide, by decide, by decide⟩ (by kernel_rfl) (lam_ok (tab := []) (by kernel_rfl) (fun p hp => by cases hp)) e64

/-! laws.szDoing -/
abbrev as57 : List AS := [.val true k4, .val false (.int .i64)]
abbrev rs57 : List RS := [.val false (.int .i64)]
noncomputable def g57 : List (FuncId × SumX) := [(64, cX as64 rs64 F64)]
def j57 : Nat → Option (List (Nat × SS)) := jOf []
theorem gok57 : GOk P (gamOf g57) := gam_ok (tab := g57) (by
    intro p hp
    simp only [g57, List.mem_cons, List.not_mem_nil, or_false] at hp
    rcases hp with rfl
    · exact cX_ok c64 rfl)
noncomputable abbrev b57 : Code := bodyOf Try.f57
noncomputable def F57 : Args as57 → Option (Outs as57 × Ress rs57) := fun x =>
  (F64 (x.1.2.1, (x.2.1, ()))).bind fun y1 =>
  bif (decide (y1.2.1 < (0 : Int))) then
    (some ((), ((-1 : Int), ())))
  else
  some ((), (y1.2.1, ()))
theorem e57 : ∀ x, evCode ty (gamOf g57) j57 (lamOf []) b57 (st0 12 as57 x) (fin ty as57 rs57 [.tmp 4]) = F57 x := fun x => by kernel_rfl
theorem c57 : FnC P 57 as57 rs57 F57 :=
  fnC_of_ev tyOk mixed gok57 (fn := Try.f57) (by kernel_rfl) (c := b57) (by kernel_rfl) (by kernel_rfl) ⟨by decide, by decide, by decide⟩ (by kernel_rfl) (lam_ok (tab := []) (by kernel_rfl) (fun p hp => by cases hp)) e57

/-! laws.szDoingS -/
abbrev as13 : List AS := [.val false (.sl k4), .val false (.int .i64)]
abbrev rs13 : List RS := [.val false (.int .i64)]
noncomputable def g13 : List (FuncId × SumX) := [(57, cX as57 rs57 F57)]
def j13 : Nat → Option (List (Nat × SS)) := jOf []
theorem gok13 : GOk P (gamOf g13) := gam_ok (tab := g13) (by
    intro p hp
    simp only [g13, List.mem_cons, List.not_mem_nil, or_false] at hp
    rcases hp with rfl
    · exact cX_ok c57 rfl)
noncomputable abbrev b13 : Code := bodyOf Try.f13
abbrev sp13_l5 : Sp := ⟨27, [], [(0, .val false (.sl k4)), (1, .val false (.int .i64)), (5, .val false (.int .i64))], [], []⟩
abbrev xs13_l5 : List (Ex × Sp) := [(.exit 0, ⟨27, [], [(1, .val false (.int .i64))], [], []⟩), (.ret, ⟨27, [], [(4, .val false (.int .i64))], [], []⟩)]
noncomputable def s13_l5 : sp13_l5.T → Option (sp13_l5.T ⊕ XT xs13_l5) := fun x =>
  bif (decide (x.1.2.2.1 < ((x.1.1).length : Int))) then
    (bif ib x.1.2.2.1 (x.1.1).length then
    (F57 (((x.1.1).getD (Int.toNat x.1.2.2.1) (K.zero k4)), (x.1.2.1, ()))).bind fun y2 =>
    bif (decide (y2.2.1 < (0 : Int))) then
      (some (.inr (.inr (((-1 : Int), ()), (), ()))))
    else
    some (.inl ((x.1.1, (y2.2.1, ((IntKind.wrap .i64 (x.1.2.2.1 + (1 : Int))), ()))), (), ()))
    else none)
  else
  some (.inr (.inl ((x.1.2.1, ()), (), ())))
noncomputable def l13_l5 : sp13_l5.T → Option (XT xs13_l5) := lim s13_l5
theorem es13_l5 : ∀ x, evCode ty (gamOf g13) j13 (lamOf []) (loopAt b13 5) (sp13_l5.hd x) (rdK sp13_l5 xs13_l5) = s13_l5 x := fun x => by kernel_rfl
theorem ls13_l5 : LSumOk P (loopAt b13 5) (loopL sp13_l5 xs13_l5 l13_l5) := loop_ok tyOk mixed gok13 (by kernel_rfl) (by kernel_rfl) (lam_ok (tab := []) (by kernel_rfl) (fun p hp => by cases hp)) es13_l5 lim_itr
noncomputable def F13 : Args as13 → Option (Outs as13 × Ress rs13) := fun x =>
  bif (decide ((IntKind.wrap .i64 (x.2.1 - ((x.1).length : Int))) < (0 : Int))) then
    (some ((), ((-1 : Int), ())))
  else
  (l13_l5 ((x.1, ((IntKind.wrap .i64 (x.2.1 - ((x.1).length : Int))), ((0 : Int), ()))), (), ())).bind fun y3 =>
  (match y3 with
  | .inl y4 => some ((), (y4.1.1, ()))
  | .inr z5 => some ((), (z5.1.1, ())))
theorem e13 : ∀ x, evCode ty (gamOf g13) j13 (lamOf [(5, loopL sp13_l5 xs13_l5 l13_l5)]) b13 (st0 27 as13 x) (fin ty as13 rs13 [.tmp 4]) = F13 x := fun x => by kernel_rfl
theorem c13 : FnC P 13 as13 rs13 F13 :=
  fnC_of_ev tyOk mixed gok13 (fn := Try.f13) (by kernel_rfl) (c := b13) (by kernel_rfl) (by kernel_rfl) ⟨by decide, by decide, by decide⟩ (by kernel_rfl) (lam_ok (tab := [(5, loopL sp13_l5 xs13_l5 l13_l5)]) (by kernel_rfl) (by
    intro p hp
    simp only [List.mem_cons, List.not_mem_nil, or_false] at hp
    rcases hp with rfl
    · exact @ls13_l5)) e13

/-! laws.toInt64S -/
abbrev as50 : List AS := [.val false (.sl (.int .i64))]
abbrev rs50 : List RS := [.val false (.sl (.int .i64))]
noncomputable def g50 : List (FuncId × SumX) := []
def j50 : Nat → Option (List (Nat × SS)) := jOf []
theorem gok50 : GOk P (gamOf g50) := gam_ok (tab := g50) (fun p hp => by cases hp)
noncomputable abbrev b50 : Code := bodyOf Try.f50
abbrev sp50_l3 : Sp := ⟨22, [], [(0, .val false (.sl (.int .i64))), (3, .fix (.lf (.own 28))), (4, .val false (.int .i64))], [], [(28, (.int .i64), true)]⟩
abbrev xs50_l3 : List (Ex × Sp) := [(.exit 0, ⟨22, [], [(3, .fix (.lf (.own 28)))], [], [(28, (.int .i64), true)]⟩)]
noncomputable def s50_l3 : sp50_l3.T → Option (sp50_l3.T ⊕ XT xs50_l3) := fun x =>
  bif (decide (x.1.2.2.1 < ((x.1.1).length : Int))) then
    (bif ib x.1.2.2.1 (x.1.1).length then
    bif ib x.1.2.2.1 (x.2.2.1).length then
    some (.inl ((x.1.1, ((), ((IntKind.wrap .i64 (x.1.2.2.1 + (1 : Int))), ()))), (), ((x.2.2.1).set (Int.toNat x.1.2.2.1) ((x.1.1).getD (Int.toNat x.1.2.2.1) (K.zero (.int .i64))), ())))
    else none
    else none)
  else
  some (.inr (((), ()), (), (x.2.2.1, ())))
noncomputable def l50_l3 : sp50_l3.T → Option (XT xs50_l3) := lim s50_l3
theorem es50_l3 : ∀ x, evCode ty (gamOf g50) j50 (lamOf []) (loopAt b50 3) (sp50_l3.hd x) (rdK sp50_l3 xs50_l3) = s50_l3 x := fun x => by kernel_rfl
theorem ls50_l3 : LSumOk P (loopAt b50 3) (loopL sp50_l3 xs50_l3 l50_l3) := loop_ok tyOk mixed gok50 (by kernel_rfl) (by kernel_rfl) (lam_ok (tab := []) (by kernel_rfl) (fun p hp => by cases hp)) es50_l3 lim_itr
noncomputable def F50 : Args as50 → Option (Outs as50 × Ress rs50) := fun x =>
  bif decide (0 ≤ ((x.1).length : Int) ∧ ((x.1).length : Int) ≤ ((x.1).length : Int)) then
  bif room (Int.toNat ((x.1).length : Int)) 8 then
  (l50_l3 ((x.1, ((), ((0 : Int), ()))), (), ((List.replicate (Int.toNat ((x.1).length : Int)) (K.zero (.int .i64))), ()))).bind fun y1 =>
  some ((), (y1.2.2.1, ()))
  else none
  else none
theorem e50 : ∀ x, evCode ty (gamOf g50) j50 (lamOf [(3, loopL sp50_l3 xs50_l3 l50_l3)]) b50 (st0 22 as50 x) (fin ty as50 rs50 [.tmp 2]) = F50 x := fun x => by kernel_rfl
theorem c50 : FnC P 50 as50 rs50 F50 :=
  fnC_of_ev tyOk mixed gok50 (fn := Try.f50) (by kernel_rfl) (c := b50) (by kernel_rfl) (by kernel_rfl) ⟨by decide, by decide, by decide⟩ (by kernel_rfl) (lam_ok (tab := [(3, loopL sp50_l3 xs50_l3 l50_l3)]) (by kernel_rfl) (by
    intro p hp
    simp only [List.mem_cons, List.not_mem_nil, or_false] at hp
    rcases hp with rfl
    · exact @ls50_l3)) e50

/-! laws.toDoing -/
abbrev as59 : List AS := [.val true k4]
abbrev rs59 : List RS := [.val true k4]
noncomputable def g59 : List (FuncId × SumX) := [(50, cX as50 rs50 F50)]
def j59 : Nat → Option (List (Nat × SS)) := jOf []
theorem gok59 : GOk P (gamOf g59) := gam_ok (tab := g59) (by
    intro p hp
    simp only [g59, List.mem_cons, List.not_mem_nil, or_false] at hp
    rcases hp with rfl
    · exact cX_ok c50 rfl)
noncomputable abbrev b59 : Code := bodyOf Try.f59
noncomputable def F59 : Args as59 → Option (Outs as59 × Ress rs59) := fun x =>
  (F50 (x.1.2.1, ())).bind fun y1 =>
  some ((), ((x.1.1, (y1.2.1, x.1.2.2)), ()))
theorem e59 : ∀ x, evCode ty (gamOf g59) j59 (lamOf []) b59 (st0 24 as59 x) (fin ty as59 rs59 [.cell 2 82]) = F59 x := fun x => by kernel_rfl
theorem c59 : FnC P 59 as59 rs59 F59 :=
  fnC_of_ev tyOk mixed gok59 (fn := Try.f59) (by kernel_rfl) (c := b59) (by kernel_rfl) (by kernel_rfl) ⟨by decide, by decide, by decide⟩ (by kernel_rfl) (lam_ok (tab := []) (by kernel_rfl) (fun p hp => by cases hp)) e59

/-! laws.toDoingS -/
abbrev as15 : List AS := [.val false (.sl k4)]
abbrev rs15 : List RS := [.val false (.sl k4)]
noncomputable def g15 : List (FuncId × SumX) := [(59, cX as59 rs59 F59)]
def j15 : Nat → Option (List (Nat × SS)) := jOf []
theorem gok15 : GOk P (gamOf g15) := gam_ok (tab := g15) (by
    intro p hp
    simp only [g15, List.mem_cons, List.not_mem_nil, or_false] at hp
    rcases hp with rfl
    · exact cX_ok c59 rfl)
noncomputable abbrev b15 : Code := bodyOf Try.f15
abbrev sp15_l3 : Sp := ⟨23, [], [(0, .val false (.sl k4)), (3, .fix (.lf (.own 28))), (4, .val false (.int .i64))], [], [(28, k4, false)]⟩
abbrev xs15_l3 : List (Ex × Sp) := [(.exit 0, ⟨23, [], [(3, .fix (.lf (.own 28)))], [], [(28, k4, false)]⟩)]
noncomputable def s15_l3 : sp15_l3.T → Option (sp15_l3.T ⊕ XT xs15_l3) := fun x =>
  bif (decide (x.1.2.2.1 < ((x.1.1).length : Int))) then
    (bif ib x.1.2.2.1 (x.1.1).length then
    (F59 (((x.1.1).getD (Int.toNat x.1.2.2.1) (K.zero k4)), ())).bind fun y3 =>
    bif ib x.1.2.2.1 (x.2.2.1).length then
    some (.inl ((x.1.1, ((), ((IntKind.wrap .i64 (x.1.2.2.1 + (1 : Int))), ()))), (), ((x.2.2.1).set (Int.toNat x.1.2.2.1) y3.2.1, ())))
    else none
    else none)
  else
  some (.inr (((), ()), (), (x.2.2.1, ())))
noncomputable def l15_l3 : sp15_l3.T → Option (XT xs15_l3) := lim s15_l3
theorem es15_l3 : ∀ x, evCode ty (gamOf g15) j15 (lamOf []) (loopAt b15 3) (sp15_l3.hd x) (rdK sp15_l3 xs15_l3) = s15_l3 x := fun x => by kernel_rfl
theorem ls15_l3 : LSumOk P (loopAt b15 3) (loopL sp15_l3 xs15_l3 l15_l3) := loop_ok tyOk mixed gok15 (by kernel_rfl) (by kernel_rfl) (lam_ok (tab := []) (by kernel_rfl) (fun p hp => by cases hp)) es15_l3 lim_itr
noncomputable def F15 : Args as15 → Option (Outs as15 × Ress rs15) := fun x =>
  bif decide (0 ≤ ((x.1).length : Int) ∧ ((x.1).length : Int) ≤ ((x.1).length : Int)) then
  bif room (Int.toNat ((x.1).length : Int)) 64 then
  (l15_l3 ((x.1, ((), ((0 : Int), ()))), (), ((List.replicate (Int.toNat ((x.1).length : Int)) (K.zero k4)), ()))).bind fun y4 =>
  some ((), (y4.2.2.1, ()))
  else none
  else none
theorem e15 : ∀ x, evCode ty (gamOf g15) j15 (lamOf [(3, loopL sp15_l3 xs15_l3 l15_l3)]) b15 (st0 23 as15 x) (fin ty as15 rs15 [.tmp 2]) = F15 x := fun x => by kernel_rfl
theorem c15 : FnC P 15 as15 rs15 F15 :=
  fnC_of_ev tyOk mixed gok15 (fn := Try.f15) (by kernel_rfl) (c := b15) (by kernel_rfl) (by kernel_rfl) ⟨by decide, by decide, by decide⟩ (by kernel_rfl) (lam_ok (tab := [(3, loopL sp15_l3 xs15_l3 l15_l3)]) (by kernel_rfl) (by
    intro p hp
    simp only [List.mem_cons, List.not_mem_nil, or_false] at hp
    rcases hp with rfl
    · exact @ls15_l3)) e15

/-! spec.l1In -/
abbrev as58 : List AS := [.val false (.int .i64), .val false (.int .i64), .val false (.int .i64)]
abbrev rs58 : List RS := [.val false .bool]
noncomputable def g58 : List (FuncId × SumX) := []
def j58 : Nat → Option (List (Nat × SS)) := jOf [(1, [(6, .val false .bool)])]
theorem gok58 : GOk P (gamOf g58) := gam_ok (tab := g58) (fun p hp => by cases hp)
noncomputable abbrev b58 : Code := bodyOf Try.f58
noncomputable def F58 : Args as58 → Option (Outs as58 × Ress rs58) := fun x =>
  (bif (decide (x.1 ≥ x.2.1)) then
      (some ((decide (x.1 ≤ x.2.2.1)), ()))
    else
    some (false, ())).bind fun y1 =>
  some ((), (y1.1, ()))
theorem e58 : ∀ x, evCode ty (gamOf g58) j58 (lamOf []) b58 (st0 15 as58 x) (fin ty as58 rs58 [.tmp 6]) = F58 x := fun x => by kernel_rfl
theorem c58 : FnC P 58 as58 rs58 F58 :=
  fnC_of_ev tyOk mixed gok58 (fn := Try.f58) (by kernel_rfl) (c := b58) (by kernel_rfl) (by kernel_rfl) ⟨by decide, by decide, by decide⟩ (by kernel_rfl) (lam_ok (tab := []) (by kernel_rfl) (fun p hp => by cases hp)) e58

/-! spec.DoingsFault -/
abbrev as14 : List AS := [.val false (.sl k4)]
abbrev rs14 : List RS := [.val false (.int .i64)]
noncomputable def g14 : List (FuncId × SumX) := [(58, cX as58 rs58 F58)]
def j14 : Nat → Option (List (Nat × SS)) := jOf [(12, [(46, .val false .bool)]), (14, [(69, .val false .bool)])]
theorem gok14 : GOk P (gamOf g14) := gam_ok (tab := g14) (by
    intro p hp
    simp only [g14, List.mem_cons, List.not_mem_nil, or_false] at hp
    rcases hp with rfl
    · exact cX_ok c58 rfl)
noncomputable abbrev b14 : Code := bodyOf Try.f14
abbrev sp14_l4 : Sp := ⟨70, [], [(0, .val false (.sl k4)), (3, .val false (.int .i64))], [], []⟩
abbrev xs14_l4 : List (Ex × Sp) := [(.exit 0, ⟨70, [], [(0, .val false (.sl k4))], [], []⟩), (.ret, ⟨70, [], [(2, .val false (.int .i64))], [], []⟩)]
noncomputable def s14_l4 : sp14_l4.T → Option (sp14_l4.T ⊕ XT xs14_l4) := fun x =>
  bif (decide (x.1.2.1 < ((x.1.1).length : Int))) then
    (bif ib x.1.2.1 (x.1.1).length then
    bif (decide (((((x.1.1).getD (Int.toNat x.1.2.1) (K.zero k4)).2.1).length : Int) > (24 : Int))) then
      (some (.inr (.inr (((2 : Int), ()), (), ()))))
    else
    some (.inl ((x.1.1, ((IntKind.wrap .i64 (x.1.2.1 + (1 : Int))), ())), (), ()))
    else none)
  else
  some (.inr (.inl ((x.1.1, ()), (), ())))
noncomputable def l14_l4 : sp14_l4.T → Option (XT xs14_l4) := lim s14_l4
theorem es14_l4 : ∀ x, evCode ty (gamOf g14) j14 (lamOf []) (loopAt b14 4) (sp14_l4.hd x) (rdK sp14_l4 xs14_l4) = s14_l4 x := fun x => by kernel_rfl
theorem ls14_l4 : LSumOk P (loopAt b14 4) (loopL sp14_l4 xs14_l4 l14_l4) := loop_ok tyOk mixed gok14 (by kernel_rfl) (by kernel_rfl) (lam_ok (tab := []) (by kernel_rfl) (fun p hp => by cases hp)) es14_l4 lim_itr
abbrev sp14_l9 : Sp := ⟨70, [], [(0, .val false (.sl k4)), (4, .val false (.int .i64))], [], []⟩
abbrev xs14_l9 : List (Ex × Sp) := [(.exit 2, ⟨70, [], [], [], []⟩), (.ret, ⟨70, [], [(2, .val false (.int .i64))], [], []⟩)]
noncomputable def s14_l9 : sp14_l9.T → Option (sp14_l9.T ⊕ XT xs14_l9) := fun x =>
  bif (decide (x.1.2.1 < ((x.1.1).length : Int))) then
    (bif ib x.1.2.1 (x.1.1).length then
    ((F58 (((x.1.1).getD (Int.toNat x.1.2.1) (K.zero k4)).1, ((1 : Int), ((3 : Int), ())))).bind fun y7 =>
      bif (!y7.2.1) then
        (some (true, ()))
      else
      bif (decide (((((x.1.1).getD (Int.toNat x.1.2.1) (K.zero k4)).2.1).length : Int) > (0 : Int))) then
        (some (((((x.1.1).getD (Int.toNat x.1.2.1) (K.zero k4)).1) != (1 : Int)), ()))
      else
      some (false, ())).bind fun y8 =>
    bif y8.1 then
      (some (.inr (.inr (((1 : Int), ()), (), ()))))
    else
    (bif ((((x.1.1).getD (Int.toNat x.1.2.1) (K.zero k4)).1) != (2 : Int)) then
        (bif ((((x.1.1).getD (Int.toNat x.1.2.1) (K.zero k4)).2.2.1) != (0 : Int)) then
          (some (true, ()))
        else
        bif ((((x.1.1).getD (Int.toNat x.1.2.1) (K.zero k4)).2.2.2.1) != (0 : Int)) then
          (some (true, ()))
        else
        bif ((((x.1.1).getD (Int.toNat x.1.2.1) (K.zero k4)).2.2.2.2.1) != (0 : Int)) then
          (some (true, ()))
        else
        some (((((x.1.1).getD (Int.toNat x.1.2.1) (K.zero k4)).2.2.2.2.2) != (0 : Int)), ()))
      else
      some (false, ())).bind fun y9 =>
    bif y9.1 then
      (some (.inr (.inr (((1 : Int), ()), (), ()))))
    else
    some (.inl ((x.1.1, ((IntKind.wrap .i64 (x.1.2.1 + (1 : Int))), ())), (), ()))
    else none)
  else
  some (.inr (.inl ((), (), ())))
noncomputable def l14_l9 : sp14_l9.T → Option (XT xs14_l9) := lim s14_l9
theorem es14_l9 : ∀ x, evCode ty (gamOf g14) j14 (lamOf []) (loopAt b14 9) (sp14_l9.hd x) (rdK sp14_l9 xs14_l9) = s14_l9 x := fun x => by kernel_rfl
theorem ls14_l9 : LSumOk P (loopAt b14 9) (loopL sp14_l9 xs14_l9 l14_l9) := loop_ok tyOk mixed gok14 (by kernel_rfl) (by kernel_rfl) (lam_ok (tab := []) (by kernel_rfl) (fun p hp => by cases hp)) es14_l9 lim_itr
noncomputable def F14 : Args as14 → Option (Outs as14 × Ress rs14) := fun x =>
  bif (decide (((x.1).length : Int) > (60 : Int))) then
    (some ((), ((2 : Int), ())))
  else
  (l14_l4 ((x.1, ((0 : Int), ())), (), ())).bind fun y1 =>
  (match y1 with
  | .inl y2 => (l14_l9 ((y2.1.1, ((0 : Int), ())), (), ())).bind fun y10 =>
    (match y10 with
    | .inl y11 => some ((), ((0 : Int), ()))
    | .inr z12 => some ((), (z12.1.1, ())))
  | .inr z3 => some ((), (z3.1.1, ())))
theorem e14 : ∀ x, evCode ty (gamOf g14) j14 (lamOf [(4, loopL sp14_l4 xs14_l4 l14_l4), (9, loopL sp14_l9 xs14_l9 l14_l9)]) b14 (st0 70 as14 x) (fin ty as14 rs14 [.tmp 2]) = F14 x := fun x => by kernel_rfl
theorem c14 : FnC P 14 as14 rs14 F14 :=
  fnC_of_ev tyOk mixed gok14 (fn := Try.f14) (by kernel_rfl) (c := b14) (by kernel_rfl) (by kernel_rfl) ⟨by decide, by decide, by decide⟩ (by kernel_rfl) (lam_ok (tab := [(4, loopL sp14_l4 xs14_l4 l14_l4), (9, loopL sp14_l9 xs14_l9 l14_l9)]) (by kernel_rfl) (by
    intro p hp
    simp only [List.mem_cons, List.not_mem_nil, or_false] at hp
    rcases hp with rfl | rfl
    · exact @ls14_l4
    · exact @ls14_l9)) e14

/-! spec.l13Kind -/
abbrev as69 : List AS := [.val false (.int .i64)]
abbrev rs69 : List RS := [.val false .bool]
noncomputable def g69 : List (FuncId × SumX) := []
def j69 : Nat → Option (List (Nat × SS)) := jOf [(1, [(2, .val false .bool)])]
theorem gok69 : GOk P (gamOf g69) := gam_ok (tab := g69) (fun p hp => by cases hp)
noncomputable abbrev b69 : Code := bodyOf Try.f69
noncomputable def F69 : Args as69 → Option (Outs as69 × Ress rs69) := fun x =>
  (bif (x.1 == (1 : Int)) then
      (some (true, ()))
    else
    some ((x.1 == (2 : Int)), ())).bind fun y1 =>
  some ((), (y1.1, ()))
theorem e69 : ∀ x, evCode ty (gamOf g69) j69 (lamOf []) b69 (st0 9 as69 x) (fin ty as69 rs69 [.tmp 2]) = F69 x := fun x => by kernel_rfl
theorem c69 : FnC P 69 as69 rs69 F69 :=
  fnC_of_ev tyOk mixed gok69 (fn := Try.f69) (by kernel_rfl) (c := b69) (by kernel_rfl) (by kernel_rfl) ⟨by decide, by decide, by decide⟩ (by kernel_rfl) (lam_ok (tab := []) (by kernel_rfl) (fun p hp => by cases hp)) e69

/-! spec.HurtsOf -/
abbrev as23 : List AS := [.val false (.sl k4)]
abbrev rs23 : List RS := [.val true k0]
noncomputable def g23 : List (FuncId × SumX) := [(14, cX as14 rs14 F14), (69, cX as69 rs69 F69)]
def j23 : Nat → Option (List (Nat × SS)) := jOf [(9, [(43, .val false .bool)])]
theorem gok23 : GOk P (gamOf g23) := gam_ok (tab := g23) (by
    intro p hp
    simp only [g23, List.mem_cons, List.not_mem_nil, or_false] at hp
    rcases hp with rfl | rfl
    · exact cX_ok c14 rfl
    · exact cX_ok c69 rfl)
noncomputable abbrev b23 : Code := bodyOf Try.f23
abbrev sp23_l6 : Sp := ⟨52, [], [(0, .val false (.sl k4)), (2, .fix (.lf (.ptr 2 0))), (4, .val false (.int .i64)), (5, .val false (.int .i64))], [(2, [.val (.int .i64), .val (.int .i64)])], []⟩
abbrev xs23_l6 : List (Ex × Sp) := [(.exit 0, ⟨52, [], [(2, .fix (.lf (.ptr 2 0))), (4, .val false (.int .i64))], [(2, [.val (.int .i64), .val (.int .i64)])], []⟩), (.ret, ⟨52, [], [(2, .fix (.lf (.ptr 2 0)))], [(2, [.val (.int .i64), .val (.int .i64)])], []⟩)]
noncomputable def s23_l6 : sp23_l6.T → Option (sp23_l6.T ⊕ XT xs23_l6) := fun x =>
  bif (decide (x.1.2.2.2.1 < ((x.1.1).length : Int))) then
    (bif ib x.1.2.2.2.1 (x.1.1).length then
    bif ((((x.1.1).getD (Int.toNat x.1.2.2.2.1) (K.zero k4)).1) != (2 : Int)) then
      (some (.inl ((x.1.1, ((), (x.1.2.2.1, ((IntKind.wrap .i64 (x.1.2.2.2.1 + (1 : Int))), ())))), ((x.2.1.1.1, (x.2.1.1.2.1, ())), ()), ())))
    else
    (bif ib x.1.2.2.2.1 (x.1.1).length then
      (F69 (((x.1.1).getD (Int.toNat x.1.2.2.2.1) (K.zero k4)).2.2.1, ())).bind fun y4 =>
      bif (!y4.2.1) then
        (some (true, ()))
      else
      bif (x.1.2.2.1 != (0 : Int)) then
        (bif ib x.1.2.2.2.1 (x.1.1).length then
        some ((x.1.2.2.1 != (((x.1.1).getD (Int.toNat x.1.2.2.2.1) (K.zero k4)).2.2.1)), ())
        else none)
      else
      some (false, ())
      else none).bind fun y5 =>
    bif y5.1 then
      (some (.inr (.inr (((), ()), (((0 : Int), ((3 : Int), ())), ()), ()))))
    else
    bif ib x.1.2.2.2.1 (x.1.1).length then
    some (.inl ((x.1.1, ((), (((x.1.1).getD (Int.toNat x.1.2.2.2.1) (K.zero k4)).2.2.1, ((IntKind.wrap .i64 (x.1.2.2.2.1 + (1 : Int))), ())))), ((x.2.1.1.1, (x.2.1.1.2.1, ())), ()), ()))
    else none
    else none)
  else
  some (.inr (.inl (((), (x.1.2.2.1, ())), ((x.2.1.1.1, (x.2.1.1.2.1, ())), ()), ())))
noncomputable def l23_l6 : sp23_l6.T → Option (XT xs23_l6) := lim s23_l6
theorem es23_l6 : ∀ x, evCode ty (gamOf g23) j23 (lamOf []) (loopAt b23 6) (sp23_l6.hd x) (rdK sp23_l6 xs23_l6) = s23_l6 x := fun x => by kernel_rfl
theorem ls23_l6 : LSumOk P (loopAt b23 6) (loopL sp23_l6 xs23_l6 l23_l6) := loop_ok tyOk mixed gok23 (by kernel_rfl) (by kernel_rfl) (lam_ok (tab := []) (by kernel_rfl) (fun p hp => by cases hp)) es23_l6 lim_itr
noncomputable def F23 : Args as23 → Option (Outs as23 × Ress rs23) := fun x =>
  (F14 (x.1, ())).bind fun y1 =>
  bif (y1.2.1 != (0 : Int)) then
    (some ((), ((y1.2.1, (0 : Int)), ())))
  else
  (l23_l6 ((x.1, ((), ((0 : Int), ((0 : Int), ())))), (((0 : Int), ((0 : Int), ())), ()), ())).bind fun y6 =>
  (match y6 with
  | .inl y7 => some ((), (((0 : Int), y7.1.2.1), ()))
  | .inr z8 => some ((), ((z8.2.1.1.1, z8.2.1.1.2.1), ())))
theorem e23 : ∀ x, evCode ty (gamOf g23) j23 (lamOf [(6, loopL sp23_l6 xs23_l6 l23_l6)]) b23 (st0 52 as23 x) (fin ty as23 rs23 [.cell 2 39]) = F23 x := fun x => by kernel_rfl
theorem c23 : FnC P 23 as23 rs23 F23 :=
  fnC_of_ev tyOk mixed gok23 (fn := Try.f23) (by kernel_rfl) (c := b23) (by kernel_rfl) (by kernel_rfl) ⟨by decide, by decide, by decide⟩ (by kernel_rfl) (lam_ok (tab := [(6, loopL sp23_l6 xs23_l6 l23_l6)]) (by kernel_rfl) (by
    intro p hp
    simp only [List.mem_cons, List.not_mem_nil, or_false] at hp
    rcases hp with rfl
    · exact @ls23_l6)) e23

/-! impl.DoingsFault$1 -/
abbrev as61 : List AS := [.val true k4]
abbrev rs61 : List RS := [.val false .bool]
noncomputable def g61 : List (FuncId × SumX) := []
def j61 : Nat → Option (List (Nat × SS)) := jOf []
theorem gok61 : GOk P (gamOf g61) := gam_ok (tab := g61) (fun p hp => by cases hp)
noncomputable abbrev b61 : Code := bodyOf Try.f61
noncomputable def F61 : Args as61 → Option (Outs as61 × Ress rs61) := fun x =>
  some ((), ((decide (((x.1.2.1).length : Int) > (24 : Int))), ()))
theorem e61 : ∀ x, evCode ty (gamOf g61) j61 (lamOf []) b61 (st0 7 as61 x) (fin ty as61 rs61 [.tmp 2]) = F61 x := fun x => by kernel_rfl
theorem c61 : FnC P 61 as61 rs61 F61 :=
  fnC_of_ev tyOk mixed gok61 (fn := Try.f61) (by kernel_rfl) (c := b61) (by kernel_rfl) (by kernel_rfl) ⟨by decide, by decide, by decide⟩ (by kernel_rfl) (lam_ok (tab := []) (by kernel_rfl) (fun p hp => by cases hp)) e61

/-! impl.Doing] -/
abbrev as105_61 : List AS := [.val false (.sl k4), .fn 61]
abbrev rs105_61 : List RS := [.val false (.int .i64)]
noncomputable def g105_61 : List (FuncId × SumX) := [(61, cX as61 rs61 F61)]
def j105_61 : Nat → Option (List (Nat × SS)) := jOf []
theorem gok105_61 : GOk P (gamOf g105_61) := gam_ok (tab := g105_61) (by
    intro p hp
    simp only [g105_61, List.mem_cons, List.not_mem_nil, or_false] at hp
    rcases hp with rfl
    · exact cX_ok c61 rfl)
noncomputable abbrev b105_61 : Code := bodyOf Try.f105
abbrev sp105_61_l2 : Sp := ⟨19, [], [(0, .val false (.sl k4)), (1, .fix (.lf (.fn 61 []))), (7, .val false (.int .i64)), (8, .val false (.int .i64))], [], []⟩
abbrev xs105_61_l2 : List (Ex × Sp) := [(.exit 0, ⟨19, [], [], [], []⟩), (.ret, ⟨19, [], [(4, .val false (.int .i64))], [], []⟩)]
noncomputable def s105_61_l2 : sp105_61_l2.T → Option (sp105_61_l2.T ⊕ XT xs105_61_l2) := fun x =>
  bif (decide (x.1.2.2.2.1 < x.1.2.2.1)) then
    (bif ib x.1.2.2.2.1 (x.1.1).length then
    (F61 (((x.1.1).getD (Int.toNat x.1.2.2.2.1) (K.zero k4)), ())).bind fun y2 =>
    bif y2.2.1 then
      (some (.inr (.inr ((x.1.2.2.2.1, ()), (), ()))))
    else
    some (.inl ((x.1.1, ((), (x.1.2.2.1, ((IntKind.wrap .i64 (x.1.2.2.2.1 + (1 : Int))), ())))), (), ()))
    else none)
  else
  some (.inr (.inl ((), (), ())))
noncomputable def l105_61_l2 : sp105_61_l2.T → Option (XT xs105_61_l2) := lim s105_61_l2
theorem es105_61_l2 : ∀ x, evCode ty (gamOf g105_61) j105_61 (lamOf []) (loopAt b105_61 2) (sp105_61_l2.hd x) (rdK sp105_61_l2 xs105_61_l2) = s105_61_l2 x := fun x => by kernel_rfl
theorem ls105_61_l2 : LSumOk P (loopAt b105_61 2) (loopL sp105_61_l2 xs105_61_l2 l105_61_l2) := loop_ok tyOk mixed gok105_61 (by kernel_rfl) (by kernel_rfl) (lam_ok (tab := []) (by kernel_rfl) (fun p hp => by cases hp)) es105_61_l2 lim_itr
noncomputable def F105_61 : Args as105_61 → Option (Outs as105_61 × Ress rs105_61) := fun x =>
  (l105_61_l2 ((x.1, ((), (((x.1).length : Int), ((0 : Int), ())))), (), ())).bind fun y3 =>
  (match y3 with
  | .inl y4 => some ((), ((-1 : Int), ()))
  | .inr z5 => some ((), (z5.1.1, ())))
theorem e105_61 : ∀ x, evCode ty (gamOf g105_61) j105_61 (lamOf [(2, loopL sp105_61_l2 xs105_61_l2 l105_61_l2)]) b105_61 (st0 19 as105_61 x) (fin ty as105_61 rs105_61 [.tmp 4]) = F105_61 x := fun x => by kernel_rfl
theorem c105_61 : FnC P 105 as105_61 rs105_61 F105_61 :=
  fnC_of_ev tyOk mixed gok105_61 (fn := Try.f105) (by kernel_rfl) (c := b105_61) (by kernel_rfl) (by kernel_rfl) ⟨by decide, by decide, by decide⟩ (by kernel_rfl) (lam_ok (tab := [(2, loopL sp105_61_l2 xs105_61_l2 l105_61_l2)]) (by kernel_rfl) (by
    intro p hp
    simp only [List.mem_cons, List.not_mem_nil, or_false] at hp
    rcases hp with rfl
    · exact @ls105_61_l2)) e105_61

/-! impl.Doing] -/
abbrev as60_61 : List AS := [.val false (.sl k4), .fn 61]
abbrev rs60_61 : List RS := [.val false .bool]
noncomputable def g60_61 : List (FuncId × SumX) := [(105, cX as105_61 rs105_61 F105_61)]
def j60_61 : Nat → Option (List (Nat × SS)) := jOf []
theorem gok60_61 : GOk P (gamOf g60_61) := gam_ok (tab := g60_61) (by
    intro p hp
    simp only [g60_61, List.mem_cons, List.not_mem_nil, or_false] at hp
    rcases hp with rfl
    · exact cX_ok c105_61 rfl)
noncomputable abbrev b60_61 : Code := bodyOf Try.f60
noncomputable def F60_61 : Args as60_61 → Option (Outs as60_61 × Ress rs60_61) := fun x =>
  (F105_61 (x.1, ((), ()))).bind fun y1 =>
  some ((), ((decide (y1.2.1 ≥ (0 : Int))), ()))
theorem e60_61 : ∀ x, evCode ty (gamOf g60_61) j60_61 (lamOf []) b60_61 (st0 9 as60_61 x) (fin ty as60_61 rs60_61 [.tmp 4]) = F60_61 x := fun x => by kernel_rfl
theorem c60_61 : FnC P 60 as60_61 rs60_61 F60_61 :=
  fnC_of_ev tyOk mixed gok60_61 (fn := Try.f60) (by kernel_rfl) (c := b60_61) (by kernel_rfl) (by kernel_rfl) ⟨by decide, by decide, by decide⟩ (by kernel_rfl) (lam_ok (tab := []) (by kernel_rfl) (fun p hp => by cases hp)) e60_61

/-! impl.within -/
abbrev as62 : List AS := [.val false (.int .i64), .val false (.int .i64), .val false (.int .i64)]
abbrev rs62 : List RS := [.val false .bool]
noncomputable def g62 : List (FuncId × SumX) := []
def j62 : Nat → Option (List (Nat × SS)) := jOf [(1, [(6, .val false .bool)])]
theorem gok62 : GOk P (gamOf g62) := gam_ok (tab := g62) (fun p hp => by cases hp)
noncomputable abbrev b62 : Code := bodyOf Try.f62
noncomputable def F62 : Args as62 → Option (Outs as62 × Ress rs62) := fun x =>
  (bif (decide (x.2.1 ≤ x.1)) then
      (some ((decide (x.1 ≤ x.2.2.1)), ()))
    else
    some (false, ())).bind fun y1 =>
  some ((), (y1.1, ()))
theorem e62 : ∀ x, evCode ty (gamOf g62) j62 (lamOf []) b62 (st0 15 as62 x) (fin ty as62 rs62 [.tmp 6]) = F62 x := fun x => by kernel_rfl
theorem c62 : FnC P 62 as62 rs62 F62 :=
  fnC_of_ev tyOk mixed gok62 (fn := Try.f62) (by kernel_rfl) (c := b62) (by kernel_rfl) (by kernel_rfl) ⟨by decide, by decide, by decide⟩ (by kernel_rfl) (lam_ok (tab := []) (by kernel_rfl) (fun p hp => by cases hp)) e62

/-! impl.DoingsFault -/
abbrev as16 : List AS := [.val false (.sl k4)]
abbrev rs16 : List RS := [.val false (.int .i64)]
noncomputable def g16 : List (FuncId × SumX) := [(60, cX as60_61 rs60_61 F60_61), (62, cX as62 rs62 F62)]
def j16 : Nat → Option (List (Nat × SS)) := jOf [(1, [(11, .val false .bool)]), (6, [(57, .val false .bool)])]
theorem gok16 : GOk P (gamOf g16) := gam_ok (tab := g16) (by
    intro p hp
    simp only [g16, List.mem_cons, List.not_mem_nil, or_false] at hp
    rcases hp with rfl | rfl
    · exact cX_ok c60_61 rfl
    · exact cX_ok c62 rfl)
noncomputable abbrev b16 : Code := bodyOf Try.f16
abbrev sp16_l4 : Sp := ⟨59, [], [(12, .val false (.sl k4)), (13, .val false (.int .i64)), (14, .val false (.int .i64))], [], []⟩
abbrev xs16_l4 : List (Ex × Sp) := [(.exit 0, ⟨59, [], [], [], []⟩), (.ret, ⟨59, [], [(2, .val false (.int .i64))], [], []⟩)]
noncomputable def s16_l4 : sp16_l4.T → Option (sp16_l4.T ⊕ XT xs16_l4) := fun x =>
  bif (decide (x.1.2.2.1 < x.1.2.1)) then
    (bif ib x.1.2.2.1 (x.1.1).length then
    ((F62 (((x.1.1).getD (Int.toNat x.1.2.2.1) (K.zero k4)).1, ((1 : Int), ((3 : Int), ())))).bind fun y5 =>
      bif (!y5.2.1) then
        (some (true, ()))
      else
      bif ((((x.1.1).getD (Int.toNat x.1.2.2.1) (K.zero k4)).1) != (1 : Int)) then
        (bif (decide (((((x.1.1).getD (Int.toNat x.1.2.2.1) (K.zero k4)).2.1).length : Int) > (0 : Int))) then
          (some (true, ()))
        else
        bif ((((x.1.1).getD (Int.toNat x.1.2.2.1) (K.zero k4)).1) != (2 : Int)) then
          (bif ((((x.1.1).getD (Int.toNat x.1.2.2.1) (K.zero k4)).2.2.1) != (0 : Int)) then
            (some (true, ()))
          else
          bif ((((x.1.1).getD (Int.toNat x.1.2.2.1) (K.zero k4)).2.2.2.1) != (0 : Int)) then
            (some (true, ()))
          else
          bif ((((x.1.1).getD (Int.toNat x.1.2.2.1) (K.zero k4)).2.2.2.2.1) != (0 : Int)) then
            (some (true, ()))
          else
          some (((((x.1.1).getD (Int.toNat x.1.2.2.1) (K.zero k4)).2.2.2.2.2) != (0 : Int)), ()))
        else
        some (false, ()))
      else
      bif ((((x.1.1).getD (Int.toNat x.1.2.2.1) (K.zero k4)).1) != (2 : Int)) then
        (bif ((((x.1.1).getD (Int.toNat x.1.2.2.1) (K.zero k4)).2.2.1) != (0 : Int)) then
          (some (true, ()))
        else
        bif ((((x.1.1).getD (Int.toNat x.1.2.2.1) (K.zero k4)).2.2.2.1) != (0 : Int)) then
          (some (true, ()))
        else
        bif ((((x.1.1).getD (Int.toNat x.1.2.2.1) (K.zero k4)).2.2.2.2.1) != (0 : Int)) then
          (some (true, ()))
        else
        some (((((x.1.1).getD (Int.toNat x.1.2.2.1) (K.zero k4)).2.2.2.2.2) != (0 : Int)), ()))
      else
      some (false, ())).bind fun y6 =>
    bif y6.1 then
      (some (.inr (.inr (((1 : Int), ()), (), ()))))
    else
    some (.inl ((x.1.1, (x.1.2.1, ((IntKind.wrap .i64 (x.1.2.2.1 + (1 : Int))), ()))), (), ()))
    else none)
  else
  some (.inr (.inl ((), (), ())))
noncomputable def l16_l4 : sp16_l4.T → Option (XT xs16_l4) := lim s16_l4
theorem es16_l4 : ∀ x, evCode ty (gamOf g16) j16 (lamOf []) (loopAt b16 4) (sp16_l4.hd x) (rdK sp16_l4 xs16_l4) = s16_l4 x := fun x => by kernel_rfl
theorem ls16_l4 : LSumOk P (loopAt b16 4) (loopL sp16_l4 xs16_l4 l16_l4) := loop_ok tyOk mixed gok16 (by kernel_rfl) (by kernel_rfl) (lam_ok (tab := []) (by kernel_rfl) (fun p hp => by cases hp)) es16_l4 lim_itr
noncomputable def F16 : Args as16 → Option (Outs as16 × Ress rs16) := fun x =>
  (bif (decide (((x.1).length : Int) > (60 : Int))) then
      (some (true, ()))
    else
    (F60_61 (x.1, ((), ()))).bind fun y1 =>
    some (y1.2.1, ())).bind fun y2 =>
  bif y2.1 then
    (some ((), ((2 : Int), ())))
  else
  (l16_l4 ((x.1, (((x.1).length : Int), ((0 : Int), ()))), (), ())).bind fun y7 =>
  (match y7 with
  | .inl y8 => some ((), ((0 : Int), ()))
  | .inr z9 => some ((), (z9.1.1, ())))
theorem e16 : ∀ x, evCode ty (gamOf g16) j16 (lamOf [(4, loopL sp16_l4 xs16_l4 l16_l4)]) b16 (st0 59 as16 x) (fin ty as16 rs16 [.tmp 2]) = F16 x := fun x => by kernel_rfl
theorem c16 : FnC P 16 as16 rs16 F16 :=
  fnC_of_ev tyOk mixed gok16 (fn := Try.f16) (by kernel_rfl) (c := b16) (by kernel_rfl) (by kernel_rfl) ⟨by decide, by decide, by decide⟩ (by kernel_rfl) (lam_ok (tab := [(4, loopL sp16_l4 xs16_l4 l16_l4)]) (by kernel_rfl) (by
    intro p hp
    simp only [List.mem_cons, List.not_mem_nil, or_false] at hp
    rcases hp with rfl
    · exact @ls16_l4)) e16

/-! impl.HurtsOf -/
abbrev as24 : List AS := [.val false (.sl k4)]
abbrev rs24 : List RS := [.val true k0]
noncomputable def g24 : List (FuncId × SumX) := [(16, cX as16 rs16 F16)]
def j24 : Nat → Option (List (Nat × SS)) := jOf [(10, [(25, .val false .bool)])]
theorem gok24 : GOk P (gamOf g24) := gam_ok (tab := g24) (by
    intro p hp
    simp only [g24, List.mem_cons, List.not_mem_nil, or_false] at hp
    rcases hp with rfl
    · exact cX_ok c16 rfl)
noncomputable abbrev b24 : Code := bodyOf Try.f24
abbrev sp24_l6 : Sp := ⟨48, [], [(2, .fix (.lf (.ptr 2 0))), (4, .val false (.int .i64)), (13, .val false (.sl k4)), (14, .val false (.int .i64)), (15, .val false (.int .i64))], [(2, [.val (.int .i64), .val (.int .i64)])], []⟩
abbrev xs24_l6 : List (Ex × Sp) := [(.exit 0, ⟨48, [], [(2, .fix (.lf (.ptr 2 0))), (4, .val false (.int .i64))], [(2, [.val (.int .i64), .val (.int .i64)])], []⟩), (.ret, ⟨48, [], [(2, .fix (.lf (.ptr 2 0)))], [(2, [.val (.int .i64), .val (.int .i64)])], []⟩)]
noncomputable def s24_l6 : sp24_l6.T → Option (sp24_l6.T ⊕ XT xs24_l6) := fun x =>
  bif (decide (x.1.2.2.2.2.1 < x.1.2.2.2.1)) then
    (bif ib x.1.2.2.2.2.1 (x.1.2.2.1).length then
    bif ((((x.1.2.2.1).getD (Int.toNat x.1.2.2.2.2.1) (K.zero k4)).1) != (2 : Int)) then
      (some (.inl (((), (x.1.2.1, (x.1.2.2.1, (x.1.2.2.2.1, ((IntKind.wrap .i64 (x.1.2.2.2.2.1 + (1 : Int))), ()))))), ((x.2.1.1.1, (x.2.1.1.2.1, ())), ()), ())))
    else
    (bif ((((x.1.2.2.1).getD (Int.toNat x.1.2.2.2.2.1) (K.zero k4)).2.2.1) != (1 : Int)) then
        (bif ((((x.1.2.2.1).getD (Int.toNat x.1.2.2.2.2.1) (K.zero k4)).2.2.1) != (2 : Int)) then
          (some (true, ()))
        else
        bif (x.1.2.1 != (0 : Int)) then
          (some ((x.1.2.1 != (((x.1.2.2.1).getD (Int.toNat x.1.2.2.2.2.1) (K.zero k4)).2.2.1)), ()))
        else
        some (false, ()))
      else
      bif (x.1.2.1 != (0 : Int)) then
        (some ((x.1.2.1 != (((x.1.2.2.1).getD (Int.toNat x.1.2.2.2.2.1) (K.zero k4)).2.2.1)), ()))
      else
      some (false, ())).bind fun y3 =>
    bif y3.1 then
      (some (.inr (.inr (((), ()), (((0 : Int), ((3 : Int), ())), ()), ()))))
    else
    some (.inl (((), (((x.1.2.2.1).getD (Int.toNat x.1.2.2.2.2.1) (K.zero k4)).2.2.1, (x.1.2.2.1, (x.1.2.2.2.1, ((IntKind.wrap .i64 (x.1.2.2.2.2.1 + (1 : Int))), ()))))), ((x.2.1.1.1, (x.2.1.1.2.1, ())), ()), ()))
    else none)
  else
  some (.inr (.inl (((), (x.1.2.1, ())), ((x.2.1.1.1, (x.2.1.1.2.1, ())), ()), ())))
noncomputable def l24_l6 : sp24_l6.T → Option (XT xs24_l6) := lim s24_l6
theorem es24_l6 : ∀ x, evCode ty (gamOf g24) j24 (lamOf []) (loopAt b24 6) (sp24_l6.hd x) (rdK sp24_l6 xs24_l6) = s24_l6 x := fun x => by kernel_rfl
theorem ls24_l6 : LSumOk P (loopAt b24 6) (loopL sp24_l6 xs24_l6 l24_l6) := loop_ok tyOk mixed gok24 (by kernel_rfl) (by kernel_rfl) (lam_ok (tab := []) (by kernel_rfl) (fun p hp => by cases hp)) es24_l6 lim_itr
noncomputable def F24 : Args as24 → Option (Outs as24 × Ress rs24) := fun x =>
  (F16 (x.1, ())).bind fun y1 =>
  bif (y1.2.1 != (0 : Int)) then
    (some ((), ((y1.2.1, (0 : Int)), ())))
  else
  (l24_l6 (((), ((0 : Int), (x.1, (((x.1).length : Int), ((0 : Int), ()))))), (((0 : Int), ((0 : Int), ())), ()), ())).bind fun y4 =>
  (match y4 with
  | .inl y5 => some ((), (((0 : Int), y5.1.2.1), ()))
  | .inr z6 => some ((), ((z6.2.1.1.1, z6.2.1.1.2.1), ())))
theorem e24 : ∀ x, evCode ty (gamOf g24) j24 (lamOf [(6, loopL sp24_l6 xs24_l6 l24_l6)]) b24 (st0 48 as24 x) (fin ty as24 rs24 [.cell 2 39]) = F24 x := fun x => by kernel_rfl
theorem c24 : FnC P 24 as24 rs24 F24 :=
  fnC_of_ev tyOk mixed gok24 (fn := Try.f24) (by kernel_rfl) (c := b24) (by kernel_rfl) (by kernel_rfl) ⟨by decide, by decide, by decide⟩ (by kernel_rfl) (lam_ok (tab := [(6, loopL sp24_l6 xs24_l6 l24_l6)]) (by kernel_rfl) (by
    intro p hp
    simp only [List.mem_cons, List.not_mem_nil, or_false] at hp
    rcases hp with rfl
    · exact @ls24_l6)) e24

/-! laws.eqIntResult -/
abbrev as25 : List AS := [.val true k0, .val true k0]
abbrev rs25 : List RS := [.val false .bool]
noncomputable def g25 : List (FuncId × SumX) := []
def j25 : Nat → Option (List (Nat × SS)) := jOf []
theorem gok25 : GOk P (gamOf g25) := gam_ok (tab := g25) (fun p hp => by cases hp)
noncomputable abbrev b25 : Code := bodyOf Try.f25
noncomputable def F25 : Args as25 → Option (Outs as25 × Ress rs25) := fun x =>
  bif (x.1.1 != x.2.1.1) then
    (some ((), (false, ())))
  else
  bif (x.1.2 != x.2.1.2) then
    (some ((), (false, ())))
  else
  some ((), (true, ()))
theorem e25 : ∀ x, evCode ty (gamOf g25) j25 (lamOf []) b25 (st0 15 as25 x) (fin ty as25 rs25 [.tmp 4]) = F25 x := fun x => by kernel_rfl
theorem c25 : FnC P 25 as25 rs25 F25 :=
  fnC_of_ev tyOk mixed gok25 (fn := Try.f25) (by kernel_rfl) (c := b25) (by kernel_rfl) (by kernel_rfl) ⟨by decide, by decide, by decide⟩ (by kernel_rfl) (lam_ok (tab := []) (by kernel_rfl) (fun p hp => by cases hp)) e25

/-! laws.eqInt64S -/
abbrev as53 : List AS := [.val false (.sl (.int .i64)), .val false (.sl (.int .i64))]
abbrev rs53 : List RS := [.val false .bool]
noncomputable def g53 : List (FuncId × SumX) := []
def j53 : Nat → Option (List (Nat × SS)) := jOf []
theorem gok53 : GOk P (gamOf g53) := gam_ok (tab := g53) (fun p hp => by cases hp)
noncomputable abbrev b53 : Code := bodyOf Try.f53
abbrev sp53_l4 : Sp := ⟨26, [], [(0, .val false (.sl (.int .i64))), (1, .val false (.sl (.int .i64))), (5, .val false (.int .i64))], [], []⟩
abbrev xs53_l4 : List (Ex × Sp) := [(.exit 0, ⟨26, [], [], [], []⟩), (.ret, ⟨26, [], [(4, .val false .bool)], [], []⟩)]
noncomputable def s53_l4 : sp53_l4.T → Option (sp53_l4.T ⊕ XT xs53_l4) := fun x =>
  bif (decide (x.1.2.2.1 < ((x.1.1).length : Int))) then
    (bif ib x.1.2.2.1 (x.1.1).length then
    bif ib x.1.2.2.1 (x.1.2.1).length then
    bif (((x.1.1).getD (Int.toNat x.1.2.2.1) (K.zero (.int .i64))) != ((x.1.2.1).getD (Int.toNat x.1.2.2.1) (K.zero (.int .i64)))) then
      (some (.inr (.inr ((false, ()), (), ()))))
    else
    some (.inl ((x.1.1, (x.1.2.1, ((IntKind.wrap .i64 (x.1.2.2.1 + (1 : Int))), ()))), (), ()))
    else none
    else none)
  else
  some (.inr (.inl ((), (), ())))
noncomputable def l53_l4 : sp53_l4.T → Option (XT xs53_l4) := lim s53_l4
theorem es53_l4 : ∀ x, evCode ty (gamOf g53) j53 (lamOf []) (loopAt b53 4) (sp53_l4.hd x) (rdK sp53_l4 xs53_l4) = s53_l4 x := fun x => by kernel_rfl
theorem ls53_l4 : LSumOk P (loopAt b53 4) (loopL sp53_l4 xs53_l4 l53_l4) := loop_ok tyOk mixed gok53 (by kernel_rfl) (by kernel_rfl) (lam_ok (tab := []) (by kernel_rfl) (fun p hp => by cases hp)) es53_l4 lim_itr
noncomputable def F53 : Args as53 → Option (Outs as53 × Ress rs53) := fun x =>
  bif (((x.1).length : Int) != ((x.2.1).length : Int)) then
    (some ((), (false, ())))
  else
  (l53_l4 ((x.1, (x.2.1, ((0 : Int), ()))), (), ())).bind fun y1 =>
  (match y1 with
  | .inl y2 => some ((), (true, ()))
  | .inr z3 => some ((), (z3.1.1, ())))
theorem e53 : ∀ x, evCode ty (gamOf g53) j53 (lamOf [(4, loopL sp53_l4 xs53_l4 l53_l4)]) b53 (st0 26 as53 x) (fin ty as53 rs53 [.tmp 4]) = F53 x := fun x => by kernel_rfl
theorem c53 : FnC P 53 as53 rs53 F53 :=
  fnC_of_ev tyOk mixed gok53 (fn := Try.f53) (by kernel_rfl) (c := b53) (by kernel_rfl) (by kernel_rfl) ⟨by decide, by decide, by decide⟩ (by kernel_rfl) (lam_ok (tab := [(4, loopL sp53_l4 xs53_l4 l53_l4)]) (by kernel_rfl) (by
    intro p hp
    simp only [List.mem_cons, List.not_mem_nil, or_false] at hp
    rcases hp with rfl
    · exact @ls53_l4)) e53

/-! laws.eqDoing -/
abbrev as63 : List AS := [.val true k4, .val true k4]
abbrev rs63 : List RS := [.val false .bool]
noncomputable def g63 : List (FuncId × SumX) := [(53, cX as53 rs53 F53)]
def j63 : Nat → Option (List (Nat × SS)) := jOf []
theorem gok63 : GOk P (gamOf g63) := gam_ok (tab := g63) (by
    intro p hp
    simp only [g63, List.mem_cons, List.not_mem_nil, or_false] at hp
    rcases hp with rfl
    · exact cX_ok c53 rfl)
noncomputable abbrev b63 : Code := bodyOf Try.f63
noncomputable def F63 : Args as63 → Option (Outs as63 × Ress rs63) := fun x =>
  bif (x.1.1 != x.2.1.1) then
    (some ((), (false, ())))
  else
  (F53 (x.1.2.1, (x.2.1.2.1, ()))).bind fun y1 =>
  bif (!y1.2.1) then
    (some ((), (false, ())))
  else
  bif (x.1.2.2.1 != x.2.1.2.2.1) then
    (some ((), (false, ())))
  else
  bif (x.1.2.2.2.1 != x.2.1.2.2.2.1) then
    (some ((), (false, ())))
  else
  bif (x.1.2.2.2.2.1 != x.2.1.2.2.2.2.1) then
    (some ((), (false, ())))
  else
  bif (x.1.2.2.2.2.2 != x.2.1.2.2.2.2.2) then
    (some ((), (false, ())))
  else
  some ((), (true, ()))
theorem e63 : ∀ x, evCode ty (gamOf g63) j63 (lamOf []) b63 (st0 36 as63 x) (fin ty as63 rs63 [.tmp 4]) = F63 x := fun x => by kernel_rfl
theorem c63 : FnC P 63 as63 rs63 F63 :=
  fnC_of_ev tyOk mixed gok63 (fn := Try.f63) (by kernel_rfl) (c := b63) (by kernel_rfl) (by kernel_rfl) ⟨by decide, by decide, by decide⟩ (by kernel_rfl) (lam_ok (tab := []) (by kernel_rfl) (fun p hp => by cases hp)) e63

/-! laws.eqDoingS -/
abbrev as17 : List AS := [.val false (.sl k4), .val false (.sl k4)]
abbrev rs17 : List RS := [.val false .bool]
noncomputable def g17 : List (FuncId × SumX) := [(63, cX as63 rs63 F63)]
def j17 : Nat → Option (List (Nat × SS)) := jOf []
theorem gok17 : GOk P (gamOf g17) := gam_ok (tab := g17) (by
    intro p hp
    simp only [g17, List.mem_cons, List.not_mem_nil, or_false] at hp
    rcases hp with rfl
    · exact cX_ok c63 rfl)
noncomputable abbrev b17 : Code := bodyOf Try.f17
abbrev sp17_l4 : Sp := ⟨27, [], [(0, .val false (.sl k4)), (1, .val false (.sl k4)), (5, .val false (.int .i64))], [], []⟩
abbrev xs17_l4 : List (Ex × Sp) := [(.exit 0, ⟨27, [], [], [], []⟩), (.ret, ⟨27, [], [(4, .val false .bool)], [], []⟩)]
noncomputable def s17_l4 : sp17_l4.T → Option (sp17_l4.T ⊕ XT xs17_l4) := fun x =>
  bif (decide (x.1.2.2.1 < ((x.1.1).length : Int))) then
    (bif ib x.1.2.2.1 (x.1.1).length then
    bif ib x.1.2.2.1 (x.1.2.1).length then
    (F63 (((x.1.1).getD (Int.toNat x.1.2.2.1) (K.zero k4)), (((x.1.2.1).getD (Int.toNat x.1.2.2.1) (K.zero k4)), ()))).bind fun y2 =>
    bif (!y2.2.1) then
      (some (.inr (.inr ((false, ()), (), ()))))
    else
    some (.inl ((x.1.1, (x.1.2.1, ((IntKind.wrap .i64 (x.1.2.2.1 + (1 : Int))), ()))), (), ()))
    else none
    else none)
  else
  some (.inr (.inl ((), (), ())))
noncomputable def l17_l4 : sp17_l4.T → Option (XT xs17_l4) := lim s17_l4
theorem es17_l4 : ∀ x, evCode ty (gamOf g17) j17 (lamOf []) (loopAt b17 4) (sp17_l4.hd x) (rdK sp17_l4 xs17_l4) = s17_l4 x := fun x => by kernel_rfl
theorem ls17_l4 : LSumOk P (loopAt b17 4) (loopL sp17_l4 xs17_l4 l17_l4) := loop_ok tyOk mixed gok17 (by kernel_rfl) (by kernel_rfl) (lam_ok (tab := []) (by kernel_rfl) (fun p hp => by cases hp)) es17_l4 lim_itr
noncomputable def F17 : Args as17 → Option (Outs as17 × Ress rs17) := fun x =>
  bif (((x.1).length : Int) != ((x.2.1).length : Int)) then
    (some ((), (false, ())))
  else
  (l17_l4 ((x.1, (x.2.1, ((0 : Int), ()))), (), ())).bind fun y3 =>
  (match y3 with
  | .inl y4 => some ((), (true, ()))
  | .inr z5 => some ((), (z5.1.1, ())))
theorem e17 : ∀ x, evCode ty (gamOf g17) j17 (lamOf [(4, loopL sp17_l4 xs17_l4 l17_l4)]) b17 (st0 27 as17 x) (fin ty as17 rs17 [.tmp 4]) = F17 x := fun x => by kernel_rfl
theorem c17 : FnC P 17 as17 rs17 F17 :=
  fnC_of_ev tyOk mixed gok17 (fn := Try.f17) (by kernel_rfl) (c := b17) (by kernel_rfl) (by kernel_rfl) ⟨by decide, by decide, by decide⟩ (by kernel_rfl) (lam_ok (tab := [(4, loopL sp17_l4 xs17_l4 l17_l4)]) (by kernel_rfl) (by
    intro p hp
    simp only [List.mem_cons, List.not_mem_nil, or_false] at hp
    rcases hp with rfl
    · exact @ls17_l4)) e17

/-! laws.FnExactHurtsOf -/
abbrev as5 : List AS := [.val false (.sl k4)]
abbrev rs5 : List RS := [.val false .bool]
noncomputable def g5 : List (FuncId × SumX) := [(13, cX as13 rs13 F13), (15, cX as15 rs15 F15), (17, cX as17 rs17 F17), (23, cX as23 rs23 F23), (24, cX as24 rs24 F24), (25, cX as25 rs25 F25)]
def j5 : Nat → Option (List (Nat × SS)) := jOf []
theorem gok5 : GOk P (gamOf g5) := gam_ok (tab := g5) (by
    intro p hp
    simp only [g5, List.mem_cons, List.not_mem_nil, or_false] at hp
    rcases hp with rfl | rfl | rfl | rfl | rfl | rfl
    · exact cX_ok c13 rfl
    · exact cX_ok c15 rfl
    · exact cX_ok c17 rfl
    · exact cX_ok c23 rfl
    · exact cX_ok c24 rfl
    · exact cX_ok c25 rfl)
noncomputable abbrev b5 : Code := bodyOf Try.f5
noncomputable def F5 : Args as5 → Option (Outs as5 × Ress rs5) := fun x =>
  (F13 (x.1, ((1048576 : Int), ()))).bind fun y1 =>
  bif (decide (y1.2.1 < (0 : Int))) then
    (some ((), (true, ())))
  else
  (F15 (x.1, ())).bind fun y2 =>
  (F23 (y2.2.1, ())).bind fun y3 =>
  (F15 (x.1, ())).bind fun y4 =>
  (F24 (y4.2.1, ())).bind fun y5 =>
  (F25 (y5.2.1, (y3.2.1, ()))).bind fun y6 =>
  bif (!y6.2.1) then
    (some ((), (false, ())))
  else
  (F15 (x.1, ())).bind fun y7 =>
  (F17 (y4.2.1, (y7.2.1, ()))).bind fun y8 =>
  bif (!y8.2.1) then
    (some ((), (false, ())))
  else
  some ((), (true, ()))
theorem e5 : ∀ x, evCode ty (gamOf g5) j5 (lamOf []) b5 (st0 28 as5 x) (fin ty as5 rs5 [.tmp 2]) = F5 x := fun x => by kernel_rfl
theorem c5 : FnC P 5 as5 rs5 F5 :=
  fnC_of_ev tyOk mixed gok5 (fn := Try.f5) (by kernel_rfl) (c := b5) (by kernel_rfl) (by kernel_rfl) ⟨by decide, by decide, by decide⟩ (by kernel_rfl) (lam_ok (tab := []) (by kernel_rfl) (fun p hp => by cases hp)) e5
end Go.Ev
