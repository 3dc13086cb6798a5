/- What is proved here: the contract of each function that FnExactChanFault reaches; no condition. -/
import Derived.Test.YtiipbidabcjnjaaProg
import Derived.Test.YtiipbidabcjnjaaLd
import Derived.KernelRfl
set_option linter.unusedVariables false
namespace Go.Ev
open Go.Proofs
def bodyOf (f : Func) : Code := f.body.getD .skip
noncomputable abbrev P : Program := Try.prog
abbrev k0 : K := (.pr (.int .i64) (.int .i64))
abbrev k1 : K := (.pr (.sl (.int .i64)) k0)
abbrev k2 : K := (.pr (.sl (.int .i64)) k1)
abbrev k3 : K := (.pr (.sl (.int .i64)) k2)
abbrev k4 : K := (.pr (.int .i64) k3)
def tab : List (Nat × TI) := [
  (2, (⟨.other, false, 1, 8, [.int .i64 0], some (.int .i64)⟩ : TI)),
  (29, (⟨.slice 2, false, 1, 24, [.nil], some (.sl (.int .i64))⟩ : TI)),
  (31, (⟨.struct [(0, 1, false), (1, 1, false), (2, 1, false), (3, 1, false), (4, 1, false), (5, 1, false)], true, 6, 96, [.int .i64 0, .nil, .nil, .nil, .int .i64 0, .int .i64 0], some k4⟩ : TI)),
  (34, (⟨.struct [(0, 1, false), (1, 1, false), (2, 1, false), (3, 1, false), (4, 1, false), (5, 1, false)], true, 6, 96, [.int .i64 0, .nil, .nil, .nil, .int .i64 0, .int .i64 0], some k4⟩ : TI)),
  (90, (⟨.slice 29, false, 1, 24, [.nil], some (.sl (.sl (.int .i64)))⟩ : TI))]
def ty : Ty := fun t => (Tr.ofList tab).get t
theorem tyOk : TyOk P ty := tyOk_of_tab (by kernel_rfl)
theorem mixed : P.follows .mixedOrders = true := by kernel_rfl
/-! laws.szInt64S -/
abbrev as64 : List AS := [.val false (.sl (.int .i64)), .val false (.int .i64)]
abbrev rs64 : List RS := [.val false (.int .i64)]
noncomputable def g64 : List (FuncId × SumX) := []
def j64 : Nat → Option (List (Nat × SS)) := jOf []
theorem gok64 : GOk P (gamOf g64) := gam_ok (tab := g64) (fun p hp => by cases hp)
noncomputable abbrev b64 : Code := bodyOf Try.f64
noncomputable def F64 : Args as64 → Option (Outs as64 × Ress rs64) := fun x =>
  bif (decide ((IntKind.wrap .i64 (x.2.1 - ((x.1).length : Int))) < (0 : Int))) then
    (some ((), ((-1 : Int), ())))
  else
  some ((), ((IntKind.wrap .i64 (x.2.1 - ((x.1).length : Int))), ()))
theorem e64 : ∀ x, evCode ty (gamOf g64) j64 (lamOf []) b64 (st0 12 as64 x) (fin ty as64 rs64 [.tmp 4]) = F64 x := fun x => by kernel_rfl
theorem c64 : FnC P 64 as64 rs64 F64 :=
  fnC_of_ev tyOk mixed gok64 (fn := Try.f64) (by kernel_rfl) (c := b64) (by kernel_rfl) (by kernel_rfl) ⟨by decide, by decide, by decide⟩ (by kernel_rfl) (lam_ok (tab := []) (by kernel_rfl) (fun p hp => by cases hp)) e64

/-! laws.szChan -/
abbrev as18 : List AS := [.val true k4, .val false (.int .i64)]
abbrev rs18 : List RS := [.val false (.int .i64)]
noncomputable def g18 : List (FuncId × SumX) := [(64, cX as64 rs64 F64)]
def j18 : Nat → Option (List (Nat × SS)) := jOf []
theorem gok18 : GOk P (gamOf g18) := gam_ok (tab := g18) (by
    intro p hp
    simp only [g18, List.mem_cons, List.not_mem_nil, or_false] at hp
    rcases hp with rfl
    · exact cX_ok c64 rfl)
noncomputable abbrev b18 : Code := bodyOf Try.f18
noncomputable def F18 : Args as18 → Option (Outs as18 × Ress rs18) := fun x =>
  (F64 (x.1.2.1, (x.2.1, ()))).bind fun y1 =>
  bif (decide (y1.2.1 < (0 : Int))) then
    (some ((), ((-1 : Int), ())))
  else
  (F64 (x.1.2.2.1, (y1.2.1, ()))).bind fun y2 =>
  bif (decide (y2.2.1 < (0 : Int))) then
    (some ((), ((-1 : Int), ())))
  else
  (F64 (x.1.2.2.2.1, (y2.2.1, ()))).bind fun y3 =>
  bif (decide (y3.2.1 < (0 : Int))) then
    (some ((), ((-1 : Int), ())))
  else
  some ((), (y3.2.1, ()))
theorem e18 : ∀ x, evCode ty (gamOf g18) j18 (lamOf []) b18 (st0 24 as18 x) (fin ty as18 rs18 [.tmp 4]) = F18 x := fun x => by kernel_rfl
theorem c18 : FnC P 18 as18 rs18 F18 :=
  fnC_of_ev tyOk mixed gok18 (fn := Try.f18) (by kernel_rfl) (c := b18) (by kernel_rfl) (by kernel_rfl) ⟨by decide, by decide, by decide⟩ (by kernel_rfl) (lam_ok (tab := []) (by kernel_rfl) (fun p hp => by cases hp)) e18

/-! laws.toInt64S -/
abbrev as50 : List AS := [.val false (.sl (.int .i64))]
abbrev rs50 : List RS := [.val false (.sl (.int .i64))]
noncomputable def g50 : List (FuncId × SumX) := []
def j50 : Nat → Option (List (Nat × SS)) := jOf []
theorem gok50 : GOk P (gamOf g50) := gam_ok (tab := g50) (fun p hp => by cases hp)
noncomputable abbrev b50 : Code := bodyOf Try.f50
abbrev sp50_l3 : Sp := ⟨22, [], [(0, .val false (.sl (.int .i64))), (3, .fix (.lf (.own 28))), (4, .val false (.int .i64))], [], [(28, (.int .i64), true)]⟩
abbrev xs50_l3 : List (Ex × Sp) := [(.exit 0, ⟨22, [], [(3, .fix (.lf (.own 28)))], [], [(28, (.int .i64), true)]⟩)]
noncomputable def s50_l3 : sp50_l3.T → Option (sp50_l3.T ⊕ XT xs50_l3) := fun x =>
  bif (decide (x.1.2.2.1 < ((x.1.1).length : Int))) then
    (bif ib x.1.2.2.1 (x.1.1).length then
    bif ib x.1.2.2.1 (x.2.2.1).length then
    some (.inl ((x.1.1, ((), ((IntKind.wrap .i64 (x.1.2.2.1 + (1 : Int))), ()))), (), ((x.2.2.1).set (Int.toNat x.1.2.2.1) ((x.1.1).getD (Int.toNat x.1.2.2.1) (K.zero (.int .i64))), ())))
    else none
    else none)
  else
  some (.inr (((), ()), (), (x.2.2.1, ())))
noncomputable def l50_l3 : sp50_l3.T → Option (XT xs50_l3) := lim s50_l3
theorem es50_l3 : ∀ x, evCode ty (gamOf g50) j50 (lamOf []) (loopAt b50 3) (sp50_l3.hd x) (rdK sp50_l3 xs50_l3) = s50_l3 x := fun x => by kernel_rfl
theorem ls50_l3 : LSumOk P (loopAt b50 3) (loopL sp50_l3 xs50_l3 l50_l3) := loop_ok tyOk mixed gok50 (by kernel_rfl) (by kernel_rfl) (lam_ok (tab := []) (by kernel_rfl) (fun p hp => by cases hp)) es50_l3 lim_itr
noncomputable def F50 : Args as50 → Option (Outs as50 × Ress rs50) := fun x =>
  bif decide (0 ≤ ((x.1).length : Int) ∧ ((x.1).length : Int) ≤ ((x.1).length : Int)) then
  bif room (Int.toNat ((x.1).length : Int)) 8 then
  (l50_l3 ((x.1, ((), ((0 : Int), ()))), (), ((List.replicate (Int.toNat ((x.1).length : Int)) (K.zero (.int .i64))), ()))).bind fun y1 =>
  some ((), (y1.2.2.1, ()))
  else none
  else none
theorem e50 : ∀ x, evCode ty (gamOf g50) j50 (lamOf [(3, loopL sp50_l3 xs50_l3 l50_l3)]) b50 (st0 22 as50 x) (fin ty as50 rs50 [.tmp 2]) = F50 x := fun x => by kernel_rfl
theorem c50 : FnC P 50 as50 rs50 F50 :=
  fnC_of_ev tyOk mixed gok50 (fn := Try.f50) (by kernel_rfl) (c := b50) (by kernel_rfl) (by kernel_rfl) ⟨by decide, by decide, by decide⟩ (by kernel_rfl) (lam_ok (tab := [(3, loopL sp50_l3 xs50_l3 l50_l3)]) (by kernel_rfl) (by
    intro p hp
    simp only [List.mem_cons, List.not_mem_nil, or_false] at hp
    rcases hp with rfl
    · exact @ls50_l3)) e50

/-! laws.toChan -/
abbrev as20 : List AS := [.val true k4]
abbrev rs20 : List RS := [.val true k4]
noncomputable def g20 : List (FuncId × SumX) := [(50, cX as50 rs50 F50)]
def j20 : Nat → Option (List (Nat × SS)) := jOf []
theorem gok20 : GOk P (gamOf g20) := gam_ok (tab := g20) (by
    intro p hp
    simp only [g20, List.mem_cons, List.not_mem_nil, or_false] at hp
    rcases hp with rfl
    · exact cX_ok c50 rfl)
noncomputable abbrev b20 : Code := bodyOf Try.f20
noncomputable def F20 : Args as20 → Option (Outs as20 × Ress rs20) := fun x =>
  (F50 (x.1.2.1, ())).bind fun y1 =>
  (F50 (x.1.2.2.1, ())).bind fun y2 =>
  (F50 (x.1.2.2.2.1, ())).bind fun y3 =>
  some ((), ((x.1.1, (y1.2.1, (y2.2.1, (y3.2.1, x.1.2.2.2.2)))), ()))
theorem e20 : ∀ x, evCode ty (gamOf g20) j20 (lamOf []) b20 (st0 26 as20 x) (fin ty as20 rs20 [.cell 2 34]) = F20 x := fun x => by kernel_rfl
theorem c20 : FnC P 20 as20 rs20 F20 :=
  fnC_of_ev tyOk mixed gok20 (fn := Try.f20) (by kernel_rfl) (c := b20) (by kernel_rfl) (by kernel_rfl) ⟨by decide, by decide, by decide⟩ (by kernel_rfl) (lam_ok (tab := []) (by kernel_rfl) (fun p hp => by cases hp)) e20

/-! spec.l13Kind -/
abbrev as69 : List AS := [.val false (.int .i64)]
abbrev rs69 : List RS := [.val false .bool]
noncomputable def g69 : List (FuncId × SumX) := []
def j69 : Nat → Option (List (Nat × SS)) := jOf [(1, [(2, .val false .bool)])]
theorem gok69 : GOk P (gamOf g69) := gam_ok (tab := g69) (fun p hp => by cases hp)
noncomputable abbrev b69 : Code := bodyOf Try.f69
noncomputable def F69 : Args as69 → Option (Outs as69 × Ress rs69) := fun x =>
  (bif (x.1 == (1 : Int)) then
      (some (true, ()))
    else
    some ((x.1 == (2 : Int)), ())).bind fun y1 =>
  some ((), (y1.1, ()))
theorem e69 : ∀ x, evCode ty (gamOf g69) j69 (lamOf []) b69 (st0 9 as69 x) (fin ty as69 rs69 [.tmp 2]) = F69 x := fun x => by kernel_rfl
theorem c69 : FnC P 69 as69 rs69 F69 :=
  fnC_of_ev tyOk mixed gok69 (fn := Try.f69) (by kernel_rfl) (c := b69) (by kernel_rfl) (by kernel_rfl) ⟨by decide, by decide, by decide⟩ (by kernel_rfl) (lam_ok (tab := []) (by kernel_rfl) (fun p hp => by cases hp)) e69

/-! spec.l1In -/
abbrev as58 : List AS := [.val false (.int .i64), .val false (.int .i64), .val false (.int .i64)]
abbrev rs58 : List RS := [.val false .bool]
noncomputable def g58 : List (FuncId × SumX) := []
def j58 : Nat → Option (List (Nat × SS)) := jOf [(1, [(6, .val false .bool)])]
theorem gok58 : GOk P (gamOf g58) := gam_ok (tab := g58) (fun p hp => by cases hp)
noncomputable abbrev b58 : Code := bodyOf Try.f58
noncomputable def F58 : Args as58 → Option (Outs as58 × Ress rs58) := fun x =>
  (bif (decide (x.1 ≥ x.2.1)) then
      (some ((decide (x.1 ≤ x.2.2.1)), ()))
    else
    some (false, ())).bind fun y1 =>
  some ((), (y1.1, ()))
theorem e58 : ∀ x, evCode ty (gamOf g58) j58 (lamOf []) b58 (st0 15 as58 x) (fin ty as58 rs58 [.tmp 6]) = F58 x := fun x => by kernel_rfl
theorem c58 : FnC P 58 as58 rs58 F58 :=
  fnC_of_ev tyOk mixed gok58 (fn := Try.f58) (by kernel_rfl) (c := b58) (by kernel_rfl) (by kernel_rfl) ⟨by decide, by decide, by decide⟩ (by kernel_rfl) (lam_ok (tab := []) (by kernel_rfl) (fun p hp => by cases hp)) e58

/-! spec.l1Word -/
abbrev as107 : List AS := [.val false (.int .i64)]
abbrev rs107 : List RS := [.val false .bool]
noncomputable def g107 : List (FuncId × SumX) := [(58, cX as58 rs58 F58)]
def j107 : Nat → Option (List (Nat × SS)) := jOf []
theorem gok107 : GOk P (gamOf g107) := gam_ok (tab := g107) (by
    intro p hp
    simp only [g107, List.mem_cons, List.not_mem_nil, or_false] at hp
    rcases hp with rfl
    · exact cX_ok c58 rfl)
noncomputable abbrev b107 : Code := bodyOf Try.f107
noncomputable def F107 : Args as107 → Option (Outs as107 × Ress rs107) := fun x =>
  (F58 (x.1, ((0 : Int), ((65535 : Int), ())))).bind fun y1 =>
  some ((), (y1.2.1, ()))
theorem e107 : ∀ x, evCode ty (gamOf g107) j107 (lamOf []) b107 (st0 5 as107 x) (fin ty as107 rs107 [.tmp 2]) = F107 x := fun x => by kernel_rfl
theorem c107 : FnC P 107 as107 rs107 F107 :=
  fnC_of_ev tyOk mixed gok107 (fn := Try.f107) (by kernel_rfl) (c := b107) (by kernel_rfl) (by kernel_rfl) ⟨by decide, by decide, by decide⟩ (by kernel_rfl) (lam_ok (tab := []) (by kernel_rfl) (fun p hp => by cases hp)) e107

/-! spec.WordsFault -/
abbrev as106 : List AS := [.val false (.sl (.int .i64))]
abbrev rs106 : List RS := [.val false (.int .i64)]
noncomputable def g106 : List (FuncId × SumX) := [(107, cX as107 rs107 F107)]
def j106 : Nat → Option (List (Nat × SS)) := jOf []
theorem gok106 : GOk P (gamOf g106) := gam_ok (tab := g106) (by
    intro p hp
    simp only [g106, List.mem_cons, List.not_mem_nil, or_false] at hp
    rcases hp with rfl
    · exact cX_ok c107 rfl)
noncomputable abbrev b106 : Code := bodyOf Try.f106
abbrev sp106_l4 : Sp := ⟨19, [], [(0, .val false (.sl (.int .i64))), (3, .val false (.int .i64))], [], []⟩
abbrev xs106_l4 : List (Ex × Sp) := [(.exit 0, ⟨19, [], [], [], []⟩), (.ret, ⟨19, [], [(2, .val false (.int .i64))], [], []⟩)]
noncomputable def s106_l4 : sp106_l4.T → Option (sp106_l4.T ⊕ XT xs106_l4) := fun x =>
  bif (decide (x.1.2.1 < ((x.1.1).length : Int))) then
    (bif ib x.1.2.1 (x.1.1).length then
    (F107 (((x.1.1).getD (Int.toNat x.1.2.1) (K.zero (.int .i64))), ())).bind fun y2 =>
    bif (!y2.2.1) then
      (some (.inr (.inr (((3 : Int), ()), (), ()))))
    else
    some (.inl ((x.1.1, ((IntKind.wrap .i64 (x.1.2.1 + (1 : Int))), ())), (), ()))
    else none)
  else
  some (.inr (.inl ((), (), ())))
noncomputable def l106_l4 : sp106_l4.T → Option (XT xs106_l4) := lim s106_l4
theorem es106_l4 : ∀ x, evCode ty (gamOf g106) j106 (lamOf []) (loopAt b106 4) (sp106_l4.hd x) (rdK sp106_l4 xs106_l4) = s106_l4 x := fun x => by kernel_rfl
theorem ls106_l4 : LSumOk P (loopAt b106 4) (loopL sp106_l4 xs106_l4 l106_l4) := loop_ok tyOk mixed gok106 (by kernel_rfl) (by kernel_rfl) (lam_ok (tab := []) (by kernel_rfl) (fun p hp => by cases hp)) es106_l4 lim_itr
noncomputable def F106 : Args as106 → Option (Outs as106 × Ress rs106) := fun x =>
  bif (decide (((x.1).length : Int) > (400 : Int))) then
    (some ((), ((2 : Int), ())))
  else
  (l106_l4 ((x.1, ((0 : Int), ())), (), ())).bind fun y3 =>
  (match y3 with
  | .inl y4 => some ((), ((0 : Int), ()))
  | .inr z5 => some ((), (z5.1.1, ())))
theorem e106 : ∀ x, evCode ty (gamOf g106) j106 (lamOf [(4, loopL sp106_l4 xs106_l4 l106_l4)]) b106 (st0 19 as106 x) (fin ty as106 rs106 [.tmp 2]) = F106 x := fun x => by kernel_rfl
theorem c106 : FnC P 106 as106 rs106 F106 :=
  fnC_of_ev tyOk mixed gok106 (fn := Try.f106) (by kernel_rfl) (c := b106) (by kernel_rfl) (by kernel_rfl) ⟨by decide, by decide, by decide⟩ (by kernel_rfl) (lam_ok (tab := [(4, loopL sp106_l4 xs106_l4 l106_l4)]) (by kernel_rfl) (by
    intro p hp
    simp only [List.mem_cons, List.not_mem_nil, or_false] at hp
    rcases hp with rfl
    · exact @ls106_l4)) e106

/-! spec.l6All -/
abbrev as95 : List AS := [.val false (.sl (.int .i64))]
abbrev rs95 : List RS := [.val false .bool]
noncomputable def g95 : List (FuncId × SumX) := [(107, cX as107 rs107 F107)]
def j95 : Nat → Option (List (Nat × SS)) := jOf []
theorem gok95 : GOk P (gamOf g95) := gam_ok (tab := g95) (by
    intro p hp
    simp only [g95, List.mem_cons, List.not_mem_nil, or_false] at hp
    rcases hp with rfl
    · exact cX_ok c107 rfl)
noncomputable abbrev b95 : Code := bodyOf Try.f95
abbrev sp95_l2 : Sp := ⟨16, [], [(0, .val false (.sl (.int .i64))), (3, .val false (.int .i64))], [], []⟩
abbrev xs95_l2 : List (Ex × Sp) := [(.exit 0, ⟨16, [], [], [], []⟩), (.ret, ⟨16, [], [(2, .val false .bool)], [], []⟩)]
noncomputable def s95_l2 : sp95_l2.T → Option (sp95_l2.T ⊕ XT xs95_l2) := fun x =>
  bif (decide (x.1.2.1 < ((x.1.1).length : Int))) then
    (bif ib x.1.2.1 (x.1.1).length then
    (F107 (((x.1.1).getD (Int.toNat x.1.2.1) (K.zero (.int .i64))), ())).bind fun y2 =>
    bif (!y2.2.1) then
      (some (.inr (.inr ((false, ()), (), ()))))
    else
    some (.inl ((x.1.1, ((IntKind.wrap .i64 (x.1.2.1 + (1 : Int))), ())), (), ()))
    else none)
  else
  some (.inr (.inl ((), (), ())))
noncomputable def l95_l2 : sp95_l2.T → Option (XT xs95_l2) := lim s95_l2
theorem es95_l2 : ∀ x, evCode ty (gamOf g95) j95 (lamOf []) (loopAt b95 2) (sp95_l2.hd x) (rdK sp95_l2 xs95_l2) = s95_l2 x := fun x => by kernel_rfl
theorem ls95_l2 : LSumOk P (loopAt b95 2) (loopL sp95_l2 xs95_l2 l95_l2) := loop_ok tyOk mixed gok95 (by kernel_rfl) (by kernel_rfl) (lam_ok (tab := []) (by kernel_rfl) (fun p hp => by cases hp)) es95_l2 lim_itr
noncomputable def F95 : Args as95 → Option (Outs as95 × Ress rs95) := fun x =>
  (l95_l2 ((x.1, ((0 : Int), ())), (), ())).bind fun y3 =>
  (match y3 with
  | .inl y4 => some ((), (true, ()))
  | .inr z5 => some ((), (z5.1.1, ())))
theorem e95 : ∀ x, evCode ty (gamOf g95) j95 (lamOf [(2, loopL sp95_l2 xs95_l2 l95_l2)]) b95 (st0 16 as95 x) (fin ty as95 rs95 [.tmp 2]) = F95 x := fun x => by kernel_rfl
theorem c95 : FnC P 95 as95 rs95 F95 :=
  fnC_of_ev tyOk mixed gok95 (fn := Try.f95) (by kernel_rfl) (c := b95) (by kernel_rfl) (by kernel_rfl) ⟨by decide, by decide, by decide⟩ (by kernel_rfl) (lam_ok (tab := [(2, loopL sp95_l2 xs95_l2 l95_l2)]) (by kernel_rfl) (by
    intro p hp
    simp only [List.mem_cons, List.not_mem_nil, or_false] at hp
    rcases hp with rfl
    · exact @ls95_l2)) e95

/-! spec.l13Fault -/
abbrev as65 : List AS := [.rp k4]
abbrev rs65 : List RS := [.val false (.int .i64)]
noncomputable def g65 : List (FuncId × SumX) := [(69, cX as69 rs69 F69), (95, cX as95 rs95 F95), (106, cX as106 rs106 F106), (107, cX as107 rs107 F107)]
def j65 : Nat → Option (List (Nat × SS)) := jOf [(9, [(48, .val false .bool)])]
theorem gok65 : GOk P (gamOf g65) := gam_ok (tab := g65) (by
    intro p hp
    simp only [g65, List.mem_cons, List.not_mem_nil, or_false] at hp
    rcases hp with rfl | rfl | rfl | rfl
    · exact cX_ok c69 rfl
    · exact cX_ok c95 rfl
    · exact cX_ok c106 rfl
    · exact cX_ok c107 rfl)
noncomputable abbrev b65 : Code := bodyOf Try.f65
noncomputable def F65 : Args as65 → Option (Outs as65 × Ress rs65) := fun x =>
  (F69 (x.1.1, ())).bind fun y1 =>
  bif (!y1.2.1) then
    (some ((), ((1 : Int), ())))
  else
  (F106 (x.1.2.1, ())).bind fun y2 =>
  bif (y2.2.1 != (0 : Int)) then
    (some ((), (y2.2.1, ())))
  else
  (F106 (x.1.2.2.1, ())).bind fun y3 =>
  bif (y3.2.1 != (0 : Int)) then
    (some ((), (y3.2.1, ())))
  else
  ((F95 (x.1.2.2.2.1, ())).bind fun y4 =>
    bif (!y4.2.1) then
      (some (true, ()))
    else
    (F107 (x.1.2.2.2.2.1, ())).bind fun y5 =>
    bif (!y5.2.1) then
      (some (true, ()))
    else
    (F107 (x.1.2.2.2.2.2, ())).bind fun y6 =>
    some ((!y6.2.1), ())).bind fun y7 =>
  bif y7.1 then
    (some ((), ((3 : Int), ())))
  else
  bif (decide (((x.1.2.2.2.1).length : Int) > (80 : Int))) then
    (some ((), ((2 : Int), ())))
  else
  some ((), ((0 : Int), ()))
theorem e65 : ∀ x, evCode ty (gamOf g65) j65 (lamOf []) b65 (st0 55 as65 x) (fin ty as65 rs65 [.tmp 2]) = F65 x := fun x => by kernel_rfl
theorem c65 : FnC P 65 as65 rs65 F65 :=
  fnC_of_ev tyOk mixed gok65 (fn := Try.f65) (by kernel_rfl) (c := b65) (by kernel_rfl) (by kernel_rfl) ⟨by decide, by decide, by decide⟩ (by kernel_rfl) (lam_ok (tab := []) (by kernel_rfl) (fun p hp => by cases hp)) e65

/-! spec.ChanFault -/
abbrev as19 : List AS := [.val true k4]
abbrev rs19 : List RS := [.val false (.int .i64)]
noncomputable def g19 : List (FuncId × SumX) := [(65, cX as65 rs65 F65)]
def j19 : Nat → Option (List (Nat × SS)) := jOf []
theorem gok19 : GOk P (gamOf g19) := gam_ok (tab := g19) (by
    intro p hp
    simp only [g19, List.mem_cons, List.not_mem_nil, or_false] at hp
    rcases hp with rfl
    · exact cX_ok c65 rfl)
noncomputable abbrev b19 : Code := bodyOf Try.f19
noncomputable def F19 : Args as19 → Option (Outs as19 × Ress rs19) := fun x =>
  (F65 (x.1, ())).bind fun y1 =>
  some ((), (y1.2.1, ()))
theorem e19 : ∀ x, evCode ty (gamOf g19) j19 (lamOf []) b19 (st0 4 as19 x) (fin ty as19 rs19 [.tmp 2]) = F19 x := fun x => by kernel_rfl
theorem c19 : FnC P 19 as19 rs19 F19 :=
  fnC_of_ev tyOk mixed gok19 (fn := Try.f19) (by kernel_rfl) (c := b19) (by kernel_rfl) (by kernel_rfl) ⟨by decide, by decide, by decide⟩ (by kernel_rfl) (lam_ok (tab := []) (by kernel_rfl) (fun p hp => by cases hp)) e19

/-! impl.within -/
abbrev as62 : List AS := [.val false (.int .i64), .val false (.int .i64), .val false (.int .i64)]
abbrev rs62 : List RS := [.val false .bool]
noncomputable def g62 : List (FuncId × SumX) := []
def j62 : Nat → Option (List (Nat × SS)) := jOf [(1, [(6, .val false .bool)])]
theorem gok62 : GOk P (gamOf g62) := gam_ok (tab := g62) (fun p hp => by cases hp)
noncomputable abbrev b62 : Code := bodyOf Try.f62
noncomputable def F62 : Args as62 → Option (Outs as62 × Ress rs62) := fun x =>
  (bif (decide (x.2.1 ≤ x.1)) then
      (some ((decide (x.1 ≤ x.2.2.1)), ()))
    else
    some (false, ())).bind fun y1 =>
  some ((), (y1.1, ()))
theorem e62 : ∀ x, evCode ty (gamOf g62) j62 (lamOf []) b62 (st0 15 as62 x) (fin ty as62 rs62 [.tmp 6]) = F62 x := fun x => by kernel_rfl
theorem c62 : FnC P 62 as62 rs62 F62 :=
  fnC_of_ev tyOk mixed gok62 (fn := Try.f62) (by kernel_rfl) (c := b62) (by kernel_rfl) (by kernel_rfl) ⟨by decide, by decide, by decide⟩ (by kernel_rfl) (lam_ok (tab := []) (by kernel_rfl) (fun p hp => by cases hp)) e62

/-! impl.isWord -/
abbrev as68 : List AS := [.val false (.int .i64)]
abbrev rs68 : List RS := [.val false .bool]
noncomputable def g68 : List (FuncId × SumX) := [(62, cX as62 rs62 F62)]
def j68 : Nat → Option (List (Nat × SS)) := jOf []
theorem gok68 : GOk P (gamOf g68) := gam_ok (tab := g68) (by
    intro p hp
    simp only [g68, List.mem_cons, List.not_mem_nil, or_false] at hp
    rcases hp with rfl
    · exact cX_ok c62 rfl)
noncomputable abbrev b68 : Code := bodyOf Try.f68
noncomputable def F68 : Args as68 → Option (Outs as68 × Ress rs68) := fun x =>
  (F62 (x.1, ((0 : Int), ((65535 : Int), ())))).bind fun y1 =>
  some ((), (y1.2.1, ()))
theorem e68 : ∀ x, evCode ty (gamOf g68) j68 (lamOf []) b68 (st0 5 as68 x) (fin ty as68 rs68 [.tmp 2]) = F68 x := fun x => by kernel_rfl
theorem c68 : FnC P 68 as68 rs68 F68 :=
  fnC_of_ev tyOk mixed gok68 (fn := Try.f68) (by kernel_rfl) (c := b68) (by kernel_rfl) (by kernel_rfl) ⟨by decide, by decide, by decide⟩ (by kernel_rfl) (lam_ok (tab := []) (by kernel_rfl) (fun p hp => by cases hp)) e68

/-! impl.areWords -/
abbrev as67 : List AS := [.val false (.sl (.int .i64))]
abbrev rs67 : List RS := [.val false .bool]
noncomputable def g67 : List (FuncId × SumX) := [(68, cX as68 rs68 F68)]
def j67 : Nat → Option (List (Nat × SS)) := jOf []
theorem gok67 : GOk P (gamOf g67) := gam_ok (tab := g67) (by
    intro p hp
    simp only [g67, List.mem_cons, List.not_mem_nil, or_false] at hp
    rcases hp with rfl
    · exact cX_ok c68 rfl)
noncomputable abbrev b67 : Code := bodyOf Try.f67
abbrev sp67_l2 : Sp := ⟨15, [], [(5, .val false (.sl (.int .i64))), (6, .val false (.int .i64)), (7, .val false (.int .i64))], [], []⟩
abbrev xs67_l2 : List (Ex × Sp) := [(.exit 0, ⟨15, [], [], [], []⟩), (.ret, ⟨15, [], [(2, .val false .bool)], [], []⟩)]
noncomputable def s67_l2 : sp67_l2.T → Option (sp67_l2.T ⊕ XT xs67_l2) := fun x =>
  bif (decide (x.1.2.2.1 < x.1.2.1)) then
    (bif ib x.1.2.2.1 (x.1.1).length then
    (F68 (((x.1.1).getD (Int.toNat x.1.2.2.1) (K.zero (.int .i64))), ())).bind fun y2 =>
    bif (!y2.2.1) then
      (some (.inr (.inr ((false, ()), (), ()))))
    else
    some (.inl ((x.1.1, (x.1.2.1, ((IntKind.wrap .i64 (x.1.2.2.1 + (1 : Int))), ()))), (), ()))
    else none)
  else
  some (.inr (.inl ((), (), ())))
noncomputable def l67_l2 : sp67_l2.T → Option (XT xs67_l2) := lim s67_l2
theorem es67_l2 : ∀ x, evCode ty (gamOf g67) j67 (lamOf []) (loopAt b67 2) (sp67_l2.hd x) (rdK sp67_l2 xs67_l2) = s67_l2 x := fun x => by kernel_rfl
theorem ls67_l2 : LSumOk P (loopAt b67 2) (loopL sp67_l2 xs67_l2 l67_l2) := loop_ok tyOk mixed gok67 (by kernel_rfl) (by kernel_rfl) (lam_ok (tab := []) (by kernel_rfl) (fun p hp => by cases hp)) es67_l2 lim_itr
noncomputable def F67 : Args as67 → Option (Outs as67 × Ress rs67) := fun x =>
  (l67_l2 ((x.1, (((x.1).length : Int), ((0 : Int), ()))), (), ())).bind fun y3 =>
  (match y3 with
  | .inl y4 => some ((), (true, ()))
  | .inr z5 => some ((), (z5.1.1, ())))
theorem e67 : ∀ x, evCode ty (gamOf g67) j67 (lamOf [(2, loopL sp67_l2 xs67_l2 l67_l2)]) b67 (st0 15 as67 x) (fin ty as67 rs67 [.tmp 2]) = F67 x := fun x => by kernel_rfl
theorem c67 : FnC P 67 as67 rs67 F67 :=
  fnC_of_ev tyOk mixed gok67 (fn := Try.f67) (by kernel_rfl) (c := b67) (by kernel_rfl) (by kernel_rfl) ⟨by decide, by decide, by decide⟩ (by kernel_rfl) (lam_ok (tab := [(2, loopL sp67_l2 xs67_l2 l67_l2)]) (by kernel_rfl) (by
    intro p hp
    simp only [List.mem_cons, List.not_mem_nil, or_false] at hp
    rcases hp with rfl
    · exact @ls67_l2)) e67

/-! impl.WordsFault -/
abbrev as66 : List AS := [.val false (.sl (.int .i64))]
abbrev rs66 : List RS := [.val false (.int .i64)]
noncomputable def g66 : List (FuncId × SumX) := [(67, cX as67 rs67 F67)]
def j66 : Nat → Option (List (Nat × SS)) := jOf []
theorem gok66 : GOk P (gamOf g66) := gam_ok (tab := g66) (by
    intro p hp
    simp only [g66, List.mem_cons, List.not_mem_nil, or_false] at hp
    rcases hp with rfl
    · exact cX_ok c67 rfl)
noncomputable abbrev b66 : Code := bodyOf Try.f66
noncomputable def F66 : Args as66 → Option (Outs as66 × Ress rs66) := fun x =>
  bif (decide (((x.1).length : Int) > (400 : Int))) then
    (some ((), ((2 : Int), ())))
  else
  (F67 (x.1, ())).bind fun y1 =>
  bif (!y1.2.1) then
    (some ((), ((3 : Int), ())))
  else
  some ((), ((0 : Int), ()))
theorem e66 : ∀ x, evCode ty (gamOf g66) j66 (lamOf []) b66 (st0 11 as66 x) (fin ty as66 rs66 [.tmp 2]) = F66 x := fun x => by kernel_rfl
theorem c66 : FnC P 66 as66 rs66 F66 :=
  fnC_of_ev tyOk mixed gok66 (fn := Try.f66) (by kernel_rfl) (c := b66) (by kernel_rfl) (by kernel_rfl) ⟨by decide, by decide, by decide⟩ (by kernel_rfl) (lam_ok (tab := []) (by kernel_rfl) (fun p hp => by cases hp)) e66

/-! impl.ChanFault -/
abbrev as21 : List AS := [.val true k4]
abbrev rs21 : List RS := [.val false (.int .i64)]
noncomputable def g21 : List (FuncId × SumX) := [(66, cX as66 rs66 F66), (67, cX as67 rs67 F67), (68, cX as68 rs68 F68)]
def j21 : Nat → Option (List (Nat × SS)) := jOf [(1, [(13, .val false .bool)]), (10, [(30, .val false .bool)])]
theorem gok21 : GOk P (gamOf g21) := gam_ok (tab := g21) (by
    intro p hp
    simp only [g21, List.mem_cons, List.not_mem_nil, or_false] at hp
    rcases hp with rfl | rfl | rfl
    · exact cX_ok c66 rfl
    · exact cX_ok c67 rfl
    · exact cX_ok c68 rfl)
noncomputable abbrev b21 : Code := bodyOf Try.f21
abbrev sp21_l4 : Sp := ⟨52, [], [(1, .fix (.lf (.ptr 1 0))), (18, .fix (.lf (.own 72))), (19, .val false (.int .i64)), (20, .val false (.int .i64))], [(1, [.val (.int .i64), .val (.sl (.int .i64)), .val (.sl (.int .i64)), .val (.sl (.int .i64)), .val (.int .i64), .val (.int .i64)])], [(72, (.sl (.int .i64)), false)]⟩
abbrev xs21_l4 : List (Ex × Sp) := [(.exit 0, ⟨52, [], [(1, .fix (.lf (.ptr 1 0)))], [(1, [.val (.int .i64), .val (.sl (.int .i64)), .val (.sl (.int .i64)), .val (.sl (.int .i64)), .val (.int .i64), .val (.int .i64)])], []⟩), (.ret, ⟨52, [], [(2, .val false (.int .i64))], [], []⟩)]
noncomputable def s21_l4 : sp21_l4.T → Option (sp21_l4.T ⊕ XT xs21_l4) := fun x =>
  bif (decide (x.1.2.2.2.1 < x.1.2.2.1)) then
    (bif ib x.1.2.2.2.1 (x.2.2.1).length then
    (F66 (((x.2.2.1).getD (Int.toNat x.1.2.2.2.1) (K.zero (.sl (.int .i64)))), ())).bind fun y3 =>
    bif (y3.2.1 != (0 : Int)) then
      (some (.inr (.inr ((y3.2.1, ()), (), ()))))
    else
    some (.inl (((), ((), (x.1.2.2.1, ((IntKind.wrap .i64 (x.1.2.2.2.1 + (1 : Int))), ())))), ((x.2.1.1.1, (x.2.1.1.2.1, (x.2.1.1.2.2.1, (x.2.1.1.2.2.2.1, (x.2.1.1.2.2.2.2.1, (x.2.1.1.2.2.2.2.2.1, ())))))), ()), (x.2.2.1, ())))
    else none)
  else
  some (.inr (.inl (((), ()), ((x.2.1.1.1, (x.2.1.1.2.1, (x.2.1.1.2.2.1, (x.2.1.1.2.2.2.1, (x.2.1.1.2.2.2.2.1, (x.2.1.1.2.2.2.2.2.1, ())))))), ()), ())))
noncomputable def l21_l4 : sp21_l4.T → Option (XT xs21_l4) := lim s21_l4
theorem es21_l4 : ∀ x, evCode ty (gamOf g21) j21 (lamOf []) (loopAt b21 4) (sp21_l4.hd x) (rdK sp21_l4 xs21_l4) = s21_l4 x := fun x => by kernel_rfl
theorem ls21_l4 : LSumOk P (loopAt b21 4) (loopL sp21_l4 xs21_l4 l21_l4) := loop_ok tyOk mixed gok21 (by kernel_rfl) (by kernel_rfl) (lam_ok (tab := []) (by kernel_rfl) (fun p hp => by cases hp)) es21_l4 lim_itr
noncomputable def F21 : Args as21 → Option (Outs as21 × Ress rs21) := fun x =>
  (bif (x.1.1 != (1 : Int)) then
      (some ((x.1.1 != (2 : Int)), ()))
    else
    some (false, ())).bind fun y1 =>
  bif y1.1 then
    (some ((), ((1 : Int), ())))
  else
  (l21_l4 (((), ((), ((([x.1.2.1, x.1.2.2.1]).length : Int), ((0 : Int), ())))), ((x.1.1, (x.1.2.1, (x.1.2.2.1, (x.1.2.2.2.1, (x.1.2.2.2.2.1, (x.1.2.2.2.2.2, ())))))), ()), ([x.1.2.1, x.1.2.2.1], ()))).bind fun y4 =>
  (match y4 with
  | .inl y5 => ((F67 (y5.2.1.1.2.2.2.1, ())).bind fun y7 =>
      bif (!y7.2.1) then
        (some (true, ()))
      else
      (F68 (y5.2.1.1.2.2.2.2.1, ())).bind fun y8 =>
      bif (!y8.2.1) then
        (some (true, ()))
      else
      (F68 (y5.2.1.1.2.2.2.2.2.1, ())).bind fun y9 =>
      some ((!y9.2.1), ())).bind fun y10 =>
    bif y10.1 then
      (some ((), ((3 : Int), ())))
    else
    bif (decide (((y5.2.1.1.2.2.2.1).length : Int) > (80 : Int))) then
      (some ((), ((2 : Int), ())))
    else
    some ((), ((0 : Int), ()))
  | .inr z6 => some ((), (z6.1.1, ())))
theorem e21 : ∀ x, evCode ty (gamOf g21) j21 (lamOf [(4, loopL sp21_l4 xs21_l4 l21_l4)]) b21 (st0 52 as21 x) (fin ty as21 rs21 [.tmp 2]) = F21 x := fun x => by kernel_rfl
theorem c21 : FnC P 21 as21 rs21 F21 :=
  fnC_of_ev tyOk mixed gok21 (fn := Try.f21) (by kernel_rfl) (c := b21) (by kernel_rfl) (by kernel_rfl) ⟨by decide, by decide, by decide⟩ (by kernel_rfl) (lam_ok (tab := [(4, loopL sp21_l4 xs21_l4 l21_l4)]) (by kernel_rfl) (by
    intro p hp
    simp only [List.mem_cons, List.not_mem_nil, or_false] at hp
    rcases hp with rfl
    · exact @ls21_l4)) e21

/-! laws.eqInt64S -/
abbrev as53 : List AS := [.val false (.sl (.int .i64)), .val false (.sl (.int .i64))]
abbrev rs53 : List RS := [.val false .bool]
noncomputable def g53 : List (FuncId × SumX) := []
def j53 : Nat → Option (List (Nat × SS)) := jOf []
theorem gok53 : GOk P (gamOf g53) := gam_ok (tab := g53) (fun p hp => by cases hp)
noncomputable abbrev b53 : Code := bodyOf Try.f53
abbrev sp53_l4 : Sp := ⟨26, [], [(0, .val false (.sl (.int .i64))), (1, .val false (.sl (.int .i64))), (5, .val false (.int .i64))], [], []⟩
abbrev xs53_l4 : List (Ex × Sp) := [(.exit 0, ⟨26, [], [], [], []⟩), (.ret, ⟨26, [], [(4, .val false .bool)], [], []⟩)]
noncomputable def s53_l4 : sp53_l4.T → Option (sp53_l4.T ⊕ XT xs53_l4) := fun x =>
  bif (decide (x.1.2.2.1 < ((x.1.1).length : Int))) then
    (bif ib x.1.2.2.1 (x.1.1).length then
    bif ib x.1.2.2.1 (x.1.2.1).length then
    bif (((x.1.1).getD (Int.toNat x.1.2.2.1) (K.zero (.int .i64))) != ((x.1.2.1).getD (Int.toNat x.1.2.2.1) (K.zero (.int .i64)))) then
      (some (.inr (.inr ((false, ()), (), ()))))
    else
    some (.inl ((x.1.1, (x.1.2.1, ((IntKind.wrap .i64 (x.1.2.2.1 + (1 : Int))), ()))), (), ()))
    else none
    else none)
  else
  some (.inr (.inl ((), (), ())))
noncomputable def l53_l4 : sp53_l4.T → Option (XT xs53_l4) := lim s53_l4
theorem es53_l4 : ∀ x, evCode ty (gamOf g53) j53 (lamOf []) (loopAt b53 4) (sp53_l4.hd x) (rdK sp53_l4 xs53_l4) = s53_l4 x := fun x => by kernel_rfl
theorem ls53_l4 : LSumOk P (loopAt b53 4) (loopL sp53_l4 xs53_l4 l53_l4) := loop_ok tyOk mixed gok53 (by kernel_rfl) (by kernel_rfl) (lam_ok (tab := []) (by kernel_rfl) (fun p hp => by cases hp)) es53_l4 lim_itr
noncomputable def F53 : Args as53 → Option (Outs as53 × Ress rs53) := fun x =>
  bif (((x.1).length : Int) != ((x.2.1).length : Int)) then
    (some ((), (false, ())))
  else
  (l53_l4 ((x.1, (x.2.1, ((0 : Int), ()))), (), ())).bind fun y1 =>
  (match y1 with
  | .inl y2 => some ((), (true, ()))
  | .inr z3 => some ((), (z3.1.1, ())))
theorem e53 : ∀ x, evCode ty (gamOf g53) j53 (lamOf [(4, loopL sp53_l4 xs53_l4 l53_l4)]) b53 (st0 26 as53 x) (fin ty as53 rs53 [.tmp 4]) = F53 x := fun x => by kernel_rfl
theorem c53 : FnC P 53 as53 rs53 F53 :=
  fnC_of_ev tyOk mixed gok53 (fn := Try.f53) (by kernel_rfl) (c := b53) (by kernel_rfl) (by kernel_rfl) ⟨by decide, by decide, by decide⟩ (by kernel_rfl) (lam_ok (tab := [(4, loopL sp53_l4 xs53_l4 l53_l4)]) (by kernel_rfl) (by
    intro p hp
    simp only [List.mem_cons, List.not_mem_nil, or_false] at hp
    rcases hp with rfl
    · exact @ls53_l4)) e53

/-! laws.eqChan -/
abbrev as22 : List AS := [.val true k4, .val true k4]
abbrev rs22 : List RS := [.val false .bool]
noncomputable def g22 : List (FuncId × SumX) := [(53, cX as53 rs53 F53)]
def j22 : Nat → Option (List (Nat × SS)) := jOf []
theorem gok22 : GOk P (gamOf g22) := gam_ok (tab := g22) (by
    intro p hp
    simp only [g22, List.mem_cons, List.not_mem_nil, or_false] at hp
    rcases hp with rfl
    · exact cX_ok c53 rfl)
noncomputable abbrev b22 : Code := bodyOf Try.f22
noncomputable def F22 : Args as22 → Option (Outs as22 × Ress rs22) := fun x =>
  bif (x.1.1 != x.2.1.1) then
    (some ((), (false, ())))
  else
  (F53 (x.1.2.1, (x.2.1.2.1, ()))).bind fun y1 =>
  bif (!y1.2.1) then
    (some ((), (false, ())))
  else
  (F53 (x.1.2.2.1, (x.2.1.2.2.1, ()))).bind fun y2 =>
  bif (!y2.2.1) then
    (some ((), (false, ())))
  else
  (F53 (x.1.2.2.2.1, (x.2.1.2.2.2.1, ()))).bind fun y3 =>
  bif (!y3.2.1) then
    (some ((), (false, ())))
  else
  bif (x.1.2.2.2.2.1 != x.2.1.2.2.2.2.1) then
    (some ((), (false, ())))
  else
  bif (x.1.2.2.2.2.2 != x.2.1.2.2.2.2.2) then
    (some ((), (false, ())))
  else
  some ((), (true, ()))
theorem e22 : ∀ x, evCode ty (gamOf g22) j22 (lamOf []) b22 (st0 38 as22 x) (fin ty as22 rs22 [.tmp 4]) = F22 x := fun x => by kernel_rfl
theorem c22 : FnC P 22 as22 rs22 F22 :=
  fnC_of_ev tyOk mixed gok22 (fn := Try.f22) (by kernel_rfl) (c := b22) (by kernel_rfl) (by kernel_rfl) ⟨by decide, by decide, by decide⟩ (by kernel_rfl) (lam_ok (tab := []) (by kernel_rfl) (fun p hp => by cases hp)) e22

/-! laws.FnExactChanFault -/
abbrev as4 : List AS := [.val true k4]
abbrev rs4 : List RS := [.val false .bool]
noncomputable def g4 : List (FuncId × SumX) := [(18, cX as18 rs18 F18), (19, cX as19 rs19 F19), (20, cX as20 rs20 F20), (21, cX as21 rs21 F21), (22, cX as22 rs22 F22)]
def j4 : Nat → Option (List (Nat × SS)) := jOf []
theorem gok4 : GOk P (gamOf g4) := gam_ok (tab := g4) (by
    intro p hp
    simp only [g4, List.mem_cons, List.not_mem_nil, or_false] at hp
    rcases hp with rfl | rfl | rfl | rfl | rfl
    · exact cX_ok c18 rfl
    · exact cX_ok c19 rfl
    · exact cX_ok c20 rfl
    · exact cX_ok c21 rfl
    · exact cX_ok c22 rfl)
noncomputable abbrev b4 : Code := bodyOf Try.f4
noncomputable def F4 : Args as4 → Option (Outs as4 × Ress rs4) := fun x =>
  (F18 (x.1, ((1048576 : Int), ()))).bind fun y1 =>
  bif (decide (y1.2.1 < (0 : Int))) then
    (some ((), (true, ())))
  else
  (F20 (x.1, ())).bind fun y2 =>
  (F19 (y2.2.1, ())).bind fun y3 =>
  (F20 (x.1, ())).bind fun y4 =>
  (F21 (y4.2.1, ())).bind fun y5 =>
  bif (y5.2.1 != y3.2.1) then
    (some ((), (false, ())))
  else
  (F20 (x.1, ())).bind fun y6 =>
  (F22 (y4.2.1, (y6.2.1, ()))).bind fun y7 =>
  bif (!y7.2.1) then
    (some ((), (false, ())))
  else
  some ((), (true, ()))
theorem e4 : ∀ x, evCode ty (gamOf g4) j4 (lamOf []) b4 (st0 27 as4 x) (fin ty as4 rs4 [.tmp 2]) = F4 x := fun x => by kernel_rfl
theorem c4 : FnC P 4 as4 rs4 F4 :=
  fnC_of_ev tyOk mixed gok4 (fn := Try.f4) (by kernel_rfl) (c := b4) (by kernel_rfl) (by kernel_rfl) ⟨by decide, by decide, by decide⟩ (by kernel_rfl) (lam_ok (tab := []) (by kernel_rfl) (fun p hp => by cases hp)) e4
end Go.Ev
