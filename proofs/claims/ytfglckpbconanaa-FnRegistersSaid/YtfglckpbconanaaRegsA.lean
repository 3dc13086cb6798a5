/- What is proved here: the contract of each function that FnRegisters reaches; no condition. -/
import Derived.Test.YtfglckpbconanaaProg
import Derived.Test.YtfglckpbconanaaLe
import Derived.KernelRfl
set_option linter.unusedVariables false
namespace Go.Ev
open Go.Proofs
def bodyOf (f : Func) : Code := f.body.getD .skip
noncomputable abbrev P : Program := Try.prog
abbrev k0 : K := (.pr (.int .i64) .bool)
abbrev k1 : K := (.pr (.int .i64) k0)
abbrev k2 : K := (.pr (.int .i64) k1)
abbrev k3 : K := (.pr (.sl (.int .i64)) k2)
abbrev k4 : K := (.pr (.sl (.int .i64)) k3)
abbrev k5 : K := (.pr (.int .i64) k4)
abbrev k6 : K := (.pr (.int .i64) (.int .i64))
abbrev k7 : K := (.pr (.int .i64) k5)
abbrev k8 : K := (.pr (.int .i64) (.sl (.int .i64)))
abbrev k9 : K := (.pr (.sl (.int .u8)) (.int .i64))
def tab : List (Nat × TI) := [
  (2, (⟨.other, false, 1, 8, [.int .i64 0], some (.int .i64)⟩ : TI)),
  (3, (⟨.other, false, 1, 8, [.int .i64 0], some (.int .i64)⟩ : TI)),
  (4, (⟨.other, false, 1, 1, [.bool false], some .bool⟩ : TI)),
  (5, (⟨.other, false, 1, 1, [.int .u8 0], some (.int .u8)⟩ : TI)),
  (22, (⟨.slice 2, false, 1, 24, [.nil], some (.sl (.int .i64))⟩ : TI)),
  (49, (⟨.struct [(0, 1, false), (1, 1, false), (2, 1, false), (3, 1, false), (4, 1, false), (5, 1, false), (6, 1, false)], true, 7, 88, [.int .i64 0, .nil, .nil, .int .i64 0, .int .i64 0, .int .i64 0, .bool false], some k5⟩ : TI)),
  (51, (⟨.struct [(0, 1, false), (1, 7, true)], true, 8, 96, [.int .i64 0, .int .i64 0, .nil, .nil, .int .i64 0, .int .i64 0, .int .i64 0, .bool false], some k7⟩ : TI)),
  (56, (⟨.slice 5, false, 1, 24, [.nil], some (.sl (.int .u8))⟩ : TI)),
  (62, (⟨.struct [(0, 1, false), (1, 1, false)], true, 2, 32, [.int .i64 0, .nil], some k8⟩ : TI)),
  (89, (⟨.other, false, 1, 8, [.nilp], none⟩ : TI)),
  (102, (⟨.other, false, 1, 8, [.int .u64 0], some (.int .u64)⟩ : TI)),
  (118, (⟨.struct [(0, 1, false), (1, 1, false)], true, 2, 32, [.nil, .int .i64 0], some k9⟩ : TI)),
  (131, (⟨.struct [(0, 1, false), (1, 1, false)], true, 2, 16, [.int .i64 0, .int .i64 0], some k6⟩ : TI)),
  (145, (⟨.other, false, 1, 2, [.int .i16 0], some (.int .i16)⟩ : TI)),
  (146, (⟨.other, false, 1, 2, [.int .u16 0], some (.int .u16)⟩ : TI))]
def ty : Ty := fun t => (Tr.ofList tab).get t
theorem tyOk : TyOk P ty := tyOk_of_tab (by kernel_rfl)
theorem mixed : P.follows .mixedOrders = true := by kernel_rfl
/-! spec.l1In -/
abbrev sp_spec_l1In : Sp := ⟨15, [(0, .val false (.int .i64)), (1, .val false (.int .i64)), (2, .val false (.int .i64))], [], []⟩
abbrev sq_spec_l1In : Sp := ⟨1, [(0, .val false .bool)], [], []⟩
noncomputable def g_spec_l1In : List (FuncId × SumX) := []
def j_spec_l1In : Nat → Option (List (Nat × SS)) := jOf [(1, [(6, .val false .bool)])]
theorem gok_spec_l1In : GOk P (gamOf g_spec_l1In) := gam_ok (tab := g_spec_l1In) (fun p hp => by cases hp)
noncomputable abbrev b_spec_l1In : Code := bodyOf Try.f63
noncomputable def F_spec_l1In (x1 : K.T (.int .i64)) (x2 : K.T (.int .i64)) (x3 : K.T (.int .i64)) : Option sq_spec_l1In.T :=
  (bif (decide (x1 ≥ x2)) then
      (some ((decide (x1 ≤ x3)), ()))
    else
    some (false, ())).bind fun y1 =>
  some ((y1.1, ()), (), ())
noncomputable abbrev U_spec_l1In : sp_spec_l1In.T → Option sq_spec_l1In.T := fun x => F_spec_l1In x.1.1 x.1.2.1 x.1.2.2.1
theorem e_spec_l1In : ∀ x, evCode ty (gamOf g_spec_l1In) j_spec_l1In (lamOf []) b_spec_l1In (sp_spec_l1In.hd x) (finN ty sq_spec_l1In [.tmp 6]) = U_spec_l1In x := fun x => by kernel_rfl
theorem c_spec_l1In : FnS P 63 sp_spec_l1In sq_spec_l1In U_spec_l1In :=
  fnS_of_ev tyOk mixed gok_spec_l1In (fn := Try.f63) (by kernel_rfl) (c := b_spec_l1In) (by kernel_rfl) (by kernel_rfl) (by kernel_rfl) (lam_ok (tab := []) (by kernel_rfl) (fun p hp => by cases hp)) e_spec_l1In

/-! spec.l1Word -/
abbrev sp_spec_l1Word : Sp := ⟨5, [(0, .val false (.int .i64))], [], []⟩
abbrev sq_spec_l1Word : Sp := ⟨1, [(0, .val false .bool)], [], []⟩
noncomputable def g_spec_l1Word : List (FuncId × SumX) := [(63, cN sp_spec_l1In sq_spec_l1In U_spec_l1In)]
def j_spec_l1Word : Nat → Option (List (Nat × SS)) := jOf []
theorem gok_spec_l1Word : GOk P (gamOf g_spec_l1Word) := gam_ok (tab := g_spec_l1Word) (by
    intro p hp
    simp only [g_spec_l1Word, List.mem_cons, List.not_mem_nil, or_false] at hp
    rcases hp with rfl
    · exact cN_ok c_spec_l1In rfl)
noncomputable abbrev b_spec_l1Word : Code := bodyOf Try.f80
noncomputable def F_spec_l1Word (x1 : K.T (.int .i64)) : Option sq_spec_l1Word.T :=
  (F_spec_l1In x1 (0 : Int) (65535 : Int)).bind fun y1 =>
  some ((y1.1.1, ()), (), ())
noncomputable abbrev U_spec_l1Word : sp_spec_l1Word.T → Option sq_spec_l1Word.T := fun x => F_spec_l1Word x.1.1
theorem e_spec_l1Word : ∀ x, evCode ty (gamOf g_spec_l1Word) j_spec_l1Word (lamOf []) b_spec_l1Word (sp_spec_l1Word.hd x) (finN ty sq_spec_l1Word [.tmp 2]) = U_spec_l1Word x := fun x => by kernel_rfl
theorem c_spec_l1Word : FnS P 80 sp_spec_l1Word sq_spec_l1Word U_spec_l1Word :=
  fnS_of_ev tyOk mixed gok_spec_l1Word (fn := Try.f80) (by kernel_rfl) (c := b_spec_l1Word) (by kernel_rfl) (by kernel_rfl) (by kernel_rfl) (lam_ok (tab := []) (by kernel_rfl) (fun p hp => by cases hp)) e_spec_l1Word

/-! spec.WordsFault -/
abbrev sp_spec_WordsFault : Sp := ⟨19, [(0, .val false (.sl (.int .i64)))], [], []⟩
abbrev sq_spec_WordsFault : Sp := ⟨1, [(0, .val false (.int .i64))], [], []⟩
noncomputable def g_spec_WordsFault : List (FuncId × SumX) := [(80, cN sp_spec_l1Word sq_spec_l1Word U_spec_l1Word)]
def j_spec_WordsFault : Nat → Option (List (Nat × SS)) := jOf []
theorem gok_spec_WordsFault : GOk P (gamOf g_spec_WordsFault) := gam_ok (tab := g_spec_WordsFault) (by
    intro p hp
    simp only [g_spec_WordsFault, List.mem_cons, List.not_mem_nil, or_false] at hp
    rcases hp with rfl
    · exact cN_ok c_spec_l1Word rfl)
noncomputable abbrev b_spec_WordsFault : Code := bodyOf Try.f61
abbrev sp_spec_WordsFault_l4 : Sp := ⟨19, [(0, .val false (.sl (.int .i64))), (3, .val false (.int .i64))], [], []⟩
abbrev xs_spec_WordsFault_l4 : List (Ex × Sp) := [(.exit 0, ⟨19, [], [], []⟩), (.ret, ⟨19, [(2, .val false (.int .i64))], [], []⟩)]
noncomputable def s_spec_WordsFault_l4 : sp_spec_WordsFault_l4.T → Option (sp_spec_WordsFault_l4.T ⊕ XT xs_spec_WordsFault_l4) := fun x =>
  bif (decide (x.1.2.1 < ((x.1.1).length : Int))) then
    (bif ib x.1.2.1 (x.1.1).length then
    (F_spec_l1Word ((x.1.1).getD (Int.toNat x.1.2.1) (K.zero (.int .i64)))).bind fun y1 =>
    bif (!y1.1.1) then
      (some (.inr (.inr (((3 : Int), ()), (), ()))))
    else
    some (.inl ((x.1.1, ((IntKind.wrap .i64 (x.1.2.1 + (1 : Int))), ())), (), ()))
    else none)
  else
  some (.inr (.inl ((), (), ())))
noncomputable def l_spec_WordsFault_l4 : sp_spec_WordsFault_l4.T → Option (XT xs_spec_WordsFault_l4) := lim s_spec_WordsFault_l4
theorem es_spec_WordsFault_l4 : ∀ x, evCode ty (gamOf g_spec_WordsFault) j_spec_WordsFault (lamOf []) (loopAt b_spec_WordsFault 4) (sp_spec_WordsFault_l4.hd x) (rdK sp_spec_WordsFault_l4 xs_spec_WordsFault_l4) = s_spec_WordsFault_l4 x := fun x => by kernel_rfl
theorem ls_spec_WordsFault_l4 : LSumOk P (loopAt b_spec_WordsFault 4) (loopL sp_spec_WordsFault_l4 xs_spec_WordsFault_l4 l_spec_WordsFault_l4) := loop_ok tyOk mixed gok_spec_WordsFault (by kernel_rfl) (by kernel_rfl) (lam_ok (tab := []) (by kernel_rfl) (fun p hp => by cases hp)) es_spec_WordsFault_l4 lim_itr
noncomputable def F_spec_WordsFault (x1 : K.T (.sl (.int .i64))) : Option sq_spec_WordsFault.T :=
  bif (decide (((x1).length : Int) > (400 : Int))) then
    (some (((2 : Int), ()), (), ()))
  else
  (l_spec_WordsFault_l4 ((x1, ((0 : Int), ())), (), ())).bind fun y2 =>
  (match y2 with
  | .inl y3 => some (((0 : Int), ()), (), ())
  | .inr z4 => some ((z4.1.1, ()), (), ()))
noncomputable abbrev U_spec_WordsFault : sp_spec_WordsFault.T → Option sq_spec_WordsFault.T := fun x => F_spec_WordsFault x.1.1
theorem e_spec_WordsFault : ∀ x, evCode ty (gamOf g_spec_WordsFault) j_spec_WordsFault (lamOf [(4, loopL sp_spec_WordsFault_l4 xs_spec_WordsFault_l4 l_spec_WordsFault_l4)]) b_spec_WordsFault (sp_spec_WordsFault.hd x) (finN ty sq_spec_WordsFault [.tmp 2]) = U_spec_WordsFault x := fun x => by kernel_rfl
theorem c_spec_WordsFault : FnS P 61 sp_spec_WordsFault sq_spec_WordsFault U_spec_WordsFault :=
  fnS_of_ev tyOk mixed gok_spec_WordsFault (fn := Try.f61) (by kernel_rfl) (c := b_spec_WordsFault) (by kernel_rfl) (by kernel_rfl) (by kernel_rfl) (lam_ok (tab := [(4, loopL sp_spec_WordsFault_l4 xs_spec_WordsFault_l4 l_spec_WordsFault_l4)]) (by kernel_rfl) (by
    intro p hp
    simp only [List.mem_cons, List.not_mem_nil, or_false] at hp
    rcases hp with rfl
    · exact @ls_spec_WordsFault_l4)) e_spec_WordsFault

/-! spec.l10Start -/
abbrev sp_spec_l10Start : Sp := ⟨19, [(0, .val false (.sl (.int .i64)))], [], []⟩
abbrev sq_spec_l10Start : Sp := ⟨1, [(0, .mix true [.val (.int .i64), .fix (.own 59000), .fix (.own 59001), .val (.int .i64), .val (.int .i64), .val (.int .i64), .val .bool])], [], [(59000, (.int .i64), true), (59001, (.int .i64), true)]⟩
noncomputable def g_spec_l10Start : List (FuncId × SumX) := []
def j_spec_l10Start : Nat → Option (List (Nat × SS)) := jOf []
theorem gok_spec_l10Start : GOk P (gamOf g_spec_l10Start) := gam_ok (tab := g_spec_l10Start) (fun p hp => by cases hp)
noncomputable abbrev b_spec_l10Start : Code := bodyOf Try.f99
abbrev sp_spec_l10Start_l3 : Sp := ⟨19, [(2, .fix (.ptr 59000 0)), (3, .fix (.ptr 59001 0)), (4, .val false (.int .i64))], [(59000, [.val (.int .i64), .fix .nil, .fix .nil, .val (.int .i64), .val (.int .i64), .val (.int .i64), .val .bool]), (59001, [.val (.int .i64), .fix (.own 59000), .fix (.own 59001), .val (.int .i64), .val (.int .i64), .val (.int .i64), .val .bool])], [(59000, (.int .i64), true), (59001, (.int .i64), true)]⟩
abbrev xs_spec_l10Start_l3 : List (Ex × Sp) := [(.exit 0, ⟨19, [(2, .fix (.ptr 59000 0)), (3, .fix (.ptr 59001 0))], [(59000, [.val (.int .i64), .fix .nil, .fix .nil, .val (.int .i64), .val (.int .i64), .val (.int .i64), .val .bool]), (59001, [.val (.int .i64), .fix (.own 59000), .fix (.own 59001), .val (.int .i64), .val (.int .i64), .val (.int .i64), .val .bool])], [(59000, (.int .i64), true), (59001, (.int .i64), true)]⟩)]
noncomputable def s_spec_l10Start_l3 : sp_spec_l10Start_l3.T → Option (sp_spec_l10Start_l3.T ⊕ XT xs_spec_l10Start_l3) := fun x =>
  bif (decide (x.1.1 < (24 : Int))) then
    (bif room (x.2.2.1 ++ [(65535 : Int)]).length 8 then
    some (.inl (((IntKind.wrap .i64 (x.1.1 + (1 : Int))), ()), ((x.2.1.1.1, (x.2.1.1.2.1, (x.2.1.1.2.2.1, (x.2.1.1.2.2.2.1, (x.2.1.1.2.2.2.2.1, ()))))), ((x.2.1.2.1.1, (x.2.1.2.1.2.1, (x.2.1.2.1.2.2.1, (x.2.1.2.1.2.2.2.1, (x.2.1.2.1.2.2.2.2.1, ()))))), ())), ((x.2.2.1 ++ [(65535 : Int)]), (x.2.2.2.1, ()))))
    else none)
  else
  some (.inr ((), ((x.2.1.1.1, (x.2.1.1.2.1, (x.2.1.1.2.2.1, (x.2.1.1.2.2.2.1, (x.2.1.1.2.2.2.2.1, ()))))), ((x.2.1.2.1.1, (x.2.1.2.1.2.1, (x.2.1.2.1.2.2.1, (x.2.1.2.1.2.2.2.1, (x.2.1.2.1.2.2.2.2.1, ()))))), ())), (x.2.2.1, (x.2.2.2.1, ()))))
noncomputable def l_spec_l10Start_l3 : sp_spec_l10Start_l3.T → Option (XT xs_spec_l10Start_l3) := lim s_spec_l10Start_l3
theorem es_spec_l10Start_l3 : ∀ x, evCode ty (gamOf g_spec_l10Start) j_spec_l10Start (lamOf []) (loopAt b_spec_l10Start 3) (sp_spec_l10Start_l3.hd x) (rdK sp_spec_l10Start_l3 xs_spec_l10Start_l3) = s_spec_l10Start_l3 x := fun x => by kernel_rfl
theorem ls_spec_l10Start_l3 : LSumOk P (loopAt b_spec_l10Start 3) (loopL sp_spec_l10Start_l3 xs_spec_l10Start_l3 l_spec_l10Start_l3) := loop_ok tyOk mixed gok_spec_l10Start (by kernel_rfl) (by kernel_rfl) (lam_ok (tab := []) (by kernel_rfl) (fun p hp => by cases hp)) es_spec_l10Start_l3 lim_itr
noncomputable def F_spec_l10Start (x1 : K.T (.sl (.int .i64))) : Option sq_spec_l10Start.T :=
  bif room ([] ++ x1).length 8 then
  (l_spec_l10Start_l3 (((0 : Int), ()), (((0 : Int), ((0 : Int), ((0 : Int), ((0 : Int), (false, ()))))), (((0 : Int), ((0 : Int), ((0 : Int), ((0 : Int), (false, ()))))), ())), ([], (([] ++ x1), ())))).bind fun y1 =>
  some (((y1.2.1.2.1.1, (y1.2.1.2.1.2.1, (y1.2.1.2.1.2.2.1, (y1.2.1.2.1.2.2.2.1, (y1.2.1.2.1.2.2.2.2.1, ()))))), ()), (), (y1.2.2.1, (y1.2.2.2.1, ())))
  else none
noncomputable abbrev U_spec_l10Start : sp_spec_l10Start.T → Option sq_spec_l10Start.T := fun x => F_spec_l10Start x.1.1
theorem e_spec_l10Start : ∀ x, evCode ty (gamOf g_spec_l10Start) j_spec_l10Start (lamOf [(3, loopL sp_spec_l10Start_l3 xs_spec_l10Start_l3 l_spec_l10Start_l3)]) b_spec_l10Start (sp_spec_l10Start.hd x) (finN ty sq_spec_l10Start [.cell 2 49]) = U_spec_l10Start x := fun x => by kernel_rfl
theorem c_spec_l10Start : FnS P 99 sp_spec_l10Start sq_spec_l10Start U_spec_l10Start :=
  fnS_of_ev tyOk mixed gok_spec_l10Start (fn := Try.f99) (by kernel_rfl) (c := b_spec_l10Start) (by kernel_rfl) (by kernel_rfl) (by kernel_rfl) (lam_ok (tab := [(3, loopL sp_spec_l10Start_l3 xs_spec_l10Start_l3 l_spec_l10Start_l3)]) (by kernel_rfl) (by
    intro p hp
    simp only [List.mem_cons, List.not_mem_nil, or_false] at hp
    rcases hp with rfl
    · exact @ls_spec_l10Start_l3)) e_spec_l10Start

/-! spec.l6All -/
abbrev sp_spec_l6All : Sp := ⟨16, [(0, .val false (.sl (.int .i64)))], [], []⟩
abbrev sq_spec_l6All : Sp := ⟨1, [(0, .val false .bool)], [], []⟩
noncomputable def g_spec_l6All : List (FuncId × SumX) := [(80, cN sp_spec_l1Word sq_spec_l1Word U_spec_l1Word)]
def j_spec_l6All : Nat → Option (List (Nat × SS)) := jOf []
theorem gok_spec_l6All : GOk P (gamOf g_spec_l6All) := gam_ok (tab := g_spec_l6All) (by
    intro p hp
    simp only [g_spec_l6All, List.mem_cons, List.not_mem_nil, or_false] at hp
    rcases hp with rfl
    · exact cN_ok c_spec_l1Word rfl)
noncomputable abbrev b_spec_l6All : Code := bodyOf Try.f43
abbrev sp_spec_l6All_l2 : Sp := ⟨16, [(0, .val false (.sl (.int .i64))), (3, .val false (.int .i64))], [], []⟩
abbrev xs_spec_l6All_l2 : List (Ex × Sp) := [(.exit 0, ⟨16, [], [], []⟩), (.ret, ⟨16, [(2, .val false .bool)], [], []⟩)]
noncomputable def s_spec_l6All_l2 : sp_spec_l6All_l2.T → Option (sp_spec_l6All_l2.T ⊕ XT xs_spec_l6All_l2) := fun x =>
  bif (decide (x.1.2.1 < ((x.1.1).length : Int))) then
    (bif ib x.1.2.1 (x.1.1).length then
    (F_spec_l1Word ((x.1.1).getD (Int.toNat x.1.2.1) (K.zero (.int .i64)))).bind fun y1 =>
    bif (!y1.1.1) then
      (some (.inr (.inr ((false, ()), (), ()))))
    else
    some (.inl ((x.1.1, ((IntKind.wrap .i64 (x.1.2.1 + (1 : Int))), ())), (), ()))
    else none)
  else
  some (.inr (.inl ((), (), ())))
noncomputable def l_spec_l6All_l2 : sp_spec_l6All_l2.T → Option (XT xs_spec_l6All_l2) := lim s_spec_l6All_l2
theorem es_spec_l6All_l2 : ∀ x, evCode ty (gamOf g_spec_l6All) j_spec_l6All (lamOf []) (loopAt b_spec_l6All 2) (sp_spec_l6All_l2.hd x) (rdK sp_spec_l6All_l2 xs_spec_l6All_l2) = s_spec_l6All_l2 x := fun x => by kernel_rfl
theorem ls_spec_l6All_l2 : LSumOk P (loopAt b_spec_l6All 2) (loopL sp_spec_l6All_l2 xs_spec_l6All_l2 l_spec_l6All_l2) := loop_ok tyOk mixed gok_spec_l6All (by kernel_rfl) (by kernel_rfl) (lam_ok (tab := []) (by kernel_rfl) (fun p hp => by cases hp)) es_spec_l6All_l2 lim_itr
noncomputable def F_spec_l6All (x1 : K.T (.sl (.int .i64))) : Option sq_spec_l6All.T :=
  (l_spec_l6All_l2 ((x1, ((0 : Int), ())), (), ())).bind fun y2 =>
  (match y2 with
  | .inl y3 => some ((true, ()), (), ())
  | .inr z4 => some ((z4.1.1, ()), (), ()))
noncomputable abbrev U_spec_l6All : sp_spec_l6All.T → Option sq_spec_l6All.T := fun x => F_spec_l6All x.1.1
theorem e_spec_l6All : ∀ x, evCode ty (gamOf g_spec_l6All) j_spec_l6All (lamOf [(2, loopL sp_spec_l6All_l2 xs_spec_l6All_l2 l_spec_l6All_l2)]) b_spec_l6All (sp_spec_l6All.hd x) (finN ty sq_spec_l6All [.tmp 2]) = U_spec_l6All x := fun x => by kernel_rfl
theorem c_spec_l6All : FnS P 43 sp_spec_l6All sq_spec_l6All U_spec_l6All :=
  fnS_of_ev tyOk mixed gok_spec_l6All (fn := Try.f43) (by kernel_rfl) (c := b_spec_l6All) (by kernel_rfl) (by kernel_rfl) (by kernel_rfl) (lam_ok (tab := [(2, loopL sp_spec_l6All_l2 xs_spec_l6All_l2 l_spec_l6All_l2)]) (by kernel_rfl) (by
    intro p hp
    simp only [List.mem_cons, List.not_mem_nil, or_false] at hp
    rcases hp with rfl
    · exact @ls_spec_l6All_l2)) e_spec_l6All

/-! spec.l10Fault -/
abbrev sp_spec_l10Fault : Sp := ⟨61, [(0, .rp k5)], [], []⟩
abbrev sq_spec_l10Fault : Sp := ⟨1, [(0, .val false (.int .i64))], [], []⟩
noncomputable def g_spec_l10Fault : List (FuncId × SumX) := [(43, cN sp_spec_l6All sq_spec_l6All U_spec_l6All), (63, cN sp_spec_l1In sq_spec_l1In U_spec_l1In), (80, cN sp_spec_l1Word sq_spec_l1Word U_spec_l1Word)]
def j_spec_l10Fault : Nat → Option (List (Nat × SS)) := jOf [(1, [(48, .val false .bool)])]
theorem gok_spec_l10Fault : GOk P (gamOf g_spec_l10Fault) := gam_ok (tab := g_spec_l10Fault) (by
    intro p hp
    simp only [g_spec_l10Fault, List.mem_cons, List.not_mem_nil, or_false] at hp
    rcases hp with rfl | rfl | rfl
    · exact cN_ok c_spec_l6All rfl
    · exact cN_ok c_spec_l1In rfl
    · exact cN_ok c_spec_l1Word rfl)
noncomputable abbrev b_spec_l10Fault : Code := bodyOf Try.f100
noncomputable def F_spec_l10Fault (x1 : K.T k5) : Option sq_spec_l10Fault.T :=
  ((F_spec_l1Word x1.1).bind fun y1 =>
    bif (!y1.1.1) then
      (some (true, ()))
    else
    (F_spec_l1Word x1.2.2.2.1).bind fun y2 =>
    bif (!y2.1.1) then
      (some (true, ()))
    else
    (F_spec_l6All x1.2.1).bind fun y3 =>
    bif (!y3.1.1) then
      (some (true, ()))
    else
    (F_spec_l6All x1.2.2.1).bind fun y4 =>
    bif (!y4.1.1) then
      (some (true, ()))
    else
    (F_spec_l1In x1.2.2.2.2.1 (0 : Int) (1000000 : Int)).bind fun y5 =>
    bif (!y5.1.1) then
      (some (true, ()))
    else
    (F_spec_l1In x1.2.2.2.2.2.1 (0 : Int) (10 : Int)).bind fun y6 =>
    some ((!y6.1.1), ())).bind fun y7 =>
  bif y7.1 then
    (some (((3 : Int), ()), (), ()))
  else
  bif (((x1.2.1).length : Int) != (24 : Int)) then
    (some (((1 : Int), ()), (), ()))
  else
  bif (decide (((x1.2.2.1).length : Int) > (80 : Int))) then
    (some (((2 : Int), ()), (), ()))
  else
  some (((0 : Int), ()), (), ())
noncomputable abbrev U_spec_l10Fault : sp_spec_l10Fault.T → Option sq_spec_l10Fault.T := fun x => F_spec_l10Fault x.1.1
theorem e_spec_l10Fault : ∀ x, evCode ty (gamOf g_spec_l10Fault) j_spec_l10Fault (lamOf []) b_spec_l10Fault (sp_spec_l10Fault.hd x) (finN ty sq_spec_l10Fault [.tmp 2]) = U_spec_l10Fault x := fun x => by kernel_rfl
theorem c_spec_l10Fault : FnS P 100 sp_spec_l10Fault sq_spec_l10Fault U_spec_l10Fault :=
  fnS_of_ev tyOk mixed gok_spec_l10Fault (fn := Try.f100) (by kernel_rfl) (c := b_spec_l10Fault) (by kernel_rfl) (by kernel_rfl) (by kernel_rfl) (lam_ok (tab := []) (by kernel_rfl) (fun p hp => by cases hp)) e_spec_l10Fault

/-! spec.StartRegs -/
abbrev sp_spec_StartRegs : Sp := ⟨14, [(0, .val false (.sl (.int .i64)))], [], []⟩
abbrev sq_spec_StartRegs : Sp := ⟨1, [(0, .mix true [.val (.int .i64), .val (.int .i64), .fix (.own 59000), .fix (.own 59001), .val (.int .i64), .val (.int .i64), .val (.int .i64), .val .bool])], [], [(59000, (.int .i64), true), (59001, (.int .i64), true)]⟩
noncomputable def g_spec_StartRegs : List (FuncId × SumX) := [(99, fN sp_spec_l10Start sq_spec_l10Start U_spec_l10Start), (100, cN sp_spec_l10Fault sq_spec_l10Fault U_spec_l10Fault)]
def j_spec_StartRegs : Nat → Option (List (Nat × SS)) := jOf []
theorem gok_spec_StartRegs : GOk P (gamOf g_spec_StartRegs) := gam_ok (tab := g_spec_StartRegs) (by
    intro p hp
    simp only [g_spec_StartRegs, List.mem_cons, List.not_mem_nil, or_false] at hp
    rcases hp with rfl | rfl
    · exact fN_ok c_spec_l10Start rfl
    · exact cN_ok c_spec_l10Fault rfl)
noncomputable abbrev b_spec_StartRegs : Code := bodyOf Try.f62
noncomputable def F_spec_StartRegs (x1 : K.T (.sl (.int .i64))) : Option sq_spec_StartRegs.T :=
  (F_spec_l10Start x1).bind fun y1 =>
  (F_spec_l10Fault (y1.1.1.1, (y1.2.2.1, (y1.2.2.2.1, (y1.1.1.2.1, (y1.1.1.2.2.1, (y1.1.1.2.2.2.1, y1.1.1.2.2.2.2.1))))))).bind fun y2 =>
  bif (y2.1.1 != (0 : Int)) then
    (some (((y2.1.1, ((0 : Int), ((0 : Int), ((0 : Int), ((0 : Int), (false, ())))))), ()), (), ([], ([], ()))))
  else
  some ((((0 : Int), (y1.1.1.1, (y1.1.1.2.1, (y1.1.1.2.2.1, (y1.1.1.2.2.2.1, (y1.1.1.2.2.2.2.1, ())))))), ()), (), (y1.2.2.1, (y1.2.2.2.1, ())))
noncomputable abbrev U_spec_StartRegs : sp_spec_StartRegs.T → Option sq_spec_StartRegs.T := fun x => F_spec_StartRegs x.1.1
theorem e_spec_StartRegs : ∀ x, evCode ty (gamOf g_spec_StartRegs) j_spec_StartRegs (lamOf []) b_spec_StartRegs (sp_spec_StartRegs.hd x) (finN ty sq_spec_StartRegs [.cell 2 51]) = U_spec_StartRegs x := fun x => by kernel_rfl
theorem c_spec_StartRegs : FnS P 62 sp_spec_StartRegs sq_spec_StartRegs U_spec_StartRegs :=
  fnS_of_ev tyOk mixed gok_spec_StartRegs (fn := Try.f62) (by kernel_rfl) (c := b_spec_StartRegs) (by kernel_rfl) (by kernel_rfl) (by kernel_rfl) (lam_ok (tab := []) (by kernel_rfl) (fun p hp => by cases hp)) e_spec_StartRegs

/-! spec.l1Min -/
abbrev sp_spec_l1Min : Sp := ⟨10, [(0, .val false (.int .i64)), (1, .val false (.int .i64))], [], []⟩
abbrev sq_spec_l1Min : Sp := ⟨1, [(0, .val false (.int .i64))], [], []⟩
noncomputable def g_spec_l1Min : List (FuncId × SumX) := []
def j_spec_l1Min : Nat → Option (List (Nat × SS)) := jOf []
theorem gok_spec_l1Min : GOk P (gamOf g_spec_l1Min) := gam_ok (tab := g_spec_l1Min) (fun p hp => by cases hp)
noncomputable abbrev b_spec_l1Min : Code := bodyOf Try.f81
noncomputable def F_spec_l1Min (x1 : K.T (.int .i64)) (x2 : K.T (.int .i64)) : Option sq_spec_l1Min.T :=
  bif (decide (x1 < x2)) then
    (some ((x1, ()), (), ()))
  else
  some ((x2, ()), (), ())
noncomputable abbrev U_spec_l1Min : sp_spec_l1Min.T → Option sq_spec_l1Min.T := fun x => F_spec_l1Min x.1.1 x.1.2.1
theorem e_spec_l1Min : ∀ x, evCode ty (gamOf g_spec_l1Min) j_spec_l1Min (lamOf []) b_spec_l1Min (sp_spec_l1Min.hd x) (finN ty sq_spec_l1Min [.tmp 4]) = U_spec_l1Min x := fun x => by kernel_rfl
theorem c_spec_l1Min : FnS P 81 sp_spec_l1Min sq_spec_l1Min U_spec_l1Min :=
  fnS_of_ev tyOk mixed gok_spec_l1Min (fn := Try.f81) (by kernel_rfl) (c := b_spec_l1Min) (by kernel_rfl) (by kernel_rfl) (by kernel_rfl) (lam_ok (tab := []) (by kernel_rfl) (fun p hp => by cases hp)) e_spec_l1Min

/-! spec.l10Copy -/
abbrev sp_spec_l10Copy : Sp := ⟨14, [(0, .val true k5)], [], []⟩
abbrev sq_spec_l10Copy : Sp := ⟨1, [(0, .mix true [.val (.int .i64), .fix (.own 59000), .fix (.own 59001), .val (.int .i64), .val (.int .i64), .val (.int .i64), .val .bool])], [], [(59000, (.int .i64), true), (59001, (.int .i64), true)]⟩
noncomputable def g_spec_l10Copy : List (FuncId × SumX) := []
def j_spec_l10Copy : Nat → Option (List (Nat × SS)) := jOf []
theorem gok_spec_l10Copy : GOk P (gamOf g_spec_l10Copy) := gam_ok (tab := g_spec_l10Copy) (fun p hp => by cases hp)
noncomputable abbrev b_spec_l10Copy : Code := bodyOf Try.f115
noncomputable def F_spec_l10Copy (x1 : K.T k5) : Option sq_spec_l10Copy.T :=
  bif room ([] ++ x1.2.1).length 8 then
  bif room ([] ++ x1.2.2.1).length 8 then
  some (((x1.1, (x1.2.2.2.1, (x1.2.2.2.2.1, (x1.2.2.2.2.2.1, (x1.2.2.2.2.2.2, ()))))), ()), (), (([] ++ x1.2.1), (([] ++ x1.2.2.1), ())))
  else none
  else none
noncomputable abbrev U_spec_l10Copy : sp_spec_l10Copy.T → Option sq_spec_l10Copy.T := fun x => F_spec_l10Copy x.1.1
theorem e_spec_l10Copy : ∀ x, evCode ty (gamOf g_spec_l10Copy) j_spec_l10Copy (lamOf []) b_spec_l10Copy (sp_spec_l10Copy.hd x) (finN ty sq_spec_l10Copy [.cell 2 49]) = U_spec_l10Copy x := fun x => by kernel_rfl
theorem c_spec_l10Copy : FnS P 115 sp_spec_l10Copy sq_spec_l10Copy U_spec_l10Copy :=
  fnS_of_ev tyOk mixed gok_spec_l10Copy (fn := Try.f115) (by kernel_rfl) (c := b_spec_l10Copy) (by kernel_rfl) (by kernel_rfl) (by kernel_rfl) (lam_ok (tab := []) (by kernel_rfl) (fun p hp => by cases hp)) e_spec_l10Copy

/-! spec.l10Args -/
abbrev sp_spec_l10Args : Sp := ⟨14, [(0, .val false (.int .i64))], [], []⟩
abbrev sq_spec_l10Args : Sp := ⟨1, [(0, .val false (.int .i64))], [], []⟩
noncomputable def g_spec_l10Args : List (FuncId × SumX) := []
def j_spec_l10Args : Nat → Option (List (Nat × SS)) := jOf []
theorem gok_spec_l10Args : GOk P (gamOf g_spec_l10Args) := gam_ok (tab := g_spec_l10Args) (fun p hp => by cases hp)
noncomputable abbrev b_spec_l10Args : Code := bodyOf Try.f106
noncomputable def F_spec_l10Args (x1 : K.T (.int .i64)) : Option sq_spec_l10Args.T :=
  bif (x1 == (4 : Int)) then
    (some (((4 : Int), ()), (), ()))
  else
  bif (x1 == (5 : Int)) then
    (some (((4 : Int), ()), (), ()))
  else
  bif (x1 == (6 : Int)) then
    (some (((4 : Int), ()), (), ()))
  else
  bif (x1 == (9 : Int)) then
    (some (((1 : Int), ()), (), ()))
  else
  bif (x1 == (10 : Int)) then
    (some (((1 : Int), ()), (), ()))
  else
  bif (x1 == (12 : Int)) then
    (some (((1 : Int), ()), (), ()))
  else
  bif (x1 == (13 : Int)) then
    (some (((0 : Int), ()), (), ()))
  else
  some (((2 : Int), ()), (), ())
noncomputable abbrev U_spec_l10Args : sp_spec_l10Args.T → Option sq_spec_l10Args.T := fun x => F_spec_l10Args x.1.1
theorem e_spec_l10Args : ∀ x, evCode ty (gamOf g_spec_l10Args) j_spec_l10Args (lamOf []) b_spec_l10Args (sp_spec_l10Args.hd x) (finN ty sq_spec_l10Args [.tmp 2]) = U_spec_l10Args x := fun x => by kernel_rfl
theorem c_spec_l10Args : FnS P 106 sp_spec_l10Args sq_spec_l10Args U_spec_l10Args :=
  fnS_of_ev tyOk mixed gok_spec_l10Args (fn := Try.f106) (by kernel_rfl) (c := b_spec_l10Args) (by kernel_rfl) (by kernel_rfl) (by kernel_rfl) (lam_ok (tab := []) (by kernel_rfl) (fun p hp => by cases hp)) e_spec_l10Args

/-! spec.l10Places -/
abbrev sp_spec_l10Places : Sp := ⟨25, [(0, .val false (.int .i64))], [], []⟩
abbrev sq_spec_l10Places : Sp := ⟨2, [(0, .fix (.own 59000)), (1, .val false (.int .i64))], [], [(59000, (.int .i64), true)]⟩
noncomputable def g_spec_l10Places : List (FuncId × SumX) := []
def j_spec_l10Places : Nat → Option (List (Nat × SS)) := jOf []
theorem gok_spec_l10Places : GOk P (gamOf g_spec_l10Places) := gam_ok (tab := g_spec_l10Places) (fun p hp => by cases hp)
noncomputable abbrev b_spec_l10Places : Code := bodyOf Try.f128
noncomputable def F_spec_l10Places (x1 : K.T (.int .i64)) : Option sq_spec_l10Places.T :=
  bif (x1 == (1 : Int)) then
    (some (((-1 : Int), ()), (), ([(1 : Int)], ())))
  else
  bif (x1 == (9 : Int)) then
    (some (((-1 : Int), ()), (), ([(1 : Int)], ())))
  else
  bif (x1 == (11 : Int)) then
    (some (((-1 : Int), ()), (), ([(1 : Int)], ())))
  else
  bif (x1 == (2 : Int)) then
    (some (((2 : Int), ()), (), ([(1 : Int)], ())))
  else
  bif (x1 == (3 : Int)) then
    (some (((1 : Int), ()), (), ([(2 : Int)], ())))
  else
  bif (x1 == (4 : Int)) then
    (some (((-1 : Int), ()), (), ([(1 : Int), (2 : Int)], ())))
  else
  bif (x1 == (5 : Int)) then
    (some (((-1 : Int), ()), (), ([(1 : Int), (2 : Int)], ())))
  else
  bif (x1 == (7 : Int)) then
    (some (((-1 : Int), ()), (), ([(1 : Int), (2 : Int)], ())))
  else
  bif (x1 == (8 : Int)) then
    (some (((-1 : Int), ()), (), ([(1 : Int), (2 : Int)], ())))
  else
  bif (x1 == (6 : Int)) then
    (some (((-1 : Int), ()), (), ([(1 : Int), (2 : Int), (3 : Int)], ())))
  else
  some (((-1 : Int), ()), (), ([], ()))
noncomputable abbrev U_spec_l10Places : sp_spec_l10Places.T → Option sq_spec_l10Places.T := fun x => F_spec_l10Places x.1.1
theorem e_spec_l10Places : ∀ x, evCode ty (gamOf g_spec_l10Places) j_spec_l10Places (lamOf []) b_spec_l10Places (sp_spec_l10Places.hd x) (finN ty sq_spec_l10Places [.tmp 2, .tmp 3]) = U_spec_l10Places x := fun x => by kernel_rfl
theorem c_spec_l10Places : FnS P 128 sp_spec_l10Places sq_spec_l10Places U_spec_l10Places :=
  fnS_of_ev tyOk mixed gok_spec_l10Places (fn := Try.f128) (by kernel_rfl) (c := b_spec_l10Places) (by kernel_rfl) (by kernel_rfl) (by kernel_rfl) (lam_ok (tab := []) (by kernel_rfl) (fun p hp => by cases hp)) e_spec_l10Places

/-! spec.l10Ready -/
abbrev sp_spec_l10Ready : Sp := ⟨88, [(0, .val false (.sl (.int .i64))), (1, .rp k5)], [], []⟩
abbrev sq_spec_l10Ready : Sp := ⟨1, [(0, .val false .bool)], [], []⟩
noncomputable def g_spec_l10Ready : List (FuncId × SumX) := [(63, cN sp_spec_l1In sq_spec_l1In U_spec_l1In), (106, cN sp_spec_l10Args sq_spec_l10Args U_spec_l10Args), (128, fN sp_spec_l10Places sq_spec_l10Places U_spec_l10Places)]
def j_spec_l10Ready : Nat → Option (List (Nat × SS)) := jOf [(2, [(28, .val false .bool)]), (13, [(4, .val false .bool)])]
theorem gok_spec_l10Ready : GOk P (gamOf g_spec_l10Ready) := gam_ok (tab := g_spec_l10Ready) (by
    intro p hp
    simp only [g_spec_l10Ready, List.mem_cons, List.not_mem_nil, or_false] at hp
    rcases hp with rfl | rfl | rfl
    · exact cN_ok c_spec_l1In rfl
    · exact cN_ok c_spec_l10Args rfl
    · exact fN_ok c_spec_l10Places rfl)
noncomputable abbrev b_spec_l10Ready : Code := bodyOf Try.f116
abbrev sp_spec_l10Ready_l9 : Sp := ⟨88, [(0, .val false (.sl (.int .i64))), (1, .rp k5), (7, .fix (.own 59000)), (8, .val false (.int .i64)), (9, .val false (.int .i64))], [], [(59000, (.int .i64), true)]⟩
abbrev xs_spec_l10Ready_l9 : List (Ex × Sp) := [(.exit 0, ⟨88, [(0, .val false (.sl (.int .i64))), (1, .rp k5), (8, .val false (.int .i64))], [], []⟩), (.ret, ⟨88, [(4, .val false .bool)], [], []⟩)]
noncomputable def s_spec_l10Ready_l9 : sp_spec_l10Ready_l9.T → Option (sp_spec_l10Ready_l9.T ⊕ XT xs_spec_l10Ready_l9) := fun x =>
  bif (decide (x.1.2.2.2.1 < ((x.2.2.1).length : Int))) then
    (bif ib x.1.2.2.2.1 (x.2.2.1).length then
    bif ib (IntKind.wrap .i64 (x.1.2.1.1 + ((x.2.2.1).getD (Int.toNat x.1.2.2.2.1) (K.zero (.int .i64))))) (x.1.1).length then
    bif (decide (((x.1.1).getD (Int.toNat (IntKind.wrap .i64 (x.1.2.1.1 + ((x.2.2.1).getD (Int.toNat x.1.2.2.2.1) (K.zero (.int .i64)))))) (K.zero (.int .i64))) ≥ (24 : Int))) then
      (some (.inr (.inr ((false, ()), (), ()))))
    else
    some (.inl ((x.1.1, (x.1.2.1, (x.1.2.2.1, ((IntKind.wrap .i64 (x.1.2.2.2.1 + (1 : Int))), ())))), (), (x.2.2.1, ())))
    else none
    else none)
  else
  some (.inr (.inl ((x.1.1, (x.1.2.1, (x.1.2.2.1, ()))), (), ())))
noncomputable def l_spec_l10Ready_l9 : sp_spec_l10Ready_l9.T → Option (XT xs_spec_l10Ready_l9) := lim s_spec_l10Ready_l9
theorem es_spec_l10Ready_l9 : ∀ x, evCode ty (gamOf g_spec_l10Ready) j_spec_l10Ready (lamOf []) (loopAt b_spec_l10Ready 9) (sp_spec_l10Ready_l9.hd x) (rdK sp_spec_l10Ready_l9 xs_spec_l10Ready_l9) = s_spec_l10Ready_l9 x := fun x => by kernel_rfl
theorem ls_spec_l10Ready_l9 : LSumOk P (loopAt b_spec_l10Ready 9) (loopL sp_spec_l10Ready_l9 xs_spec_l10Ready_l9 l_spec_l10Ready_l9) := loop_ok tyOk mixed gok_spec_l10Ready (by kernel_rfl) (by kernel_rfl) (lam_ok (tab := []) (by kernel_rfl) (fun p hp => by cases hp)) es_spec_l10Ready_l9 lim_itr
noncomputable def F_spec_l10Ready (x1 : K.T (.sl (.int .i64))) (x2 : K.T k5) : Option sq_spec_l10Ready.T :=
  (bif (decide (x2.1 ≥ ((x1).length : Int))) then
      (some (true, ()))
    else
    bif ib x2.1 (x1).length then
    (F_spec_l1In ((x1).getD (Int.toNat x2.1) (K.zero (.int .i64))) (1 : Int) (13 : Int)).bind fun y1 =>
    some ((!y1.1.1), ())
    else none).bind fun y2 =>
  bif y2.1 then
    (some ((false, ()), (), ()))
  else
  bif ib x2.1 (x1).length then
  (F_spec_l10Args ((x1).getD (Int.toNat x2.1) (K.zero (.int .i64)))).bind fun y3 =>
  bif (decide ((IntKind.wrap .i64 (x2.1 + y3.1.1)) ≥ ((x1).length : Int))) then
    (some ((false, ()), (), ()))
  else
  (F_spec_l10Places ((x1).getD (Int.toNat x2.1) (K.zero (.int .i64)))).bind fun y4 =>
  (l_spec_l10Ready_l9 ((x1, (x2, (y4.1.1, ((0 : Int), ())))), (), (y4.2.2.1, ()))).bind fun y5 =>
  (match y5 with
  | .inl y6 => (bif (decide (y6.1.2.2.1 < (0 : Int))) then
        (some (true, ()))
      else
      bif ib (IntKind.wrap .i64 (y6.1.2.1.1 + y6.1.2.2.1)) (y6.1.1).length then
      some ((decide (((y6.1.1).getD (Int.toNat (IntKind.wrap .i64 (y6.1.2.1.1 + y6.1.2.2.1))) (K.zero (.int .i64))) < ((y6.1.2.1.2.2.1).length : Int))), ())
      else none).bind fun y8 =>
    some ((y8.1, ()), (), ())
  | .inr z7 => some ((z7.1.1, ()), (), ()))
  else none
noncomputable abbrev U_spec_l10Ready : sp_spec_l10Ready.T → Option sq_spec_l10Ready.T := fun x => F_spec_l10Ready x.1.1 x.1.2.1
theorem e_spec_l10Ready : ∀ x, evCode ty (gamOf g_spec_l10Ready) j_spec_l10Ready (lamOf [(9, loopL sp_spec_l10Ready_l9 xs_spec_l10Ready_l9 l_spec_l10Ready_l9)]) b_spec_l10Ready (sp_spec_l10Ready.hd x) (finN ty sq_spec_l10Ready [.tmp 4]) = U_spec_l10Ready x := fun x => by kernel_rfl
theorem c_spec_l10Ready : FnS P 116 sp_spec_l10Ready sq_spec_l10Ready U_spec_l10Ready :=
  fnS_of_ev tyOk mixed gok_spec_l10Ready (fn := Try.f116) (by kernel_rfl) (c := b_spec_l10Ready) (by kernel_rfl) (by kernel_rfl) (by kernel_rfl) (lam_ok (tab := [(9, loopL sp_spec_l10Ready_l9 xs_spec_l10Ready_l9 l_spec_l10Ready_l9)]) (by kernel_rfl) (by
    intro p hp
    simp only [List.mem_cons, List.not_mem_nil, or_false] at hp
    rcases hp with rfl
    · exact @ls_spec_l10Ready_l9)) e_spec_l10Ready

/-! spec.WordOf -/
abbrev sp_spec_WordOf : Sp := ⟨6, [(0, .val false (.int .i64))], [], []⟩
abbrev sq_spec_WordOf : Sp := ⟨1, [(0, .val false (.int .i64))], [], []⟩
noncomputable def g_spec_WordOf : List (FuncId × SumX) := []
def j_spec_WordOf : Nat → Option (List (Nat × SS)) := jOf []
theorem gok_spec_WordOf : GOk P (gamOf g_spec_WordOf) := gam_ok (tab := g_spec_WordOf) (fun p hp => by cases hp)
noncomputable abbrev b_spec_WordOf : Code := bodyOf Try.f140
noncomputable def F_spec_WordOf (x1 : K.T (.int .i64)) : Option sq_spec_WordOf.T :=
  some (((IntKind.wrap .i64 (IntKind.wrap .u16 x1)), ()), (), ())
noncomputable abbrev U_spec_WordOf : sp_spec_WordOf.T → Option sq_spec_WordOf.T := fun x => F_spec_WordOf x.1.1
theorem e_spec_WordOf : ∀ x, evCode ty (gamOf g_spec_WordOf) j_spec_WordOf (lamOf []) b_spec_WordOf (sp_spec_WordOf.hd x) (finN ty sq_spec_WordOf [.tmp 2]) = U_spec_WordOf x := fun x => by kernel_rfl
theorem c_spec_WordOf : FnS P 140 sp_spec_WordOf sq_spec_WordOf U_spec_WordOf :=
  fnS_of_ev tyOk mixed gok_spec_WordOf (fn := Try.f140) (by kernel_rfl) (c := b_spec_WordOf) (by kernel_rfl) (by kernel_rfl) (by kernel_rfl) (lam_ok (tab := []) (by kernel_rfl) (fun p hp => by cases hp)) e_spec_WordOf

/-! spec.Complement -/
abbrev sp_spec_Complement : Sp := ⟨6, [(0, .val false (.int .i64))], [], []⟩
abbrev sq_spec_Complement : Sp := ⟨1, [(0, .val false (.int .i64))], [], []⟩
noncomputable def g_spec_Complement : List (FuncId × SumX) := [(140, cN sp_spec_WordOf sq_spec_WordOf U_spec_WordOf)]
def j_spec_Complement : Nat → Option (List (Nat × SS)) := jOf []
theorem gok_spec_Complement : GOk P (gamOf g_spec_Complement) := gam_ok (tab := g_spec_Complement) (by
    intro p hp
    simp only [g_spec_Complement, List.mem_cons, List.not_mem_nil, or_false] at hp
    rcases hp with rfl
    · exact cN_ok c_spec_WordOf rfl)
noncomputable abbrev b_spec_Complement : Code := bodyOf Try.f131
noncomputable def F_spec_Complement (x1 : K.T (.int .i64)) : Option sq_spec_Complement.T :=
  (F_spec_WordOf x1).bind fun y1 =>
  some (((IntKind.wrap .i64 ((65535 : Int) - y1.1.1)), ()), (), ())
noncomputable abbrev U_spec_Complement : sp_spec_Complement.T → Option sq_spec_Complement.T := fun x => F_spec_Complement x.1.1
theorem e_spec_Complement : ∀ x, evCode ty (gamOf g_spec_Complement) j_spec_Complement (lamOf []) b_spec_Complement (sp_spec_Complement.hd x) (finN ty sq_spec_Complement [.tmp 2]) = U_spec_Complement x := fun x => by kernel_rfl
theorem c_spec_Complement : FnS P 131 sp_spec_Complement sq_spec_Complement U_spec_Complement :=
  fnS_of_ev tyOk mixed gok_spec_Complement (fn := Try.f131) (by kernel_rfl) (c := b_spec_Complement) (by kernel_rfl) (by kernel_rfl) (by kernel_rfl) (lam_ok (tab := []) (by kernel_rfl) (fun p hp => by cases hp)) e_spec_Complement

/-! spec.SignedOf -/
abbrev sp_spec_SignedOf : Sp := ⟨7, [(0, .val false (.int .i64))], [], []⟩
abbrev sq_spec_SignedOf : Sp := ⟨1, [(0, .val false (.int .i64))], [], []⟩
noncomputable def g_spec_SignedOf : List (FuncId × SumX) := []
def j_spec_SignedOf : Nat → Option (List (Nat × SS)) := jOf []
theorem gok_spec_SignedOf : GOk P (gamOf g_spec_SignedOf) := gam_ok (tab := g_spec_SignedOf) (fun p hp => by cases hp)
noncomputable abbrev b_spec_SignedOf : Code := bodyOf Try.f138
noncomputable def F_spec_SignedOf (x1 : K.T (.int .i64)) : Option sq_spec_SignedOf.T :=
  some (((IntKind.wrap .i64 (IntKind.wrap .i16 (IntKind.wrap .u16 x1))), ()), (), ())
noncomputable abbrev U_spec_SignedOf : sp_spec_SignedOf.T → Option sq_spec_SignedOf.T := fun x => F_spec_SignedOf x.1.1
theorem e_spec_SignedOf : ∀ x, evCode ty (gamOf g_spec_SignedOf) j_spec_SignedOf (lamOf []) b_spec_SignedOf (sp_spec_SignedOf.hd x) (finN ty sq_spec_SignedOf [.tmp 2]) = U_spec_SignedOf x := fun x => by kernel_rfl
theorem c_spec_SignedOf : FnS P 138 sp_spec_SignedOf sq_spec_SignedOf U_spec_SignedOf :=
  fnS_of_ev tyOk mixed gok_spec_SignedOf (fn := Try.f138) (by kernel_rfl) (c := b_spec_SignedOf) (by kernel_rfl) (by kernel_rfl) (by kernel_rfl) (lam_ok (tab := []) (by kernel_rfl) (fun p hp => by cases hp)) e_spec_SignedOf

/-! spec.l10Row -/
abbrev sp_spec_l10Row : Sp := ⟨31, [(0, .rp k5), (1, .val false (.int .i64)), (2, .val false (.int .i64)), (3, .val false (.int .i64))], [], []⟩
abbrev sq_spec_l10Row : Sp := ⟨2, [(0, .val false (.int .i64)), (1, .val false (.int .i64))], [], []⟩
noncomputable def g_spec_l10Row : List (FuncId × SumX) := [(63, cN sp_spec_l1In sq_spec_l1In U_spec_l1In), (131, cN sp_spec_Complement sq_spec_Complement U_spec_Complement), (138, cN sp_spec_SignedOf sq_spec_SignedOf U_spec_SignedOf)]
def j_spec_l10Row : Nat → Option (List (Nat × SS)) := jOf []
theorem gok_spec_l10Row : GOk P (gamOf g_spec_l10Row) := gam_ok (tab := g_spec_l10Row) (by
    intro p hp
    simp only [g_spec_l10Row, List.mem_cons, List.not_mem_nil, or_false] at hp
    rcases hp with rfl | rfl | rfl
    · exact cN_ok c_spec_l1In rfl
    · exact cN_ok c_spec_Complement rfl
    · exact cN_ok c_spec_SignedOf rfl)
noncomputable abbrev b_spec_l10Row : Code := bodyOf Try.f129
noncomputable def F_spec_l10Row (x1 : K.T k5) (x2 : K.T (.int .i64)) (x3 : K.T (.int .i64)) (x4 : K.T (.int .i64)) : Option sq_spec_l10Row.T :=
  (F_spec_Complement x4).bind fun y1 =>
  (F_spec_SignedOf y1.1.1).bind fun y2 =>
  (F_spec_l1In y2.1.1 (0 : Int) (IntKind.wrap .i64 (x3 - (1 : Int)))).bind fun y3 =>
  bif (!y3.1.1) then
    (some (((0 : Int), ((3 : Int), ())), (), ()))
  else
  bif (decide ((IntKind.wrap .i64 (x2 + y2.1.1)) ≥ ((x1.2.2.1).length : Int))) then
    (some (((0 : Int), ((1 : Int), ())), (), ()))
  else
  some (((IntKind.wrap .i64 (x2 + y2.1.1)), ((0 : Int), ())), (), ())
noncomputable abbrev U_spec_l10Row : sp_spec_l10Row.T → Option sq_spec_l10Row.T := fun x => F_spec_l10Row x.1.1 x.1.2.1 x.1.2.2.1 x.1.2.2.2.1
theorem e_spec_l10Row : ∀ x, evCode ty (gamOf g_spec_l10Row) j_spec_l10Row (lamOf []) b_spec_l10Row (sp_spec_l10Row.hd x) (finN ty sq_spec_l10Row [.tmp 8, .tmp 9]) = U_spec_l10Row x := fun x => by kernel_rfl
theorem c_spec_l10Row : FnS P 129 sp_spec_l10Row sq_spec_l10Row U_spec_l10Row :=
  fnS_of_ev tyOk mixed gok_spec_l10Row (fn := Try.f129) (by kernel_rfl) (c := b_spec_l10Row) (by kernel_rfl) (by kernel_rfl) (by kernel_rfl) (lam_ok (tab := []) (by kernel_rfl) (fun p hp => by cases hp)) e_spec_l10Row

/-! spec.l2Bit -/
abbrev sp_spec_l2Bit : Sp := ⟨4, [(0, .val false .bool)], [], []⟩
abbrev sq_spec_l2Bit : Sp := ⟨1, [(0, .val false (.int .i64))], [], []⟩
noncomputable def g_spec_l2Bit : List (FuncId × SumX) := []
def j_spec_l2Bit : Nat → Option (List (Nat × SS)) := jOf []
theorem gok_spec_l2Bit : GOk P (gamOf g_spec_l2Bit) := gam_ok (tab := g_spec_l2Bit) (fun p hp => by cases hp)
noncomputable abbrev b_spec_l2Bit : Code := bodyOf Try.f86
noncomputable def F_spec_l2Bit (x1 : K.T .bool) : Option sq_spec_l2Bit.T :=
  bif x1 then
    (some (((1 : Int), ()), (), ()))
  else
  some (((0 : Int), ()), (), ())
noncomputable abbrev U_spec_l2Bit : sp_spec_l2Bit.T → Option sq_spec_l2Bit.T := fun x => F_spec_l2Bit x.1.1
theorem e_spec_l2Bit : ∀ x, evCode ty (gamOf g_spec_l2Bit) j_spec_l2Bit (lamOf []) b_spec_l2Bit (sp_spec_l2Bit.hd x) (finN ty sq_spec_l2Bit [.tmp 2]) = U_spec_l2Bit x := fun x => by kernel_rfl
theorem c_spec_l2Bit : FnS P 86 sp_spec_l2Bit sq_spec_l2Bit U_spec_l2Bit :=
  fnS_of_ev tyOk mixed gok_spec_l2Bit (fn := Try.f86) (by kernel_rfl) (c := b_spec_l2Bit) (by kernel_rfl) (by kernel_rfl) (by kernel_rfl) (lam_ok (tab := []) (by kernel_rfl) (fun p hp => by cases hp)) e_spec_l2Bit

/-! spec.l2Binary -/
abbrev sp_spec_l2Binary : Sp := ⟨81, [(0, .val false (.int .i64)), (1, .val false (.int .i64)), (2, .val false (.int .i64))], [], []⟩
abbrev sq_spec_l2Binary : Sp := ⟨2, [(0, .val false (.int .i64)), (1, .val false (.int .i64))], [], []⟩
noncomputable def g_spec_l2Binary : List (FuncId × SumX) := [(86, cN sp_spec_l2Bit sq_spec_l2Bit U_spec_l2Bit), (138, cN sp_spec_SignedOf sq_spec_SignedOf U_spec_SignedOf), (140, cN sp_spec_WordOf sq_spec_WordOf U_spec_WordOf)]
def j_spec_l2Binary : Nat → Option (List (Nat × SS)) := jOf []
theorem gok_spec_l2Binary : GOk P (gamOf g_spec_l2Binary) := gam_ok (tab := g_spec_l2Binary) (by
    intro p hp
    simp only [g_spec_l2Binary, List.mem_cons, List.not_mem_nil, or_false] at hp
    rcases hp with rfl | rfl | rfl
    · exact cN_ok c_spec_l2Bit rfl
    · exact cN_ok c_spec_SignedOf rfl
    · exact cN_ok c_spec_WordOf rfl)
noncomputable abbrev b_spec_l2Binary : Code := bodyOf Try.f141
noncomputable def F_spec_l2Binary (x1 : K.T (.int .i64)) (x2 : K.T (.int .i64)) (x3 : K.T (.int .i64)) : Option sq_spec_l2Binary.T :=
  (F_spec_SignedOf x2).bind fun y1 =>
  (F_spec_SignedOf x3).bind fun y2 =>
  bif (x1 == (1 : Int)) then
    ((F_spec_WordOf (IntKind.wrap .i64 (y1.1.1 + y2.1.1))).bind fun y3 =>
    some ((y3.1.1, ((0 : Int), ())), (), ()))
  else
  bif (x1 == (2 : Int)) then
    ((F_spec_WordOf (IntKind.wrap .i64 (y1.1.1 - y2.1.1))).bind fun y4 =>
    some ((y4.1.1, ((0 : Int), ())), (), ()))
  else
  bif (x1 == (3 : Int)) then
    ((F_spec_WordOf (IntKind.wrap .i64 (y1.1.1 * y2.1.1))).bind fun y5 =>
    some ((y5.1.1, ((0 : Int), ())), (), ()))
  else
  bif (x1 == (4 : Int)) then
    (bif (y2.1.1 == (0 : Int)) then
      (some (((0 : Int), ((4 : Int), ())), (), ()))
    else
    bif (x1 == (4 : Int)) then
      (bif (y2.1.1 == 0) then none else
      (F_spec_WordOf (IntKind.wrap .i64 (Int.tdiv y1.1.1 y2.1.1))).bind fun y6 =>
      some ((y6.1.1, ((0 : Int), ())), (), ()))
    else
    bif (y2.1.1 == 0) then none else
    (F_spec_WordOf (Int.tmod y1.1.1 y2.1.1)).bind fun y7 =>
    some ((y7.1.1, ((0 : Int), ())), (), ()))
  else
  bif (x1 == (5 : Int)) then
    (bif (y2.1.1 == (0 : Int)) then
      (some (((0 : Int), ((4 : Int), ())), (), ()))
    else
    bif (x1 == (4 : Int)) then
      (bif (y2.1.1 == 0) then none else
      (F_spec_WordOf (IntKind.wrap .i64 (Int.tdiv y1.1.1 y2.1.1))).bind fun y8 =>
      some ((y8.1.1, ((0 : Int), ())), (), ()))
    else
    bif (y2.1.1 == 0) then none else
    (F_spec_WordOf (Int.tmod y1.1.1 y2.1.1)).bind fun y9 =>
    some ((y9.1.1, ((0 : Int), ())), (), ()))
  else
  bif (x1 == (6 : Int)) then
    ((F_spec_WordOf x2).bind fun y10 =>
    (F_spec_WordOf x3).bind fun y11 =>
    some (((IntKind.wrap .i64 (((BitVec.ofInt (IntKind.bits .i64) y10.1.1 &&& BitVec.ofInt (IntKind.bits .i64) y11.1.1).toNat : Int))), ((0 : Int), ())), (), ()))
  else
  bif (x1 == (7 : Int)) then
    ((F_spec_WordOf x2).bind fun y12 =>
    (F_spec_WordOf x3).bind fun y13 =>
    some (((IntKind.wrap .i64 (((BitVec.ofInt (IntKind.bits .i64) y12.1.1 ||| BitVec.ofInt (IntKind.bits .i64) y13.1.1).toNat : Int))), ((0 : Int), ())), (), ()))
  else
  bif (x1 == (8 : Int)) then
    ((F_spec_WordOf x2).bind fun y14 =>
    (F_spec_WordOf x3).bind fun y15 =>
    some (((IntKind.wrap .i64 (((BitVec.ofInt (IntKind.bits .i64) y14.1.1 ^^^ BitVec.ofInt (IntKind.bits .i64) y15.1.1).toNat : Int))), ((0 : Int), ())), (), ()))
  else
  bif (x1 == (9 : Int)) then
    ((F_spec_l2Bit (decide (y1.1.1 < y2.1.1))).bind fun y16 =>
    some ((y16.1.1, ((0 : Int), ())), (), ()))
  else
  bif (x1 == (10 : Int)) then
    ((F_spec_l2Bit (y1.1.1 == y2.1.1)).bind fun y17 =>
    some ((y17.1.1, ((0 : Int), ())), (), ()))
  else
  some (((0 : Int), ((3 : Int), ())), (), ())
noncomputable abbrev U_spec_l2Binary : sp_spec_l2Binary.T → Option sq_spec_l2Binary.T := fun x => F_spec_l2Binary x.1.1 x.1.2.1 x.1.2.2.1
theorem e_spec_l2Binary : ∀ x, evCode ty (gamOf g_spec_l2Binary) j_spec_l2Binary (lamOf []) b_spec_l2Binary (sp_spec_l2Binary.hd x) (finN ty sq_spec_l2Binary [.tmp 6, .tmp 7]) = U_spec_l2Binary x := fun x => by kernel_rfl
theorem c_spec_l2Binary : FnS P 141 sp_spec_l2Binary sq_spec_l2Binary U_spec_l2Binary :=
  fnS_of_ev tyOk mixed gok_spec_l2Binary (fn := Try.f141) (by kernel_rfl) (c := b_spec_l2Binary) (by kernel_rfl) (by kernel_rfl) (by kernel_rfl) (lam_ok (tab := []) (by kernel_rfl) (fun p hp => by cases hp)) e_spec_l2Binary

/-! spec.BinaryInv -/
abbrev sp_spec_BinaryInv : Sp := ⟨25, [(0, .val false (.int .i64)), (1, .val false (.int .i64)), (2, .val false (.int .i64))], [], []⟩
abbrev sq_spec_BinaryInv : Sp := ⟨1, [(0, .val true k6)], [], []⟩
noncomputable def g_spec_BinaryInv : List (FuncId × SumX) := [(131, cN sp_spec_Complement sq_spec_Complement U_spec_Complement), (141, cN sp_spec_l2Binary sq_spec_l2Binary U_spec_l2Binary)]
def j_spec_BinaryInv : Nat → Option (List (Nat × SS)) := jOf []
theorem gok_spec_BinaryInv : GOk P (gamOf g_spec_BinaryInv) := gam_ok (tab := g_spec_BinaryInv) (by
    intro p hp
    simp only [g_spec_BinaryInv, List.mem_cons, List.not_mem_nil, or_false] at hp
    rcases hp with rfl | rfl
    · exact cN_ok c_spec_Complement rfl
    · exact cN_ok c_spec_l2Binary rfl)
noncomputable abbrev b_spec_BinaryInv : Code := bodyOf Try.f139
noncomputable def F_spec_BinaryInv (x1 : K.T (.int .i64)) (x2 : K.T (.int .i64)) (x3 : K.T (.int .i64)) : Option sq_spec_BinaryInv.T :=
  (F_spec_Complement x2).bind fun y1 =>
  (F_spec_Complement x3).bind fun y2 =>
  (F_spec_l2Binary x1 y1.1.1 y2.1.1).bind fun y3 =>
  bif (y3.1.2.1 != (0 : Int)) then
    (some (((y3.1.2.1, (0 : Int)), ()), (), ()))
  else
  (F_spec_Complement y3.1.1).bind fun y4 =>
  some ((((0 : Int), y4.1.1), ()), (), ())
noncomputable abbrev U_spec_BinaryInv : sp_spec_BinaryInv.T → Option sq_spec_BinaryInv.T := fun x => F_spec_BinaryInv x.1.1 x.1.2.1 x.1.2.2.1
theorem e_spec_BinaryInv : ∀ x, evCode ty (gamOf g_spec_BinaryInv) j_spec_BinaryInv (lamOf []) b_spec_BinaryInv (sp_spec_BinaryInv.hd x) (finN ty sq_spec_BinaryInv [.cell 6 131]) = U_spec_BinaryInv x := fun x => by kernel_rfl
theorem c_spec_BinaryInv : FnS P 139 sp_spec_BinaryInv sq_spec_BinaryInv U_spec_BinaryInv :=
  fnS_of_ev tyOk mixed gok_spec_BinaryInv (fn := Try.f139) (by kernel_rfl) (c := b_spec_BinaryInv) (by kernel_rfl) (by kernel_rfl) (by kernel_rfl) (lam_ok (tab := []) (by kernel_rfl) (fun p hp => by cases hp)) e_spec_BinaryInv

/-! spec.l10Two -/
abbrev sp_spec_l10Two : Sp := ⟨46, [(0, .fix (.ptr 60000 0)), (1, .val false (.sl (.int .i64)))], [(60000, [.val (.int .i64), .fix (.own 63000), .fix (.own 63001), .val (.int .i64), .val (.int .i64), .val (.int .i64), .val .bool])], [(63000, (.int .i64), true), (63001, (.int .i64), true)]⟩
abbrev sq_spec_l10Two : Sp := ⟨1, [(0, .val false (.int .i64))], [(60000, [.val (.int .i64), .fix (.own 59000), .fix (.own 59001), .val (.int .i64), .val (.int .i64), .val (.int .i64), .val .bool])], [(59000, (.int .i64), true), (59001, (.int .i64), true)]⟩
noncomputable def g_spec_l10Two : List (FuncId × SumX) := [(139, cN sp_spec_BinaryInv sq_spec_BinaryInv U_spec_BinaryInv)]
def j_spec_l10Two : Nat → Option (List (Nat × SS)) := jOf []
theorem gok_spec_l10Two : GOk P (gamOf g_spec_l10Two) := gam_ok (tab := g_spec_l10Two) (by
    intro p hp
    simp only [g_spec_l10Two, List.mem_cons, List.not_mem_nil, or_false] at hp
    rcases hp with rfl
    · exact cN_ok c_spec_BinaryInv rfl)
noncomputable abbrev b_spec_l10Two : Code := bodyOf Try.f130
noncomputable def F_spec_l10Two (x1 : K.T (.sl (.int .i64))) (x2 : K.T (.int .i64)) (x3 : K.T (.int .i64)) (x4 : K.T (.int .i64)) (x5 : K.T (.int .i64)) (x6 : K.T .bool) (x7 : List (K.T (.int .i64))) (x8 : List (K.T (.int .i64))) : Option sq_spec_l10Two.T :=
  bif ib (3 : Int) (x1).length then
  bif ib (1 : Int) (x1).length then
  bif ib ((x1).getD (Int.toNat (1 : Int)) (K.zero (.int .i64))) (x7).length then
  bif ib (2 : Int) (x1).length then
  bif ib ((x1).getD (Int.toNat (2 : Int)) (K.zero (.int .i64))) (x7).length then
  (F_spec_BinaryInv ((x1).getD (Int.toNat (3 : Int)) (K.zero (.int .i64))) ((x7).getD (Int.toNat ((x1).getD (Int.toNat (1 : Int)) (K.zero (.int .i64)))) (K.zero (.int .i64))) ((x7).getD (Int.toNat ((x1).getD (Int.toNat (2 : Int)) (K.zero (.int .i64)))) (K.zero (.int .i64)))).bind fun y1 =>
  bif (y1.1.1.1 == (3 : Int)) then
    (some (((1 : Int), ()), ((x2, (x3, (x4, (x5, (x6, ()))))), ()), (x7, (x8, ()))))
  else
  bif (y1.1.1.1 == (0 : Int)) then
    (bif ib (0 : Int) (x1).length then
    bif ib ((x1).getD (Int.toNat (0 : Int)) (K.zero (.int .i64))) (x7).length then
    some ((y1.1.1.1, ()), ((x2, (x3, (x4, (x5, (x6, ()))))), ()), ((x7).set (Int.toNat ((x1).getD (Int.toNat (0 : Int)) (K.zero (.int .i64)))) y1.1.1.2, (x8, ())))
    else none
    else none)
  else
  some ((y1.1.1.1, ()), ((x2, (x3, (x4, (x5, (x6, ()))))), ()), (x7, (x8, ())))
  else none
  else none
  else none
  else none
  else none
noncomputable abbrev U_spec_l10Two : sp_spec_l10Two.T → Option sq_spec_l10Two.T := fun x => F_spec_l10Two x.1.1 x.2.1.1.1 x.2.1.1.2.1 x.2.1.1.2.2.1 x.2.1.1.2.2.2.1 x.2.1.1.2.2.2.2.1 x.2.2.1 x.2.2.2.1
theorem e_spec_l10Two : ∀ x, evCode ty (gamOf g_spec_l10Two) j_spec_l10Two (lamOf []) b_spec_l10Two (sp_spec_l10Two.hd x) (finN ty sq_spec_l10Two [.tmp 4]) = U_spec_l10Two x := fun x => by kernel_rfl
theorem c_spec_l10Two : FnS P 130 sp_spec_l10Two sq_spec_l10Two U_spec_l10Two :=
  fnS_of_ev tyOk mixed gok_spec_l10Two (fn := Try.f130) (by kernel_rfl) (c := b_spec_l10Two) (by kernel_rfl) (by kernel_rfl) (by kernel_rfl) (lam_ok (tab := []) (by kernel_rfl) (fun p hp => by cases hp)) e_spec_l10Two

/-! spec.NegOf -/
abbrev sp_spec_NegOf : Sp := ⟨7, [(0, .val false (.int .i64))], [], []⟩
abbrev sq_spec_NegOf : Sp := ⟨1, [(0, .val false (.int .i64))], [], []⟩
noncomputable def g_spec_NegOf : List (FuncId × SumX) := [(138, cN sp_spec_SignedOf sq_spec_SignedOf U_spec_SignedOf), (140, cN sp_spec_WordOf sq_spec_WordOf U_spec_WordOf)]
def j_spec_NegOf : Nat → Option (List (Nat × SS)) := jOf []
theorem gok_spec_NegOf : GOk P (gamOf g_spec_NegOf) := gam_ok (tab := g_spec_NegOf) (by
    intro p hp
    simp only [g_spec_NegOf, List.mem_cons, List.not_mem_nil, or_false] at hp
    rcases hp with rfl | rfl
    · exact cN_ok c_spec_SignedOf rfl
    · exact cN_ok c_spec_WordOf rfl)
noncomputable abbrev b_spec_NegOf : Code := bodyOf Try.f132
noncomputable def F_spec_NegOf (x1 : K.T (.int .i64)) : Option sq_spec_NegOf.T :=
  (F_spec_SignedOf x1).bind fun y1 =>
  (F_spec_WordOf (IntKind.wrap .i64 (0 - y1.1.1))).bind fun y2 =>
  some ((y2.1.1, ()), (), ())
noncomputable abbrev U_spec_NegOf : sp_spec_NegOf.T → Option sq_spec_NegOf.T := fun x => F_spec_NegOf x.1.1
theorem e_spec_NegOf : ∀ x, evCode ty (gamOf g_spec_NegOf) j_spec_NegOf (lamOf []) b_spec_NegOf (sp_spec_NegOf.hd x) (finN ty sq_spec_NegOf [.tmp 2]) = U_spec_NegOf x := fun x => by kernel_rfl
theorem c_spec_NegOf : FnS P 132 sp_spec_NegOf sq_spec_NegOf U_spec_NegOf :=
  fnS_of_ev tyOk mixed gok_spec_NegOf (fn := Try.f132) (by kernel_rfl) (c := b_spec_NegOf) (by kernel_rfl) (by kernel_rfl) (by kernel_rfl) (lam_ok (tab := []) (by kernel_rfl) (fun p hp => by cases hp)) e_spec_NegOf

/-! spec.NotOf -/
abbrev sp_spec_NotOf : Sp := ⟨6, [(0, .val false (.int .i64))], [], []⟩
abbrev sq_spec_NotOf : Sp := ⟨1, [(0, .val false (.int .i64))], [], []⟩
noncomputable def g_spec_NotOf : List (FuncId × SumX) := [(140, cN sp_spec_WordOf sq_spec_WordOf U_spec_WordOf)]
def j_spec_NotOf : Nat → Option (List (Nat × SS)) := jOf []
theorem gok_spec_NotOf : GOk P (gamOf g_spec_NotOf) := gam_ok (tab := g_spec_NotOf) (by
    intro p hp
    simp only [g_spec_NotOf, List.mem_cons, List.not_mem_nil, or_false] at hp
    rcases hp with rfl
    · exact cN_ok c_spec_WordOf rfl)
noncomputable abbrev b_spec_NotOf : Code := bodyOf Try.f133
noncomputable def F_spec_NotOf (x1 : K.T (.int .i64)) : Option sq_spec_NotOf.T :=
  (F_spec_WordOf x1).bind fun y1 =>
  bif (y1.1.1 == (0 : Int)) then
    (some (((1 : Int), ()), (), ()))
  else
  some (((0 : Int), ()), (), ())
noncomputable abbrev U_spec_NotOf : sp_spec_NotOf.T → Option sq_spec_NotOf.T := fun x => F_spec_NotOf x.1.1
theorem e_spec_NotOf : ∀ x, evCode ty (gamOf g_spec_NotOf) j_spec_NotOf (lamOf []) b_spec_NotOf (sp_spec_NotOf.hd x) (finN ty sq_spec_NotOf [.tmp 2]) = U_spec_NotOf x := fun x => by kernel_rfl
theorem c_spec_NotOf : FnS P 133 sp_spec_NotOf sq_spec_NotOf U_spec_NotOf :=
  fnS_of_ev tyOk mixed gok_spec_NotOf (fn := Try.f133) (by kernel_rfl) (c := b_spec_NotOf) (by kernel_rfl) (by kernel_rfl) (by kernel_rfl) (lam_ok (tab := []) (by kernel_rfl) (fun p hp => by cases hp)) e_spec_NotOf

/-! spec.SignOf -/
abbrev sp_spec_SignOf : Sp := ⟨13, [(0, .val false (.int .i64)), (1, .val false (.int .i64))], [], []⟩
abbrev sq_spec_SignOf : Sp := ⟨1, [(0, .val false (.int .i64))], [], []⟩
noncomputable def g_spec_SignOf : List (FuncId × SumX) := [(140, cN sp_spec_WordOf sq_spec_WordOf U_spec_WordOf)]
def j_spec_SignOf : Nat → Option (List (Nat × SS)) := jOf []
theorem gok_spec_SignOf : GOk P (gamOf g_spec_SignOf) := gam_ok (tab := g_spec_SignOf) (by
    intro p hp
    simp only [g_spec_SignOf, List.mem_cons, List.not_mem_nil, or_false] at hp
    rcases hp with rfl
    · exact cN_ok c_spec_WordOf rfl)
noncomputable abbrev b_spec_SignOf : Code := bodyOf Try.f134
noncomputable def F_spec_SignOf (x1 : K.T (.int .i64)) (x2 : K.T (.int .i64)) : Option sq_spec_SignOf.T :=
  (F_spec_WordOf x1).bind fun y1 =>
  (F_spec_WordOf x2).bind fun y2 =>
  some (((Int.tmod (IntKind.wrap .i64 ((IntKind.wrap .i64 ((IntKind.wrap .i64 (y1.1.1 * (31 : Int))) + y2.1.1)) + (1 : Int))) (65521 : Int)), ()), (), ())
noncomputable abbrev U_spec_SignOf : sp_spec_SignOf.T → Option sq_spec_SignOf.T := fun x => F_spec_SignOf x.1.1 x.1.2.1
theorem e_spec_SignOf : ∀ x, evCode ty (gamOf g_spec_SignOf) j_spec_SignOf (lamOf []) b_spec_SignOf (sp_spec_SignOf.hd x) (finN ty sq_spec_SignOf [.tmp 4]) = U_spec_SignOf x := fun x => by kernel_rfl
theorem c_spec_SignOf : FnS P 134 sp_spec_SignOf sq_spec_SignOf U_spec_SignOf :=
  fnS_of_ev tyOk mixed gok_spec_SignOf (fn := Try.f134) (by kernel_rfl) (c := b_spec_SignOf) (by kernel_rfl) (by kernel_rfl) (by kernel_rfl) (lam_ok (tab := []) (by kernel_rfl) (fun p hp => by cases hp)) e_spec_SignOf

/-! spec.l10Do -/
abbrev sp_spec_l10Do : Sp := ⟨289, [(0, .val false (.sl (.int .i64))), (1, .fix (.ptr 60000 0))], [(60000, [.val (.int .i64), .fix (.own 63000), .fix (.own 63001), .val (.int .i64), .val (.int .i64), .val (.int .i64), .val .bool])], [(63000, (.int .i64), true), (63001, (.int .i64), true)]⟩
abbrev sq_spec_l10Do : Sp := ⟨1, [(0, .val false (.int .i64))], [(60000, [.val (.int .i64), .fix (.own 59000), .fix (.own 59001), .val (.int .i64), .val (.int .i64), .val (.int .i64), .val .bool])], [(59000, (.int .i64), true), (59001, (.int .i64), true)]⟩
noncomputable def g_spec_l10Do : List (FuncId × SumX) := [(106, cN sp_spec_l10Args sq_spec_l10Args U_spec_l10Args), (129, cN sp_spec_l10Row sq_spec_l10Row U_spec_l10Row), (130, xN sp_spec_l10Two sq_spec_l10Two U_spec_l10Two), (131, cN sp_spec_Complement sq_spec_Complement U_spec_Complement), (132, cN sp_spec_NegOf sq_spec_NegOf U_spec_NegOf), (133, cN sp_spec_NotOf sq_spec_NotOf U_spec_NotOf), (134, cN sp_spec_SignOf sq_spec_SignOf U_spec_SignOf)]
def j_spec_l10Do : Nat → Option (List (Nat × SS)) := jOf []
theorem gok_spec_l10Do : GOk P (gamOf g_spec_l10Do) := gam_ok (tab := g_spec_l10Do) (by
    intro p hp
    simp only [g_spec_l10Do, List.mem_cons, List.not_mem_nil, or_false] at hp
    rcases hp with rfl | rfl | rfl | rfl | rfl | rfl | rfl
    · exact cN_ok c_spec_l10Args rfl
    · exact cN_ok c_spec_l10Row rfl
    · exact xN_ok c_spec_l10Two rfl
    · exact cN_ok c_spec_Complement rfl
    · exact cN_ok c_spec_NegOf rfl
    · exact cN_ok c_spec_NotOf rfl
    · exact cN_ok c_spec_SignOf rfl)
noncomputable abbrev b_spec_l10Do : Code := bodyOf Try.f117
noncomputable def F_spec_l10Do (x1 : K.T (.sl (.int .i64))) (x2 : K.T (.int .i64)) (x3 : K.T (.int .i64)) (x4 : K.T (.int .i64)) (x5 : K.T (.int .i64)) (x6 : K.T .bool) (x7 : List (K.T (.int .i64))) (x8 : List (K.T (.int .i64))) : Option sq_spec_l10Do.T :=
  bif ib x2 (x1).length then
  (F_spec_l10Args ((x1).getD (Int.toNat x2) (K.zero (.int .i64)))).bind fun y1 =>
  bif decide (0 ≤ (IntKind.wrap .i64 (x2 + (1 : Int))) ∧ (IntKind.wrap .i64 (x2 + (1 : Int))) ≤ (IntKind.wrap .i64 ((IntKind.wrap .i64 (x2 + (1 : Int))) + y1.1.1)) ∧ (IntKind.wrap .i64 ((IntKind.wrap .i64 (x2 + (1 : Int))) + y1.1.1)) ≤ ((x1).length : Int)) then
  (F_spec_l10Args ((x1).getD (Int.toNat x2) (K.zero (.int .i64)))).bind fun y2 =>
  bif (((x1).getD (Int.toNat x2) (K.zero (.int .i64))) == (1 : Int)) then
    (bif ib (0 : Int) (((x1).take (Int.toNat (IntKind.wrap .i64 ((IntKind.wrap .i64 (x2 + (1 : Int))) + y1.1.1)))).drop (Int.toNat (IntKind.wrap .i64 (x2 + (1 : Int))))).length then
    bif ib (1 : Int) (((x1).take (Int.toNat (IntKind.wrap .i64 ((IntKind.wrap .i64 (x2 + (1 : Int))) + y1.1.1)))).drop (Int.toNat (IntKind.wrap .i64 (x2 + (1 : Int))))).length then
    bif ib ((((x1).take (Int.toNat (IntKind.wrap .i64 ((IntKind.wrap .i64 (x2 + (1 : Int))) + y1.1.1)))).drop (Int.toNat (IntKind.wrap .i64 (x2 + (1 : Int))))).getD (Int.toNat (0 : Int)) (K.zero (.int .i64))) (x7).length then
    some (((0 : Int), ()), (((IntKind.wrap .i64 ((IntKind.wrap .i64 (x2 + (1 : Int))) + y2.1.1)), (x3, (x4, (x5, (x6, ()))))), ()), ((x7).set (Int.toNat ((((x1).take (Int.toNat (IntKind.wrap .i64 ((IntKind.wrap .i64 (x2 + (1 : Int))) + y1.1.1)))).drop (Int.toNat (IntKind.wrap .i64 (x2 + (1 : Int))))).getD (Int.toNat (0 : Int)) (K.zero (.int .i64)))) ((((x1).take (Int.toNat (IntKind.wrap .i64 ((IntKind.wrap .i64 (x2 + (1 : Int))) + y1.1.1)))).drop (Int.toNat (IntKind.wrap .i64 (x2 + (1 : Int))))).getD (Int.toNat (1 : Int)) (K.zero (.int .i64))), (x8, ())))
    else none
    else none
    else none)
  else
  bif (((x1).getD (Int.toNat x2) (K.zero (.int .i64))) == (2 : Int)) then
    (bif ib (0 : Int) (((x1).take (Int.toNat (IntKind.wrap .i64 ((IntKind.wrap .i64 (x2 + (1 : Int))) + y1.1.1)))).drop (Int.toNat (IntKind.wrap .i64 (x2 + (1 : Int))))).length then
    bif ib (1 : Int) (((x1).take (Int.toNat (IntKind.wrap .i64 ((IntKind.wrap .i64 (x2 + (1 : Int))) + y1.1.1)))).drop (Int.toNat (IntKind.wrap .i64 (x2 + (1 : Int))))).length then
    bif ib ((((x1).take (Int.toNat (IntKind.wrap .i64 ((IntKind.wrap .i64 (x2 + (1 : Int))) + y1.1.1)))).drop (Int.toNat (IntKind.wrap .i64 (x2 + (1 : Int))))).getD (Int.toNat (1 : Int)) (K.zero (.int .i64))) (x8).length then
    bif ib ((((x1).take (Int.toNat (IntKind.wrap .i64 ((IntKind.wrap .i64 (x2 + (1 : Int))) + y1.1.1)))).drop (Int.toNat (IntKind.wrap .i64 (x2 + (1 : Int))))).getD (Int.toNat (0 : Int)) (K.zero (.int .i64))) (x7).length then
    some (((0 : Int), ()), (((IntKind.wrap .i64 ((IntKind.wrap .i64 (x2 + (1 : Int))) + y2.1.1)), (x3, (x4, (x5, (x6, ()))))), ()), ((x7).set (Int.toNat ((((x1).take (Int.toNat (IntKind.wrap .i64 ((IntKind.wrap .i64 (x2 + (1 : Int))) + y1.1.1)))).drop (Int.toNat (IntKind.wrap .i64 (x2 + (1 : Int))))).getD (Int.toNat (0 : Int)) (K.zero (.int .i64)))) ((x8).getD (Int.toNat ((((x1).take (Int.toNat (IntKind.wrap .i64 ((IntKind.wrap .i64 (x2 + (1 : Int))) + y1.1.1)))).drop (Int.toNat (IntKind.wrap .i64 (x2 + (1 : Int))))).getD (Int.toNat (1 : Int)) (K.zero (.int .i64)))) (K.zero (.int .i64))), (x8, ())))
    else none
    else none
    else none
    else none)
  else
  bif (((x1).getD (Int.toNat x2) (K.zero (.int .i64))) == (3 : Int)) then
    (bif ib (0 : Int) (((x1).take (Int.toNat (IntKind.wrap .i64 ((IntKind.wrap .i64 (x2 + (1 : Int))) + y1.1.1)))).drop (Int.toNat (IntKind.wrap .i64 (x2 + (1 : Int))))).length then
    bif ib (1 : Int) (((x1).take (Int.toNat (IntKind.wrap .i64 ((IntKind.wrap .i64 (x2 + (1 : Int))) + y1.1.1)))).drop (Int.toNat (IntKind.wrap .i64 (x2 + (1 : Int))))).length then
    bif ib ((((x1).take (Int.toNat (IntKind.wrap .i64 ((IntKind.wrap .i64 (x2 + (1 : Int))) + y1.1.1)))).drop (Int.toNat (IntKind.wrap .i64 (x2 + (1 : Int))))).getD (Int.toNat (1 : Int)) (K.zero (.int .i64))) (x7).length then
    bif ib ((((x1).take (Int.toNat (IntKind.wrap .i64 ((IntKind.wrap .i64 (x2 + (1 : Int))) + y1.1.1)))).drop (Int.toNat (IntKind.wrap .i64 (x2 + (1 : Int))))).getD (Int.toNat (0 : Int)) (K.zero (.int .i64))) (x8).length then
    some (((0 : Int), ()), (((IntKind.wrap .i64 ((IntKind.wrap .i64 (x2 + (1 : Int))) + y2.1.1)), (x3, (x4, (x5, (x6, ()))))), ()), (x7, ((x8).set (Int.toNat ((((x1).take (Int.toNat (IntKind.wrap .i64 ((IntKind.wrap .i64 (x2 + (1 : Int))) + y1.1.1)))).drop (Int.toNat (IntKind.wrap .i64 (x2 + (1 : Int))))).getD (Int.toNat (0 : Int)) (K.zero (.int .i64)))) ((x7).getD (Int.toNat ((((x1).take (Int.toNat (IntKind.wrap .i64 ((IntKind.wrap .i64 (x2 + (1 : Int))) + y1.1.1)))).drop (Int.toNat (IntKind.wrap .i64 (x2 + (1 : Int))))).getD (Int.toNat (1 : Int)) (K.zero (.int .i64)))) (K.zero (.int .i64))), ())))
    else none
    else none
    else none
    else none)
  else
  bif (((x1).getD (Int.toNat x2) (K.zero (.int .i64))) == (4 : Int)) then
    (bif ib (2 : Int) (((x1).take (Int.toNat (IntKind.wrap .i64 ((IntKind.wrap .i64 (x2 + (1 : Int))) + y1.1.1)))).drop (Int.toNat (IntKind.wrap .i64 (x2 + (1 : Int))))).length then
    bif ib (3 : Int) (((x1).take (Int.toNat (IntKind.wrap .i64 ((IntKind.wrap .i64 (x2 + (1 : Int))) + y1.1.1)))).drop (Int.toNat (IntKind.wrap .i64 (x2 + (1 : Int))))).length then
    bif ib (1 : Int) (((x1).take (Int.toNat (IntKind.wrap .i64 ((IntKind.wrap .i64 (x2 + (1 : Int))) + y1.1.1)))).drop (Int.toNat (IntKind.wrap .i64 (x2 + (1 : Int))))).length then
    bif ib ((((x1).take (Int.toNat (IntKind.wrap .i64 ((IntKind.wrap .i64 (x2 + (1 : Int))) + y1.1.1)))).drop (Int.toNat (IntKind.wrap .i64 (x2 + (1 : Int))))).getD (Int.toNat (1 : Int)) (K.zero (.int .i64))) (x7).length then
    (F_spec_l10Row (x2, (x7, (x8, (x3, (x4, (x5, x6)))))) ((((x1).take (Int.toNat (IntKind.wrap .i64 ((IntKind.wrap .i64 (x2 + (1 : Int))) + y1.1.1)))).drop (Int.toNat (IntKind.wrap .i64 (x2 + (1 : Int))))).getD (Int.toNat (2 : Int)) (K.zero (.int .i64))) ((((x1).take (Int.toNat (IntKind.wrap .i64 ((IntKind.wrap .i64 (x2 + (1 : Int))) + y1.1.1)))).drop (Int.toNat (IntKind.wrap .i64 (x2 + (1 : Int))))).getD (Int.toNat (3 : Int)) (K.zero (.int .i64))) ((x7).getD (Int.toNat ((((x1).take (Int.toNat (IntKind.wrap .i64 ((IntKind.wrap .i64 (x2 + (1 : Int))) + y1.1.1)))).drop (Int.toNat (IntKind.wrap .i64 (x2 + (1 : Int))))).getD (Int.toNat (1 : Int)) (K.zero (.int .i64)))) (K.zero (.int .i64)))).bind fun y3 =>
    bif (y3.1.2.1 != (0 : Int)) then
      (some ((y3.1.2.1, ()), ((x2, (x3, (x4, (x5, (x6, ()))))), ()), (x7, (x8, ()))))
    else
    bif ib (0 : Int) (((x1).take (Int.toNat (IntKind.wrap .i64 ((IntKind.wrap .i64 (x2 + (1 : Int))) + y1.1.1)))).drop (Int.toNat (IntKind.wrap .i64 (x2 + (1 : Int))))).length then
    bif ib y3.1.1 (x8).length then
    bif ib ((((x1).take (Int.toNat (IntKind.wrap .i64 ((IntKind.wrap .i64 (x2 + (1 : Int))) + y1.1.1)))).drop (Int.toNat (IntKind.wrap .i64 (x2 + (1 : Int))))).getD (Int.toNat (0 : Int)) (K.zero (.int .i64))) (x7).length then
    some (((0 : Int), ()), (((IntKind.wrap .i64 ((IntKind.wrap .i64 (x2 + (1 : Int))) + y2.1.1)), (x3, (x4, (x5, (x6, ()))))), ()), ((x7).set (Int.toNat ((((x1).take (Int.toNat (IntKind.wrap .i64 ((IntKind.wrap .i64 (x2 + (1 : Int))) + y1.1.1)))).drop (Int.toNat (IntKind.wrap .i64 (x2 + (1 : Int))))).getD (Int.toNat (0 : Int)) (K.zero (.int .i64)))) ((x8).getD (Int.toNat y3.1.1) (K.zero (.int .i64))), (x8, ())))
    else none
    else none
    else none
    else none
    else none
    else none
    else none)
  else
  bif (((x1).getD (Int.toNat x2) (K.zero (.int .i64))) == (5 : Int)) then
    (bif ib (2 : Int) (((x1).take (Int.toNat (IntKind.wrap .i64 ((IntKind.wrap .i64 (x2 + (1 : Int))) + y1.1.1)))).drop (Int.toNat (IntKind.wrap .i64 (x2 + (1 : Int))))).length then
    bif ib (3 : Int) (((x1).take (Int.toNat (IntKind.wrap .i64 ((IntKind.wrap .i64 (x2 + (1 : Int))) + y1.1.1)))).drop (Int.toNat (IntKind.wrap .i64 (x2 + (1 : Int))))).length then
    bif ib (0 : Int) (((x1).take (Int.toNat (IntKind.wrap .i64 ((IntKind.wrap .i64 (x2 + (1 : Int))) + y1.1.1)))).drop (Int.toNat (IntKind.wrap .i64 (x2 + (1 : Int))))).length then
    bif ib ((((x1).take (Int.toNat (IntKind.wrap .i64 ((IntKind.wrap .i64 (x2 + (1 : Int))) + y1.1.1)))).drop (Int.toNat (IntKind.wrap .i64 (x2 + (1 : Int))))).getD (Int.toNat (0 : Int)) (K.zero (.int .i64))) (x7).length then
    (F_spec_l10Row (x2, (x7, (x8, (x3, (x4, (x5, x6)))))) ((((x1).take (Int.toNat (IntKind.wrap .i64 ((IntKind.wrap .i64 (x2 + (1 : Int))) + y1.1.1)))).drop (Int.toNat (IntKind.wrap .i64 (x2 + (1 : Int))))).getD (Int.toNat (2 : Int)) (K.zero (.int .i64))) ((((x1).take (Int.toNat (IntKind.wrap .i64 ((IntKind.wrap .i64 (x2 + (1 : Int))) + y1.1.1)))).drop (Int.toNat (IntKind.wrap .i64 (x2 + (1 : Int))))).getD (Int.toNat (3 : Int)) (K.zero (.int .i64))) ((x7).getD (Int.toNat ((((x1).take (Int.toNat (IntKind.wrap .i64 ((IntKind.wrap .i64 (x2 + (1 : Int))) + y1.1.1)))).drop (Int.toNat (IntKind.wrap .i64 (x2 + (1 : Int))))).getD (Int.toNat (0 : Int)) (K.zero (.int .i64)))) (K.zero (.int .i64)))).bind fun y4 =>
    bif (y4.1.2.1 != (0 : Int)) then
      (some ((y4.1.2.1, ()), ((x2, (x3, (x4, (x5, (x6, ()))))), ()), (x7, (x8, ()))))
    else
    bif ib (1 : Int) (((x1).take (Int.toNat (IntKind.wrap .i64 ((IntKind.wrap .i64 (x2 + (1 : Int))) + y1.1.1)))).drop (Int.toNat (IntKind.wrap .i64 (x2 + (1 : Int))))).length then
    bif ib ((((x1).take (Int.toNat (IntKind.wrap .i64 ((IntKind.wrap .i64 (x2 + (1 : Int))) + y1.1.1)))).drop (Int.toNat (IntKind.wrap .i64 (x2 + (1 : Int))))).getD (Int.toNat (1 : Int)) (K.zero (.int .i64))) (x7).length then
    bif ib y4.1.1 (x8).length then
    some (((0 : Int), ()), (((IntKind.wrap .i64 ((IntKind.wrap .i64 (x2 + (1 : Int))) + y2.1.1)), (x3, (x4, (x5, (x6, ()))))), ()), (x7, ((x8).set (Int.toNat y4.1.1) ((x7).getD (Int.toNat ((((x1).take (Int.toNat (IntKind.wrap .i64 ((IntKind.wrap .i64 (x2 + (1 : Int))) + y1.1.1)))).drop (Int.toNat (IntKind.wrap .i64 (x2 + (1 : Int))))).getD (Int.toNat (1 : Int)) (K.zero (.int .i64)))) (K.zero (.int .i64))), ())))
    else none
    else none
    else none
    else none
    else none
    else none
    else none)
  else
  bif (((x1).getD (Int.toNat x2) (K.zero (.int .i64))) == (6 : Int)) then
    ((F_spec_l10Two (((x1).take (Int.toNat (IntKind.wrap .i64 ((IntKind.wrap .i64 (x2 + (1 : Int))) + y1.1.1)))).drop (Int.toNat (IntKind.wrap .i64 (x2 + (1 : Int))))) x2 x3 x4 x5 x6 x7 x8).bind fun y5 =>
    bif (y5.1.1 != (0 : Int)) then
      (some ((y5.1.1, ()), ((y5.2.1.1.1, (y5.2.1.1.2.1, (y5.2.1.1.2.2.1, (y5.2.1.1.2.2.2.1, (y5.2.1.1.2.2.2.2.1, ()))))), ()), (y5.2.2.1, (y5.2.2.2.1, ()))))
    else
    some (((0 : Int), ()), (((IntKind.wrap .i64 ((IntKind.wrap .i64 (x2 + (1 : Int))) + y2.1.1)), (y5.2.1.1.2.1, (y5.2.1.1.2.2.1, (y5.2.1.1.2.2.2.1, (y5.2.1.1.2.2.2.2.1, ()))))), ()), (y5.2.2.1, (y5.2.2.2.1, ()))))
  else
  bif (((x1).getD (Int.toNat x2) (K.zero (.int .i64))) == (7 : Int)) then
    (bif ib (0 : Int) (((x1).take (Int.toNat (IntKind.wrap .i64 ((IntKind.wrap .i64 (x2 + (1 : Int))) + y1.1.1)))).drop (Int.toNat (IntKind.wrap .i64 (x2 + (1 : Int))))).length then
    bif ib (1 : Int) (((x1).take (Int.toNat (IntKind.wrap .i64 ((IntKind.wrap .i64 (x2 + (1 : Int))) + y1.1.1)))).drop (Int.toNat (IntKind.wrap .i64 (x2 + (1 : Int))))).length then
    bif ib ((((x1).take (Int.toNat (IntKind.wrap .i64 ((IntKind.wrap .i64 (x2 + (1 : Int))) + y1.1.1)))).drop (Int.toNat (IntKind.wrap .i64 (x2 + (1 : Int))))).getD (Int.toNat (1 : Int)) (K.zero (.int .i64))) (x7).length then
    (F_spec_Complement ((x7).getD (Int.toNat ((((x1).take (Int.toNat (IntKind.wrap .i64 ((IntKind.wrap .i64 (x2 + (1 : Int))) + y1.1.1)))).drop (Int.toNat (IntKind.wrap .i64 (x2 + (1 : Int))))).getD (Int.toNat (1 : Int)) (K.zero (.int .i64)))) (K.zero (.int .i64)))).bind fun y6 =>
    (F_spec_NegOf y6.1.1).bind fun y7 =>
    (F_spec_Complement y7.1.1).bind fun y8 =>
    bif ib ((((x1).take (Int.toNat (IntKind.wrap .i64 ((IntKind.wrap .i64 (x2 + (1 : Int))) + y1.1.1)))).drop (Int.toNat (IntKind.wrap .i64 (x2 + (1 : Int))))).getD (Int.toNat (0 : Int)) (K.zero (.int .i64))) (x7).length then
    some (((0 : Int), ()), (((IntKind.wrap .i64 ((IntKind.wrap .i64 (x2 + (1 : Int))) + y2.1.1)), (x3, (x4, (x5, (x6, ()))))), ()), ((x7).set (Int.toNat ((((x1).take (Int.toNat (IntKind.wrap .i64 ((IntKind.wrap .i64 (x2 + (1 : Int))) + y1.1.1)))).drop (Int.toNat (IntKind.wrap .i64 (x2 + (1 : Int))))).getD (Int.toNat (0 : Int)) (K.zero (.int .i64)))) y8.1.1, (x8, ())))
    else none
    else none
    else none
    else none)
  else
  bif (((x1).getD (Int.toNat x2) (K.zero (.int .i64))) == (8 : Int)) then
    (bif ib (0 : Int) (((x1).take (Int.toNat (IntKind.wrap .i64 ((IntKind.wrap .i64 (x2 + (1 : Int))) + y1.1.1)))).drop (Int.toNat (IntKind.wrap .i64 (x2 + (1 : Int))))).length then
    bif ib (1 : Int) (((x1).take (Int.toNat (IntKind.wrap .i64 ((IntKind.wrap .i64 (x2 + (1 : Int))) + y1.1.1)))).drop (Int.toNat (IntKind.wrap .i64 (x2 + (1 : Int))))).length then
    bif ib ((((x1).take (Int.toNat (IntKind.wrap .i64 ((IntKind.wrap .i64 (x2 + (1 : Int))) + y1.1.1)))).drop (Int.toNat (IntKind.wrap .i64 (x2 + (1 : Int))))).getD (Int.toNat (1 : Int)) (K.zero (.int .i64))) (x7).length then
    (F_spec_Complement ((x7).getD (Int.toNat ((((x1).take (Int.toNat (IntKind.wrap .i64 ((IntKind.wrap .i64 (x2 + (1 : Int))) + y1.1.1)))).drop (Int.toNat (IntKind.wrap .i64 (x2 + (1 : Int))))).getD (Int.toNat (1 : Int)) (K.zero (.int .i64)))) (K.zero (.int .i64)))).bind fun y9 =>
    (F_spec_NotOf y9.1.1).bind fun y10 =>
    (F_spec_Complement y10.1.1).bind fun y11 =>
    bif ib ((((x1).take (Int.toNat (IntKind.wrap .i64 ((IntKind.wrap .i64 (x2 + (1 : Int))) + y1.1.1)))).drop (Int.toNat (IntKind.wrap .i64 (x2 + (1 : Int))))).getD (Int.toNat (0 : Int)) (K.zero (.int .i64))) (x7).length then
    some (((0 : Int), ()), (((IntKind.wrap .i64 ((IntKind.wrap .i64 (x2 + (1 : Int))) + y2.1.1)), (x3, (x4, (x5, (x6, ()))))), ()), ((x7).set (Int.toNat ((((x1).take (Int.toNat (IntKind.wrap .i64 ((IntKind.wrap .i64 (x2 + (1 : Int))) + y1.1.1)))).drop (Int.toNat (IntKind.wrap .i64 (x2 + (1 : Int))))).getD (Int.toNat (0 : Int)) (K.zero (.int .i64)))) y11.1.1, (x8, ())))
    else none
    else none
    else none
    else none)
  else
  bif (((x1).getD (Int.toNat x2) (K.zero (.int .i64))) == (9 : Int)) then
    (bif ib (0 : Int) (((x1).take (Int.toNat (IntKind.wrap .i64 ((IntKind.wrap .i64 (x2 + (1 : Int))) + y1.1.1)))).drop (Int.toNat (IntKind.wrap .i64 (x2 + (1 : Int))))).length then
    bif ib ((((x1).take (Int.toNat (IntKind.wrap .i64 ((IntKind.wrap .i64 (x2 + (1 : Int))) + y1.1.1)))).drop (Int.toNat (IntKind.wrap .i64 (x2 + (1 : Int))))).getD (Int.toNat (0 : Int)) (K.zero (.int .i64))) (x7).length then
    bif (((x7).getD (Int.toNat ((((x1).take (Int.toNat (IntKind.wrap .i64 ((IntKind.wrap .i64 (x2 + (1 : Int))) + y1.1.1)))).drop (Int.toNat (IntKind.wrap .i64 (x2 + (1 : Int))))).getD (Int.toNat (0 : Int)) (K.zero (.int .i64)))) (K.zero (.int .i64))) != (65535 : Int)) then
      (bif ib (0 : Int) (((x1).take (Int.toNat (IntKind.wrap .i64 ((IntKind.wrap .i64 (x2 + (1 : Int))) + y1.1.1)))).drop (Int.toNat (IntKind.wrap .i64 (x2 + (1 : Int))))).length then
      bif ib ((((x1).take (Int.toNat (IntKind.wrap .i64 ((IntKind.wrap .i64 (x2 + (1 : Int))) + y1.1.1)))).drop (Int.toNat (IntKind.wrap .i64 (x2 + (1 : Int))))).getD (Int.toNat (0 : Int)) (K.zero (.int .i64))) (x7).length then
      some (((0 : Int), ()), (((IntKind.wrap .i64 ((IntKind.wrap .i64 (x2 + (1 : Int))) + y2.1.1)), (x3, (x4, (x5, (x6, ()))))), ()), ((x7).set (Int.toNat ((((x1).take (Int.toNat (IntKind.wrap .i64 ((IntKind.wrap .i64 (x2 + (1 : Int))) + y1.1.1)))).drop (Int.toNat (IntKind.wrap .i64 (x2 + (1 : Int))))).getD (Int.toNat (0 : Int)) (K.zero (.int .i64)))) (65534 : Int), (x8, ())))
      else none
      else none)
    else
    some (((0 : Int), ()), (((IntKind.wrap .i64 ((IntKind.wrap .i64 (x2 + (1 : Int))) + y2.1.1)), (x3, (x4, (x5, (x6, ()))))), ()), (x7, (x8, ())))
    else none
    else none)
  else
  bif (((x1).getD (Int.toNat x2) (K.zero (.int .i64))) == (10 : Int)) then
    (bif ib (0 : Int) (((x1).take (Int.toNat (IntKind.wrap .i64 ((IntKind.wrap .i64 (x2 + (1 : Int))) + y1.1.1)))).drop (Int.toNat (IntKind.wrap .i64 (x2 + (1 : Int))))).length then
    some (((0 : Int), ()), ((((((x1).take (Int.toNat (IntKind.wrap .i64 ((IntKind.wrap .i64 (x2 + (1 : Int))) + y1.1.1)))).drop (Int.toNat (IntKind.wrap .i64 (x2 + (1 : Int))))).getD (Int.toNat (0 : Int)) (K.zero (.int .i64))), (x3, (x4, (x5, (x6, ()))))), ()), (x7, (x8, ())))
    else none)
  else
  bif (((x1).getD (Int.toNat x2) (K.zero (.int .i64))) == (11 : Int)) then
    (bif ib (0 : Int) (((x1).take (Int.toNat (IntKind.wrap .i64 ((IntKind.wrap .i64 (x2 + (1 : Int))) + y1.1.1)))).drop (Int.toNat (IntKind.wrap .i64 (x2 + (1 : Int))))).length then
    bif ib ((((x1).take (Int.toNat (IntKind.wrap .i64 ((IntKind.wrap .i64 (x2 + (1 : Int))) + y1.1.1)))).drop (Int.toNat (IntKind.wrap .i64 (x2 + (1 : Int))))).getD (Int.toNat (0 : Int)) (K.zero (.int .i64))) (x7).length then
    bif (((x7).getD (Int.toNat ((((x1).take (Int.toNat (IntKind.wrap .i64 ((IntKind.wrap .i64 (x2 + (1 : Int))) + y1.1.1)))).drop (Int.toNat (IntKind.wrap .i64 (x2 + (1 : Int))))).getD (Int.toNat (0 : Int)) (K.zero (.int .i64)))) (K.zero (.int .i64))) == (65535 : Int)) then
      (bif ib (1 : Int) (((x1).take (Int.toNat (IntKind.wrap .i64 ((IntKind.wrap .i64 (x2 + (1 : Int))) + y1.1.1)))).drop (Int.toNat (IntKind.wrap .i64 (x2 + (1 : Int))))).length then
      some (((0 : Int), ()), ((((((x1).take (Int.toNat (IntKind.wrap .i64 ((IntKind.wrap .i64 (x2 + (1 : Int))) + y1.1.1)))).drop (Int.toNat (IntKind.wrap .i64 (x2 + (1 : Int))))).getD (Int.toNat (1 : Int)) (K.zero (.int .i64))), (x3, (x4, (x5, (x6, ()))))), ()), (x7, (x8, ())))
      else none)
    else
    some (((0 : Int), ()), (((IntKind.wrap .i64 ((IntKind.wrap .i64 (x2 + (1 : Int))) + y2.1.1)), (x3, (x4, (x5, (x6, ()))))), ()), (x7, (x8, ())))
    else none
    else none)
  else
  bif (((x1).getD (Int.toNat x2) (K.zero (.int .i64))) == (12 : Int)) then
    (bif ib (0 : Int) (((x1).take (Int.toNat (IntKind.wrap .i64 ((IntKind.wrap .i64 (x2 + (1 : Int))) + y1.1.1)))).drop (Int.toNat (IntKind.wrap .i64 (x2 + (1 : Int))))).length then
    (F_spec_SignOf x3 ((((x1).take (Int.toNat (IntKind.wrap .i64 ((IntKind.wrap .i64 (x2 + (1 : Int))) + y1.1.1)))).drop (Int.toNat (IntKind.wrap .i64 (x2 + (1 : Int))))).getD (Int.toNat (0 : Int)) (K.zero (.int .i64)))).bind fun y12 =>
    some (((0 : Int), ()), (((IntKind.wrap .i64 ((IntKind.wrap .i64 (x2 + (1 : Int))) + y2.1.1)), (y12.1.1, (x4, (x5, (x6, ()))))), ()), (x7, (x8, ())))
    else none)
  else
  bif (((x1).getD (Int.toNat x2) (K.zero (.int .i64))) == (13 : Int)) then
    (some (((0 : Int), ()), (((IntKind.wrap .i64 ((IntKind.wrap .i64 (x2 + (1 : Int))) + y2.1.1)), (x3, (x4, (x5, (true, ()))))), ()), (x7, (x8, ()))))
  else
  some (((0 : Int), ()), (((IntKind.wrap .i64 ((IntKind.wrap .i64 (x2 + (1 : Int))) + y2.1.1)), (x3, (x4, (x5, (x6, ()))))), ()), (x7, (x8, ())))
  else none
  else none
noncomputable abbrev U_spec_l10Do : sp_spec_l10Do.T → Option sq_spec_l10Do.T := fun x => F_spec_l10Do x.1.1 x.2.1.1.1 x.2.1.1.2.1 x.2.1.1.2.2.1 x.2.1.1.2.2.2.1 x.2.1.1.2.2.2.2.1 x.2.2.1 x.2.2.2.1
theorem e_spec_l10Do : ∀ x, evCode ty (gamOf g_spec_l10Do) j_spec_l10Do (lamOf []) b_spec_l10Do (sp_spec_l10Do.hd x) (finN ty sq_spec_l10Do [.tmp 4]) = U_spec_l10Do x := fun x => by kernel_rfl
theorem c_spec_l10Do : FnS P 117 sp_spec_l10Do sq_spec_l10Do U_spec_l10Do :=
  fnS_of_ev tyOk mixed gok_spec_l10Do (fn := Try.f117) (by kernel_rfl) (c := b_spec_l10Do) (by kernel_rfl) (by kernel_rfl) (by kernel_rfl) (lam_ok (tab := []) (by kernel_rfl) (fun p hp => by cases hp)) e_spec_l10Do

/-! spec.l10Step -/
abbrev sp_spec_l10Step : Sp := ⟨42, [(0, .val false (.sl (.int .i64))), (1, .val true k5)], [], []⟩
abbrev sq_spec_l10Step : Sp := ⟨1, [(0, .val true k5)], [], []⟩
noncomputable def g_spec_l10Step : List (FuncId × SumX) := [(81, cN sp_spec_l1Min sq_spec_l1Min U_spec_l1Min), (115, fN sp_spec_l10Copy sq_spec_l10Copy U_spec_l10Copy), (116, cN sp_spec_l10Ready sq_spec_l10Ready U_spec_l10Ready), (117, xN sp_spec_l10Do sq_spec_l10Do U_spec_l10Do)]
def j_spec_l10Step : Nat → Option (List (Nat × SS)) := jOf [(1, [(15, .val false .bool)])]
theorem gok_spec_l10Step : GOk P (gamOf g_spec_l10Step) := gam_ok (tab := g_spec_l10Step) (by
    intro p hp
    simp only [g_spec_l10Step, List.mem_cons, List.not_mem_nil, or_false] at hp
    rcases hp with rfl | rfl | rfl | rfl
    · exact cN_ok c_spec_l1Min rfl
    · exact fN_ok c_spec_l10Copy rfl
    · exact cN_ok c_spec_l10Ready rfl
    · exact xN_ok c_spec_l10Do rfl)
noncomputable abbrev b_spec_l10Step : Code := bodyOf Try.f101
noncomputable def F_spec_l10Step (x1 : K.T (.sl (.int .i64))) (x2 : K.T k5) : Option sq_spec_l10Step.T :=
  (bif x2.2.2.2.2.2.2 then
      (some (true, ()))
    else
    some ((x2.2.2.2.2.2.1 != (0 : Int)), ())).bind fun y1 =>
  bif y1.1 then
    (some ((x2, ()), (), ()))
  else
  (F_spec_l1Min (1000000 : Int) (IntKind.wrap .i64 (x2.2.2.2.2.1 + (1 : Int)))).bind fun y2 =>
  (F_spec_l10Copy x2).bind fun y3 =>
  (F_spec_l10Ready x1 x2).bind fun y4 =>
  bif (!y4.1.1) then
    (some (((y3.1.1.1, (y3.2.2.1, (y3.2.2.2.1, (y3.1.1.2.1, (y2.1.1, ((1 : Int), y3.1.1.2.2.2.2.1)))))), ()), (), ()))
  else
  (F_spec_l10Copy x2).bind fun y5 =>
  (F_spec_l10Do x1 y5.1.1.1 y5.1.1.2.1 y2.1.1 y5.1.1.2.2.2.1 y5.1.1.2.2.2.2.1 y5.2.2.1 y5.2.2.2.1).bind fun y6 =>
  bif (y6.1.1 != (0 : Int)) then
    (some (((y3.1.1.1, (y3.2.2.1, (y3.2.2.2.1, (y3.1.1.2.1, (y2.1.1, (y6.1.1, y3.1.1.2.2.2.2.1)))))), ()), (), ()))
  else
  some (((y6.2.1.1.1, (y6.2.2.1, (y6.2.2.2.1, (y6.2.1.1.2.1, (y6.2.1.1.2.2.1, (y6.2.1.1.2.2.2.1, y6.2.1.1.2.2.2.2.1)))))), ()), (), ())
noncomputable abbrev U_spec_l10Step : sp_spec_l10Step.T → Option sq_spec_l10Step.T := fun x => F_spec_l10Step x.1.1 x.1.2.1
theorem e_spec_l10Step : ∀ x, evCode ty (gamOf g_spec_l10Step) j_spec_l10Step (lamOf []) b_spec_l10Step (sp_spec_l10Step.hd x) (finN ty sq_spec_l10Step [.cell 4 49]) = U_spec_l10Step x := fun x => by kernel_rfl
theorem c_spec_l10Step : FnS P 101 sp_spec_l10Step sq_spec_l10Step U_spec_l10Step :=
  fnS_of_ev tyOk mixed gok_spec_l10Step (fn := Try.f101) (by kernel_rfl) (c := b_spec_l10Step) (by kernel_rfl) (by kernel_rfl) (by kernel_rfl) (lam_ok (tab := []) (by kernel_rfl) (fun p hp => by cases hp)) e_spec_l10Step

/-! spec.l10Run -/
abbrev sp_spec_l10Run : Sp := ⟨28, [(0, .val false (.sl (.int .i64))), (1, .val false (.sl (.int .i64))), (2, .val false (.int .i64))], [], []⟩
abbrev sq_spec_l10Run : Sp := ⟨1, [(0, .val true k5)], [], []⟩
noncomputable def g_spec_l10Run : List (FuncId × SumX) := [(99, fN sp_spec_l10Start sq_spec_l10Start U_spec_l10Start), (101, xN sp_spec_l10Step sq_spec_l10Step U_spec_l10Step)]
def j_spec_l10Run : Nat → Option (List (Nat × SS)) := jOf [(2, [(17, .val false .bool)])]
theorem gok_spec_l10Run : GOk P (gamOf g_spec_l10Run) := gam_ok (tab := g_spec_l10Run) (by
    intro p hp
    simp only [g_spec_l10Run, List.mem_cons, List.not_mem_nil, or_false] at hp
    rcases hp with rfl | rfl
    · exact fN_ok c_spec_l10Start rfl
    · exact xN_ok c_spec_l10Step rfl)
noncomputable abbrev b_spec_l10Run : Code := bodyOf Try.f64
abbrev sp_spec_l10Run_l2 : Sp := ⟨28, [(0, .val false (.sl (.int .i64))), (2, .val false (.int .i64)), (6, .fix (.ptr 59000 0)), (7, .fix (.ptr 59001 0))], [(59000, [.val (.int .i64), .fix .nil, .fix .nil, .val (.int .i64), .val (.int .i64), .val (.int .i64), .val .bool]), (59001, [.val (.int .i64), .val (.sl (.int .i64)), .val (.sl (.int .i64)), .val (.int .i64), .val (.int .i64), .val (.int .i64), .val .bool])], []⟩
abbrev xs_spec_l10Run_l2 : List (Ex × Sp) := [(.exit 0, ⟨28, [(6, .fix (.ptr 59000 0)), (7, .fix (.ptr 59001 0))], [(59000, [.val (.int .i64), .fix .nil, .fix .nil, .val (.int .i64), .val (.int .i64), .val (.int .i64), .val .bool]), (59001, [.val (.int .i64), .val (.sl (.int .i64)), .val (.sl (.int .i64)), .val (.int .i64), .val (.int .i64), .val (.int .i64), .val .bool])], []⟩), (.ret, ⟨28, [(6, .fix (.ptr 59000 0))], [(59000, [.val (.int .i64), .val (.sl (.int .i64)), .val (.sl (.int .i64)), .val (.int .i64), .val (.int .i64), .val (.int .i64), .val .bool])], []⟩)]
noncomputable def s_spec_l10Run_l2 : sp_spec_l10Run_l2.T → Option (sp_spec_l10Run_l2.T ⊕ XT xs_spec_l10Run_l2) := fun x =>
  (bif (!x.2.1.2.1.2.2.2.2.2.2.1) then
      (some ((x.2.1.2.1.2.2.2.2.2.1 == (0 : Int)), ()))
    else
    some (false, ())).bind fun y2 =>
  bif y2.1 then
    (bif (decide (x.2.1.2.1.2.2.2.2.1 ≥ x.1.2.1)) then
      (some (.inr (.inr ((), ((x.2.1.2.1.1, (x.2.1.2.1.2.1, (x.2.1.2.1.2.2.1, (x.2.1.2.1.2.2.2.1, (x.2.1.2.1.2.2.2.2.1, ((2 : Int), (x.2.1.2.1.2.2.2.2.2.2.1, ()))))))), ()), ()))))
    else
    (F_spec_l10Step x.1.1 (x.2.1.2.1.1, (x.2.1.2.1.2.1, (x.2.1.2.1.2.2.1, (x.2.1.2.1.2.2.2.1, (x.2.1.2.1.2.2.2.2.1, (x.2.1.2.1.2.2.2.2.2.1, x.2.1.2.1.2.2.2.2.2.2.1))))))).bind fun y3 =>
    some (.inl ((x.1.1, (x.1.2.1, ())), ((x.2.1.1.1, (x.2.1.1.2.1, (x.2.1.1.2.2.1, (x.2.1.1.2.2.2.1, (x.2.1.1.2.2.2.2.1, ()))))), ((y3.1.1.1, (y3.1.1.2.1, (y3.1.1.2.2.1, (y3.1.1.2.2.2.1, (y3.1.1.2.2.2.2.1, (y3.1.1.2.2.2.2.2.1, (y3.1.1.2.2.2.2.2.2, ()))))))), ())), ())))
  else
  some (.inr (.inl ((), ((x.2.1.1.1, (x.2.1.1.2.1, (x.2.1.1.2.2.1, (x.2.1.1.2.2.2.1, (x.2.1.1.2.2.2.2.1, ()))))), ((x.2.1.2.1.1, (x.2.1.2.1.2.1, (x.2.1.2.1.2.2.1, (x.2.1.2.1.2.2.2.1, (x.2.1.2.1.2.2.2.2.1, (x.2.1.2.1.2.2.2.2.2.1, (x.2.1.2.1.2.2.2.2.2.2.1, ()))))))), ())), ())))
noncomputable def l_spec_l10Run_l2 : sp_spec_l10Run_l2.T → Option (XT xs_spec_l10Run_l2) := lim s_spec_l10Run_l2
theorem es_spec_l10Run_l2 : ∀ x, evCode ty (gamOf g_spec_l10Run) j_spec_l10Run (lamOf []) (loopAt b_spec_l10Run 2) (sp_spec_l10Run_l2.hd x) (rdK sp_spec_l10Run_l2 xs_spec_l10Run_l2) = s_spec_l10Run_l2 x := fun x => by kernel_rfl
theorem ls_spec_l10Run_l2 : LSumOk P (loopAt b_spec_l10Run 2) (loopL sp_spec_l10Run_l2 xs_spec_l10Run_l2 l_spec_l10Run_l2) := loop_ok tyOk mixed gok_spec_l10Run (by kernel_rfl) (by kernel_rfl) (lam_ok (tab := []) (by kernel_rfl) (fun p hp => by cases hp)) es_spec_l10Run_l2 lim_itr
noncomputable def F_spec_l10Run (x1 : K.T (.sl (.int .i64))) (x2 : K.T (.sl (.int .i64))) (x3 : K.T (.int .i64)) : Option sq_spec_l10Run.T :=
  (F_spec_l10Start x2).bind fun y1 =>
  (l_spec_l10Run_l2 ((x1, (x3, ())), (((0 : Int), ((0 : Int), ((0 : Int), ((0 : Int), (false, ()))))), ((y1.1.1.1, (y1.2.2.1, (y1.2.2.2.1, (y1.1.1.2.1, (y1.1.1.2.2.1, (y1.1.1.2.2.2.1, (y1.1.1.2.2.2.2.1, ()))))))), ())), ())).bind fun y4 =>
  (match y4 with
  | .inl y5 => some (((y5.2.1.2.1.1, (y5.2.1.2.1.2.1, (y5.2.1.2.1.2.2.1, (y5.2.1.2.1.2.2.2.1, (y5.2.1.2.1.2.2.2.2.1, (y5.2.1.2.1.2.2.2.2.2.1, y5.2.1.2.1.2.2.2.2.2.2.1)))))), ()), (), ())
  | .inr z6 => some (((z6.2.1.1.1, (z6.2.1.1.2.1, (z6.2.1.1.2.2.1, (z6.2.1.1.2.2.2.1, (z6.2.1.1.2.2.2.2.1, (z6.2.1.1.2.2.2.2.2.1, z6.2.1.1.2.2.2.2.2.2.1)))))), ()), (), ()))
noncomputable abbrev U_spec_l10Run : sp_spec_l10Run.T → Option sq_spec_l10Run.T := fun x => F_spec_l10Run x.1.1 x.1.2.1 x.1.2.2.1
theorem e_spec_l10Run : ∀ x, evCode ty (gamOf g_spec_l10Run) j_spec_l10Run (lamOf [(2, loopL sp_spec_l10Run_l2 xs_spec_l10Run_l2 l_spec_l10Run_l2)]) b_spec_l10Run (sp_spec_l10Run.hd x) (finN ty sq_spec_l10Run [.cell 6 49]) = U_spec_l10Run x := fun x => by kernel_rfl
theorem c_spec_l10Run : FnS P 64 sp_spec_l10Run sq_spec_l10Run U_spec_l10Run :=
  fnS_of_ev tyOk mixed gok_spec_l10Run (fn := Try.f64) (by kernel_rfl) (c := b_spec_l10Run) (by kernel_rfl) (by kernel_rfl) (by kernel_rfl) (lam_ok (tab := [(2, loopL sp_spec_l10Run_l2 xs_spec_l10Run_l2 l_spec_l10Run_l2)]) (by kernel_rfl) (by
    intro p hp
    simp only [List.mem_cons, List.not_mem_nil, or_false] at hp
    rcases hp with rfl
    · exact @ls_spec_l10Run_l2)) e_spec_l10Run

/-! spec.RunRegs -/
abbrev sp_spec_RunRegs : Sp := ⟨30, [(0, .val false (.sl (.int .i64))), (1, .val false (.sl (.int .i64))), (2, .val false (.int .i64))], [], []⟩
abbrev sq_spec_RunRegs : Sp := ⟨1, [(0, .val true k7)], [], []⟩
noncomputable def g_spec_RunRegs : List (FuncId × SumX) := [(61, cN sp_spec_WordsFault sq_spec_WordsFault U_spec_WordsFault), (62, fN sp_spec_StartRegs sq_spec_StartRegs U_spec_StartRegs), (63, cN sp_spec_l1In sq_spec_l1In U_spec_l1In), (64, cN sp_spec_l10Run sq_spec_l10Run U_spec_l10Run)]
def j_spec_RunRegs : Nat → Option (List (Nat × SS)) := jOf []
theorem gok_spec_RunRegs : GOk P (gamOf g_spec_RunRegs) := gam_ok (tab := g_spec_RunRegs) (by
    intro p hp
    simp only [g_spec_RunRegs, List.mem_cons, List.not_mem_nil, or_false] at hp
    rcases hp with rfl | rfl | rfl | rfl
    · exact cN_ok c_spec_WordsFault rfl
    · exact fN_ok c_spec_StartRegs rfl
    · exact cN_ok c_spec_l1In rfl
    · exact cN_ok c_spec_l10Run rfl)
noncomputable abbrev b_spec_RunRegs : Code := bodyOf Try.f24
noncomputable def F_spec_RunRegs (x1 : K.T (.sl (.int .i64))) (x2 : K.T (.sl (.int .i64))) (x3 : K.T (.int .i64)) : Option sq_spec_RunRegs.T :=
  (F_spec_WordsFault x1).bind fun y1 =>
  bif (y1.1.1 != (0 : Int)) then
    (some (((y1.1.1, ((0 : Int), ([], ([], ((0 : Int), ((0 : Int), ((0 : Int), false))))))), ()), (), ()))
  else
  (F_spec_StartRegs x2).bind fun y2 =>
  bif (y2.1.1.1 != (0 : Int)) then
    (some (((y2.1.1.1, (y2.1.1.2.1, (y2.2.2.1, (y2.2.2.2.1, (y2.1.1.2.2.1, (y2.1.1.2.2.2.1, (y2.1.1.2.2.2.2.1, y2.1.1.2.2.2.2.2.1))))))), ()), (), ()))
  else
  (F_spec_l1In x3 (0 : Int) (20000 : Int)).bind fun y3 =>
  bif (!y3.1.1) then
    (some ((((3 : Int), ((0 : Int), ([], ([], ((0 : Int), ((0 : Int), ((0 : Int), false))))))), ()), (), ()))
  else
  (F_spec_l10Run x1 x2 x3).bind fun y4 =>
  some ((((0 : Int), y4.1.1), ()), (), ())
noncomputable abbrev U_spec_RunRegs : sp_spec_RunRegs.T → Option sq_spec_RunRegs.T := fun x => F_spec_RunRegs x.1.1 x.1.2.1 x.1.2.2.1
theorem e_spec_RunRegs : ∀ x, evCode ty (gamOf g_spec_RunRegs) j_spec_RunRegs (lamOf []) b_spec_RunRegs (sp_spec_RunRegs.hd x) (finN ty sq_spec_RunRegs [.cell 6 51]) = U_spec_RunRegs x := fun x => by kernel_rfl
theorem c_spec_RunRegs : FnS P 24 sp_spec_RunRegs sq_spec_RunRegs U_spec_RunRegs :=
  fnS_of_ev tyOk mixed gok_spec_RunRegs (fn := Try.f24) (by kernel_rfl) (c := b_spec_RunRegs) (by kernel_rfl) (by kernel_rfl) (by kernel_rfl) (lam_ok (tab := []) (by kernel_rfl) (fun p hp => by cases hp)) e_spec_RunRegs

/-! impl.within -/
abbrev sp_impl_within : Sp := ⟨15, [(0, .val false (.int .i64)), (1, .val false (.int .i64)), (2, .val false (.int .i64))], [], []⟩
abbrev sq_impl_within : Sp := ⟨1, [(0, .val false .bool)], [], []⟩
noncomputable def g_impl_within : List (FuncId × SumX) := []
def j_impl_within : Nat → Option (List (Nat × SS)) := jOf [(1, [(6, .val false .bool)])]
theorem gok_impl_within : GOk P (gamOf g_impl_within) := gam_ok (tab := g_impl_within) (fun p hp => by cases hp)
noncomputable abbrev b_impl_within : Code := bodyOf Try.f67
noncomputable def F_impl_within (x1 : K.T (.int .i64)) (x2 : K.T (.int .i64)) (x3 : K.T (.int .i64)) : Option sq_impl_within.T :=
  (bif (decide (x2 ≤ x1)) then
      (some ((decide (x1 ≤ x3)), ()))
    else
    some (false, ())).bind fun y1 =>
  some ((y1.1, ()), (), ())
noncomputable abbrev U_impl_within : sp_impl_within.T → Option sq_impl_within.T := fun x => F_impl_within x.1.1 x.1.2.1 x.1.2.2.1
theorem e_impl_within : ∀ x, evCode ty (gamOf g_impl_within) j_impl_within (lamOf []) b_impl_within (sp_impl_within.hd x) (finN ty sq_impl_within [.tmp 6]) = U_impl_within x := fun x => by kernel_rfl
theorem c_impl_within : FnS P 67 sp_impl_within sq_impl_within U_impl_within :=
  fnS_of_ev tyOk mixed gok_impl_within (fn := Try.f67) (by kernel_rfl) (c := b_impl_within) (by kernel_rfl) (by kernel_rfl) (by kernel_rfl) (lam_ok (tab := []) (by kernel_rfl) (fun p hp => by cases hp)) e_impl_within

/-! impl.isWord -/
abbrev sp_impl_isWord : Sp := ⟨5, [(0, .val false (.int .i64))], [], []⟩
abbrev sq_impl_isWord : Sp := ⟨1, [(0, .val false .bool)], [], []⟩
noncomputable def g_impl_isWord : List (FuncId × SumX) := [(67, cN sp_impl_within sq_impl_within U_impl_within)]
def j_impl_isWord : Nat → Option (List (Nat × SS)) := jOf []
theorem gok_impl_isWord : GOk P (gamOf g_impl_isWord) := gam_ok (tab := g_impl_isWord) (by
    intro p hp
    simp only [g_impl_isWord, List.mem_cons, List.not_mem_nil, or_false] at hp
    rcases hp with rfl
    · exact cN_ok c_impl_within rfl)
noncomputable abbrev b_impl_isWord : Code := bodyOf Try.f78
noncomputable def F_impl_isWord (x1 : K.T (.int .i64)) : Option sq_impl_isWord.T :=
  (F_impl_within x1 (0 : Int) (65535 : Int)).bind fun y1 =>
  some ((y1.1.1, ()), (), ())
noncomputable abbrev U_impl_isWord : sp_impl_isWord.T → Option sq_impl_isWord.T := fun x => F_impl_isWord x.1.1
theorem e_impl_isWord : ∀ x, evCode ty (gamOf g_impl_isWord) j_impl_isWord (lamOf []) b_impl_isWord (sp_impl_isWord.hd x) (finN ty sq_impl_isWord [.tmp 2]) = U_impl_isWord x := fun x => by kernel_rfl
theorem c_impl_isWord : FnS P 78 sp_impl_isWord sq_impl_isWord U_impl_isWord :=
  fnS_of_ev tyOk mixed gok_impl_isWord (fn := Try.f78) (by kernel_rfl) (c := b_impl_isWord) (by kernel_rfl) (by kernel_rfl) (by kernel_rfl) (lam_ok (tab := []) (by kernel_rfl) (fun p hp => by cases hp)) e_impl_isWord

/-! impl.areWords -/
abbrev sp_impl_areWords : Sp := ⟨15, [(0, .val false (.sl (.int .i64)))], [], []⟩
abbrev sq_impl_areWords : Sp := ⟨1, [(0, .val false .bool)], [], []⟩
noncomputable def g_impl_areWords : List (FuncId × SumX) := [(78, cN sp_impl_isWord sq_impl_isWord U_impl_isWord)]
def j_impl_areWords : Nat → Option (List (Nat × SS)) := jOf []
theorem gok_impl_areWords : GOk P (gamOf g_impl_areWords) := gam_ok (tab := g_impl_areWords) (by
    intro p hp
    simp only [g_impl_areWords, List.mem_cons, List.not_mem_nil, or_false] at hp
    rcases hp with rfl
    · exact cN_ok c_impl_isWord rfl)
noncomputable abbrev b_impl_areWords : Code := bodyOf Try.f49
abbrev sp_impl_areWords_l2 : Sp := ⟨15, [(5, .val false (.sl (.int .i64))), (6, .val false (.int .i64)), (7, .val false (.int .i64))], [], []⟩
abbrev xs_impl_areWords_l2 : List (Ex × Sp) := [(.exit 0, ⟨15, [], [], []⟩), (.ret, ⟨15, [(2, .val false .bool)], [], []⟩)]
noncomputable def s_impl_areWords_l2 : sp_impl_areWords_l2.T → Option (sp_impl_areWords_l2.T ⊕ XT xs_impl_areWords_l2) := fun x =>
  bif (decide (x.1.2.2.1 < x.1.2.1)) then
    (bif ib x.1.2.2.1 (x.1.1).length then
    (F_impl_isWord ((x.1.1).getD (Int.toNat x.1.2.2.1) (K.zero (.int .i64)))).bind fun y1 =>
    bif (!y1.1.1) then
      (some (.inr (.inr ((false, ()), (), ()))))
    else
    some (.inl ((x.1.1, (x.1.2.1, ((IntKind.wrap .i64 (x.1.2.2.1 + (1 : Int))), ()))), (), ()))
    else none)
  else
  some (.inr (.inl ((), (), ())))
noncomputable def l_impl_areWords_l2 : sp_impl_areWords_l2.T → Option (XT xs_impl_areWords_l2) := lim s_impl_areWords_l2
theorem es_impl_areWords_l2 : ∀ x, evCode ty (gamOf g_impl_areWords) j_impl_areWords (lamOf []) (loopAt b_impl_areWords 2) (sp_impl_areWords_l2.hd x) (rdK sp_impl_areWords_l2 xs_impl_areWords_l2) = s_impl_areWords_l2 x := fun x => by kernel_rfl
theorem ls_impl_areWords_l2 : LSumOk P (loopAt b_impl_areWords 2) (loopL sp_impl_areWords_l2 xs_impl_areWords_l2 l_impl_areWords_l2) := loop_ok tyOk mixed gok_impl_areWords (by kernel_rfl) (by kernel_rfl) (lam_ok (tab := []) (by kernel_rfl) (fun p hp => by cases hp)) es_impl_areWords_l2 lim_itr
noncomputable def F_impl_areWords (x1 : K.T (.sl (.int .i64))) : Option sq_impl_areWords.T :=
  (l_impl_areWords_l2 ((x1, (((x1).length : Int), ((0 : Int), ()))), (), ())).bind fun y2 =>
  (match y2 with
  | .inl y3 => some ((true, ()), (), ())
  | .inr z4 => some ((z4.1.1, ()), (), ()))
noncomputable abbrev U_impl_areWords : sp_impl_areWords.T → Option sq_impl_areWords.T := fun x => F_impl_areWords x.1.1
theorem e_impl_areWords : ∀ x, evCode ty (gamOf g_impl_areWords) j_impl_areWords (lamOf [(2, loopL sp_impl_areWords_l2 xs_impl_areWords_l2 l_impl_areWords_l2)]) b_impl_areWords (sp_impl_areWords.hd x) (finN ty sq_impl_areWords [.tmp 2]) = U_impl_areWords x := fun x => by kernel_rfl
theorem c_impl_areWords : FnS P 49 sp_impl_areWords sq_impl_areWords U_impl_areWords :=
  fnS_of_ev tyOk mixed gok_impl_areWords (fn := Try.f49) (by kernel_rfl) (c := b_impl_areWords) (by kernel_rfl) (by kernel_rfl) (by kernel_rfl) (lam_ok (tab := [(2, loopL sp_impl_areWords_l2 xs_impl_areWords_l2 l_impl_areWords_l2)]) (by kernel_rfl) (by
    intro p hp
    simp only [List.mem_cons, List.not_mem_nil, or_false] at hp
    rcases hp with rfl
    · exact @ls_impl_areWords_l2)) e_impl_areWords

/-! impl.WordsFault -/
abbrev sp_impl_WordsFault : Sp := ⟨11, [(0, .val false (.sl (.int .i64)))], [], []⟩
abbrev sq_impl_WordsFault : Sp := ⟨1, [(0, .val false (.int .i64))], [], []⟩
noncomputable def g_impl_WordsFault : List (FuncId × SumX) := [(49, cN sp_impl_areWords sq_impl_areWords U_impl_areWords)]
def j_impl_WordsFault : Nat → Option (List (Nat × SS)) := jOf []
theorem gok_impl_WordsFault : GOk P (gamOf g_impl_WordsFault) := gam_ok (tab := g_impl_WordsFault) (by
    intro p hp
    simp only [g_impl_WordsFault, List.mem_cons, List.not_mem_nil, or_false] at hp
    rcases hp with rfl
    · exact cN_ok c_impl_areWords rfl)
noncomputable abbrev b_impl_WordsFault : Code := bodyOf Try.f65
noncomputable def F_impl_WordsFault (x1 : K.T (.sl (.int .i64))) : Option sq_impl_WordsFault.T :=
  bif (decide (((x1).length : Int) > (400 : Int))) then
    (some (((2 : Int), ()), (), ()))
  else
  (F_impl_areWords x1).bind fun y1 =>
  bif (!y1.1.1) then
    (some (((3 : Int), ()), (), ()))
  else
  some (((0 : Int), ()), (), ())
noncomputable abbrev U_impl_WordsFault : sp_impl_WordsFault.T → Option sq_impl_WordsFault.T := fun x => F_impl_WordsFault x.1.1
theorem e_impl_WordsFault : ∀ x, evCode ty (gamOf g_impl_WordsFault) j_impl_WordsFault (lamOf []) b_impl_WordsFault (sp_impl_WordsFault.hd x) (finN ty sq_impl_WordsFault [.tmp 2]) = U_impl_WordsFault x := fun x => by kernel_rfl
theorem c_impl_WordsFault : FnS P 65 sp_impl_WordsFault sq_impl_WordsFault U_impl_WordsFault :=
  fnS_of_ev tyOk mixed gok_impl_WordsFault (fn := Try.f65) (by kernel_rfl) (c := b_impl_WordsFault) (by kernel_rfl) (by kernel_rfl) (by kernel_rfl) (lam_ok (tab := []) (by kernel_rfl) (fun p hp => by cases hp)) e_impl_WordsFault

/-! impl.RegFault -/
abbrev sp_impl_RegFault : Sp := ⟨48, [(0, .val true k5)], [], []⟩
abbrev sq_impl_RegFault : Sp := ⟨1, [(0, .val false (.int .i64))], [], []⟩
noncomputable def g_impl_RegFault : List (FuncId × SumX) := [(49, cN sp_impl_areWords sq_impl_areWords U_impl_areWords), (67, cN sp_impl_within sq_impl_within U_impl_within), (78, cN sp_impl_isWord sq_impl_isWord U_impl_isWord)]
def j_impl_RegFault : Nat → Option (List (Nat × SS)) := jOf [(1, [(3, .val false .bool)])]
theorem gok_impl_RegFault : GOk P (gamOf g_impl_RegFault) := gam_ok (tab := g_impl_RegFault) (by
    intro p hp
    simp only [g_impl_RegFault, List.mem_cons, List.not_mem_nil, or_false] at hp
    rcases hp with rfl | rfl | rfl
    · exact cN_ok c_impl_areWords rfl
    · exact cN_ok c_impl_within rfl
    · exact cN_ok c_impl_isWord rfl)
noncomputable abbrev b_impl_RegFault : Code := bodyOf Try.f33
noncomputable def F_impl_RegFault (x1 : K.T k5) : Option sq_impl_RegFault.T :=
  ((F_impl_isWord x1.1).bind fun y1 =>
    bif (!y1.1.1) then
      (some (true, ()))
    else
    (F_impl_isWord x1.2.2.2.1).bind fun y2 =>
    bif (!y2.1.1) then
      (some (true, ()))
    else
    (F_impl_areWords x1.2.1).bind fun y3 =>
    bif (!y3.1.1) then
      (some (true, ()))
    else
    (F_impl_areWords x1.2.2.1).bind fun y4 =>
    bif (!y4.1.1) then
      (some (true, ()))
    else
    (F_impl_within x1.2.2.2.2.1 (0 : Int) (1000000 : Int)).bind fun y5 =>
    bif (!y5.1.1) then
      (some (true, ()))
    else
    (F_impl_within x1.2.2.2.2.2.1 (0 : Int) (10 : Int)).bind fun y6 =>
    some ((!y6.1.1), ())).bind fun y7 =>
  bif y7.1 then
    (some (((3 : Int), ()), (), ()))
  else
  bif (((x1.2.1).length : Int) != (24 : Int)) then
    (some (((1 : Int), ()), (), ()))
  else
  bif (decide (((x1.2.2.1).length : Int) > (80 : Int))) then
    (some (((2 : Int), ()), (), ()))
  else
  some (((0 : Int), ()), (), ())
noncomputable abbrev U_impl_RegFault : sp_impl_RegFault.T → Option sq_impl_RegFault.T := fun x => F_impl_RegFault x.1.1
theorem e_impl_RegFault : ∀ x, evCode ty (gamOf g_impl_RegFault) j_impl_RegFault (lamOf []) b_impl_RegFault (sp_impl_RegFault.hd x) (finN ty sq_impl_RegFault [.tmp 2]) = U_impl_RegFault x := fun x => by kernel_rfl
theorem c_impl_RegFault : FnS P 33 sp_impl_RegFault sq_impl_RegFault U_impl_RegFault :=
  fnS_of_ev tyOk mixed gok_impl_RegFault (fn := Try.f33) (by kernel_rfl) (c := b_impl_RegFault) (by kernel_rfl) (by kernel_rfl) (by kernel_rfl) (lam_ok (tab := []) (by kernel_rfl) (fun p hp => by cases hp)) e_impl_RegFault

/-! slices.Clone[[]int64,int64] -/
abbrev sp_slices_Clone_int64 : Sp := ⟨8, [(0, .val false (.sl (.int .i64)))], [], []⟩
abbrev sq_slices_Clone_int64 : Sp := ⟨1, [(0, .fix (.own 59000))], [], [(59000, (.int .i64), true)]⟩
noncomputable def g_slices_Clone_int64 : List (FuncId × SumX) := []
def j_slices_Clone_int64 : Nat → Option (List (Nat × SS)) := jOf []
theorem gok_slices_Clone_int64 : GOk P (gamOf g_slices_Clone_int64) := gam_ok (tab := g_slices_Clone_int64) (fun p hp => by cases hp)
noncomputable abbrev b_slices_Clone_int64 : Code := bodyOf Try.f51
noncomputable def F_slices_Clone_int64 (x1 : K.T (.sl (.int .i64))) : Option sq_slices_Clone_int64.T :=
  nilB ((x1).isEmpty)
    (some ((), (), ([], ())))
    (bif room ([] ++ x1).length 8 then
    some ((), (), (([] ++ x1), ()))
    else none)
noncomputable abbrev U_slices_Clone_int64 : sp_slices_Clone_int64.T → Option sq_slices_Clone_int64.T := fun x => F_slices_Clone_int64 x.1.1
theorem e_slices_Clone_int64 : ∀ x, evCode ty (gamOf g_slices_Clone_int64) j_slices_Clone_int64 (lamOf []) b_slices_Clone_int64 (sp_slices_Clone_int64.hd x) (finN ty sq_slices_Clone_int64 [.tmp 2]) = U_slices_Clone_int64 x := fun x => by kernel_rfl
theorem c_slices_Clone_int64 : FnS P 51 sp_slices_Clone_int64 sq_slices_Clone_int64 U_slices_Clone_int64 :=
  fnS_of_ev tyOk mixed gok_slices_Clone_int64 (fn := Try.f51) (by kernel_rfl) (c := b_slices_Clone_int64) (by kernel_rfl) (by kernel_rfl) (by kernel_rfl) (lam_ok (tab := []) (by kernel_rfl) (fun p hp => by cases hp)) e_slices_Clone_int64

/-! math/bits.Mul64 -/
abbrev sp_bits_Mul64 : Sp := ⟨51, [(0, .val false (.int .u64)), (1, .val false (.int .u64))], [], []⟩
abbrev sq_bits_Mul64 : Sp := ⟨2, [(0, .val false (.int .u64)), (1, .val false (.int .u64))], [], []⟩
noncomputable def g_bits_Mul64 : List (FuncId × SumX) := []
def j_bits_Mul64 : Nat → Option (List (Nat × SS)) := jOf []
theorem gok_bits_Mul64 : GOk P (gamOf g_bits_Mul64) := gam_ok (tab := g_bits_Mul64) (fun p hp => by cases hp)
noncomputable abbrev b_bits_Mul64 : Code := bodyOf Try.f136
noncomputable def F_bits_Mul64 (x1 : K.T (.int .u64)) (x2 : K.T (.int .u64)) : Option sq_bits_Mul64.T :=
  some (((IntKind.wrap .u64 ((IntKind.wrap .u64 ((IntKind.wrap .u64 ((Int.fdiv x1 (2 ^ min (Int.toNat (32 : Int)) (IntKind.bits .u64))) * (Int.fdiv x2 (2 ^ min (Int.toNat (32 : Int)) (IntKind.bits .u64))))) + (Int.fdiv (IntKind.wrap .u64 ((IntKind.wrap .u64 ((Int.fdiv x1 (2 ^ min (Int.toNat (32 : Int)) (IntKind.bits .u64))) * (IntKind.wrap .u64 (((BitVec.ofInt (IntKind.bits .u64) x2 &&& BitVec.ofInt (IntKind.bits .u64) (4294967295 : Int)).toNat : Int))))) + (Int.fdiv (IntKind.wrap .u64 ((IntKind.wrap .u64 (((BitVec.ofInt (IntKind.bits .u64) x1 &&& BitVec.ofInt (IntKind.bits .u64) (4294967295 : Int)).toNat : Int))) * (IntKind.wrap .u64 (((BitVec.ofInt (IntKind.bits .u64) x2 &&& BitVec.ofInt (IntKind.bits .u64) (4294967295 : Int)).toNat : Int))))) (2 ^ min (Int.toNat (32 : Int)) (IntKind.bits .u64))))) (2 ^ min (Int.toNat (32 : Int)) (IntKind.bits .u64))))) + (Int.fdiv (IntKind.wrap .u64 ((IntKind.wrap .u64 (((BitVec.ofInt (IntKind.bits .u64) (IntKind.wrap .u64 ((IntKind.wrap .u64 ((Int.fdiv x1 (2 ^ min (Int.toNat (32 : Int)) (IntKind.bits .u64))) * (IntKind.wrap .u64 (((BitVec.ofInt (IntKind.bits .u64) x2 &&& BitVec.ofInt (IntKind.bits .u64) (4294967295 : Int)).toNat : Int))))) + (Int.fdiv (IntKind.wrap .u64 ((IntKind.wrap .u64 (((BitVec.ofInt (IntKind.bits .u64) x1 &&& BitVec.ofInt (IntKind.bits .u64) (4294967295 : Int)).toNat : Int))) * (IntKind.wrap .u64 (((BitVec.ofInt (IntKind.bits .u64) x2 &&& BitVec.ofInt (IntKind.bits .u64) (4294967295 : Int)).toNat : Int))))) (2 ^ min (Int.toNat (32 : Int)) (IntKind.bits .u64))))) &&& BitVec.ofInt (IntKind.bits .u64) (4294967295 : Int)).toNat : Int))) + (IntKind.wrap .u64 ((IntKind.wrap .u64 (((BitVec.ofInt (IntKind.bits .u64) x1 &&& BitVec.ofInt (IntKind.bits .u64) (4294967295 : Int)).toNat : Int))) * (Int.fdiv x2 (2 ^ min (Int.toNat (32 : Int)) (IntKind.bits .u64))))))) (2 ^ min (Int.toNat (32 : Int)) (IntKind.bits .u64))))), ((IntKind.wrap .u64 (x1 * x2)), ())), (), ())
noncomputable abbrev U_bits_Mul64 : sp_bits_Mul64.T → Option sq_bits_Mul64.T := fun x => F_bits_Mul64 x.1.1 x.1.2.1
theorem e_bits_Mul64 : ∀ x, evCode ty (gamOf g_bits_Mul64) j_bits_Mul64 (lamOf []) b_bits_Mul64 (sp_bits_Mul64.hd x) (finN ty sq_bits_Mul64 [.tmp 4, .tmp 5]) = U_bits_Mul64 x := fun x => by kernel_rfl
theorem c_bits_Mul64 : FnS P 136 sp_bits_Mul64 sq_bits_Mul64 U_bits_Mul64 :=
  fnS_of_ev tyOk mixed gok_bits_Mul64 (fn := Try.f136) (by kernel_rfl) (c := b_bits_Mul64) (by kernel_rfl) (by kernel_rfl) (by kernel_rfl) (lam_ok (tab := []) (by kernel_rfl) (fun p hp => by cases hp)) e_bits_Mul64

/-! math/bits.Mul -/
abbrev sp_bits_Mul : Sp := ⟨30, [(0, .val false (.int .u64)), (1, .val false (.int .u64))], [], []⟩
abbrev sq_bits_Mul : Sp := ⟨2, [(0, .val false (.int .u64)), (1, .val false (.int .u64))], [], []⟩
noncomputable def g_bits_Mul : List (FuncId × SumX) := [(136, cN sp_bits_Mul64 sq_bits_Mul64 U_bits_Mul64)]
def j_bits_Mul : Nat → Option (List (Nat × SS)) := jOf []
theorem gok_bits_Mul : GOk P (gamOf g_bits_Mul) := gam_ok (tab := g_bits_Mul) (by
    intro p hp
    simp only [g_bits_Mul, List.mem_cons, List.not_mem_nil, or_false] at hp
    rcases hp with rfl
    · exact cN_ok c_bits_Mul64 rfl)
noncomputable abbrev b_bits_Mul : Code := bodyOf Try.f118
noncomputable def F_bits_Mul (x1 : K.T (.int .u64)) (x2 : K.T (.int .u64)) : Option sq_bits_Mul.T :=
  (F_bits_Mul64 x1 x2).bind fun y1 =>
  some ((y1.1.1, (y1.1.2.1, ())), (), ())
noncomputable abbrev U_bits_Mul : sp_bits_Mul.T → Option sq_bits_Mul.T := fun x => F_bits_Mul x.1.1 x.1.2.1
theorem e_bits_Mul : ∀ x, evCode ty (gamOf g_bits_Mul) j_bits_Mul (lamOf []) b_bits_Mul (sp_bits_Mul.hd x) (finN ty sq_bits_Mul [.tmp 4, .tmp 5]) = U_bits_Mul x := fun x => by kernel_rfl
theorem c_bits_Mul : FnS P 118 sp_bits_Mul sq_bits_Mul U_bits_Mul :=
  fnS_of_ev tyOk mixed gok_bits_Mul (fn := Try.f118) (by kernel_rfl) (c := b_bits_Mul) (by kernel_rfl) (by kernel_rfl) (by kernel_rfl) (lam_ok (tab := []) (by kernel_rfl) (fun p hp => by cases hp)) e_bits_Mul

/-! slices.Repeat[[]int64,int64] -/
abbrev sp_slices_Repeat_int64 : Sp := ⟨48, [(0, .val false (.sl (.int .i64))), (1, .val false (.int .i64))], [], []⟩
abbrev sq_slices_Repeat_int64 : Sp := ⟨1, [(0, .fix (.own 59000))], [], [(59000, (.int .i64), true)]⟩
noncomputable def g_slices_Repeat_int64 : List (FuncId × SumX) := [(118, cN sp_bits_Mul sq_bits_Mul U_bits_Mul)]
def j_slices_Repeat_int64 : Nat → Option (List (Nat × SS)) := jOf [(4, [(26, .val false .bool)])]
theorem gok_slices_Repeat_int64 : GOk P (gamOf g_slices_Repeat_int64) := gam_ok (tab := g_slices_Repeat_int64) (by
    intro p hp
    simp only [g_slices_Repeat_int64, List.mem_cons, List.not_mem_nil, or_false] at hp
    rcases hp with rfl
    · exact cN_ok c_bits_Mul rfl)
noncomputable abbrev b_slices_Repeat_int64 : Code := bodyOf Try.f102
abbrev sp_slices_Repeat_int64_l8 : Sp := ⟨48, [(7, .fix (.own 59000)), (8, .val false (.int .i64))], [], [(59000, (.int .i64), true)]⟩
abbrev xs_slices_Repeat_int64_l8 : List (Ex × Sp) := [(.exit 0, ⟨48, [(7, .fix (.own 59000))], [], [(59000, (.int .i64), true)]⟩)]
noncomputable def s_slices_Repeat_int64_l8 : sp_slices_Repeat_int64_l8.T → Option (sp_slices_Repeat_int64_l8.T ⊕ XT xs_slices_Repeat_int64_l8) := fun x =>
  bif (decide (x.1.1 < ((x.2.2.1).length : Int))) then
    (bif decide (0 ≤ x.1.1 ∧ x.1.1 ≤ ((x.2.2.1).length : Int) ∧ ((x.2.2.1).length : Int) ≤ ((x.2.2.1).length : Int)) then
    bif decide (0 ≤ (0 : Int) ∧ (0 : Int) ≤ x.1.1 ∧ x.1.1 ≤ ((x.2.2.1).length : Int)) then
    some (.inl (((IntKind.wrap .i64 (x.1.1 + ((Nat.min (((x.2.2.1).drop (Int.toNat (0 : Int))).take (Int.toNat x.1.1 - Int.toNat (0 : Int))).length (Int.toNat ((x.2.2.1).length : Int) - Int.toNat x.1.1) : Nat) : Int))), ()), (), ((splice x.2.2.1 (Int.toNat x.1.1) ((((x.2.2.1).drop (Int.toNat (0 : Int))).take (Int.toNat x.1.1 - Int.toNat (0 : Int))).take (Int.toNat ((x.2.2.1).length : Int) - Int.toNat x.1.1))), ())))
    else none
    else none)
  else
  some (.inr ((), (), (x.2.2.1, ())))
noncomputable def l_slices_Repeat_int64_l8 : sp_slices_Repeat_int64_l8.T → Option (XT xs_slices_Repeat_int64_l8) := lim s_slices_Repeat_int64_l8
theorem es_slices_Repeat_int64_l8 : ∀ x, evCode ty (gamOf g_slices_Repeat_int64) j_slices_Repeat_int64 (lamOf []) (loopAt b_slices_Repeat_int64 8) (sp_slices_Repeat_int64_l8.hd x) (rdK sp_slices_Repeat_int64_l8 xs_slices_Repeat_int64_l8) = s_slices_Repeat_int64_l8 x := fun x => by kernel_rfl
theorem ls_slices_Repeat_int64_l8 : LSumOk P (loopAt b_slices_Repeat_int64 8) (loopL sp_slices_Repeat_int64_l8 xs_slices_Repeat_int64_l8 l_slices_Repeat_int64_l8) := loop_ok tyOk mixed gok_slices_Repeat_int64 (by kernel_rfl) (by kernel_rfl) (lam_ok (tab := []) (by kernel_rfl) (fun p hp => by cases hp)) es_slices_Repeat_int64_l8 lim_itr
noncomputable def F_slices_Repeat_int64 (x1 : K.T (.sl (.int .i64))) (x2 : K.T (.int .i64)) : Option sq_slices_Repeat_int64.T :=
  bif (decide (x2 < (0 : Int))) then none else
  (F_bits_Mul (IntKind.wrap .u64 ((x1).length : Int)) (IntKind.wrap .u64 x2)).bind fun y1 =>
  (bif (decide (y1.1.1 > (0 : Int))) then
      (some (true, ()))
    else
    some ((decide (y1.1.2.1 > (9223372036854775807 : Int))), ())).bind fun y2 =>
  bif y2.1 then none else
  bif decide (0 ≤ (IntKind.wrap .i64 y1.1.2.1) ∧ (IntKind.wrap .i64 y1.1.2.1) ≤ (IntKind.wrap .i64 y1.1.2.1)) then
  bif room (Int.toNat (IntKind.wrap .i64 y1.1.2.1)) 8 then
  (l_slices_Repeat_int64_l8 ((((Nat.min (x1).length (((List.replicate (Int.toNat (IntKind.wrap .i64 y1.1.2.1)) (K.zero (.int .i64)))).length) : Nat) : Int), ()), (), ((splice (List.replicate (Int.toNat (IntKind.wrap .i64 y1.1.2.1)) (K.zero (.int .i64))) 0 ((x1).take (((List.replicate (Int.toNat (IntKind.wrap .i64 y1.1.2.1)) (K.zero (.int .i64)))).length))), ()))).bind fun y3 =>
  some ((), (), (y3.2.2.1, ()))
  else none
  else none
noncomputable abbrev U_slices_Repeat_int64 : sp_slices_Repeat_int64.T → Option sq_slices_Repeat_int64.T := fun x => F_slices_Repeat_int64 x.1.1 x.1.2.1
theorem e_slices_Repeat_int64 : ∀ x, evCode ty (gamOf g_slices_Repeat_int64) j_slices_Repeat_int64 (lamOf [(8, loopL sp_slices_Repeat_int64_l8 xs_slices_Repeat_int64_l8 l_slices_Repeat_int64_l8)]) b_slices_Repeat_int64 (sp_slices_Repeat_int64.hd x) (finN ty sq_slices_Repeat_int64 [.tmp 4]) = U_slices_Repeat_int64 x := fun x => by kernel_rfl
theorem c_slices_Repeat_int64 : FnS P 102 sp_slices_Repeat_int64 sq_slices_Repeat_int64 U_slices_Repeat_int64 :=
  fnS_of_ev tyOk mixed gok_slices_Repeat_int64 (fn := Try.f102) (by kernel_rfl) (c := b_slices_Repeat_int64) (by kernel_rfl) (by kernel_rfl) (by kernel_rfl) (lam_ok (tab := [(8, loopL sp_slices_Repeat_int64_l8 xs_slices_Repeat_int64_l8 l_slices_Repeat_int64_l8)]) (by kernel_rfl) (by
    intro p hp
    simp only [List.mem_cons, List.not_mem_nil, or_false] at hp
    rcases hp with rfl
    · exact @ls_slices_Repeat_int64_l8)) e_slices_Repeat_int64

/-! impl.StartRegs -/
abbrev sp_impl_StartRegs : Sp := ⟨18, [(0, .val false (.sl (.int .i64)))], [], []⟩
abbrev sq_impl_StartRegs : Sp := ⟨1, [(0, .mix true [.val (.int .i64), .val (.int .i64), .fix (.own 59000), .fix (.own 59001), .val (.int .i64), .val (.int .i64), .val (.int .i64), .val .bool])], [], [(59000, (.int .i64), true), (59001, (.int .i64), true)]⟩
noncomputable def g_impl_StartRegs : List (FuncId × SumX) := [(33, cN sp_impl_RegFault sq_impl_RegFault U_impl_RegFault), (51, fN sp_slices_Clone_int64 sq_slices_Clone_int64 U_slices_Clone_int64), (102, fN sp_slices_Repeat_int64 sq_slices_Repeat_int64 U_slices_Repeat_int64)]
def j_impl_StartRegs : Nat → Option (List (Nat × SS)) := jOf []
theorem gok_impl_StartRegs : GOk P (gamOf g_impl_StartRegs) := gam_ok (tab := g_impl_StartRegs) (by
    intro p hp
    simp only [g_impl_StartRegs, List.mem_cons, List.not_mem_nil, or_false] at hp
    rcases hp with rfl | rfl | rfl
    · exact cN_ok c_impl_RegFault rfl
    · exact fN_ok c_slices_Clone_int64 rfl
    · exact fN_ok c_slices_Repeat_int64 rfl)
noncomputable abbrev b_impl_StartRegs : Code := bodyOf Try.f66
noncomputable def F_impl_StartRegs (x1 : K.T (.sl (.int .i64))) : Option sq_impl_StartRegs.T :=
  (F_slices_Clone_int64 x1).bind fun y1 =>
  (F_slices_Repeat_int64 [(65535 : Int)] (24 : Int)).bind fun y2 =>
  (F_impl_RegFault ((0 : Int), (y2.2.2.1, (y1.2.2.1, ((0 : Int), ((0 : Int), ((0 : Int), false))))))).bind fun y3 =>
  bif (y3.1.1 != (0 : Int)) then
    (some (((y3.1.1, ((0 : Int), ((0 : Int), ((0 : Int), ((0 : Int), (false, ())))))), ()), (), ([], ([], ()))))
  else
  some ((((0 : Int), ((0 : Int), ((0 : Int), ((0 : Int), ((0 : Int), (false, ())))))), ()), (), (y2.2.2.1, (y1.2.2.1, ())))
noncomputable abbrev U_impl_StartRegs : sp_impl_StartRegs.T → Option sq_impl_StartRegs.T := fun x => F_impl_StartRegs x.1.1
theorem e_impl_StartRegs : ∀ x, evCode ty (gamOf g_impl_StartRegs) j_impl_StartRegs (lamOf []) b_impl_StartRegs (sp_impl_StartRegs.hd x) (finN ty sq_impl_StartRegs [.cell 2 51]) = U_impl_StartRegs x := fun x => by kernel_rfl
theorem c_impl_StartRegs : FnS P 66 sp_impl_StartRegs sq_impl_StartRegs U_impl_StartRegs :=
  fnS_of_ev tyOk mixed gok_impl_StartRegs (fn := Try.f66) (by kernel_rfl) (c := b_impl_StartRegs) (by kernel_rfl) (by kernel_rfl) (by kernel_rfl) (lam_ok (tab := []) (by kernel_rfl) (fun p hp => by cases hp)) e_impl_StartRegs

/-! impl.ArgsOfRegs -/
abbrev sp_impl_ArgsOfRegs : Sp := ⟨12, [(0, .val false (.int .i64))], [], []⟩
abbrev sq_impl_ArgsOfRegs : Sp := ⟨1, [(0, .val true k6)], [], []⟩
noncomputable def g_impl_ArgsOfRegs : List (FuncId × SumX) := [(67, cN sp_impl_within sq_impl_within U_impl_within)]
def j_impl_ArgsOfRegs : Nat → Option (List (Nat × SS)) := jOf []
theorem gok_impl_ArgsOfRegs : GOk P (gamOf g_impl_ArgsOfRegs) := gam_ok (tab := g_impl_ArgsOfRegs) (by
    intro p hp
    simp only [g_impl_ArgsOfRegs, List.mem_cons, List.not_mem_nil, or_false] at hp
    rcases hp with rfl
    · exact cN_ok c_impl_within rfl)
noncomputable abbrev b_impl_ArgsOfRegs : Code := bodyOf Try.f104
noncomputable def F_impl_ArgsOfRegs (x1 : K.T (.int .i64)) : Option sq_impl_ArgsOfRegs.T :=
  (F_impl_within x1 (1 : Int) (13 : Int)).bind fun y1 =>
  bif (!y1.1.1) then
    (some ((((3 : Int), (0 : Int)), ()), (), ()))
  else
  bif ib x1 ([(0 : Int), (2 : Int), (2 : Int), (2 : Int), (4 : Int), (4 : Int), (4 : Int), (2 : Int), (2 : Int), (1 : Int), (1 : Int), (2 : Int), (1 : Int), (0 : Int)]).length then
  some ((((0 : Int), (([(0 : Int), (2 : Int), (2 : Int), (2 : Int), (4 : Int), (4 : Int), (4 : Int), (2 : Int), (2 : Int), (1 : Int), (1 : Int), (2 : Int), (1 : Int), (0 : Int)]).getD (Int.toNat x1) (K.zero (.int .i64)))), ()), (), ())
  else none
noncomputable abbrev U_impl_ArgsOfRegs : sp_impl_ArgsOfRegs.T → Option sq_impl_ArgsOfRegs.T := fun x => F_impl_ArgsOfRegs x.1.1
theorem e_impl_ArgsOfRegs : ∀ x, evCode ty (gamOf g_impl_ArgsOfRegs) j_impl_ArgsOfRegs (lamOf []) b_impl_ArgsOfRegs (sp_impl_ArgsOfRegs.hd x) (finN ty sq_impl_ArgsOfRegs [.cell 2 131]) = U_impl_ArgsOfRegs x := fun x => by kernel_rfl
theorem c_impl_ArgsOfRegs : FnS P 104 sp_impl_ArgsOfRegs sq_impl_ArgsOfRegs U_impl_ArgsOfRegs :=
  fnS_of_ev tyOk mixed gok_impl_ArgsOfRegs (fn := Try.f104) (by kernel_rfl) (c := b_impl_ArgsOfRegs) (by kernel_rfl) (by kernel_rfl) (by kernel_rfl) (lam_ok (tab := []) (by kernel_rfl) (fun p hp => by cases hp)) e_impl_ArgsOfRegs

/-! impl.instruction -/
abbrev sp_impl_instruction_rm : Sp := ⟨45, [(0, .val false (.sl (.int .i64))), (1, .val false (.int .i64)), (2, .fix (.fn 104 []))], [], []⟩
abbrev sq_impl_instruction_rm : Sp := ⟨3, [(0, .val false (.int .i64)), (1, .val false (.sl (.int .i64))), (2, .val false .bool)], [], []⟩
noncomputable def g_impl_instruction_rm : List (FuncId × SumX) := [(104, cN sp_impl_ArgsOfRegs sq_impl_ArgsOfRegs U_impl_ArgsOfRegs)]
def j_impl_instruction_rm : Nat → Option (List (Nat × SS)) := jOf [(4, [(31, .val false .bool)])]
theorem gok_impl_instruction_rm : GOk P (gamOf g_impl_instruction_rm) := gam_ok (tab := g_impl_instruction_rm) (by
    intro p hp
    simp only [g_impl_instruction_rm, List.mem_cons, List.not_mem_nil, or_false] at hp
    rcases hp with rfl
    · exact cN_ok c_impl_ArgsOfRegs rfl)
noncomputable abbrev b_impl_instruction_rm : Code := bodyOf Try.f103
noncomputable def F_impl_instruction_rm (x1 : K.T (.sl (.int .i64))) (x2 : K.T (.int .i64)) : Option sq_impl_instruction_rm.T :=
  bif (decide (x2 ≥ ((x1).length : Int))) then
    (some (((0 : Int), ([], (false, ()))), (), ()))
  else
  bif ib x2 (x1).length then
  (F_impl_ArgsOfRegs ((x1).getD (Int.toNat x2) (K.zero (.int .i64)))).bind fun y1 =>
  (bif (y1.1.1.1 != (0 : Int)) then
      (some (true, ()))
    else
    some ((decide ((IntKind.wrap .i64 (x2 + y1.1.1.2)) ≥ ((x1).length : Int))), ())).bind fun y2 =>
  bif y2.1 then
    (some (((0 : Int), ([], (false, ()))), (), ()))
  else
  bif ib x2 (x1).length then
  bif decide (0 ≤ (IntKind.wrap .i64 (x2 + (1 : Int))) ∧ (IntKind.wrap .i64 (x2 + (1 : Int))) ≤ (IntKind.wrap .i64 ((IntKind.wrap .i64 (x2 + (1 : Int))) + y1.1.1.2)) ∧ (IntKind.wrap .i64 ((IntKind.wrap .i64 (x2 + (1 : Int))) + y1.1.1.2)) ≤ ((x1).length : Int)) then
  some ((((x1).getD (Int.toNat x2) (K.zero (.int .i64))), (((x1).take (Int.toNat (IntKind.wrap .i64 ((IntKind.wrap .i64 (x2 + (1 : Int))) + y1.1.1.2)))).drop (Int.toNat (IntKind.wrap .i64 (x2 + (1 : Int)))), (true, ()))), (), ())
  else none
  else none
  else none
noncomputable abbrev U_impl_instruction_rm : sp_impl_instruction_rm.T → Option sq_impl_instruction_rm.T := fun x => F_impl_instruction_rm x.1.1 x.1.2.1
theorem e_impl_instruction_rm : ∀ x, evCode ty (gamOf g_impl_instruction_rm) j_impl_instruction_rm (lamOf []) b_impl_instruction_rm (sp_impl_instruction_rm.hd x) (finN ty sq_impl_instruction_rm [.tmp 6, .tmp 7, .tmp 8]) = U_impl_instruction_rm x := fun x => by kernel_rfl
theorem c_impl_instruction_rm : FnS P 103 sp_impl_instruction_rm sq_impl_instruction_rm U_impl_instruction_rm :=
  fnS_of_ev tyOk mixed gok_impl_instruction_rm (fn := Try.f103) (by kernel_rfl) (c := b_impl_instruction_rm) (by kernel_rfl) (by kernel_rfl) (by kernel_rfl) (lam_ok (tab := []) (by kernel_rfl) (fun p hp => by cases hp)) e_impl_instruction_rm

/-! (*impl.RegMachine).do$1 -/
abbrev sp_impl_RegMachine_do_f1 : Sp := ⟨5, [(0, .val false (.int .i64))], [], []⟩
abbrev sq_impl_RegMachine_do_f1 : Sp := ⟨1, [(0, .val false .bool)], [], []⟩
noncomputable def g_impl_RegMachine_do_f1 : List (FuncId × SumX) := []
def j_impl_RegMachine_do_f1 : Nat → Option (List (Nat × SS)) := jOf []
theorem gok_impl_RegMachine_do_f1 : GOk P (gamOf g_impl_RegMachine_do_f1) := gam_ok (tab := g_impl_RegMachine_do_f1) (fun p hp => by cases hp)
noncomputable abbrev b_impl_RegMachine_do_f1 : Code := bodyOf Try.f120
noncomputable def F_impl_RegMachine_do_f1 (x1 : K.T (.int .i64)) : Option sq_impl_RegMachine_do_f1.T :=
  some (((decide (x1 ≥ (24 : Int))), ()), (), ())
noncomputable abbrev U_impl_RegMachine_do_f1 : sp_impl_RegMachine_do_f1.T → Option sq_impl_RegMachine_do_f1.T := fun x => F_impl_RegMachine_do_f1 x.1.1
theorem e_impl_RegMachine_do_f1 : ∀ x, evCode ty (gamOf g_impl_RegMachine_do_f1) j_impl_RegMachine_do_f1 (lamOf []) b_impl_RegMachine_do_f1 (sp_impl_RegMachine_do_f1.hd x) (finN ty sq_impl_RegMachine_do_f1 [.tmp 2]) = U_impl_RegMachine_do_f1 x := fun x => by kernel_rfl
theorem c_impl_RegMachine_do_f1 : FnS P 120 sp_impl_RegMachine_do_f1 sq_impl_RegMachine_do_f1 U_impl_RegMachine_do_f1 :=
  fnS_of_ev tyOk mixed gok_impl_RegMachine_do_f1 (fn := Try.f120) (by kernel_rfl) (c := b_impl_RegMachine_do_f1) (by kernel_rfl) (by kernel_rfl) (by kernel_rfl) (lam_ok (tab := []) (by kernel_rfl) (fun p hp => by cases hp)) e_impl_RegMachine_do_f1

/-! slices.IndexFunc[[]int64,int64] -/
abbrev sp_slices_IndexFunc_int64_rm : Sp := ⟨19, [(0, .val false (.sl (.int .i64))), (1, .fix (.fn 120 []))], [], []⟩
abbrev sq_slices_IndexFunc_int64_rm : Sp := ⟨1, [(0, .val false (.int .i64))], [], []⟩
noncomputable def g_slices_IndexFunc_int64_rm : List (FuncId × SumX) := [(120, cN sp_impl_RegMachine_do_f1 sq_impl_RegMachine_do_f1 U_impl_RegMachine_do_f1)]
def j_slices_IndexFunc_int64_rm : Nat → Option (List (Nat × SS)) := jOf []
theorem gok_slices_IndexFunc_int64_rm : GOk P (gamOf g_slices_IndexFunc_int64_rm) := gam_ok (tab := g_slices_IndexFunc_int64_rm) (by
    intro p hp
    simp only [g_slices_IndexFunc_int64_rm, List.mem_cons, List.not_mem_nil, or_false] at hp
    rcases hp with rfl
    · exact cN_ok c_impl_RegMachine_do_f1 rfl)
noncomputable abbrev b_slices_IndexFunc_int64_rm : Code := bodyOf Try.f112
abbrev sp_slices_IndexFunc_int64_rm_l2 : Sp := ⟨19, [(0, .val false (.sl (.int .i64))), (1, .fix (.fn 120 [])), (7, .val false (.int .i64)), (8, .val false (.int .i64))], [], []⟩
abbrev xs_slices_IndexFunc_int64_rm_l2 : List (Ex × Sp) := [(.exit 0, ⟨19, [], [], []⟩), (.ret, ⟨19, [(4, .val false (.int .i64))], [], []⟩)]
noncomputable def s_slices_IndexFunc_int64_rm_l2 : sp_slices_IndexFunc_int64_rm_l2.T → Option (sp_slices_IndexFunc_int64_rm_l2.T ⊕ XT xs_slices_IndexFunc_int64_rm_l2) := fun x =>
  bif (decide (x.1.2.2.1 < x.1.2.1)) then
    (bif ib x.1.2.2.1 (x.1.1).length then
    (F_impl_RegMachine_do_f1 ((x.1.1).getD (Int.toNat x.1.2.2.1) (K.zero (.int .i64)))).bind fun y1 =>
    bif y1.1.1 then
      (some (.inr (.inr ((x.1.2.2.1, ()), (), ()))))
    else
    some (.inl ((x.1.1, (x.1.2.1, ((IntKind.wrap .i64 (x.1.2.2.1 + (1 : Int))), ()))), (), ()))
    else none)
  else
  some (.inr (.inl ((), (), ())))
noncomputable def l_slices_IndexFunc_int64_rm_l2 : sp_slices_IndexFunc_int64_rm_l2.T → Option (XT xs_slices_IndexFunc_int64_rm_l2) := lim s_slices_IndexFunc_int64_rm_l2
theorem es_slices_IndexFunc_int64_rm_l2 : ∀ x, evCode ty (gamOf g_slices_IndexFunc_int64_rm) j_slices_IndexFunc_int64_rm (lamOf []) (loopAt b_slices_IndexFunc_int64_rm 2) (sp_slices_IndexFunc_int64_rm_l2.hd x) (rdK sp_slices_IndexFunc_int64_rm_l2 xs_slices_IndexFunc_int64_rm_l2) = s_slices_IndexFunc_int64_rm_l2 x := fun x => by kernel_rfl
theorem ls_slices_IndexFunc_int64_rm_l2 : LSumOk P (loopAt b_slices_IndexFunc_int64_rm 2) (loopL sp_slices_IndexFunc_int64_rm_l2 xs_slices_IndexFunc_int64_rm_l2 l_slices_IndexFunc_int64_rm_l2) := loop_ok tyOk mixed gok_slices_IndexFunc_int64_rm (by kernel_rfl) (by kernel_rfl) (lam_ok (tab := []) (by kernel_rfl) (fun p hp => by cases hp)) es_slices_IndexFunc_int64_rm_l2 lim_itr
noncomputable def F_slices_IndexFunc_int64_rm (x1 : K.T (.sl (.int .i64))) : Option sq_slices_IndexFunc_int64_rm.T :=
  (l_slices_IndexFunc_int64_rm_l2 ((x1, (((x1).length : Int), ((0 : Int), ()))), (), ())).bind fun y2 =>
  (match y2 with
  | .inl y3 => some (((-1 : Int), ()), (), ())
  | .inr z4 => some ((z4.1.1, ()), (), ()))
noncomputable abbrev U_slices_IndexFunc_int64_rm : sp_slices_IndexFunc_int64_rm.T → Option sq_slices_IndexFunc_int64_rm.T := fun x => F_slices_IndexFunc_int64_rm x.1.1
theorem e_slices_IndexFunc_int64_rm : ∀ x, evCode ty (gamOf g_slices_IndexFunc_int64_rm) j_slices_IndexFunc_int64_rm (lamOf [(2, loopL sp_slices_IndexFunc_int64_rm_l2 xs_slices_IndexFunc_int64_rm_l2 l_slices_IndexFunc_int64_rm_l2)]) b_slices_IndexFunc_int64_rm (sp_slices_IndexFunc_int64_rm.hd x) (finN ty sq_slices_IndexFunc_int64_rm [.tmp 4]) = U_slices_IndexFunc_int64_rm x := fun x => by kernel_rfl
theorem c_slices_IndexFunc_int64_rm : FnS P 112 sp_slices_IndexFunc_int64_rm sq_slices_IndexFunc_int64_rm U_slices_IndexFunc_int64_rm :=
  fnS_of_ev tyOk mixed gok_slices_IndexFunc_int64_rm (fn := Try.f112) (by kernel_rfl) (c := b_slices_IndexFunc_int64_rm) (by kernel_rfl) (by kernel_rfl) (by kernel_rfl) (lam_ok (tab := [(2, loopL sp_slices_IndexFunc_int64_rm_l2 xs_slices_IndexFunc_int64_rm_l2 l_slices_IndexFunc_int64_rm_l2)]) (by kernel_rfl) (by
    intro p hp
    simp only [List.mem_cons, List.not_mem_nil, or_false] at hp
    rcases hp with rfl
    · exact @ls_slices_IndexFunc_int64_rm_l2)) e_slices_IndexFunc_int64_rm

/-! slices.ContainsFunc[[]int64,int64] -/
abbrev sp_slices_ContainsFunc_int64_rm : Sp := ⟨9, [(0, .val false (.sl (.int .i64))), (1, .fix (.fn 120 []))], [], []⟩
abbrev sq_slices_ContainsFunc_int64_rm : Sp := ⟨1, [(0, .val false .bool)], [], []⟩
noncomputable def g_slices_ContainsFunc_int64_rm : List (FuncId × SumX) := [(112, cN sp_slices_IndexFunc_int64_rm sq_slices_IndexFunc_int64_rm U_slices_IndexFunc_int64_rm)]
def j_slices_ContainsFunc_int64_rm : Nat → Option (List (Nat × SS)) := jOf []
theorem gok_slices_ContainsFunc_int64_rm : GOk P (gamOf g_slices_ContainsFunc_int64_rm) := gam_ok (tab := g_slices_ContainsFunc_int64_rm) (by
    intro p hp
    simp only [g_slices_ContainsFunc_int64_rm, List.mem_cons, List.not_mem_nil, or_false] at hp
    rcases hp with rfl
    · exact cN_ok c_slices_IndexFunc_int64_rm rfl)
noncomputable abbrev b_slices_ContainsFunc_int64_rm : Code := bodyOf Try.f91
noncomputable def F_slices_ContainsFunc_int64_rm (x1 : K.T (.sl (.int .i64))) : Option sq_slices_ContainsFunc_int64_rm.T :=
  (F_slices_IndexFunc_int64_rm x1).bind fun y1 =>
  some (((decide (y1.1.1 ≥ (0 : Int))), ()), (), ())
noncomputable abbrev U_slices_ContainsFunc_int64_rm : sp_slices_ContainsFunc_int64_rm.T → Option sq_slices_ContainsFunc_int64_rm.T := fun x => F_slices_ContainsFunc_int64_rm x.1.1
theorem e_slices_ContainsFunc_int64_rm : ∀ x, evCode ty (gamOf g_slices_ContainsFunc_int64_rm) j_slices_ContainsFunc_int64_rm (lamOf []) b_slices_ContainsFunc_int64_rm (sp_slices_ContainsFunc_int64_rm.hd x) (finN ty sq_slices_ContainsFunc_int64_rm [.tmp 4]) = U_slices_ContainsFunc_int64_rm x := fun x => by kernel_rfl
theorem c_slices_ContainsFunc_int64_rm : FnS P 91 sp_slices_ContainsFunc_int64_rm sq_slices_ContainsFunc_int64_rm U_slices_ContainsFunc_int64_rm :=
  fnS_of_ev tyOk mixed gok_slices_ContainsFunc_int64_rm (fn := Try.f91) (by kernel_rfl) (c := b_slices_ContainsFunc_int64_rm) (by kernel_rfl) (by kernel_rfl) (by kernel_rfl) (lam_ok (tab := []) (by kernel_rfl) (fun p hp => by cases hp)) e_slices_ContainsFunc_int64_rm

/-! impl.WordOf -/
abbrev sp_impl_WordOf : Sp := ⟨5, [(0, .val false (.int .i64))], [], []⟩
abbrev sq_impl_WordOf : Sp := ⟨1, [(0, .val false (.int .i64))], [], []⟩
noncomputable def g_impl_WordOf : List (FuncId × SumX) := []
def j_impl_WordOf : Nat → Option (List (Nat × SS)) := jOf []
theorem gok_impl_WordOf : GOk P (gamOf g_impl_WordOf) := gam_ok (tab := g_impl_WordOf) (fun p hp => by cases hp)
noncomputable abbrev b_impl_WordOf : Code := bodyOf Try.f127
noncomputable def F_impl_WordOf (x1 : K.T (.int .i64)) : Option sq_impl_WordOf.T :=
  some (((IntKind.wrap .i64 (((BitVec.ofInt (IntKind.bits .i64) x1 &&& BitVec.ofInt (IntKind.bits .i64) (65535 : Int)).toNat : Int))), ()), (), ())
noncomputable abbrev U_impl_WordOf : sp_impl_WordOf.T → Option sq_impl_WordOf.T := fun x => F_impl_WordOf x.1.1
theorem e_impl_WordOf : ∀ x, evCode ty (gamOf g_impl_WordOf) j_impl_WordOf (lamOf []) b_impl_WordOf (sp_impl_WordOf.hd x) (finN ty sq_impl_WordOf [.tmp 2]) = U_impl_WordOf x := fun x => by kernel_rfl
theorem c_impl_WordOf : FnS P 127 sp_impl_WordOf sq_impl_WordOf U_impl_WordOf :=
  fnS_of_ev tyOk mixed gok_impl_WordOf (fn := Try.f127) (by kernel_rfl) (c := b_impl_WordOf) (by kernel_rfl) (by kernel_rfl) (by kernel_rfl) (lam_ok (tab := []) (by kernel_rfl) (fun p hp => by cases hp)) e_impl_WordOf

/-! impl.Complement -/
abbrev sp_impl_Complement : Sp := ⟨6, [(0, .val false (.int .i64))], [], []⟩
abbrev sq_impl_Complement : Sp := ⟨1, [(0, .val false (.int .i64))], [], []⟩
noncomputable def g_impl_Complement : List (FuncId × SumX) := [(127, cN sp_impl_WordOf sq_impl_WordOf U_impl_WordOf)]
def j_impl_Complement : Nat → Option (List (Nat × SS)) := jOf []
theorem gok_impl_Complement : GOk P (gamOf g_impl_Complement) := gam_ok (tab := g_impl_Complement) (by
    intro p hp
    simp only [g_impl_Complement, List.mem_cons, List.not_mem_nil, or_false] at hp
    rcases hp with rfl
    · exact cN_ok c_impl_WordOf rfl)
noncomputable abbrev b_impl_Complement : Code := bodyOf Try.f110
noncomputable def F_impl_Complement (x1 : K.T (.int .i64)) : Option sq_impl_Complement.T :=
  (F_impl_WordOf x1).bind fun y1 =>
  some (((IntKind.wrap .i64 ((65535 : Int) - y1.1.1)), ()), (), ())
noncomputable abbrev U_impl_Complement : sp_impl_Complement.T → Option sq_impl_Complement.T := fun x => F_impl_Complement x.1.1
theorem e_impl_Complement : ∀ x, evCode ty (gamOf g_impl_Complement) j_impl_Complement (lamOf []) b_impl_Complement (sp_impl_Complement.hd x) (finN ty sq_impl_Complement [.tmp 2]) = U_impl_Complement x := fun x => by kernel_rfl
theorem c_impl_Complement : FnS P 110 sp_impl_Complement sq_impl_Complement U_impl_Complement :=
  fnS_of_ev tyOk mixed gok_impl_Complement (fn := Try.f110) (by kernel_rfl) (c := b_impl_Complement) (by kernel_rfl) (by kernel_rfl) (by kernel_rfl) (lam_ok (tab := []) (by kernel_rfl) (fun p hp => by cases hp)) e_impl_Complement

/-! impl.regsOf -/
abbrev sp_impl_regsOf : Sp := ⟨28, [(0, .val false (.int .i64)), (1, .val false (.sl (.int .i64)))], [], []⟩
abbrev sq_impl_regsOf : Sp := ⟨1, [(0, .val false (.sl (.int .i64)))], [], []⟩
noncomputable def g_impl_regsOf : List (FuncId × SumX) := []
def j_impl_regsOf : Nat → Option (List (Nat × SS)) := jOf []
theorem gok_impl_regsOf : GOk P (gamOf g_impl_regsOf) := gam_ok (tab := g_impl_regsOf) (fun p hp => by cases hp)
noncomputable abbrev b_impl_regsOf : Code := bodyOf Try.f119
noncomputable def F_impl_regsOf (x1 : K.T (.int .i64)) (x2 : K.T (.sl (.int .i64))) : Option sq_impl_regsOf.T :=
  bif (x1 == (1 : Int)) then
    (bif decide (0 ≤ (0 : Int) ∧ (0 : Int) ≤ (1 : Int) ∧ (1 : Int) ≤ ((x2).length : Int)) then
    some ((((x2).take (Int.toNat (1 : Int))).drop (Int.toNat (0 : Int)), ()), (), ())
    else none)
  else
  bif (x1 == (2 : Int)) then
    (bif decide (0 ≤ (0 : Int) ∧ (0 : Int) ≤ (1 : Int) ∧ (1 : Int) ≤ ((x2).length : Int)) then
    some ((((x2).take (Int.toNat (1 : Int))).drop (Int.toNat (0 : Int)), ()), (), ())
    else none)
  else
  bif (x1 == (9 : Int)) then
    (bif decide (0 ≤ (0 : Int) ∧ (0 : Int) ≤ (1 : Int) ∧ (1 : Int) ≤ ((x2).length : Int)) then
    some ((((x2).take (Int.toNat (1 : Int))).drop (Int.toNat (0 : Int)), ()), (), ())
    else none)
  else
  bif (x1 == (11 : Int)) then
    (bif decide (0 ≤ (0 : Int) ∧ (0 : Int) ≤ (1 : Int) ∧ (1 : Int) ≤ ((x2).length : Int)) then
    some ((((x2).take (Int.toNat (1 : Int))).drop (Int.toNat (0 : Int)), ()), (), ())
    else none)
  else
  bif (x1 == (3 : Int)) then
    (bif decide (0 ≤ (1 : Int) ∧ (1 : Int) ≤ ((x2).length : Int) ∧ ((x2).length : Int) ≤ ((x2).length : Int)) then
    some ((((x2).take (Int.toNat ((x2).length : Int))).drop (Int.toNat (1 : Int)), ()), (), ())
    else none)
  else
  bif (x1 == (4 : Int)) then
    (bif decide (0 ≤ (0 : Int) ∧ (0 : Int) ≤ (2 : Int) ∧ (2 : Int) ≤ ((x2).length : Int)) then
    some ((((x2).take (Int.toNat (2 : Int))).drop (Int.toNat (0 : Int)), ()), (), ())
    else none)
  else
  bif (x1 == (5 : Int)) then
    (bif decide (0 ≤ (0 : Int) ∧ (0 : Int) ≤ (2 : Int) ∧ (2 : Int) ≤ ((x2).length : Int)) then
    some ((((x2).take (Int.toNat (2 : Int))).drop (Int.toNat (0 : Int)), ()), (), ())
    else none)
  else
  bif (x1 == (7 : Int)) then
    (bif decide (0 ≤ (0 : Int) ∧ (0 : Int) ≤ (2 : Int) ∧ (2 : Int) ≤ ((x2).length : Int)) then
    some ((((x2).take (Int.toNat (2 : Int))).drop (Int.toNat (0 : Int)), ()), (), ())
    else none)
  else
  bif (x1 == (8 : Int)) then
    (bif decide (0 ≤ (0 : Int) ∧ (0 : Int) ≤ (2 : Int) ∧ (2 : Int) ≤ ((x2).length : Int)) then
    some ((((x2).take (Int.toNat (2 : Int))).drop (Int.toNat (0 : Int)), ()), (), ())
    else none)
  else
  bif (x1 == (6 : Int)) then
    (bif decide (0 ≤ (0 : Int) ∧ (0 : Int) ≤ (3 : Int) ∧ (3 : Int) ≤ ((x2).length : Int)) then
    some ((((x2).take (Int.toNat (3 : Int))).drop (Int.toNat (0 : Int)), ()), (), ())
    else none)
  else
  some (([], ()), (), ())
noncomputable abbrev U_impl_regsOf : sp_impl_regsOf.T → Option sq_impl_regsOf.T := fun x => F_impl_regsOf x.1.1 x.1.2.1
theorem e_impl_regsOf : ∀ x, evCode ty (gamOf g_impl_regsOf) j_impl_regsOf (lamOf []) b_impl_regsOf (sp_impl_regsOf.hd x) (finN ty sq_impl_regsOf [.tmp 4]) = U_impl_regsOf x := fun x => by kernel_rfl
theorem c_impl_regsOf : FnS P 119 sp_impl_regsOf sq_impl_regsOf U_impl_regsOf :=
  fnS_of_ev tyOk mixed gok_impl_regsOf (fn := Try.f119) (by kernel_rfl) (c := b_impl_regsOf) (by kernel_rfl) (by kernel_rfl) (by kernel_rfl) (lam_ok (tab := []) (by kernel_rfl) (fun p hp => by cases hp)) e_impl_regsOf

/-! (*impl.RegMachine).do$2 -/
abbrev sp_impl_RegMachine_do_f2 : Sp := ⟨11, [(0, .val false (.int .i64)), (1, .fix (.ptr 60000 0))], [(60000, [.fix (.ptr 60001 0)]), (60001, [.val (.int .i64), .fix (.own 63000), .fix (.own 63001), .val (.int .i64), .val (.int .i64), .val (.int .i64), .val .bool])], [(63000, (.int .i64), true), (63001, (.int .i64), true)]⟩
abbrev sq_impl_RegMachine_do_f2 : Sp := ⟨1, [(0, .val false .bool)], [(60000, [.fix (.ptr 60001 0)]), (60001, [.val (.int .i64), .fix (.own 59000), .fix (.own 59001), .val (.int .i64), .val (.int .i64), .val (.int .i64), .val .bool])], [(59000, (.int .i64), true), (59001, (.int .i64), true)]⟩
noncomputable def g_impl_RegMachine_do_f2 : List (FuncId × SumX) := []
def j_impl_RegMachine_do_f2 : Nat → Option (List (Nat × SS)) := jOf []
theorem gok_impl_RegMachine_do_f2 : GOk P (gamOf g_impl_RegMachine_do_f2) := gam_ok (tab := g_impl_RegMachine_do_f2) (fun p hp => by cases hp)
noncomputable abbrev b_impl_RegMachine_do_f2 : Code := bodyOf Try.f121
noncomputable def F_impl_RegMachine_do_f2 (x1 : K.T (.int .i64)) (x2 : K.T (.int .i64)) (x3 : K.T (.int .i64)) (x4 : K.T (.int .i64)) (x5 : K.T (.int .i64)) (x6 : K.T .bool) (x7 : List (K.T (.int .i64))) (x8 : List (K.T (.int .i64))) : Option sq_impl_RegMachine_do_f2.T :=
  some (((decide (x1 < ((x8).length : Int))), ()), ((), ((x2, (x3, (x4, (x5, (x6, ()))))), ())), (x7, (x8, ())))
noncomputable abbrev U_impl_RegMachine_do_f2 : sp_impl_RegMachine_do_f2.T → Option sq_impl_RegMachine_do_f2.T := fun x => F_impl_RegMachine_do_f2 x.1.1 x.2.1.2.1.1 x.2.1.2.1.2.1 x.2.1.2.1.2.2.1 x.2.1.2.1.2.2.2.1 x.2.1.2.1.2.2.2.2.1 x.2.2.1 x.2.2.2.1
theorem e_impl_RegMachine_do_f2 : ∀ x, evCode ty (gamOf g_impl_RegMachine_do_f2) j_impl_RegMachine_do_f2 (lamOf []) b_impl_RegMachine_do_f2 (sp_impl_RegMachine_do_f2.hd x) (finN ty sq_impl_RegMachine_do_f2 [.tmp 3]) = U_impl_RegMachine_do_f2 x := fun x => by kernel_rfl
theorem c_impl_RegMachine_do_f2 : FnS P 121 sp_impl_RegMachine_do_f2 sq_impl_RegMachine_do_f2 U_impl_RegMachine_do_f2 :=
  fnS_of_ev tyOk mixed gok_impl_RegMachine_do_f2 (fn := Try.f121) (by kernel_rfl) (c := b_impl_RegMachine_do_f2) (by kernel_rfl) (by kernel_rfl) (by kernel_rfl) (lam_ok (tab := []) (by kernel_rfl) (fun p hp => by cases hp)) e_impl_RegMachine_do_f2

/-! impl.SignedOf -/
abbrev sp_impl_SignedOf : Sp := ⟨10, [(0, .val false (.int .i64))], [], []⟩
abbrev sq_impl_SignedOf : Sp := ⟨1, [(0, .val false (.int .i64))], [], []⟩
noncomputable def g_impl_SignedOf : List (FuncId × SumX) := [(127, cN sp_impl_WordOf sq_impl_WordOf U_impl_WordOf)]
def j_impl_SignedOf : Nat → Option (List (Nat × SS)) := jOf []
theorem gok_impl_SignedOf : GOk P (gamOf g_impl_SignedOf) := gam_ok (tab := g_impl_SignedOf) (by
    intro p hp
    simp only [g_impl_SignedOf, List.mem_cons, List.not_mem_nil, or_false] at hp
    rcases hp with rfl
    · exact cN_ok c_impl_WordOf rfl)
noncomputable abbrev b_impl_SignedOf : Code := bodyOf Try.f122
noncomputable def F_impl_SignedOf (x1 : K.T (.int .i64)) : Option sq_impl_SignedOf.T :=
  (F_impl_WordOf x1).bind fun y1 =>
  bif (decide (y1.1.1 ≥ (32768 : Int))) then
    (some (((IntKind.wrap .i64 (y1.1.1 - (65536 : Int))), ()), (), ()))
  else
  some ((y1.1.1, ()), (), ())
noncomputable abbrev U_impl_SignedOf : sp_impl_SignedOf.T → Option sq_impl_SignedOf.T := fun x => F_impl_SignedOf x.1.1
theorem e_impl_SignedOf : ∀ x, evCode ty (gamOf g_impl_SignedOf) j_impl_SignedOf (lamOf []) b_impl_SignedOf (sp_impl_SignedOf.hd x) (finN ty sq_impl_SignedOf [.tmp 2]) = U_impl_SignedOf x := fun x => by kernel_rfl
theorem c_impl_SignedOf : FnS P 122 sp_impl_SignedOf sq_impl_SignedOf U_impl_SignedOf :=
  fnS_of_ev tyOk mixed gok_impl_SignedOf (fn := Try.f122) (by kernel_rfl) (c := b_impl_SignedOf) (by kernel_rfl) (by kernel_rfl) (by kernel_rfl) (lam_ok (tab := []) (by kernel_rfl) (fun p hp => by cases hp)) e_impl_SignedOf

/-! impl.flag -/
abbrev sp_impl_flag : Sp := ⟨4, [(0, .val false .bool)], [], []⟩
abbrev sq_impl_flag : Sp := ⟨1, [(0, .val false (.int .i64))], [], []⟩
noncomputable def g_impl_flag : List (FuncId × SumX) := []
def j_impl_flag : Nat → Option (List (Nat × SS)) := jOf []
theorem gok_impl_flag : GOk P (gamOf g_impl_flag) := gam_ok (tab := g_impl_flag) (fun p hp => by cases hp)
noncomputable abbrev b_impl_flag : Code := bodyOf Try.f94
noncomputable def F_impl_flag (x1 : K.T .bool) : Option sq_impl_flag.T :=
  bif x1 then
    (some (((1 : Int), ()), (), ()))
  else
  some (((0 : Int), ()), (), ())
noncomputable abbrev U_impl_flag : sp_impl_flag.T → Option sq_impl_flag.T := fun x => F_impl_flag x.1.1
theorem e_impl_flag : ∀ x, evCode ty (gamOf g_impl_flag) j_impl_flag (lamOf []) b_impl_flag (sp_impl_flag.hd x) (finN ty sq_impl_flag [.tmp 2]) = U_impl_flag x := fun x => by kernel_rfl
theorem c_impl_flag : FnS P 94 sp_impl_flag sq_impl_flag U_impl_flag :=
  fnS_of_ev tyOk mixed gok_impl_flag (fn := Try.f94) (by kernel_rfl) (c := b_impl_flag) (by kernel_rfl) (by kernel_rfl) (by kernel_rfl) (lam_ok (tab := []) (by kernel_rfl) (fun p hp => by cases hp)) e_impl_flag

/-! impl.BinaryOf -/
abbrev sp_impl_BinaryOf : Sp := ⟨79, [(0, .val false (.int .i64)), (1, .val false (.int .i64)), (2, .val false (.int .i64))], [], []⟩
abbrev sq_impl_BinaryOf : Sp := ⟨1, [(0, .val true k6)], [], []⟩
noncomputable def g_impl_BinaryOf : List (FuncId × SumX) := [(94, cN sp_impl_flag sq_impl_flag U_impl_flag), (122, cN sp_impl_SignedOf sq_impl_SignedOf U_impl_SignedOf), (127, cN sp_impl_WordOf sq_impl_WordOf U_impl_WordOf)]
def j_impl_BinaryOf : Nat → Option (List (Nat × SS)) := jOf []
theorem gok_impl_BinaryOf : GOk P (gamOf g_impl_BinaryOf) := gam_ok (tab := g_impl_BinaryOf) (by
    intro p hp
    simp only [g_impl_BinaryOf, List.mem_cons, List.not_mem_nil, or_false] at hp
    rcases hp with rfl | rfl | rfl
    · exact cN_ok c_impl_flag rfl
    · exact cN_ok c_impl_SignedOf rfl
    · exact cN_ok c_impl_WordOf rfl)
noncomputable abbrev b_impl_BinaryOf : Code := bodyOf Try.f137
noncomputable def F_impl_BinaryOf (x1 : K.T (.int .i64)) (x2 : K.T (.int .i64)) (x3 : K.T (.int .i64)) : Option sq_impl_BinaryOf.T :=
  (F_impl_WordOf x2).bind fun y1 =>
  (F_impl_WordOf x3).bind fun y2 =>
  (F_impl_SignedOf y1.1.1).bind fun y3 =>
  (F_impl_SignedOf y2.1.1).bind fun y4 =>
  bif (x1 == (1 : Int)) then
    ((F_impl_WordOf (IntKind.wrap .i64 (y1.1.1 + y2.1.1))).bind fun y5 =>
    some ((((0 : Int), y5.1.1), ()), (), ()))
  else
  bif (x1 == (2 : Int)) then
    ((F_impl_WordOf (IntKind.wrap .i64 (y1.1.1 - y2.1.1))).bind fun y6 =>
    some ((((0 : Int), y6.1.1), ()), (), ()))
  else
  bif (x1 == (3 : Int)) then
    ((F_impl_WordOf (IntKind.wrap .i64 (y1.1.1 * y2.1.1))).bind fun y7 =>
    some ((((0 : Int), y7.1.1), ()), (), ()))
  else
  bif (x1 == (4 : Int)) then
    (bif (y2.1.1 == (0 : Int)) then
      (some ((((4 : Int), (0 : Int)), ()), (), ()))
    else
    bif (y4.1.1 == 0) then none else
    bif (x1 == (5 : Int)) then
      (bif (y4.1.1 == 0) then none else
      (F_impl_WordOf (Int.tmod y3.1.1 y4.1.1)).bind fun y8 =>
      some ((((0 : Int), y8.1.1), ()), (), ()))
    else
    (F_impl_WordOf (IntKind.wrap .i64 (Int.tdiv y3.1.1 y4.1.1))).bind fun y9 =>
    some ((((0 : Int), y9.1.1), ()), (), ()))
  else
  bif (x1 == (5 : Int)) then
    (bif (y2.1.1 == (0 : Int)) then
      (some ((((4 : Int), (0 : Int)), ()), (), ()))
    else
    bif (y4.1.1 == 0) then none else
    bif (x1 == (5 : Int)) then
      (bif (y4.1.1 == 0) then none else
      (F_impl_WordOf (Int.tmod y3.1.1 y4.1.1)).bind fun y10 =>
      some ((((0 : Int), y10.1.1), ()), (), ()))
    else
    (F_impl_WordOf (IntKind.wrap .i64 (Int.tdiv y3.1.1 y4.1.1))).bind fun y11 =>
    some ((((0 : Int), y11.1.1), ()), (), ()))
  else
  bif (x1 == (6 : Int)) then
    ((F_impl_WordOf (IntKind.wrap .i64 (((BitVec.ofInt (IntKind.bits .i64) y1.1.1 &&& BitVec.ofInt (IntKind.bits .i64) y2.1.1).toNat : Int)))).bind fun y12 =>
    some ((((0 : Int), y12.1.1), ()), (), ()))
  else
  bif (x1 == (7 : Int)) then
    ((F_impl_WordOf (IntKind.wrap .i64 (((BitVec.ofInt (IntKind.bits .i64) y1.1.1 ||| BitVec.ofInt (IntKind.bits .i64) y2.1.1).toNat : Int)))).bind fun y13 =>
    some ((((0 : Int), y13.1.1), ()), (), ()))
  else
  bif (x1 == (8 : Int)) then
    ((F_impl_WordOf (IntKind.wrap .i64 (((BitVec.ofInt (IntKind.bits .i64) y1.1.1 ^^^ BitVec.ofInt (IntKind.bits .i64) y2.1.1).toNat : Int)))).bind fun y14 =>
    some ((((0 : Int), y14.1.1), ()), (), ()))
  else
  bif (x1 == (9 : Int)) then
    ((F_impl_flag (decide (y3.1.1 < y4.1.1))).bind fun y15 =>
    (F_impl_WordOf y15.1.1).bind fun y16 =>
    some ((((0 : Int), y16.1.1), ()), (), ()))
  else
  bif (x1 == (10 : Int)) then
    ((F_impl_flag (y1.1.1 == y2.1.1)).bind fun y17 =>
    (F_impl_WordOf y17.1.1).bind fun y18 =>
    some ((((0 : Int), y18.1.1), ()), (), ()))
  else
  some ((((3 : Int), (0 : Int)), ()), (), ())
noncomputable abbrev U_impl_BinaryOf : sp_impl_BinaryOf.T → Option sq_impl_BinaryOf.T := fun x => F_impl_BinaryOf x.1.1 x.1.2.1 x.1.2.2.1
theorem e_impl_BinaryOf : ∀ x, evCode ty (gamOf g_impl_BinaryOf) j_impl_BinaryOf (lamOf []) b_impl_BinaryOf (sp_impl_BinaryOf.hd x) (finN ty sq_impl_BinaryOf [.cell 6 131]) = U_impl_BinaryOf x := fun x => by kernel_rfl
theorem c_impl_BinaryOf : FnS P 137 sp_impl_BinaryOf sq_impl_BinaryOf U_impl_BinaryOf :=
  fnS_of_ev tyOk mixed gok_impl_BinaryOf (fn := Try.f137) (by kernel_rfl) (c := b_impl_BinaryOf) (by kernel_rfl) (by kernel_rfl) (by kernel_rfl) (lam_ok (tab := []) (by kernel_rfl) (fun p hp => by cases hp)) e_impl_BinaryOf

/-! impl.BinaryInv -/
abbrev sp_impl_BinaryInv : Sp := ⟨22, [(0, .val false (.int .i64)), (1, .val false (.int .i64)), (2, .val false (.int .i64))], [], []⟩
abbrev sq_impl_BinaryInv : Sp := ⟨1, [(0, .val true k6)], [], []⟩
noncomputable def g_impl_BinaryInv : List (FuncId × SumX) := [(110, cN sp_impl_Complement sq_impl_Complement U_impl_Complement), (137, cN sp_impl_BinaryOf sq_impl_BinaryOf U_impl_BinaryOf)]
def j_impl_BinaryInv : Nat → Option (List (Nat × SS)) := jOf []
theorem gok_impl_BinaryInv : GOk P (gamOf g_impl_BinaryInv) := gam_ok (tab := g_impl_BinaryInv) (by
    intro p hp
    simp only [g_impl_BinaryInv, List.mem_cons, List.not_mem_nil, or_false] at hp
    rcases hp with rfl | rfl
    · exact cN_ok c_impl_Complement rfl
    · exact cN_ok c_impl_BinaryOf rfl)
noncomputable abbrev b_impl_BinaryInv : Code := bodyOf Try.f123
noncomputable def F_impl_BinaryInv (x1 : K.T (.int .i64)) (x2 : K.T (.int .i64)) (x3 : K.T (.int .i64)) : Option sq_impl_BinaryInv.T :=
  (F_impl_Complement x2).bind fun y1 =>
  (F_impl_Complement x3).bind fun y2 =>
  (F_impl_BinaryOf x1 y1.1.1 y2.1.1).bind fun y3 =>
  bif (y3.1.1.1 == (0 : Int)) then
    ((F_impl_Complement y3.1.1.2).bind fun y4 =>
    some (((y3.1.1.1, y4.1.1), ()), (), ()))
  else
  some ((y3.1.1, ()), (), ())
noncomputable abbrev U_impl_BinaryInv : sp_impl_BinaryInv.T → Option sq_impl_BinaryInv.T := fun x => F_impl_BinaryInv x.1.1 x.1.2.1 x.1.2.2.1
theorem e_impl_BinaryInv : ∀ x, evCode ty (gamOf g_impl_BinaryInv) j_impl_BinaryInv (lamOf []) b_impl_BinaryInv (sp_impl_BinaryInv.hd x) (finN ty sq_impl_BinaryInv [.cell 6 131]) = U_impl_BinaryInv x := fun x => by kernel_rfl
theorem c_impl_BinaryInv : FnS P 123 sp_impl_BinaryInv sq_impl_BinaryInv U_impl_BinaryInv :=
  fnS_of_ev tyOk mixed gok_impl_BinaryInv (fn := Try.f123) (by kernel_rfl) (c := b_impl_BinaryInv) (by kernel_rfl) (by kernel_rfl) (by kernel_rfl) (lam_ok (tab := []) (by kernel_rfl) (fun p hp => by cases hp)) e_impl_BinaryInv

/-! impl.NegOf -/
abbrev sp_impl_NegOf : Sp := ⟨7, [(0, .val false (.int .i64))], [], []⟩
abbrev sq_impl_NegOf : Sp := ⟨1, [(0, .val false (.int .i64))], [], []⟩
noncomputable def g_impl_NegOf : List (FuncId × SumX) := [(127, cN sp_impl_WordOf sq_impl_WordOf U_impl_WordOf)]
def j_impl_NegOf : Nat → Option (List (Nat × SS)) := jOf []
theorem gok_impl_NegOf : GOk P (gamOf g_impl_NegOf) := gam_ok (tab := g_impl_NegOf) (by
    intro p hp
    simp only [g_impl_NegOf, List.mem_cons, List.not_mem_nil, or_false] at hp
    rcases hp with rfl
    · exact cN_ok c_impl_WordOf rfl)
noncomputable abbrev b_impl_NegOf : Code := bodyOf Try.f124
noncomputable def F_impl_NegOf (x1 : K.T (.int .i64)) : Option sq_impl_NegOf.T :=
  (F_impl_WordOf x1).bind fun y1 =>
  (F_impl_WordOf (IntKind.wrap .i64 (0 - y1.1.1))).bind fun y2 =>
  some ((y2.1.1, ()), (), ())
noncomputable abbrev U_impl_NegOf : sp_impl_NegOf.T → Option sq_impl_NegOf.T := fun x => F_impl_NegOf x.1.1
theorem e_impl_NegOf : ∀ x, evCode ty (gamOf g_impl_NegOf) j_impl_NegOf (lamOf []) b_impl_NegOf (sp_impl_NegOf.hd x) (finN ty sq_impl_NegOf [.tmp 2]) = U_impl_NegOf x := fun x => by kernel_rfl
theorem c_impl_NegOf : FnS P 124 sp_impl_NegOf sq_impl_NegOf U_impl_NegOf :=
  fnS_of_ev tyOk mixed gok_impl_NegOf (fn := Try.f124) (by kernel_rfl) (c := b_impl_NegOf) (by kernel_rfl) (by kernel_rfl) (by kernel_rfl) (lam_ok (tab := []) (by kernel_rfl) (fun p hp => by cases hp)) e_impl_NegOf

/-! impl.NotOf -/
abbrev sp_impl_NotOf : Sp := ⟨7, [(0, .val false (.int .i64))], [], []⟩
abbrev sq_impl_NotOf : Sp := ⟨1, [(0, .val false (.int .i64))], [], []⟩
noncomputable def g_impl_NotOf : List (FuncId × SumX) := [(94, cN sp_impl_flag sq_impl_flag U_impl_flag), (127, cN sp_impl_WordOf sq_impl_WordOf U_impl_WordOf)]
def j_impl_NotOf : Nat → Option (List (Nat × SS)) := jOf []
theorem gok_impl_NotOf : GOk P (gamOf g_impl_NotOf) := gam_ok (tab := g_impl_NotOf) (by
    intro p hp
    simp only [g_impl_NotOf, List.mem_cons, List.not_mem_nil, or_false] at hp
    rcases hp with rfl | rfl
    · exact cN_ok c_impl_flag rfl
    · exact cN_ok c_impl_WordOf rfl)
noncomputable abbrev b_impl_NotOf : Code := bodyOf Try.f125
noncomputable def F_impl_NotOf (x1 : K.T (.int .i64)) : Option sq_impl_NotOf.T :=
  (F_impl_WordOf x1).bind fun y1 =>
  (F_impl_flag (y1.1.1 == (0 : Int))).bind fun y2 =>
  some ((y2.1.1, ()), (), ())
noncomputable abbrev U_impl_NotOf : sp_impl_NotOf.T → Option sq_impl_NotOf.T := fun x => F_impl_NotOf x.1.1
theorem e_impl_NotOf : ∀ x, evCode ty (gamOf g_impl_NotOf) j_impl_NotOf (lamOf []) b_impl_NotOf (sp_impl_NotOf.hd x) (finN ty sq_impl_NotOf [.tmp 2]) = U_impl_NotOf x := fun x => by kernel_rfl
theorem c_impl_NotOf : FnS P 125 sp_impl_NotOf sq_impl_NotOf U_impl_NotOf :=
  fnS_of_ev tyOk mixed gok_impl_NotOf (fn := Try.f125) (by kernel_rfl) (c := b_impl_NotOf) (by kernel_rfl) (by kernel_rfl) (by kernel_rfl) (lam_ok (tab := []) (by kernel_rfl) (fun p hp => by cases hp)) e_impl_NotOf

/-! impl.SignOf -/
abbrev sp_impl_SignOf : Sp := ⟨13, [(0, .val false (.int .i64)), (1, .val false (.int .i64))], [], []⟩
abbrev sq_impl_SignOf : Sp := ⟨1, [(0, .val false (.int .i64))], [], []⟩
noncomputable def g_impl_SignOf : List (FuncId × SumX) := [(127, cN sp_impl_WordOf sq_impl_WordOf U_impl_WordOf)]
def j_impl_SignOf : Nat → Option (List (Nat × SS)) := jOf []
theorem gok_impl_SignOf : GOk P (gamOf g_impl_SignOf) := gam_ok (tab := g_impl_SignOf) (by
    intro p hp
    simp only [g_impl_SignOf, List.mem_cons, List.not_mem_nil, or_false] at hp
    rcases hp with rfl
    · exact cN_ok c_impl_WordOf rfl)
noncomputable abbrev b_impl_SignOf : Code := bodyOf Try.f126
noncomputable def F_impl_SignOf (x1 : K.T (.int .i64)) (x2 : K.T (.int .i64)) : Option sq_impl_SignOf.T :=
  (F_impl_WordOf x1).bind fun y1 =>
  (F_impl_WordOf x2).bind fun y2 =>
  some (((Int.tmod (IntKind.wrap .i64 ((IntKind.wrap .i64 ((IntKind.wrap .i64 (y1.1.1 * (31 : Int))) + y2.1.1)) + (1 : Int))) (65521 : Int)), ()), (), ())
noncomputable abbrev U_impl_SignOf : sp_impl_SignOf.T → Option sq_impl_SignOf.T := fun x => F_impl_SignOf x.1.1 x.1.2.1
theorem e_impl_SignOf : ∀ x, evCode ty (gamOf g_impl_SignOf) j_impl_SignOf (lamOf []) b_impl_SignOf (sp_impl_SignOf.hd x) (finN ty sq_impl_SignOf [.tmp 4]) = U_impl_SignOf x := fun x => by kernel_rfl
theorem c_impl_SignOf : FnS P 126 sp_impl_SignOf sq_impl_SignOf U_impl_SignOf :=
  fnS_of_ev tyOk mixed gok_impl_SignOf (fn := Try.f126) (by kernel_rfl) (c := b_impl_SignOf) (by kernel_rfl) (by kernel_rfl) (by kernel_rfl) (lam_ok (tab := []) (by kernel_rfl) (fun p hp => by cases hp)) e_impl_SignOf

/-! (*impl.RegMachine).do -/
abbrev sp_impl_RegMachine_do : Sp := ⟨324, [(0, .fix (.ptr 60000 0)), (1, .val false (.int .i64)), (2, .val false (.sl (.int .i64)))], [(60000, [.val (.int .i64), .fix (.own 63000), .fix (.own 63001), .val (.int .i64), .val (.int .i64), .val (.int .i64), .val .bool])], [(63000, (.int .i64), true), (63001, (.int .i64), true)]⟩
abbrev sq_impl_RegMachine_do : Sp := ⟨1, [(0, .val false (.int .i64))], [(60000, [.val (.int .i64), .fix (.own 59000), .fix (.own 59001), .val (.int .i64), .val (.int .i64), .val (.int .i64), .val .bool])], [(59000, (.int .i64), true), (59001, (.int .i64), true)]⟩
noncomputable def g_impl_RegMachine_do : List (FuncId × SumX) := [(67, cN sp_impl_within sq_impl_within U_impl_within), (91, cN sp_slices_ContainsFunc_int64_rm sq_slices_ContainsFunc_int64_rm U_slices_ContainsFunc_int64_rm), (110, cN sp_impl_Complement sq_impl_Complement U_impl_Complement), (119, cN sp_impl_regsOf sq_impl_regsOf U_impl_regsOf), (121, xN sp_impl_RegMachine_do_f2 sq_impl_RegMachine_do_f2 U_impl_RegMachine_do_f2), (122, cN sp_impl_SignedOf sq_impl_SignedOf U_impl_SignedOf), (123, cN sp_impl_BinaryInv sq_impl_BinaryInv U_impl_BinaryInv), (124, cN sp_impl_NegOf sq_impl_NegOf U_impl_NegOf), (125, cN sp_impl_NotOf sq_impl_NotOf U_impl_NotOf), (126, cN sp_impl_SignOf sq_impl_SignOf U_impl_SignOf)]
def j_impl_RegMachine_do : Nat → Option (List (Nat × SS)) := jOf []
theorem gok_impl_RegMachine_do : GOk P (gamOf g_impl_RegMachine_do) := gam_ok (tab := g_impl_RegMachine_do) (by
    intro p hp
    simp only [g_impl_RegMachine_do, List.mem_cons, List.not_mem_nil, or_false] at hp
    rcases hp with rfl | rfl | rfl | rfl | rfl | rfl | rfl | rfl | rfl | rfl
    · exact cN_ok c_impl_within rfl
    · exact cN_ok c_slices_ContainsFunc_int64_rm rfl
    · exact cN_ok c_impl_Complement rfl
    · exact cN_ok c_impl_regsOf rfl
    · exact xN_ok c_impl_RegMachine_do_f2 rfl
    · exact cN_ok c_impl_SignedOf rfl
    · exact cN_ok c_impl_BinaryInv rfl
    · exact cN_ok c_impl_NegOf rfl
    · exact cN_ok c_impl_NotOf rfl
    · exact cN_ok c_impl_SignOf rfl)
noncomputable abbrev b_impl_RegMachine_do : Code := bodyOf Try.f105
noncomputable def F_impl_RegMachine_do (x1 : K.T (.int .i64)) (x2 : K.T (.sl (.int .i64))) (x3 : K.T (.int .i64)) (x4 : K.T (.int .i64)) (x5 : K.T (.int .i64)) (x6 : K.T (.int .i64)) (x7 : K.T .bool) (x8 : List (K.T (.int .i64))) (x9 : List (K.T (.int .i64))) : Option sq_impl_RegMachine_do.T :=
  (F_impl_regsOf x1 x2).bind fun y1 =>
  (F_slices_ContainsFunc_int64_rm y1.1.1).bind fun y2 =>
  bif y2.1.1 then
    (some (((1 : Int), ()), ((x3, (x4, (x5, (x6, (x7, ()))))), ()), (x8, (x9, ()))))
  else
  bif (x1 == (2 : Int)) then
    (bif ib (1 : Int) (x2).length then
    (F_impl_RegMachine_do_f2 ((x2).getD (Int.toNat (1 : Int)) (K.zero (.int .i64))) x3 x4 x5 x6 x7 x8 x9).bind fun y3 =>
    bif (!y3.1.1) then
      (some (((1 : Int), ()), ((y3.2.1.2.1.1, (y3.2.1.2.1.2.1, (y3.2.1.2.1.2.2.1, (y3.2.1.2.1.2.2.2.1, (y3.2.1.2.1.2.2.2.2.1, ()))))), ()), (y3.2.2.1, (y3.2.2.2.1, ()))))
    else
    bif (x1 == (3 : Int)) then
      (bif ib (0 : Int) (x2).length then
      (F_impl_RegMachine_do_f2 ((x2).getD (Int.toNat (0 : Int)) (K.zero (.int .i64))) y3.2.1.2.1.1 y3.2.1.2.1.2.1 y3.2.1.2.1.2.2.1 y3.2.1.2.1.2.2.2.1 y3.2.1.2.1.2.2.2.2.1 y3.2.2.1 y3.2.2.2.1).bind fun y4 =>
      bif (!y4.1.1) then
        (some (((1 : Int), ()), ((y4.2.1.2.1.1, (y4.2.1.2.1.2.1, (y4.2.1.2.1.2.2.1, (y4.2.1.2.1.2.2.2.1, (y4.2.1.2.1.2.2.2.2.1, ()))))), ()), (y4.2.2.1, (y4.2.2.2.1, ()))))
      else
      bif (x1 == (1 : Int)) then
        (bif ib (0 : Int) (x2).length then
        bif ib (1 : Int) (x2).length then
        bif ib ((x2).getD (Int.toNat (0 : Int)) (K.zero (.int .i64))) (y4.2.2.1).length then
        some (((0 : Int), ()), ((y4.2.1.2.1.1, (y4.2.1.2.1.2.1, (y4.2.1.2.1.2.2.1, (y4.2.1.2.1.2.2.2.1, (y4.2.1.2.1.2.2.2.2.1, ()))))), ()), ((y4.2.2.1).set (Int.toNat ((x2).getD (Int.toNat (0 : Int)) (K.zero (.int .i64)))) ((x2).getD (Int.toNat (1 : Int)) (K.zero (.int .i64))), (y4.2.2.2.1, ())))
        else none
        else none
        else none)
      else
      bif (x1 == (2 : Int)) then
        (bif ib (0 : Int) (x2).length then
        bif ib (1 : Int) (x2).length then
        bif ib ((x2).getD (Int.toNat (1 : Int)) (K.zero (.int .i64))) (y4.2.2.2.1).length then
        bif ib ((x2).getD (Int.toNat (0 : Int)) (K.zero (.int .i64))) (y4.2.2.1).length then
        some (((0 : Int), ()), ((y4.2.1.2.1.1, (y4.2.1.2.1.2.1, (y4.2.1.2.1.2.2.1, (y4.2.1.2.1.2.2.2.1, (y4.2.1.2.1.2.2.2.2.1, ()))))), ()), ((y4.2.2.1).set (Int.toNat ((x2).getD (Int.toNat (0 : Int)) (K.zero (.int .i64)))) ((y4.2.2.2.1).getD (Int.toNat ((x2).getD (Int.toNat (1 : Int)) (K.zero (.int .i64)))) (K.zero (.int .i64))), (y4.2.2.2.1, ())))
        else none
        else none
        else none
        else none)
      else
      bif (x1 == (3 : Int)) then
        (bif ib (0 : Int) (x2).length then
        bif ib (1 : Int) (x2).length then
        bif ib ((x2).getD (Int.toNat (1 : Int)) (K.zero (.int .i64))) (y4.2.2.1).length then
        bif ib ((x2).getD (Int.toNat (0 : Int)) (K.zero (.int .i64))) (y4.2.2.2.1).length then
        some (((0 : Int), ()), ((y4.2.1.2.1.1, (y4.2.1.2.1.2.1, (y4.2.1.2.1.2.2.1, (y4.2.1.2.1.2.2.2.1, (y4.2.1.2.1.2.2.2.2.1, ()))))), ()), (y4.2.2.1, ((y4.2.2.2.1).set (Int.toNat ((x2).getD (Int.toNat (0 : Int)) (K.zero (.int .i64)))) ((y4.2.2.1).getD (Int.toNat ((x2).getD (Int.toNat (1 : Int)) (K.zero (.int .i64)))) (K.zero (.int .i64))), ())))
        else none
        else none
        else none
        else none)
      else
      bif (x1 == (4 : Int)) then
        (bif ib (1 : Int) (x2).length then
        bif ib ((x2).getD (Int.toNat (1 : Int)) (K.zero (.int .i64))) (y4.2.2.1).length then
        bif (x1 == (5 : Int)) then
          (bif ib (0 : Int) (x2).length then
          bif ib ((x2).getD (Int.toNat (0 : Int)) (K.zero (.int .i64))) (y4.2.2.1).length then
          (F_impl_Complement ((y4.2.2.1).getD (Int.toNat ((x2).getD (Int.toNat (0 : Int)) (K.zero (.int .i64)))) (K.zero (.int .i64)))).bind fun y5 =>
          (F_impl_SignedOf y5.1.1).bind fun y6 =>
          bif ib (3 : Int) (x2).length then
          (F_impl_within y6.1.1 (0 : Int) (IntKind.wrap .i64 (((x2).getD (Int.toNat (3 : Int)) (K.zero (.int .i64))) - (1 : Int)))).bind fun y7 =>
          bif (!y7.1.1) then
            (some (((3 : Int), ()), ((y4.2.1.2.1.1, (y4.2.1.2.1.2.1, (y4.2.1.2.1.2.2.1, (y4.2.1.2.1.2.2.2.1, (y4.2.1.2.1.2.2.2.2.1, ()))))), ()), (y4.2.2.1, (y4.2.2.2.1, ()))))
          else
          bif ib (2 : Int) (x2).length then
          (F_impl_RegMachine_do_f2 (IntKind.wrap .i64 (((x2).getD (Int.toNat (2 : Int)) (K.zero (.int .i64))) + y6.1.1)) y4.2.1.2.1.1 y4.2.1.2.1.2.1 y4.2.1.2.1.2.2.1 y4.2.1.2.1.2.2.2.1 y4.2.1.2.1.2.2.2.2.1 y4.2.2.1 y4.2.2.2.1).bind fun y8 =>
          bif (!y8.1.1) then
            (some (((1 : Int), ()), ((y8.2.1.2.1.1, (y8.2.1.2.1.2.1, (y8.2.1.2.1.2.2.1, (y8.2.1.2.1.2.2.2.1, (y8.2.1.2.1.2.2.2.2.1, ()))))), ()), (y8.2.2.1, (y8.2.2.2.1, ()))))
          else
          bif (x1 == (4 : Int)) then
            (bif ib (0 : Int) (x2).length then
            bif ib (2 : Int) (x2).length then
            bif ib (IntKind.wrap .i64 (((x2).getD (Int.toNat (2 : Int)) (K.zero (.int .i64))) + y6.1.1)) (y8.2.2.2.1).length then
            bif ib ((x2).getD (Int.toNat (0 : Int)) (K.zero (.int .i64))) (y8.2.2.1).length then
            some (((0 : Int), ()), ((y8.2.1.2.1.1, (y8.2.1.2.1.2.1, (y8.2.1.2.1.2.2.1, (y8.2.1.2.1.2.2.2.1, (y8.2.1.2.1.2.2.2.2.1, ()))))), ()), ((y8.2.2.1).set (Int.toNat ((x2).getD (Int.toNat (0 : Int)) (K.zero (.int .i64)))) ((y8.2.2.2.1).getD (Int.toNat (IntKind.wrap .i64 (((x2).getD (Int.toNat (2 : Int)) (K.zero (.int .i64))) + y6.1.1))) (K.zero (.int .i64))), (y8.2.2.2.1, ())))
            else none
            else none
            else none
            else none)
          else
          bif ib (2 : Int) (x2).length then
          bif ib (1 : Int) (x2).length then
          bif ib ((x2).getD (Int.toNat (1 : Int)) (K.zero (.int .i64))) (y8.2.2.1).length then
          bif ib (IntKind.wrap .i64 (((x2).getD (Int.toNat (2 : Int)) (K.zero (.int .i64))) + y6.1.1)) (y8.2.2.2.1).length then
          some (((0 : Int), ()), ((y8.2.1.2.1.1, (y8.2.1.2.1.2.1, (y8.2.1.2.1.2.2.1, (y8.2.1.2.1.2.2.2.1, (y8.2.1.2.1.2.2.2.2.1, ()))))), ()), (y8.2.2.1, ((y8.2.2.2.1).set (Int.toNat (IntKind.wrap .i64 (((x2).getD (Int.toNat (2 : Int)) (K.zero (.int .i64))) + y6.1.1))) ((y8.2.2.1).getD (Int.toNat ((x2).getD (Int.toNat (1 : Int)) (K.zero (.int .i64)))) (K.zero (.int .i64))), ())))
          else none
          else none
          else none
          else none
          else none
          else none
          else none
          else none)
        else
        (F_impl_Complement ((y4.2.2.1).getD (Int.toNat ((x2).getD (Int.toNat (1 : Int)) (K.zero (.int .i64)))) (K.zero (.int .i64)))).bind fun y9 =>
        (F_impl_SignedOf y9.1.1).bind fun y10 =>
        bif ib (3 : Int) (x2).length then
        (F_impl_within y10.1.1 (0 : Int) (IntKind.wrap .i64 (((x2).getD (Int.toNat (3 : Int)) (K.zero (.int .i64))) - (1 : Int)))).bind fun y11 =>
        bif (!y11.1.1) then
          (some (((3 : Int), ()), ((y4.2.1.2.1.1, (y4.2.1.2.1.2.1, (y4.2.1.2.1.2.2.1, (y4.2.1.2.1.2.2.2.1, (y4.2.1.2.1.2.2.2.2.1, ()))))), ()), (y4.2.2.1, (y4.2.2.2.1, ()))))
        else
        bif ib (2 : Int) (x2).length then
        (F_impl_RegMachine_do_f2 (IntKind.wrap .i64 (((x2).getD (Int.toNat (2 : Int)) (K.zero (.int .i64))) + y10.1.1)) y4.2.1.2.1.1 y4.2.1.2.1.2.1 y4.2.1.2.1.2.2.1 y4.2.1.2.1.2.2.2.1 y4.2.1.2.1.2.2.2.2.1 y4.2.2.1 y4.2.2.2.1).bind fun y12 =>
        bif (!y12.1.1) then
          (some (((1 : Int), ()), ((y12.2.1.2.1.1, (y12.2.1.2.1.2.1, (y12.2.1.2.1.2.2.1, (y12.2.1.2.1.2.2.2.1, (y12.2.1.2.1.2.2.2.2.1, ()))))), ()), (y12.2.2.1, (y12.2.2.2.1, ()))))
        else
        bif (x1 == (4 : Int)) then
          (bif ib (0 : Int) (x2).length then
          bif ib (2 : Int) (x2).length then
          bif ib (IntKind.wrap .i64 (((x2).getD (Int.toNat (2 : Int)) (K.zero (.int .i64))) + y10.1.1)) (y12.2.2.2.1).length then
          bif ib ((x2).getD (Int.toNat (0 : Int)) (K.zero (.int .i64))) (y12.2.2.1).length then
          some (((0 : Int), ()), ((y12.2.1.2.1.1, (y12.2.1.2.1.2.1, (y12.2.1.2.1.2.2.1, (y12.2.1.2.1.2.2.2.1, (y12.2.1.2.1.2.2.2.2.1, ()))))), ()), ((y12.2.2.1).set (Int.toNat ((x2).getD (Int.toNat (0 : Int)) (K.zero (.int .i64)))) ((y12.2.2.2.1).getD (Int.toNat (IntKind.wrap .i64 (((x2).getD (Int.toNat (2 : Int)) (K.zero (.int .i64))) + y10.1.1))) (K.zero (.int .i64))), (y12.2.2.2.1, ())))
          else none
          else none
          else none
          else none)
        else
        bif ib (2 : Int) (x2).length then
        bif ib (1 : Int) (x2).length then
        bif ib ((x2).getD (Int.toNat (1 : Int)) (K.zero (.int .i64))) (y12.2.2.1).length then
        bif ib (IntKind.wrap .i64 (((x2).getD (Int.toNat (2 : Int)) (K.zero (.int .i64))) + y10.1.1)) (y12.2.2.2.1).length then
        some (((0 : Int), ()), ((y12.2.1.2.1.1, (y12.2.1.2.1.2.1, (y12.2.1.2.1.2.2.1, (y12.2.1.2.1.2.2.2.1, (y12.2.1.2.1.2.2.2.2.1, ()))))), ()), (y12.2.2.1, ((y12.2.2.2.1).set (Int.toNat (IntKind.wrap .i64 (((x2).getD (Int.toNat (2 : Int)) (K.zero (.int .i64))) + y10.1.1))) ((y12.2.2.1).getD (Int.toNat ((x2).getD (Int.toNat (1 : Int)) (K.zero (.int .i64)))) (K.zero (.int .i64))), ())))
        else none
        else none
        else none
        else none
        else none
        else none
        else none
        else none)
      else
      bif (x1 == (5 : Int)) then
        (bif ib (1 : Int) (x2).length then
        bif ib ((x2).getD (Int.toNat (1 : Int)) (K.zero (.int .i64))) (y4.2.2.1).length then
        bif (x1 == (5 : Int)) then
          (bif ib (0 : Int) (x2).length then
          bif ib ((x2).getD (Int.toNat (0 : Int)) (K.zero (.int .i64))) (y4.2.2.1).length then
          (F_impl_Complement ((y4.2.2.1).getD (Int.toNat ((x2).getD (Int.toNat (0 : Int)) (K.zero (.int .i64)))) (K.zero (.int .i64)))).bind fun y13 =>
          (F_impl_SignedOf y13.1.1).bind fun y14 =>
          bif ib (3 : Int) (x2).length then
          (F_impl_within y14.1.1 (0 : Int) (IntKind.wrap .i64 (((x2).getD (Int.toNat (3 : Int)) (K.zero (.int .i64))) - (1 : Int)))).bind fun y15 =>
          bif (!y15.1.1) then
            (some (((3 : Int), ()), ((y4.2.1.2.1.1, (y4.2.1.2.1.2.1, (y4.2.1.2.1.2.2.1, (y4.2.1.2.1.2.2.2.1, (y4.2.1.2.1.2.2.2.2.1, ()))))), ()), (y4.2.2.1, (y4.2.2.2.1, ()))))
          else
          bif ib (2 : Int) (x2).length then
          (F_impl_RegMachine_do_f2 (IntKind.wrap .i64 (((x2).getD (Int.toNat (2 : Int)) (K.zero (.int .i64))) + y14.1.1)) y4.2.1.2.1.1 y4.2.1.2.1.2.1 y4.2.1.2.1.2.2.1 y4.2.1.2.1.2.2.2.1 y4.2.1.2.1.2.2.2.2.1 y4.2.2.1 y4.2.2.2.1).bind fun y16 =>
          bif (!y16.1.1) then
            (some (((1 : Int), ()), ((y16.2.1.2.1.1, (y16.2.1.2.1.2.1, (y16.2.1.2.1.2.2.1, (y16.2.1.2.1.2.2.2.1, (y16.2.1.2.1.2.2.2.2.1, ()))))), ()), (y16.2.2.1, (y16.2.2.2.1, ()))))
          else
          bif (x1 == (4 : Int)) then
            (bif ib (0 : Int) (x2).length then
            bif ib (2 : Int) (x2).length then
            bif ib (IntKind.wrap .i64 (((x2).getD (Int.toNat (2 : Int)) (K.zero (.int .i64))) + y14.1.1)) (y16.2.2.2.1).length then
            bif ib ((x2).getD (Int.toNat (0 : Int)) (K.zero (.int .i64))) (y16.2.2.1).length then
            some (((0 : Int), ()), ((y16.2.1.2.1.1, (y16.2.1.2.1.2.1, (y16.2.1.2.1.2.2.1, (y16.2.1.2.1.2.2.2.1, (y16.2.1.2.1.2.2.2.2.1, ()))))), ()), ((y16.2.2.1).set (Int.toNat ((x2).getD (Int.toNat (0 : Int)) (K.zero (.int .i64)))) ((y16.2.2.2.1).getD (Int.toNat (IntKind.wrap .i64 (((x2).getD (Int.toNat (2 : Int)) (K.zero (.int .i64))) + y14.1.1))) (K.zero (.int .i64))), (y16.2.2.2.1, ())))
            else none
            else none
            else none
            else none)
          else
          bif ib (2 : Int) (x2).length then
          bif ib (1 : Int) (x2).length then
          bif ib ((x2).getD (Int.toNat (1 : Int)) (K.zero (.int .i64))) (y16.2.2.1).length then
          bif ib (IntKind.wrap .i64 (((x2).getD (Int.toNat (2 : Int)) (K.zero (.int .i64))) + y14.1.1)) (y16.2.2.2.1).length then
          some (((0 : Int), ()), ((y16.2.1.2.1.1, (y16.2.1.2.1.2.1, (y16.2.1.2.1.2.2.1, (y16.2.1.2.1.2.2.2.1, (y16.2.1.2.1.2.2.2.2.1, ()))))), ()), (y16.2.2.1, ((y16.2.2.2.1).set (Int.toNat (IntKind.wrap .i64 (((x2).getD (Int.toNat (2 : Int)) (K.zero (.int .i64))) + y14.1.1))) ((y16.2.2.1).getD (Int.toNat ((x2).getD (Int.toNat (1 : Int)) (K.zero (.int .i64)))) (K.zero (.int .i64))), ())))
          else none
          else none
          else none
          else none
          else none
          else none
          else none
          else none)
        else
        (F_impl_Complement ((y4.2.2.1).getD (Int.toNat ((x2).getD (Int.toNat (1 : Int)) (K.zero (.int .i64)))) (K.zero (.int .i64)))).bind fun y17 =>
        (F_impl_SignedOf y17.1.1).bind fun y18 =>
        bif ib (3 : Int) (x2).length then
        (F_impl_within y18.1.1 (0 : Int) (IntKind.wrap .i64 (((x2).getD (Int.toNat (3 : Int)) (K.zero (.int .i64))) - (1 : Int)))).bind fun y19 =>
        bif (!y19.1.1) then
          (some (((3 : Int), ()), ((y4.2.1.2.1.1, (y4.2.1.2.1.2.1, (y4.2.1.2.1.2.2.1, (y4.2.1.2.1.2.2.2.1, (y4.2.1.2.1.2.2.2.2.1, ()))))), ()), (y4.2.2.1, (y4.2.2.2.1, ()))))
        else
        bif ib (2 : Int) (x2).length then
        (F_impl_RegMachine_do_f2 (IntKind.wrap .i64 (((x2).getD (Int.toNat (2 : Int)) (K.zero (.int .i64))) + y18.1.1)) y4.2.1.2.1.1 y4.2.1.2.1.2.1 y4.2.1.2.1.2.2.1 y4.2.1.2.1.2.2.2.1 y4.2.1.2.1.2.2.2.2.1 y4.2.2.1 y4.2.2.2.1).bind fun y20 =>
        bif (!y20.1.1) then
          (some (((1 : Int), ()), ((y20.2.1.2.1.1, (y20.2.1.2.1.2.1, (y20.2.1.2.1.2.2.1, (y20.2.1.2.1.2.2.2.1, (y20.2.1.2.1.2.2.2.2.1, ()))))), ()), (y20.2.2.1, (y20.2.2.2.1, ()))))
        else
        bif (x1 == (4 : Int)) then
          (bif ib (0 : Int) (x2).length then
          bif ib (2 : Int) (x2).length then
          bif ib (IntKind.wrap .i64 (((x2).getD (Int.toNat (2 : Int)) (K.zero (.int .i64))) + y18.1.1)) (y20.2.2.2.1).length then
          bif ib ((x2).getD (Int.toNat (0 : Int)) (K.zero (.int .i64))) (y20.2.2.1).length then
          some (((0 : Int), ()), ((y20.2.1.2.1.1, (y20.2.1.2.1.2.1, (y20.2.1.2.1.2.2.1, (y20.2.1.2.1.2.2.2.1, (y20.2.1.2.1.2.2.2.2.1, ()))))), ()), ((y20.2.2.1).set (Int.toNat ((x2).getD (Int.toNat (0 : Int)) (K.zero (.int .i64)))) ((y20.2.2.2.1).getD (Int.toNat (IntKind.wrap .i64 (((x2).getD (Int.toNat (2 : Int)) (K.zero (.int .i64))) + y18.1.1))) (K.zero (.int .i64))), (y20.2.2.2.1, ())))
          else none
          else none
          else none
          else none)
        else
        bif ib (2 : Int) (x2).length then
        bif ib (1 : Int) (x2).length then
        bif ib ((x2).getD (Int.toNat (1 : Int)) (K.zero (.int .i64))) (y20.2.2.1).length then
        bif ib (IntKind.wrap .i64 (((x2).getD (Int.toNat (2 : Int)) (K.zero (.int .i64))) + y18.1.1)) (y20.2.2.2.1).length then
        some (((0 : Int), ()), ((y20.2.1.2.1.1, (y20.2.1.2.1.2.1, (y20.2.1.2.1.2.2.1, (y20.2.1.2.1.2.2.2.1, (y20.2.1.2.1.2.2.2.2.1, ()))))), ()), (y20.2.2.1, ((y20.2.2.2.1).set (Int.toNat (IntKind.wrap .i64 (((x2).getD (Int.toNat (2 : Int)) (K.zero (.int .i64))) + y18.1.1))) ((y20.2.2.1).getD (Int.toNat ((x2).getD (Int.toNat (1 : Int)) (K.zero (.int .i64)))) (K.zero (.int .i64))), ())))
        else none
        else none
        else none
        else none
        else none
        else none
        else none
        else none)
      else
      bif (x1 == (6 : Int)) then
        (bif ib (3 : Int) (x2).length then
        bif ib (1 : Int) (x2).length then
        bif ib ((x2).getD (Int.toNat (1 : Int)) (K.zero (.int .i64))) (y4.2.2.1).length then
        bif ib (2 : Int) (x2).length then
        bif ib ((x2).getD (Int.toNat (2 : Int)) (K.zero (.int .i64))) (y4.2.2.1).length then
        (F_impl_BinaryInv ((x2).getD (Int.toNat (3 : Int)) (K.zero (.int .i64))) ((y4.2.2.1).getD (Int.toNat ((x2).getD (Int.toNat (1 : Int)) (K.zero (.int .i64)))) (K.zero (.int .i64))) ((y4.2.2.1).getD (Int.toNat ((x2).getD (Int.toNat (2 : Int)) (K.zero (.int .i64)))) (K.zero (.int .i64)))).bind fun y21 =>
        bif (y21.1.1.1 == (0 : Int)) then
          (bif ib (0 : Int) (x2).length then
          bif ib ((x2).getD (Int.toNat (0 : Int)) (K.zero (.int .i64))) (y4.2.2.1).length then
          some (((0 : Int), ()), ((y4.2.1.2.1.1, (y4.2.1.2.1.2.1, (y4.2.1.2.1.2.2.1, (y4.2.1.2.1.2.2.2.1, (y4.2.1.2.1.2.2.2.2.1, ()))))), ()), ((y4.2.2.1).set (Int.toNat ((x2).getD (Int.toNat (0 : Int)) (K.zero (.int .i64)))) y21.1.1.2, (y4.2.2.2.1, ())))
          else none
          else none)
        else
        bif (y21.1.1.1 == (3 : Int)) then
          (some (((1 : Int), ()), ((y4.2.1.2.1.1, (y4.2.1.2.1.2.1, (y4.2.1.2.1.2.2.1, (y4.2.1.2.1.2.2.2.1, (y4.2.1.2.1.2.2.2.2.1, ()))))), ()), (y4.2.2.1, (y4.2.2.2.1, ()))))
        else
        some ((y21.1.1.1, ()), ((y4.2.1.2.1.1, (y4.2.1.2.1.2.1, (y4.2.1.2.1.2.2.1, (y4.2.1.2.1.2.2.2.1, (y4.2.1.2.1.2.2.2.2.1, ()))))), ()), (y4.2.2.1, (y4.2.2.2.1, ())))
        else none
        else none
        else none
        else none
        else none)
      else
      bif (x1 == (7 : Int)) then
        (bif ib (0 : Int) (x2).length then
        bif ib (1 : Int) (x2).length then
        bif ib ((x2).getD (Int.toNat (1 : Int)) (K.zero (.int .i64))) (y4.2.2.1).length then
        (F_impl_Complement ((y4.2.2.1).getD (Int.toNat ((x2).getD (Int.toNat (1 : Int)) (K.zero (.int .i64)))) (K.zero (.int .i64)))).bind fun y22 =>
        (F_impl_NegOf y22.1.1).bind fun y23 =>
        (F_impl_Complement y23.1.1).bind fun y24 =>
        bif ib ((x2).getD (Int.toNat (0 : Int)) (K.zero (.int .i64))) (y4.2.2.1).length then
        some (((0 : Int), ()), ((y4.2.1.2.1.1, (y4.2.1.2.1.2.1, (y4.2.1.2.1.2.2.1, (y4.2.1.2.1.2.2.2.1, (y4.2.1.2.1.2.2.2.2.1, ()))))), ()), ((y4.2.2.1).set (Int.toNat ((x2).getD (Int.toNat (0 : Int)) (K.zero (.int .i64)))) y24.1.1, (y4.2.2.2.1, ())))
        else none
        else none
        else none
        else none)
      else
      bif (x1 == (8 : Int)) then
        (bif ib (0 : Int) (x2).length then
        bif ib (1 : Int) (x2).length then
        bif ib ((x2).getD (Int.toNat (1 : Int)) (K.zero (.int .i64))) (y4.2.2.1).length then
        (F_impl_Complement ((y4.2.2.1).getD (Int.toNat ((x2).getD (Int.toNat (1 : Int)) (K.zero (.int .i64)))) (K.zero (.int .i64)))).bind fun y25 =>
        (F_impl_NotOf y25.1.1).bind fun y26 =>
        (F_impl_Complement y26.1.1).bind fun y27 =>
        bif ib ((x2).getD (Int.toNat (0 : Int)) (K.zero (.int .i64))) (y4.2.2.1).length then
        some (((0 : Int), ()), ((y4.2.1.2.1.1, (y4.2.1.2.1.2.1, (y4.2.1.2.1.2.2.1, (y4.2.1.2.1.2.2.2.1, (y4.2.1.2.1.2.2.2.2.1, ()))))), ()), ((y4.2.2.1).set (Int.toNat ((x2).getD (Int.toNat (0 : Int)) (K.zero (.int .i64)))) y27.1.1, (y4.2.2.2.1, ())))
        else none
        else none
        else none
        else none)
      else
      bif (x1 == (9 : Int)) then
        (bif ib (0 : Int) (x2).length then
        bif ib ((x2).getD (Int.toNat (0 : Int)) (K.zero (.int .i64))) (y4.2.2.1).length then
        bif (((y4.2.2.1).getD (Int.toNat ((x2).getD (Int.toNat (0 : Int)) (K.zero (.int .i64)))) (K.zero (.int .i64))) != (65535 : Int)) then
          (bif ib (0 : Int) (x2).length then
          bif ib ((x2).getD (Int.toNat (0 : Int)) (K.zero (.int .i64))) (y4.2.2.1).length then
          some (((0 : Int), ()), ((y4.2.1.2.1.1, (y4.2.1.2.1.2.1, (y4.2.1.2.1.2.2.1, (y4.2.1.2.1.2.2.2.1, (y4.2.1.2.1.2.2.2.2.1, ()))))), ()), ((y4.2.2.1).set (Int.toNat ((x2).getD (Int.toNat (0 : Int)) (K.zero (.int .i64)))) (65534 : Int), (y4.2.2.2.1, ())))
          else none
          else none)
        else
        some (((0 : Int), ()), ((y4.2.1.2.1.1, (y4.2.1.2.1.2.1, (y4.2.1.2.1.2.2.1, (y4.2.1.2.1.2.2.2.1, (y4.2.1.2.1.2.2.2.2.1, ()))))), ()), (y4.2.2.1, (y4.2.2.2.1, ())))
        else none
        else none)
      else
      bif (x1 == (10 : Int)) then
        (bif ib (0 : Int) (x2).length then
        some (((0 : Int), ()), ((((x2).getD (Int.toNat (0 : Int)) (K.zero (.int .i64))), (y4.2.1.2.1.2.1, (y4.2.1.2.1.2.2.1, (y4.2.1.2.1.2.2.2.1, (y4.2.1.2.1.2.2.2.2.1, ()))))), ()), (y4.2.2.1, (y4.2.2.2.1, ())))
        else none)
      else
      bif (x1 == (11 : Int)) then
        (bif ib (0 : Int) (x2).length then
        bif ib ((x2).getD (Int.toNat (0 : Int)) (K.zero (.int .i64))) (y4.2.2.1).length then
        bif (((y4.2.2.1).getD (Int.toNat ((x2).getD (Int.toNat (0 : Int)) (K.zero (.int .i64)))) (K.zero (.int .i64))) == (65535 : Int)) then
          (bif ib (1 : Int) (x2).length then
          some (((0 : Int), ()), ((((x2).getD (Int.toNat (1 : Int)) (K.zero (.int .i64))), (y4.2.1.2.1.2.1, (y4.2.1.2.1.2.2.1, (y4.2.1.2.1.2.2.2.1, (y4.2.1.2.1.2.2.2.2.1, ()))))), ()), (y4.2.2.1, (y4.2.2.2.1, ())))
          else none)
        else
        some (((0 : Int), ()), ((y4.2.1.2.1.1, (y4.2.1.2.1.2.1, (y4.2.1.2.1.2.2.1, (y4.2.1.2.1.2.2.2.1, (y4.2.1.2.1.2.2.2.2.1, ()))))), ()), (y4.2.2.1, (y4.2.2.2.1, ())))
        else none
        else none)
      else
      bif (x1 == (12 : Int)) then
        (bif ib (0 : Int) (x2).length then
        (F_impl_SignOf y4.2.1.2.1.2.1 ((x2).getD (Int.toNat (0 : Int)) (K.zero (.int .i64)))).bind fun y28 =>
        some (((0 : Int), ()), ((y4.2.1.2.1.1, (y28.1.1, (y4.2.1.2.1.2.2.1, (y4.2.1.2.1.2.2.2.1, (y4.2.1.2.1.2.2.2.2.1, ()))))), ()), (y4.2.2.1, (y4.2.2.2.1, ())))
        else none)
      else
      bif (x1 == (13 : Int)) then
        (some (((0 : Int), ()), ((y4.2.1.2.1.1, (y4.2.1.2.1.2.1, (y4.2.1.2.1.2.2.1, (y4.2.1.2.1.2.2.2.1, (true, ()))))), ()), (y4.2.2.1, (y4.2.2.2.1, ()))))
      else
      some (((0 : Int), ()), ((y4.2.1.2.1.1, (y4.2.1.2.1.2.1, (y4.2.1.2.1.2.2.1, (y4.2.1.2.1.2.2.2.1, (y4.2.1.2.1.2.2.2.2.1, ()))))), ()), (y4.2.2.1, (y4.2.2.2.1, ())))
      else none)
    else
    bif (x1 == (1 : Int)) then
      (bif ib (0 : Int) (x2).length then
      bif ib (1 : Int) (x2).length then
      bif ib ((x2).getD (Int.toNat (0 : Int)) (K.zero (.int .i64))) (y3.2.2.1).length then
      some (((0 : Int), ()), ((y3.2.1.2.1.1, (y3.2.1.2.1.2.1, (y3.2.1.2.1.2.2.1, (y3.2.1.2.1.2.2.2.1, (y3.2.1.2.1.2.2.2.2.1, ()))))), ()), ((y3.2.2.1).set (Int.toNat ((x2).getD (Int.toNat (0 : Int)) (K.zero (.int .i64)))) ((x2).getD (Int.toNat (1 : Int)) (K.zero (.int .i64))), (y3.2.2.2.1, ())))
      else none
      else none
      else none)
    else
    bif (x1 == (2 : Int)) then
      (bif ib (0 : Int) (x2).length then
      bif ib (1 : Int) (x2).length then
      bif ib ((x2).getD (Int.toNat (1 : Int)) (K.zero (.int .i64))) (y3.2.2.2.1).length then
      bif ib ((x2).getD (Int.toNat (0 : Int)) (K.zero (.int .i64))) (y3.2.2.1).length then
      some (((0 : Int), ()), ((y3.2.1.2.1.1, (y3.2.1.2.1.2.1, (y3.2.1.2.1.2.2.1, (y3.2.1.2.1.2.2.2.1, (y3.2.1.2.1.2.2.2.2.1, ()))))), ()), ((y3.2.2.1).set (Int.toNat ((x2).getD (Int.toNat (0 : Int)) (K.zero (.int .i64)))) ((y3.2.2.2.1).getD (Int.toNat ((x2).getD (Int.toNat (1 : Int)) (K.zero (.int .i64)))) (K.zero (.int .i64))), (y3.2.2.2.1, ())))
      else none
      else none
      else none
      else none)
    else
    bif (x1 == (3 : Int)) then
      (bif ib (0 : Int) (x2).length then
      bif ib (1 : Int) (x2).length then
      bif ib ((x2).getD (Int.toNat (1 : Int)) (K.zero (.int .i64))) (y3.2.2.1).length then
      bif ib ((x2).getD (Int.toNat (0 : Int)) (K.zero (.int .i64))) (y3.2.2.2.1).length then
      some (((0 : Int), ()), ((y3.2.1.2.1.1, (y3.2.1.2.1.2.1, (y3.2.1.2.1.2.2.1, (y3.2.1.2.1.2.2.2.1, (y3.2.1.2.1.2.2.2.2.1, ()))))), ()), (y3.2.2.1, ((y3.2.2.2.1).set (Int.toNat ((x2).getD (Int.toNat (0 : Int)) (K.zero (.int .i64)))) ((y3.2.2.1).getD (Int.toNat ((x2).getD (Int.toNat (1 : Int)) (K.zero (.int .i64)))) (K.zero (.int .i64))), ())))
      else none
      else none
      else none
      else none)
    else
    bif (x1 == (4 : Int)) then
      (bif ib (1 : Int) (x2).length then
      bif ib ((x2).getD (Int.toNat (1 : Int)) (K.zero (.int .i64))) (y3.2.2.1).length then
      bif (x1 == (5 : Int)) then
        (bif ib (0 : Int) (x2).length then
        bif ib ((x2).getD (Int.toNat (0 : Int)) (K.zero (.int .i64))) (y3.2.2.1).length then
        (F_impl_Complement ((y3.2.2.1).getD (Int.toNat ((x2).getD (Int.toNat (0 : Int)) (K.zero (.int .i64)))) (K.zero (.int .i64)))).bind fun y29 =>
        (F_impl_SignedOf y29.1.1).bind fun y30 =>
        bif ib (3 : Int) (x2).length then
        (F_impl_within y30.1.1 (0 : Int) (IntKind.wrap .i64 (((x2).getD (Int.toNat (3 : Int)) (K.zero (.int .i64))) - (1 : Int)))).bind fun y31 =>
        bif (!y31.1.1) then
          (some (((3 : Int), ()), ((y3.2.1.2.1.1, (y3.2.1.2.1.2.1, (y3.2.1.2.1.2.2.1, (y3.2.1.2.1.2.2.2.1, (y3.2.1.2.1.2.2.2.2.1, ()))))), ()), (y3.2.2.1, (y3.2.2.2.1, ()))))
        else
        bif ib (2 : Int) (x2).length then
        (F_impl_RegMachine_do_f2 (IntKind.wrap .i64 (((x2).getD (Int.toNat (2 : Int)) (K.zero (.int .i64))) + y30.1.1)) y3.2.1.2.1.1 y3.2.1.2.1.2.1 y3.2.1.2.1.2.2.1 y3.2.1.2.1.2.2.2.1 y3.2.1.2.1.2.2.2.2.1 y3.2.2.1 y3.2.2.2.1).bind fun y32 =>
        bif (!y32.1.1) then
          (some (((1 : Int), ()), ((y32.2.1.2.1.1, (y32.2.1.2.1.2.1, (y32.2.1.2.1.2.2.1, (y32.2.1.2.1.2.2.2.1, (y32.2.1.2.1.2.2.2.2.1, ()))))), ()), (y32.2.2.1, (y32.2.2.2.1, ()))))
        else
        bif (x1 == (4 : Int)) then
          (bif ib (0 : Int) (x2).length then
          bif ib (2 : Int) (x2).length then
          bif ib (IntKind.wrap .i64 (((x2).getD (Int.toNat (2 : Int)) (K.zero (.int .i64))) + y30.1.1)) (y32.2.2.2.1).length then
          bif ib ((x2).getD (Int.toNat (0 : Int)) (K.zero (.int .i64))) (y32.2.2.1).length then
          some (((0 : Int), ()), ((y32.2.1.2.1.1, (y32.2.1.2.1.2.1, (y32.2.1.2.1.2.2.1, (y32.2.1.2.1.2.2.2.1, (y32.2.1.2.1.2.2.2.2.1, ()))))), ()), ((y32.2.2.1).set (Int.toNat ((x2).getD (Int.toNat (0 : Int)) (K.zero (.int .i64)))) ((y32.2.2.2.1).getD (Int.toNat (IntKind.wrap .i64 (((x2).getD (Int.toNat (2 : Int)) (K.zero (.int .i64))) + y30.1.1))) (K.zero (.int .i64))), (y32.2.2.2.1, ())))
          else none
          else none
          else none
          else none)
        else
        bif ib (2 : Int) (x2).length then
        bif ib (1 : Int) (x2).length then
        bif ib ((x2).getD (Int.toNat (1 : Int)) (K.zero (.int .i64))) (y32.2.2.1).length then
        bif ib (IntKind.wrap .i64 (((x2).getD (Int.toNat (2 : Int)) (K.zero (.int .i64))) + y30.1.1)) (y32.2.2.2.1).length then
        some (((0 : Int), ()), ((y32.2.1.2.1.1, (y32.2.1.2.1.2.1, (y32.2.1.2.1.2.2.1, (y32.2.1.2.1.2.2.2.1, (y32.2.1.2.1.2.2.2.2.1, ()))))), ()), (y32.2.2.1, ((y32.2.2.2.1).set (Int.toNat (IntKind.wrap .i64 (((x2).getD (Int.toNat (2 : Int)) (K.zero (.int .i64))) + y30.1.1))) ((y32.2.2.1).getD (Int.toNat ((x2).getD (Int.toNat (1 : Int)) (K.zero (.int .i64)))) (K.zero (.int .i64))), ())))
        else none
        else none
        else none
        else none
        else none
        else none
        else none
        else none)
      else
      (F_impl_Complement ((y3.2.2.1).getD (Int.toNat ((x2).getD (Int.toNat (1 : Int)) (K.zero (.int .i64)))) (K.zero (.int .i64)))).bind fun y33 =>
      (F_impl_SignedOf y33.1.1).bind fun y34 =>
      bif ib (3 : Int) (x2).length then
      (F_impl_within y34.1.1 (0 : Int) (IntKind.wrap .i64 (((x2).getD (Int.toNat (3 : Int)) (K.zero (.int .i64))) - (1 : Int)))).bind fun y35 =>
      bif (!y35.1.1) then
        (some (((3 : Int), ()), ((y3.2.1.2.1.1, (y3.2.1.2.1.2.1, (y3.2.1.2.1.2.2.1, (y3.2.1.2.1.2.2.2.1, (y3.2.1.2.1.2.2.2.2.1, ()))))), ()), (y3.2.2.1, (y3.2.2.2.1, ()))))
      else
      bif ib (2 : Int) (x2).length then
      (F_impl_RegMachine_do_f2 (IntKind.wrap .i64 (((x2).getD (Int.toNat (2 : Int)) (K.zero (.int .i64))) + y34.1.1)) y3.2.1.2.1.1 y3.2.1.2.1.2.1 y3.2.1.2.1.2.2.1 y3.2.1.2.1.2.2.2.1 y3.2.1.2.1.2.2.2.2.1 y3.2.2.1 y3.2.2.2.1).bind fun y36 =>
      bif (!y36.1.1) then
        (some (((1 : Int), ()), ((y36.2.1.2.1.1, (y36.2.1.2.1.2.1, (y36.2.1.2.1.2.2.1, (y36.2.1.2.1.2.2.2.1, (y36.2.1.2.1.2.2.2.2.1, ()))))), ()), (y36.2.2.1, (y36.2.2.2.1, ()))))
      else
      bif (x1 == (4 : Int)) then
        (bif ib (0 : Int) (x2).length then
        bif ib (2 : Int) (x2).length then
        bif ib (IntKind.wrap .i64 (((x2).getD (Int.toNat (2 : Int)) (K.zero (.int .i64))) + y34.1.1)) (y36.2.2.2.1).length then
        bif ib ((x2).getD (Int.toNat (0 : Int)) (K.zero (.int .i64))) (y36.2.2.1).length then
        some (((0 : Int), ()), ((y36.2.1.2.1.1, (y36.2.1.2.1.2.1, (y36.2.1.2.1.2.2.1, (y36.2.1.2.1.2.2.2.1, (y36.2.1.2.1.2.2.2.2.1, ()))))), ()), ((y36.2.2.1).set (Int.toNat ((x2).getD (Int.toNat (0 : Int)) (K.zero (.int .i64)))) ((y36.2.2.2.1).getD (Int.toNat (IntKind.wrap .i64 (((x2).getD (Int.toNat (2 : Int)) (K.zero (.int .i64))) + y34.1.1))) (K.zero (.int .i64))), (y36.2.2.2.1, ())))
        else none
        else none
        else none
        else none)
      else
      bif ib (2 : Int) (x2).length then
      bif ib (1 : Int) (x2).length then
      bif ib ((x2).getD (Int.toNat (1 : Int)) (K.zero (.int .i64))) (y36.2.2.1).length then
      bif ib (IntKind.wrap .i64 (((x2).getD (Int.toNat (2 : Int)) (K.zero (.int .i64))) + y34.1.1)) (y36.2.2.2.1).length then
      some (((0 : Int), ()), ((y36.2.1.2.1.1, (y36.2.1.2.1.2.1, (y36.2.1.2.1.2.2.1, (y36.2.1.2.1.2.2.2.1, (y36.2.1.2.1.2.2.2.2.1, ()))))), ()), (y36.2.2.1, ((y36.2.2.2.1).set (Int.toNat (IntKind.wrap .i64 (((x2).getD (Int.toNat (2 : Int)) (K.zero (.int .i64))) + y34.1.1))) ((y36.2.2.1).getD (Int.toNat ((x2).getD (Int.toNat (1 : Int)) (K.zero (.int .i64)))) (K.zero (.int .i64))), ())))
      else none
      else none
      else none
      else none
      else none
      else none
      else none
      else none)
    else
    bif (x1 == (5 : Int)) then
      (bif ib (1 : Int) (x2).length then
      bif ib ((x2).getD (Int.toNat (1 : Int)) (K.zero (.int .i64))) (y3.2.2.1).length then
      bif (x1 == (5 : Int)) then
        (bif ib (0 : Int) (x2).length then
        bif ib ((x2).getD (Int.toNat (0 : Int)) (K.zero (.int .i64))) (y3.2.2.1).length then
        (F_impl_Complement ((y3.2.2.1).getD (Int.toNat ((x2).getD (Int.toNat (0 : Int)) (K.zero (.int .i64)))) (K.zero (.int .i64)))).bind fun y37 =>
        (F_impl_SignedOf y37.1.1).bind fun y38 =>
        bif ib (3 : Int) (x2).length then
        (F_impl_within y38.1.1 (0 : Int) (IntKind.wrap .i64 (((x2).getD (Int.toNat (3 : Int)) (K.zero (.int .i64))) - (1 : Int)))).bind fun y39 =>
        bif (!y39.1.1) then
          (some (((3 : Int), ()), ((y3.2.1.2.1.1, (y3.2.1.2.1.2.1, (y3.2.1.2.1.2.2.1, (y3.2.1.2.1.2.2.2.1, (y3.2.1.2.1.2.2.2.2.1, ()))))), ()), (y3.2.2.1, (y3.2.2.2.1, ()))))
        else
        bif ib (2 : Int) (x2).length then
        (F_impl_RegMachine_do_f2 (IntKind.wrap .i64 (((x2).getD (Int.toNat (2 : Int)) (K.zero (.int .i64))) + y38.1.1)) y3.2.1.2.1.1 y3.2.1.2.1.2.1 y3.2.1.2.1.2.2.1 y3.2.1.2.1.2.2.2.1 y3.2.1.2.1.2.2.2.2.1 y3.2.2.1 y3.2.2.2.1).bind fun y40 =>
        bif (!y40.1.1) then
          (some (((1 : Int), ()), ((y40.2.1.2.1.1, (y40.2.1.2.1.2.1, (y40.2.1.2.1.2.2.1, (y40.2.1.2.1.2.2.2.1, (y40.2.1.2.1.2.2.2.2.1, ()))))), ()), (y40.2.2.1, (y40.2.2.2.1, ()))))
        else
        bif (x1 == (4 : Int)) then
          (bif ib (0 : Int) (x2).length then
          bif ib (2 : Int) (x2).length then
          bif ib (IntKind.wrap .i64 (((x2).getD (Int.toNat (2 : Int)) (K.zero (.int .i64))) + y38.1.1)) (y40.2.2.2.1).length then
          bif ib ((x2).getD (Int.toNat (0 : Int)) (K.zero (.int .i64))) (y40.2.2.1).length then
          some (((0 : Int), ()), ((y40.2.1.2.1.1, (y40.2.1.2.1.2.1, (y40.2.1.2.1.2.2.1, (y40.2.1.2.1.2.2.2.1, (y40.2.1.2.1.2.2.2.2.1, ()))))), ()), ((y40.2.2.1).set (Int.toNat ((x2).getD (Int.toNat (0 : Int)) (K.zero (.int .i64)))) ((y40.2.2.2.1).getD (Int.toNat (IntKind.wrap .i64 (((x2).getD (Int.toNat (2 : Int)) (K.zero (.int .i64))) + y38.1.1))) (K.zero (.int .i64))), (y40.2.2.2.1, ())))
          else none
          else none
          else none
          else none)
        else
        bif ib (2 : Int) (x2).length then
        bif ib (1 : Int) (x2).length then
        bif ib ((x2).getD (Int.toNat (1 : Int)) (K.zero (.int .i64))) (y40.2.2.1).length then
        bif ib (IntKind.wrap .i64 (((x2).getD (Int.toNat (2 : Int)) (K.zero (.int .i64))) + y38.1.1)) (y40.2.2.2.1).length then
        some (((0 : Int), ()), ((y40.2.1.2.1.1, (y40.2.1.2.1.2.1, (y40.2.1.2.1.2.2.1, (y40.2.1.2.1.2.2.2.1, (y40.2.1.2.1.2.2.2.2.1, ()))))), ()), (y40.2.2.1, ((y40.2.2.2.1).set (Int.toNat (IntKind.wrap .i64 (((x2).getD (Int.toNat (2 : Int)) (K.zero (.int .i64))) + y38.1.1))) ((y40.2.2.1).getD (Int.toNat ((x2).getD (Int.toNat (1 : Int)) (K.zero (.int .i64)))) (K.zero (.int .i64))), ())))
        else none
        else none
        else none
        else none
        else none
        else none
        else none
        else none)
      else
      (F_impl_Complement ((y3.2.2.1).getD (Int.toNat ((x2).getD (Int.toNat (1 : Int)) (K.zero (.int .i64)))) (K.zero (.int .i64)))).bind fun y41 =>
      (F_impl_SignedOf y41.1.1).bind fun y42 =>
      bif ib (3 : Int) (x2).length then
      (F_impl_within y42.1.1 (0 : Int) (IntKind.wrap .i64 (((x2).getD (Int.toNat (3 : Int)) (K.zero (.int .i64))) - (1 : Int)))).bind fun y43 =>
      bif (!y43.1.1) then
        (some (((3 : Int), ()), ((y3.2.1.2.1.1, (y3.2.1.2.1.2.1, (y3.2.1.2.1.2.2.1, (y3.2.1.2.1.2.2.2.1, (y3.2.1.2.1.2.2.2.2.1, ()))))), ()), (y3.2.2.1, (y3.2.2.2.1, ()))))
      else
      bif ib (2 : Int) (x2).length then
      (F_impl_RegMachine_do_f2 (IntKind.wrap .i64 (((x2).getD (Int.toNat (2 : Int)) (K.zero (.int .i64))) + y42.1.1)) y3.2.1.2.1.1 y3.2.1.2.1.2.1 y3.2.1.2.1.2.2.1 y3.2.1.2.1.2.2.2.1 y3.2.1.2.1.2.2.2.2.1 y3.2.2.1 y3.2.2.2.1).bind fun y44 =>
      bif (!y44.1.1) then
        (some (((1 : Int), ()), ((y44.2.1.2.1.1, (y44.2.1.2.1.2.1, (y44.2.1.2.1.2.2.1, (y44.2.1.2.1.2.2.2.1, (y44.2.1.2.1.2.2.2.2.1, ()))))), ()), (y44.2.2.1, (y44.2.2.2.1, ()))))
      else
      bif (x1 == (4 : Int)) then
        (bif ib (0 : Int) (x2).length then
        bif ib (2 : Int) (x2).length then
        bif ib (IntKind.wrap .i64 (((x2).getD (Int.toNat (2 : Int)) (K.zero (.int .i64))) + y42.1.1)) (y44.2.2.2.1).length then
        bif ib ((x2).getD (Int.toNat (0 : Int)) (K.zero (.int .i64))) (y44.2.2.1).length then
        some (((0 : Int), ()), ((y44.2.1.2.1.1, (y44.2.1.2.1.2.1, (y44.2.1.2.1.2.2.1, (y44.2.1.2.1.2.2.2.1, (y44.2.1.2.1.2.2.2.2.1, ()))))), ()), ((y44.2.2.1).set (Int.toNat ((x2).getD (Int.toNat (0 : Int)) (K.zero (.int .i64)))) ((y44.2.2.2.1).getD (Int.toNat (IntKind.wrap .i64 (((x2).getD (Int.toNat (2 : Int)) (K.zero (.int .i64))) + y42.1.1))) (K.zero (.int .i64))), (y44.2.2.2.1, ())))
        else none
        else none
        else none
        else none)
      else
      bif ib (2 : Int) (x2).length then
      bif ib (1 : Int) (x2).length then
      bif ib ((x2).getD (Int.toNat (1 : Int)) (K.zero (.int .i64))) (y44.2.2.1).length then
      bif ib (IntKind.wrap .i64 (((x2).getD (Int.toNat (2 : Int)) (K.zero (.int .i64))) + y42.1.1)) (y44.2.2.2.1).length then
      some (((0 : Int), ()), ((y44.2.1.2.1.1, (y44.2.1.2.1.2.1, (y44.2.1.2.1.2.2.1, (y44.2.1.2.1.2.2.2.1, (y44.2.1.2.1.2.2.2.2.1, ()))))), ()), (y44.2.2.1, ((y44.2.2.2.1).set (Int.toNat (IntKind.wrap .i64 (((x2).getD (Int.toNat (2 : Int)) (K.zero (.int .i64))) + y42.1.1))) ((y44.2.2.1).getD (Int.toNat ((x2).getD (Int.toNat (1 : Int)) (K.zero (.int .i64)))) (K.zero (.int .i64))), ())))
      else none
      else none
      else none
      else none
      else none
      else none
      else none
      else none)
    else
    bif (x1 == (6 : Int)) then
      (bif ib (3 : Int) (x2).length then
      bif ib (1 : Int) (x2).length then
      bif ib ((x2).getD (Int.toNat (1 : Int)) (K.zero (.int .i64))) (y3.2.2.1).length then
      bif ib (2 : Int) (x2).length then
      bif ib ((x2).getD (Int.toNat (2 : Int)) (K.zero (.int .i64))) (y3.2.2.1).length then
      (F_impl_BinaryInv ((x2).getD (Int.toNat (3 : Int)) (K.zero (.int .i64))) ((y3.2.2.1).getD (Int.toNat ((x2).getD (Int.toNat (1 : Int)) (K.zero (.int .i64)))) (K.zero (.int .i64))) ((y3.2.2.1).getD (Int.toNat ((x2).getD (Int.toNat (2 : Int)) (K.zero (.int .i64)))) (K.zero (.int .i64)))).bind fun y45 =>
      bif (y45.1.1.1 == (0 : Int)) then
        (bif ib (0 : Int) (x2).length then
        bif ib ((x2).getD (Int.toNat (0 : Int)) (K.zero (.int .i64))) (y3.2.2.1).length then
        some (((0 : Int), ()), ((y3.2.1.2.1.1, (y3.2.1.2.1.2.1, (y3.2.1.2.1.2.2.1, (y3.2.1.2.1.2.2.2.1, (y3.2.1.2.1.2.2.2.2.1, ()))))), ()), ((y3.2.2.1).set (Int.toNat ((x2).getD (Int.toNat (0 : Int)) (K.zero (.int .i64)))) y45.1.1.2, (y3.2.2.2.1, ())))
        else none
        else none)
      else
      bif (y45.1.1.1 == (3 : Int)) then
        (some (((1 : Int), ()), ((y3.2.1.2.1.1, (y3.2.1.2.1.2.1, (y3.2.1.2.1.2.2.1, (y3.2.1.2.1.2.2.2.1, (y3.2.1.2.1.2.2.2.2.1, ()))))), ()), (y3.2.2.1, (y3.2.2.2.1, ()))))
      else
      some ((y45.1.1.1, ()), ((y3.2.1.2.1.1, (y3.2.1.2.1.2.1, (y3.2.1.2.1.2.2.1, (y3.2.1.2.1.2.2.2.1, (y3.2.1.2.1.2.2.2.2.1, ()))))), ()), (y3.2.2.1, (y3.2.2.2.1, ())))
      else none
      else none
      else none
      else none
      else none)
    else
    bif (x1 == (7 : Int)) then
      (bif ib (0 : Int) (x2).length then
      bif ib (1 : Int) (x2).length then
      bif ib ((x2).getD (Int.toNat (1 : Int)) (K.zero (.int .i64))) (y3.2.2.1).length then
      (F_impl_Complement ((y3.2.2.1).getD (Int.toNat ((x2).getD (Int.toNat (1 : Int)) (K.zero (.int .i64)))) (K.zero (.int .i64)))).bind fun y46 =>
      (F_impl_NegOf y46.1.1).bind fun y47 =>
      (F_impl_Complement y47.1.1).bind fun y48 =>
      bif ib ((x2).getD (Int.toNat (0 : Int)) (K.zero (.int .i64))) (y3.2.2.1).length then
      some (((0 : Int), ()), ((y3.2.1.2.1.1, (y3.2.1.2.1.2.1, (y3.2.1.2.1.2.2.1, (y3.2.1.2.1.2.2.2.1, (y3.2.1.2.1.2.2.2.2.1, ()))))), ()), ((y3.2.2.1).set (Int.toNat ((x2).getD (Int.toNat (0 : Int)) (K.zero (.int .i64)))) y48.1.1, (y3.2.2.2.1, ())))
      else none
      else none
      else none
      else none)
    else
    bif (x1 == (8 : Int)) then
      (bif ib (0 : Int) (x2).length then
      bif ib (1 : Int) (x2).length then
      bif ib ((x2).getD (Int.toNat (1 : Int)) (K.zero (.int .i64))) (y3.2.2.1).length then
      (F_impl_Complement ((y3.2.2.1).getD (Int.toNat ((x2).getD (Int.toNat (1 : Int)) (K.zero (.int .i64)))) (K.zero (.int .i64)))).bind fun y49 =>
      (F_impl_NotOf y49.1.1).bind fun y50 =>
      (F_impl_Complement y50.1.1).bind fun y51 =>
      bif ib ((x2).getD (Int.toNat (0 : Int)) (K.zero (.int .i64))) (y3.2.2.1).length then
      some (((0 : Int), ()), ((y3.2.1.2.1.1, (y3.2.1.2.1.2.1, (y3.2.1.2.1.2.2.1, (y3.2.1.2.1.2.2.2.1, (y3.2.1.2.1.2.2.2.2.1, ()))))), ()), ((y3.2.2.1).set (Int.toNat ((x2).getD (Int.toNat (0 : Int)) (K.zero (.int .i64)))) y51.1.1, (y3.2.2.2.1, ())))
      else none
      else none
      else none
      else none)
    else
    bif (x1 == (9 : Int)) then
      (bif ib (0 : Int) (x2).length then
      bif ib ((x2).getD (Int.toNat (0 : Int)) (K.zero (.int .i64))) (y3.2.2.1).length then
      bif (((y3.2.2.1).getD (Int.toNat ((x2).getD (Int.toNat (0 : Int)) (K.zero (.int .i64)))) (K.zero (.int .i64))) != (65535 : Int)) then
        (bif ib (0 : Int) (x2).length then
        bif ib ((x2).getD (Int.toNat (0 : Int)) (K.zero (.int .i64))) (y3.2.2.1).length then
        some (((0 : Int), ()), ((y3.2.1.2.1.1, (y3.2.1.2.1.2.1, (y3.2.1.2.1.2.2.1, (y3.2.1.2.1.2.2.2.1, (y3.2.1.2.1.2.2.2.2.1, ()))))), ()), ((y3.2.2.1).set (Int.toNat ((x2).getD (Int.toNat (0 : Int)) (K.zero (.int .i64)))) (65534 : Int), (y3.2.2.2.1, ())))
        else none
        else none)
      else
      some (((0 : Int), ()), ((y3.2.1.2.1.1, (y3.2.1.2.1.2.1, (y3.2.1.2.1.2.2.1, (y3.2.1.2.1.2.2.2.1, (y3.2.1.2.1.2.2.2.2.1, ()))))), ()), (y3.2.2.1, (y3.2.2.2.1, ())))
      else none
      else none)
    else
    bif (x1 == (10 : Int)) then
      (bif ib (0 : Int) (x2).length then
      some (((0 : Int), ()), ((((x2).getD (Int.toNat (0 : Int)) (K.zero (.int .i64))), (y3.2.1.2.1.2.1, (y3.2.1.2.1.2.2.1, (y3.2.1.2.1.2.2.2.1, (y3.2.1.2.1.2.2.2.2.1, ()))))), ()), (y3.2.2.1, (y3.2.2.2.1, ())))
      else none)
    else
    bif (x1 == (11 : Int)) then
      (bif ib (0 : Int) (x2).length then
      bif ib ((x2).getD (Int.toNat (0 : Int)) (K.zero (.int .i64))) (y3.2.2.1).length then
      bif (((y3.2.2.1).getD (Int.toNat ((x2).getD (Int.toNat (0 : Int)) (K.zero (.int .i64)))) (K.zero (.int .i64))) == (65535 : Int)) then
        (bif ib (1 : Int) (x2).length then
        some (((0 : Int), ()), ((((x2).getD (Int.toNat (1 : Int)) (K.zero (.int .i64))), (y3.2.1.2.1.2.1, (y3.2.1.2.1.2.2.1, (y3.2.1.2.1.2.2.2.1, (y3.2.1.2.1.2.2.2.2.1, ()))))), ()), (y3.2.2.1, (y3.2.2.2.1, ())))
        else none)
      else
      some (((0 : Int), ()), ((y3.2.1.2.1.1, (y3.2.1.2.1.2.1, (y3.2.1.2.1.2.2.1, (y3.2.1.2.1.2.2.2.1, (y3.2.1.2.1.2.2.2.2.1, ()))))), ()), (y3.2.2.1, (y3.2.2.2.1, ())))
      else none
      else none)
    else
    bif (x1 == (12 : Int)) then
      (bif ib (0 : Int) (x2).length then
      (F_impl_SignOf y3.2.1.2.1.2.1 ((x2).getD (Int.toNat (0 : Int)) (K.zero (.int .i64)))).bind fun y52 =>
      some (((0 : Int), ()), ((y3.2.1.2.1.1, (y52.1.1, (y3.2.1.2.1.2.2.1, (y3.2.1.2.1.2.2.2.1, (y3.2.1.2.1.2.2.2.2.1, ()))))), ()), (y3.2.2.1, (y3.2.2.2.1, ())))
      else none)
    else
    bif (x1 == (13 : Int)) then
      (some (((0 : Int), ()), ((y3.2.1.2.1.1, (y3.2.1.2.1.2.1, (y3.2.1.2.1.2.2.1, (y3.2.1.2.1.2.2.2.1, (true, ()))))), ()), (y3.2.2.1, (y3.2.2.2.1, ()))))
    else
    some (((0 : Int), ()), ((y3.2.1.2.1.1, (y3.2.1.2.1.2.1, (y3.2.1.2.1.2.2.1, (y3.2.1.2.1.2.2.2.1, (y3.2.1.2.1.2.2.2.2.1, ()))))), ()), (y3.2.2.1, (y3.2.2.2.1, ())))
    else none)
  else
  bif (x1 == (3 : Int)) then
    (bif ib (0 : Int) (x2).length then
    (F_impl_RegMachine_do_f2 ((x2).getD (Int.toNat (0 : Int)) (K.zero (.int .i64))) x3 x4 x5 x6 x7 x8 x9).bind fun y53 =>
    bif (!y53.1.1) then
      (some (((1 : Int), ()), ((y53.2.1.2.1.1, (y53.2.1.2.1.2.1, (y53.2.1.2.1.2.2.1, (y53.2.1.2.1.2.2.2.1, (y53.2.1.2.1.2.2.2.2.1, ()))))), ()), (y53.2.2.1, (y53.2.2.2.1, ()))))
    else
    bif (x1 == (1 : Int)) then
      (bif ib (0 : Int) (x2).length then
      bif ib (1 : Int) (x2).length then
      bif ib ((x2).getD (Int.toNat (0 : Int)) (K.zero (.int .i64))) (y53.2.2.1).length then
      some (((0 : Int), ()), ((y53.2.1.2.1.1, (y53.2.1.2.1.2.1, (y53.2.1.2.1.2.2.1, (y53.2.1.2.1.2.2.2.1, (y53.2.1.2.1.2.2.2.2.1, ()))))), ()), ((y53.2.2.1).set (Int.toNat ((x2).getD (Int.toNat (0 : Int)) (K.zero (.int .i64)))) ((x2).getD (Int.toNat (1 : Int)) (K.zero (.int .i64))), (y53.2.2.2.1, ())))
      else none
      else none
      else none)
    else
    bif (x1 == (2 : Int)) then
      (bif ib (0 : Int) (x2).length then
      bif ib (1 : Int) (x2).length then
      bif ib ((x2).getD (Int.toNat (1 : Int)) (K.zero (.int .i64))) (y53.2.2.2.1).length then
      bif ib ((x2).getD (Int.toNat (0 : Int)) (K.zero (.int .i64))) (y53.2.2.1).length then
      some (((0 : Int), ()), ((y53.2.1.2.1.1, (y53.2.1.2.1.2.1, (y53.2.1.2.1.2.2.1, (y53.2.1.2.1.2.2.2.1, (y53.2.1.2.1.2.2.2.2.1, ()))))), ()), ((y53.2.2.1).set (Int.toNat ((x2).getD (Int.toNat (0 : Int)) (K.zero (.int .i64)))) ((y53.2.2.2.1).getD (Int.toNat ((x2).getD (Int.toNat (1 : Int)) (K.zero (.int .i64)))) (K.zero (.int .i64))), (y53.2.2.2.1, ())))
      else none
      else none
      else none
      else none)
    else
    bif (x1 == (3 : Int)) then
      (bif ib (0 : Int) (x2).length then
      bif ib (1 : Int) (x2).length then
      bif ib ((x2).getD (Int.toNat (1 : Int)) (K.zero (.int .i64))) (y53.2.2.1).length then
      bif ib ((x2).getD (Int.toNat (0 : Int)) (K.zero (.int .i64))) (y53.2.2.2.1).length then
      some (((0 : Int), ()), ((y53.2.1.2.1.1, (y53.2.1.2.1.2.1, (y53.2.1.2.1.2.2.1, (y53.2.1.2.1.2.2.2.1, (y53.2.1.2.1.2.2.2.2.1, ()))))), ()), (y53.2.2.1, ((y53.2.2.2.1).set (Int.toNat ((x2).getD (Int.toNat (0 : Int)) (K.zero (.int .i64)))) ((y53.2.2.1).getD (Int.toNat ((x2).getD (Int.toNat (1 : Int)) (K.zero (.int .i64)))) (K.zero (.int .i64))), ())))
      else none
      else none
      else none
      else none)
    else
    bif (x1 == (4 : Int)) then
      (bif ib (1 : Int) (x2).length then
      bif ib ((x2).getD (Int.toNat (1 : Int)) (K.zero (.int .i64))) (y53.2.2.1).length then
      bif (x1 == (5 : Int)) then
        (bif ib (0 : Int) (x2).length then
        bif ib ((x2).getD (Int.toNat (0 : Int)) (K.zero (.int .i64))) (y53.2.2.1).length then
        (F_impl_Complement ((y53.2.2.1).getD (Int.toNat ((x2).getD (Int.toNat (0 : Int)) (K.zero (.int .i64)))) (K.zero (.int .i64)))).bind fun y54 =>
        (F_impl_SignedOf y54.1.1).bind fun y55 =>
        bif ib (3 : Int) (x2).length then
        (F_impl_within y55.1.1 (0 : Int) (IntKind.wrap .i64 (((x2).getD (Int.toNat (3 : Int)) (K.zero (.int .i64))) - (1 : Int)))).bind fun y56 =>
        bif (!y56.1.1) then
          (some (((3 : Int), ()), ((y53.2.1.2.1.1, (y53.2.1.2.1.2.1, (y53.2.1.2.1.2.2.1, (y53.2.1.2.1.2.2.2.1, (y53.2.1.2.1.2.2.2.2.1, ()))))), ()), (y53.2.2.1, (y53.2.2.2.1, ()))))
        else
        bif ib (2 : Int) (x2).length then
        (F_impl_RegMachine_do_f2 (IntKind.wrap .i64 (((x2).getD (Int.toNat (2 : Int)) (K.zero (.int .i64))) + y55.1.1)) y53.2.1.2.1.1 y53.2.1.2.1.2.1 y53.2.1.2.1.2.2.1 y53.2.1.2.1.2.2.2.1 y53.2.1.2.1.2.2.2.2.1 y53.2.2.1 y53.2.2.2.1).bind fun y57 =>
        bif (!y57.1.1) then
          (some (((1 : Int), ()), ((y57.2.1.2.1.1, (y57.2.1.2.1.2.1, (y57.2.1.2.1.2.2.1, (y57.2.1.2.1.2.2.2.1, (y57.2.1.2.1.2.2.2.2.1, ()))))), ()), (y57.2.2.1, (y57.2.2.2.1, ()))))
        else
        bif (x1 == (4 : Int)) then
          (bif ib (0 : Int) (x2).length then
          bif ib (2 : Int) (x2).length then
          bif ib (IntKind.wrap .i64 (((x2).getD (Int.toNat (2 : Int)) (K.zero (.int .i64))) + y55.1.1)) (y57.2.2.2.1).length then
          bif ib ((x2).getD (Int.toNat (0 : Int)) (K.zero (.int .i64))) (y57.2.2.1).length then
          some (((0 : Int), ()), ((y57.2.1.2.1.1, (y57.2.1.2.1.2.1, (y57.2.1.2.1.2.2.1, (y57.2.1.2.1.2.2.2.1, (y57.2.1.2.1.2.2.2.2.1, ()))))), ()), ((y57.2.2.1).set (Int.toNat ((x2).getD (Int.toNat (0 : Int)) (K.zero (.int .i64)))) ((y57.2.2.2.1).getD (Int.toNat (IntKind.wrap .i64 (((x2).getD (Int.toNat (2 : Int)) (K.zero (.int .i64))) + y55.1.1))) (K.zero (.int .i64))), (y57.2.2.2.1, ())))
          else none
          else none
          else none
          else none)
        else
        bif ib (2 : Int) (x2).length then
        bif ib (1 : Int) (x2).length then
        bif ib ((x2).getD (Int.toNat (1 : Int)) (K.zero (.int .i64))) (y57.2.2.1).length then
        bif ib (IntKind.wrap .i64 (((x2).getD (Int.toNat (2 : Int)) (K.zero (.int .i64))) + y55.1.1)) (y57.2.2.2.1).length then
        some (((0 : Int), ()), ((y57.2.1.2.1.1, (y57.2.1.2.1.2.1, (y57.2.1.2.1.2.2.1, (y57.2.1.2.1.2.2.2.1, (y57.2.1.2.1.2.2.2.2.1, ()))))), ()), (y57.2.2.1, ((y57.2.2.2.1).set (Int.toNat (IntKind.wrap .i64 (((x2).getD (Int.toNat (2 : Int)) (K.zero (.int .i64))) + y55.1.1))) ((y57.2.2.1).getD (Int.toNat ((x2).getD (Int.toNat (1 : Int)) (K.zero (.int .i64)))) (K.zero (.int .i64))), ())))
        else none
        else none
        else none
        else none
        else none
        else none
        else none
        else none)
      else
      (F_impl_Complement ((y53.2.2.1).getD (Int.toNat ((x2).getD (Int.toNat (1 : Int)) (K.zero (.int .i64)))) (K.zero (.int .i64)))).bind fun y58 =>
      (F_impl_SignedOf y58.1.1).bind fun y59 =>
      bif ib (3 : Int) (x2).length then
      (F_impl_within y59.1.1 (0 : Int) (IntKind.wrap .i64 (((x2).getD (Int.toNat (3 : Int)) (K.zero (.int .i64))) - (1 : Int)))).bind fun y60 =>
      bif (!y60.1.1) then
        (some (((3 : Int), ()), ((y53.2.1.2.1.1, (y53.2.1.2.1.2.1, (y53.2.1.2.1.2.2.1, (y53.2.1.2.1.2.2.2.1, (y53.2.1.2.1.2.2.2.2.1, ()))))), ()), (y53.2.2.1, (y53.2.2.2.1, ()))))
      else
      bif ib (2 : Int) (x2).length then
      (F_impl_RegMachine_do_f2 (IntKind.wrap .i64 (((x2).getD (Int.toNat (2 : Int)) (K.zero (.int .i64))) + y59.1.1)) y53.2.1.2.1.1 y53.2.1.2.1.2.1 y53.2.1.2.1.2.2.1 y53.2.1.2.1.2.2.2.1 y53.2.1.2.1.2.2.2.2.1 y53.2.2.1 y53.2.2.2.1).bind fun y61 =>
      bif (!y61.1.1) then
        (some (((1 : Int), ()), ((y61.2.1.2.1.1, (y61.2.1.2.1.2.1, (y61.2.1.2.1.2.2.1, (y61.2.1.2.1.2.2.2.1, (y61.2.1.2.1.2.2.2.2.1, ()))))), ()), (y61.2.2.1, (y61.2.2.2.1, ()))))
      else
      bif (x1 == (4 : Int)) then
        (bif ib (0 : Int) (x2).length then
        bif ib (2 : Int) (x2).length then
        bif ib (IntKind.wrap .i64 (((x2).getD (Int.toNat (2 : Int)) (K.zero (.int .i64))) + y59.1.1)) (y61.2.2.2.1).length then
        bif ib ((x2).getD (Int.toNat (0 : Int)) (K.zero (.int .i64))) (y61.2.2.1).length then
        some (((0 : Int), ()), ((y61.2.1.2.1.1, (y61.2.1.2.1.2.1, (y61.2.1.2.1.2.2.1, (y61.2.1.2.1.2.2.2.1, (y61.2.1.2.1.2.2.2.2.1, ()))))), ()), ((y61.2.2.1).set (Int.toNat ((x2).getD (Int.toNat (0 : Int)) (K.zero (.int .i64)))) ((y61.2.2.2.1).getD (Int.toNat (IntKind.wrap .i64 (((x2).getD (Int.toNat (2 : Int)) (K.zero (.int .i64))) + y59.1.1))) (K.zero (.int .i64))), (y61.2.2.2.1, ())))
        else none
        else none
        else none
        else none)
      else
      bif ib (2 : Int) (x2).length then
      bif ib (1 : Int) (x2).length then
      bif ib ((x2).getD (Int.toNat (1 : Int)) (K.zero (.int .i64))) (y61.2.2.1).length then
      bif ib (IntKind.wrap .i64 (((x2).getD (Int.toNat (2 : Int)) (K.zero (.int .i64))) + y59.1.1)) (y61.2.2.2.1).length then
      some (((0 : Int), ()), ((y61.2.1.2.1.1, (y61.2.1.2.1.2.1, (y61.2.1.2.1.2.2.1, (y61.2.1.2.1.2.2.2.1, (y61.2.1.2.1.2.2.2.2.1, ()))))), ()), (y61.2.2.1, ((y61.2.2.2.1).set (Int.toNat (IntKind.wrap .i64 (((x2).getD (Int.toNat (2 : Int)) (K.zero (.int .i64))) + y59.1.1))) ((y61.2.2.1).getD (Int.toNat ((x2).getD (Int.toNat (1 : Int)) (K.zero (.int .i64)))) (K.zero (.int .i64))), ())))
      else none
      else none
      else none
      else none
      else none
      else none
      else none
      else none)
    else
    bif (x1 == (5 : Int)) then
      (bif ib (1 : Int) (x2).length then
      bif ib ((x2).getD (Int.toNat (1 : Int)) (K.zero (.int .i64))) (y53.2.2.1).length then
      bif (x1 == (5 : Int)) then
        (bif ib (0 : Int) (x2).length then
        bif ib ((x2).getD (Int.toNat (0 : Int)) (K.zero (.int .i64))) (y53.2.2.1).length then
        (F_impl_Complement ((y53.2.2.1).getD (Int.toNat ((x2).getD (Int.toNat (0 : Int)) (K.zero (.int .i64)))) (K.zero (.int .i64)))).bind fun y62 =>
        (F_impl_SignedOf y62.1.1).bind fun y63 =>
        bif ib (3 : Int) (x2).length then
        (F_impl_within y63.1.1 (0 : Int) (IntKind.wrap .i64 (((x2).getD (Int.toNat (3 : Int)) (K.zero (.int .i64))) - (1 : Int)))).bind fun y64 =>
        bif (!y64.1.1) then
          (some (((3 : Int), ()), ((y53.2.1.2.1.1, (y53.2.1.2.1.2.1, (y53.2.1.2.1.2.2.1, (y53.2.1.2.1.2.2.2.1, (y53.2.1.2.1.2.2.2.2.1, ()))))), ()), (y53.2.2.1, (y53.2.2.2.1, ()))))
        else
        bif ib (2 : Int) (x2).length then
        (F_impl_RegMachine_do_f2 (IntKind.wrap .i64 (((x2).getD (Int.toNat (2 : Int)) (K.zero (.int .i64))) + y63.1.1)) y53.2.1.2.1.1 y53.2.1.2.1.2.1 y53.2.1.2.1.2.2.1 y53.2.1.2.1.2.2.2.1 y53.2.1.2.1.2.2.2.2.1 y53.2.2.1 y53.2.2.2.1).bind fun y65 =>
        bif (!y65.1.1) then
          (some (((1 : Int), ()), ((y65.2.1.2.1.1, (y65.2.1.2.1.2.1, (y65.2.1.2.1.2.2.1, (y65.2.1.2.1.2.2.2.1, (y65.2.1.2.1.2.2.2.2.1, ()))))), ()), (y65.2.2.1, (y65.2.2.2.1, ()))))
        else
        bif (x1 == (4 : Int)) then
          (bif ib (0 : Int) (x2).length then
          bif ib (2 : Int) (x2).length then
          bif ib (IntKind.wrap .i64 (((x2).getD (Int.toNat (2 : Int)) (K.zero (.int .i64))) + y63.1.1)) (y65.2.2.2.1).length then
          bif ib ((x2).getD (Int.toNat (0 : Int)) (K.zero (.int .i64))) (y65.2.2.1).length then
          some (((0 : Int), ()), ((y65.2.1.2.1.1, (y65.2.1.2.1.2.1, (y65.2.1.2.1.2.2.1, (y65.2.1.2.1.2.2.2.1, (y65.2.1.2.1.2.2.2.2.1, ()))))), ()), ((y65.2.2.1).set (Int.toNat ((x2).getD (Int.toNat (0 : Int)) (K.zero (.int .i64)))) ((y65.2.2.2.1).getD (Int.toNat (IntKind.wrap .i64 (((x2).getD (Int.toNat (2 : Int)) (K.zero (.int .i64))) + y63.1.1))) (K.zero (.int .i64))), (y65.2.2.2.1, ())))
          else none
          else none
          else none
          else none)
        else
        bif ib (2 : Int) (x2).length then
        bif ib (1 : Int) (x2).length then
        bif ib ((x2).getD (Int.toNat (1 : Int)) (K.zero (.int .i64))) (y65.2.2.1).length then
        bif ib (IntKind.wrap .i64 (((x2).getD (Int.toNat (2 : Int)) (K.zero (.int .i64))) + y63.1.1)) (y65.2.2.2.1).length then
        some (((0 : Int), ()), ((y65.2.1.2.1.1, (y65.2.1.2.1.2.1, (y65.2.1.2.1.2.2.1, (y65.2.1.2.1.2.2.2.1, (y65.2.1.2.1.2.2.2.2.1, ()))))), ()), (y65.2.2.1, ((y65.2.2.2.1).set (Int.toNat (IntKind.wrap .i64 (((x2).getD (Int.toNat (2 : Int)) (K.zero (.int .i64))) + y63.1.1))) ((y65.2.2.1).getD (Int.toNat ((x2).getD (Int.toNat (1 : Int)) (K.zero (.int .i64)))) (K.zero (.int .i64))), ())))
        else none
        else none
        else none
        else none
        else none
        else none
        else none
        else none)
      else
      (F_impl_Complement ((y53.2.2.1).getD (Int.toNat ((x2).getD (Int.toNat (1 : Int)) (K.zero (.int .i64)))) (K.zero (.int .i64)))).bind fun y66 =>
      (F_impl_SignedOf y66.1.1).bind fun y67 =>
      bif ib (3 : Int) (x2).length then
      (F_impl_within y67.1.1 (0 : Int) (IntKind.wrap .i64 (((x2).getD (Int.toNat (3 : Int)) (K.zero (.int .i64))) - (1 : Int)))).bind fun y68 =>
      bif (!y68.1.1) then
        (some (((3 : Int), ()), ((y53.2.1.2.1.1, (y53.2.1.2.1.2.1, (y53.2.1.2.1.2.2.1, (y53.2.1.2.1.2.2.2.1, (y53.2.1.2.1.2.2.2.2.1, ()))))), ()), (y53.2.2.1, (y53.2.2.2.1, ()))))
      else
      bif ib (2 : Int) (x2).length then
      (F_impl_RegMachine_do_f2 (IntKind.wrap .i64 (((x2).getD (Int.toNat (2 : Int)) (K.zero (.int .i64))) + y67.1.1)) y53.2.1.2.1.1 y53.2.1.2.1.2.1 y53.2.1.2.1.2.2.1 y53.2.1.2.1.2.2.2.1 y53.2.1.2.1.2.2.2.2.1 y53.2.2.1 y53.2.2.2.1).bind fun y69 =>
      bif (!y69.1.1) then
        (some (((1 : Int), ()), ((y69.2.1.2.1.1, (y69.2.1.2.1.2.1, (y69.2.1.2.1.2.2.1, (y69.2.1.2.1.2.2.2.1, (y69.2.1.2.1.2.2.2.2.1, ()))))), ()), (y69.2.2.1, (y69.2.2.2.1, ()))))
      else
      bif (x1 == (4 : Int)) then
        (bif ib (0 : Int) (x2).length then
        bif ib (2 : Int) (x2).length then
        bif ib (IntKind.wrap .i64 (((x2).getD (Int.toNat (2 : Int)) (K.zero (.int .i64))) + y67.1.1)) (y69.2.2.2.1).length then
        bif ib ((x2).getD (Int.toNat (0 : Int)) (K.zero (.int .i64))) (y69.2.2.1).length then
        some (((0 : Int), ()), ((y69.2.1.2.1.1, (y69.2.1.2.1.2.1, (y69.2.1.2.1.2.2.1, (y69.2.1.2.1.2.2.2.1, (y69.2.1.2.1.2.2.2.2.1, ()))))), ()), ((y69.2.2.1).set (Int.toNat ((x2).getD (Int.toNat (0 : Int)) (K.zero (.int .i64)))) ((y69.2.2.2.1).getD (Int.toNat (IntKind.wrap .i64 (((x2).getD (Int.toNat (2 : Int)) (K.zero (.int .i64))) + y67.1.1))) (K.zero (.int .i64))), (y69.2.2.2.1, ())))
        else none
        else none
        else none
        else none)
      else
      bif ib (2 : Int) (x2).length then
      bif ib (1 : Int) (x2).length then
      bif ib ((x2).getD (Int.toNat (1 : Int)) (K.zero (.int .i64))) (y69.2.2.1).length then
      bif ib (IntKind.wrap .i64 (((x2).getD (Int.toNat (2 : Int)) (K.zero (.int .i64))) + y67.1.1)) (y69.2.2.2.1).length then
      some (((0 : Int), ()), ((y69.2.1.2.1.1, (y69.2.1.2.1.2.1, (y69.2.1.2.1.2.2.1, (y69.2.1.2.1.2.2.2.1, (y69.2.1.2.1.2.2.2.2.1, ()))))), ()), (y69.2.2.1, ((y69.2.2.2.1).set (Int.toNat (IntKind.wrap .i64 (((x2).getD (Int.toNat (2 : Int)) (K.zero (.int .i64))) + y67.1.1))) ((y69.2.2.1).getD (Int.toNat ((x2).getD (Int.toNat (1 : Int)) (K.zero (.int .i64)))) (K.zero (.int .i64))), ())))
      else none
      else none
      else none
      else none
      else none
      else none
      else none
      else none)
    else
    bif (x1 == (6 : Int)) then
      (bif ib (3 : Int) (x2).length then
      bif ib (1 : Int) (x2).length then
      bif ib ((x2).getD (Int.toNat (1 : Int)) (K.zero (.int .i64))) (y53.2.2.1).length then
      bif ib (2 : Int) (x2).length then
      bif ib ((x2).getD (Int.toNat (2 : Int)) (K.zero (.int .i64))) (y53.2.2.1).length then
      (F_impl_BinaryInv ((x2).getD (Int.toNat (3 : Int)) (K.zero (.int .i64))) ((y53.2.2.1).getD (Int.toNat ((x2).getD (Int.toNat (1 : Int)) (K.zero (.int .i64)))) (K.zero (.int .i64))) ((y53.2.2.1).getD (Int.toNat ((x2).getD (Int.toNat (2 : Int)) (K.zero (.int .i64)))) (K.zero (.int .i64)))).bind fun y70 =>
      bif (y70.1.1.1 == (0 : Int)) then
        (bif ib (0 : Int) (x2).length then
        bif ib ((x2).getD (Int.toNat (0 : Int)) (K.zero (.int .i64))) (y53.2.2.1).length then
        some (((0 : Int), ()), ((y53.2.1.2.1.1, (y53.2.1.2.1.2.1, (y53.2.1.2.1.2.2.1, (y53.2.1.2.1.2.2.2.1, (y53.2.1.2.1.2.2.2.2.1, ()))))), ()), ((y53.2.2.1).set (Int.toNat ((x2).getD (Int.toNat (0 : Int)) (K.zero (.int .i64)))) y70.1.1.2, (y53.2.2.2.1, ())))
        else none
        else none)
      else
      bif (y70.1.1.1 == (3 : Int)) then
        (some (((1 : Int), ()), ((y53.2.1.2.1.1, (y53.2.1.2.1.2.1, (y53.2.1.2.1.2.2.1, (y53.2.1.2.1.2.2.2.1, (y53.2.1.2.1.2.2.2.2.1, ()))))), ()), (y53.2.2.1, (y53.2.2.2.1, ()))))
      else
      some ((y70.1.1.1, ()), ((y53.2.1.2.1.1, (y53.2.1.2.1.2.1, (y53.2.1.2.1.2.2.1, (y53.2.1.2.1.2.2.2.1, (y53.2.1.2.1.2.2.2.2.1, ()))))), ()), (y53.2.2.1, (y53.2.2.2.1, ())))
      else none
      else none
      else none
      else none
      else none)
    else
    bif (x1 == (7 : Int)) then
      (bif ib (0 : Int) (x2).length then
      bif ib (1 : Int) (x2).length then
      bif ib ((x2).getD (Int.toNat (1 : Int)) (K.zero (.int .i64))) (y53.2.2.1).length then
      (F_impl_Complement ((y53.2.2.1).getD (Int.toNat ((x2).getD (Int.toNat (1 : Int)) (K.zero (.int .i64)))) (K.zero (.int .i64)))).bind fun y71 =>
      (F_impl_NegOf y71.1.1).bind fun y72 =>
      (F_impl_Complement y72.1.1).bind fun y73 =>
      bif ib ((x2).getD (Int.toNat (0 : Int)) (K.zero (.int .i64))) (y53.2.2.1).length then
      some (((0 : Int), ()), ((y53.2.1.2.1.1, (y53.2.1.2.1.2.1, (y53.2.1.2.1.2.2.1, (y53.2.1.2.1.2.2.2.1, (y53.2.1.2.1.2.2.2.2.1, ()))))), ()), ((y53.2.2.1).set (Int.toNat ((x2).getD (Int.toNat (0 : Int)) (K.zero (.int .i64)))) y73.1.1, (y53.2.2.2.1, ())))
      else none
      else none
      else none
      else none)
    else
    bif (x1 == (8 : Int)) then
      (bif ib (0 : Int) (x2).length then
      bif ib (1 : Int) (x2).length then
      bif ib ((x2).getD (Int.toNat (1 : Int)) (K.zero (.int .i64))) (y53.2.2.1).length then
      (F_impl_Complement ((y53.2.2.1).getD (Int.toNat ((x2).getD (Int.toNat (1 : Int)) (K.zero (.int .i64)))) (K.zero (.int .i64)))).bind fun y74 =>
      (F_impl_NotOf y74.1.1).bind fun y75 =>
      (F_impl_Complement y75.1.1).bind fun y76 =>
      bif ib ((x2).getD (Int.toNat (0 : Int)) (K.zero (.int .i64))) (y53.2.2.1).length then
      some (((0 : Int), ()), ((y53.2.1.2.1.1, (y53.2.1.2.1.2.1, (y53.2.1.2.1.2.2.1, (y53.2.1.2.1.2.2.2.1, (y53.2.1.2.1.2.2.2.2.1, ()))))), ()), ((y53.2.2.1).set (Int.toNat ((x2).getD (Int.toNat (0 : Int)) (K.zero (.int .i64)))) y76.1.1, (y53.2.2.2.1, ())))
      else none
      else none
      else none
      else none)
    else
    bif (x1 == (9 : Int)) then
      (bif ib (0 : Int) (x2).length then
      bif ib ((x2).getD (Int.toNat (0 : Int)) (K.zero (.int .i64))) (y53.2.2.1).length then
      bif (((y53.2.2.1).getD (Int.toNat ((x2).getD (Int.toNat (0 : Int)) (K.zero (.int .i64)))) (K.zero (.int .i64))) != (65535 : Int)) then
        (bif ib (0 : Int) (x2).length then
        bif ib ((x2).getD (Int.toNat (0 : Int)) (K.zero (.int .i64))) (y53.2.2.1).length then
        some (((0 : Int), ()), ((y53.2.1.2.1.1, (y53.2.1.2.1.2.1, (y53.2.1.2.1.2.2.1, (y53.2.1.2.1.2.2.2.1, (y53.2.1.2.1.2.2.2.2.1, ()))))), ()), ((y53.2.2.1).set (Int.toNat ((x2).getD (Int.toNat (0 : Int)) (K.zero (.int .i64)))) (65534 : Int), (y53.2.2.2.1, ())))
        else none
        else none)
      else
      some (((0 : Int), ()), ((y53.2.1.2.1.1, (y53.2.1.2.1.2.1, (y53.2.1.2.1.2.2.1, (y53.2.1.2.1.2.2.2.1, (y53.2.1.2.1.2.2.2.2.1, ()))))), ()), (y53.2.2.1, (y53.2.2.2.1, ())))
      else none
      else none)
    else
    bif (x1 == (10 : Int)) then
      (bif ib (0 : Int) (x2).length then
      some (((0 : Int), ()), ((((x2).getD (Int.toNat (0 : Int)) (K.zero (.int .i64))), (y53.2.1.2.1.2.1, (y53.2.1.2.1.2.2.1, (y53.2.1.2.1.2.2.2.1, (y53.2.1.2.1.2.2.2.2.1, ()))))), ()), (y53.2.2.1, (y53.2.2.2.1, ())))
      else none)
    else
    bif (x1 == (11 : Int)) then
      (bif ib (0 : Int) (x2).length then
      bif ib ((x2).getD (Int.toNat (0 : Int)) (K.zero (.int .i64))) (y53.2.2.1).length then
      bif (((y53.2.2.1).getD (Int.toNat ((x2).getD (Int.toNat (0 : Int)) (K.zero (.int .i64)))) (K.zero (.int .i64))) == (65535 : Int)) then
        (bif ib (1 : Int) (x2).length then
        some (((0 : Int), ()), ((((x2).getD (Int.toNat (1 : Int)) (K.zero (.int .i64))), (y53.2.1.2.1.2.1, (y53.2.1.2.1.2.2.1, (y53.2.1.2.1.2.2.2.1, (y53.2.1.2.1.2.2.2.2.1, ()))))), ()), (y53.2.2.1, (y53.2.2.2.1, ())))
        else none)
      else
      some (((0 : Int), ()), ((y53.2.1.2.1.1, (y53.2.1.2.1.2.1, (y53.2.1.2.1.2.2.1, (y53.2.1.2.1.2.2.2.1, (y53.2.1.2.1.2.2.2.2.1, ()))))), ()), (y53.2.2.1, (y53.2.2.2.1, ())))
      else none
      else none)
    else
    bif (x1 == (12 : Int)) then
      (bif ib (0 : Int) (x2).length then
      (F_impl_SignOf y53.2.1.2.1.2.1 ((x2).getD (Int.toNat (0 : Int)) (K.zero (.int .i64)))).bind fun y77 =>
      some (((0 : Int), ()), ((y53.2.1.2.1.1, (y77.1.1, (y53.2.1.2.1.2.2.1, (y53.2.1.2.1.2.2.2.1, (y53.2.1.2.1.2.2.2.2.1, ()))))), ()), (y53.2.2.1, (y53.2.2.2.1, ())))
      else none)
    else
    bif (x1 == (13 : Int)) then
      (some (((0 : Int), ()), ((y53.2.1.2.1.1, (y53.2.1.2.1.2.1, (y53.2.1.2.1.2.2.1, (y53.2.1.2.1.2.2.2.1, (true, ()))))), ()), (y53.2.2.1, (y53.2.2.2.1, ()))))
    else
    some (((0 : Int), ()), ((y53.2.1.2.1.1, (y53.2.1.2.1.2.1, (y53.2.1.2.1.2.2.1, (y53.2.1.2.1.2.2.2.1, (y53.2.1.2.1.2.2.2.2.1, ()))))), ()), (y53.2.2.1, (y53.2.2.2.1, ())))
    else none)
  else
  bif (x1 == (1 : Int)) then
    (bif ib (0 : Int) (x2).length then
    bif ib (1 : Int) (x2).length then
    bif ib ((x2).getD (Int.toNat (0 : Int)) (K.zero (.int .i64))) (x8).length then
    some (((0 : Int), ()), ((x3, (x4, (x5, (x6, (x7, ()))))), ()), ((x8).set (Int.toNat ((x2).getD (Int.toNat (0 : Int)) (K.zero (.int .i64)))) ((x2).getD (Int.toNat (1 : Int)) (K.zero (.int .i64))), (x9, ())))
    else none
    else none
    else none)
  else
  bif (x1 == (2 : Int)) then
    (bif ib (0 : Int) (x2).length then
    bif ib (1 : Int) (x2).length then
    bif ib ((x2).getD (Int.toNat (1 : Int)) (K.zero (.int .i64))) (x9).length then
    bif ib ((x2).getD (Int.toNat (0 : Int)) (K.zero (.int .i64))) (x8).length then
    some (((0 : Int), ()), ((x3, (x4, (x5, (x6, (x7, ()))))), ()), ((x8).set (Int.toNat ((x2).getD (Int.toNat (0 : Int)) (K.zero (.int .i64)))) ((x9).getD (Int.toNat ((x2).getD (Int.toNat (1 : Int)) (K.zero (.int .i64)))) (K.zero (.int .i64))), (x9, ())))
    else none
    else none
    else none
    else none)
  else
  bif (x1 == (3 : Int)) then
    (bif ib (0 : Int) (x2).length then
    bif ib (1 : Int) (x2).length then
    bif ib ((x2).getD (Int.toNat (1 : Int)) (K.zero (.int .i64))) (x8).length then
    bif ib ((x2).getD (Int.toNat (0 : Int)) (K.zero (.int .i64))) (x9).length then
    some (((0 : Int), ()), ((x3, (x4, (x5, (x6, (x7, ()))))), ()), (x8, ((x9).set (Int.toNat ((x2).getD (Int.toNat (0 : Int)) (K.zero (.int .i64)))) ((x8).getD (Int.toNat ((x2).getD (Int.toNat (1 : Int)) (K.zero (.int .i64)))) (K.zero (.int .i64))), ())))
    else none
    else none
    else none
    else none)
  else
  bif (x1 == (4 : Int)) then
    (bif ib (1 : Int) (x2).length then
    bif ib ((x2).getD (Int.toNat (1 : Int)) (K.zero (.int .i64))) (x8).length then
    bif (x1 == (5 : Int)) then
      (bif ib (0 : Int) (x2).length then
      bif ib ((x2).getD (Int.toNat (0 : Int)) (K.zero (.int .i64))) (x8).length then
      (F_impl_Complement ((x8).getD (Int.toNat ((x2).getD (Int.toNat (0 : Int)) (K.zero (.int .i64)))) (K.zero (.int .i64)))).bind fun y78 =>
      (F_impl_SignedOf y78.1.1).bind fun y79 =>
      bif ib (3 : Int) (x2).length then
      (F_impl_within y79.1.1 (0 : Int) (IntKind.wrap .i64 (((x2).getD (Int.toNat (3 : Int)) (K.zero (.int .i64))) - (1 : Int)))).bind fun y80 =>
      bif (!y80.1.1) then
        (some (((3 : Int), ()), ((x3, (x4, (x5, (x6, (x7, ()))))), ()), (x8, (x9, ()))))
      else
      bif ib (2 : Int) (x2).length then
      (F_impl_RegMachine_do_f2 (IntKind.wrap .i64 (((x2).getD (Int.toNat (2 : Int)) (K.zero (.int .i64))) + y79.1.1)) x3 x4 x5 x6 x7 x8 x9).bind fun y81 =>
      bif (!y81.1.1) then
        (some (((1 : Int), ()), ((y81.2.1.2.1.1, (y81.2.1.2.1.2.1, (y81.2.1.2.1.2.2.1, (y81.2.1.2.1.2.2.2.1, (y81.2.1.2.1.2.2.2.2.1, ()))))), ()), (y81.2.2.1, (y81.2.2.2.1, ()))))
      else
      bif (x1 == (4 : Int)) then
        (bif ib (0 : Int) (x2).length then
        bif ib (2 : Int) (x2).length then
        bif ib (IntKind.wrap .i64 (((x2).getD (Int.toNat (2 : Int)) (K.zero (.int .i64))) + y79.1.1)) (y81.2.2.2.1).length then
        bif ib ((x2).getD (Int.toNat (0 : Int)) (K.zero (.int .i64))) (y81.2.2.1).length then
        some (((0 : Int), ()), ((y81.2.1.2.1.1, (y81.2.1.2.1.2.1, (y81.2.1.2.1.2.2.1, (y81.2.1.2.1.2.2.2.1, (y81.2.1.2.1.2.2.2.2.1, ()))))), ()), ((y81.2.2.1).set (Int.toNat ((x2).getD (Int.toNat (0 : Int)) (K.zero (.int .i64)))) ((y81.2.2.2.1).getD (Int.toNat (IntKind.wrap .i64 (((x2).getD (Int.toNat (2 : Int)) (K.zero (.int .i64))) + y79.1.1))) (K.zero (.int .i64))), (y81.2.2.2.1, ())))
        else none
        else none
        else none
        else none)
      else
      bif ib (2 : Int) (x2).length then
      bif ib (1 : Int) (x2).length then
      bif ib ((x2).getD (Int.toNat (1 : Int)) (K.zero (.int .i64))) (y81.2.2.1).length then
      bif ib (IntKind.wrap .i64 (((x2).getD (Int.toNat (2 : Int)) (K.zero (.int .i64))) + y79.1.1)) (y81.2.2.2.1).length then
      some (((0 : Int), ()), ((y81.2.1.2.1.1, (y81.2.1.2.1.2.1, (y81.2.1.2.1.2.2.1, (y81.2.1.2.1.2.2.2.1, (y81.2.1.2.1.2.2.2.2.1, ()))))), ()), (y81.2.2.1, ((y81.2.2.2.1).set (Int.toNat (IntKind.wrap .i64 (((x2).getD (Int.toNat (2 : Int)) (K.zero (.int .i64))) + y79.1.1))) ((y81.2.2.1).getD (Int.toNat ((x2).getD (Int.toNat (1 : Int)) (K.zero (.int .i64)))) (K.zero (.int .i64))), ())))
      else none
      else none
      else none
      else none
      else none
      else none
      else none
      else none)
    else
    (F_impl_Complement ((x8).getD (Int.toNat ((x2).getD (Int.toNat (1 : Int)) (K.zero (.int .i64)))) (K.zero (.int .i64)))).bind fun y82 =>
    (F_impl_SignedOf y82.1.1).bind fun y83 =>
    bif ib (3 : Int) (x2).length then
    (F_impl_within y83.1.1 (0 : Int) (IntKind.wrap .i64 (((x2).getD (Int.toNat (3 : Int)) (K.zero (.int .i64))) - (1 : Int)))).bind fun y84 =>
    bif (!y84.1.1) then
      (some (((3 : Int), ()), ((x3, (x4, (x5, (x6, (x7, ()))))), ()), (x8, (x9, ()))))
    else
    bif ib (2 : Int) (x2).length then
    (F_impl_RegMachine_do_f2 (IntKind.wrap .i64 (((x2).getD (Int.toNat (2 : Int)) (K.zero (.int .i64))) + y83.1.1)) x3 x4 x5 x6 x7 x8 x9).bind fun y85 =>
    bif (!y85.1.1) then
      (some (((1 : Int), ()), ((y85.2.1.2.1.1, (y85.2.1.2.1.2.1, (y85.2.1.2.1.2.2.1, (y85.2.1.2.1.2.2.2.1, (y85.2.1.2.1.2.2.2.2.1, ()))))), ()), (y85.2.2.1, (y85.2.2.2.1, ()))))
    else
    bif (x1 == (4 : Int)) then
      (bif ib (0 : Int) (x2).length then
      bif ib (2 : Int) (x2).length then
      bif ib (IntKind.wrap .i64 (((x2).getD (Int.toNat (2 : Int)) (K.zero (.int .i64))) + y83.1.1)) (y85.2.2.2.1).length then
      bif ib ((x2).getD (Int.toNat (0 : Int)) (K.zero (.int .i64))) (y85.2.2.1).length then
      some (((0 : Int), ()), ((y85.2.1.2.1.1, (y85.2.1.2.1.2.1, (y85.2.1.2.1.2.2.1, (y85.2.1.2.1.2.2.2.1, (y85.2.1.2.1.2.2.2.2.1, ()))))), ()), ((y85.2.2.1).set (Int.toNat ((x2).getD (Int.toNat (0 : Int)) (K.zero (.int .i64)))) ((y85.2.2.2.1).getD (Int.toNat (IntKind.wrap .i64 (((x2).getD (Int.toNat (2 : Int)) (K.zero (.int .i64))) + y83.1.1))) (K.zero (.int .i64))), (y85.2.2.2.1, ())))
      else none
      else none
      else none
      else none)
    else
    bif ib (2 : Int) (x2).length then
    bif ib (1 : Int) (x2).length then
    bif ib ((x2).getD (Int.toNat (1 : Int)) (K.zero (.int .i64))) (y85.2.2.1).length then
    bif ib (IntKind.wrap .i64 (((x2).getD (Int.toNat (2 : Int)) (K.zero (.int .i64))) + y83.1.1)) (y85.2.2.2.1).length then
    some (((0 : Int), ()), ((y85.2.1.2.1.1, (y85.2.1.2.1.2.1, (y85.2.1.2.1.2.2.1, (y85.2.1.2.1.2.2.2.1, (y85.2.1.2.1.2.2.2.2.1, ()))))), ()), (y85.2.2.1, ((y85.2.2.2.1).set (Int.toNat (IntKind.wrap .i64 (((x2).getD (Int.toNat (2 : Int)) (K.zero (.int .i64))) + y83.1.1))) ((y85.2.2.1).getD (Int.toNat ((x2).getD (Int.toNat (1 : Int)) (K.zero (.int .i64)))) (K.zero (.int .i64))), ())))
    else none
    else none
    else none
    else none
    else none
    else none
    else none
    else none)
  else
  bif (x1 == (5 : Int)) then
    (bif ib (1 : Int) (x2).length then
    bif ib ((x2).getD (Int.toNat (1 : Int)) (K.zero (.int .i64))) (x8).length then
    bif (x1 == (5 : Int)) then
      (bif ib (0 : Int) (x2).length then
      bif ib ((x2).getD (Int.toNat (0 : Int)) (K.zero (.int .i64))) (x8).length then
      (F_impl_Complement ((x8).getD (Int.toNat ((x2).getD (Int.toNat (0 : Int)) (K.zero (.int .i64)))) (K.zero (.int .i64)))).bind fun y86 =>
      (F_impl_SignedOf y86.1.1).bind fun y87 =>
      bif ib (3 : Int) (x2).length then
      (F_impl_within y87.1.1 (0 : Int) (IntKind.wrap .i64 (((x2).getD (Int.toNat (3 : Int)) (K.zero (.int .i64))) - (1 : Int)))).bind fun y88 =>
      bif (!y88.1.1) then
        (some (((3 : Int), ()), ((x3, (x4, (x5, (x6, (x7, ()))))), ()), (x8, (x9, ()))))
      else
      bif ib (2 : Int) (x2).length then
      (F_impl_RegMachine_do_f2 (IntKind.wrap .i64 (((x2).getD (Int.toNat (2 : Int)) (K.zero (.int .i64))) + y87.1.1)) x3 x4 x5 x6 x7 x8 x9).bind fun y89 =>
      bif (!y89.1.1) then
        (some (((1 : Int), ()), ((y89.2.1.2.1.1, (y89.2.1.2.1.2.1, (y89.2.1.2.1.2.2.1, (y89.2.1.2.1.2.2.2.1, (y89.2.1.2.1.2.2.2.2.1, ()))))), ()), (y89.2.2.1, (y89.2.2.2.1, ()))))
      else
      bif (x1 == (4 : Int)) then
        (bif ib (0 : Int) (x2).length then
        bif ib (2 : Int) (x2).length then
        bif ib (IntKind.wrap .i64 (((x2).getD (Int.toNat (2 : Int)) (K.zero (.int .i64))) + y87.1.1)) (y89.2.2.2.1).length then
        bif ib ((x2).getD (Int.toNat (0 : Int)) (K.zero (.int .i64))) (y89.2.2.1).length then
        some (((0 : Int), ()), ((y89.2.1.2.1.1, (y89.2.1.2.1.2.1, (y89.2.1.2.1.2.2.1, (y89.2.1.2.1.2.2.2.1, (y89.2.1.2.1.2.2.2.2.1, ()))))), ()), ((y89.2.2.1).set (Int.toNat ((x2).getD (Int.toNat (0 : Int)) (K.zero (.int .i64)))) ((y89.2.2.2.1).getD (Int.toNat (IntKind.wrap .i64 (((x2).getD (Int.toNat (2 : Int)) (K.zero (.int .i64))) + y87.1.1))) (K.zero (.int .i64))), (y89.2.2.2.1, ())))
        else none
        else none
        else none
        else none)
      else
      bif ib (2 : Int) (x2).length then
      bif ib (1 : Int) (x2).length then
      bif ib ((x2).getD (Int.toNat (1 : Int)) (K.zero (.int .i64))) (y89.2.2.1).length then
      bif ib (IntKind.wrap .i64 (((x2).getD (Int.toNat (2 : Int)) (K.zero (.int .i64))) + y87.1.1)) (y89.2.2.2.1).length then
      some (((0 : Int), ()), ((y89.2.1.2.1.1, (y89.2.1.2.1.2.1, (y89.2.1.2.1.2.2.1, (y89.2.1.2.1.2.2.2.1, (y89.2.1.2.1.2.2.2.2.1, ()))))), ()), (y89.2.2.1, ((y89.2.2.2.1).set (Int.toNat (IntKind.wrap .i64 (((x2).getD (Int.toNat (2 : Int)) (K.zero (.int .i64))) + y87.1.1))) ((y89.2.2.1).getD (Int.toNat ((x2).getD (Int.toNat (1 : Int)) (K.zero (.int .i64)))) (K.zero (.int .i64))), ())))
      else none
      else none
      else none
      else none
      else none
      else none
      else none
      else none)
    else
    (F_impl_Complement ((x8).getD (Int.toNat ((x2).getD (Int.toNat (1 : Int)) (K.zero (.int .i64)))) (K.zero (.int .i64)))).bind fun y90 =>
    (F_impl_SignedOf y90.1.1).bind fun y91 =>
    bif ib (3 : Int) (x2).length then
    (F_impl_within y91.1.1 (0 : Int) (IntKind.wrap .i64 (((x2).getD (Int.toNat (3 : Int)) (K.zero (.int .i64))) - (1 : Int)))).bind fun y92 =>
    bif (!y92.1.1) then
      (some (((3 : Int), ()), ((x3, (x4, (x5, (x6, (x7, ()))))), ()), (x8, (x9, ()))))
    else
    bif ib (2 : Int) (x2).length then
    (F_impl_RegMachine_do_f2 (IntKind.wrap .i64 (((x2).getD (Int.toNat (2 : Int)) (K.zero (.int .i64))) + y91.1.1)) x3 x4 x5 x6 x7 x8 x9).bind fun y93 =>
    bif (!y93.1.1) then
      (some (((1 : Int), ()), ((y93.2.1.2.1.1, (y93.2.1.2.1.2.1, (y93.2.1.2.1.2.2.1, (y93.2.1.2.1.2.2.2.1, (y93.2.1.2.1.2.2.2.2.1, ()))))), ()), (y93.2.2.1, (y93.2.2.2.1, ()))))
    else
    bif (x1 == (4 : Int)) then
      (bif ib (0 : Int) (x2).length then
      bif ib (2 : Int) (x2).length then
      bif ib (IntKind.wrap .i64 (((x2).getD (Int.toNat (2 : Int)) (K.zero (.int .i64))) + y91.1.1)) (y93.2.2.2.1).length then
      bif ib ((x2).getD (Int.toNat (0 : Int)) (K.zero (.int .i64))) (y93.2.2.1).length then
      some (((0 : Int), ()), ((y93.2.1.2.1.1, (y93.2.1.2.1.2.1, (y93.2.1.2.1.2.2.1, (y93.2.1.2.1.2.2.2.1, (y93.2.1.2.1.2.2.2.2.1, ()))))), ()), ((y93.2.2.1).set (Int.toNat ((x2).getD (Int.toNat (0 : Int)) (K.zero (.int .i64)))) ((y93.2.2.2.1).getD (Int.toNat (IntKind.wrap .i64 (((x2).getD (Int.toNat (2 : Int)) (K.zero (.int .i64))) + y91.1.1))) (K.zero (.int .i64))), (y93.2.2.2.1, ())))
      else none
      else none
      else none
      else none)
    else
    bif ib (2 : Int) (x2).length then
    bif ib (1 : Int) (x2).length then
    bif ib ((x2).getD (Int.toNat (1 : Int)) (K.zero (.int .i64))) (y93.2.2.1).length then
    bif ib (IntKind.wrap .i64 (((x2).getD (Int.toNat (2 : Int)) (K.zero (.int .i64))) + y91.1.1)) (y93.2.2.2.1).length then
    some (((0 : Int), ()), ((y93.2.1.2.1.1, (y93.2.1.2.1.2.1, (y93.2.1.2.1.2.2.1, (y93.2.1.2.1.2.2.2.1, (y93.2.1.2.1.2.2.2.2.1, ()))))), ()), (y93.2.2.1, ((y93.2.2.2.1).set (Int.toNat (IntKind.wrap .i64 (((x2).getD (Int.toNat (2 : Int)) (K.zero (.int .i64))) + y91.1.1))) ((y93.2.2.1).getD (Int.toNat ((x2).getD (Int.toNat (1 : Int)) (K.zero (.int .i64)))) (K.zero (.int .i64))), ())))
    else none
    else none
    else none
    else none
    else none
    else none
    else none
    else none)
  else
  bif (x1 == (6 : Int)) then
    (bif ib (3 : Int) (x2).length then
    bif ib (1 : Int) (x2).length then
    bif ib ((x2).getD (Int.toNat (1 : Int)) (K.zero (.int .i64))) (x8).length then
    bif ib (2 : Int) (x2).length then
    bif ib ((x2).getD (Int.toNat (2 : Int)) (K.zero (.int .i64))) (x8).length then
    (F_impl_BinaryInv ((x2).getD (Int.toNat (3 : Int)) (K.zero (.int .i64))) ((x8).getD (Int.toNat ((x2).getD (Int.toNat (1 : Int)) (K.zero (.int .i64)))) (K.zero (.int .i64))) ((x8).getD (Int.toNat ((x2).getD (Int.toNat (2 : Int)) (K.zero (.int .i64)))) (K.zero (.int .i64)))).bind fun y94 =>
    bif (y94.1.1.1 == (0 : Int)) then
      (bif ib (0 : Int) (x2).length then
      bif ib ((x2).getD (Int.toNat (0 : Int)) (K.zero (.int .i64))) (x8).length then
      some (((0 : Int), ()), ((x3, (x4, (x5, (x6, (x7, ()))))), ()), ((x8).set (Int.toNat ((x2).getD (Int.toNat (0 : Int)) (K.zero (.int .i64)))) y94.1.1.2, (x9, ())))
      else none
      else none)
    else
    bif (y94.1.1.1 == (3 : Int)) then
      (some (((1 : Int), ()), ((x3, (x4, (x5, (x6, (x7, ()))))), ()), (x8, (x9, ()))))
    else
    some ((y94.1.1.1, ()), ((x3, (x4, (x5, (x6, (x7, ()))))), ()), (x8, (x9, ())))
    else none
    else none
    else none
    else none
    else none)
  else
  bif (x1 == (7 : Int)) then
    (bif ib (0 : Int) (x2).length then
    bif ib (1 : Int) (x2).length then
    bif ib ((x2).getD (Int.toNat (1 : Int)) (K.zero (.int .i64))) (x8).length then
    (F_impl_Complement ((x8).getD (Int.toNat ((x2).getD (Int.toNat (1 : Int)) (K.zero (.int .i64)))) (K.zero (.int .i64)))).bind fun y95 =>
    (F_impl_NegOf y95.1.1).bind fun y96 =>
    (F_impl_Complement y96.1.1).bind fun y97 =>
    bif ib ((x2).getD (Int.toNat (0 : Int)) (K.zero (.int .i64))) (x8).length then
    some (((0 : Int), ()), ((x3, (x4, (x5, (x6, (x7, ()))))), ()), ((x8).set (Int.toNat ((x2).getD (Int.toNat (0 : Int)) (K.zero (.int .i64)))) y97.1.1, (x9, ())))
    else none
    else none
    else none
    else none)
  else
  bif (x1 == (8 : Int)) then
    (bif ib (0 : Int) (x2).length then
    bif ib (1 : Int) (x2).length then
    bif ib ((x2).getD (Int.toNat (1 : Int)) (K.zero (.int .i64))) (x8).length then
    (F_impl_Complement ((x8).getD (Int.toNat ((x2).getD (Int.toNat (1 : Int)) (K.zero (.int .i64)))) (K.zero (.int .i64)))).bind fun y98 =>
    (F_impl_NotOf y98.1.1).bind fun y99 =>
    (F_impl_Complement y99.1.1).bind fun y100 =>
    bif ib ((x2).getD (Int.toNat (0 : Int)) (K.zero (.int .i64))) (x8).length then
    some (((0 : Int), ()), ((x3, (x4, (x5, (x6, (x7, ()))))), ()), ((x8).set (Int.toNat ((x2).getD (Int.toNat (0 : Int)) (K.zero (.int .i64)))) y100.1.1, (x9, ())))
    else none
    else none
    else none
    else none)
  else
  bif (x1 == (9 : Int)) then
    (bif ib (0 : Int) (x2).length then
    bif ib ((x2).getD (Int.toNat (0 : Int)) (K.zero (.int .i64))) (x8).length then
    bif (((x8).getD (Int.toNat ((x2).getD (Int.toNat (0 : Int)) (K.zero (.int .i64)))) (K.zero (.int .i64))) != (65535 : Int)) then
      (bif ib (0 : Int) (x2).length then
      bif ib ((x2).getD (Int.toNat (0 : Int)) (K.zero (.int .i64))) (x8).length then
      some (((0 : Int), ()), ((x3, (x4, (x5, (x6, (x7, ()))))), ()), ((x8).set (Int.toNat ((x2).getD (Int.toNat (0 : Int)) (K.zero (.int .i64)))) (65534 : Int), (x9, ())))
      else none
      else none)
    else
    some (((0 : Int), ()), ((x3, (x4, (x5, (x6, (x7, ()))))), ()), (x8, (x9, ())))
    else none
    else none)
  else
  bif (x1 == (10 : Int)) then
    (bif ib (0 : Int) (x2).length then
    some (((0 : Int), ()), ((((x2).getD (Int.toNat (0 : Int)) (K.zero (.int .i64))), (x4, (x5, (x6, (x7, ()))))), ()), (x8, (x9, ())))
    else none)
  else
  bif (x1 == (11 : Int)) then
    (bif ib (0 : Int) (x2).length then
    bif ib ((x2).getD (Int.toNat (0 : Int)) (K.zero (.int .i64))) (x8).length then
    bif (((x8).getD (Int.toNat ((x2).getD (Int.toNat (0 : Int)) (K.zero (.int .i64)))) (K.zero (.int .i64))) == (65535 : Int)) then
      (bif ib (1 : Int) (x2).length then
      some (((0 : Int), ()), ((((x2).getD (Int.toNat (1 : Int)) (K.zero (.int .i64))), (x4, (x5, (x6, (x7, ()))))), ()), (x8, (x9, ())))
      else none)
    else
    some (((0 : Int), ()), ((x3, (x4, (x5, (x6, (x7, ()))))), ()), (x8, (x9, ())))
    else none
    else none)
  else
  bif (x1 == (12 : Int)) then
    (bif ib (0 : Int) (x2).length then
    (F_impl_SignOf x4 ((x2).getD (Int.toNat (0 : Int)) (K.zero (.int .i64)))).bind fun y101 =>
    some (((0 : Int), ()), ((x3, (y101.1.1, (x5, (x6, (x7, ()))))), ()), (x8, (x9, ())))
    else none)
  else
  bif (x1 == (13 : Int)) then
    (some (((0 : Int), ()), ((x3, (x4, (x5, (x6, (true, ()))))), ()), (x8, (x9, ()))))
  else
  some (((0 : Int), ()), ((x3, (x4, (x5, (x6, (x7, ()))))), ()), (x8, (x9, ())))
noncomputable abbrev U_impl_RegMachine_do : sp_impl_RegMachine_do.T → Option sq_impl_RegMachine_do.T := fun x => F_impl_RegMachine_do x.1.1 x.1.2.1 x.2.1.1.1 x.2.1.1.2.1 x.2.1.1.2.2.1 x.2.1.1.2.2.2.1 x.2.1.1.2.2.2.2.1 x.2.2.1 x.2.2.2.1
theorem e_impl_RegMachine_do : ∀ x, evCode ty (gamOf g_impl_RegMachine_do) j_impl_RegMachine_do (lamOf []) b_impl_RegMachine_do (sp_impl_RegMachine_do.hd x) (finN ty sq_impl_RegMachine_do [.tmp 6]) = U_impl_RegMachine_do x := fun x => by kernel_rfl
theorem c_impl_RegMachine_do : FnS P 105 sp_impl_RegMachine_do sq_impl_RegMachine_do U_impl_RegMachine_do :=
  fnS_of_ev tyOk mixed gok_impl_RegMachine_do (fn := Try.f105) (by kernel_rfl) (c := b_impl_RegMachine_do) (by kernel_rfl) (by kernel_rfl) (by kernel_rfl) (lam_ok (tab := []) (by kernel_rfl) (fun p hp => by cases hp)) e_impl_RegMachine_do

/-! (*impl.RegMachine).step -/
abbrev sp_impl_RegMachine_step : Sp := ⟨71, [(0, .fix (.ptr 60000 0)), (1, .val false (.sl (.int .i64)))], [(60000, [.val (.int .i64), .fix (.own 63000), .fix (.own 63001), .val (.int .i64), .val (.int .i64), .val (.int .i64), .val .bool])], [(63000, (.int .i64), true), (63001, (.int .i64), true)]⟩
abbrev sq_impl_RegMachine_step : Sp := ⟨0, [], [(60000, [.val (.int .i64), .fix (.own 59000), .fix (.own 59001), .val (.int .i64), .val (.int .i64), .val (.int .i64), .val .bool])], [(59000, (.int .i64), true), (59001, (.int .i64), true)]⟩
noncomputable def g_impl_RegMachine_step : List (FuncId × SumX) := [(103, cN sp_impl_instruction_rm sq_impl_instruction_rm U_impl_instruction_rm), (105, xN sp_impl_RegMachine_do sq_impl_RegMachine_do U_impl_RegMachine_do)]
def j_impl_RegMachine_step : Nat → Option (List (Nat × SS)) := jOf [(0, [(18, .val false .bool)])]
theorem gok_impl_RegMachine_step : GOk P (gamOf g_impl_RegMachine_step) := gam_ok (tab := g_impl_RegMachine_step) (by
    intro p hp
    simp only [g_impl_RegMachine_step, List.mem_cons, List.not_mem_nil, or_false] at hp
    rcases hp with rfl | rfl
    · exact cN_ok c_impl_instruction_rm rfl
    · exact xN_ok c_impl_RegMachine_do rfl)
noncomputable abbrev b_impl_RegMachine_step : Code := bodyOf Try.f68
noncomputable def F_impl_RegMachine_step (x1 : K.T (.sl (.int .i64))) (x2 : K.T (.int .i64)) (x3 : K.T (.int .i64)) (x4 : K.T (.int .i64)) (x5 : K.T (.int .i64)) (x6 : K.T .bool) (x7 : List (K.T (.int .i64))) (x8 : List (K.T (.int .i64))) : Option sq_impl_RegMachine_step.T :=
  (bif x6 then
      (some (true, ()))
    else
    some ((x5 != (0 : Int)), ())).bind fun y1 =>
  bif y1.1 then
    (some ((), ((x2, (x3, (x4, (x5, (x6, ()))))), ()), (x7, (x8, ()))))
  else
  (F_impl_instruction_rm x1 x2).bind fun y2 =>
  bif (!y2.1.2.2.1) then
    (some ((), ((x2, (x3, ((mn (IntKind.wrap .i64 (x4 + (1 : Int))) (1000000 : Int)), ((1 : Int), (x6, ()))))), ()), (x7, (x8, ()))))
  else
  (F_impl_RegMachine_do y2.1.1 y2.1.2.1 (IntKind.wrap .i64 ((IntKind.wrap .i64 (x2 + (1 : Int))) + ((y2.1.2.1).length : Int))) x3 (mn (IntKind.wrap .i64 (x4 + (1 : Int))) (1000000 : Int)) x5 x6 x7 x8).bind fun y3 =>
  bif (y3.1.1 != (0 : Int)) then
    (some ((), ((x2, (y3.2.1.1.2.1, (y3.2.1.1.2.2.1, (y3.1.1, (y3.2.1.1.2.2.2.2.1, ()))))), ()), (y3.2.2.1, (y3.2.2.2.1, ()))))
  else
  some ((), ((y3.2.1.1.1, (y3.2.1.1.2.1, (y3.2.1.1.2.2.1, (y3.1.1, (y3.2.1.1.2.2.2.2.1, ()))))), ()), (y3.2.2.1, (y3.2.2.2.1, ())))
noncomputable abbrev U_impl_RegMachine_step : sp_impl_RegMachine_step.T → Option sq_impl_RegMachine_step.T := fun x => F_impl_RegMachine_step x.1.1 x.2.1.1.1 x.2.1.1.2.1 x.2.1.1.2.2.1 x.2.1.1.2.2.2.1 x.2.1.1.2.2.2.2.1 x.2.2.1 x.2.2.2.1
theorem e_impl_RegMachine_step : ∀ x, evCode ty (gamOf g_impl_RegMachine_step) j_impl_RegMachine_step (lamOf []) b_impl_RegMachine_step (sp_impl_RegMachine_step.hd x) (finN ty sq_impl_RegMachine_step []) = U_impl_RegMachine_step x := fun x => by kernel_rfl
theorem c_impl_RegMachine_step : FnS P 68 sp_impl_RegMachine_step sq_impl_RegMachine_step U_impl_RegMachine_step :=
  fnS_of_ev tyOk mixed gok_impl_RegMachine_step (fn := Try.f68) (by kernel_rfl) (c := b_impl_RegMachine_step) (by kernel_rfl) (by kernel_rfl) (by kernel_rfl) (lam_ok (tab := []) (by kernel_rfl) (fun p hp => by cases hp)) e_impl_RegMachine_step

/-! impl.RunRegs -/
abbrev sp_impl_RunRegs : Sp := ⟨52, [(0, .val false (.sl (.int .i64))), (1, .val false (.sl (.int .i64))), (2, .val false (.int .i64))], [], []⟩
abbrev sq_impl_RunRegs : Sp := ⟨1, [(0, .mix true [.val (.int .i64), .val (.int .i64), .fix (.own 59000), .fix (.own 59001), .val (.int .i64), .val (.int .i64), .val (.int .i64), .val .bool])], [], [(59000, (.int .i64), true), (59001, (.int .i64), true)]⟩
noncomputable def g_impl_RunRegs : List (FuncId × SumX) := [(65, cN sp_impl_WordsFault sq_impl_WordsFault U_impl_WordsFault), (66, fN sp_impl_StartRegs sq_impl_StartRegs U_impl_StartRegs), (67, cN sp_impl_within sq_impl_within U_impl_within), (68, xN sp_impl_RegMachine_step sq_impl_RegMachine_step U_impl_RegMachine_step)]
def j_impl_RunRegs : Nat → Option (List (Nat × SS)) := jOf [(10, [(38, .val false .bool)])]
theorem gok_impl_RunRegs : GOk P (gamOf g_impl_RunRegs) := gam_ok (tab := g_impl_RunRegs) (by
    intro p hp
    simp only [g_impl_RunRegs, List.mem_cons, List.not_mem_nil, or_false] at hp
    rcases hp with rfl | rfl | rfl | rfl
    · exact cN_ok c_impl_WordsFault rfl
    · exact fN_ok c_impl_StartRegs rfl
    · exact cN_ok c_impl_within rfl
    · exact xN_ok c_impl_RegMachine_step rfl)
noncomputable abbrev b_impl_RunRegs : Code := bodyOf Try.f25
abbrev sp_impl_RunRegs_l10 : Sp := ⟨52, [(0, .val false (.sl (.int .i64))), (2, .val false (.int .i64)), (6, .fix (.ptr 59000 0)), (8, .fix (.ptr 59001 0)), (9, .fix (.ptr 59001 1))], [(59000, [.val (.int .i64), .val (.int .i64), .fix .nil, .fix .nil, .val (.int .i64), .val (.int .i64), .val (.int .i64), .val .bool]), (59001, [.val (.int .i64), .val (.int .i64), .fix (.own 59000), .fix (.own 59001), .val (.int .i64), .val (.int .i64), .val (.int .i64), .val .bool])], [(59000, (.int .i64), true), (59001, (.int .i64), true)]⟩
abbrev xs_impl_RunRegs_l10 : List (Ex × Sp) := [(.exit 0, ⟨52, [(6, .fix (.ptr 59000 0)), (8, .fix (.ptr 59001 0))], [(59000, [.val (.int .i64), .val (.int .i64), .fix .nil, .fix .nil, .val (.int .i64), .val (.int .i64), .val (.int .i64), .val .bool]), (59001, [.val (.int .i64), .val (.int .i64), .fix (.own 59000), .fix (.own 59001), .val (.int .i64), .val (.int .i64), .val (.int .i64), .val .bool])], [(59000, (.int .i64), true), (59001, (.int .i64), true)]⟩)]
noncomputable def s_impl_RunRegs_l10 : sp_impl_RunRegs_l10.T → Option (sp_impl_RunRegs_l10.T ⊕ XT xs_impl_RunRegs_l10) := fun x =>
  (bif (!x.2.1.2.1.2.2.2.2.2.1) then
      (some ((x.2.1.2.1.2.2.2.2.1 == (0 : Int)), ()))
    else
    some (false, ())).bind fun y4 =>
  bif y4.1 then
    (bif (x.2.1.2.1.2.2.2.1 == x.1.2.1) then
      (some (.inr ((), ((x.2.1.1.1, (x.2.1.1.2.1, (x.2.1.1.2.2.1, (x.2.1.1.2.2.2.1, (x.2.1.1.2.2.2.2.1, (x.2.1.1.2.2.2.2.2.1, ())))))), ((x.2.1.2.1.1, (x.2.1.2.1.2.1, (x.2.1.2.1.2.2.1, (x.2.1.2.1.2.2.2.1, ((2 : Int), (x.2.1.2.1.2.2.2.2.2.1, ())))))), ())), (x.2.2.1, (x.2.2.2.1, ())))))
    else
    (F_impl_RegMachine_step x.1.1 x.2.1.2.1.2.1 x.2.1.2.1.2.2.1 x.2.1.2.1.2.2.2.1 x.2.1.2.1.2.2.2.2.1 x.2.1.2.1.2.2.2.2.2.1 x.2.2.1 x.2.2.2.1).bind fun y5 =>
    some (.inl ((x.1.1, (x.1.2.1, ())), ((x.2.1.1.1, (x.2.1.1.2.1, (x.2.1.1.2.2.1, (x.2.1.1.2.2.2.1, (x.2.1.1.2.2.2.2.1, (x.2.1.1.2.2.2.2.2.1, ())))))), ((x.2.1.2.1.1, (y5.2.1.1.1, (y5.2.1.1.2.1, (y5.2.1.1.2.2.1, (y5.2.1.1.2.2.2.1, (y5.2.1.1.2.2.2.2.1, ())))))), ())), (y5.2.2.1, (y5.2.2.2.1, ())))))
  else
  some (.inr ((), ((x.2.1.1.1, (x.2.1.1.2.1, (x.2.1.1.2.2.1, (x.2.1.1.2.2.2.1, (x.2.1.1.2.2.2.2.1, (x.2.1.1.2.2.2.2.2.1, ())))))), ((x.2.1.2.1.1, (x.2.1.2.1.2.1, (x.2.1.2.1.2.2.1, (x.2.1.2.1.2.2.2.1, (x.2.1.2.1.2.2.2.2.1, (x.2.1.2.1.2.2.2.2.2.1, ())))))), ())), (x.2.2.1, (x.2.2.2.1, ()))))
noncomputable def l_impl_RunRegs_l10 : sp_impl_RunRegs_l10.T → Option (XT xs_impl_RunRegs_l10) := lim s_impl_RunRegs_l10
theorem es_impl_RunRegs_l10 : ∀ x, evCode ty (gamOf g_impl_RunRegs) j_impl_RunRegs (lamOf []) (loopAt b_impl_RunRegs 10) (sp_impl_RunRegs_l10.hd x) (rdK sp_impl_RunRegs_l10 xs_impl_RunRegs_l10) = s_impl_RunRegs_l10 x := fun x => by kernel_rfl
theorem ls_impl_RunRegs_l10 : LSumOk P (loopAt b_impl_RunRegs 10) (loopL sp_impl_RunRegs_l10 xs_impl_RunRegs_l10 l_impl_RunRegs_l10) := loop_ok tyOk mixed gok_impl_RunRegs (by kernel_rfl) (by kernel_rfl) (lam_ok (tab := []) (by kernel_rfl) (fun p hp => by cases hp)) es_impl_RunRegs_l10 lim_itr
noncomputable def F_impl_RunRegs (x1 : K.T (.sl (.int .i64))) (x2 : K.T (.sl (.int .i64))) (x3 : K.T (.int .i64)) : Option sq_impl_RunRegs.T :=
  (F_impl_WordsFault x1).bind fun y1 =>
  bif (y1.1.1 != (0 : Int)) then
    (some (((y1.1.1, ((0 : Int), ((0 : Int), ((0 : Int), ((0 : Int), (false, ())))))), ()), (), ([], ([], ()))))
  else
  (F_impl_StartRegs x2).bind fun y2 =>
  bif (y2.1.1.1 != (0 : Int)) then
    (some (((y2.1.1.1, (y2.1.1.2.1, (y2.1.1.2.2.1, (y2.1.1.2.2.2.1, (y2.1.1.2.2.2.2.1, (y2.1.1.2.2.2.2.2.1, ())))))), ()), (), (y2.2.2.1, (y2.2.2.2.1, ()))))
  else
  (F_impl_within x3 (0 : Int) (20000 : Int)).bind fun y3 =>
  bif (!y3.1.1) then
    (some ((((3 : Int), ((0 : Int), ((0 : Int), ((0 : Int), ((0 : Int), (false, ())))))), ()), (), ([], ([], ()))))
  else
  (l_impl_RunRegs_l10 ((x1, (x3, ())), (((0 : Int), ((0 : Int), ((0 : Int), ((0 : Int), ((0 : Int), (false, ())))))), ((y2.1.1.1, (y2.1.1.2.1, (y2.1.1.2.2.1, (y2.1.1.2.2.2.1, (y2.1.1.2.2.2.2.1, (y2.1.1.2.2.2.2.2.1, ())))))), ())), (y2.2.2.1, (y2.2.2.2.1, ())))).bind fun y6 =>
  some (((y6.2.1.2.1.1, (y6.2.1.2.1.2.1, (y6.2.1.2.1.2.2.1, (y6.2.1.2.1.2.2.2.1, (y6.2.1.2.1.2.2.2.2.1, (y6.2.1.2.1.2.2.2.2.2.1, ())))))), ()), (), (y6.2.2.1, (y6.2.2.2.1, ())))
noncomputable abbrev U_impl_RunRegs : sp_impl_RunRegs.T → Option sq_impl_RunRegs.T := fun x => F_impl_RunRegs x.1.1 x.1.2.1 x.1.2.2.1
theorem e_impl_RunRegs : ∀ x, evCode ty (gamOf g_impl_RunRegs) j_impl_RunRegs (lamOf [(10, loopL sp_impl_RunRegs_l10 xs_impl_RunRegs_l10 l_impl_RunRegs_l10)]) b_impl_RunRegs (sp_impl_RunRegs.hd x) (finN ty sq_impl_RunRegs [.cell 6 51]) = U_impl_RunRegs x := fun x => by kernel_rfl
theorem c_impl_RunRegs : FnS P 25 sp_impl_RunRegs sq_impl_RunRegs U_impl_RunRegs :=
  fnS_of_ev tyOk mixed gok_impl_RunRegs (fn := Try.f25) (by kernel_rfl) (c := b_impl_RunRegs) (by kernel_rfl) (by kernel_rfl) (by kernel_rfl) (lam_ok (tab := [(10, loopL sp_impl_RunRegs_l10 xs_impl_RunRegs_l10 l_impl_RunRegs_l10)]) (by kernel_rfl) (by
    intro p hp
    simp only [List.mem_cons, List.not_mem_nil, or_false] at hp
    rcases hp with rfl
    · exact @ls_impl_RunRegs_l10)) e_impl_RunRegs

/-! laws.lwBig -/
abbrev sp_laws_lwBig : Sp := ⟨6, [(0, .val false (.sl (.int .u8)))], [], []⟩
abbrev sq_laws_lwBig : Sp := ⟨1, [(0, .val false .bool)], [], []⟩
noncomputable def g_laws_lwBig : List (FuncId × SumX) := []
def j_laws_lwBig : Nat → Option (List (Nat × SS)) := jOf []
theorem gok_laws_lwBig : GOk P (gamOf g_laws_lwBig) := gam_ok (tab := g_laws_lwBig) (fun p hp => by cases hp)
noncomputable abbrev b_laws_lwBig : Code := bodyOf Try.f29
noncomputable def F_laws_lwBig (x1 : K.T (.sl (.int .u8))) : Option sq_laws_lwBig.T :=
  some (((decide (((x1).length : Int) > (1048576 : Int))), ()), (), ())
noncomputable abbrev U_laws_lwBig : sp_laws_lwBig.T → Option sq_laws_lwBig.T := fun x => F_laws_lwBig x.1.1
theorem e_laws_lwBig : ∀ x, evCode ty (gamOf g_laws_lwBig) j_laws_lwBig (lamOf []) b_laws_lwBig (sp_laws_lwBig.hd x) (finN ty sq_laws_lwBig [.tmp 2]) = U_laws_lwBig x := fun x => by kernel_rfl
theorem c_laws_lwBig : FnS P 29 sp_laws_lwBig sq_laws_lwBig U_laws_lwBig :=
  fnS_of_ev tyOk mixed gok_laws_lwBig (fn := Try.f29) (by kernel_rfl) (c := b_laws_lwBig) (by kernel_rfl) (by kernel_rfl) (by kernel_rfl) (lam_ok (tab := []) (by kernel_rfl) (fun p hp => by cases hp)) e_laws_lwBig

/-! spec.l1Source -/
abbrev sp_spec_l1Source : Sp := ⟨6, [(0, .val false (.sl (.int .u8)))], [], []⟩
abbrev sq_spec_l1Source : Sp := ⟨1, [(0, .fix (.ptr 59000 0))], [(59000, [.val (.sl (.int .u8)), .val (.int .i64)])], []⟩
noncomputable def g_spec_l1Source : List (FuncId × SumX) := []
def j_spec_l1Source : Nat → Option (List (Nat × SS)) := jOf []
theorem gok_spec_l1Source : GOk P (gamOf g_spec_l1Source) := gam_ok (tab := g_spec_l1Source) (fun p hp => by cases hp)
noncomputable abbrev b_spec_l1Source : Code := bodyOf Try.f72
noncomputable def F_spec_l1Source (x1 : K.T (.sl (.int .u8))) : Option sq_spec_l1Source.T :=
  some ((), ((x1, ((0 : Int), ())), ()), ())
noncomputable abbrev U_spec_l1Source : sp_spec_l1Source.T → Option sq_spec_l1Source.T := fun x => F_spec_l1Source x.1.1
theorem e_spec_l1Source : ∀ x, evCode ty (gamOf g_spec_l1Source) j_spec_l1Source (lamOf []) b_spec_l1Source (sp_spec_l1Source.hd x) (finN ty sq_spec_l1Source [.tmp 2]) = U_spec_l1Source x := fun x => by kernel_rfl
theorem c_spec_l1Source : FnS P 72 sp_spec_l1Source sq_spec_l1Source U_spec_l1Source :=
  fnS_of_ev tyOk mixed gok_spec_l1Source (fn := Try.f72) (by kernel_rfl) (c := b_spec_l1Source) (by kernel_rfl) (by kernel_rfl) (by kernel_rfl) (lam_ok (tab := []) (by kernel_rfl) (fun p hp => by cases hp)) e_spec_l1Source

/-! spec.l1Next -/
abbrev sp_spec_l1Next : Sp := ⟨71, [(0, .fix (.ptr 60000 0)), (1, .val false (.int .i64))], [(60000, [.val (.sl (.int .u8)), .val (.int .i64)])], []⟩
abbrev sq_spec_l1Next : Sp := ⟨1, [(0, .val false (.int .i64))], [(60000, [.val (.sl (.int .u8)), .val (.int .i64)])], []⟩
noncomputable def g_spec_l1Next : List (FuncId × SumX) := []
def j_spec_l1Next : Nat → Option (List (Nat × SS)) := jOf []
theorem gok_spec_l1Next : GOk P (gamOf g_spec_l1Next) := gam_ok (tab := g_spec_l1Next) (fun p hp => by cases hp)
noncomputable abbrev b_spec_l1Next : Code := bodyOf Try.f76
noncomputable def F_spec_l1Next (x1 : K.T (.int .i64)) (x2 : K.T (.sl (.int .u8))) (x3 : K.T (.int .i64)) : Option sq_spec_l1Next.T :=
  bif (decide (x1 < (1 : Int))) then
    (some (((0 : Int), ()), ((x2, ((IntKind.wrap .i64 (x3 + (1 : Int))), ())), ()), ()))
  else
  bif (((x2).length : Int) == (0 : Int)) then
    (bif (x1 == 0) then none else
    some (((Int.tmod (IntKind.wrap .i64 ((IntKind.wrap .i64 ((IntKind.wrap .i64 (x3 + (1 : Int))) - (1 : Int))) * (7 : Int))) x1), ()), ((x2, ((IntKind.wrap .i64 (x3 + (1 : Int))), ())), ()), ()))
  else
  bif (((x2).length : Int) == 0) then none else
  bif ib (Int.tmod (IntKind.wrap .i64 ((IntKind.wrap .i64 (x3 + (1 : Int))) - (1 : Int))) ((x2).length : Int)) (x2).length then
  bif (((x2).length : Int) == 0) then none else
  bif (decide (x1 > (200 : Int))) then
    (bif (((x2).length : Int) == 0) then none else
    bif ib (Int.tmod (IntKind.wrap .i64 ((IntKind.wrap .i64 ((IntKind.wrap .i64 (x3 + (1 : Int))) - (1 : Int))) + (1 : Int))) ((x2).length : Int)) (x2).length then
    bif (x1 == 0) then none else
    some (((Int.tmod (IntKind.wrap .i64 ((IntKind.wrap .i64 ((IntKind.wrap .i64 ((IntKind.wrap .i64 ((IntKind.wrap .i64 ((x2).getD (Int.toNat (Int.tmod (IntKind.wrap .i64 ((IntKind.wrap .i64 (x3 + (1 : Int))) - (1 : Int))) ((x2).length : Int))) (K.zero (.int .u8)))) + (IntKind.wrap .i64 ((IntKind.wrap .i64 (Int.tdiv (IntKind.wrap .i64 ((IntKind.wrap .i64 (x3 + (1 : Int))) - (1 : Int))) ((x2).length : Int))) * (37 : Int))))) * (251 : Int))) + (IntKind.wrap .i64 ((IntKind.wrap .i64 ((x2).getD (Int.toNat (Int.tmod (IntKind.wrap .i64 ((IntKind.wrap .i64 ((IntKind.wrap .i64 (x3 + (1 : Int))) - (1 : Int))) + (1 : Int))) ((x2).length : Int))) (K.zero (.int .u8)))) * (13 : Int))))) + (IntKind.wrap .i64 ((IntKind.wrap .i64 (x3 + (1 : Int))) - (1 : Int))))) x1), ()), ((x2, ((IntKind.wrap .i64 (x3 + (1 : Int))), ())), ()), ())
    else none)
  else
  bif (x1 == 0) then none else
  some (((Int.tmod (IntKind.wrap .i64 ((IntKind.wrap .i64 ((x2).getD (Int.toNat (Int.tmod (IntKind.wrap .i64 ((IntKind.wrap .i64 (x3 + (1 : Int))) - (1 : Int))) ((x2).length : Int))) (K.zero (.int .u8)))) + (IntKind.wrap .i64 ((IntKind.wrap .i64 (Int.tdiv (IntKind.wrap .i64 ((IntKind.wrap .i64 (x3 + (1 : Int))) - (1 : Int))) ((x2).length : Int))) * (37 : Int))))) x1), ()), ((x2, ((IntKind.wrap .i64 (x3 + (1 : Int))), ())), ()), ())
  else none
noncomputable abbrev U_spec_l1Next : sp_spec_l1Next.T → Option sq_spec_l1Next.T := fun x => F_spec_l1Next x.1.1 x.2.1.1.1 x.2.1.1.2.1
theorem e_spec_l1Next : ∀ x, evCode ty (gamOf g_spec_l1Next) j_spec_l1Next (lamOf []) b_spec_l1Next (sp_spec_l1Next.hd x) (finN ty sq_spec_l1Next [.tmp 4]) = U_spec_l1Next x := fun x => by kernel_rfl
theorem c_spec_l1Next : FnS P 76 sp_spec_l1Next sq_spec_l1Next U_spec_l1Next :=
  fnS_of_ev tyOk mixed gok_spec_l1Next (fn := Try.f76) (by kernel_rfl) (c := b_spec_l1Next) (by kernel_rfl) (by kernel_rfl) (by kernel_rfl) (lam_ok (tab := []) (by kernel_rfl) (fun p hp => by cases hp)) e_spec_l1Next

/-! spec.l1Pick -/
abbrev sp_spec_l1Pick : Sp := ⟨12, [(0, .fix (.ptr 60000 0)), (1, .val false (.sl (.int .i64)))], [(60000, [.val (.sl (.int .u8)), .val (.int .i64)])], []⟩
abbrev sq_spec_l1Pick : Sp := ⟨1, [(0, .val false (.int .i64))], [(60000, [.val (.sl (.int .u8)), .val (.int .i64)])], []⟩
noncomputable def g_spec_l1Pick : List (FuncId × SumX) := [(76, xN sp_spec_l1Next sq_spec_l1Next U_spec_l1Next)]
def j_spec_l1Pick : Nat → Option (List (Nat × SS)) := jOf []
theorem gok_spec_l1Pick : GOk P (gamOf g_spec_l1Pick) := gam_ok (tab := g_spec_l1Pick) (by
    intro p hp
    simp only [g_spec_l1Pick, List.mem_cons, List.not_mem_nil, or_false] at hp
    rcases hp with rfl
    · exact xN_ok c_spec_l1Next rfl)
noncomputable abbrev b_spec_l1Pick : Code := bodyOf Try.f75
noncomputable def F_spec_l1Pick (x1 : K.T (.sl (.int .i64))) (x2 : K.T (.sl (.int .u8))) (x3 : K.T (.int .i64)) : Option sq_spec_l1Pick.T :=
  (F_spec_l1Next ((x1).length : Int) x2 x3).bind fun y1 =>
  bif ib y1.1.1 (x1).length then
  some ((((x1).getD (Int.toNat y1.1.1) (K.zero (.int .i64))), ()), ((y1.2.1.1.1, (y1.2.1.1.2.1, ())), ()), ())
  else none
noncomputable abbrev U_spec_l1Pick : sp_spec_l1Pick.T → Option sq_spec_l1Pick.T := fun x => F_spec_l1Pick x.1.1 x.2.1.1.1 x.2.1.1.2.1
theorem e_spec_l1Pick : ∀ x, evCode ty (gamOf g_spec_l1Pick) j_spec_l1Pick (lamOf []) b_spec_l1Pick (sp_spec_l1Pick.hd x) (finN ty sq_spec_l1Pick [.tmp 4]) = U_spec_l1Pick x := fun x => by kernel_rfl
theorem c_spec_l1Pick : FnS P 75 sp_spec_l1Pick sq_spec_l1Pick U_spec_l1Pick :=
  fnS_of_ev tyOk mixed gok_spec_l1Pick (fn := Try.f75) (by kernel_rfl) (c := b_spec_l1Pick) (by kernel_rfl) (by kernel_rfl) (by kernel_rfl) (lam_ok (tab := []) (by kernel_rfl) (fun p hp => by cases hp)) e_spec_l1Pick

/-! spec.l1Chance -/
abbrev sp_spec_l1Chance : Sp := ⟨9, [(0, .fix (.ptr 60000 0)), (1, .val false (.int .i64))], [(60000, [.val (.sl (.int .u8)), .val (.int .i64)])], []⟩
abbrev sq_spec_l1Chance : Sp := ⟨1, [(0, .val false .bool)], [(60000, [.val (.sl (.int .u8)), .val (.int .i64)])], []⟩
noncomputable def g_spec_l1Chance : List (FuncId × SumX) := [(76, xN sp_spec_l1Next sq_spec_l1Next U_spec_l1Next)]
def j_spec_l1Chance : Nat → Option (List (Nat × SS)) := jOf []
theorem gok_spec_l1Chance : GOk P (gamOf g_spec_l1Chance) := gam_ok (tab := g_spec_l1Chance) (by
    intro p hp
    simp only [g_spec_l1Chance, List.mem_cons, List.not_mem_nil, or_false] at hp
    rcases hp with rfl
    · exact xN_ok c_spec_l1Next rfl)
noncomputable abbrev b_spec_l1Chance : Code := bodyOf Try.f107
noncomputable def F_spec_l1Chance (x1 : K.T (.int .i64)) (x2 : K.T (.sl (.int .u8))) (x3 : K.T (.int .i64)) : Option sq_spec_l1Chance.T :=
  (F_spec_l1Next x1 x2 x3).bind fun y1 =>
  some (((y1.1.1 == (0 : Int)), ()), ((y1.2.1.1.1, (y1.2.1.1.2.1, ())), ()), ())
noncomputable abbrev U_spec_l1Chance : sp_spec_l1Chance.T → Option sq_spec_l1Chance.T := fun x => F_spec_l1Chance x.1.1 x.2.1.1.1 x.2.1.1.2.1
theorem e_spec_l1Chance : ∀ x, evCode ty (gamOf g_spec_l1Chance) j_spec_l1Chance (lamOf []) b_spec_l1Chance (sp_spec_l1Chance.hd x) (finN ty sq_spec_l1Chance [.tmp 4]) = U_spec_l1Chance x := fun x => by kernel_rfl
theorem c_spec_l1Chance : FnS P 107 sp_spec_l1Chance sq_spec_l1Chance U_spec_l1Chance :=
  fnS_of_ev tyOk mixed gok_spec_l1Chance (fn := Try.f107) (by kernel_rfl) (c := b_spec_l1Chance) (by kernel_rfl) (by kernel_rfl) (by kernel_rfl) (lam_ok (tab := []) (by kernel_rfl) (fun p hp => by cases hp)) e_spec_l1Chance

/-! spec.l1DrawWord -/
abbrev sp_spec_l1DrawWord : Sp := ⟨14, [(0, .fix (.ptr 60000 0))], [(60000, [.val (.sl (.int .u8)), .val (.int .i64)])], []⟩
abbrev sq_spec_l1DrawWord : Sp := ⟨1, [(0, .val false (.int .i64))], [(60000, [.val (.sl (.int .u8)), .val (.int .i64)])], []⟩
noncomputable def g_spec_l1DrawWord : List (FuncId × SumX) := [(75, xN sp_spec_l1Pick sq_spec_l1Pick U_spec_l1Pick), (76, xN sp_spec_l1Next sq_spec_l1Next U_spec_l1Next)]
def j_spec_l1DrawWord : Nat → Option (List (Nat × SS)) := jOf []
theorem gok_spec_l1DrawWord : GOk P (gamOf g_spec_l1DrawWord) := gam_ok (tab := g_spec_l1DrawWord) (by
    intro p hp
    simp only [g_spec_l1DrawWord, List.mem_cons, List.not_mem_nil, or_false] at hp
    rcases hp with rfl | rfl
    · exact xN_ok c_spec_l1Pick rfl
    · exact xN_ok c_spec_l1Next rfl)
noncomputable abbrev b_spec_l1DrawWord : Code := bodyOf Try.f109
noncomputable def F_spec_l1DrawWord (x1 : K.T (.sl (.int .u8))) (x2 : K.T (.int .i64)) : Option sq_spec_l1DrawWord.T :=
  (F_spec_l1Next (90 : Int) x1 x2).bind fun y1 =>
  (F_spec_l1Next (256 : Int) y1.2.1.1.1 y1.2.1.1.2.1).bind fun y2 =>
  (F_spec_l1Next (9 : Int) y2.2.1.1.1 y2.2.1.1.2.1).bind fun y3 =>
  (F_spec_l1Pick [y1.1.1, (IntKind.wrap .i64 (y2.1.1 * (257 : Int))), (IntKind.wrap .i64 ((65535 : Int) - y3.1.1)), (32768 : Int), (32767 : Int), (0 : Int)] y3.2.1.1.1 y3.2.1.1.2.1).bind fun y4 =>
  some ((y4.1.1, ()), ((y4.2.1.1.1, (y4.2.1.1.2.1, ())), ()), ())
noncomputable abbrev U_spec_l1DrawWord : sp_spec_l1DrawWord.T → Option sq_spec_l1DrawWord.T := fun x => F_spec_l1DrawWord x.2.1.1.1 x.2.1.1.2.1
theorem e_spec_l1DrawWord : ∀ x, evCode ty (gamOf g_spec_l1DrawWord) j_spec_l1DrawWord (lamOf []) b_spec_l1DrawWord (sp_spec_l1DrawWord.hd x) (finN ty sq_spec_l1DrawWord [.tmp 2]) = U_spec_l1DrawWord x := fun x => by kernel_rfl
theorem c_spec_l1DrawWord : FnS P 109 sp_spec_l1DrawWord sq_spec_l1DrawWord U_spec_l1DrawWord :=
  fnS_of_ev tyOk mixed gok_spec_l1DrawWord (fn := Try.f109) (by kernel_rfl) (c := b_spec_l1DrawWord) (by kernel_rfl) (by kernel_rfl) (by kernel_rfl) (lam_ok (tab := []) (by kernel_rfl) (fun p hp => by cases hp)) e_spec_l1DrawWord

/-! spec.l1Words -/
abbrev sp_spec_l1Words : Sp := ⟨42, [(0, .fix (.ptr 60000 0))], [(60000, [.val (.sl (.int .u8)), .val (.int .i64)])], []⟩
abbrev sq_spec_l1Words : Sp := ⟨1, [(0, .fix (.own 59000))], [(60000, [.val (.sl (.int .u8)), .val (.int .i64)])], [(59000, (.int .i64), true)]⟩
noncomputable def g_spec_l1Words : List (FuncId × SumX) := [(75, xN sp_spec_l1Pick sq_spec_l1Pick U_spec_l1Pick), (76, xN sp_spec_l1Next sq_spec_l1Next U_spec_l1Next), (109, xN sp_spec_l1DrawWord sq_spec_l1DrawWord U_spec_l1DrawWord)]
def j_spec_l1Words : Nat → Option (List (Nat × SS)) := jOf []
theorem gok_spec_l1Words : GOk P (gamOf g_spec_l1Words) := gam_ok (tab := g_spec_l1Words) (by
    intro p hp
    simp only [g_spec_l1Words, List.mem_cons, List.not_mem_nil, or_false] at hp
    rcases hp with rfl | rfl | rfl
    · exact xN_ok c_spec_l1Pick rfl
    · exact xN_ok c_spec_l1Next rfl
    · exact xN_ok c_spec_l1DrawWord rfl)
noncomputable abbrev b_spec_l1Words : Code := bodyOf Try.f108
abbrev sp_spec_l1Words_l3 : Sp := ⟨42, [(0, .fix (.ptr 60000 0)), (3, .fix (.own 59000)), (4, .val false (.int .i64))], [(60000, [.val (.sl (.int .u8)), .val (.int .i64)])], [(59000, (.int .i64), true)]⟩
abbrev xs_spec_l1Words_l3 : List (Ex × Sp) := [(.exit 0, ⟨42, [(0, .fix (.ptr 60000 0)), (3, .fix (.own 59000))], [(60000, [.val (.sl (.int .u8)), .val (.int .i64)])], [(59000, (.int .i64), true)]⟩)]
noncomputable def s_spec_l1Words_l3 : sp_spec_l1Words_l3.T → Option (sp_spec_l1Words_l3.T ⊕ XT xs_spec_l1Words_l3) := fun x =>
  bif (decide (x.1.1 > (0 : Int))) then
    ((F_spec_l1DrawWord x.2.1.1.1 x.2.1.1.2.1).bind fun y4 =>
    bif room (x.2.2.1 ++ [y4.1.1]).length 8 then
    some (.inl (((IntKind.wrap .i64 (x.1.1 - (1 : Int))), ()), ((y4.2.1.1.1, (y4.2.1.1.2.1, ())), ()), ((x.2.2.1 ++ [y4.1.1]), ())))
    else none)
  else
  some (.inr ((), ((x.2.1.1.1, (x.2.1.1.2.1, ())), ()), (x.2.2.1, ())))
noncomputable def l_spec_l1Words_l3 : sp_spec_l1Words_l3.T → Option (XT xs_spec_l1Words_l3) := lim s_spec_l1Words_l3
theorem es_spec_l1Words_l3 : ∀ x, evCode ty (gamOf g_spec_l1Words) j_spec_l1Words (lamOf []) (loopAt b_spec_l1Words 3) (sp_spec_l1Words_l3.hd x) (rdK sp_spec_l1Words_l3 xs_spec_l1Words_l3) = s_spec_l1Words_l3 x := fun x => by kernel_rfl
theorem ls_spec_l1Words_l3 : LSumOk P (loopAt b_spec_l1Words 3) (loopL sp_spec_l1Words_l3 xs_spec_l1Words_l3 l_spec_l1Words_l3) := loop_ok tyOk mixed gok_spec_l1Words (by kernel_rfl) (by kernel_rfl) (lam_ok (tab := []) (by kernel_rfl) (fun p hp => by cases hp)) es_spec_l1Words_l3 lim_itr
noncomputable def F_spec_l1Words (x1 : K.T (.sl (.int .u8))) (x2 : K.T (.int .i64)) : Option sq_spec_l1Words.T :=
  (F_spec_l1Next (9 : Int) x1 x2).bind fun y1 =>
  (F_spec_l1Next (30 : Int) y1.2.1.1.1 y1.2.1.1.2.1).bind fun y2 =>
  (F_spec_l1Pick [y1.1.1, y2.1.1, (400 : Int)] y2.2.1.1.1 y2.2.1.1.2.1).bind fun y3 =>
  (l_spec_l1Words_l3 ((y3.1.1, ()), ((y3.2.1.1.1, (y3.2.1.1.2.1, ())), ()), ([], ()))).bind fun y5 =>
  (F_spec_l1Next (14 : Int) y5.2.1.1.1 y5.2.1.1.2.1).bind fun y6 =>
  bif (y6.1.1 == (0 : Int)) then
    (bif (decide (((y5.2.2.1).length : Int) > (0 : Int))) then
      ((F_spec_l1Next ((y5.2.2.1).length : Int) y6.2.1.1.1 y6.2.1.1.2.1).bind fun y7 =>
      (F_spec_l1Pick [(-1 : Int), (65536 : Int)] y7.2.1.1.1 y7.2.1.1.2.1).bind fun y8 =>
      bif ib y7.1.1 (y5.2.2.1).length then
      some ((), ((y8.2.1.1.1, (y8.2.1.1.2.1, ())), ()), ((y5.2.2.1).set (Int.toNat y7.1.1) y8.1.1, ()))
      else none)
    else
    some ((), ((y6.2.1.1.1, (y6.2.1.1.2.1, ())), ()), (y5.2.2.1, ())))
  else
  bif (y6.1.1 == (1 : Int)) then
    (some ((), ((y6.2.1.1.1, (y6.2.1.1.2.1, ())), ()), ((List.replicate (Int.toNat (401 : Int)) (K.zero (.int .i64))), ())))
  else
  some ((), ((y6.2.1.1.1, (y6.2.1.1.2.1, ())), ()), (y5.2.2.1, ()))
noncomputable abbrev U_spec_l1Words : sp_spec_l1Words.T → Option sq_spec_l1Words.T := fun x => F_spec_l1Words x.2.1.1.1 x.2.1.1.2.1
theorem e_spec_l1Words : ∀ x, evCode ty (gamOf g_spec_l1Words) j_spec_l1Words (lamOf [(3, loopL sp_spec_l1Words_l3 xs_spec_l1Words_l3 l_spec_l1Words_l3)]) b_spec_l1Words (sp_spec_l1Words.hd x) (finN ty sq_spec_l1Words [.tmp 2]) = U_spec_l1Words x := fun x => by kernel_rfl
theorem c_spec_l1Words : FnS P 108 sp_spec_l1Words sq_spec_l1Words U_spec_l1Words :=
  fnS_of_ev tyOk mixed gok_spec_l1Words (fn := Try.f108) (by kernel_rfl) (c := b_spec_l1Words) (by kernel_rfl) (by kernel_rfl) (by kernel_rfl) (lam_ok (tab := [(3, loopL sp_spec_l1Words_l3 xs_spec_l1Words_l3 l_spec_l1Words_l3)]) (by kernel_rfl) (by
    intro p hp
    simp only [List.mem_cons, List.not_mem_nil, or_false] at hp
    rcases hp with rfl
    · exact @ls_spec_l1Words_l3)) e_spec_l1Words

/-! spec.l10Code -/
abbrev sp_spec_l10Code : Sp := ⟨55, [(0, .fix (.ptr 60000 0))], [(60000, [.val (.sl (.int .u8)), .val (.int .i64)])], []⟩
abbrev sq_spec_l10Code : Sp := ⟨1, [(0, .fix (.own 59000))], [(60000, [.val (.sl (.int .u8)), .val (.int .i64)])], [(59000, (.int .i64), true)]⟩
noncomputable def g_spec_l10Code : List (FuncId × SumX) := [(75, xN sp_spec_l1Pick sq_spec_l1Pick U_spec_l1Pick), (76, xN sp_spec_l1Next sq_spec_l1Next U_spec_l1Next), (106, cN sp_spec_l10Args sq_spec_l10Args U_spec_l10Args), (107, xN sp_spec_l1Chance sq_spec_l1Chance U_spec_l1Chance), (108, xN sp_spec_l1Words sq_spec_l1Words U_spec_l1Words)]
def j_spec_l10Code : Nat → Option (List (Nat × SS)) := jOf []
theorem gok_spec_l10Code : GOk P (gamOf g_spec_l10Code) := gam_ok (tab := g_spec_l10Code) (by
    intro p hp
    simp only [g_spec_l10Code, List.mem_cons, List.not_mem_nil, or_false] at hp
    rcases hp with rfl | rfl | rfl | rfl | rfl
    · exact xN_ok c_spec_l1Pick rfl
    · exact xN_ok c_spec_l1Next rfl
    · exact cN_ok c_spec_l10Args rfl
    · exact xN_ok c_spec_l1Chance rfl
    · exact xN_ok c_spec_l1Words rfl)
noncomputable abbrev b_spec_l10Code : Code := bodyOf Try.f73
abbrev sp_spec_l10Code_l8 : Sp := ⟨55, [(0, .fix (.ptr 60000 0)), (3, .fix (.own 59000)), (4, .val false (.int .i64)), (5, .val false (.int .i64)), (6, .val false (.int .i64))], [(60000, [.val (.sl (.int .u8)), .val (.int .i64)])], [(59000, (.int .i64), true)]⟩
abbrev xs_spec_l10Code_l8 : List (Ex × Sp) := [(.exit 2, ⟨55, [(0, .fix (.ptr 60000 0)), (3, .fix (.own 59000)), (4, .val false (.int .i64))], [(60000, [.val (.sl (.int .u8)), .val (.int .i64)])], [(59000, (.int .i64), true)]⟩)]
noncomputable def s_spec_l10Code_l8 : sp_spec_l10Code_l8.T → Option (sp_spec_l10Code_l8.T ⊕ XT xs_spec_l10Code_l8) := fun x =>
  (F_spec_l10Args x.1.2.1).bind fun y3 =>
  bif (decide (x.1.2.2.1 < y3.1.1)) then
    ((F_spec_l1Next (6 : Int) x.2.1.1.1 x.2.1.1.2.1).bind fun y4 =>
    (F_spec_l1Next (4 : Int) y4.2.1.1.1 y4.2.1.1.2.1).bind fun y5 =>
    (F_spec_l1Next (20 : Int) y5.2.1.1.1 y5.2.1.1.2.1).bind fun y6 =>
    (F_spec_l1Next (5 : Int) y6.2.1.1.1 y6.2.1.1.2.1).bind fun y7 =>
    (F_spec_l1Next (2 : Int) y7.2.1.1.1 y7.2.1.1.2.1).bind fun y8 =>
    (F_spec_l1Pick [y4.1.1, y5.1.1, y6.1.1, (IntKind.wrap .i64 ((65535 : Int) - (IntKind.wrap .i64 (y7.1.1 * y8.1.1))))] y8.2.1.1.1 y8.2.1.1.2.1).bind fun y9 =>
    bif room (x.2.2.1 ++ [y9.1.1]).length 8 then
    some (.inl ((x.1.1, (x.1.2.1, ((IntKind.wrap .i64 (x.1.2.2.1 + (1 : Int))), ()))), ((y9.2.1.1.1, (y9.2.1.1.2.1, ())), ()), ((x.2.2.1 ++ [y9.1.1]), ())))
    else none)
  else
  some (.inr ((x.1.1, ()), ((x.2.1.1.1, (x.2.1.1.2.1, ())), ()), (x.2.2.1, ())))
noncomputable def l_spec_l10Code_l8 : sp_spec_l10Code_l8.T → Option (XT xs_spec_l10Code_l8) := lim s_spec_l10Code_l8
theorem es_spec_l10Code_l8 : ∀ x, evCode ty (gamOf g_spec_l10Code) j_spec_l10Code (lamOf []) (loopAt (loopAt b_spec_l10Code 3) 8) (sp_spec_l10Code_l8.hd x) (rdK sp_spec_l10Code_l8 xs_spec_l10Code_l8) = s_spec_l10Code_l8 x := fun x => by kernel_rfl
theorem ls_spec_l10Code_l8 : LSumOk P (loopAt (loopAt b_spec_l10Code 3) 8) (loopL sp_spec_l10Code_l8 xs_spec_l10Code_l8 l_spec_l10Code_l8) := loop_ok tyOk mixed gok_spec_l10Code (by kernel_rfl) (by kernel_rfl) (lam_ok (tab := []) (by kernel_rfl) (fun p hp => by cases hp)) es_spec_l10Code_l8 lim_itr
abbrev sp_spec_l10Code_l3 : Sp := ⟨55, [(0, .fix (.ptr 60000 0)), (3, .fix (.own 59000)), (4, .val false (.int .i64))], [(60000, [.val (.sl (.int .u8)), .val (.int .i64)])], [(59000, (.int .i64), true)]⟩
abbrev xs_spec_l10Code_l3 : List (Ex × Sp) := [(.exit 0, ⟨55, [(0, .fix (.ptr 60000 0)), (3, .fix (.own 59000))], [(60000, [.val (.sl (.int .u8)), .val (.int .i64)])], [(59000, (.int .i64), true)]⟩)]
noncomputable def s_spec_l10Code_l3 : sp_spec_l10Code_l3.T → Option (sp_spec_l10Code_l3.T ⊕ XT xs_spec_l10Code_l3) := fun x =>
  bif (decide (x.1.1 > (0 : Int))) then
    ((F_spec_l1Next (13 : Int) x.2.1.1.1 x.2.1.1.2.1).bind fun y2 =>
    bif room (x.2.2.1 ++ [(IntKind.wrap .i64 ((1 : Int) + y2.1.1))]).length 8 then
    (l_spec_l10Code_l8 ((x.1.1, ((IntKind.wrap .i64 ((1 : Int) + y2.1.1)), ((0 : Int), ()))), ((y2.2.1.1.1, (y2.2.1.1.2.1, ())), ()), ((x.2.2.1 ++ [(IntKind.wrap .i64 ((1 : Int) + y2.1.1))]), ()))).bind fun y10 =>
    some (.inl (((IntKind.wrap .i64 (y10.1.1 - (1 : Int))), ()), ((y10.2.1.1.1, (y10.2.1.1.2.1, ())), ()), (y10.2.2.1, ())))
    else none)
  else
  some (.inr ((), ((x.2.1.1.1, (x.2.1.1.2.1, ())), ()), (x.2.2.1, ())))
noncomputable def l_spec_l10Code_l3 : sp_spec_l10Code_l3.T → Option (XT xs_spec_l10Code_l3) := lim s_spec_l10Code_l3
theorem es_spec_l10Code_l3 : ∀ x, evCode ty (gamOf g_spec_l10Code) j_spec_l10Code (lamOf [(8, loopL sp_spec_l10Code_l8 xs_spec_l10Code_l8 l_spec_l10Code_l8)]) (loopAt b_spec_l10Code 3) (sp_spec_l10Code_l3.hd x) (rdK sp_spec_l10Code_l3 xs_spec_l10Code_l3) = s_spec_l10Code_l3 x := fun x => by kernel_rfl
theorem ls_spec_l10Code_l3 : LSumOk P (loopAt b_spec_l10Code 3) (loopL sp_spec_l10Code_l3 xs_spec_l10Code_l3 l_spec_l10Code_l3) := loop_ok tyOk mixed gok_spec_l10Code (by kernel_rfl) (by kernel_rfl) (lam_ok (tab := [(8, loopL sp_spec_l10Code_l8 xs_spec_l10Code_l8 l_spec_l10Code_l8)]) (by kernel_rfl) (by
    intro p hp
    simp only [List.mem_cons, List.not_mem_nil, or_false] at hp
    rcases hp with rfl
    · exact @ls_spec_l10Code_l8)) es_spec_l10Code_l3 lim_itr
noncomputable def F_spec_l10Code (x1 : K.T (.sl (.int .u8))) (x2 : K.T (.int .i64)) : Option sq_spec_l10Code.T :=
  (F_spec_l1Next (14 : Int) x1 x2).bind fun y1 =>
  (l_spec_l10Code_l3 ((y1.1.1, ()), ((y1.2.1.1.1, (y1.2.1.1.2.1, ())), ()), ([], ()))).bind fun y11 =>
  (F_spec_l1Chance (2 : Int) y11.2.1.1.1 y11.2.1.1.2.1).bind fun y12 =>
  bif y12.1.1 then
    (bif room (y11.2.2.1 ++ [(13 : Int)]).length 8 then
    (F_spec_l1Chance (14 : Int) y12.2.1.1.1 y12.2.1.1.2.1).bind fun y13 =>
    bif y13.1.1 then
      ((F_spec_l1Words y13.2.1.1.1 y13.2.1.1.2.1).bind fun y14 =>
      some ((), ((y14.2.1.1.1, (y14.2.1.1.2.1, ())), ()), (y14.2.2.1, ())))
    else
    some ((), ((y13.2.1.1.1, (y13.2.1.1.2.1, ())), ()), ((y11.2.2.1 ++ [(13 : Int)]), ()))
    else none)
  else
  (F_spec_l1Chance (14 : Int) y12.2.1.1.1 y12.2.1.1.2.1).bind fun y15 =>
  bif y15.1.1 then
    ((F_spec_l1Words y15.2.1.1.1 y15.2.1.1.2.1).bind fun y16 =>
    some ((), ((y16.2.1.1.1, (y16.2.1.1.2.1, ())), ()), (y16.2.2.1, ())))
  else
  some ((), ((y15.2.1.1.1, (y15.2.1.1.2.1, ())), ()), (y11.2.2.1, ()))
noncomputable abbrev U_spec_l10Code : sp_spec_l10Code.T → Option sq_spec_l10Code.T := fun x => F_spec_l10Code x.2.1.1.1 x.2.1.1.2.1
theorem e_spec_l10Code : ∀ x, evCode ty (gamOf g_spec_l10Code) j_spec_l10Code (lamOf [(3, loopL sp_spec_l10Code_l3 xs_spec_l10Code_l3 l_spec_l10Code_l3)]) b_spec_l10Code (sp_spec_l10Code.hd x) (finN ty sq_spec_l10Code [.tmp 2]) = U_spec_l10Code x := fun x => by kernel_rfl
theorem c_spec_l10Code : FnS P 73 sp_spec_l10Code sq_spec_l10Code U_spec_l10Code :=
  fnS_of_ev tyOk mixed gok_spec_l10Code (fn := Try.f73) (by kernel_rfl) (c := b_spec_l10Code) (by kernel_rfl) (by kernel_rfl) (by kernel_rfl) (lam_ok (tab := [(3, loopL sp_spec_l10Code_l3 xs_spec_l10Code_l3 l_spec_l10Code_l3)]) (by kernel_rfl) (by
    intro p hp
    simp only [List.mem_cons, List.not_mem_nil, or_false] at hp
    rcases hp with rfl
    · exact @ls_spec_l10Code_l3)) e_spec_l10Code

/-! spec.l8Cells -/
abbrev sp_spec_l8Cells : Sp := ⟨36, [(0, .fix (.ptr 60000 0))], [(60000, [.val (.sl (.int .u8)), .val (.int .i64)])], []⟩
abbrev sq_spec_l8Cells : Sp := ⟨1, [(0, .fix (.own 59000))], [(60000, [.val (.sl (.int .u8)), .val (.int .i64)])], [(59000, (.int .i64), true)]⟩
noncomputable def g_spec_l8Cells : List (FuncId × SumX) := [(75, xN sp_spec_l1Pick sq_spec_l1Pick U_spec_l1Pick), (76, xN sp_spec_l1Next sq_spec_l1Next U_spec_l1Next), (109, xN sp_spec_l1DrawWord sq_spec_l1DrawWord U_spec_l1DrawWord)]
def j_spec_l8Cells : Nat → Option (List (Nat × SS)) := jOf []
theorem gok_spec_l8Cells : GOk P (gamOf g_spec_l8Cells) := gam_ok (tab := g_spec_l8Cells) (by
    intro p hp
    simp only [g_spec_l8Cells, List.mem_cons, List.not_mem_nil, or_false] at hp
    rcases hp with rfl | rfl | rfl
    · exact xN_ok c_spec_l1Pick rfl
    · exact xN_ok c_spec_l1Next rfl
    · exact xN_ok c_spec_l1DrawWord rfl)
noncomputable abbrev b_spec_l8Cells : Code := bodyOf Try.f74
abbrev sp_spec_l8Cells_l3 : Sp := ⟨36, [(0, .fix (.ptr 60000 0)), (3, .fix (.own 59000)), (4, .val false (.int .i64))], [(60000, [.val (.sl (.int .u8)), .val (.int .i64)])], [(59000, (.int .i64), true)]⟩
abbrev xs_spec_l8Cells_l3 : List (Ex × Sp) := [(.exit 0, ⟨36, [(0, .fix (.ptr 60000 0)), (3, .fix (.own 59000))], [(60000, [.val (.sl (.int .u8)), .val (.int .i64)])], [(59000, (.int .i64), true)]⟩)]
noncomputable def s_spec_l8Cells_l3 : sp_spec_l8Cells_l3.T → Option (sp_spec_l8Cells_l3.T ⊕ XT xs_spec_l8Cells_l3) := fun x =>
  bif (decide (x.1.1 > (0 : Int))) then
    ((F_spec_l1Next (5 : Int) x.2.1.1.1 x.2.1.1.2.1).bind fun y2 =>
    (F_spec_l1DrawWord y2.2.1.1.1 y2.2.1.1.2.1).bind fun y3 =>
    (F_spec_l1Pick [y2.1.1, y3.1.1] y3.2.1.1.1 y3.2.1.1.2.1).bind fun y4 =>
    bif room (x.2.2.1 ++ [y4.1.1]).length 8 then
    some (.inl (((IntKind.wrap .i64 (x.1.1 - (1 : Int))), ()), ((y4.2.1.1.1, (y4.2.1.1.2.1, ())), ()), ((x.2.2.1 ++ [y4.1.1]), ())))
    else none)
  else
  some (.inr ((), ((x.2.1.1.1, (x.2.1.1.2.1, ())), ()), (x.2.2.1, ())))
noncomputable def l_spec_l8Cells_l3 : sp_spec_l8Cells_l3.T → Option (XT xs_spec_l8Cells_l3) := lim s_spec_l8Cells_l3
theorem es_spec_l8Cells_l3 : ∀ x, evCode ty (gamOf g_spec_l8Cells) j_spec_l8Cells (lamOf []) (loopAt b_spec_l8Cells 3) (sp_spec_l8Cells_l3.hd x) (rdK sp_spec_l8Cells_l3 xs_spec_l8Cells_l3) = s_spec_l8Cells_l3 x := fun x => by kernel_rfl
theorem ls_spec_l8Cells_l3 : LSumOk P (loopAt b_spec_l8Cells 3) (loopL sp_spec_l8Cells_l3 xs_spec_l8Cells_l3 l_spec_l8Cells_l3) := loop_ok tyOk mixed gok_spec_l8Cells (by kernel_rfl) (by kernel_rfl) (lam_ok (tab := []) (by kernel_rfl) (fun p hp => by cases hp)) es_spec_l8Cells_l3 lim_itr
noncomputable def F_spec_l8Cells (x1 : K.T (.sl (.int .u8))) (x2 : K.T (.int .i64)) : Option sq_spec_l8Cells.T :=
  (F_spec_l1Next (8 : Int) x1 x2).bind fun y1 =>
  (l_spec_l8Cells_l3 ((y1.1.1, ()), ((y1.2.1.1.1, (y1.2.1.1.2.1, ())), ()), ([], ()))).bind fun y5 =>
  (F_spec_l1Next (20 : Int) y5.2.1.1.1 y5.2.1.1.2.1).bind fun y6 =>
  bif (y6.1.1 == (0 : Int)) then
    ((F_spec_l1Pick [(-1 : Int), (65536 : Int)] y6.2.1.1.1 y6.2.1.1.2.1).bind fun y7 =>
    bif room (y5.2.2.1 ++ [y7.1.1]).length 8 then
    some ((), ((y7.2.1.1.1, (y7.2.1.1.2.1, ())), ()), ((y5.2.2.1 ++ [y7.1.1]), ()))
    else none)
  else
  bif (y6.1.1 == (1 : Int)) then
    (some ((), ((y6.2.1.1.1, (y6.2.1.1.2.1, ())), ()), ((List.replicate (Int.toNat (81 : Int)) (K.zero (.int .i64))), ())))
  else
  some ((), ((y6.2.1.1.1, (y6.2.1.1.2.1, ())), ()), (y5.2.2.1, ()))
noncomputable abbrev U_spec_l8Cells : sp_spec_l8Cells.T → Option sq_spec_l8Cells.T := fun x => F_spec_l8Cells x.2.1.1.1 x.2.1.1.2.1
theorem e_spec_l8Cells : ∀ x, evCode ty (gamOf g_spec_l8Cells) j_spec_l8Cells (lamOf [(3, loopL sp_spec_l8Cells_l3 xs_spec_l8Cells_l3 l_spec_l8Cells_l3)]) b_spec_l8Cells (sp_spec_l8Cells.hd x) (finN ty sq_spec_l8Cells [.tmp 2]) = U_spec_l8Cells x := fun x => by kernel_rfl
theorem c_spec_l8Cells : FnS P 74 sp_spec_l8Cells sq_spec_l8Cells U_spec_l8Cells :=
  fnS_of_ev tyOk mixed gok_spec_l8Cells (fn := Try.f74) (by kernel_rfl) (c := b_spec_l8Cells) (by kernel_rfl) (by kernel_rfl) (by kernel_rfl) (lam_ok (tab := [(3, loopL sp_spec_l8Cells_l3 xs_spec_l8Cells_l3 l_spec_l8Cells_l3)]) (by kernel_rfl) (by
    intro p hp
    simp only [List.mem_cons, List.not_mem_nil, or_false] at hp
    rcases hp with rfl
    · exact @ls_spec_l8Cells_l3)) e_spec_l8Cells

/-! spec.DrawRunRegs -/
abbrev sp_spec_DrawRunRegs : Sp := ⟨21, [(0, .val false (.sl (.int .u8)))], [], []⟩
abbrev sq_spec_DrawRunRegs : Sp := ⟨3, [(0, .val false (.sl (.int .i64))), (1, .val false (.sl (.int .i64))), (2, .val false (.int .i64))], [], []⟩
noncomputable def g_spec_DrawRunRegs : List (FuncId × SumX) := [(72, xN sp_spec_l1Source sq_spec_l1Source U_spec_l1Source), (73, xN sp_spec_l10Code sq_spec_l10Code U_spec_l10Code), (74, xN sp_spec_l8Cells sq_spec_l8Cells U_spec_l8Cells), (75, xN sp_spec_l1Pick sq_spec_l1Pick U_spec_l1Pick), (76, xN sp_spec_l1Next sq_spec_l1Next U_spec_l1Next)]
def j_spec_DrawRunRegs : Nat → Option (List (Nat × SS)) := jOf []
theorem gok_spec_DrawRunRegs : GOk P (gamOf g_spec_DrawRunRegs) := gam_ok (tab := g_spec_DrawRunRegs) (by
    intro p hp
    simp only [g_spec_DrawRunRegs, List.mem_cons, List.not_mem_nil, or_false] at hp
    rcases hp with rfl | rfl | rfl | rfl | rfl
    · exact xN_ok c_spec_l1Source rfl
    · exact xN_ok c_spec_l10Code rfl
    · exact xN_ok c_spec_l8Cells rfl
    · exact xN_ok c_spec_l1Pick rfl
    · exact xN_ok c_spec_l1Next rfl)
noncomputable abbrev b_spec_DrawRunRegs : Code := bodyOf Try.f30
noncomputable def F_spec_DrawRunRegs (x1 : K.T (.sl (.int .u8))) : Option sq_spec_DrawRunRegs.T :=
  (F_spec_l1Source x1).bind fun y1 =>
  (F_spec_l10Code y1.2.1.1.1 y1.2.1.1.2.1).bind fun y2 =>
  (F_spec_l8Cells y2.2.1.1.1 y2.2.1.1.2.1).bind fun y3 =>
  (F_spec_l1Next (20 : Int) y3.2.1.1.1 y3.2.1.1.2.1).bind fun y4 =>
  (F_spec_l1Pick [(100 : Int), y4.1.1, (0 : Int), (20000 : Int), (20001 : Int), (-1 : Int)] y4.2.1.1.1 y4.2.1.1.2.1).bind fun y5 =>
  some ((y2.2.2.1, (y3.2.2.1, (y5.1.1, ()))), (), ())
noncomputable abbrev U_spec_DrawRunRegs : sp_spec_DrawRunRegs.T → Option sq_spec_DrawRunRegs.T := fun x => F_spec_DrawRunRegs x.1.1
theorem e_spec_DrawRunRegs : ∀ x, evCode ty (gamOf g_spec_DrawRunRegs) j_spec_DrawRunRegs (lamOf []) b_spec_DrawRunRegs (sp_spec_DrawRunRegs.hd x) (finN ty sq_spec_DrawRunRegs [.tmp 2, .tmp 3, .tmp 4]) = U_spec_DrawRunRegs x := fun x => by kernel_rfl
theorem c_spec_DrawRunRegs : FnS P 30 sp_spec_DrawRunRegs sq_spec_DrawRunRegs U_spec_DrawRunRegs :=
  fnS_of_ev tyOk mixed gok_spec_DrawRunRegs (fn := Try.f30) (by kernel_rfl) (c := b_spec_DrawRunRegs) (by kernel_rfl) (by kernel_rfl) (by kernel_rfl) (lam_ok (tab := []) (by kernel_rfl) (fun p hp => by cases hp)) e_spec_DrawRunRegs

/-! impl.StepRegs -/
abbrev sp_impl_StepRegs : Sp := ⟨31, [(0, .val false (.sl (.int .i64))), (1, .val true k5)], [], []⟩
abbrev sq_impl_StepRegs : Sp := ⟨1, [(0, .mix true [.val (.int .i64), .val (.int .i64), .fix (.own 59000), .fix (.own 59001), .val (.int .i64), .val (.int .i64), .val (.int .i64), .val .bool])], [], [(59000, (.int .i64), true), (59001, (.int .i64), true)]⟩
noncomputable def g_impl_StepRegs : List (FuncId × SumX) := [(33, cN sp_impl_RegFault sq_impl_RegFault U_impl_RegFault), (51, fN sp_slices_Clone_int64 sq_slices_Clone_int64 U_slices_Clone_int64), (65, cN sp_impl_WordsFault sq_impl_WordsFault U_impl_WordsFault), (68, xN sp_impl_RegMachine_step sq_impl_RegMachine_step U_impl_RegMachine_step)]
def j_impl_StepRegs : Nat → Option (List (Nat × SS)) := jOf []
theorem gok_impl_StepRegs : GOk P (gamOf g_impl_StepRegs) := gam_ok (tab := g_impl_StepRegs) (by
    intro p hp
    simp only [g_impl_StepRegs, List.mem_cons, List.not_mem_nil, or_false] at hp
    rcases hp with rfl | rfl | rfl | rfl
    · exact cN_ok c_impl_RegFault rfl
    · exact fN_ok c_slices_Clone_int64 rfl
    · exact cN_ok c_impl_WordsFault rfl
    · exact xN_ok c_impl_RegMachine_step rfl)
noncomputable abbrev b_impl_StepRegs : Code := bodyOf Try.f31
noncomputable def F_impl_StepRegs (x1 : K.T (.sl (.int .i64))) (x2 : K.T k5) : Option sq_impl_StepRegs.T :=
  (F_impl_WordsFault x1).bind fun y1 =>
  bif (y1.1.1 != (0 : Int)) then
    (some (((y1.1.1, ((0 : Int), ((0 : Int), ((0 : Int), ((0 : Int), (false, ())))))), ()), (), ([], ([], ()))))
  else
  (F_impl_RegFault x2).bind fun y2 =>
  bif (y2.1.1 != (0 : Int)) then
    (some (((y2.1.1, ((0 : Int), ((0 : Int), ((0 : Int), ((0 : Int), (false, ())))))), ()), (), ([], ([], ()))))
  else
  (F_slices_Clone_int64 x2.2.1).bind fun y3 =>
  (F_slices_Clone_int64 x2.2.2.1).bind fun y4 =>
  (F_impl_RegMachine_step x1 x2.1 x2.2.2.2.1 x2.2.2.2.2.1 x2.2.2.2.2.2.1 x2.2.2.2.2.2.2 y3.2.2.1 y4.2.2.1).bind fun y5 =>
  some ((((0 : Int), (y5.2.1.1.1, (y5.2.1.1.2.1, (y5.2.1.1.2.2.1, (y5.2.1.1.2.2.2.1, (y5.2.1.1.2.2.2.2.1, ())))))), ()), (), (y5.2.2.1, (y5.2.2.2.1, ())))
noncomputable abbrev U_impl_StepRegs : sp_impl_StepRegs.T → Option sq_impl_StepRegs.T := fun x => F_impl_StepRegs x.1.1 x.1.2.1
theorem e_impl_StepRegs : ∀ x, evCode ty (gamOf g_impl_StepRegs) j_impl_StepRegs (lamOf []) b_impl_StepRegs (sp_impl_StepRegs.hd x) (finN ty sq_impl_StepRegs [.cell 4 51]) = U_impl_StepRegs x := fun x => by kernel_rfl
theorem c_impl_StepRegs : FnS P 31 sp_impl_StepRegs sq_impl_StepRegs U_impl_StepRegs :=
  fnS_of_ev tyOk mixed gok_impl_StepRegs (fn := Try.f31) (by kernel_rfl) (c := b_impl_StepRegs) (by kernel_rfl) (by kernel_rfl) (by kernel_rfl) (lam_ok (tab := []) (by kernel_rfl) (fun p hp => by cases hp)) e_impl_StepRegs

/-! impl.inverted -/
abbrev sp_impl_inverted : Sp := ⟨20, [(0, .val false (.sl (.int .i64)))], [], []⟩
abbrev sq_impl_inverted : Sp := ⟨1, [(0, .fix (.own 59000))], [], [(59000, (.int .i64), true)]⟩
noncomputable def g_impl_inverted : List (FuncId × SumX) := [(110, cN sp_impl_Complement sq_impl_Complement U_impl_Complement)]
def j_impl_inverted : Nat → Option (List (Nat × SS)) := jOf []
theorem gok_impl_inverted : GOk P (gamOf g_impl_inverted) := gam_ok (tab := g_impl_inverted) (by
    intro p hp
    simp only [g_impl_inverted, List.mem_cons, List.not_mem_nil, or_false] at hp
    rcases hp with rfl
    · exact cN_ok c_impl_Complement rfl)
noncomputable abbrev b_impl_inverted : Code := bodyOf Try.f77
abbrev sp_impl_inverted_l3 : Sp := ⟨20, [(3, .fix (.own 59000)), (7, .val false (.sl (.int .i64))), (8, .val false (.int .i64)), (9, .val false (.int .i64))], [], [(59000, (.int .i64), true)]⟩
abbrev xs_impl_inverted_l3 : List (Ex × Sp) := [(.exit 0, ⟨20, [(3, .fix (.own 59000))], [], [(59000, (.int .i64), true)]⟩)]
noncomputable def s_impl_inverted_l3 : sp_impl_inverted_l3.T → Option (sp_impl_inverted_l3.T ⊕ XT xs_impl_inverted_l3) := fun x =>
  bif (decide (x.1.2.2.1 < x.1.2.1)) then
    (bif ib x.1.2.2.1 (x.1.1).length then
    (F_impl_Complement ((x.1.1).getD (Int.toNat x.1.2.2.1) (K.zero (.int .i64)))).bind fun y1 =>
    bif room (x.2.2.1 ++ [y1.1.1]).length 8 then
    some (.inl ((x.1.1, (x.1.2.1, ((IntKind.wrap .i64 (x.1.2.2.1 + (1 : Int))), ()))), (), ((x.2.2.1 ++ [y1.1.1]), ())))
    else none
    else none)
  else
  some (.inr ((), (), (x.2.2.1, ())))
noncomputable def l_impl_inverted_l3 : sp_impl_inverted_l3.T → Option (XT xs_impl_inverted_l3) := lim s_impl_inverted_l3
theorem es_impl_inverted_l3 : ∀ x, evCode ty (gamOf g_impl_inverted) j_impl_inverted (lamOf []) (loopAt b_impl_inverted 3) (sp_impl_inverted_l3.hd x) (rdK sp_impl_inverted_l3 xs_impl_inverted_l3) = s_impl_inverted_l3 x := fun x => by kernel_rfl
theorem ls_impl_inverted_l3 : LSumOk P (loopAt b_impl_inverted 3) (loopL sp_impl_inverted_l3 xs_impl_inverted_l3 l_impl_inverted_l3) := loop_ok tyOk mixed gok_impl_inverted (by kernel_rfl) (by kernel_rfl) (lam_ok (tab := []) (by kernel_rfl) (fun p hp => by cases hp)) es_impl_inverted_l3 lim_itr
noncomputable def F_impl_inverted (x1 : K.T (.sl (.int .i64))) : Option sq_impl_inverted.T :=
  (l_impl_inverted_l3 ((x1, (((x1).length : Int), ((0 : Int), ()))), (), ([], ()))).bind fun y2 =>
  some ((), (), (y2.2.2.1, ()))
noncomputable abbrev U_impl_inverted : sp_impl_inverted.T → Option sq_impl_inverted.T := fun x => F_impl_inverted x.1.1
theorem e_impl_inverted : ∀ x, evCode ty (gamOf g_impl_inverted) j_impl_inverted (lamOf [(3, loopL sp_impl_inverted_l3 xs_impl_inverted_l3 l_impl_inverted_l3)]) b_impl_inverted (sp_impl_inverted.hd x) (finN ty sq_impl_inverted [.tmp 2]) = U_impl_inverted x := fun x => by kernel_rfl
theorem c_impl_inverted : FnS P 77 sp_impl_inverted sq_impl_inverted U_impl_inverted :=
  fnS_of_ev tyOk mixed gok_impl_inverted (fn := Try.f77) (by kernel_rfl) (c := b_impl_inverted) (by kernel_rfl) (by kernel_rfl) (by kernel_rfl) (lam_ok (tab := [(3, loopL sp_impl_inverted_l3 xs_impl_inverted_l3 l_impl_inverted_l3)]) (by kernel_rfl) (by
    intro p hp
    simp only [List.mem_cons, List.not_mem_nil, or_false] at hp
    rcases hp with rfl
    · exact @ls_impl_inverted_l3)) e_impl_inverted

/-! impl.InvertAll -/
abbrev sp_impl_InvertAll : Sp := ⟨13, [(0, .val false (.sl (.int .i64)))], [], []⟩
abbrev sq_impl_InvertAll : Sp := ⟨1, [(0, .mix true [.val (.int .i64), .fix (.own 59000)])], [], [(59000, (.int .i64), true)]⟩
noncomputable def g_impl_InvertAll : List (FuncId × SumX) := [(65, cN sp_impl_WordsFault sq_impl_WordsFault U_impl_WordsFault), (77, fN sp_impl_inverted sq_impl_inverted U_impl_inverted)]
def j_impl_InvertAll : Nat → Option (List (Nat × SS)) := jOf []
theorem gok_impl_InvertAll : GOk P (gamOf g_impl_InvertAll) := gam_ok (tab := g_impl_InvertAll) (by
    intro p hp
    simp only [g_impl_InvertAll, List.mem_cons, List.not_mem_nil, or_false] at hp
    rcases hp with rfl | rfl
    · exact cN_ok c_impl_WordsFault rfl
    · exact fN_ok c_impl_inverted rfl)
noncomputable abbrev b_impl_InvertAll : Code := bodyOf Try.f32
noncomputable def F_impl_InvertAll (x1 : K.T (.sl (.int .i64))) : Option sq_impl_InvertAll.T :=
  (F_impl_WordsFault x1).bind fun y1 =>
  bif (y1.1.1 != (0 : Int)) then
    (some (((y1.1.1, ()), ()), (), ([], ())))
  else
  (F_impl_inverted x1).bind fun y2 =>
  some ((((0 : Int), ()), ()), (), (y2.2.2.1, ()))
noncomputable abbrev U_impl_InvertAll : sp_impl_InvertAll.T → Option sq_impl_InvertAll.T := fun x => F_impl_InvertAll x.1.1
theorem e_impl_InvertAll : ∀ x, evCode ty (gamOf g_impl_InvertAll) j_impl_InvertAll (lamOf []) b_impl_InvertAll (sp_impl_InvertAll.hd x) (finN ty sq_impl_InvertAll [.cell 2 62]) = U_impl_InvertAll x := fun x => by kernel_rfl
theorem c_impl_InvertAll : FnS P 32 sp_impl_InvertAll sq_impl_InvertAll U_impl_InvertAll :=
  fnS_of_ev tyOk mixed gok_impl_InvertAll (fn := Try.f32) (by kernel_rfl) (c := b_impl_InvertAll) (by kernel_rfl) (by kernel_rfl) (by kernel_rfl) (lam_ok (tab := []) (by kernel_rfl) (fun p hp => by cases hp)) e_impl_InvertAll

/-! laws.lwNums -/
abbrev sp_laws_lwNums : Sp := ⟨26, [(0, .val false (.sl (.int .i64))), (1, .val false (.sl (.int .i64)))], [], []⟩
abbrev sq_laws_lwNums : Sp := ⟨1, [(0, .val false .bool)], [], []⟩
noncomputable def g_laws_lwNums : List (FuncId × SumX) := []
def j_laws_lwNums : Nat → Option (List (Nat × SS)) := jOf []
theorem gok_laws_lwNums : GOk P (gamOf g_laws_lwNums) := gam_ok (tab := g_laws_lwNums) (fun p hp => by cases hp)
noncomputable abbrev b_laws_lwNums : Code := bodyOf Try.f34
abbrev sp_laws_lwNums_l4 : Sp := ⟨26, [(0, .val false (.sl (.int .i64))), (1, .val false (.sl (.int .i64))), (5, .val false (.int .i64))], [], []⟩
abbrev xs_laws_lwNums_l4 : List (Ex × Sp) := [(.exit 0, ⟨26, [], [], []⟩), (.ret, ⟨26, [(4, .val false .bool)], [], []⟩)]
noncomputable def s_laws_lwNums_l4 : sp_laws_lwNums_l4.T → Option (sp_laws_lwNums_l4.T ⊕ XT xs_laws_lwNums_l4) := fun x =>
  bif (decide (x.1.2.2.1 < ((x.1.1).length : Int))) then
    (bif ib x.1.2.2.1 (x.1.1).length then
    bif ib x.1.2.2.1 (x.1.2.1).length then
    bif (((x.1.1).getD (Int.toNat x.1.2.2.1) (K.zero (.int .i64))) != ((x.1.2.1).getD (Int.toNat x.1.2.2.1) (K.zero (.int .i64)))) then
      (some (.inr (.inr ((false, ()), (), ()))))
    else
    some (.inl ((x.1.1, (x.1.2.1, ((IntKind.wrap .i64 (x.1.2.2.1 + (1 : Int))), ()))), (), ()))
    else none
    else none)
  else
  some (.inr (.inl ((), (), ())))
noncomputable def l_laws_lwNums_l4 : sp_laws_lwNums_l4.T → Option (XT xs_laws_lwNums_l4) := lim s_laws_lwNums_l4
theorem es_laws_lwNums_l4 : ∀ x, evCode ty (gamOf g_laws_lwNums) j_laws_lwNums (lamOf []) (loopAt b_laws_lwNums 4) (sp_laws_lwNums_l4.hd x) (rdK sp_laws_lwNums_l4 xs_laws_lwNums_l4) = s_laws_lwNums_l4 x := fun x => by kernel_rfl
theorem ls_laws_lwNums_l4 : LSumOk P (loopAt b_laws_lwNums 4) (loopL sp_laws_lwNums_l4 xs_laws_lwNums_l4 l_laws_lwNums_l4) := loop_ok tyOk mixed gok_laws_lwNums (by kernel_rfl) (by kernel_rfl) (lam_ok (tab := []) (by kernel_rfl) (fun p hp => by cases hp)) es_laws_lwNums_l4 lim_itr
noncomputable def F_laws_lwNums (x1 : K.T (.sl (.int .i64))) (x2 : K.T (.sl (.int .i64))) : Option sq_laws_lwNums.T :=
  bif (((x1).length : Int) != ((x2).length : Int)) then
    (some ((false, ()), (), ()))
  else
  (l_laws_lwNums_l4 ((x1, (x2, ((0 : Int), ()))), (), ())).bind fun y1 =>
  (match y1 with
  | .inl y2 => some ((true, ()), (), ())
  | .inr z3 => some ((z3.1.1, ()), (), ()))
noncomputable abbrev U_laws_lwNums : sp_laws_lwNums.T → Option sq_laws_lwNums.T := fun x => F_laws_lwNums x.1.1 x.1.2.1
theorem e_laws_lwNums : ∀ x, evCode ty (gamOf g_laws_lwNums) j_laws_lwNums (lamOf [(4, loopL sp_laws_lwNums_l4 xs_laws_lwNums_l4 l_laws_lwNums_l4)]) b_laws_lwNums (sp_laws_lwNums.hd x) (finN ty sq_laws_lwNums [.tmp 4]) = U_laws_lwNums x := fun x => by kernel_rfl
theorem c_laws_lwNums : FnS P 34 sp_laws_lwNums sq_laws_lwNums U_laws_lwNums :=
  fnS_of_ev tyOk mixed gok_laws_lwNums (fn := Try.f34) (by kernel_rfl) (c := b_laws_lwNums) (by kernel_rfl) (by kernel_rfl) (by kernel_rfl) (lam_ok (tab := [(4, loopL sp_laws_lwNums_l4 xs_laws_lwNums_l4 l_laws_lwNums_l4)]) (by kernel_rfl) (by
    intro p hp
    simp only [List.mem_cons, List.not_mem_nil, or_false] at hp
    rcases hp with rfl
    · exact @ls_laws_lwNums_l4)) e_laws_lwNums

/-! laws.FnRegisters -/
abbrev sp_laws_FnRegisters : Sp := ⟨102, [(0, .val false (.sl (.int .u8)))], [], []⟩
abbrev sq_laws_FnRegisters : Sp := ⟨1, [(0, .val false .bool)], [], []⟩
noncomputable def g_laws_FnRegisters : List (FuncId × SumX) := [(24, cN sp_spec_RunRegs sq_spec_RunRegs U_spec_RunRegs), (25, fN sp_impl_RunRegs sq_impl_RunRegs U_impl_RunRegs), (29, cN sp_laws_lwBig sq_laws_lwBig U_laws_lwBig), (30, cN sp_spec_DrawRunRegs sq_spec_DrawRunRegs U_spec_DrawRunRegs), (31, fN sp_impl_StepRegs sq_impl_StepRegs U_impl_StepRegs), (32, fN sp_impl_InvertAll sq_impl_InvertAll U_impl_InvertAll), (33, cN sp_impl_RegFault sq_impl_RegFault U_impl_RegFault), (34, cN sp_laws_lwNums sq_laws_lwNums U_laws_lwNums)]
def j_laws_FnRegisters : Nat → Option (List (Nat × SS)) := jOf []
theorem gok_laws_FnRegisters : GOk P (gamOf g_laws_FnRegisters) := gam_ok (tab := g_laws_FnRegisters) (by
    intro p hp
    simp only [g_laws_FnRegisters, List.mem_cons, List.not_mem_nil, or_false] at hp
    rcases hp with rfl | rfl | rfl | rfl | rfl | rfl | rfl | rfl
    · exact cN_ok c_spec_RunRegs rfl
    · exact fN_ok c_impl_RunRegs rfl
    · exact cN_ok c_laws_lwBig rfl
    · exact cN_ok c_spec_DrawRunRegs rfl
    · exact fN_ok c_impl_StepRegs rfl
    · exact fN_ok c_impl_InvertAll rfl
    · exact cN_ok c_impl_RegFault rfl
    · exact cN_ok c_laws_lwNums rfl)
noncomputable abbrev b_laws_FnRegisters : Code := bodyOf Try.f6
noncomputable def F_laws_FnRegisters (x1 : K.T (.sl (.int .u8))) : Option sq_laws_FnRegisters.T :=
  (F_laws_lwBig x1).bind fun y1 =>
  bif y1.1.1 then
    (some ((true, ()), (), ()))
  else
  (F_spec_DrawRunRegs x1).bind fun y2 =>
  (F_impl_RunRegs y2.1.1 y2.1.2.1 y2.1.2.2.1).bind fun y3 =>
  bif (y3.1.1.1 != (0 : Int)) then
    ((F_spec_RunRegs y2.1.1 y2.1.2.1 y2.1.2.2.1).bind fun y4 =>
    some (((y4.1.1.1 == y3.1.1.1), ()), (), ()))
  else
  (F_impl_StepRegs y2.1.1 (y3.1.1.2.1, (y3.2.2.1, (y3.2.2.2.1, (y3.1.1.2.2.1, (y3.1.1.2.2.2.1, (y3.1.1.2.2.2.2.1, y3.1.1.2.2.2.2.2.1))))))).bind fun y5 =>
  (F_impl_InvertAll y2.1.2.1).bind fun y6 =>
  (F_impl_RegFault (y3.1.1.2.1, (y3.2.2.1, (y3.2.2.2.1, (y3.1.1.2.2.1, (y3.1.1.2.2.2.1, (y3.1.1.2.2.2.2.1, y3.1.1.2.2.2.2.2.1))))))).bind fun y7 =>
  bif (y7.1.1 == (0 : Int)) then
    (bif (decide (y3.1.1.2.2.2.1 ≤ y2.1.2.2.1)) then
      (bif (!(y3.1.1.2.2.2.2.2.1 == (y3.1.1.2.2.2.2.1 != (0 : Int)))) then
        (bif (((y3.2.2.2.1).length : Int) == ((y2.1.2.1).length : Int)) then
          (bif (y5.1.1.1 == (0 : Int)) then
            (bif (y5.1.1.2.2.2.1 == y3.1.1.2.2.2.1) then
              (bif (y6.1.1.1 == (0 : Int)) then
                ((F_impl_InvertAll y6.2.2.1).bind fun y8 =>
                (F_laws_lwNums y8.2.2.1 y2.1.2.1).bind fun y9 =>
                bif y9.1.1 then
                  ((F_spec_RunRegs y2.1.1 y2.1.2.1 y2.1.2.2.1).bind fun y10 =>
                  some (((y3.1.1.2.2.2.2.1 == y10.1.1.2.2.2.2.2.2.1), ()), (), ()))
                else
                some ((false, ()), (), ()))
              else
              some ((false, ()), (), ()))
            else
            some ((false, ()), (), ()))
          else
          some ((false, ()), (), ()))
        else
        some ((false, ()), (), ()))
      else
      some ((false, ()), (), ()))
    else
    some ((false, ()), (), ()))
  else
  some ((false, ()), (), ())
noncomputable abbrev U_laws_FnRegisters : sp_laws_FnRegisters.T → Option sq_laws_FnRegisters.T := fun x => F_laws_FnRegisters x.1.1
theorem e_laws_FnRegisters : ∀ x, evCode ty (gamOf g_laws_FnRegisters) j_laws_FnRegisters (lamOf []) b_laws_FnRegisters (sp_laws_FnRegisters.hd x) (finN ty sq_laws_FnRegisters [.tmp 2]) = U_laws_FnRegisters x := fun x => by kernel_rfl
theorem c_laws_FnRegisters : FnS P 6 sp_laws_FnRegisters sq_laws_FnRegisters U_laws_FnRegisters :=
  fnS_of_ev tyOk mixed gok_laws_FnRegisters (fn := Try.f6) (by kernel_rfl) (c := b_laws_FnRegisters) (by kernel_rfl) (by kernel_rfl) (by kernel_rfl) (lam_ok (tab := []) (by kernel_rfl) (fun p hp => by cases hp)) e_laws_FnRegisters
end Go.Ev
