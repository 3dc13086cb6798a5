/- What is proved here: the contract of each function that FnExactPackBuild reaches; no condition. -/
import Derived.Test.YtdgnmaelfhiedaaProg
import Derived.Test.YtdgnmaelfhiedaaLe
import Derived.KernelRfl
set_option linter.unusedVariables false
namespace Go.Ev
open Go.Proofs
def bodyOf (f : Func) : Code := f.body.getD .skip
noncomputable abbrev P : Program := Try.prog
abbrev k0 : K := (.pr (.int .i64) .bool)
abbrev k1 : K := (.pr (.int .i64) (.sl (.int .i64)))
abbrev k2 : K := (.pr (.int .i64) (.int .i64))
abbrev k3 : K := (.pr (.sl (.int .i64)) k2)
abbrev k4 : K := (.pr (.sl (.int .i64)) k3)
abbrev k5 : K := (.pr (.sl (.int .i64)) k4)
abbrev k6 : K := (.pr (.sl (.int .i64)) k5)
abbrev k7 : K := (.pr (.sl (.int .i64)) k6)
abbrev k8 : K := (.pr (.sl k0) k7)
abbrev k9 : K := (.pr (.int .i64) k8)
def tab : List (Nat × TI) := [
  (2, (⟨.other, false, 1, 8, [.int .i64 0], some (.int .i64)⟩ : TI)),
  (3, (⟨.other, false, 1, 8, [.int .i64 0], some (.int .i64)⟩ : TI)),
  (4, (⟨.other, false, 1, 1, [.bool false], some .bool⟩ : TI)),
  (22, (⟨.slice 2, false, 1, 24, [.nil], some (.sl (.int .i64))⟩ : TI)),
  (27, (⟨.struct [(0, 1, false), (1, 1, false)], true, 2, 32, [.int .i64 0, .nil], some k1⟩ : TI)),
  (42, (⟨.slice 153, false, 1, 24, [.nil], some (.sl k0)⟩ : TI)),
  (44, (⟨.struct [(0, 1, false), (1, 1, false), (2, 1, false), (3, 1, false), (4, 1, false), (5, 1, false), (6, 1, false), (7, 1, false), (8, 1, false)], true, 9, 168, [.int .i64 0, .nil, .nil, .nil, .nil, .nil, .nil, .int .i64 0, .int .i64 0], some k9⟩ : TI)),
  (47, (⟨.slice 117, false, 1, 24, [.nil], some (.sl k0)⟩ : TI)),
  (49, (⟨.struct [(0, 1, false), (1, 1, false), (2, 1, false), (3, 1, false), (4, 1, false), (5, 1, false), (6, 1, false), (7, 1, false), (8, 1, false)], true, 9, 168, [.int .i64 0, .nil, .nil, .nil, .nil, .nil, .nil, .int .i64 0, .int .i64 0], some k9⟩ : TI)),
  (109, (⟨.other, false, 1, 8, [.nilf], none⟩ : TI)),
  (117, (⟨.struct [(0, 1, false), (1, 1, false)], true, 2, 16, [.int .i64 0, .bool false], some k0⟩ : TI)),
  (120, (⟨.slice 22, false, 1, 24, [.nil], some (.sl (.sl (.int .i64)))⟩ : TI)),
  (153, (⟨.struct [(0, 1, false), (1, 1, false)], true, 2, 16, [.int .i64 0, .bool false], some k0⟩ : TI))]
def ty : Ty := fun t => (Tr.ofList tab).get t
theorem tyOk : TyOk P ty := tyOk_of_tab (by kernel_rfl)
theorem mixed : P.follows .mixedOrders = true := by kernel_rfl
/-! laws.eqInt64S -/
abbrev sp_laws_eqInt64S : Sp := ⟨26, [(0, .val false (.sl (.int .i64))), (1, .val false (.sl (.int .i64)))], [], []⟩
abbrev sq_laws_eqInt64S : Sp := ⟨1, [(0, .val false .bool)], [], []⟩
noncomputable def g_laws_eqInt64S : List (FuncId × SumX) := []
def j_laws_eqInt64S : Nat → Option (List (Nat × SS)) := jOf []
theorem gok_laws_eqInt64S : GOk P (gamOf g_laws_eqInt64S) := gam_ok (tab := g_laws_eqInt64S) (fun p hp => by cases hp)
noncomputable abbrev b_laws_eqInt64S : Code := bodyOf Try.f47
abbrev sp_laws_eqInt64S_l4 : Sp := ⟨26, [(0, .val false (.sl (.int .i64))), (1, .val false (.sl (.int .i64))), (5, .val false (.int .i64))], [], []⟩
abbrev xs_laws_eqInt64S_l4 : List (Ex × Sp) := [(.exit 0, ⟨26, [], [], []⟩), (.ret, ⟨26, [(4, .val false .bool)], [], []⟩)]
noncomputable def s_laws_eqInt64S_l4 : sp_laws_eqInt64S_l4.T → Option (sp_laws_eqInt64S_l4.T ⊕ XT xs_laws_eqInt64S_l4) := fun x =>
  bif (decide (x.1.2.2.1 < ((x.1.1).length : Int))) then
    (bif ib x.1.2.2.1 (x.1.1).length then
    bif ib x.1.2.2.1 (x.1.2.1).length then
    bif (((x.1.1).getD (Int.toNat x.1.2.2.1) (K.zero (.int .i64))) != ((x.1.2.1).getD (Int.toNat x.1.2.2.1) (K.zero (.int .i64)))) then
      (some (.inr (.inr ((false, ()), (), ()))))
    else
    some (.inl ((x.1.1, (x.1.2.1, ((IntKind.wrap .i64 (x.1.2.2.1 + (1 : Int))), ()))), (), ()))
    else none
    else none)
  else
  some (.inr (.inl ((), (), ())))
noncomputable def l_laws_eqInt64S_l4 : sp_laws_eqInt64S_l4.T → Option (XT xs_laws_eqInt64S_l4) := lim s_laws_eqInt64S_l4
theorem es_laws_eqInt64S_l4 : ∀ x, evCode ty (gamOf g_laws_eqInt64S) j_laws_eqInt64S (lamOf []) (loopAt b_laws_eqInt64S 4) (sp_laws_eqInt64S_l4.hd x) (rdK sp_laws_eqInt64S_l4 xs_laws_eqInt64S_l4) = s_laws_eqInt64S_l4 x := fun x => by kernel_rfl
theorem ls_laws_eqInt64S_l4 : LSumOk P (loopAt b_laws_eqInt64S 4) (loopL sp_laws_eqInt64S_l4 xs_laws_eqInt64S_l4 l_laws_eqInt64S_l4) := loop_ok tyOk mixed gok_laws_eqInt64S (by kernel_rfl) (by kernel_rfl) (lam_ok (tab := []) (by kernel_rfl) (fun p hp => by cases hp)) es_laws_eqInt64S_l4 lim_itr
noncomputable def F_laws_eqInt64S (x1 : K.T (.sl (.int .i64))) (x2 : K.T (.sl (.int .i64))) : Option sq_laws_eqInt64S.T :=
  bif (((x1).length : Int) != ((x2).length : Int)) then
    (some ((false, ()), (), ()))
  else
  (l_laws_eqInt64S_l4 ((x1, (x2, ((0 : Int), ()))), (), ())).bind fun y1 =>
  (match y1 with
  | .inl y2 => some ((true, ()), (), ())
  | .inr z3 => some ((z3.1.1, ()), (), ()))
noncomputable abbrev U_laws_eqInt64S : sp_laws_eqInt64S.T → Option sq_laws_eqInt64S.T := fun x => F_laws_eqInt64S x.1.1 x.1.2.1
theorem e_laws_eqInt64S : ∀ x, evCode ty (gamOf g_laws_eqInt64S) j_laws_eqInt64S (lamOf [(4, loopL sp_laws_eqInt64S_l4 xs_laws_eqInt64S_l4 l_laws_eqInt64S_l4)]) b_laws_eqInt64S (sp_laws_eqInt64S.hd x) (finN ty sq_laws_eqInt64S [.tmp 4]) = U_laws_eqInt64S x := fun x => by kernel_rfl
theorem c_laws_eqInt64S : FnS P 47 sp_laws_eqInt64S sq_laws_eqInt64S U_laws_eqInt64S :=
  fnS_of_ev tyOk mixed gok_laws_eqInt64S (fn := Try.f47) (by kernel_rfl) (c := b_laws_eqInt64S) (by kernel_rfl) (by kernel_rfl) (by kernel_rfl) (lam_ok (tab := [(4, loopL sp_laws_eqInt64S_l4 xs_laws_eqInt64S_l4 l_laws_eqInt64S_l4)]) (by kernel_rfl) (by
    intro p hp
    simp only [List.mem_cons, List.not_mem_nil, or_false] at hp
    rcases hp with rfl
    · exact @ls_laws_eqInt64S_l4)) e_laws_eqInt64S

/-! laws.eqIntsResult -/
abbrev sp_laws_eqIntsResult : Sp := ⟨16, [(0, .val true k1), (1, .val true k1)], [], []⟩
abbrev sq_laws_eqIntsResult : Sp := ⟨1, [(0, .val false .bool)], [], []⟩
noncomputable def g_laws_eqIntsResult : List (FuncId × SumX) := [(47, cN sp_laws_eqInt64S sq_laws_eqInt64S U_laws_eqInt64S)]
def j_laws_eqIntsResult : Nat → Option (List (Nat × SS)) := jOf []
theorem gok_laws_eqIntsResult : GOk P (gamOf g_laws_eqIntsResult) := gam_ok (tab := g_laws_eqIntsResult) (by
    intro p hp
    simp only [g_laws_eqIntsResult, List.mem_cons, List.not_mem_nil, or_false] at hp
    rcases hp with rfl
    · exact cN_ok c_laws_eqInt64S rfl)
noncomputable abbrev b_laws_eqIntsResult : Code := bodyOf Try.f21
noncomputable def F_laws_eqIntsResult (x1 : K.T k1) (x2 : K.T k1) : Option sq_laws_eqIntsResult.T :=
  bif (x1.1 != x2.1) then
    (some ((false, ()), (), ()))
  else
  (F_laws_eqInt64S x1.2 x2.2).bind fun y1 =>
  bif (!y1.1.1) then
    (some ((false, ()), (), ()))
  else
  some ((true, ()), (), ())
noncomputable abbrev U_laws_eqIntsResult : sp_laws_eqIntsResult.T → Option sq_laws_eqIntsResult.T := fun x => F_laws_eqIntsResult x.1.1 x.1.2.1
theorem e_laws_eqIntsResult : ∀ x, evCode ty (gamOf g_laws_eqIntsResult) j_laws_eqIntsResult (lamOf []) b_laws_eqIntsResult (sp_laws_eqIntsResult.hd x) (finN ty sq_laws_eqIntsResult [.tmp 4]) = U_laws_eqIntsResult x := fun x => by kernel_rfl
theorem c_laws_eqIntsResult : FnS P 21 sp_laws_eqIntsResult sq_laws_eqIntsResult U_laws_eqIntsResult :=
  fnS_of_ev tyOk mixed gok_laws_eqIntsResult (fn := Try.f21) (by kernel_rfl) (c := b_laws_eqIntsResult) (by kernel_rfl) (by kernel_rfl) (by kernel_rfl) (lam_ok (tab := []) (by kernel_rfl) (fun p hp => by cases hp)) e_laws_eqIntsResult

/-! laws.markInt64S -/
abbrev sp_laws_markInt64S : Sp := ⟨19, [(0, .fix (.own 64000)), (1, .val false (.int .i64))], [], [(64000, (.int .i64), true)]⟩
abbrev sq_laws_markInt64S : Sp := ⟨1, [(0, .val false (.int .i64))], [], [(64000, (.int .i64), true)]⟩
noncomputable def g_laws_markInt64S : List (FuncId × SumX) := []
def j_laws_markInt64S : Nat → Option (List (Nat × SS)) := jOf []
theorem gok_laws_markInt64S : GOk P (gamOf g_laws_markInt64S) := gam_ok (tab := g_laws_markInt64S) (fun p hp => by cases hp)
noncomputable abbrev b_laws_markInt64S : Code := bodyOf Try.f48
abbrev sp_laws_markInt64S_l2 : Sp := ⟨19, [(0, .fix (.own 64000)), (1, .val false (.int .i64)), (5, .val false (.int .i64))], [], [(64000, (.int .i64), true)]⟩
abbrev xs_laws_markInt64S_l2 : List (Ex × Sp) := [(.exit 0, ⟨19, [(1, .val false (.int .i64))], [], [(64000, (.int .i64), true)]⟩)]
noncomputable def s_laws_markInt64S_l2 : sp_laws_markInt64S_l2.T → Option (sp_laws_markInt64S_l2.T ⊕ XT xs_laws_markInt64S_l2) := fun x =>
  bif (decide (x.1.2.1 < ((x.2.2.1).length : Int))) then
    (bif ib x.1.2.1 (x.2.2.1).length then
    some (.inl (((IntKind.wrap .i64 (x.1.1 + (1 : Int))), ((IntKind.wrap .i64 (x.1.2.1 + (1 : Int))), ())), (), ((x.2.2.1).set (Int.toNat x.1.2.1) x.1.1, ())))
    else none)
  else
  some (.inr ((x.1.1, ()), (), (x.2.2.1, ())))
noncomputable def l_laws_markInt64S_l2 : sp_laws_markInt64S_l2.T → Option (XT xs_laws_markInt64S_l2) := lim s_laws_markInt64S_l2
theorem es_laws_markInt64S_l2 : ∀ x, evCode ty (gamOf g_laws_markInt64S) j_laws_markInt64S (lamOf []) (loopAt b_laws_markInt64S 2) (sp_laws_markInt64S_l2.hd x) (rdK sp_laws_markInt64S_l2 xs_laws_markInt64S_l2) = s_laws_markInt64S_l2 x := fun x => by kernel_rfl
theorem ls_laws_markInt64S_l2 : LSumOk P (loopAt b_laws_markInt64S 2) (loopL sp_laws_markInt64S_l2 xs_laws_markInt64S_l2 l_laws_markInt64S_l2) := loop_ok tyOk mixed gok_laws_markInt64S (by kernel_rfl) (by kernel_rfl) (lam_ok (tab := []) (by kernel_rfl) (fun p hp => by cases hp)) es_laws_markInt64S_l2 lim_itr
noncomputable def F_laws_markInt64S (x1 : K.T (.int .i64)) (x2 : List (K.T (.int .i64))) : Option sq_laws_markInt64S.T :=
  (l_laws_markInt64S_l2 ((x1, ((0 : Int), ())), (), (x2, ()))).bind fun y1 =>
  some ((y1.1.1, ()), (), (y1.2.2.1, ()))
noncomputable abbrev U_laws_markInt64S : sp_laws_markInt64S.T → Option sq_laws_markInt64S.T := fun x => F_laws_markInt64S x.1.1 x.2.2.1
theorem e_laws_markInt64S : ∀ x, evCode ty (gamOf g_laws_markInt64S) j_laws_markInt64S (lamOf [(2, loopL sp_laws_markInt64S_l2 xs_laws_markInt64S_l2 l_laws_markInt64S_l2)]) b_laws_markInt64S (sp_laws_markInt64S.hd x) (finN ty sq_laws_markInt64S [.tmp 4]) = U_laws_markInt64S x := fun x => by kernel_rfl
theorem c_laws_markInt64S : FnS P 48 sp_laws_markInt64S sq_laws_markInt64S U_laws_markInt64S :=
  fnS_of_ev tyOk mixed gok_laws_markInt64S (fn := Try.f48) (by kernel_rfl) (c := b_laws_markInt64S) (by kernel_rfl) (by kernel_rfl) (by kernel_rfl) (lam_ok (tab := [(2, loopL sp_laws_markInt64S_l2 xs_laws_markInt64S_l2 l_laws_markInt64S_l2)]) (by kernel_rfl) (by
    intro p hp
    simp only [List.mem_cons, List.not_mem_nil, or_false] at hp
    rcases hp with rfl
    · exact @ls_laws_markInt64S_l2)) e_laws_markInt64S

/-! laws.markIntsResult -/
abbrev sp_laws_markIntsResult : Sp := ⟨10, [(0, .mix true [.val (.int .i64), .fix (.own 64000)]), (1, .val false (.int .i64))], [], [(64000, (.int .i64), true)]⟩
abbrev sq_laws_markIntsResult : Sp := ⟨1, [(0, .val false (.int .i64))], [], [(64000, (.int .i64), true)]⟩
noncomputable def g_laws_markIntsResult : List (FuncId × SumX) := [(48, xN sp_laws_markInt64S sq_laws_markInt64S U_laws_markInt64S)]
def j_laws_markIntsResult : Nat → Option (List (Nat × SS)) := jOf []
theorem gok_laws_markIntsResult : GOk P (gamOf g_laws_markIntsResult) := gam_ok (tab := g_laws_markIntsResult) (by
    intro p hp
    simp only [g_laws_markIntsResult, List.mem_cons, List.not_mem_nil, or_false] at hp
    rcases hp with rfl
    · exact xN_ok c_laws_markInt64S rfl)
noncomputable abbrev b_laws_markIntsResult : Code := bodyOf Try.f24
noncomputable def F_laws_markIntsResult (x1 : K.T (.int .i64)) (x2 : K.T (.int .i64)) (x3 : List (K.T (.int .i64))) : Option sq_laws_markIntsResult.T :=
  (F_laws_markInt64S x2 x3).bind fun y1 =>
  some ((y1.1.1, ()), (), (y1.2.2.1, ()))
noncomputable abbrev U_laws_markIntsResult : sp_laws_markIntsResult.T → Option sq_laws_markIntsResult.T := fun x => F_laws_markIntsResult x.1.1.1 x.1.2.1 x.2.2.1
theorem e_laws_markIntsResult : ∀ x, evCode ty (gamOf g_laws_markIntsResult) j_laws_markIntsResult (lamOf []) b_laws_markIntsResult (sp_laws_markIntsResult.hd x) (finN ty sq_laws_markIntsResult [.tmp 4]) = U_laws_markIntsResult x := fun x => by kernel_rfl
theorem c_laws_markIntsResult : FnS P 24 sp_laws_markIntsResult sq_laws_markIntsResult U_laws_markIntsResult :=
  fnS_of_ev tyOk mixed gok_laws_markIntsResult (fn := Try.f24) (by kernel_rfl) (c := b_laws_markIntsResult) (by kernel_rfl) (by kernel_rfl) (by kernel_rfl) (lam_ok (tab := []) (by kernel_rfl) (fun p hp => by cases hp)) e_laws_markIntsResult

/-! laws.heldInt64S -/
abbrev sp_laws_heldInt64S : Sp := ⟨21, [(0, .val false (.sl (.int .i64))), (1, .val false (.int .i64))], [], []⟩
abbrev sq_laws_heldInt64S : Sp := ⟨1, [(0, .val false (.int .i64))], [], []⟩
noncomputable def g_laws_heldInt64S : List (FuncId × SumX) := []
def j_laws_heldInt64S : Nat → Option (List (Nat × SS)) := jOf []
theorem gok_laws_heldInt64S : GOk P (gamOf g_laws_heldInt64S) := gam_ok (tab := g_laws_heldInt64S) (fun p hp => by cases hp)
noncomputable abbrev b_laws_heldInt64S : Code := bodyOf Try.f84
abbrev sp_laws_heldInt64S_l2 : Sp := ⟨21, [(0, .val false (.sl (.int .i64))), (1, .val false (.int .i64)), (5, .val false (.int .i64))], [], []⟩
abbrev xs_laws_heldInt64S_l2 : List (Ex × Sp) := [(.exit 0, ⟨21, [(1, .val false (.int .i64))], [], []⟩), (.ret, ⟨21, [(4, .val false (.int .i64))], [], []⟩)]
noncomputable def s_laws_heldInt64S_l2 : sp_laws_heldInt64S_l2.T → Option (sp_laws_heldInt64S_l2.T ⊕ XT xs_laws_heldInt64S_l2) := fun x =>
  bif (decide (x.1.2.2.1 < ((x.1.1).length : Int))) then
    (bif ib x.1.2.2.1 (x.1.1).length then
    bif (((x.1.1).getD (Int.toNat x.1.2.2.1) (K.zero (.int .i64))) != x.1.2.1) then
      (some (.inr (.inr (((-1 : Int), ()), (), ()))))
    else
    some (.inl ((x.1.1, ((IntKind.wrap .i64 (x.1.2.1 + (1 : Int))), ((IntKind.wrap .i64 (x.1.2.2.1 + (1 : Int))), ()))), (), ()))
    else none)
  else
  some (.inr (.inl ((x.1.2.1, ()), (), ())))
noncomputable def l_laws_heldInt64S_l2 : sp_laws_heldInt64S_l2.T → Option (XT xs_laws_heldInt64S_l2) := lim s_laws_heldInt64S_l2
theorem es_laws_heldInt64S_l2 : ∀ x, evCode ty (gamOf g_laws_heldInt64S) j_laws_heldInt64S (lamOf []) (loopAt b_laws_heldInt64S 2) (sp_laws_heldInt64S_l2.hd x) (rdK sp_laws_heldInt64S_l2 xs_laws_heldInt64S_l2) = s_laws_heldInt64S_l2 x := fun x => by kernel_rfl
theorem ls_laws_heldInt64S_l2 : LSumOk P (loopAt b_laws_heldInt64S 2) (loopL sp_laws_heldInt64S_l2 xs_laws_heldInt64S_l2 l_laws_heldInt64S_l2) := loop_ok tyOk mixed gok_laws_heldInt64S (by kernel_rfl) (by kernel_rfl) (lam_ok (tab := []) (by kernel_rfl) (fun p hp => by cases hp)) es_laws_heldInt64S_l2 lim_itr
noncomputable def F_laws_heldInt64S (x1 : K.T (.sl (.int .i64))) (x2 : K.T (.int .i64)) : Option sq_laws_heldInt64S.T :=
  (l_laws_heldInt64S_l2 ((x1, (x2, ((0 : Int), ()))), (), ())).bind fun y1 =>
  (match y1 with
  | .inl y2 => some ((y2.1.1, ()), (), ())
  | .inr z3 => some ((z3.1.1, ()), (), ()))
noncomputable abbrev U_laws_heldInt64S : sp_laws_heldInt64S.T → Option sq_laws_heldInt64S.T := fun x => F_laws_heldInt64S x.1.1 x.1.2.1
theorem e_laws_heldInt64S : ∀ x, evCode ty (gamOf g_laws_heldInt64S) j_laws_heldInt64S (lamOf [(2, loopL sp_laws_heldInt64S_l2 xs_laws_heldInt64S_l2 l_laws_heldInt64S_l2)]) b_laws_heldInt64S (sp_laws_heldInt64S.hd x) (finN ty sq_laws_heldInt64S [.tmp 4]) = U_laws_heldInt64S x := fun x => by kernel_rfl
theorem c_laws_heldInt64S : FnS P 84 sp_laws_heldInt64S sq_laws_heldInt64S U_laws_heldInt64S :=
  fnS_of_ev tyOk mixed gok_laws_heldInt64S (fn := Try.f84) (by kernel_rfl) (c := b_laws_heldInt64S) (by kernel_rfl) (by kernel_rfl) (by kernel_rfl) (lam_ok (tab := [(2, loopL sp_laws_heldInt64S_l2 xs_laws_heldInt64S_l2 l_laws_heldInt64S_l2)]) (by kernel_rfl) (by
    intro p hp
    simp only [List.mem_cons, List.not_mem_nil, or_false] at hp
    rcases hp with rfl
    · exact @ls_laws_heldInt64S_l2)) e_laws_heldInt64S

/-! laws.heldIntsResult -/
abbrev sp_laws_heldIntsResult : Sp := ⟨12, [(0, .val true k1), (1, .val false (.int .i64))], [], []⟩
abbrev sq_laws_heldIntsResult : Sp := ⟨1, [(0, .val false (.int .i64))], [], []⟩
noncomputable def g_laws_heldIntsResult : List (FuncId × SumX) := [(84, cN sp_laws_heldInt64S sq_laws_heldInt64S U_laws_heldInt64S)]
def j_laws_heldIntsResult : Nat → Option (List (Nat × SS)) := jOf []
theorem gok_laws_heldIntsResult : GOk P (gamOf g_laws_heldIntsResult) := gam_ok (tab := g_laws_heldIntsResult) (by
    intro p hp
    simp only [g_laws_heldIntsResult, List.mem_cons, List.not_mem_nil, or_false] at hp
    rcases hp with rfl
    · exact cN_ok c_laws_heldInt64S rfl)
noncomputable abbrev b_laws_heldIntsResult : Code := bodyOf Try.f25
noncomputable def F_laws_heldIntsResult (x1 : K.T k1) (x2 : K.T (.int .i64)) : Option sq_laws_heldIntsResult.T :=
  (F_laws_heldInt64S x1.2 x2).bind fun y1 =>
  bif (decide (y1.1.1 < (0 : Int))) then
    (some (((-1 : Int), ()), (), ()))
  else
  some ((y1.1.1, ()), (), ())
noncomputable abbrev U_laws_heldIntsResult : sp_laws_heldIntsResult.T → Option sq_laws_heldIntsResult.T := fun x => F_laws_heldIntsResult x.1.1 x.1.2.1
theorem e_laws_heldIntsResult : ∀ x, evCode ty (gamOf g_laws_heldIntsResult) j_laws_heldIntsResult (lamOf []) b_laws_heldIntsResult (sp_laws_heldIntsResult.hd x) (finN ty sq_laws_heldIntsResult [.tmp 4]) = U_laws_heldIntsResult x := fun x => by kernel_rfl
theorem c_laws_heldIntsResult : FnS P 25 sp_laws_heldIntsResult sq_laws_heldIntsResult U_laws_heldIntsResult :=
  fnS_of_ev tyOk mixed gok_laws_heldIntsResult (fn := Try.f25) (by kernel_rfl) (c := b_laws_heldIntsResult) (by kernel_rfl) (by kernel_rfl) (by kernel_rfl) (lam_ok (tab := []) (by kernel_rfl) (fun p hp => by cases hp)) e_laws_heldIntsResult

/-! laws.szInt64S -/
abbrev sp_laws_szInt64S : Sp := ⟨12, [(0, .val false (.sl (.int .i64))), (1, .val false (.int .i64))], [], []⟩
abbrev sq_laws_szInt64S : Sp := ⟨1, [(0, .val false (.int .i64))], [], []⟩
noncomputable def g_laws_szInt64S : List (FuncId × SumX) := []
def j_laws_szInt64S : Nat → Option (List (Nat × SS)) := jOf []
theorem gok_laws_szInt64S : GOk P (gamOf g_laws_szInt64S) := gam_ok (tab := g_laws_szInt64S) (fun p hp => by cases hp)
noncomputable abbrev b_laws_szInt64S : Code := bodyOf Try.f79
noncomputable def F_laws_szInt64S (x1 : K.T (.sl (.int .i64))) (x2 : K.T (.int .i64)) : Option sq_laws_szInt64S.T :=
  bif (decide ((IntKind.wrap .i64 (x2 - ((x1).length : Int))) < (0 : Int))) then
    (some (((-1 : Int), ()), (), ()))
  else
  some (((IntKind.wrap .i64 (x2 - ((x1).length : Int))), ()), (), ())
noncomputable abbrev U_laws_szInt64S : sp_laws_szInt64S.T → Option sq_laws_szInt64S.T := fun x => F_laws_szInt64S x.1.1 x.1.2.1
theorem e_laws_szInt64S : ∀ x, evCode ty (gamOf g_laws_szInt64S) j_laws_szInt64S (lamOf []) b_laws_szInt64S (sp_laws_szInt64S.hd x) (finN ty sq_laws_szInt64S [.tmp 4]) = U_laws_szInt64S x := fun x => by kernel_rfl
theorem c_laws_szInt64S : FnS P 79 sp_laws_szInt64S sq_laws_szInt64S U_laws_szInt64S :=
  fnS_of_ev tyOk mixed gok_laws_szInt64S (fn := Try.f79) (by kernel_rfl) (c := b_laws_szInt64S) (by kernel_rfl) (by kernel_rfl) (by kernel_rfl) (lam_ok (tab := []) (by kernel_rfl) (fun p hp => by cases hp)) e_laws_szInt64S

/-! laws.szPortS -/
abbrev sp_laws_szPortS : Sp := ⟨12, [(0, .val false (.sl k0)), (1, .val false (.int .i64))], [], []⟩
abbrev sq_laws_szPortS : Sp := ⟨1, [(0, .val false (.int .i64))], [], []⟩
noncomputable def g_laws_szPortS : List (FuncId × SumX) := []
def j_laws_szPortS : Nat → Option (List (Nat × SS)) := jOf []
theorem gok_laws_szPortS : GOk P (gamOf g_laws_szPortS) := gam_ok (tab := g_laws_szPortS) (fun p hp => by cases hp)
noncomputable abbrev b_laws_szPortS : Code := bodyOf Try.f91
noncomputable def F_laws_szPortS (x1 : K.T (.sl k0)) (x2 : K.T (.int .i64)) : Option sq_laws_szPortS.T :=
  bif (decide ((IntKind.wrap .i64 (x2 - ((x1).length : Int))) < (0 : Int))) then
    (some (((-1 : Int), ()), (), ()))
  else
  some (((IntKind.wrap .i64 (x2 - ((x1).length : Int))), ()), (), ())
noncomputable abbrev U_laws_szPortS : sp_laws_szPortS.T → Option sq_laws_szPortS.T := fun x => F_laws_szPortS x.1.1 x.1.2.1
theorem e_laws_szPortS : ∀ x, evCode ty (gamOf g_laws_szPortS) j_laws_szPortS (lamOf []) b_laws_szPortS (sp_laws_szPortS.hd x) (finN ty sq_laws_szPortS [.tmp 4]) = U_laws_szPortS x := fun x => by kernel_rfl
theorem c_laws_szPortS : FnS P 91 sp_laws_szPortS sq_laws_szPortS U_laws_szPortS :=
  fnS_of_ev tyOk mixed gok_laws_szPortS (fn := Try.f91) (by kernel_rfl) (c := b_laws_szPortS) (by kernel_rfl) (by kernel_rfl) (by kernel_rfl) (lam_ok (tab := []) (by kernel_rfl) (fun p hp => by cases hp)) e_laws_szPortS

/-! laws.szBuild -/
abbrev sp_laws_szBuild : Sp := ⟨42, [(0, .val true k9), (1, .val false (.int .i64))], [], []⟩
abbrev sq_laws_szBuild : Sp := ⟨1, [(0, .val false (.int .i64))], [], []⟩
noncomputable def g_laws_szBuild : List (FuncId × SumX) := [(79, cN sp_laws_szInt64S sq_laws_szInt64S U_laws_szInt64S), (91, cN sp_laws_szPortS sq_laws_szPortS U_laws_szPortS)]
def j_laws_szBuild : Nat → Option (List (Nat × SS)) := jOf []
theorem gok_laws_szBuild : GOk P (gamOf g_laws_szBuild) := gam_ok (tab := g_laws_szBuild) (by
    intro p hp
    simp only [g_laws_szBuild, List.mem_cons, List.not_mem_nil, or_false] at hp
    rcases hp with rfl | rfl
    · exact cN_ok c_laws_szInt64S rfl
    · exact cN_ok c_laws_szPortS rfl)
noncomputable abbrev b_laws_szBuild : Code := bodyOf Try.f31
noncomputable def F_laws_szBuild (x1 : K.T k9) (x2 : K.T (.int .i64)) : Option sq_laws_szBuild.T :=
  (F_laws_szPortS x1.2.1 x2).bind fun y1 =>
  bif (decide (y1.1.1 < (0 : Int))) then
    (some (((-1 : Int), ()), (), ()))
  else
  (F_laws_szInt64S x1.2.2.1 y1.1.1).bind fun y2 =>
  bif (decide (y2.1.1 < (0 : Int))) then
    (some (((-1 : Int), ()), (), ()))
  else
  (F_laws_szInt64S x1.2.2.2.1 y2.1.1).bind fun y3 =>
  bif (decide (y3.1.1 < (0 : Int))) then
    (some (((-1 : Int), ()), (), ()))
  else
  (F_laws_szInt64S x1.2.2.2.2.1 y3.1.1).bind fun y4 =>
  bif (decide (y4.1.1 < (0 : Int))) then
    (some (((-1 : Int), ()), (), ()))
  else
  (F_laws_szInt64S x1.2.2.2.2.2.1 y4.1.1).bind fun y5 =>
  bif (decide (y5.1.1 < (0 : Int))) then
    (some (((-1 : Int), ()), (), ()))
  else
  (F_laws_szInt64S x1.2.2.2.2.2.2.1 y5.1.1).bind fun y6 =>
  bif (decide (y6.1.1 < (0 : Int))) then
    (some (((-1 : Int), ()), (), ()))
  else
  some ((y6.1.1, ()), (), ())
noncomputable abbrev U_laws_szBuild : sp_laws_szBuild.T → Option sq_laws_szBuild.T := fun x => F_laws_szBuild x.1.1 x.1.2.1
theorem e_laws_szBuild : ∀ x, evCode ty (gamOf g_laws_szBuild) j_laws_szBuild (lamOf []) b_laws_szBuild (sp_laws_szBuild.hd x) (finN ty sq_laws_szBuild [.tmp 4]) = U_laws_szBuild x := fun x => by kernel_rfl
theorem c_laws_szBuild : FnS P 31 sp_laws_szBuild sq_laws_szBuild U_laws_szBuild :=
  fnS_of_ev tyOk mixed gok_laws_szBuild (fn := Try.f31) (by kernel_rfl) (c := b_laws_szBuild) (by kernel_rfl) (by kernel_rfl) (by kernel_rfl) (lam_ok (tab := []) (by kernel_rfl) (fun p hp => by cases hp)) e_laws_szBuild

/-! laws.toInt64S -/
abbrev sp_laws_toInt64S : Sp := ⟨22, [(0, .val false (.sl (.int .i64)))], [], []⟩
abbrev sq_laws_toInt64S : Sp := ⟨1, [(0, .fix (.own 59000))], [], [(59000, (.int .i64), true)]⟩
noncomputable def g_laws_toInt64S : List (FuncId × SumX) := []
def j_laws_toInt64S : Nat → Option (List (Nat × SS)) := jOf []
theorem gok_laws_toInt64S : GOk P (gamOf g_laws_toInt64S) := gam_ok (tab := g_laws_toInt64S) (fun p hp => by cases hp)
noncomputable abbrev b_laws_toInt64S : Code := bodyOf Try.f44
abbrev sp_laws_toInt64S_l3 : Sp := ⟨22, [(0, .val false (.sl (.int .i64))), (3, .fix (.own 59000)), (4, .val false (.int .i64))], [], [(59000, (.int .i64), true)]⟩
abbrev xs_laws_toInt64S_l3 : List (Ex × Sp) := [(.exit 0, ⟨22, [(3, .fix (.own 59000))], [], [(59000, (.int .i64), true)]⟩)]
noncomputable def s_laws_toInt64S_l3 : sp_laws_toInt64S_l3.T → Option (sp_laws_toInt64S_l3.T ⊕ XT xs_laws_toInt64S_l3) := fun x =>
  bif (decide (x.1.2.1 < ((x.1.1).length : Int))) then
    (bif ib x.1.2.1 (x.1.1).length then
    bif ib x.1.2.1 (x.2.2.1).length then
    some (.inl ((x.1.1, ((IntKind.wrap .i64 (x.1.2.1 + (1 : Int))), ())), (), ((x.2.2.1).set (Int.toNat x.1.2.1) ((x.1.1).getD (Int.toNat x.1.2.1) (K.zero (.int .i64))), ())))
    else none
    else none)
  else
  some (.inr ((), (), (x.2.2.1, ())))
noncomputable def l_laws_toInt64S_l3 : sp_laws_toInt64S_l3.T → Option (XT xs_laws_toInt64S_l3) := lim s_laws_toInt64S_l3
theorem es_laws_toInt64S_l3 : ∀ x, evCode ty (gamOf g_laws_toInt64S) j_laws_toInt64S (lamOf []) (loopAt b_laws_toInt64S 3) (sp_laws_toInt64S_l3.hd x) (rdK sp_laws_toInt64S_l3 xs_laws_toInt64S_l3) = s_laws_toInt64S_l3 x := fun x => by kernel_rfl
theorem ls_laws_toInt64S_l3 : LSumOk P (loopAt b_laws_toInt64S 3) (loopL sp_laws_toInt64S_l3 xs_laws_toInt64S_l3 l_laws_toInt64S_l3) := loop_ok tyOk mixed gok_laws_toInt64S (by kernel_rfl) (by kernel_rfl) (lam_ok (tab := []) (by kernel_rfl) (fun p hp => by cases hp)) es_laws_toInt64S_l3 lim_itr
noncomputable def F_laws_toInt64S (x1 : K.T (.sl (.int .i64))) : Option sq_laws_toInt64S.T :=
  bif decide (0 ≤ ((x1).length : Int) ∧ ((x1).length : Int) ≤ ((x1).length : Int)) then
  bif room (Int.toNat ((x1).length : Int)) 8 then
  (l_laws_toInt64S_l3 ((x1, ((0 : Int), ())), (), ((List.replicate (Int.toNat ((x1).length : Int)) (K.zero (.int .i64))), ()))).bind fun y1 =>
  some ((), (), (y1.2.2.1, ()))
  else none
  else none
noncomputable abbrev U_laws_toInt64S : sp_laws_toInt64S.T → Option sq_laws_toInt64S.T := fun x => F_laws_toInt64S x.1.1
theorem e_laws_toInt64S : ∀ x, evCode ty (gamOf g_laws_toInt64S) j_laws_toInt64S (lamOf [(3, loopL sp_laws_toInt64S_l3 xs_laws_toInt64S_l3 l_laws_toInt64S_l3)]) b_laws_toInt64S (sp_laws_toInt64S.hd x) (finN ty sq_laws_toInt64S [.tmp 2]) = U_laws_toInt64S x := fun x => by kernel_rfl
theorem c_laws_toInt64S : FnS P 44 sp_laws_toInt64S sq_laws_toInt64S U_laws_toInt64S :=
  fnS_of_ev tyOk mixed gok_laws_toInt64S (fn := Try.f44) (by kernel_rfl) (c := b_laws_toInt64S) (by kernel_rfl) (by kernel_rfl) (by kernel_rfl) (lam_ok (tab := [(3, loopL sp_laws_toInt64S_l3 xs_laws_toInt64S_l3 l_laws_toInt64S_l3)]) (by kernel_rfl) (by
    intro p hp
    simp only [List.mem_cons, List.not_mem_nil, or_false] at hp
    rcases hp with rfl
    · exact @ls_laws_toInt64S_l3)) e_laws_toInt64S

/-! laws.toPort -/
abbrev sp_laws_toPort : Sp := ⟨11, [(0, .val true k0)], [], []⟩
abbrev sq_laws_toPort : Sp := ⟨1, [(0, .val true k0)], [], []⟩
noncomputable def g_laws_toPort : List (FuncId × SumX) := []
def j_laws_toPort : Nat → Option (List (Nat × SS)) := jOf []
theorem gok_laws_toPort : GOk P (gamOf g_laws_toPort) := gam_ok (tab := g_laws_toPort) (fun p hp => by cases hp)
noncomputable abbrev b_laws_toPort : Code := bodyOf Try.f150
noncomputable def F_laws_toPort (x1 : K.T k0) : Option sq_laws_toPort.T :=
  some ((x1, ()), (), ())
noncomputable abbrev U_laws_toPort : sp_laws_toPort.T → Option sq_laws_toPort.T := fun x => F_laws_toPort x.1.1
theorem e_laws_toPort : ∀ x, evCode ty (gamOf g_laws_toPort) j_laws_toPort (lamOf []) b_laws_toPort (sp_laws_toPort.hd x) (finN ty sq_laws_toPort [.cell 2 117]) = U_laws_toPort x := fun x => by kernel_rfl
theorem c_laws_toPort : FnS P 150 sp_laws_toPort sq_laws_toPort U_laws_toPort :=
  fnS_of_ev tyOk mixed gok_laws_toPort (fn := Try.f150) (by kernel_rfl) (c := b_laws_toPort) (by kernel_rfl) (by kernel_rfl) (by kernel_rfl) (lam_ok (tab := []) (by kernel_rfl) (fun p hp => by cases hp)) e_laws_toPort

/-! laws.toPortS -/
abbrev sp_laws_toPortS : Sp := ⟨23, [(0, .val false (.sl k0))], [], []⟩
abbrev sq_laws_toPortS : Sp := ⟨1, [(0, .fix (.own 59000))], [], [(59000, k0, true)]⟩
noncomputable def g_laws_toPortS : List (FuncId × SumX) := [(150, cN sp_laws_toPort sq_laws_toPort U_laws_toPort)]
def j_laws_toPortS : Nat → Option (List (Nat × SS)) := jOf []
theorem gok_laws_toPortS : GOk P (gamOf g_laws_toPortS) := gam_ok (tab := g_laws_toPortS) (by
    intro p hp
    simp only [g_laws_toPortS, List.mem_cons, List.not_mem_nil, or_false] at hp
    rcases hp with rfl
    · exact cN_ok c_laws_toPort rfl)
noncomputable abbrev b_laws_toPortS : Code := bodyOf Try.f93
abbrev sp_laws_toPortS_l3 : Sp := ⟨23, [(0, .val false (.sl k0)), (3, .fix (.own 59000)), (4, .val false (.int .i64))], [], [(59000, k0, true)]⟩
abbrev xs_laws_toPortS_l3 : List (Ex × Sp) := [(.exit 0, ⟨23, [(3, .fix (.own 59000))], [], [(59000, k0, true)]⟩)]
noncomputable def s_laws_toPortS_l3 : sp_laws_toPortS_l3.T → Option (sp_laws_toPortS_l3.T ⊕ XT xs_laws_toPortS_l3) := fun x =>
  bif (decide (x.1.2.1 < ((x.1.1).length : Int))) then
    (bif ib x.1.2.1 (x.1.1).length then
    (F_laws_toPort ((x.1.1).getD (Int.toNat x.1.2.1) (K.zero k0))).bind fun y1 =>
    bif ib x.1.2.1 (x.2.2.1).length then
    some (.inl ((x.1.1, ((IntKind.wrap .i64 (x.1.2.1 + (1 : Int))), ())), (), ((x.2.2.1).set (Int.toNat x.1.2.1) y1.1.1, ())))
    else none
    else none)
  else
  some (.inr ((), (), (x.2.2.1, ())))
noncomputable def l_laws_toPortS_l3 : sp_laws_toPortS_l3.T → Option (XT xs_laws_toPortS_l3) := lim s_laws_toPortS_l3
theorem es_laws_toPortS_l3 : ∀ x, evCode ty (gamOf g_laws_toPortS) j_laws_toPortS (lamOf []) (loopAt b_laws_toPortS 3) (sp_laws_toPortS_l3.hd x) (rdK sp_laws_toPortS_l3 xs_laws_toPortS_l3) = s_laws_toPortS_l3 x := fun x => by kernel_rfl
theorem ls_laws_toPortS_l3 : LSumOk P (loopAt b_laws_toPortS 3) (loopL sp_laws_toPortS_l3 xs_laws_toPortS_l3 l_laws_toPortS_l3) := loop_ok tyOk mixed gok_laws_toPortS (by kernel_rfl) (by kernel_rfl) (lam_ok (tab := []) (by kernel_rfl) (fun p hp => by cases hp)) es_laws_toPortS_l3 lim_itr
noncomputable def F_laws_toPortS (x1 : K.T (.sl k0)) : Option sq_laws_toPortS.T :=
  bif decide (0 ≤ ((x1).length : Int) ∧ ((x1).length : Int) ≤ ((x1).length : Int)) then
  bif room (Int.toNat ((x1).length : Int)) 16 then
  (l_laws_toPortS_l3 ((x1, ((0 : Int), ())), (), ((List.replicate (Int.toNat ((x1).length : Int)) (K.zero k0)), ()))).bind fun y2 =>
  some ((), (), (y2.2.2.1, ()))
  else none
  else none
noncomputable abbrev U_laws_toPortS : sp_laws_toPortS.T → Option sq_laws_toPortS.T := fun x => F_laws_toPortS x.1.1
theorem e_laws_toPortS : ∀ x, evCode ty (gamOf g_laws_toPortS) j_laws_toPortS (lamOf [(3, loopL sp_laws_toPortS_l3 xs_laws_toPortS_l3 l_laws_toPortS_l3)]) b_laws_toPortS (sp_laws_toPortS.hd x) (finN ty sq_laws_toPortS [.tmp 2]) = U_laws_toPortS x := fun x => by kernel_rfl
theorem c_laws_toPortS : FnS P 93 sp_laws_toPortS sq_laws_toPortS U_laws_toPortS :=
  fnS_of_ev tyOk mixed gok_laws_toPortS (fn := Try.f93) (by kernel_rfl) (c := b_laws_toPortS) (by kernel_rfl) (by kernel_rfl) (by kernel_rfl) (lam_ok (tab := [(3, loopL sp_laws_toPortS_l3 xs_laws_toPortS_l3 l_laws_toPortS_l3)]) (by kernel_rfl) (by
    intro p hp
    simp only [List.mem_cons, List.not_mem_nil, or_false] at hp
    rcases hp with rfl
    · exact @ls_laws_toPortS_l3)) e_laws_toPortS

/-! laws.toBuild -/
abbrev sp_laws_toBuild : Sp := ⟨38, [(0, .val true k9)], [], []⟩
abbrev sq_laws_toBuild : Sp := ⟨1, [(0, .mix true [.val (.int .i64), .fix (.own 59000), .fix (.own 59001), .fix (.own 59002), .fix (.own 59003), .fix (.own 59004), .fix (.own 59005), .val (.int .i64), .val (.int .i64)])], [], [(59000, k0, true), (59001, (.int .i64), true), (59002, (.int .i64), true), (59003, (.int .i64), true), (59004, (.int .i64), true), (59005, (.int .i64), true)]⟩
noncomputable def g_laws_toBuild : List (FuncId × SumX) := [(44, fN sp_laws_toInt64S sq_laws_toInt64S U_laws_toInt64S), (93, fN sp_laws_toPortS sq_laws_toPortS U_laws_toPortS)]
def j_laws_toBuild : Nat → Option (List (Nat × SS)) := jOf []
theorem gok_laws_toBuild : GOk P (gamOf g_laws_toBuild) := gam_ok (tab := g_laws_toBuild) (by
    intro p hp
    simp only [g_laws_toBuild, List.mem_cons, List.not_mem_nil, or_false] at hp
    rcases hp with rfl | rfl
    · exact fN_ok c_laws_toInt64S rfl
    · exact fN_ok c_laws_toPortS rfl)
noncomputable abbrev b_laws_toBuild : Code := bodyOf Try.f33
noncomputable def F_laws_toBuild (x1 : K.T k9) : Option sq_laws_toBuild.T :=
  (F_laws_toPortS x1.2.1).bind fun y1 =>
  (F_laws_toInt64S x1.2.2.1).bind fun y2 =>
  (F_laws_toInt64S x1.2.2.2.1).bind fun y3 =>
  (F_laws_toInt64S x1.2.2.2.2.1).bind fun y4 =>
  (F_laws_toInt64S x1.2.2.2.2.2.1).bind fun y5 =>
  (F_laws_toInt64S x1.2.2.2.2.2.2.1).bind fun y6 =>
  some (((x1.1, (x1.2.2.2.2.2.2.2.1, (x1.2.2.2.2.2.2.2.2, ()))), ()), (), (y1.2.2.1, (y2.2.2.1, (y3.2.2.1, (y4.2.2.1, (y5.2.2.1, (y6.2.2.1, ())))))))
noncomputable abbrev U_laws_toBuild : sp_laws_toBuild.T → Option sq_laws_toBuild.T := fun x => F_laws_toBuild x.1.1
theorem e_laws_toBuild : ∀ x, evCode ty (gamOf g_laws_toBuild) j_laws_toBuild (lamOf []) b_laws_toBuild (sp_laws_toBuild.hd x) (finN ty sq_laws_toBuild [.cell 2 49]) = U_laws_toBuild x := fun x => by kernel_rfl
theorem c_laws_toBuild : FnS P 33 sp_laws_toBuild sq_laws_toBuild U_laws_toBuild :=
  fnS_of_ev tyOk mixed gok_laws_toBuild (fn := Try.f33) (by kernel_rfl) (c := b_laws_toBuild) (by kernel_rfl) (by kernel_rfl) (by kernel_rfl) (lam_ok (tab := []) (by kernel_rfl) (fun p hp => by cases hp)) e_laws_toBuild

/-! laws.eqPort -/
abbrev sp_laws_eqPort : Sp := ⟨15, [(0, .val true k0), (1, .val true k0)], [], []⟩
abbrev sq_laws_eqPort : Sp := ⟨1, [(0, .val false .bool)], [], []⟩
noncomputable def g_laws_eqPort : List (FuncId × SumX) := []
def j_laws_eqPort : Nat → Option (List (Nat × SS)) := jOf []
theorem gok_laws_eqPort : GOk P (gamOf g_laws_eqPort) := gam_ok (tab := g_laws_eqPort) (fun p hp => by cases hp)
noncomputable abbrev b_laws_eqPort : Code := bodyOf Try.f153
noncomputable def F_laws_eqPort (x1 : K.T k0) (x2 : K.T k0) : Option sq_laws_eqPort.T :=
  bif (x1.1 != x2.1) then
    (some ((false, ()), (), ()))
  else
  bif (!(x1.2 == x2.2)) then
    (some ((false, ()), (), ()))
  else
  some ((true, ()), (), ())
noncomputable abbrev U_laws_eqPort : sp_laws_eqPort.T → Option sq_laws_eqPort.T := fun x => F_laws_eqPort x.1.1 x.1.2.1
theorem e_laws_eqPort : ∀ x, evCode ty (gamOf g_laws_eqPort) j_laws_eqPort (lamOf []) b_laws_eqPort (sp_laws_eqPort.hd x) (finN ty sq_laws_eqPort [.tmp 4]) = U_laws_eqPort x := fun x => by kernel_rfl
theorem c_laws_eqPort : FnS P 153 sp_laws_eqPort sq_laws_eqPort U_laws_eqPort :=
  fnS_of_ev tyOk mixed gok_laws_eqPort (fn := Try.f153) (by kernel_rfl) (c := b_laws_eqPort) (by kernel_rfl) (by kernel_rfl) (by kernel_rfl) (lam_ok (tab := []) (by kernel_rfl) (fun p hp => by cases hp)) e_laws_eqPort

/-! laws.eqPortS -/
abbrev sp_laws_eqPortS : Sp := ⟨27, [(0, .val false (.sl k0)), (1, .val false (.sl k0))], [], []⟩
abbrev sq_laws_eqPortS : Sp := ⟨1, [(0, .val false .bool)], [], []⟩
noncomputable def g_laws_eqPortS : List (FuncId × SumX) := [(153, cN sp_laws_eqPort sq_laws_eqPort U_laws_eqPort)]
def j_laws_eqPortS : Nat → Option (List (Nat × SS)) := jOf []
theorem gok_laws_eqPortS : GOk P (gamOf g_laws_eqPortS) := gam_ok (tab := g_laws_eqPortS) (by
    intro p hp
    simp only [g_laws_eqPortS, List.mem_cons, List.not_mem_nil, or_false] at hp
    rcases hp with rfl
    · exact cN_ok c_laws_eqPort rfl)
noncomputable abbrev b_laws_eqPortS : Code := bodyOf Try.f102
abbrev sp_laws_eqPortS_l4 : Sp := ⟨27, [(0, .val false (.sl k0)), (1, .val false (.sl k0)), (5, .val false (.int .i64))], [], []⟩
abbrev xs_laws_eqPortS_l4 : List (Ex × Sp) := [(.exit 0, ⟨27, [], [], []⟩), (.ret, ⟨27, [(4, .val false .bool)], [], []⟩)]
noncomputable def s_laws_eqPortS_l4 : sp_laws_eqPortS_l4.T → Option (sp_laws_eqPortS_l4.T ⊕ XT xs_laws_eqPortS_l4) := fun x =>
  bif (decide (x.1.2.2.1 < ((x.1.1).length : Int))) then
    (bif ib x.1.2.2.1 (x.1.1).length then
    bif ib x.1.2.2.1 (x.1.2.1).length then
    (F_laws_eqPort ((x.1.1).getD (Int.toNat x.1.2.2.1) (K.zero k0)) ((x.1.2.1).getD (Int.toNat x.1.2.2.1) (K.zero k0))).bind fun y1 =>
    bif (!y1.1.1) then
      (some (.inr (.inr ((false, ()), (), ()))))
    else
    some (.inl ((x.1.1, (x.1.2.1, ((IntKind.wrap .i64 (x.1.2.2.1 + (1 : Int))), ()))), (), ()))
    else none
    else none)
  else
  some (.inr (.inl ((), (), ())))
noncomputable def l_laws_eqPortS_l4 : sp_laws_eqPortS_l4.T → Option (XT xs_laws_eqPortS_l4) := lim s_laws_eqPortS_l4
theorem es_laws_eqPortS_l4 : ∀ x, evCode ty (gamOf g_laws_eqPortS) j_laws_eqPortS (lamOf []) (loopAt b_laws_eqPortS 4) (sp_laws_eqPortS_l4.hd x) (rdK sp_laws_eqPortS_l4 xs_laws_eqPortS_l4) = s_laws_eqPortS_l4 x := fun x => by kernel_rfl
theorem ls_laws_eqPortS_l4 : LSumOk P (loopAt b_laws_eqPortS 4) (loopL sp_laws_eqPortS_l4 xs_laws_eqPortS_l4 l_laws_eqPortS_l4) := loop_ok tyOk mixed gok_laws_eqPortS (by kernel_rfl) (by kernel_rfl) (lam_ok (tab := []) (by kernel_rfl) (fun p hp => by cases hp)) es_laws_eqPortS_l4 lim_itr
noncomputable def F_laws_eqPortS (x1 : K.T (.sl k0)) (x2 : K.T (.sl k0)) : Option sq_laws_eqPortS.T :=
  bif (((x1).length : Int) != ((x2).length : Int)) then
    (some ((false, ()), (), ()))
  else
  (l_laws_eqPortS_l4 ((x1, (x2, ((0 : Int), ()))), (), ())).bind fun y2 =>
  (match y2 with
  | .inl y3 => some ((true, ()), (), ())
  | .inr z4 => some ((z4.1.1, ()), (), ()))
noncomputable abbrev U_laws_eqPortS : sp_laws_eqPortS.T → Option sq_laws_eqPortS.T := fun x => F_laws_eqPortS x.1.1 x.1.2.1
theorem e_laws_eqPortS : ∀ x, evCode ty (gamOf g_laws_eqPortS) j_laws_eqPortS (lamOf [(4, loopL sp_laws_eqPortS_l4 xs_laws_eqPortS_l4 l_laws_eqPortS_l4)]) b_laws_eqPortS (sp_laws_eqPortS.hd x) (finN ty sq_laws_eqPortS [.tmp 4]) = U_laws_eqPortS x := fun x => by kernel_rfl
theorem c_laws_eqPortS : FnS P 102 sp_laws_eqPortS sq_laws_eqPortS U_laws_eqPortS :=
  fnS_of_ev tyOk mixed gok_laws_eqPortS (fn := Try.f102) (by kernel_rfl) (c := b_laws_eqPortS) (by kernel_rfl) (by kernel_rfl) (by kernel_rfl) (lam_ok (tab := [(4, loopL sp_laws_eqPortS_l4 xs_laws_eqPortS_l4 l_laws_eqPortS_l4)]) (by kernel_rfl) (by
    intro p hp
    simp only [List.mem_cons, List.not_mem_nil, or_false] at hp
    rcases hp with rfl
    · exact @ls_laws_eqPortS_l4)) e_laws_eqPortS

/-! laws.eqBuild -/
abbrev sp_laws_eqBuild : Sp := ⟨56, [(0, .val true k9), (1, .val true k9)], [], []⟩
abbrev sq_laws_eqBuild : Sp := ⟨1, [(0, .val false .bool)], [], []⟩
noncomputable def g_laws_eqBuild : List (FuncId × SumX) := [(47, cN sp_laws_eqInt64S sq_laws_eqInt64S U_laws_eqInt64S), (102, cN sp_laws_eqPortS sq_laws_eqPortS U_laws_eqPortS)]
def j_laws_eqBuild : Nat → Option (List (Nat × SS)) := jOf []
theorem gok_laws_eqBuild : GOk P (gamOf g_laws_eqBuild) := gam_ok (tab := g_laws_eqBuild) (by
    intro p hp
    simp only [g_laws_eqBuild, List.mem_cons, List.not_mem_nil, or_false] at hp
    rcases hp with rfl | rfl
    · exact cN_ok c_laws_eqInt64S rfl
    · exact cN_ok c_laws_eqPortS rfl)
noncomputable abbrev b_laws_eqBuild : Code := bodyOf Try.f35
noncomputable def F_laws_eqBuild (x1 : K.T k9) (x2 : K.T k9) : Option sq_laws_eqBuild.T :=
  bif (x1.1 != x2.1) then
    (some ((false, ()), (), ()))
  else
  (F_laws_eqPortS x1.2.1 x2.2.1).bind fun y1 =>
  bif (!y1.1.1) then
    (some ((false, ()), (), ()))
  else
  (F_laws_eqInt64S x1.2.2.1 x2.2.2.1).bind fun y2 =>
  bif (!y2.1.1) then
    (some ((false, ()), (), ()))
  else
  (F_laws_eqInt64S x1.2.2.2.1 x2.2.2.2.1).bind fun y3 =>
  bif (!y3.1.1) then
    (some ((false, ()), (), ()))
  else
  (F_laws_eqInt64S x1.2.2.2.2.1 x2.2.2.2.2.1).bind fun y4 =>
  bif (!y4.1.1) then
    (some ((false, ()), (), ()))
  else
  (F_laws_eqInt64S x1.2.2.2.2.2.1 x2.2.2.2.2.2.1).bind fun y5 =>
  bif (!y5.1.1) then
    (some ((false, ()), (), ()))
  else
  (F_laws_eqInt64S x1.2.2.2.2.2.2.1 x2.2.2.2.2.2.2.1).bind fun y6 =>
  bif (!y6.1.1) then
    (some ((false, ()), (), ()))
  else
  bif (x1.2.2.2.2.2.2.2.1 != x2.2.2.2.2.2.2.2.1) then
    (some ((false, ()), (), ()))
  else
  bif (x1.2.2.2.2.2.2.2.2 != x2.2.2.2.2.2.2.2.2) then
    (some ((false, ()), (), ()))
  else
  some ((true, ()), (), ())
noncomputable abbrev U_laws_eqBuild : sp_laws_eqBuild.T → Option sq_laws_eqBuild.T := fun x => F_laws_eqBuild x.1.1 x.1.2.1
theorem e_laws_eqBuild : ∀ x, evCode ty (gamOf g_laws_eqBuild) j_laws_eqBuild (lamOf []) b_laws_eqBuild (sp_laws_eqBuild.hd x) (finN ty sq_laws_eqBuild [.tmp 4]) = U_laws_eqBuild x := fun x => by kernel_rfl
theorem c_laws_eqBuild : FnS P 35 sp_laws_eqBuild sq_laws_eqBuild U_laws_eqBuild :=
  fnS_of_ev tyOk mixed gok_laws_eqBuild (fn := Try.f35) (by kernel_rfl) (c := b_laws_eqBuild) (by kernel_rfl) (by kernel_rfl) (by kernel_rfl) (lam_ok (tab := []) (by kernel_rfl) (fun p hp => by cases hp)) e_laws_eqBuild

/-! spec.l12Same -/
abbrev sp_spec_l12Same : Sp := ⟨26, [(0, .val false (.sl (.int .i64))), (1, .val false (.sl (.int .i64)))], [], []⟩
abbrev sq_spec_l12Same : Sp := ⟨1, [(0, .val false .bool)], [], []⟩
noncomputable def g_spec_l12Same : List (FuncId × SumX) := []
def j_spec_l12Same : Nat → Option (List (Nat × SS)) := jOf []
theorem gok_spec_l12Same : GOk P (gamOf g_spec_l12Same) := gam_ok (tab := g_spec_l12Same) (fun p hp => by cases hp)
noncomputable abbrev b_spec_l12Same : Code := bodyOf Try.f114
abbrev sp_spec_l12Same_l4 : Sp := ⟨26, [(0, .val false (.sl (.int .i64))), (1, .val false (.sl (.int .i64))), (5, .val false (.int .i64))], [], []⟩
abbrev xs_spec_l12Same_l4 : List (Ex × Sp) := [(.exit 0, ⟨26, [], [], []⟩), (.ret, ⟨26, [(4, .val false .bool)], [], []⟩)]
noncomputable def s_spec_l12Same_l4 : sp_spec_l12Same_l4.T → Option (sp_spec_l12Same_l4.T ⊕ XT xs_spec_l12Same_l4) := fun x =>
  bif (decide (x.1.2.2.1 < ((x.1.1).length : Int))) then
    (bif ib x.1.2.2.1 (x.1.1).length then
    bif ib x.1.2.2.1 (x.1.2.1).length then
    bif (((x.1.1).getD (Int.toNat x.1.2.2.1) (K.zero (.int .i64))) != ((x.1.2.1).getD (Int.toNat x.1.2.2.1) (K.zero (.int .i64)))) then
      (some (.inr (.inr ((false, ()), (), ()))))
    else
    some (.inl ((x.1.1, (x.1.2.1, ((IntKind.wrap .i64 (x.1.2.2.1 + (1 : Int))), ()))), (), ()))
    else none
    else none)
  else
  some (.inr (.inl ((), (), ())))
noncomputable def l_spec_l12Same_l4 : sp_spec_l12Same_l4.T → Option (XT xs_spec_l12Same_l4) := lim s_spec_l12Same_l4
theorem es_spec_l12Same_l4 : ∀ x, evCode ty (gamOf g_spec_l12Same) j_spec_l12Same (lamOf []) (loopAt b_spec_l12Same 4) (sp_spec_l12Same_l4.hd x) (rdK sp_spec_l12Same_l4 xs_spec_l12Same_l4) = s_spec_l12Same_l4 x := fun x => by kernel_rfl
theorem ls_spec_l12Same_l4 : LSumOk P (loopAt b_spec_l12Same 4) (loopL sp_spec_l12Same_l4 xs_spec_l12Same_l4 l_spec_l12Same_l4) := loop_ok tyOk mixed gok_spec_l12Same (by kernel_rfl) (by kernel_rfl) (lam_ok (tab := []) (by kernel_rfl) (fun p hp => by cases hp)) es_spec_l12Same_l4 lim_itr
noncomputable def F_spec_l12Same (x1 : K.T (.sl (.int .i64))) (x2 : K.T (.sl (.int .i64))) : Option sq_spec_l12Same.T :=
  bif (((x1).length : Int) != ((x2).length : Int)) then
    (some ((false, ()), (), ()))
  else
  (l_spec_l12Same_l4 ((x1, (x2, ((0 : Int), ()))), (), ())).bind fun y1 =>
  (match y1 with
  | .inl y2 => some ((true, ()), (), ())
  | .inr z3 => some ((z3.1.1, ()), (), ()))
noncomputable abbrev U_spec_l12Same : sp_spec_l12Same.T → Option sq_spec_l12Same.T := fun x => F_spec_l12Same x.1.1 x.1.2.1
theorem e_spec_l12Same : ∀ x, evCode ty (gamOf g_spec_l12Same) j_spec_l12Same (lamOf [(4, loopL sp_spec_l12Same_l4 xs_spec_l12Same_l4 l_spec_l12Same_l4)]) b_spec_l12Same (sp_spec_l12Same.hd x) (finN ty sq_spec_l12Same [.tmp 4]) = U_spec_l12Same x := fun x => by kernel_rfl
theorem c_spec_l12Same : FnS P 114 sp_spec_l12Same sq_spec_l12Same U_spec_l12Same :=
  fnS_of_ev tyOk mixed gok_spec_l12Same (fn := Try.f114) (by kernel_rfl) (c := b_spec_l12Same) (by kernel_rfl) (by kernel_rfl) (by kernel_rfl) (lam_ok (tab := [(4, loopL sp_spec_l12Same_l4 xs_spec_l12Same_l4 l_spec_l12Same_l4)]) (by kernel_rfl) (by
    intro p hp
    simp only [List.mem_cons, List.not_mem_nil, or_false] at hp
    rcases hp with rfl
    · exact @ls_spec_l12Same_l4)) e_spec_l12Same

/-! spec.l1In -/
abbrev sp_spec_l1In : Sp := ⟨15, [(0, .val false (.int .i64)), (1, .val false (.int .i64)), (2, .val false (.int .i64))], [], []⟩
abbrev sq_spec_l1In : Sp := ⟨1, [(0, .val false .bool)], [], []⟩
noncomputable def g_spec_l1In : List (FuncId × SumX) := []
def j_spec_l1In : Nat → Option (List (Nat × SS)) := jOf [(1, [(6, .val false .bool)])]
theorem gok_spec_l1In : GOk P (gamOf g_spec_l1In) := gam_ok (tab := g_spec_l1In) (fun p hp => by cases hp)
noncomputable abbrev b_spec_l1In : Code := bodyOf Try.f131
noncomputable def F_spec_l1In (x1 : K.T (.int .i64)) (x2 : K.T (.int .i64)) (x3 : K.T (.int .i64)) : Option sq_spec_l1In.T :=
  (bif (decide (x1 ≥ x2)) then
      (some ((decide (x1 ≤ x3)), ()))
    else
    some (false, ())).bind fun y1 =>
  some ((y1.1, ()), (), ())
noncomputable abbrev U_spec_l1In : sp_spec_l1In.T → Option sq_spec_l1In.T := fun x => F_spec_l1In x.1.1 x.1.2.1 x.1.2.2.1
theorem e_spec_l1In : ∀ x, evCode ty (gamOf g_spec_l1In) j_spec_l1In (lamOf []) b_spec_l1In (sp_spec_l1In.hd x) (finN ty sq_spec_l1In [.tmp 6]) = U_spec_l1In x := fun x => by kernel_rfl
theorem c_spec_l1In : FnS P 131 sp_spec_l1In sq_spec_l1In U_spec_l1In :=
  fnS_of_ev tyOk mixed gok_spec_l1In (fn := Try.f131) (by kernel_rfl) (c := b_spec_l1In) (by kernel_rfl) (by kernel_rfl) (by kernel_rfl) (lam_ok (tab := []) (by kernel_rfl) (fun p hp => by cases hp)) e_spec_l1In

/-! spec.l1Word -/
abbrev sp_spec_l1Word : Sp := ⟨5, [(0, .val false (.int .i64))], [], []⟩
abbrev sq_spec_l1Word : Sp := ⟨1, [(0, .val false .bool)], [], []⟩
noncomputable def g_spec_l1Word : List (FuncId × SumX) := [(131, cN sp_spec_l1In sq_spec_l1In U_spec_l1In)]
def j_spec_l1Word : Nat → Option (List (Nat × SS)) := jOf []
theorem gok_spec_l1Word : GOk P (gamOf g_spec_l1Word) := gam_ok (tab := g_spec_l1Word) (by
    intro p hp
    simp only [g_spec_l1Word, List.mem_cons, List.not_mem_nil, or_false] at hp
    rcases hp with rfl
    · exact cN_ok c_spec_l1In rfl)
noncomputable abbrev b_spec_l1Word : Code := bodyOf Try.f146
noncomputable def F_spec_l1Word (x1 : K.T (.int .i64)) : Option sq_spec_l1Word.T :=
  (F_spec_l1In x1 (0 : Int) (65535 : Int)).bind fun y1 =>
  some ((y1.1.1, ()), (), ())
noncomputable abbrev U_spec_l1Word : sp_spec_l1Word.T → Option sq_spec_l1Word.T := fun x => F_spec_l1Word x.1.1
theorem e_spec_l1Word : ∀ x, evCode ty (gamOf g_spec_l1Word) j_spec_l1Word (lamOf []) b_spec_l1Word (sp_spec_l1Word.hd x) (finN ty sq_spec_l1Word [.tmp 2]) = U_spec_l1Word x := fun x => by kernel_rfl
theorem c_spec_l1Word : FnS P 146 sp_spec_l1Word sq_spec_l1Word U_spec_l1Word :=
  fnS_of_ev tyOk mixed gok_spec_l1Word (fn := Try.f146) (by kernel_rfl) (c := b_spec_l1Word) (by kernel_rfl) (by kernel_rfl) (by kernel_rfl) (lam_ok (tab := []) (by kernel_rfl) (fun p hp => by cases hp)) e_spec_l1Word

/-! spec.WordsFault -/
abbrev sp_spec_WordsFault : Sp := ⟨19, [(0, .val false (.sl (.int .i64)))], [], []⟩
abbrev sq_spec_WordsFault : Sp := ⟨1, [(0, .val false (.int .i64))], [], []⟩
noncomputable def g_spec_WordsFault : List (FuncId × SumX) := [(146, cN sp_spec_l1Word sq_spec_l1Word U_spec_l1Word)]
def j_spec_WordsFault : Nat → Option (List (Nat × SS)) := jOf []
theorem gok_spec_WordsFault : GOk P (gamOf g_spec_WordsFault) := gam_ok (tab := g_spec_WordsFault) (by
    intro p hp
    simp only [g_spec_WordsFault, List.mem_cons, List.not_mem_nil, or_false] at hp
    rcases hp with rfl
    · exact cN_ok c_spec_l1Word rfl)
noncomputable abbrev b_spec_WordsFault : Code := bodyOf Try.f129
abbrev sp_spec_WordsFault_l4 : Sp := ⟨19, [(0, .val false (.sl (.int .i64))), (3, .val false (.int .i64))], [], []⟩
abbrev xs_spec_WordsFault_l4 : List (Ex × Sp) := [(.exit 0, ⟨19, [], [], []⟩), (.ret, ⟨19, [(2, .val false (.int .i64))], [], []⟩)]
noncomputable def s_spec_WordsFault_l4 : sp_spec_WordsFault_l4.T → Option (sp_spec_WordsFault_l4.T ⊕ XT xs_spec_WordsFault_l4) := fun x =>
  bif (decide (x.1.2.1 < ((x.1.1).length : Int))) then
    (bif ib x.1.2.1 (x.1.1).length then
    (F_spec_l1Word ((x.1.1).getD (Int.toNat x.1.2.1) (K.zero (.int .i64)))).bind fun y1 =>
    bif (!y1.1.1) then
      (some (.inr (.inr (((3 : Int), ()), (), ()))))
    else
    some (.inl ((x.1.1, ((IntKind.wrap .i64 (x.1.2.1 + (1 : Int))), ())), (), ()))
    else none)
  else
  some (.inr (.inl ((), (), ())))
noncomputable def l_spec_WordsFault_l4 : sp_spec_WordsFault_l4.T → Option (XT xs_spec_WordsFault_l4) := lim s_spec_WordsFault_l4
theorem es_spec_WordsFault_l4 : ∀ x, evCode ty (gamOf g_spec_WordsFault) j_spec_WordsFault (lamOf []) (loopAt b_spec_WordsFault 4) (sp_spec_WordsFault_l4.hd x) (rdK sp_spec_WordsFault_l4 xs_spec_WordsFault_l4) = s_spec_WordsFault_l4 x := fun x => by kernel_rfl
theorem ls_spec_WordsFault_l4 : LSumOk P (loopAt b_spec_WordsFault 4) (loopL sp_spec_WordsFault_l4 xs_spec_WordsFault_l4 l_spec_WordsFault_l4) := loop_ok tyOk mixed gok_spec_WordsFault (by kernel_rfl) (by kernel_rfl) (lam_ok (tab := []) (by kernel_rfl) (fun p hp => by cases hp)) es_spec_WordsFault_l4 lim_itr
noncomputable def F_spec_WordsFault (x1 : K.T (.sl (.int .i64))) : Option sq_spec_WordsFault.T :=
  bif (decide (((x1).length : Int) > (400 : Int))) then
    (some (((2 : Int), ()), (), ()))
  else
  (l_spec_WordsFault_l4 ((x1, ((0 : Int), ())), (), ())).bind fun y2 =>
  (match y2 with
  | .inl y3 => some (((0 : Int), ()), (), ())
  | .inr z4 => some ((z4.1.1, ()), (), ()))
noncomputable abbrev U_spec_WordsFault : sp_spec_WordsFault.T → Option sq_spec_WordsFault.T := fun x => F_spec_WordsFault x.1.1
theorem e_spec_WordsFault : ∀ x, evCode ty (gamOf g_spec_WordsFault) j_spec_WordsFault (lamOf [(4, loopL sp_spec_WordsFault_l4 xs_spec_WordsFault_l4 l_spec_WordsFault_l4)]) b_spec_WordsFault (sp_spec_WordsFault.hd x) (finN ty sq_spec_WordsFault [.tmp 2]) = U_spec_WordsFault x := fun x => by kernel_rfl
theorem c_spec_WordsFault : FnS P 129 sp_spec_WordsFault sq_spec_WordsFault U_spec_WordsFault :=
  fnS_of_ev tyOk mixed gok_spec_WordsFault (fn := Try.f129) (by kernel_rfl) (c := b_spec_WordsFault) (by kernel_rfl) (by kernel_rfl) (by kernel_rfl) (lam_ok (tab := [(4, loopL sp_spec_WordsFault_l4 xs_spec_WordsFault_l4 l_spec_WordsFault_l4)]) (by kernel_rfl) (by
    intro p hp
    simp only [List.mem_cons, List.not_mem_nil, or_false] at hp
    rcases hp with rfl
    · exact @ls_spec_WordsFault_l4)) e_spec_WordsFault

/-! spec.l12Cell -/
abbrev sp_spec_l12Cell : Sp := ⟨12, [(0, .rp k9), (1, .val false (.int .i64))], [], []⟩
abbrev sq_spec_l12Cell : Sp := ⟨1, [(0, .val false .bool)], [], []⟩
noncomputable def g_spec_l12Cell : List (FuncId × SumX) := [(131, cN sp_spec_l1In sq_spec_l1In U_spec_l1In)]
def j_spec_l12Cell : Nat → Option (List (Nat × SS)) := jOf []
theorem gok_spec_l12Cell : GOk P (gamOf g_spec_l12Cell) := gam_ok (tab := g_spec_l12Cell) (by
    intro p hp
    simp only [g_spec_l12Cell, List.mem_cons, List.not_mem_nil, or_false] at hp
    rcases hp with rfl
    · exact cN_ok c_spec_l1In rfl)
noncomputable abbrev b_spec_l12Cell : Code := bodyOf Try.f148
noncomputable def F_spec_l12Cell (x1 : K.T k9) (x2 : K.T (.int .i64)) : Option sq_spec_l12Cell.T :=
  (F_spec_l1In x2 (0 : Int) (IntKind.wrap .i64 (x1.1 - (1 : Int)))).bind fun y1 =>
  some ((y1.1.1, ()), (), ())
noncomputable abbrev U_spec_l12Cell : sp_spec_l12Cell.T → Option sq_spec_l12Cell.T := fun x => F_spec_l12Cell x.1.1 x.1.2.1
theorem e_spec_l12Cell : ∀ x, evCode ty (gamOf g_spec_l12Cell) j_spec_l12Cell (lamOf []) b_spec_l12Cell (sp_spec_l12Cell.hd x) (finN ty sq_spec_l12Cell [.tmp 4]) = U_spec_l12Cell x := fun x => by kernel_rfl
theorem c_spec_l12Cell : FnS P 148 sp_spec_l12Cell sq_spec_l12Cell U_spec_l12Cell :=
  fnS_of_ev tyOk mixed gok_spec_l12Cell (fn := Try.f148) (by kernel_rfl) (c := b_spec_l12Cell) (by kernel_rfl) (by kernel_rfl) (by kernel_rfl) (lam_ok (tab := []) (by kernel_rfl) (fun p hp => by cases hp)) e_spec_l12Cell

/-! spec.l1Crc -/
abbrev sp_spec_l1Crc : Sp := ⟨24, [(0, .val false (.int .i64)), (1, .val false (.int .i64))], [], []⟩
abbrev sq_spec_l1Crc : Sp := ⟨1, [(0, .val false (.int .i64))], [], []⟩
noncomputable def g_spec_l1Crc : List (FuncId × SumX) := []
def j_spec_l1Crc : Nat → Option (List (Nat × SS)) := jOf []
theorem gok_spec_l1Crc : GOk P (gamOf g_spec_l1Crc) := gam_ok (tab := g_spec_l1Crc) (fun p hp => by cases hp)
noncomputable abbrev b_spec_l1Crc : Code := bodyOf Try.f159
abbrev sp_spec_l1Crc_l3 : Sp := ⟨24, [(0, .val false (.int .i64)), (5, .val false (.int .i64))], [], []⟩
abbrev xs_spec_l1Crc_l3 : List (Ex × Sp) := [(.exit 0, ⟨24, [(0, .val false (.int .i64))], [], []⟩)]
noncomputable def s_spec_l1Crc_l3 : sp_spec_l1Crc_l3.T → Option (sp_spec_l1Crc_l3.T ⊕ XT xs_spec_l1Crc_l3) := fun x =>
  bif (decide (x.1.2.1 < (8 : Int))) then
    (bif (decide (x.1.1 ≥ (32768 : Int))) then
      (some (.inl (((IntKind.wrap .i64 (((BitVec.ofInt (IntKind.bits .i64) (Int.tmod (IntKind.wrap .i64 (x.1.1 * (2 : Int))) (65536 : Int)) ^^^ BitVec.ofInt (IntKind.bits .i64) (4129 : Int)).toNat : Int))), ((IntKind.wrap .i64 (x.1.2.1 + (1 : Int))), ())), (), ())))
    else
    some (.inl (((Int.tmod (IntKind.wrap .i64 (x.1.1 * (2 : Int))) (65536 : Int)), ((IntKind.wrap .i64 (x.1.2.1 + (1 : Int))), ())), (), ())))
  else
  some (.inr ((x.1.1, ()), (), ()))
noncomputable def l_spec_l1Crc_l3 : sp_spec_l1Crc_l3.T → Option (XT xs_spec_l1Crc_l3) := lim s_spec_l1Crc_l3
theorem es_spec_l1Crc_l3 : ∀ x, evCode ty (gamOf g_spec_l1Crc) j_spec_l1Crc (lamOf []) (loopAt b_spec_l1Crc 3) (sp_spec_l1Crc_l3.hd x) (rdK sp_spec_l1Crc_l3 xs_spec_l1Crc_l3) = s_spec_l1Crc_l3 x := fun x => by kernel_rfl
theorem ls_spec_l1Crc_l3 : LSumOk P (loopAt b_spec_l1Crc 3) (loopL sp_spec_l1Crc_l3 xs_spec_l1Crc_l3 l_spec_l1Crc_l3) := loop_ok tyOk mixed gok_spec_l1Crc (by kernel_rfl) (by kernel_rfl) (lam_ok (tab := []) (by kernel_rfl) (fun p hp => by cases hp)) es_spec_l1Crc_l3 lim_itr
noncomputable def F_spec_l1Crc (x1 : K.T (.int .i64)) (x2 : K.T (.int .i64)) : Option sq_spec_l1Crc.T :=
  (l_spec_l1Crc_l3 (((IntKind.wrap .i64 (((BitVec.ofInt (IntKind.bits .i64) x1 ^^^ BitVec.ofInt (IntKind.bits .i64) (IntKind.wrap .i64 (x2 * 2 ^ min (Int.toNat (8 : Int)) (IntKind.bits .i64)))).toNat : Int))), ((0 : Int), ())), (), ())).bind fun y1 =>
  some ((y1.1.1, ()), (), ())
noncomputable abbrev U_spec_l1Crc : sp_spec_l1Crc.T → Option sq_spec_l1Crc.T := fun x => F_spec_l1Crc x.1.1 x.1.2.1
theorem e_spec_l1Crc : ∀ x, evCode ty (gamOf g_spec_l1Crc) j_spec_l1Crc (lamOf [(3, loopL sp_spec_l1Crc_l3 xs_spec_l1Crc_l3 l_spec_l1Crc_l3)]) b_spec_l1Crc (sp_spec_l1Crc.hd x) (finN ty sq_spec_l1Crc [.tmp 4]) = U_spec_l1Crc x := fun x => by kernel_rfl
theorem c_spec_l1Crc : FnS P 159 sp_spec_l1Crc sq_spec_l1Crc U_spec_l1Crc :=
  fnS_of_ev tyOk mixed gok_spec_l1Crc (fn := Try.f159) (by kernel_rfl) (c := b_spec_l1Crc) (by kernel_rfl) (by kernel_rfl) (by kernel_rfl) (lam_ok (tab := [(3, loopL sp_spec_l1Crc_l3 xs_spec_l1Crc_l3 l_spec_l1Crc_l3)]) (by kernel_rfl) (by
    intro p hp
    simp only [List.mem_cons, List.not_mem_nil, or_false] at hp
    rcases hp with rfl
    · exact @ls_spec_l1Crc_l3)) e_spec_l1Crc

/-! spec.l1Sum -/
abbrev sp_spec_l1Sum : Sp := ⟨26, [(0, .val false (.sl (.int .i64)))], [], []⟩
abbrev sq_spec_l1Sum : Sp := ⟨1, [(0, .val false (.int .i64))], [], []⟩
noncomputable def g_spec_l1Sum : List (FuncId × SumX) := [(159, cN sp_spec_l1Crc sq_spec_l1Crc U_spec_l1Crc)]
def j_spec_l1Sum : Nat → Option (List (Nat × SS)) := jOf []
theorem gok_spec_l1Sum : GOk P (gamOf g_spec_l1Sum) := gam_ok (tab := g_spec_l1Sum) (by
    intro p hp
    simp only [g_spec_l1Sum, List.mem_cons, List.not_mem_nil, or_false] at hp
    rcases hp with rfl
    · exact cN_ok c_spec_l1Crc rfl)
noncomputable abbrev b_spec_l1Sum : Code := bodyOf Try.f112
abbrev sp_spec_l1Sum_l3 : Sp := ⟨26, [(0, .val false (.sl (.int .i64))), (3, .val false (.int .i64)), (4, .val false (.int .i64))], [], []⟩
abbrev xs_spec_l1Sum_l3 : List (Ex × Sp) := [(.exit 0, ⟨26, [(3, .val false (.int .i64))], [], []⟩)]
noncomputable def s_spec_l1Sum_l3 : sp_spec_l1Sum_l3.T → Option (sp_spec_l1Sum_l3.T ⊕ XT xs_spec_l1Sum_l3) := fun x =>
  bif (decide (x.1.2.2.1 < ((x.1.1).length : Int))) then
    (bif ib x.1.2.2.1 (x.1.1).length then
    (F_spec_l1Crc x.1.2.1 (IntKind.wrap .i64 (Int.tdiv ((x.1.1).getD (Int.toNat x.1.2.2.1) (K.zero (.int .i64))) (256 : Int)))).bind fun y1 =>
    bif ib x.1.2.2.1 (x.1.1).length then
    (F_spec_l1Crc y1.1.1 (Int.tmod ((x.1.1).getD (Int.toNat x.1.2.2.1) (K.zero (.int .i64))) (256 : Int))).bind fun y2 =>
    some (.inl ((x.1.1, (y2.1.1, ((IntKind.wrap .i64 (x.1.2.2.1 + (1 : Int))), ()))), (), ()))
    else none
    else none)
  else
  some (.inr ((x.1.2.1, ()), (), ()))
noncomputable def l_spec_l1Sum_l3 : sp_spec_l1Sum_l3.T → Option (XT xs_spec_l1Sum_l3) := lim s_spec_l1Sum_l3
theorem es_spec_l1Sum_l3 : ∀ x, evCode ty (gamOf g_spec_l1Sum) j_spec_l1Sum (lamOf []) (loopAt b_spec_l1Sum 3) (sp_spec_l1Sum_l3.hd x) (rdK sp_spec_l1Sum_l3 xs_spec_l1Sum_l3) = s_spec_l1Sum_l3 x := fun x => by kernel_rfl
theorem ls_spec_l1Sum_l3 : LSumOk P (loopAt b_spec_l1Sum 3) (loopL sp_spec_l1Sum_l3 xs_spec_l1Sum_l3 l_spec_l1Sum_l3) := loop_ok tyOk mixed gok_spec_l1Sum (by kernel_rfl) (by kernel_rfl) (lam_ok (tab := []) (by kernel_rfl) (fun p hp => by cases hp)) es_spec_l1Sum_l3 lim_itr
noncomputable def F_spec_l1Sum (x1 : K.T (.sl (.int .i64))) : Option sq_spec_l1Sum.T :=
  (l_spec_l1Sum_l3 ((x1, ((65535 : Int), ((0 : Int), ()))), (), ())).bind fun y3 =>
  some ((y3.1.1, ()), (), ())
noncomputable abbrev U_spec_l1Sum : sp_spec_l1Sum.T → Option sq_spec_l1Sum.T := fun x => F_spec_l1Sum x.1.1
theorem e_spec_l1Sum : ∀ x, evCode ty (gamOf g_spec_l1Sum) j_spec_l1Sum (lamOf [(3, loopL sp_spec_l1Sum_l3 xs_spec_l1Sum_l3 l_spec_l1Sum_l3)]) b_spec_l1Sum (sp_spec_l1Sum.hd x) (finN ty sq_spec_l1Sum [.tmp 2]) = U_spec_l1Sum x := fun x => by kernel_rfl
theorem c_spec_l1Sum : FnS P 112 sp_spec_l1Sum sq_spec_l1Sum U_spec_l1Sum :=
  fnS_of_ev tyOk mixed gok_spec_l1Sum (fn := Try.f112) (by kernel_rfl) (c := b_spec_l1Sum) (by kernel_rfl) (by kernel_rfl) (by kernel_rfl) (lam_ok (tab := [(3, loopL sp_spec_l1Sum_l3 xs_spec_l1Sum_l3 l_spec_l1Sum_l3)]) (by kernel_rfl) (by
    intro p hp
    simp only [List.mem_cons, List.not_mem_nil, or_false] at hp
    rcases hp with rfl
    · exact @ls_spec_l1Sum_l3)) e_spec_l1Sum

/-! spec.l1Min -/
abbrev sp_spec_l1Min : Sp := ⟨10, [(0, .val false (.int .i64)), (1, .val false (.int .i64))], [], []⟩
abbrev sq_spec_l1Min : Sp := ⟨1, [(0, .val false (.int .i64))], [], []⟩
noncomputable def g_spec_l1Min : List (FuncId × SumX) := []
def j_spec_l1Min : Nat → Option (List (Nat × SS)) := jOf []
theorem gok_spec_l1Min : GOk P (gamOf g_spec_l1Min) := gam_ok (tab := g_spec_l1Min) (fun p hp => by cases hp)
noncomputable abbrev b_spec_l1Min : Code := bodyOf Try.f154
noncomputable def F_spec_l1Min (x1 : K.T (.int .i64)) (x2 : K.T (.int .i64)) : Option sq_spec_l1Min.T :=
  bif (decide (x1 < x2)) then
    (some ((x1, ()), (), ()))
  else
  some ((x2, ()), (), ())
noncomputable abbrev U_spec_l1Min : sp_spec_l1Min.T → Option sq_spec_l1Min.T := fun x => F_spec_l1Min x.1.1 x.1.2.1
theorem e_spec_l1Min : ∀ x, evCode ty (gamOf g_spec_l1Min) j_spec_l1Min (lamOf []) b_spec_l1Min (sp_spec_l1Min.hd x) (finN ty sq_spec_l1Min [.tmp 4]) = U_spec_l1Min x := fun x => by kernel_rfl
theorem c_spec_l1Min : FnS P 154 sp_spec_l1Min sq_spec_l1Min U_spec_l1Min :=
  fnS_of_ev tyOk mixed gok_spec_l1Min (fn := Try.f154) (by kernel_rfl) (c := b_spec_l1Min) (by kernel_rfl) (by kernel_rfl) (by kernel_rfl) (lam_ok (tab := []) (by kernel_rfl) (fun p hp => by cases hp)) e_spec_l1Min

/-! spec.l1Blocks -/
abbrev sp_spec_l1Blocks : Sp := ⟨27, [(0, .val false (.sl (.int .i64)))], [], []⟩
abbrev sq_spec_l1Blocks : Sp := ⟨1, [(0, .fix (.own 59000))], [], [(59000, (.int .i64), true)]⟩
noncomputable def g_spec_l1Blocks : List (FuncId × SumX) := [(112, cN sp_spec_l1Sum sq_spec_l1Sum U_spec_l1Sum), (154, cN sp_spec_l1Min sq_spec_l1Min U_spec_l1Min)]
def j_spec_l1Blocks : Nat → Option (List (Nat × SS)) := jOf []
theorem gok_spec_l1Blocks : GOk P (gamOf g_spec_l1Blocks) := gam_ok (tab := g_spec_l1Blocks) (by
    intro p hp
    simp only [g_spec_l1Blocks, List.mem_cons, List.not_mem_nil, or_false] at hp
    rcases hp with rfl | rfl
    · exact cN_ok c_spec_l1Sum rfl
    · exact cN_ok c_spec_l1Min rfl)
noncomputable abbrev b_spec_l1Blocks : Code := bodyOf Try.f149
abbrev sp_spec_l1Blocks_l3 : Sp := ⟨27, [(0, .val false (.sl (.int .i64))), (3, .fix (.own 59000)), (4, .val false (.int .i64))], [], [(59000, (.int .i64), true)]⟩
abbrev xs_spec_l1Blocks_l3 : List (Ex × Sp) := [(.exit 0, ⟨27, [(3, .fix (.own 59000))], [], [(59000, (.int .i64), true)]⟩)]
noncomputable def s_spec_l1Blocks_l3 : sp_spec_l1Blocks_l3.T → Option (sp_spec_l1Blocks_l3.T ⊕ XT xs_spec_l1Blocks_l3) := fun x =>
  bif (decide (x.1.2.1 < ((x.1.1).length : Int))) then
    ((F_spec_l1Min ((x.1.1).length : Int) (IntKind.wrap .i64 (x.1.2.1 + (8 : Int)))).bind fun y1 =>
    bif decide (0 ≤ x.1.2.1 ∧ x.1.2.1 ≤ y1.1.1 ∧ y1.1.1 ≤ ((x.1.1).length : Int)) then
    (F_spec_l1Sum (((x.1.1).take (Int.toNat y1.1.1)).drop (Int.toNat x.1.2.1))).bind fun y2 =>
    bif room (x.2.2.1 ++ [y2.1.1]).length 8 then
    some (.inl ((x.1.1, ((IntKind.wrap .i64 (x.1.2.1 + (8 : Int))), ())), (), ((x.2.2.1 ++ [y2.1.1]), ())))
    else none
    else none)
  else
  some (.inr ((), (), (x.2.2.1, ())))
noncomputable def l_spec_l1Blocks_l3 : sp_spec_l1Blocks_l3.T → Option (XT xs_spec_l1Blocks_l3) := lim s_spec_l1Blocks_l3
theorem es_spec_l1Blocks_l3 : ∀ x, evCode ty (gamOf g_spec_l1Blocks) j_spec_l1Blocks (lamOf []) (loopAt b_spec_l1Blocks 3) (sp_spec_l1Blocks_l3.hd x) (rdK sp_spec_l1Blocks_l3 xs_spec_l1Blocks_l3) = s_spec_l1Blocks_l3 x := fun x => by kernel_rfl
theorem ls_spec_l1Blocks_l3 : LSumOk P (loopAt b_spec_l1Blocks 3) (loopL sp_spec_l1Blocks_l3 xs_spec_l1Blocks_l3 l_spec_l1Blocks_l3) := loop_ok tyOk mixed gok_spec_l1Blocks (by kernel_rfl) (by kernel_rfl) (lam_ok (tab := []) (by kernel_rfl) (fun p hp => by cases hp)) es_spec_l1Blocks_l3 lim_itr
noncomputable def F_spec_l1Blocks (x1 : K.T (.sl (.int .i64))) : Option sq_spec_l1Blocks.T :=
  (l_spec_l1Blocks_l3 ((x1, ((0 : Int), ())), (), ([], ()))).bind fun y3 =>
  some ((), (), (y3.2.2.1, ()))
noncomputable abbrev U_spec_l1Blocks : sp_spec_l1Blocks.T → Option sq_spec_l1Blocks.T := fun x => F_spec_l1Blocks x.1.1
theorem e_spec_l1Blocks : ∀ x, evCode ty (gamOf g_spec_l1Blocks) j_spec_l1Blocks (lamOf [(3, loopL sp_spec_l1Blocks_l3 xs_spec_l1Blocks_l3 l_spec_l1Blocks_l3)]) b_spec_l1Blocks (sp_spec_l1Blocks.hd x) (finN ty sq_spec_l1Blocks [.tmp 2]) = U_spec_l1Blocks x := fun x => by kernel_rfl
theorem c_spec_l1Blocks : FnS P 149 sp_spec_l1Blocks sq_spec_l1Blocks U_spec_l1Blocks :=
  fnS_of_ev tyOk mixed gok_spec_l1Blocks (fn := Try.f149) (by kernel_rfl) (c := b_spec_l1Blocks) (by kernel_rfl) (by kernel_rfl) (by kernel_rfl) (lam_ok (tab := [(3, loopL sp_spec_l1Blocks_l3 xs_spec_l1Blocks_l3 l_spec_l1Blocks_l3)]) (by kernel_rfl) (by
    intro p hp
    simp only [List.mem_cons, List.not_mem_nil, or_false] at hp
    rcases hp with rfl
    · exact @ls_spec_l1Blocks_l3)) e_spec_l1Blocks

/-! spec.l12Fault -/
abbrev sp_spec_l12Fault : Sp := ⟨122, [(0, .rp k9)], [], []⟩
abbrev sq_spec_l12Fault : Sp := ⟨1, [(0, .val false (.int .i64))], [], []⟩
noncomputable def g_spec_l12Fault : List (FuncId × SumX) := [(114, cN sp_spec_l12Same sq_spec_l12Same U_spec_l12Same), (129, cN sp_spec_WordsFault sq_spec_WordsFault U_spec_WordsFault), (131, cN sp_spec_l1In sq_spec_l1In U_spec_l1In), (148, cN sp_spec_l12Cell sq_spec_l12Cell U_spec_l12Cell), (149, fN sp_spec_l1Blocks sq_spec_l1Blocks U_spec_l1Blocks)]
def j_spec_l12Fault : Nat → Option (List (Nat × SS)) := jOf [(1, [(28, .val false .bool)]), (3, [(42, .val false .bool)])]
theorem gok_spec_l12Fault : GOk P (gamOf g_spec_l12Fault) := gam_ok (tab := g_spec_l12Fault) (by
    intro p hp
    simp only [g_spec_l12Fault, List.mem_cons, List.not_mem_nil, or_false] at hp
    rcases hp with rfl | rfl | rfl | rfl | rfl
    · exact cN_ok c_spec_l12Same rfl
    · exact cN_ok c_spec_WordsFault rfl
    · exact cN_ok c_spec_l1In rfl
    · exact cN_ok c_spec_l12Cell rfl
    · exact fN_ok c_spec_l1Blocks rfl)
noncomputable abbrev b_spec_l12Fault : Code := bodyOf Try.f92
abbrev sp_spec_l12Fault_l6 : Sp := ⟨122, [(0, .rp k9), (3, .val false (.int .i64))], [], []⟩
abbrev xs_spec_l12Fault_l6 : List (Ex × Sp) := [(.exit 0, ⟨122, [(0, .rp k9)], [], []⟩), (.ret, ⟨122, [(2, .val false (.int .i64))], [], []⟩)]
noncomputable def s_spec_l12Fault_l6 : sp_spec_l12Fault_l6.T → Option (sp_spec_l12Fault_l6.T ⊕ XT xs_spec_l12Fault_l6) := fun x =>
  bif (decide (x.1.2.1 < ((x.1.1.2.1).length : Int))) then
    (bif ib x.1.2.1 (x.1.1.2.1).length then
    (F_spec_l12Cell x.1.1 (((x.1.1.2.1).getD (Int.toNat x.1.2.1) (K.zero k0)).1)).bind fun y6 =>
    bif (!y6.1.1) then
      (some (.inr (.inr (((3 : Int), ()), (), ()))))
    else
    some (.inl ((x.1.1, ((IntKind.wrap .i64 (x.1.2.1 + (1 : Int))), ())), (), ()))
    else none)
  else
  some (.inr (.inl ((x.1.1, ()), (), ())))
noncomputable def l_spec_l12Fault_l6 : sp_spec_l12Fault_l6.T → Option (XT xs_spec_l12Fault_l6) := lim s_spec_l12Fault_l6
theorem es_spec_l12Fault_l6 : ∀ x, evCode ty (gamOf g_spec_l12Fault) j_spec_l12Fault (lamOf []) (loopAt b_spec_l12Fault 6) (sp_spec_l12Fault_l6.hd x) (rdK sp_spec_l12Fault_l6 xs_spec_l12Fault_l6) = s_spec_l12Fault_l6 x := fun x => by kernel_rfl
theorem ls_spec_l12Fault_l6 : LSumOk P (loopAt b_spec_l12Fault 6) (loopL sp_spec_l12Fault_l6 xs_spec_l12Fault_l6 l_spec_l12Fault_l6) := loop_ok tyOk mixed gok_spec_l12Fault (by kernel_rfl) (by kernel_rfl) (lam_ok (tab := []) (by kernel_rfl) (fun p hp => by cases hp)) es_spec_l12Fault_l6 lim_itr
abbrev sp_spec_l12Fault_l11 : Sp := ⟨122, [(0, .rp k9), (4, .val false (.int .i64))], [], []⟩
abbrev xs_spec_l12Fault_l11 : List (Ex × Sp) := [(.exit 2, ⟨122, [(0, .rp k9)], [], []⟩), (.ret, ⟨122, [(2, .val false (.int .i64))], [], []⟩)]
noncomputable def s_spec_l12Fault_l11 : sp_spec_l12Fault_l11.T → Option (sp_spec_l12Fault_l11.T ⊕ XT xs_spec_l12Fault_l11) := fun x =>
  bif (decide (x.1.2.1 < ((x.1.1.2.2.1).length : Int))) then
    (bif ib x.1.2.1 (x.1.1.2.2.1).length then
    (F_spec_l12Cell x.1.1 ((x.1.1.2.2.1).getD (Int.toNat x.1.2.1) (K.zero (.int .i64)))).bind fun y10 =>
    bif (!y10.1.1) then
      (some (.inr (.inr (((3 : Int), ()), (), ()))))
    else
    some (.inl ((x.1.1, ((IntKind.wrap .i64 (x.1.2.1 + (1 : Int))), ())), (), ()))
    else none)
  else
  some (.inr (.inl ((x.1.1, ()), (), ())))
noncomputable def l_spec_l12Fault_l11 : sp_spec_l12Fault_l11.T → Option (XT xs_spec_l12Fault_l11) := lim s_spec_l12Fault_l11
theorem es_spec_l12Fault_l11 : ∀ x, evCode ty (gamOf g_spec_l12Fault) j_spec_l12Fault (lamOf []) (loopAt b_spec_l12Fault 11) (sp_spec_l12Fault_l11.hd x) (rdK sp_spec_l12Fault_l11 xs_spec_l12Fault_l11) = s_spec_l12Fault_l11 x := fun x => by kernel_rfl
theorem ls_spec_l12Fault_l11 : LSumOk P (loopAt b_spec_l12Fault 11) (loopL sp_spec_l12Fault_l11 xs_spec_l12Fault_l11 l_spec_l12Fault_l11) := loop_ok tyOk mixed gok_spec_l12Fault (by kernel_rfl) (by kernel_rfl) (lam_ok (tab := []) (by kernel_rfl) (fun p hp => by cases hp)) es_spec_l12Fault_l11 lim_itr
noncomputable def F_spec_l12Fault (x1 : K.T k9) : Option sq_spec_l12Fault.T :=
  ((F_spec_l1In x1.1 (0 : Int) (80 : Int)).bind fun y1 =>
    bif (!y1.1.1) then
      (some (true, ()))
    else
    (F_spec_l1In x1.2.2.2.2.2.2.2.1 (0 : Int) (20000 : Int)).bind fun y2 =>
    bif (!y2.1.1) then
      (some (true, ()))
    else
    (F_spec_l1In x1.2.2.2.2.2.2.2.2 (0 : Int) (20000 : Int)).bind fun y3 =>
    some ((!y3.1.1), ())).bind fun y4 =>
  bif y4.1 then
    (some (((3 : Int), ()), (), ()))
  else
  (bif (decide (((x1.2.1).length : Int) > (24 : Int))) then
      (some (true, ()))
    else
    some ((decide (((x1.2.2.1).length : Int) > (60 : Int))), ())).bind fun y5 =>
  bif y5.1 then
    (some (((2 : Int), ()), (), ()))
  else
  (l_spec_l12Fault_l6 ((x1, ((0 : Int), ())), (), ())).bind fun y7 =>
  (match y7 with
  | .inl y8 => (l_spec_l12Fault_l11 ((y8.1.1, ((0 : Int), ())), (), ())).bind fun y11 =>
    (match y11 with
    | .inl y12 => (F_spec_WordsFault y12.1.1.2.2.2.1).bind fun y14 =>
      bif (y14.1.1 != (0 : Int)) then
        (some ((y14.1.1, ()), (), ()))
      else
      (F_spec_WordsFault y12.1.1.2.2.2.2.1).bind fun y15 =>
      bif (y15.1.1 != (0 : Int)) then
        (some ((y15.1.1, ()), (), ()))
      else
      (F_spec_l1Blocks y12.1.1.2.2.2.1).bind fun y16 =>
      (F_spec_l12Same y12.1.1.2.2.2.2.2.1 y16.2.2.1).bind fun y17 =>
      bif (!y17.1.1) then
        (some (((6 : Int), ()), (), ()))
      else
      (F_spec_l1Blocks y12.1.1.2.2.2.2.1).bind fun y18 =>
      (F_spec_l12Same y12.1.1.2.2.2.2.2.2.1 y18.2.2.1).bind fun y19 =>
      bif (!y19.1.1) then
        (some (((6 : Int), ()), (), ()))
      else
      some (((0 : Int), ()), (), ())
    | .inr z13 => some ((z13.1.1, ()), (), ()))
  | .inr z9 => some ((z9.1.1, ()), (), ()))
noncomputable abbrev U_spec_l12Fault : sp_spec_l12Fault.T → Option sq_spec_l12Fault.T := fun x => F_spec_l12Fault x.1.1
theorem e_spec_l12Fault : ∀ x, evCode ty (gamOf g_spec_l12Fault) j_spec_l12Fault (lamOf [(6, loopL sp_spec_l12Fault_l6 xs_spec_l12Fault_l6 l_spec_l12Fault_l6), (11, loopL sp_spec_l12Fault_l11 xs_spec_l12Fault_l11 l_spec_l12Fault_l11)]) b_spec_l12Fault (sp_spec_l12Fault.hd x) (finN ty sq_spec_l12Fault [.tmp 2]) = U_spec_l12Fault x := fun x => by kernel_rfl
theorem c_spec_l12Fault : FnS P 92 sp_spec_l12Fault sq_spec_l12Fault U_spec_l12Fault :=
  fnS_of_ev tyOk mixed gok_spec_l12Fault (fn := Try.f92) (by kernel_rfl) (c := b_spec_l12Fault) (by kernel_rfl) (by kernel_rfl) (by kernel_rfl) (lam_ok (tab := [(6, loopL sp_spec_l12Fault_l6 xs_spec_l12Fault_l6 l_spec_l12Fault_l6), (11, loopL sp_spec_l12Fault_l11 xs_spec_l12Fault_l11 l_spec_l12Fault_l11)]) (by kernel_rfl) (by
    intro p hp
    simp only [List.mem_cons, List.not_mem_nil, or_false] at hp
    rcases hp with rfl | rfl
    · exact @ls_spec_l12Fault_l6
    · exact @ls_spec_l12Fault_l11)) e_spec_l12Fault

/-! spec.l2Bit -/
abbrev sp_spec_l2Bit : Sp := ⟨4, [(0, .val false .bool)], [], []⟩
abbrev sq_spec_l2Bit : Sp := ⟨1, [(0, .val false (.int .i64))], [], []⟩
noncomputable def g_spec_l2Bit : List (FuncId × SumX) := []
def j_spec_l2Bit : Nat → Option (List (Nat × SS)) := jOf []
theorem gok_spec_l2Bit : GOk P (gamOf g_spec_l2Bit) := gam_ok (tab := g_spec_l2Bit) (fun p hp => by cases hp)
noncomputable abbrev b_spec_l2Bit : Code := bodyOf Try.f155
noncomputable def F_spec_l2Bit (x1 : K.T .bool) : Option sq_spec_l2Bit.T :=
  bif x1 then
    (some (((1 : Int), ()), (), ()))
  else
  some (((0 : Int), ()), (), ())
noncomputable abbrev U_spec_l2Bit : sp_spec_l2Bit.T → Option sq_spec_l2Bit.T := fun x => F_spec_l2Bit x.1.1
theorem e_spec_l2Bit : ∀ x, evCode ty (gamOf g_spec_l2Bit) j_spec_l2Bit (lamOf []) b_spec_l2Bit (sp_spec_l2Bit.hd x) (finN ty sq_spec_l2Bit [.tmp 2]) = U_spec_l2Bit x := fun x => by kernel_rfl
theorem c_spec_l2Bit : FnS P 155 sp_spec_l2Bit sq_spec_l2Bit U_spec_l2Bit :=
  fnS_of_ev tyOk mixed gok_spec_l2Bit (fn := Try.f155) (by kernel_rfl) (c := b_spec_l2Bit) (by kernel_rfl) (by kernel_rfl) (by kernel_rfl) (lam_ok (tab := []) (by kernel_rfl) (fun p hp => by cases hp)) e_spec_l2Bit

/-! spec.l12Words -/
abbrev sp_spec_l12Words : Sp := ⟨101, [(0, .rp k9)], [], []⟩
abbrev sq_spec_l12Words : Sp := ⟨1, [(0, .fix (.own 59000))], [], [(59000, (.int .i64), true)]⟩
noncomputable def g_spec_l12Words : List (FuncId × SumX) := [(112, cN sp_spec_l1Sum sq_spec_l1Sum U_spec_l1Sum), (155, cN sp_spec_l2Bit sq_spec_l2Bit U_spec_l2Bit)]
def j_spec_l12Words : Nat → Option (List (Nat × SS)) := jOf []
theorem gok_spec_l12Words : GOk P (gamOf g_spec_l12Words) := gam_ok (tab := g_spec_l12Words) (by
    intro p hp
    simp only [g_spec_l12Words, List.mem_cons, List.not_mem_nil, or_false] at hp
    rcases hp with rfl | rfl
    · exact cN_ok c_spec_l1Sum rfl
    · exact cN_ok c_spec_l2Bit rfl)
noncomputable abbrev b_spec_l12Words : Code := bodyOf Try.f105
abbrev sp_spec_l12Words_l3 : Sp := ⟨101, [(0, .rp k9), (3, .fix (.own 59000)), (4, .val false (.int .i64))], [], [(59000, (.int .i64), true)]⟩
abbrev xs_spec_l12Words_l3 : List (Ex × Sp) := [(.exit 0, ⟨101, [(0, .rp k9), (3, .fix (.own 59000))], [], [(59000, (.int .i64), true)]⟩)]
noncomputable def s_spec_l12Words_l3 : sp_spec_l12Words_l3.T → Option (sp_spec_l12Words_l3.T ⊕ XT xs_spec_l12Words_l3) := fun x =>
  bif (decide (x.1.2.1 < ((x.1.1.2.1).length : Int))) then
    (bif ib x.1.2.1 (x.1.1.2.1).length then
    bif ib x.1.2.1 (x.1.1.2.1).length then
    (F_spec_l2Bit (((x.1.1.2.1).getD (Int.toNat x.1.2.1) (K.zero k0)).2)).bind fun y1 =>
    bif room (x.2.2.1 ++ [(IntKind.wrap .i64 ((((x.1.1.2.1).getD (Int.toNat x.1.2.1) (K.zero k0)).1) + (IntKind.wrap .i64 ((100 : Int) * y1.1.1))))]).length 8 then
    some (.inl ((x.1.1, ((IntKind.wrap .i64 (x.1.2.1 + (1 : Int))), ())), (), ((x.2.2.1 ++ [(IntKind.wrap .i64 ((((x.1.1.2.1).getD (Int.toNat x.1.2.1) (K.zero k0)).1) + (IntKind.wrap .i64 ((100 : Int) * y1.1.1))))]), ())))
    else none
    else none
    else none)
  else
  some (.inr ((x.1.1, ()), (), (x.2.2.1, ())))
noncomputable def l_spec_l12Words_l3 : sp_spec_l12Words_l3.T → Option (XT xs_spec_l12Words_l3) := lim s_spec_l12Words_l3
theorem es_spec_l12Words_l3 : ∀ x, evCode ty (gamOf g_spec_l12Words) j_spec_l12Words (lamOf []) (loopAt b_spec_l12Words 3) (sp_spec_l12Words_l3.hd x) (rdK sp_spec_l12Words_l3 xs_spec_l12Words_l3) = s_spec_l12Words_l3 x := fun x => by kernel_rfl
theorem ls_spec_l12Words_l3 : LSumOk P (loopAt b_spec_l12Words 3) (loopL sp_spec_l12Words_l3 xs_spec_l12Words_l3 l_spec_l12Words_l3) := loop_ok tyOk mixed gok_spec_l12Words (by kernel_rfl) (by kernel_rfl) (lam_ok (tab := []) (by kernel_rfl) (fun p hp => by cases hp)) es_spec_l12Words_l3 lim_itr
noncomputable def F_spec_l12Words (x1 : K.T k9) : Option sq_spec_l12Words.T :=
  (l_spec_l12Words_l3 ((x1, ((0 : Int), ())), (), ([(21930 : Int), x1.1, x1.2.2.2.2.2.2.2.1, x1.2.2.2.2.2.2.2.2, ((x1.2.1).length : Int), ((x1.2.2.1).length : Int), ((x1.2.2.2.1).length : Int), ((x1.2.2.2.2.1).length : Int)], ()))).bind fun y2 =>
  bif room (y2.2.2.1 ++ y2.1.1.2.2.1).length 8 then
  bif room ((y2.2.2.1 ++ y2.1.1.2.2.1) ++ y2.1.1.2.2.2.1).length 8 then
  bif room (((y2.2.2.1 ++ y2.1.1.2.2.1) ++ y2.1.1.2.2.2.1) ++ y2.1.1.2.2.2.2.1).length 8 then
  bif room ((((y2.2.2.1 ++ y2.1.1.2.2.1) ++ y2.1.1.2.2.2.1) ++ y2.1.1.2.2.2.2.1) ++ y2.1.1.2.2.2.2.2.1).length 8 then
  bif room (((((y2.2.2.1 ++ y2.1.1.2.2.1) ++ y2.1.1.2.2.2.1) ++ y2.1.1.2.2.2.2.1) ++ y2.1.1.2.2.2.2.2.1) ++ y2.1.1.2.2.2.2.2.2.1).length 8 then
  (F_spec_l1Sum (((((y2.2.2.1 ++ y2.1.1.2.2.1) ++ y2.1.1.2.2.2.1) ++ y2.1.1.2.2.2.2.1) ++ y2.1.1.2.2.2.2.2.1) ++ y2.1.1.2.2.2.2.2.2.1)).bind fun y3 =>
  bif room ((((((y2.2.2.1 ++ y2.1.1.2.2.1) ++ y2.1.1.2.2.2.1) ++ y2.1.1.2.2.2.2.1) ++ y2.1.1.2.2.2.2.2.1) ++ y2.1.1.2.2.2.2.2.2.1) ++ [y3.1.1]).length 8 then
  some ((), (), (((((((y2.2.2.1 ++ y2.1.1.2.2.1) ++ y2.1.1.2.2.2.1) ++ y2.1.1.2.2.2.2.1) ++ y2.1.1.2.2.2.2.2.1) ++ y2.1.1.2.2.2.2.2.2.1) ++ [y3.1.1]), ()))
  else none
  else none
  else none
  else none
  else none
  else none
noncomputable abbrev U_spec_l12Words : sp_spec_l12Words.T → Option sq_spec_l12Words.T := fun x => F_spec_l12Words x.1.1
theorem e_spec_l12Words : ∀ x, evCode ty (gamOf g_spec_l12Words) j_spec_l12Words (lamOf [(3, loopL sp_spec_l12Words_l3 xs_spec_l12Words_l3 l_spec_l12Words_l3)]) b_spec_l12Words (sp_spec_l12Words.hd x) (finN ty sq_spec_l12Words [.tmp 2]) = U_spec_l12Words x := fun x => by kernel_rfl
theorem c_spec_l12Words : FnS P 105 sp_spec_l12Words sq_spec_l12Words U_spec_l12Words :=
  fnS_of_ev tyOk mixed gok_spec_l12Words (fn := Try.f105) (by kernel_rfl) (c := b_spec_l12Words) (by kernel_rfl) (by kernel_rfl) (by kernel_rfl) (lam_ok (tab := [(3, loopL sp_spec_l12Words_l3 xs_spec_l12Words_l3 l_spec_l12Words_l3)]) (by kernel_rfl) (by
    intro p hp
    simp only [List.mem_cons, List.not_mem_nil, or_false] at hp
    rcases hp with rfl
    · exact @ls_spec_l12Words_l3)) e_spec_l12Words

/-! spec.PackBuild -/
abbrev sp_spec_PackBuild : Sp := ⟨17, [(0, .val true k9)], [], []⟩
abbrev sq_spec_PackBuild : Sp := ⟨1, [(0, .mix true [.val (.int .i64), .fix (.own 59000)])], [], [(59000, (.int .i64), true)]⟩
noncomputable def g_spec_PackBuild : List (FuncId × SumX) := [(92, cN sp_spec_l12Fault sq_spec_l12Fault U_spec_l12Fault), (105, fN sp_spec_l12Words sq_spec_l12Words U_spec_l12Words)]
def j_spec_PackBuild : Nat → Option (List (Nat × SS)) := jOf []
theorem gok_spec_PackBuild : GOk P (gamOf g_spec_PackBuild) := gam_ok (tab := g_spec_PackBuild) (by
    intro p hp
    simp only [g_spec_PackBuild, List.mem_cons, List.not_mem_nil, or_false] at hp
    rcases hp with rfl | rfl
    · exact cN_ok c_spec_l12Fault rfl
    · exact fN_ok c_spec_l12Words rfl)
noncomputable abbrev b_spec_PackBuild : Code := bodyOf Try.f38
noncomputable def F_spec_PackBuild (x1 : K.T k9) : Option sq_spec_PackBuild.T :=
  (F_spec_l12Fault x1).bind fun y1 =>
  bif (y1.1.1 != (0 : Int)) then
    (some (((y1.1.1, ()), ()), (), ([], ())))
  else
  (F_spec_l12Words x1).bind fun y2 =>
  bif (decide (((y2.2.2.1).length : Int) > (1200 : Int))) then
    (some ((((2 : Int), ()), ()), (), ([], ())))
  else
  some ((((0 : Int), ()), ()), (), (y2.2.2.1, ()))
noncomputable abbrev U_spec_PackBuild : sp_spec_PackBuild.T → Option sq_spec_PackBuild.T := fun x => F_spec_PackBuild x.1.1
theorem e_spec_PackBuild : ∀ x, evCode ty (gamOf g_spec_PackBuild) j_spec_PackBuild (lamOf []) b_spec_PackBuild (sp_spec_PackBuild.hd x) (finN ty sq_spec_PackBuild [.cell 2 27]) = U_spec_PackBuild x := fun x => by kernel_rfl
theorem c_spec_PackBuild : FnS P 38 sp_spec_PackBuild sq_spec_PackBuild U_spec_PackBuild :=
  fnS_of_ev tyOk mixed gok_spec_PackBuild (fn := Try.f38) (by kernel_rfl) (c := b_spec_PackBuild) (by kernel_rfl) (by kernel_rfl) (by kernel_rfl) (lam_ok (tab := []) (by kernel_rfl) (fun p hp => by cases hp)) e_spec_PackBuild

/-! impl.within -/
abbrev sp_impl_within : Sp := ⟨15, [(0, .val false (.int .i64)), (1, .val false (.int .i64)), (2, .val false (.int .i64))], [], []⟩
abbrev sq_impl_within : Sp := ⟨1, [(0, .val false .bool)], [], []⟩
noncomputable def g_impl_within : List (FuncId × SumX) := []
def j_impl_within : Nat → Option (List (Nat × SS)) := jOf [(1, [(6, .val false .bool)])]
theorem gok_impl_within : GOk P (gamOf g_impl_within) := gam_ok (tab := g_impl_within) (fun p hp => by cases hp)
noncomputable abbrev b_impl_within : Code := bodyOf Try.f89
noncomputable def F_impl_within (x1 : K.T (.int .i64)) (x2 : K.T (.int .i64)) (x3 : K.T (.int .i64)) : Option sq_impl_within.T :=
  (bif (decide (x2 ≤ x1)) then
      (some ((decide (x1 ≤ x3)), ()))
    else
    some (false, ())).bind fun y1 =>
  some ((y1.1, ()), (), ())
noncomputable abbrev U_impl_within : sp_impl_within.T → Option sq_impl_within.T := fun x => F_impl_within x.1.1 x.1.2.1 x.1.2.2.1
theorem e_impl_within : ∀ x, evCode ty (gamOf g_impl_within) j_impl_within (lamOf []) b_impl_within (sp_impl_within.hd x) (finN ty sq_impl_within [.tmp 6]) = U_impl_within x := fun x => by kernel_rfl
theorem c_impl_within : FnS P 89 sp_impl_within sq_impl_within U_impl_within :=
  fnS_of_ev tyOk mixed gok_impl_within (fn := Try.f89) (by kernel_rfl) (c := b_impl_within) (by kernel_rfl) (by kernel_rfl) (by kernel_rfl) (lam_ok (tab := []) (by kernel_rfl) (fun p hp => by cases hp)) e_impl_within

/-! impl.BuildFault$1 -/
abbrev sp_impl_BuildFault_f1 : Sp := ⟨9, [(0, .val false (.int .i64)), (1, .fix (.ptr 60000 0))], [(60000, [.val (.int .i64), .val (.sl k0), .val (.sl (.int .i64)), .val (.sl (.int .i64)), .val (.sl (.int .i64)), .val (.sl (.int .i64)), .val (.sl (.int .i64)), .val (.int .i64), .val (.int .i64)])], []⟩
abbrev sq_impl_BuildFault_f1 : Sp := ⟨1, [(0, .val false .bool)], [(60000, [.val (.int .i64), .val (.sl k0), .val (.sl (.int .i64)), .val (.sl (.int .i64)), .val (.sl (.int .i64)), .val (.sl (.int .i64)), .val (.sl (.int .i64)), .val (.int .i64), .val (.int .i64)])], []⟩
noncomputable def g_impl_BuildFault_f1 : List (FuncId × SumX) := [(89, cN sp_impl_within sq_impl_within U_impl_within)]
def j_impl_BuildFault_f1 : Nat → Option (List (Nat × SS)) := jOf []
theorem gok_impl_BuildFault_f1 : GOk P (gamOf g_impl_BuildFault_f1) := gam_ok (tab := g_impl_BuildFault_f1) (by
    intro p hp
    simp only [g_impl_BuildFault_f1, List.mem_cons, List.not_mem_nil, or_false] at hp
    rcases hp with rfl
    · exact cN_ok c_impl_within rfl)
noncomputable abbrev b_impl_BuildFault_f1 : Code := bodyOf Try.f94
noncomputable def F_impl_BuildFault_f1 (x1 : K.T (.int .i64)) (x2 : K.T (.int .i64)) (x3 : K.T (.sl k0)) (x4 : K.T (.sl (.int .i64))) (x5 : K.T (.sl (.int .i64))) (x6 : K.T (.sl (.int .i64))) (x7 : K.T (.sl (.int .i64))) (x8 : K.T (.sl (.int .i64))) (x9 : K.T (.int .i64)) (x10 : K.T (.int .i64)) : Option sq_impl_BuildFault_f1.T :=
  (F_impl_within x1 (0 : Int) (IntKind.wrap .i64 (x2 - (1 : Int)))).bind fun y1 =>
  some ((y1.1.1, ()), ((x2, (x3, (x4, (x5, (x6, (x7, (x8, (x9, (x10, ()))))))))), ()), ())
noncomputable abbrev U_impl_BuildFault_f1 : sp_impl_BuildFault_f1.T → Option sq_impl_BuildFault_f1.T := fun x => F_impl_BuildFault_f1 x.1.1 x.2.1.1.1 x.2.1.1.2.1 x.2.1.1.2.2.1 x.2.1.1.2.2.2.1 x.2.1.1.2.2.2.2.1 x.2.1.1.2.2.2.2.2.1 x.2.1.1.2.2.2.2.2.2.1 x.2.1.1.2.2.2.2.2.2.2.1 x.2.1.1.2.2.2.2.2.2.2.2.1
theorem e_impl_BuildFault_f1 : ∀ x, evCode ty (gamOf g_impl_BuildFault_f1) j_impl_BuildFault_f1 (lamOf []) b_impl_BuildFault_f1 (sp_impl_BuildFault_f1.hd x) (finN ty sq_impl_BuildFault_f1 [.tmp 3]) = U_impl_BuildFault_f1 x := fun x => by kernel_rfl
theorem c_impl_BuildFault_f1 : FnS P 94 sp_impl_BuildFault_f1 sq_impl_BuildFault_f1 U_impl_BuildFault_f1 :=
  fnS_of_ev tyOk mixed gok_impl_BuildFault_f1 (fn := Try.f94) (by kernel_rfl) (c := b_impl_BuildFault_f1) (by kernel_rfl) (by kernel_rfl) (by kernel_rfl) (lam_ok (tab := []) (by kernel_rfl) (fun p hp => by cases hp)) e_impl_BuildFault_f1

/-! impl.BuildFault$2 -/
abbrev sp_impl_BuildFault_f2 : Sp := ⟨9, [(0, .val true k0), (1, .fix (.ptr 60000 0))], [(60000, [.fix (.fn 94 [(60001, 0)])]), (60001, [.val (.int .i64), .val (.sl k0), .val (.sl (.int .i64)), .val (.sl (.int .i64)), .val (.sl (.int .i64)), .val (.sl (.int .i64)), .val (.sl (.int .i64)), .val (.int .i64), .val (.int .i64)])], []⟩
abbrev sq_impl_BuildFault_f2 : Sp := ⟨1, [(0, .val false .bool)], [(60000, [.fix (.fn 94 [(60001, 0)])]), (60001, [.val (.int .i64), .val (.sl k0), .val (.sl (.int .i64)), .val (.sl (.int .i64)), .val (.sl (.int .i64)), .val (.sl (.int .i64)), .val (.sl (.int .i64)), .val (.int .i64), .val (.int .i64)])], []⟩
noncomputable def g_impl_BuildFault_f2 : List (FuncId × SumX) := [(94, xN sp_impl_BuildFault_f1 sq_impl_BuildFault_f1 U_impl_BuildFault_f1)]
def j_impl_BuildFault_f2 : Nat → Option (List (Nat × SS)) := jOf []
theorem gok_impl_BuildFault_f2 : GOk P (gamOf g_impl_BuildFault_f2) := gam_ok (tab := g_impl_BuildFault_f2) (by
    intro p hp
    simp only [g_impl_BuildFault_f2, List.mem_cons, List.not_mem_nil, or_false] at hp
    rcases hp with rfl
    · exact xN_ok c_impl_BuildFault_f1 rfl)
noncomputable abbrev b_impl_BuildFault_f2 : Code := bodyOf Try.f96
noncomputable def F_impl_BuildFault_f2 (x1 : K.T k0) (x2 : K.T (.int .i64)) (x3 : K.T (.sl k0)) (x4 : K.T (.sl (.int .i64))) (x5 : K.T (.sl (.int .i64))) (x6 : K.T (.sl (.int .i64))) (x7 : K.T (.sl (.int .i64))) (x8 : K.T (.sl (.int .i64))) (x9 : K.T (.int .i64)) (x10 : K.T (.int .i64)) : Option sq_impl_BuildFault_f2.T :=
  (F_impl_BuildFault_f1 x1.1 x2 x3 x4 x5 x6 x7 x8 x9 x10).bind fun y1 =>
  some (((!y1.1.1), ()), ((), ((y1.2.1.1.1, (y1.2.1.1.2.1, (y1.2.1.1.2.2.1, (y1.2.1.1.2.2.2.1, (y1.2.1.1.2.2.2.2.1, (y1.2.1.1.2.2.2.2.2.1, (y1.2.1.1.2.2.2.2.2.2.1, (y1.2.1.1.2.2.2.2.2.2.2.1, (y1.2.1.1.2.2.2.2.2.2.2.2.1, ()))))))))), ())), ())
noncomputable abbrev U_impl_BuildFault_f2 : sp_impl_BuildFault_f2.T → Option sq_impl_BuildFault_f2.T := fun x => F_impl_BuildFault_f2 x.1.1 x.2.1.2.1.1 x.2.1.2.1.2.1 x.2.1.2.1.2.2.1 x.2.1.2.1.2.2.2.1 x.2.1.2.1.2.2.2.2.1 x.2.1.2.1.2.2.2.2.2.1 x.2.1.2.1.2.2.2.2.2.2.1 x.2.1.2.1.2.2.2.2.2.2.2.1 x.2.1.2.1.2.2.2.2.2.2.2.2.1
theorem e_impl_BuildFault_f2 : ∀ x, evCode ty (gamOf g_impl_BuildFault_f2) j_impl_BuildFault_f2 (lamOf []) b_impl_BuildFault_f2 (sp_impl_BuildFault_f2.hd x) (finN ty sq_impl_BuildFault_f2 [.tmp 3]) = U_impl_BuildFault_f2 x := fun x => by kernel_rfl
theorem c_impl_BuildFault_f2 : FnS P 96 sp_impl_BuildFault_f2 sq_impl_BuildFault_f2 U_impl_BuildFault_f2 :=
  fnS_of_ev tyOk mixed gok_impl_BuildFault_f2 (fn := Try.f96) (by kernel_rfl) (c := b_impl_BuildFault_f2) (by kernel_rfl) (by kernel_rfl) (by kernel_rfl) (lam_ok (tab := []) (by kernel_rfl) (fun p hp => by cases hp)) e_impl_BuildFault_f2

/-! slices.IndexFunc[[]impl.Port,impl.Port] -/
abbrev sp_slices_IndexFunc_Port : Sp := ⟨19, [(0, .val false (.sl k0)), (1, .fix (.fn 96 [(60000, 0)]))], [(60000, [.fix (.fn 94 [(60001, 0)])]), (60001, [.val (.int .i64), .val (.sl k0), .val (.sl (.int .i64)), .val (.sl (.int .i64)), .val (.sl (.int .i64)), .val (.sl (.int .i64)), .val (.sl (.int .i64)), .val (.int .i64), .val (.int .i64)])], []⟩
abbrev sq_slices_IndexFunc_Port : Sp := ⟨1, [(0, .val false (.int .i64))], [(60000, [.fix (.fn 94 [(60001, 0)])]), (60001, [.val (.int .i64), .val (.sl k0), .val (.sl (.int .i64)), .val (.sl (.int .i64)), .val (.sl (.int .i64)), .val (.sl (.int .i64)), .val (.sl (.int .i64)), .val (.int .i64), .val (.int .i64)])], []⟩
noncomputable def g_slices_IndexFunc_Port : List (FuncId × SumX) := [(96, xN sp_impl_BuildFault_f2 sq_impl_BuildFault_f2 U_impl_BuildFault_f2)]
def j_slices_IndexFunc_Port : Nat → Option (List (Nat × SS)) := jOf []
theorem gok_slices_IndexFunc_Port : GOk P (gamOf g_slices_IndexFunc_Port) := gam_ok (tab := g_slices_IndexFunc_Port) (by
    intro p hp
    simp only [g_slices_IndexFunc_Port, List.mem_cons, List.not_mem_nil, or_false] at hp
    rcases hp with rfl
    · exact xN_ok c_impl_BuildFault_f2 rfl)
noncomputable abbrev b_slices_IndexFunc_Port : Code := bodyOf Try.f151
abbrev sp_slices_IndexFunc_Port_l2 : Sp := ⟨19, [(0, .val false (.sl k0)), (1, .fix (.fn 96 [(60000, 0)])), (7, .val false (.int .i64)), (8, .val false (.int .i64))], [(60000, [.fix (.fn 94 [(60001, 0)])]), (60001, [.val (.int .i64), .val (.sl k0), .val (.sl (.int .i64)), .val (.sl (.int .i64)), .val (.sl (.int .i64)), .val (.sl (.int .i64)), .val (.sl (.int .i64)), .val (.int .i64), .val (.int .i64)])], []⟩
abbrev xs_slices_IndexFunc_Port_l2 : List (Ex × Sp) := [(.exit 0, ⟨19, [], [(60000, [.fix (.fn 94 [(60001, 0)])]), (60001, [.val (.int .i64), .val (.sl k0), .val (.sl (.int .i64)), .val (.sl (.int .i64)), .val (.sl (.int .i64)), .val (.sl (.int .i64)), .val (.sl (.int .i64)), .val (.int .i64), .val (.int .i64)])], []⟩), (.ret, ⟨19, [(4, .val false (.int .i64))], [(60000, [.fix (.fn 94 [(60001, 0)])]), (60001, [.val (.int .i64), .val (.sl k0), .val (.sl (.int .i64)), .val (.sl (.int .i64)), .val (.sl (.int .i64)), .val (.sl (.int .i64)), .val (.sl (.int .i64)), .val (.int .i64), .val (.int .i64)])], []⟩)]
noncomputable def s_slices_IndexFunc_Port_l2 : sp_slices_IndexFunc_Port_l2.T → Option (sp_slices_IndexFunc_Port_l2.T ⊕ XT xs_slices_IndexFunc_Port_l2) := fun x =>
  bif (decide (x.1.2.2.1 < x.1.2.1)) then
    (bif ib x.1.2.2.1 (x.1.1).length then
    (F_impl_BuildFault_f2 ((x.1.1).getD (Int.toNat x.1.2.2.1) (K.zero k0)) x.2.1.2.1.1 x.2.1.2.1.2.1 x.2.1.2.1.2.2.1 x.2.1.2.1.2.2.2.1 x.2.1.2.1.2.2.2.2.1 x.2.1.2.1.2.2.2.2.2.1 x.2.1.2.1.2.2.2.2.2.2.1 x.2.1.2.1.2.2.2.2.2.2.2.1 x.2.1.2.1.2.2.2.2.2.2.2.2.1).bind fun y1 =>
    bif y1.1.1 then
      (some (.inr (.inr ((x.1.2.2.1, ()), ((), ((y1.2.1.2.1.1, (y1.2.1.2.1.2.1, (y1.2.1.2.1.2.2.1, (y1.2.1.2.1.2.2.2.1, (y1.2.1.2.1.2.2.2.2.1, (y1.2.1.2.1.2.2.2.2.2.1, (y1.2.1.2.1.2.2.2.2.2.2.1, (y1.2.1.2.1.2.2.2.2.2.2.2.1, (y1.2.1.2.1.2.2.2.2.2.2.2.2.1, ()))))))))), ())), ()))))
    else
    some (.inl ((x.1.1, (x.1.2.1, ((IntKind.wrap .i64 (x.1.2.2.1 + (1 : Int))), ()))), ((), ((y1.2.1.2.1.1, (y1.2.1.2.1.2.1, (y1.2.1.2.1.2.2.1, (y1.2.1.2.1.2.2.2.1, (y1.2.1.2.1.2.2.2.2.1, (y1.2.1.2.1.2.2.2.2.2.1, (y1.2.1.2.1.2.2.2.2.2.2.1, (y1.2.1.2.1.2.2.2.2.2.2.2.1, (y1.2.1.2.1.2.2.2.2.2.2.2.2.1, ()))))))))), ())), ()))
    else none)
  else
  some (.inr (.inl ((), ((), ((x.2.1.2.1.1, (x.2.1.2.1.2.1, (x.2.1.2.1.2.2.1, (x.2.1.2.1.2.2.2.1, (x.2.1.2.1.2.2.2.2.1, (x.2.1.2.1.2.2.2.2.2.1, (x.2.1.2.1.2.2.2.2.2.2.1, (x.2.1.2.1.2.2.2.2.2.2.2.1, (x.2.1.2.1.2.2.2.2.2.2.2.2.1, ()))))))))), ())), ())))
noncomputable def l_slices_IndexFunc_Port_l2 : sp_slices_IndexFunc_Port_l2.T → Option (XT xs_slices_IndexFunc_Port_l2) := lim s_slices_IndexFunc_Port_l2
theorem es_slices_IndexFunc_Port_l2 : ∀ x, evCode ty (gamOf g_slices_IndexFunc_Port) j_slices_IndexFunc_Port (lamOf []) (loopAt b_slices_IndexFunc_Port 2) (sp_slices_IndexFunc_Port_l2.hd x) (rdK sp_slices_IndexFunc_Port_l2 xs_slices_IndexFunc_Port_l2) = s_slices_IndexFunc_Port_l2 x := fun x => by kernel_rfl
theorem ls_slices_IndexFunc_Port_l2 : LSumOk P (loopAt b_slices_IndexFunc_Port 2) (loopL sp_slices_IndexFunc_Port_l2 xs_slices_IndexFunc_Port_l2 l_slices_IndexFunc_Port_l2) := loop_ok tyOk mixed gok_slices_IndexFunc_Port (by kernel_rfl) (by kernel_rfl) (lam_ok (tab := []) (by kernel_rfl) (fun p hp => by cases hp)) es_slices_IndexFunc_Port_l2 lim_itr
noncomputable def F_slices_IndexFunc_Port (x1 : K.T (.sl k0)) (x2 : K.T (.int .i64)) (x3 : K.T (.sl k0)) (x4 : K.T (.sl (.int .i64))) (x5 : K.T (.sl (.int .i64))) (x6 : K.T (.sl (.int .i64))) (x7 : K.T (.sl (.int .i64))) (x8 : K.T (.sl (.int .i64))) (x9 : K.T (.int .i64)) (x10 : K.T (.int .i64)) : Option sq_slices_IndexFunc_Port.T :=
  (l_slices_IndexFunc_Port_l2 ((x1, (((x1).length : Int), ((0 : Int), ()))), ((), ((x2, (x3, (x4, (x5, (x6, (x7, (x8, (x9, (x10, ()))))))))), ())), ())).bind fun y2 =>
  (match y2 with
  | .inl y3 => some (((-1 : Int), ()), ((), ((y3.2.1.2.1.1, (y3.2.1.2.1.2.1, (y3.2.1.2.1.2.2.1, (y3.2.1.2.1.2.2.2.1, (y3.2.1.2.1.2.2.2.2.1, (y3.2.1.2.1.2.2.2.2.2.1, (y3.2.1.2.1.2.2.2.2.2.2.1, (y3.2.1.2.1.2.2.2.2.2.2.2.1, (y3.2.1.2.1.2.2.2.2.2.2.2.2.1, ()))))))))), ())), ())
  | .inr z4 => some ((z4.1.1, ()), ((), ((z4.2.1.2.1.1, (z4.2.1.2.1.2.1, (z4.2.1.2.1.2.2.1, (z4.2.1.2.1.2.2.2.1, (z4.2.1.2.1.2.2.2.2.1, (z4.2.1.2.1.2.2.2.2.2.1, (z4.2.1.2.1.2.2.2.2.2.2.1, (z4.2.1.2.1.2.2.2.2.2.2.2.1, (z4.2.1.2.1.2.2.2.2.2.2.2.2.1, ()))))))))), ())), ()))
noncomputable abbrev U_slices_IndexFunc_Port : sp_slices_IndexFunc_Port.T → Option sq_slices_IndexFunc_Port.T := fun x => F_slices_IndexFunc_Port x.1.1 x.2.1.2.1.1 x.2.1.2.1.2.1 x.2.1.2.1.2.2.1 x.2.1.2.1.2.2.2.1 x.2.1.2.1.2.2.2.2.1 x.2.1.2.1.2.2.2.2.2.1 x.2.1.2.1.2.2.2.2.2.2.1 x.2.1.2.1.2.2.2.2.2.2.2.1 x.2.1.2.1.2.2.2.2.2.2.2.2.1
theorem e_slices_IndexFunc_Port : ∀ x, evCode ty (gamOf g_slices_IndexFunc_Port) j_slices_IndexFunc_Port (lamOf [(2, loopL sp_slices_IndexFunc_Port_l2 xs_slices_IndexFunc_Port_l2 l_slices_IndexFunc_Port_l2)]) b_slices_IndexFunc_Port (sp_slices_IndexFunc_Port.hd x) (finN ty sq_slices_IndexFunc_Port [.tmp 4]) = U_slices_IndexFunc_Port x := fun x => by kernel_rfl
theorem c_slices_IndexFunc_Port : FnS P 151 sp_slices_IndexFunc_Port sq_slices_IndexFunc_Port U_slices_IndexFunc_Port :=
  fnS_of_ev tyOk mixed gok_slices_IndexFunc_Port (fn := Try.f151) (by kernel_rfl) (c := b_slices_IndexFunc_Port) (by kernel_rfl) (by kernel_rfl) (by kernel_rfl) (lam_ok (tab := [(2, loopL sp_slices_IndexFunc_Port_l2 xs_slices_IndexFunc_Port_l2 l_slices_IndexFunc_Port_l2)]) (by kernel_rfl) (by
    intro p hp
    simp only [List.mem_cons, List.not_mem_nil, or_false] at hp
    rcases hp with rfl
    · exact @ls_slices_IndexFunc_Port_l2)) e_slices_IndexFunc_Port

/-! slices.ContainsFunc[[]impl.Port,impl.Port] -/
abbrev sp_slices_ContainsFunc_Port : Sp := ⟨9, [(0, .val false (.sl k0)), (1, .fix (.fn 96 [(60000, 0)]))], [(60000, [.fix (.fn 94 [(60001, 0)])]), (60001, [.val (.int .i64), .val (.sl k0), .val (.sl (.int .i64)), .val (.sl (.int .i64)), .val (.sl (.int .i64)), .val (.sl (.int .i64)), .val (.sl (.int .i64)), .val (.int .i64), .val (.int .i64)])], []⟩
abbrev sq_slices_ContainsFunc_Port : Sp := ⟨1, [(0, .val false .bool)], [(60000, [.fix (.fn 94 [(60001, 0)])]), (60001, [.val (.int .i64), .val (.sl k0), .val (.sl (.int .i64)), .val (.sl (.int .i64)), .val (.sl (.int .i64)), .val (.sl (.int .i64)), .val (.sl (.int .i64)), .val (.int .i64), .val (.int .i64)])], []⟩
noncomputable def g_slices_ContainsFunc_Port : List (FuncId × SumX) := [(151, xN sp_slices_IndexFunc_Port sq_slices_IndexFunc_Port U_slices_IndexFunc_Port)]
def j_slices_ContainsFunc_Port : Nat → Option (List (Nat × SS)) := jOf []
theorem gok_slices_ContainsFunc_Port : GOk P (gamOf g_slices_ContainsFunc_Port) := gam_ok (tab := g_slices_ContainsFunc_Port) (by
    intro p hp
    simp only [g_slices_ContainsFunc_Port, List.mem_cons, List.not_mem_nil, or_false] at hp
    rcases hp with rfl
    · exact xN_ok c_slices_IndexFunc_Port rfl)
noncomputable abbrev b_slices_ContainsFunc_Port : Code := bodyOf Try.f95
noncomputable def F_slices_ContainsFunc_Port (x1 : K.T (.sl k0)) (x2 : K.T (.int .i64)) (x3 : K.T (.sl k0)) (x4 : K.T (.sl (.int .i64))) (x5 : K.T (.sl (.int .i64))) (x6 : K.T (.sl (.int .i64))) (x7 : K.T (.sl (.int .i64))) (x8 : K.T (.sl (.int .i64))) (x9 : K.T (.int .i64)) (x10 : K.T (.int .i64)) : Option sq_slices_ContainsFunc_Port.T :=
  (F_slices_IndexFunc_Port x1 x2 x3 x4 x5 x6 x7 x8 x9 x10).bind fun y1 =>
  some (((decide (y1.1.1 ≥ (0 : Int))), ()), ((), ((y1.2.1.2.1.1, (y1.2.1.2.1.2.1, (y1.2.1.2.1.2.2.1, (y1.2.1.2.1.2.2.2.1, (y1.2.1.2.1.2.2.2.2.1, (y1.2.1.2.1.2.2.2.2.2.1, (y1.2.1.2.1.2.2.2.2.2.2.1, (y1.2.1.2.1.2.2.2.2.2.2.2.1, (y1.2.1.2.1.2.2.2.2.2.2.2.2.1, ()))))))))), ())), ())
noncomputable abbrev U_slices_ContainsFunc_Port : sp_slices_ContainsFunc_Port.T → Option sq_slices_ContainsFunc_Port.T := fun x => F_slices_ContainsFunc_Port x.1.1 x.2.1.2.1.1 x.2.1.2.1.2.1 x.2.1.2.1.2.2.1 x.2.1.2.1.2.2.2.1 x.2.1.2.1.2.2.2.2.1 x.2.1.2.1.2.2.2.2.2.1 x.2.1.2.1.2.2.2.2.2.2.1 x.2.1.2.1.2.2.2.2.2.2.2.1 x.2.1.2.1.2.2.2.2.2.2.2.2.1
theorem e_slices_ContainsFunc_Port : ∀ x, evCode ty (gamOf g_slices_ContainsFunc_Port) j_slices_ContainsFunc_Port (lamOf []) b_slices_ContainsFunc_Port (sp_slices_ContainsFunc_Port.hd x) (finN ty sq_slices_ContainsFunc_Port [.tmp 4]) = U_slices_ContainsFunc_Port x := fun x => by kernel_rfl
theorem c_slices_ContainsFunc_Port : FnS P 95 sp_slices_ContainsFunc_Port sq_slices_ContainsFunc_Port U_slices_ContainsFunc_Port :=
  fnS_of_ev tyOk mixed gok_slices_ContainsFunc_Port (fn := Try.f95) (by kernel_rfl) (c := b_slices_ContainsFunc_Port) (by kernel_rfl) (by kernel_rfl) (by kernel_rfl) (lam_ok (tab := []) (by kernel_rfl) (fun p hp => by cases hp)) e_slices_ContainsFunc_Port

/-! impl.BuildFault$3 -/
abbrev sp_impl_BuildFault_f3 : Sp := ⟨8, [(0, .val false (.int .i64)), (1, .fix (.ptr 60000 0))], [(60000, [.fix (.fn 94 [(60001, 0)])]), (60001, [.val (.int .i64), .val (.sl k0), .val (.sl (.int .i64)), .val (.sl (.int .i64)), .val (.sl (.int .i64)), .val (.sl (.int .i64)), .val (.sl (.int .i64)), .val (.int .i64), .val (.int .i64)])], []⟩
abbrev sq_impl_BuildFault_f3 : Sp := ⟨1, [(0, .val false .bool)], [(60000, [.fix (.fn 94 [(60001, 0)])]), (60001, [.val (.int .i64), .val (.sl k0), .val (.sl (.int .i64)), .val (.sl (.int .i64)), .val (.sl (.int .i64)), .val (.sl (.int .i64)), .val (.sl (.int .i64)), .val (.int .i64), .val (.int .i64)])], []⟩
noncomputable def g_impl_BuildFault_f3 : List (FuncId × SumX) := [(94, xN sp_impl_BuildFault_f1 sq_impl_BuildFault_f1 U_impl_BuildFault_f1)]
def j_impl_BuildFault_f3 : Nat → Option (List (Nat × SS)) := jOf []
theorem gok_impl_BuildFault_f3 : GOk P (gamOf g_impl_BuildFault_f3) := gam_ok (tab := g_impl_BuildFault_f3) (by
    intro p hp
    simp only [g_impl_BuildFault_f3, List.mem_cons, List.not_mem_nil, or_false] at hp
    rcases hp with rfl
    · exact xN_ok c_impl_BuildFault_f1 rfl)
noncomputable abbrev b_impl_BuildFault_f3 : Code := bodyOf Try.f98
noncomputable def F_impl_BuildFault_f3 (x1 : K.T (.int .i64)) (x2 : K.T (.int .i64)) (x3 : K.T (.sl k0)) (x4 : K.T (.sl (.int .i64))) (x5 : K.T (.sl (.int .i64))) (x6 : K.T (.sl (.int .i64))) (x7 : K.T (.sl (.int .i64))) (x8 : K.T (.sl (.int .i64))) (x9 : K.T (.int .i64)) (x10 : K.T (.int .i64)) : Option sq_impl_BuildFault_f3.T :=
  (F_impl_BuildFault_f1 x1 x2 x3 x4 x5 x6 x7 x8 x9 x10).bind fun y1 =>
  some (((!y1.1.1), ()), ((), ((y1.2.1.1.1, (y1.2.1.1.2.1, (y1.2.1.1.2.2.1, (y1.2.1.1.2.2.2.1, (y1.2.1.1.2.2.2.2.1, (y1.2.1.1.2.2.2.2.2.1, (y1.2.1.1.2.2.2.2.2.2.1, (y1.2.1.1.2.2.2.2.2.2.2.1, (y1.2.1.1.2.2.2.2.2.2.2.2.1, ()))))))))), ())), ())
noncomputable abbrev U_impl_BuildFault_f3 : sp_impl_BuildFault_f3.T → Option sq_impl_BuildFault_f3.T := fun x => F_impl_BuildFault_f3 x.1.1 x.2.1.2.1.1 x.2.1.2.1.2.1 x.2.1.2.1.2.2.1 x.2.1.2.1.2.2.2.1 x.2.1.2.1.2.2.2.2.1 x.2.1.2.1.2.2.2.2.2.1 x.2.1.2.1.2.2.2.2.2.2.1 x.2.1.2.1.2.2.2.2.2.2.2.1 x.2.1.2.1.2.2.2.2.2.2.2.2.1
theorem e_impl_BuildFault_f3 : ∀ x, evCode ty (gamOf g_impl_BuildFault_f3) j_impl_BuildFault_f3 (lamOf []) b_impl_BuildFault_f3 (sp_impl_BuildFault_f3.hd x) (finN ty sq_impl_BuildFault_f3 [.tmp 3]) = U_impl_BuildFault_f3 x := fun x => by kernel_rfl
theorem c_impl_BuildFault_f3 : FnS P 98 sp_impl_BuildFault_f3 sq_impl_BuildFault_f3 U_impl_BuildFault_f3 :=
  fnS_of_ev tyOk mixed gok_impl_BuildFault_f3 (fn := Try.f98) (by kernel_rfl) (c := b_impl_BuildFault_f3) (by kernel_rfl) (by kernel_rfl) (by kernel_rfl) (lam_ok (tab := []) (by kernel_rfl) (fun p hp => by cases hp)) e_impl_BuildFault_f3

/-! slices.IndexFunc[[]int64,int64] -/
abbrev sp_slices_IndexFunc_int64 : Sp := ⟨19, [(0, .val false (.sl (.int .i64))), (1, .fix (.fn 98 [(60000, 0)]))], [(60000, [.fix (.fn 94 [(60001, 0)])]), (60001, [.val (.int .i64), .val (.sl k0), .val (.sl (.int .i64)), .val (.sl (.int .i64)), .val (.sl (.int .i64)), .val (.sl (.int .i64)), .val (.sl (.int .i64)), .val (.int .i64), .val (.int .i64)])], []⟩
abbrev sq_slices_IndexFunc_int64 : Sp := ⟨1, [(0, .val false (.int .i64))], [(60000, [.fix (.fn 94 [(60001, 0)])]), (60001, [.val (.int .i64), .val (.sl k0), .val (.sl (.int .i64)), .val (.sl (.int .i64)), .val (.sl (.int .i64)), .val (.sl (.int .i64)), .val (.sl (.int .i64)), .val (.int .i64), .val (.int .i64)])], []⟩
noncomputable def g_slices_IndexFunc_int64 : List (FuncId × SumX) := [(98, xN sp_impl_BuildFault_f3 sq_impl_BuildFault_f3 U_impl_BuildFault_f3)]
def j_slices_IndexFunc_int64 : Nat → Option (List (Nat × SS)) := jOf []
theorem gok_slices_IndexFunc_int64 : GOk P (gamOf g_slices_IndexFunc_int64) := gam_ok (tab := g_slices_IndexFunc_int64) (by
    intro p hp
    simp only [g_slices_IndexFunc_int64, List.mem_cons, List.not_mem_nil, or_false] at hp
    rcases hp with rfl
    · exact xN_ok c_impl_BuildFault_f3 rfl)
noncomputable abbrev b_slices_IndexFunc_int64 : Code := bodyOf Try.f152
abbrev sp_slices_IndexFunc_int64_l2 : Sp := ⟨19, [(0, .val false (.sl (.int .i64))), (1, .fix (.fn 98 [(60000, 0)])), (7, .val false (.int .i64)), (8, .val false (.int .i64))], [(60000, [.fix (.fn 94 [(60001, 0)])]), (60001, [.val (.int .i64), .val (.sl k0), .val (.sl (.int .i64)), .val (.sl (.int .i64)), .val (.sl (.int .i64)), .val (.sl (.int .i64)), .val (.sl (.int .i64)), .val (.int .i64), .val (.int .i64)])], []⟩
abbrev xs_slices_IndexFunc_int64_l2 : List (Ex × Sp) := [(.exit 0, ⟨19, [], [(60000, [.fix (.fn 94 [(60001, 0)])]), (60001, [.val (.int .i64), .val (.sl k0), .val (.sl (.int .i64)), .val (.sl (.int .i64)), .val (.sl (.int .i64)), .val (.sl (.int .i64)), .val (.sl (.int .i64)), .val (.int .i64), .val (.int .i64)])], []⟩), (.ret, ⟨19, [(4, .val false (.int .i64))], [(60000, [.fix (.fn 94 [(60001, 0)])]), (60001, [.val (.int .i64), .val (.sl k0), .val (.sl (.int .i64)), .val (.sl (.int .i64)), .val (.sl (.int .i64)), .val (.sl (.int .i64)), .val (.sl (.int .i64)), .val (.int .i64), .val (.int .i64)])], []⟩)]
noncomputable def s_slices_IndexFunc_int64_l2 : sp_slices_IndexFunc_int64_l2.T → Option (sp_slices_IndexFunc_int64_l2.T ⊕ XT xs_slices_IndexFunc_int64_l2) := fun x =>
  bif (decide (x.1.2.2.1 < x.1.2.1)) then
    (bif ib x.1.2.2.1 (x.1.1).length then
    (F_impl_BuildFault_f3 ((x.1.1).getD (Int.toNat x.1.2.2.1) (K.zero (.int .i64))) x.2.1.2.1.1 x.2.1.2.1.2.1 x.2.1.2.1.2.2.1 x.2.1.2.1.2.2.2.1 x.2.1.2.1.2.2.2.2.1 x.2.1.2.1.2.2.2.2.2.1 x.2.1.2.1.2.2.2.2.2.2.1 x.2.1.2.1.2.2.2.2.2.2.2.1 x.2.1.2.1.2.2.2.2.2.2.2.2.1).bind fun y1 =>
    bif y1.1.1 then
      (some (.inr (.inr ((x.1.2.2.1, ()), ((), ((y1.2.1.2.1.1, (y1.2.1.2.1.2.1, (y1.2.1.2.1.2.2.1, (y1.2.1.2.1.2.2.2.1, (y1.2.1.2.1.2.2.2.2.1, (y1.2.1.2.1.2.2.2.2.2.1, (y1.2.1.2.1.2.2.2.2.2.2.1, (y1.2.1.2.1.2.2.2.2.2.2.2.1, (y1.2.1.2.1.2.2.2.2.2.2.2.2.1, ()))))))))), ())), ()))))
    else
    some (.inl ((x.1.1, (x.1.2.1, ((IntKind.wrap .i64 (x.1.2.2.1 + (1 : Int))), ()))), ((), ((y1.2.1.2.1.1, (y1.2.1.2.1.2.1, (y1.2.1.2.1.2.2.1, (y1.2.1.2.1.2.2.2.1, (y1.2.1.2.1.2.2.2.2.1, (y1.2.1.2.1.2.2.2.2.2.1, (y1.2.1.2.1.2.2.2.2.2.2.1, (y1.2.1.2.1.2.2.2.2.2.2.2.1, (y1.2.1.2.1.2.2.2.2.2.2.2.2.1, ()))))))))), ())), ()))
    else none)
  else
  some (.inr (.inl ((), ((), ((x.2.1.2.1.1, (x.2.1.2.1.2.1, (x.2.1.2.1.2.2.1, (x.2.1.2.1.2.2.2.1, (x.2.1.2.1.2.2.2.2.1, (x.2.1.2.1.2.2.2.2.2.1, (x.2.1.2.1.2.2.2.2.2.2.1, (x.2.1.2.1.2.2.2.2.2.2.2.1, (x.2.1.2.1.2.2.2.2.2.2.2.2.1, ()))))))))), ())), ())))
noncomputable def l_slices_IndexFunc_int64_l2 : sp_slices_IndexFunc_int64_l2.T → Option (XT xs_slices_IndexFunc_int64_l2) := lim s_slices_IndexFunc_int64_l2
theorem es_slices_IndexFunc_int64_l2 : ∀ x, evCode ty (gamOf g_slices_IndexFunc_int64) j_slices_IndexFunc_int64 (lamOf []) (loopAt b_slices_IndexFunc_int64 2) (sp_slices_IndexFunc_int64_l2.hd x) (rdK sp_slices_IndexFunc_int64_l2 xs_slices_IndexFunc_int64_l2) = s_slices_IndexFunc_int64_l2 x := fun x => by kernel_rfl
theorem ls_slices_IndexFunc_int64_l2 : LSumOk P (loopAt b_slices_IndexFunc_int64 2) (loopL sp_slices_IndexFunc_int64_l2 xs_slices_IndexFunc_int64_l2 l_slices_IndexFunc_int64_l2) := loop_ok tyOk mixed gok_slices_IndexFunc_int64 (by kernel_rfl) (by kernel_rfl) (lam_ok (tab := []) (by kernel_rfl) (fun p hp => by cases hp)) es_slices_IndexFunc_int64_l2 lim_itr
noncomputable def F_slices_IndexFunc_int64 (x1 : K.T (.sl (.int .i64))) (x2 : K.T (.int .i64)) (x3 : K.T (.sl k0)) (x4 : K.T (.sl (.int .i64))) (x5 : K.T (.sl (.int .i64))) (x6 : K.T (.sl (.int .i64))) (x7 : K.T (.sl (.int .i64))) (x8 : K.T (.sl (.int .i64))) (x9 : K.T (.int .i64)) (x10 : K.T (.int .i64)) : Option sq_slices_IndexFunc_int64.T :=
  (l_slices_IndexFunc_int64_l2 ((x1, (((x1).length : Int), ((0 : Int), ()))), ((), ((x2, (x3, (x4, (x5, (x6, (x7, (x8, (x9, (x10, ()))))))))), ())), ())).bind fun y2 =>
  (match y2 with
  | .inl y3 => some (((-1 : Int), ()), ((), ((y3.2.1.2.1.1, (y3.2.1.2.1.2.1, (y3.2.1.2.1.2.2.1, (y3.2.1.2.1.2.2.2.1, (y3.2.1.2.1.2.2.2.2.1, (y3.2.1.2.1.2.2.2.2.2.1, (y3.2.1.2.1.2.2.2.2.2.2.1, (y3.2.1.2.1.2.2.2.2.2.2.2.1, (y3.2.1.2.1.2.2.2.2.2.2.2.2.1, ()))))))))), ())), ())
  | .inr z4 => some ((z4.1.1, ()), ((), ((z4.2.1.2.1.1, (z4.2.1.2.1.2.1, (z4.2.1.2.1.2.2.1, (z4.2.1.2.1.2.2.2.1, (z4.2.1.2.1.2.2.2.2.1, (z4.2.1.2.1.2.2.2.2.2.1, (z4.2.1.2.1.2.2.2.2.2.2.1, (z4.2.1.2.1.2.2.2.2.2.2.2.1, (z4.2.1.2.1.2.2.2.2.2.2.2.2.1, ()))))))))), ())), ()))
noncomputable abbrev U_slices_IndexFunc_int64 : sp_slices_IndexFunc_int64.T → Option sq_slices_IndexFunc_int64.T := fun x => F_slices_IndexFunc_int64 x.1.1 x.2.1.2.1.1 x.2.1.2.1.2.1 x.2.1.2.1.2.2.1 x.2.1.2.1.2.2.2.1 x.2.1.2.1.2.2.2.2.1 x.2.1.2.1.2.2.2.2.2.1 x.2.1.2.1.2.2.2.2.2.2.1 x.2.1.2.1.2.2.2.2.2.2.2.1 x.2.1.2.1.2.2.2.2.2.2.2.2.1
theorem e_slices_IndexFunc_int64 : ∀ x, evCode ty (gamOf g_slices_IndexFunc_int64) j_slices_IndexFunc_int64 (lamOf [(2, loopL sp_slices_IndexFunc_int64_l2 xs_slices_IndexFunc_int64_l2 l_slices_IndexFunc_int64_l2)]) b_slices_IndexFunc_int64 (sp_slices_IndexFunc_int64.hd x) (finN ty sq_slices_IndexFunc_int64 [.tmp 4]) = U_slices_IndexFunc_int64 x := fun x => by kernel_rfl
theorem c_slices_IndexFunc_int64 : FnS P 152 sp_slices_IndexFunc_int64 sq_slices_IndexFunc_int64 U_slices_IndexFunc_int64 :=
  fnS_of_ev tyOk mixed gok_slices_IndexFunc_int64 (fn := Try.f152) (by kernel_rfl) (c := b_slices_IndexFunc_int64) (by kernel_rfl) (by kernel_rfl) (by kernel_rfl) (lam_ok (tab := [(2, loopL sp_slices_IndexFunc_int64_l2 xs_slices_IndexFunc_int64_l2 l_slices_IndexFunc_int64_l2)]) (by kernel_rfl) (by
    intro p hp
    simp only [List.mem_cons, List.not_mem_nil, or_false] at hp
    rcases hp with rfl
    · exact @ls_slices_IndexFunc_int64_l2)) e_slices_IndexFunc_int64

/-! slices.ContainsFunc[[]int64,int64] -/
abbrev sp_slices_ContainsFunc_int64 : Sp := ⟨9, [(0, .val false (.sl (.int .i64))), (1, .fix (.fn 98 [(60000, 0)]))], [(60000, [.fix (.fn 94 [(60001, 0)])]), (60001, [.val (.int .i64), .val (.sl k0), .val (.sl (.int .i64)), .val (.sl (.int .i64)), .val (.sl (.int .i64)), .val (.sl (.int .i64)), .val (.sl (.int .i64)), .val (.int .i64), .val (.int .i64)])], []⟩
abbrev sq_slices_ContainsFunc_int64 : Sp := ⟨1, [(0, .val false .bool)], [(60000, [.fix (.fn 94 [(60001, 0)])]), (60001, [.val (.int .i64), .val (.sl k0), .val (.sl (.int .i64)), .val (.sl (.int .i64)), .val (.sl (.int .i64)), .val (.sl (.int .i64)), .val (.sl (.int .i64)), .val (.int .i64), .val (.int .i64)])], []⟩
noncomputable def g_slices_ContainsFunc_int64 : List (FuncId × SumX) := [(152, xN sp_slices_IndexFunc_int64 sq_slices_IndexFunc_int64 U_slices_IndexFunc_int64)]
def j_slices_ContainsFunc_int64 : Nat → Option (List (Nat × SS)) := jOf []
theorem gok_slices_ContainsFunc_int64 : GOk P (gamOf g_slices_ContainsFunc_int64) := gam_ok (tab := g_slices_ContainsFunc_int64) (by
    intro p hp
    simp only [g_slices_ContainsFunc_int64, List.mem_cons, List.not_mem_nil, or_false] at hp
    rcases hp with rfl
    · exact xN_ok c_slices_IndexFunc_int64 rfl)
noncomputable abbrev b_slices_ContainsFunc_int64 : Code := bodyOf Try.f97
noncomputable def F_slices_ContainsFunc_int64 (x1 : K.T (.sl (.int .i64))) (x2 : K.T (.int .i64)) (x3 : K.T (.sl k0)) (x4 : K.T (.sl (.int .i64))) (x5 : K.T (.sl (.int .i64))) (x6 : K.T (.sl (.int .i64))) (x7 : K.T (.sl (.int .i64))) (x8 : K.T (.sl (.int .i64))) (x9 : K.T (.int .i64)) (x10 : K.T (.int .i64)) : Option sq_slices_ContainsFunc_int64.T :=
  (F_slices_IndexFunc_int64 x1 x2 x3 x4 x5 x6 x7 x8 x9 x10).bind fun y1 =>
  some (((decide (y1.1.1 ≥ (0 : Int))), ()), ((), ((y1.2.1.2.1.1, (y1.2.1.2.1.2.1, (y1.2.1.2.1.2.2.1, (y1.2.1.2.1.2.2.2.1, (y1.2.1.2.1.2.2.2.2.1, (y1.2.1.2.1.2.2.2.2.2.1, (y1.2.1.2.1.2.2.2.2.2.2.1, (y1.2.1.2.1.2.2.2.2.2.2.2.1, (y1.2.1.2.1.2.2.2.2.2.2.2.2.1, ()))))))))), ())), ())
noncomputable abbrev U_slices_ContainsFunc_int64 : sp_slices_ContainsFunc_int64.T → Option sq_slices_ContainsFunc_int64.T := fun x => F_slices_ContainsFunc_int64 x.1.1 x.2.1.2.1.1 x.2.1.2.1.2.1 x.2.1.2.1.2.2.1 x.2.1.2.1.2.2.2.1 x.2.1.2.1.2.2.2.2.1 x.2.1.2.1.2.2.2.2.2.1 x.2.1.2.1.2.2.2.2.2.2.1 x.2.1.2.1.2.2.2.2.2.2.2.1 x.2.1.2.1.2.2.2.2.2.2.2.2.1
theorem e_slices_ContainsFunc_int64 : ∀ x, evCode ty (gamOf g_slices_ContainsFunc_int64) j_slices_ContainsFunc_int64 (lamOf []) b_slices_ContainsFunc_int64 (sp_slices_ContainsFunc_int64.hd x) (finN ty sq_slices_ContainsFunc_int64 [.tmp 4]) = U_slices_ContainsFunc_int64 x := fun x => by kernel_rfl
theorem c_slices_ContainsFunc_int64 : FnS P 97 sp_slices_ContainsFunc_int64 sq_slices_ContainsFunc_int64 U_slices_ContainsFunc_int64 :=
  fnS_of_ev tyOk mixed gok_slices_ContainsFunc_int64 (fn := Try.f97) (by kernel_rfl) (c := b_slices_ContainsFunc_int64) (by kernel_rfl) (by kernel_rfl) (by kernel_rfl) (lam_ok (tab := []) (by kernel_rfl) (fun p hp => by cases hp)) e_slices_ContainsFunc_int64

/-! impl.isWord -/
abbrev sp_impl_isWord : Sp := ⟨5, [(0, .val false (.int .i64))], [], []⟩
abbrev sq_impl_isWord : Sp := ⟨1, [(0, .val false .bool)], [], []⟩
noncomputable def g_impl_isWord : List (FuncId × SumX) := [(89, cN sp_impl_within sq_impl_within U_impl_within)]
def j_impl_isWord : Nat → Option (List (Nat × SS)) := jOf []
theorem gok_impl_isWord : GOk P (gamOf g_impl_isWord) := gam_ok (tab := g_impl_isWord) (by
    intro p hp
    simp only [g_impl_isWord, List.mem_cons, List.not_mem_nil, or_false] at hp
    rcases hp with rfl
    · exact cN_ok c_impl_within rfl)
noncomputable abbrev b_impl_isWord : Code := bodyOf Try.f88
noncomputable def F_impl_isWord (x1 : K.T (.int .i64)) : Option sq_impl_isWord.T :=
  (F_impl_within x1 (0 : Int) (65535 : Int)).bind fun y1 =>
  some ((y1.1.1, ()), (), ())
noncomputable abbrev U_impl_isWord : sp_impl_isWord.T → Option sq_impl_isWord.T := fun x => F_impl_isWord x.1.1
theorem e_impl_isWord : ∀ x, evCode ty (gamOf g_impl_isWord) j_impl_isWord (lamOf []) b_impl_isWord (sp_impl_isWord.hd x) (finN ty sq_impl_isWord [.tmp 2]) = U_impl_isWord x := fun x => by kernel_rfl
theorem c_impl_isWord : FnS P 88 sp_impl_isWord sq_impl_isWord U_impl_isWord :=
  fnS_of_ev tyOk mixed gok_impl_isWord (fn := Try.f88) (by kernel_rfl) (c := b_impl_isWord) (by kernel_rfl) (by kernel_rfl) (by kernel_rfl) (lam_ok (tab := []) (by kernel_rfl) (fun p hp => by cases hp)) e_impl_isWord

/-! impl.areWords -/
abbrev sp_impl_areWords : Sp := ⟨15, [(0, .val false (.sl (.int .i64)))], [], []⟩
abbrev sq_impl_areWords : Sp := ⟨1, [(0, .val false .bool)], [], []⟩
noncomputable def g_impl_areWords : List (FuncId × SumX) := [(88, cN sp_impl_isWord sq_impl_isWord U_impl_isWord)]
def j_impl_areWords : Nat → Option (List (Nat × SS)) := jOf []
theorem gok_impl_areWords : GOk P (gamOf g_impl_areWords) := gam_ok (tab := g_impl_areWords) (by
    intro p hp
    simp only [g_impl_areWords, List.mem_cons, List.not_mem_nil, or_false] at hp
    rcases hp with rfl
    · exact cN_ok c_impl_isWord rfl)
noncomputable abbrev b_impl_areWords : Code := bodyOf Try.f115
abbrev sp_impl_areWords_l2 : Sp := ⟨15, [(5, .val false (.sl (.int .i64))), (6, .val false (.int .i64)), (7, .val false (.int .i64))], [], []⟩
abbrev xs_impl_areWords_l2 : List (Ex × Sp) := [(.exit 0, ⟨15, [], [], []⟩), (.ret, ⟨15, [(2, .val false .bool)], [], []⟩)]
noncomputable def s_impl_areWords_l2 : sp_impl_areWords_l2.T → Option (sp_impl_areWords_l2.T ⊕ XT xs_impl_areWords_l2) := fun x =>
  bif (decide (x.1.2.2.1 < x.1.2.1)) then
    (bif ib x.1.2.2.1 (x.1.1).length then
    (F_impl_isWord ((x.1.1).getD (Int.toNat x.1.2.2.1) (K.zero (.int .i64)))).bind fun y1 =>
    bif (!y1.1.1) then
      (some (.inr (.inr ((false, ()), (), ()))))
    else
    some (.inl ((x.1.1, (x.1.2.1, ((IntKind.wrap .i64 (x.1.2.2.1 + (1 : Int))), ()))), (), ()))
    else none)
  else
  some (.inr (.inl ((), (), ())))
noncomputable def l_impl_areWords_l2 : sp_impl_areWords_l2.T → Option (XT xs_impl_areWords_l2) := lim s_impl_areWords_l2
theorem es_impl_areWords_l2 : ∀ x, evCode ty (gamOf g_impl_areWords) j_impl_areWords (lamOf []) (loopAt b_impl_areWords 2) (sp_impl_areWords_l2.hd x) (rdK sp_impl_areWords_l2 xs_impl_areWords_l2) = s_impl_areWords_l2 x := fun x => by kernel_rfl
theorem ls_impl_areWords_l2 : LSumOk P (loopAt b_impl_areWords 2) (loopL sp_impl_areWords_l2 xs_impl_areWords_l2 l_impl_areWords_l2) := loop_ok tyOk mixed gok_impl_areWords (by kernel_rfl) (by kernel_rfl) (lam_ok (tab := []) (by kernel_rfl) (fun p hp => by cases hp)) es_impl_areWords_l2 lim_itr
noncomputable def F_impl_areWords (x1 : K.T (.sl (.int .i64))) : Option sq_impl_areWords.T :=
  (l_impl_areWords_l2 ((x1, (((x1).length : Int), ((0 : Int), ()))), (), ())).bind fun y2 =>
  (match y2 with
  | .inl y3 => some ((true, ()), (), ())
  | .inr z4 => some ((z4.1.1, ()), (), ()))
noncomputable abbrev U_impl_areWords : sp_impl_areWords.T → Option sq_impl_areWords.T := fun x => F_impl_areWords x.1.1
theorem e_impl_areWords : ∀ x, evCode ty (gamOf g_impl_areWords) j_impl_areWords (lamOf [(2, loopL sp_impl_areWords_l2 xs_impl_areWords_l2 l_impl_areWords_l2)]) b_impl_areWords (sp_impl_areWords.hd x) (finN ty sq_impl_areWords [.tmp 2]) = U_impl_areWords x := fun x => by kernel_rfl
theorem c_impl_areWords : FnS P 115 sp_impl_areWords sq_impl_areWords U_impl_areWords :=
  fnS_of_ev tyOk mixed gok_impl_areWords (fn := Try.f115) (by kernel_rfl) (c := b_impl_areWords) (by kernel_rfl) (by kernel_rfl) (by kernel_rfl) (lam_ok (tab := [(2, loopL sp_impl_areWords_l2 xs_impl_areWords_l2 l_impl_areWords_l2)]) (by kernel_rfl) (by
    intro p hp
    simp only [List.mem_cons, List.not_mem_nil, or_false] at hp
    rcases hp with rfl
    · exact @ls_impl_areWords_l2)) e_impl_areWords

/-! impl.WordsFault -/
abbrev sp_impl_WordsFault : Sp := ⟨11, [(0, .val false (.sl (.int .i64)))], [], []⟩
abbrev sq_impl_WordsFault : Sp := ⟨1, [(0, .val false (.int .i64))], [], []⟩
noncomputable def g_impl_WordsFault : List (FuncId × SumX) := [(115, cN sp_impl_areWords sq_impl_areWords U_impl_areWords)]
def j_impl_WordsFault : Nat → Option (List (Nat × SS)) := jOf []
theorem gok_impl_WordsFault : GOk P (gamOf g_impl_WordsFault) := gam_ok (tab := g_impl_WordsFault) (by
    intro p hp
    simp only [g_impl_WordsFault, List.mem_cons, List.not_mem_nil, or_false] at hp
    rcases hp with rfl
    · exact cN_ok c_impl_areWords rfl)
noncomputable abbrev b_impl_WordsFault : Code := bodyOf Try.f99
noncomputable def F_impl_WordsFault (x1 : K.T (.sl (.int .i64))) : Option sq_impl_WordsFault.T :=
  bif (decide (((x1).length : Int) > (400 : Int))) then
    (some (((2 : Int), ()), (), ()))
  else
  (F_impl_areWords x1).bind fun y1 =>
  bif (!y1.1.1) then
    (some (((3 : Int), ()), (), ()))
  else
  some (((0 : Int), ()), (), ())
noncomputable abbrev U_impl_WordsFault : sp_impl_WordsFault.T → Option sq_impl_WordsFault.T := fun x => F_impl_WordsFault x.1.1
theorem e_impl_WordsFault : ∀ x, evCode ty (gamOf g_impl_WordsFault) j_impl_WordsFault (lamOf []) b_impl_WordsFault (sp_impl_WordsFault.hd x) (finN ty sq_impl_WordsFault [.tmp 2]) = U_impl_WordsFault x := fun x => by kernel_rfl
theorem c_impl_WordsFault : FnS P 99 sp_impl_WordsFault sq_impl_WordsFault U_impl_WordsFault :=
  fnS_of_ev tyOk mixed gok_impl_WordsFault (fn := Try.f99) (by kernel_rfl) (c := b_impl_WordsFault) (by kernel_rfl) (by kernel_rfl) (by kernel_rfl) (lam_ok (tab := []) (by kernel_rfl) (fun p hp => by cases hp)) e_impl_WordsFault

/-! slices.Equal[[]int64,int64] -/
abbrev sp_slices_Equal_int64 : Sp := ⟨26, [(0, .val false (.sl (.int .i64))), (1, .val false (.sl (.int .i64)))], [], []⟩
abbrev sq_slices_Equal_int64 : Sp := ⟨1, [(0, .val false .bool)], [], []⟩
noncomputable def g_slices_Equal_int64 : List (FuncId × SumX) := []
def j_slices_Equal_int64 : Nat → Option (List (Nat × SS)) := jOf []
theorem gok_slices_Equal_int64 : GOk P (gamOf g_slices_Equal_int64) := gam_ok (tab := g_slices_Equal_int64) (fun p hp => by cases hp)
noncomputable abbrev b_slices_Equal_int64 : Code := bodyOf Try.f100
abbrev sp_slices_Equal_int64_l4 : Sp := ⟨26, [(0, .val false (.sl (.int .i64))), (1, .val false (.sl (.int .i64))), (12, .val false (.int .i64)), (13, .val false (.int .i64))], [], []⟩
abbrev xs_slices_Equal_int64_l4 : List (Ex × Sp) := [(.exit 0, ⟨26, [], [], []⟩), (.ret, ⟨26, [(4, .val false .bool)], [], []⟩)]
noncomputable def s_slices_Equal_int64_l4 : sp_slices_Equal_int64_l4.T → Option (sp_slices_Equal_int64_l4.T ⊕ XT xs_slices_Equal_int64_l4) := fun x =>
  bif (decide (x.1.2.2.2.1 < x.1.2.2.1)) then
    (bif ib x.1.2.2.2.1 (x.1.1).length then
    bif ib x.1.2.2.2.1 (x.1.2.1).length then
    bif (((x.1.1).getD (Int.toNat x.1.2.2.2.1) (K.zero (.int .i64))) != ((x.1.2.1).getD (Int.toNat x.1.2.2.2.1) (K.zero (.int .i64)))) then
      (some (.inr (.inr ((false, ()), (), ()))))
    else
    some (.inl ((x.1.1, (x.1.2.1, (x.1.2.2.1, ((IntKind.wrap .i64 (x.1.2.2.2.1 + (1 : Int))), ())))), (), ()))
    else none
    else none)
  else
  some (.inr (.inl ((), (), ())))
noncomputable def l_slices_Equal_int64_l4 : sp_slices_Equal_int64_l4.T → Option (XT xs_slices_Equal_int64_l4) := lim s_slices_Equal_int64_l4
theorem es_slices_Equal_int64_l4 : ∀ x, evCode ty (gamOf g_slices_Equal_int64) j_slices_Equal_int64 (lamOf []) (loopAt b_slices_Equal_int64 4) (sp_slices_Equal_int64_l4.hd x) (rdK sp_slices_Equal_int64_l4 xs_slices_Equal_int64_l4) = s_slices_Equal_int64_l4 x := fun x => by kernel_rfl
theorem ls_slices_Equal_int64_l4 : LSumOk P (loopAt b_slices_Equal_int64 4) (loopL sp_slices_Equal_int64_l4 xs_slices_Equal_int64_l4 l_slices_Equal_int64_l4) := loop_ok tyOk mixed gok_slices_Equal_int64 (by kernel_rfl) (by kernel_rfl) (lam_ok (tab := []) (by kernel_rfl) (fun p hp => by cases hp)) es_slices_Equal_int64_l4 lim_itr
noncomputable def F_slices_Equal_int64 (x1 : K.T (.sl (.int .i64))) (x2 : K.T (.sl (.int .i64))) : Option sq_slices_Equal_int64.T :=
  bif (((x1).length : Int) != ((x2).length : Int)) then
    (some ((false, ()), (), ()))
  else
  (l_slices_Equal_int64_l4 ((x1, (x2, (((x1).length : Int), ((0 : Int), ())))), (), ())).bind fun y1 =>
  (match y1 with
  | .inl y2 => some ((true, ()), (), ())
  | .inr z3 => some ((z3.1.1, ()), (), ()))
noncomputable abbrev U_slices_Equal_int64 : sp_slices_Equal_int64.T → Option sq_slices_Equal_int64.T := fun x => F_slices_Equal_int64 x.1.1 x.1.2.1
theorem e_slices_Equal_int64 : ∀ x, evCode ty (gamOf g_slices_Equal_int64) j_slices_Equal_int64 (lamOf [(4, loopL sp_slices_Equal_int64_l4 xs_slices_Equal_int64_l4 l_slices_Equal_int64_l4)]) b_slices_Equal_int64 (sp_slices_Equal_int64.hd x) (finN ty sq_slices_Equal_int64 [.tmp 4]) = U_slices_Equal_int64 x := fun x => by kernel_rfl
theorem c_slices_Equal_int64 : FnS P 100 sp_slices_Equal_int64 sq_slices_Equal_int64 U_slices_Equal_int64 :=
  fnS_of_ev tyOk mixed gok_slices_Equal_int64 (fn := Try.f100) (by kernel_rfl) (c := b_slices_Equal_int64) (by kernel_rfl) (by kernel_rfl) (by kernel_rfl) (lam_ok (tab := [(4, loopL sp_slices_Equal_int64_l4 xs_slices_Equal_int64_l4 l_slices_Equal_int64_l4)]) (by kernel_rfl) (by
    intro p hp
    simp only [List.mem_cons, List.not_mem_nil, or_false] at hp
    rcases hp with rfl
    · exact @ls_slices_Equal_int64_l4)) e_slices_Equal_int64

/-! impl.crcByte -/
abbrev sp_impl_crcByte : Sp := ⟨23, [(0, .val false (.int .i64)), (1, .val false (.int .i64))], [], []⟩
abbrev sq_impl_crcByte : Sp := ⟨1, [(0, .val false (.int .i64))], [], []⟩
noncomputable def g_impl_crcByte : List (FuncId × SumX) := []
def j_impl_crcByte : Nat → Option (List (Nat × SS)) := jOf []
theorem gok_impl_crcByte : GOk P (gamOf g_impl_crcByte) := gam_ok (tab := g_impl_crcByte) (fun p hp => by cases hp)
noncomputable abbrev b_impl_crcByte : Code := bodyOf Try.f160
abbrev sp_impl_crcByte_l3 : Sp := ⟨23, [(0, .val false (.int .i64)), (10, .val false (.int .i64))], [], []⟩
abbrev xs_impl_crcByte_l3 : List (Ex × Sp) := [(.exit 0, ⟨23, [(0, .val false (.int .i64))], [], []⟩)]
noncomputable def s_impl_crcByte_l3 : sp_impl_crcByte_l3.T → Option (sp_impl_crcByte_l3.T ⊕ XT xs_impl_crcByte_l3) := fun x =>
  bif (decide (x.1.2.1 < (8 : Int))) then
    (bif ((IntKind.wrap .i64 (((BitVec.ofInt (IntKind.bits .i64) x.1.1 &&& BitVec.ofInt (IntKind.bits .i64) (32768 : Int)).toNat : Int))) != (0 : Int)) then
      (some (.inl (((IntKind.wrap .i64 (((BitVec.ofInt (IntKind.bits .i64) (IntKind.wrap .i64 (((BitVec.ofInt (IntKind.bits .i64) (IntKind.wrap .i64 ((2 : Int) * x.1.1)) &&& BitVec.ofInt (IntKind.bits .i64) (65535 : Int)).toNat : Int))) ^^^ BitVec.ofInt (IntKind.bits .i64) (4129 : Int)).toNat : Int))), ((IntKind.wrap .i64 (x.1.2.1 + (1 : Int))), ())), (), ())))
    else
    some (.inl (((IntKind.wrap .i64 (((BitVec.ofInt (IntKind.bits .i64) (IntKind.wrap .i64 ((2 : Int) * x.1.1)) &&& BitVec.ofInt (IntKind.bits .i64) (65535 : Int)).toNat : Int))), ((IntKind.wrap .i64 (x.1.2.1 + (1 : Int))), ())), (), ())))
  else
  some (.inr ((x.1.1, ()), (), ()))
noncomputable def l_impl_crcByte_l3 : sp_impl_crcByte_l3.T → Option (XT xs_impl_crcByte_l3) := lim s_impl_crcByte_l3
theorem es_impl_crcByte_l3 : ∀ x, evCode ty (gamOf g_impl_crcByte) j_impl_crcByte (lamOf []) (loopAt b_impl_crcByte 3) (sp_impl_crcByte_l3.hd x) (rdK sp_impl_crcByte_l3 xs_impl_crcByte_l3) = s_impl_crcByte_l3 x := fun x => by kernel_rfl
theorem ls_impl_crcByte_l3 : LSumOk P (loopAt b_impl_crcByte 3) (loopL sp_impl_crcByte_l3 xs_impl_crcByte_l3 l_impl_crcByte_l3) := loop_ok tyOk mixed gok_impl_crcByte (by kernel_rfl) (by kernel_rfl) (lam_ok (tab := []) (by kernel_rfl) (fun p hp => by cases hp)) es_impl_crcByte_l3 lim_itr
noncomputable def F_impl_crcByte (x1 : K.T (.int .i64)) (x2 : K.T (.int .i64)) : Option sq_impl_crcByte.T :=
  (l_impl_crcByte_l3 (((IntKind.wrap .i64 (((BitVec.ofInt (IntKind.bits .i64) x1 ^^^ BitVec.ofInt (IntKind.bits .i64) (IntKind.wrap .i64 ((256 : Int) * x2))).toNat : Int))), ((0 : Int), ())), (), ())).bind fun y1 =>
  some ((y1.1.1, ()), (), ())
noncomputable abbrev U_impl_crcByte : sp_impl_crcByte.T → Option sq_impl_crcByte.T := fun x => F_impl_crcByte x.1.1 x.1.2.1
theorem e_impl_crcByte : ∀ x, evCode ty (gamOf g_impl_crcByte) j_impl_crcByte (lamOf [(3, loopL sp_impl_crcByte_l3 xs_impl_crcByte_l3 l_impl_crcByte_l3)]) b_impl_crcByte (sp_impl_crcByte.hd x) (finN ty sq_impl_crcByte [.tmp 4]) = U_impl_crcByte x := fun x => by kernel_rfl
theorem c_impl_crcByte : FnS P 160 sp_impl_crcByte sq_impl_crcByte U_impl_crcByte :=
  fnS_of_ev tyOk mixed gok_impl_crcByte (fn := Try.f160) (by kernel_rfl) (c := b_impl_crcByte) (by kernel_rfl) (by kernel_rfl) (by kernel_rfl) (lam_ok (tab := [(3, loopL sp_impl_crcByte_l3 xs_impl_crcByte_l3 l_impl_crcByte_l3)]) (by kernel_rfl) (by
    intro p hp
    simp only [List.mem_cons, List.not_mem_nil, or_false] at hp
    rcases hp with rfl
    · exact @ls_impl_crcByte_l3)) e_impl_crcByte

/-! impl.crc -/
abbrev sp_impl_crc : Sp := ⟨21, [(0, .val false (.sl (.int .i64)))], [], []⟩
abbrev sq_impl_crc : Sp := ⟨1, [(0, .val false (.int .i64))], [], []⟩
noncomputable def g_impl_crc : List (FuncId × SumX) := [(160, cN sp_impl_crcByte sq_impl_crcByte U_impl_crcByte)]
def j_impl_crc : Nat → Option (List (Nat × SS)) := jOf []
theorem gok_impl_crc : GOk P (gamOf g_impl_crc) := gam_ok (tab := g_impl_crc) (by
    intro p hp
    simp only [g_impl_crc, List.mem_cons, List.not_mem_nil, or_false] at hp
    rcases hp with rfl
    · exact cN_ok c_impl_crcByte rfl)
noncomputable abbrev b_impl_crc : Code := bodyOf Try.f116
abbrev sp_impl_crc_l3 : Sp := ⟨21, [(3, .val false (.int .i64)), (6, .val false (.sl (.int .i64))), (7, .val false (.int .i64)), (8, .val false (.int .i64))], [], []⟩
abbrev xs_impl_crc_l3 : List (Ex × Sp) := [(.exit 0, ⟨21, [(3, .val false (.int .i64))], [], []⟩)]
noncomputable def s_impl_crc_l3 : sp_impl_crc_l3.T → Option (sp_impl_crc_l3.T ⊕ XT xs_impl_crc_l3) := fun x =>
  bif (decide (x.1.2.2.2.1 < x.1.2.2.1)) then
    (bif ib x.1.2.2.2.1 (x.1.2.1).length then
    (F_impl_crcByte x.1.1 (Int.fdiv ((x.1.2.1).getD (Int.toNat x.1.2.2.2.1) (K.zero (.int .i64))) (2 ^ min (Int.toNat (8 : Int)) (IntKind.bits .i64)))).bind fun y1 =>
    (F_impl_crcByte y1.1.1 (IntKind.wrap .i64 (((BitVec.ofInt (IntKind.bits .i64) ((x.1.2.1).getD (Int.toNat x.1.2.2.2.1) (K.zero (.int .i64))) &&& BitVec.ofInt (IntKind.bits .i64) (255 : Int)).toNat : Int)))).bind fun y2 =>
    some (.inl ((y2.1.1, (x.1.2.1, (x.1.2.2.1, ((IntKind.wrap .i64 (x.1.2.2.2.1 + (1 : Int))), ())))), (), ()))
    else none)
  else
  some (.inr ((x.1.1, ()), (), ()))
noncomputable def l_impl_crc_l3 : sp_impl_crc_l3.T → Option (XT xs_impl_crc_l3) := lim s_impl_crc_l3
theorem es_impl_crc_l3 : ∀ x, evCode ty (gamOf g_impl_crc) j_impl_crc (lamOf []) (loopAt b_impl_crc 3) (sp_impl_crc_l3.hd x) (rdK sp_impl_crc_l3 xs_impl_crc_l3) = s_impl_crc_l3 x := fun x => by kernel_rfl
theorem ls_impl_crc_l3 : LSumOk P (loopAt b_impl_crc 3) (loopL sp_impl_crc_l3 xs_impl_crc_l3 l_impl_crc_l3) := loop_ok tyOk mixed gok_impl_crc (by kernel_rfl) (by kernel_rfl) (lam_ok (tab := []) (by kernel_rfl) (fun p hp => by cases hp)) es_impl_crc_l3 lim_itr
noncomputable def F_impl_crc (x1 : K.T (.sl (.int .i64))) : Option sq_impl_crc.T :=
  (l_impl_crc_l3 (((65535 : Int), (x1, (((x1).length : Int), ((0 : Int), ())))), (), ())).bind fun y3 =>
  some ((y3.1.1, ()), (), ())
noncomputable abbrev U_impl_crc : sp_impl_crc.T → Option sq_impl_crc.T := fun x => F_impl_crc x.1.1
theorem e_impl_crc : ∀ x, evCode ty (gamOf g_impl_crc) j_impl_crc (lamOf [(3, loopL sp_impl_crc_l3 xs_impl_crc_l3 l_impl_crc_l3)]) b_impl_crc (sp_impl_crc.hd x) (finN ty sq_impl_crc [.tmp 2]) = U_impl_crc x := fun x => by kernel_rfl
theorem c_impl_crc : FnS P 116 sp_impl_crc sq_impl_crc U_impl_crc :=
  fnS_of_ev tyOk mixed gok_impl_crc (fn := Try.f116) (by kernel_rfl) (c := b_impl_crc) (by kernel_rfl) (by kernel_rfl) (by kernel_rfl) (lam_ok (tab := [(3, loopL sp_impl_crc_l3 xs_impl_crc_l3 l_impl_crc_l3)]) (by kernel_rfl) (by
    intro p hp
    simp only [List.mem_cons, List.not_mem_nil, or_false] at hp
    rcases hp with rfl
    · exact @ls_impl_crc_l3)) e_impl_crc

/-! impl.blocks -/
abbrev sp_impl_blocks : Sp := ⟨24, [(0, .val false (.sl (.int .i64)))], [], []⟩
abbrev sq_impl_blocks : Sp := ⟨1, [(0, .fix (.own 59000))], [], [(59000, (.sl (.int .i64)), false)]⟩
noncomputable def g_impl_blocks : List (FuncId × SumX) := []
def j_impl_blocks : Nat → Option (List (Nat × SS)) := jOf []
theorem gok_impl_blocks : GOk P (gamOf g_impl_blocks) := gam_ok (tab := g_impl_blocks) (fun p hp => by cases hp)
noncomputable abbrev b_impl_blocks : Code := bodyOf Try.f120
abbrev sp_impl_blocks_l3 : Sp := ⟨24, [(0, .val false (.sl (.int .i64))), (3, .fix (.own 59000)), (4, .val false (.int .i64))], [], [(59000, (.sl (.int .i64)), false)]⟩
abbrev xs_impl_blocks_l3 : List (Ex × Sp) := [(.exit 0, ⟨24, [(3, .fix (.own 59000))], [], [(59000, (.sl (.int .i64)), false)]⟩)]
noncomputable def s_impl_blocks_l3 : sp_impl_blocks_l3.T → Option (sp_impl_blocks_l3.T ⊕ XT xs_impl_blocks_l3) := fun x =>
  bif (decide (x.1.2.1 < ((x.1.1).length : Int))) then
    (bif decide (0 ≤ x.1.2.1 ∧ x.1.2.1 ≤ (mn (IntKind.wrap .i64 (x.1.2.1 + (8 : Int))) ((x.1.1).length : Int)) ∧ (mn (IntKind.wrap .i64 (x.1.2.1 + (8 : Int))) ((x.1.1).length : Int)) ≤ ((x.1.1).length : Int)) then
    bif room (x.2.2.1 ++ [((x.1.1).take (Int.toNat (mn (IntKind.wrap .i64 (x.1.2.1 + (8 : Int))) ((x.1.1).length : Int)))).drop (Int.toNat x.1.2.1)]).length 24 then
    some (.inl ((x.1.1, ((IntKind.wrap .i64 (x.1.2.1 + (8 : Int))), ())), (), ((x.2.2.1 ++ [((x.1.1).take (Int.toNat (mn (IntKind.wrap .i64 (x.1.2.1 + (8 : Int))) ((x.1.1).length : Int)))).drop (Int.toNat x.1.2.1)]), ())))
    else none
    else none)
  else
  some (.inr ((), (), (x.2.2.1, ())))
noncomputable def l_impl_blocks_l3 : sp_impl_blocks_l3.T → Option (XT xs_impl_blocks_l3) := lim s_impl_blocks_l3
theorem es_impl_blocks_l3 : ∀ x, evCode ty (gamOf g_impl_blocks) j_impl_blocks (lamOf []) (loopAt b_impl_blocks 3) (sp_impl_blocks_l3.hd x) (rdK sp_impl_blocks_l3 xs_impl_blocks_l3) = s_impl_blocks_l3 x := fun x => by kernel_rfl
theorem ls_impl_blocks_l3 : LSumOk P (loopAt b_impl_blocks 3) (loopL sp_impl_blocks_l3 xs_impl_blocks_l3 l_impl_blocks_l3) := loop_ok tyOk mixed gok_impl_blocks (by kernel_rfl) (by kernel_rfl) (lam_ok (tab := []) (by kernel_rfl) (fun p hp => by cases hp)) es_impl_blocks_l3 lim_itr
noncomputable def F_impl_blocks (x1 : K.T (.sl (.int .i64))) : Option sq_impl_blocks.T :=
  (l_impl_blocks_l3 ((x1, ((0 : Int), ())), (), ([], ()))).bind fun y1 =>
  some ((), (), (y1.2.2.1, ()))
noncomputable abbrev U_impl_blocks : sp_impl_blocks.T → Option sq_impl_blocks.T := fun x => F_impl_blocks x.1.1
theorem e_impl_blocks : ∀ x, evCode ty (gamOf g_impl_blocks) j_impl_blocks (lamOf [(3, loopL sp_impl_blocks_l3 xs_impl_blocks_l3 l_impl_blocks_l3)]) b_impl_blocks (sp_impl_blocks.hd x) (finN ty sq_impl_blocks [.tmp 2]) = U_impl_blocks x := fun x => by kernel_rfl
theorem c_impl_blocks : FnS P 120 sp_impl_blocks sq_impl_blocks U_impl_blocks :=
  fnS_of_ev tyOk mixed gok_impl_blocks (fn := Try.f120) (by kernel_rfl) (c := b_impl_blocks) (by kernel_rfl) (by kernel_rfl) (by kernel_rfl) (lam_ok (tab := [(3, loopL sp_impl_blocks_l3 xs_impl_blocks_l3 l_impl_blocks_l3)]) (by kernel_rfl) (by
    intro p hp
    simp only [List.mem_cons, List.not_mem_nil, or_false] at hp
    rcases hp with rfl
    · exact @ls_impl_blocks_l3)) e_impl_blocks

/-! impl.blockSums -/
abbrev sp_impl_blockSums : Sp := ⟨21, [(0, .val false (.sl (.int .i64)))], [], []⟩
abbrev sq_impl_blockSums : Sp := ⟨1, [(0, .fix (.own 59000))], [], [(59000, (.int .i64), true)]⟩
noncomputable def g_impl_blockSums : List (FuncId × SumX) := [(116, cN sp_impl_crc sq_impl_crc U_impl_crc), (120, xN sp_impl_blocks sq_impl_blocks U_impl_blocks)]
def j_impl_blockSums : Nat → Option (List (Nat × SS)) := jOf []
theorem gok_impl_blockSums : GOk P (gamOf g_impl_blockSums) := gam_ok (tab := g_impl_blockSums) (by
    intro p hp
    simp only [g_impl_blockSums, List.mem_cons, List.not_mem_nil, or_false] at hp
    rcases hp with rfl | rfl
    · exact cN_ok c_impl_crc rfl
    · exact xN_ok c_impl_blocks rfl)
noncomputable abbrev b_impl_blockSums : Code := bodyOf Try.f101
abbrev sp_impl_blockSums_l3 : Sp := ⟨21, [(3, .fix (.own 59000)), (8, .fix (.own 59001)), (9, .val false (.int .i64)), (10, .val false (.int .i64))], [], [(59000, (.int .i64), true), (59001, (.sl (.int .i64)), false)]⟩
abbrev xs_impl_blockSums_l3 : List (Ex × Sp) := [(.exit 0, ⟨21, [(3, .fix (.own 59000))], [], [(59000, (.int .i64), true)]⟩)]
noncomputable def s_impl_blockSums_l3 : sp_impl_blockSums_l3.T → Option (sp_impl_blockSums_l3.T ⊕ XT xs_impl_blockSums_l3) := fun x =>
  bif (decide (x.1.2.1 < x.1.1)) then
    (bif ib x.1.2.1 (x.2.2.2.1).length then
    (F_impl_crc ((x.2.2.2.1).getD (Int.toNat x.1.2.1) (K.zero (.sl (.int .i64))))).bind fun y2 =>
    bif room (x.2.2.1 ++ [y2.1.1]).length 8 then
    some (.inl ((x.1.1, ((IntKind.wrap .i64 (x.1.2.1 + (1 : Int))), ())), (), ((x.2.2.1 ++ [y2.1.1]), (x.2.2.2.1, ()))))
    else none
    else none)
  else
  some (.inr ((), (), (x.2.2.1, ())))
noncomputable def l_impl_blockSums_l3 : sp_impl_blockSums_l3.T → Option (XT xs_impl_blockSums_l3) := lim s_impl_blockSums_l3
theorem es_impl_blockSums_l3 : ∀ x, evCode ty (gamOf g_impl_blockSums) j_impl_blockSums (lamOf []) (loopAt b_impl_blockSums 3) (sp_impl_blockSums_l3.hd x) (rdK sp_impl_blockSums_l3 xs_impl_blockSums_l3) = s_impl_blockSums_l3 x := fun x => by kernel_rfl
theorem ls_impl_blockSums_l3 : LSumOk P (loopAt b_impl_blockSums 3) (loopL sp_impl_blockSums_l3 xs_impl_blockSums_l3 l_impl_blockSums_l3) := loop_ok tyOk mixed gok_impl_blockSums (by kernel_rfl) (by kernel_rfl) (lam_ok (tab := []) (by kernel_rfl) (fun p hp => by cases hp)) es_impl_blockSums_l3 lim_itr
noncomputable def F_impl_blockSums (x1 : K.T (.sl (.int .i64))) : Option sq_impl_blockSums.T :=
  (F_impl_blocks x1).bind fun y1 =>
  (l_impl_blockSums_l3 ((((y1.2.2.1).length : Int), ((0 : Int), ())), (), ([], (y1.2.2.1, ())))).bind fun y3 =>
  some ((), (), (y3.2.2.1, ()))
noncomputable abbrev U_impl_blockSums : sp_impl_blockSums.T → Option sq_impl_blockSums.T := fun x => F_impl_blockSums x.1.1
theorem e_impl_blockSums : ∀ x, evCode ty (gamOf g_impl_blockSums) j_impl_blockSums (lamOf [(3, loopL sp_impl_blockSums_l3 xs_impl_blockSums_l3 l_impl_blockSums_l3)]) b_impl_blockSums (sp_impl_blockSums.hd x) (finN ty sq_impl_blockSums [.tmp 2]) = U_impl_blockSums x := fun x => by kernel_rfl
theorem c_impl_blockSums : FnS P 101 sp_impl_blockSums sq_impl_blockSums U_impl_blockSums :=
  fnS_of_ev tyOk mixed gok_impl_blockSums (fn := Try.f101) (by kernel_rfl) (c := b_impl_blockSums) (by kernel_rfl) (by kernel_rfl) (by kernel_rfl) (lam_ok (tab := [(3, loopL sp_impl_blockSums_l3 xs_impl_blockSums_l3 l_impl_blockSums_l3)]) (by kernel_rfl) (by
    intro p hp
    simp only [List.mem_cons, List.not_mem_nil, or_false] at hp
    rcases hp with rfl
    · exact @ls_impl_blockSums_l3)) e_impl_blockSums

/-! impl.BuildFault -/
abbrev sp_impl_BuildFault : Sp := ⟨79, [(0, .val true k9)], [], []⟩
abbrev sq_impl_BuildFault : Sp := ⟨1, [(0, .val false (.int .i64))], [], []⟩
noncomputable def g_impl_BuildFault : List (FuncId × SumX) := [(89, cN sp_impl_within sq_impl_within U_impl_within), (95, xN sp_slices_ContainsFunc_Port sq_slices_ContainsFunc_Port U_slices_ContainsFunc_Port), (97, xN sp_slices_ContainsFunc_int64 sq_slices_ContainsFunc_int64 U_slices_ContainsFunc_int64), (99, cN sp_impl_WordsFault sq_impl_WordsFault U_impl_WordsFault), (100, cN sp_slices_Equal_int64 sq_slices_Equal_int64 U_slices_Equal_int64), (101, fN sp_impl_blockSums sq_impl_blockSums U_impl_blockSums)]
def j_impl_BuildFault : Nat → Option (List (Nat × SS)) := jOf [(2, [(8, .val false .bool)]), (4, [(25, .val false .bool)])]
theorem gok_impl_BuildFault : GOk P (gamOf g_impl_BuildFault) := gam_ok (tab := g_impl_BuildFault) (by
    intro p hp
    simp only [g_impl_BuildFault, List.mem_cons, List.not_mem_nil, or_false] at hp
    rcases hp with rfl | rfl | rfl | rfl | rfl | rfl
    · exact cN_ok c_impl_within rfl
    · exact xN_ok c_slices_ContainsFunc_Port rfl
    · exact xN_ok c_slices_ContainsFunc_int64 rfl
    · exact cN_ok c_impl_WordsFault rfl
    · exact cN_ok c_slices_Equal_int64 rfl
    · exact fN_ok c_impl_blockSums rfl)
noncomputable abbrev b_impl_BuildFault : Code := bodyOf Try.f34
abbrev sp_impl_BuildFault_l9 : Sp := ⟨79, [(1, .fix (.ptr 59000 0)), (51, .fix (.own 59000)), (52, .val false (.int .i64)), (53, .val false (.int .i64))], [(59000, [.val (.int .i64), .val (.sl k0), .val (.sl (.int .i64)), .val (.sl (.int .i64)), .val (.sl (.int .i64)), .val (.sl (.int .i64)), .val (.sl (.int .i64)), .val (.int .i64), .val (.int .i64)])], [(59000, (.sl (.int .i64)), false)]⟩
abbrev xs_impl_BuildFault_l9 : List (Ex × Sp) := [(.exit 1, ⟨79, [(1, .fix (.ptr 59000 0))], [(59000, [.val (.int .i64), .val (.sl k0), .val (.sl (.int .i64)), .val (.sl (.int .i64)), .val (.sl (.int .i64)), .val (.sl (.int .i64)), .val (.sl (.int .i64)), .val (.int .i64), .val (.int .i64)])], []⟩), (.ret, ⟨79, [(2, .val false (.int .i64))], [], []⟩)]
noncomputable def s_impl_BuildFault_l9 : sp_impl_BuildFault_l9.T → Option (sp_impl_BuildFault_l9.T ⊕ XT xs_impl_BuildFault_l9) := fun x =>
  bif (decide (x.1.2.1 < x.1.1)) then
    (bif ib x.1.2.1 (x.2.2.1).length then
    (F_impl_WordsFault ((x.2.2.1).getD (Int.toNat x.1.2.1) (K.zero (.sl (.int .i64))))).bind fun y8 =>
    bif (y8.1.1 != (0 : Int)) then
      (some (.inr (.inr ((y8.1.1, ()), (), ()))))
    else
    some (.inl ((x.1.1, ((IntKind.wrap .i64 (x.1.2.1 + (1 : Int))), ())), ((x.2.1.1.1, (x.2.1.1.2.1, (x.2.1.1.2.2.1, (x.2.1.1.2.2.2.1, (x.2.1.1.2.2.2.2.1, (x.2.1.1.2.2.2.2.2.1, (x.2.1.1.2.2.2.2.2.2.1, (x.2.1.1.2.2.2.2.2.2.2.1, (x.2.1.1.2.2.2.2.2.2.2.2.1, ()))))))))), ()), (x.2.2.1, ())))
    else none)
  else
  some (.inr (.inl ((), ((x.2.1.1.1, (x.2.1.1.2.1, (x.2.1.1.2.2.1, (x.2.1.1.2.2.2.1, (x.2.1.1.2.2.2.2.1, (x.2.1.1.2.2.2.2.2.1, (x.2.1.1.2.2.2.2.2.2.1, (x.2.1.1.2.2.2.2.2.2.2.1, (x.2.1.1.2.2.2.2.2.2.2.2.1, ()))))))))), ()), ())))
noncomputable def l_impl_BuildFault_l9 : sp_impl_BuildFault_l9.T → Option (XT xs_impl_BuildFault_l9) := lim s_impl_BuildFault_l9
theorem es_impl_BuildFault_l9 : ∀ x, evCode ty (gamOf g_impl_BuildFault) j_impl_BuildFault (lamOf []) (loopAt b_impl_BuildFault 9) (sp_impl_BuildFault_l9.hd x) (rdK sp_impl_BuildFault_l9 xs_impl_BuildFault_l9) = s_impl_BuildFault_l9 x := fun x => by kernel_rfl
theorem ls_impl_BuildFault_l9 : LSumOk P (loopAt b_impl_BuildFault 9) (loopL sp_impl_BuildFault_l9 xs_impl_BuildFault_l9 l_impl_BuildFault_l9) := loop_ok tyOk mixed gok_impl_BuildFault (by kernel_rfl) (by kernel_rfl) (lam_ok (tab := []) (by kernel_rfl) (fun p hp => by cases hp)) es_impl_BuildFault_l9 lim_itr
noncomputable def F_impl_BuildFault (x1 : K.T k9) : Option sq_impl_BuildFault.T :=
  ((F_impl_within x1.1 (0 : Int) (80 : Int)).bind fun y1 =>
    bif (!y1.1.1) then
      (some (true, ()))
    else
    (F_impl_within x1.2.2.2.2.2.2.2.1 (0 : Int) (20000 : Int)).bind fun y2 =>
    bif (!y2.1.1) then
      (some (true, ()))
    else
    (F_impl_within x1.2.2.2.2.2.2.2.2 (0 : Int) (20000 : Int)).bind fun y3 =>
    some ((!y3.1.1), ())).bind fun y4 =>
  bif y4.1 then
    (some (((3 : Int), ()), (), ()))
  else
  (bif (decide (((x1.2.1).length : Int) > (24 : Int))) then
      (some (true, ()))
    else
    some ((decide (((x1.2.2.1).length : Int) > (60 : Int))), ())).bind fun y5 =>
  bif y5.1 then
    (some (((2 : Int), ()), (), ()))
  else
  (F_slices_ContainsFunc_Port x1.2.1 x1.1 x1.2.1 x1.2.2.1 x1.2.2.2.1 x1.2.2.2.2.1 x1.2.2.2.2.2.1 x1.2.2.2.2.2.2.1 x1.2.2.2.2.2.2.2.1 x1.2.2.2.2.2.2.2.2).bind fun y6 =>
  bif y6.1.1 then
    (some (((3 : Int), ()), (), ()))
  else
  (F_slices_ContainsFunc_int64 y6.2.1.2.1.2.2.1 y6.2.1.2.1.1 y6.2.1.2.1.2.1 y6.2.1.2.1.2.2.1 y6.2.1.2.1.2.2.2.1 y6.2.1.2.1.2.2.2.2.1 y6.2.1.2.1.2.2.2.2.2.1 y6.2.1.2.1.2.2.2.2.2.2.1 y6.2.1.2.1.2.2.2.2.2.2.2.1 y6.2.1.2.1.2.2.2.2.2.2.2.2.1).bind fun y7 =>
  bif y7.1.1 then
    (some (((3 : Int), ()), (), ()))
  else
  (l_impl_BuildFault_l9 (((([y7.2.1.2.1.2.2.2.1, y7.2.1.2.1.2.2.2.2.1]).length : Int), ((0 : Int), ())), ((y7.2.1.2.1.1, (y7.2.1.2.1.2.1, (y7.2.1.2.1.2.2.1, (y7.2.1.2.1.2.2.2.1, (y7.2.1.2.1.2.2.2.2.1, (y7.2.1.2.1.2.2.2.2.2.1, (y7.2.1.2.1.2.2.2.2.2.2.1, (y7.2.1.2.1.2.2.2.2.2.2.2.1, (y7.2.1.2.1.2.2.2.2.2.2.2.2.1, ()))))))))), ()), ([y7.2.1.2.1.2.2.2.1, y7.2.1.2.1.2.2.2.2.1], ()))).bind fun y9 =>
  (match y9 with
  | .inl y10 => (F_impl_blockSums y10.2.1.1.2.2.2.1).bind fun y12 =>
    (F_slices_Equal_int64 y10.2.1.1.2.2.2.2.2.1 y12.2.2.1).bind fun y13 =>
    bif (!y13.1.1) then
      (some (((6 : Int), ()), (), ()))
    else
    (F_impl_blockSums y10.2.1.1.2.2.2.2.1).bind fun y14 =>
    (F_slices_Equal_int64 y10.2.1.1.2.2.2.2.2.2.1 y14.2.2.1).bind fun y15 =>
    bif (!y15.1.1) then
      (some (((6 : Int), ()), (), ()))
    else
    some (((0 : Int), ()), (), ())
  | .inr z11 => some ((z11.1.1, ()), (), ()))
noncomputable abbrev U_impl_BuildFault : sp_impl_BuildFault.T → Option sq_impl_BuildFault.T := fun x => F_impl_BuildFault x.1.1
theorem e_impl_BuildFault : ∀ x, evCode ty (gamOf g_impl_BuildFault) j_impl_BuildFault (lamOf [(9, loopL sp_impl_BuildFault_l9 xs_impl_BuildFault_l9 l_impl_BuildFault_l9)]) b_impl_BuildFault (sp_impl_BuildFault.hd x) (finN ty sq_impl_BuildFault [.tmp 2]) = U_impl_BuildFault x := fun x => by kernel_rfl
theorem c_impl_BuildFault : FnS P 34 sp_impl_BuildFault sq_impl_BuildFault U_impl_BuildFault :=
  fnS_of_ev tyOk mixed gok_impl_BuildFault (fn := Try.f34) (by kernel_rfl) (c := b_impl_BuildFault) (by kernel_rfl) (by kernel_rfl) (by kernel_rfl) (lam_ok (tab := [(9, loopL sp_impl_BuildFault_l9 xs_impl_BuildFault_l9 l_impl_BuildFault_l9)]) (by kernel_rfl) (by
    intro p hp
    simp only [List.mem_cons, List.not_mem_nil, or_false] at hp
    rcases hp with rfl
    · exact @ls_impl_BuildFault_l9)) e_impl_BuildFault

/-! impl.flag -/
abbrev sp_impl_flag : Sp := ⟨4, [(0, .val false .bool)], [], []⟩
abbrev sq_impl_flag : Sp := ⟨1, [(0, .val false (.int .i64))], [], []⟩
noncomputable def g_impl_flag : List (FuncId × SumX) := []
def j_impl_flag : Nat → Option (List (Nat × SS)) := jOf []
theorem gok_impl_flag : GOk P (gamOf g_impl_flag) := gam_ok (tab := g_impl_flag) (fun p hp => by cases hp)
noncomputable abbrev b_impl_flag : Code := bodyOf Try.f156
noncomputable def F_impl_flag (x1 : K.T .bool) : Option sq_impl_flag.T :=
  bif x1 then
    (some (((1 : Int), ()), (), ()))
  else
  some (((0 : Int), ()), (), ())
noncomputable abbrev U_impl_flag : sp_impl_flag.T → Option sq_impl_flag.T := fun x => F_impl_flag x.1.1
theorem e_impl_flag : ∀ x, evCode ty (gamOf g_impl_flag) j_impl_flag (lamOf []) b_impl_flag (sp_impl_flag.hd x) (finN ty sq_impl_flag [.tmp 2]) = U_impl_flag x := fun x => by kernel_rfl
theorem c_impl_flag : FnS P 156 sp_impl_flag sq_impl_flag U_impl_flag :=
  fnS_of_ev tyOk mixed gok_impl_flag (fn := Try.f156) (by kernel_rfl) (c := b_impl_flag) (by kernel_rfl) (by kernel_rfl) (by kernel_rfl) (lam_ok (tab := []) (by kernel_rfl) (fun p hp => by cases hp)) e_impl_flag

/-! slices.Grow[[]int64,int64] -/
abbrev sp_slices_Grow_int64 : Sp := ⟨27, [(0, .fix .nil), (1, .val false (.int .i64))], [], []⟩
abbrev sq_slices_Grow_int64 : Sp := ⟨1, [(0, .fix (.own 59000))], [], [(59000, (.int .i64), true)]⟩
noncomputable def g_slices_Grow_int64 : List (FuncId × SumX) := []
def j_slices_Grow_int64 : Nat → Option (List (Nat × SS)) := jOf []
theorem gok_slices_Grow_int64 : GOk P (gamOf g_slices_Grow_int64) := gam_ok (tab := g_slices_Grow_int64) (fun p hp => by cases hp)
noncomputable abbrev b_slices_Grow_int64 : Code := bodyOf Try.f178
noncomputable def F_slices_Grow_int64 (x1 : K.T (.int .i64)) : Option sq_slices_Grow_int64.T :=
  bif (decide (x1 < (0 : Int))) then none else
  bif (decide ((IntKind.wrap .i64 (x1 - (0 : Int))) > (0 : Int))) then
    (bif decide (0 ≤ (IntKind.wrap .i64 (x1 - (0 : Int)))) then
    bif room (Int.toNat (IntKind.wrap .i64 (x1 - (0 : Int)))) 8 then
    bif decide (0 ≤ (0 : Int) ∧ (0 : Int) ≤ (0 : Int) ∧ (0 : Int) ≤ (((List.replicate (Int.toNat (IntKind.wrap .i64 (x1 - (0 : Int)))) (K.zero (.int .i64)))).length : Int)) then
    some ((), (), (((((List.replicate (Int.toNat (IntKind.wrap .i64 (x1 - (0 : Int)))) (K.zero (.int .i64)))).drop (Int.toNat (0 : Int))).take (Int.toNat (0 : Int) - Int.toNat (0 : Int))), ()))
    else none
    else none
    else none)
  else
  some ((), (), ([], ()))
noncomputable abbrev U_slices_Grow_int64 : sp_slices_Grow_int64.T → Option sq_slices_Grow_int64.T := fun x => F_slices_Grow_int64 x.1.1
theorem e_slices_Grow_int64 : ∀ x, evCode ty (gamOf g_slices_Grow_int64) j_slices_Grow_int64 (lamOf []) b_slices_Grow_int64 (sp_slices_Grow_int64.hd x) (finN ty sq_slices_Grow_int64 [.tmp 4]) = U_slices_Grow_int64 x := fun x => by kernel_rfl
theorem c_slices_Grow_int64 : FnS P 178 sp_slices_Grow_int64 sq_slices_Grow_int64 U_slices_Grow_int64 :=
  fnS_of_ev tyOk mixed gok_slices_Grow_int64 (fn := Try.f178) (by kernel_rfl) (c := b_slices_Grow_int64) (by kernel_rfl) (by kernel_rfl) (by kernel_rfl) (lam_ok (tab := []) (by kernel_rfl) (fun p hp => by cases hp)) e_slices_Grow_int64

/-! slices.Concat[[]int64,int64] -/
abbrev sp_slices_Concat_int64 : Sp := ⟨36, [(0, .val false (.sl (.sl (.int .i64))))], [], []⟩
abbrev sq_slices_Concat_int64 : Sp := ⟨1, [(0, .fix (.own 59000))], [], [(59000, (.int .i64), true)]⟩
noncomputable def g_slices_Concat_int64 : List (FuncId × SumX) := [(178, fN sp_slices_Grow_int64 sq_slices_Grow_int64 U_slices_Grow_int64)]
def j_slices_Concat_int64 : Nat → Option (List (Nat × SS)) := jOf []
theorem gok_slices_Concat_int64 : GOk P (gamOf g_slices_Concat_int64) := gam_ok (tab := g_slices_Concat_int64) (by
    intro p hp
    simp only [g_slices_Concat_int64, List.mem_cons, List.not_mem_nil, or_false] at hp
    rcases hp with rfl
    · exact fN_ok c_slices_Grow_int64 rfl)
noncomputable abbrev b_slices_Concat_int64 : Code := bodyOf Try.f157
abbrev sp_slices_Concat_int64_l3 : Sp := ⟨36, [(0, .val false (.sl (.sl (.int .i64)))), (3, .val false (.int .i64)), (9, .val false (.sl (.sl (.int .i64)))), (10, .val false (.int .i64)), (11, .val false (.int .i64))], [], []⟩
abbrev xs_slices_Concat_int64_l3 : List (Ex × Sp) := [(.exit 0, ⟨36, [(0, .val false (.sl (.sl (.int .i64)))), (3, .val false (.int .i64))], [], []⟩)]
noncomputable def s_slices_Concat_int64_l3 : sp_slices_Concat_int64_l3.T → Option (sp_slices_Concat_int64_l3.T ⊕ XT xs_slices_Concat_int64_l3) := fun x =>
  bif (decide (x.1.2.2.2.2.1 < x.1.2.2.2.1)) then
    (bif ib x.1.2.2.2.2.1 (x.1.2.2.1).length then
    bif (decide ((IntKind.wrap .i64 (x.1.2.1 + ((((x.1.2.2.1).getD (Int.toNat x.1.2.2.2.2.1) (K.zero (.sl (.int .i64))))).length : Int))) < (0 : Int))) then none else
    some (.inl ((x.1.1, ((IntKind.wrap .i64 (x.1.2.1 + ((((x.1.2.2.1).getD (Int.toNat x.1.2.2.2.2.1) (K.zero (.sl (.int .i64))))).length : Int))), (x.1.2.2.1, (x.1.2.2.2.1, ((IntKind.wrap .i64 (x.1.2.2.2.2.1 + (1 : Int))), ()))))), (), ()))
    else none)
  else
  some (.inr ((x.1.1, (x.1.2.1, ())), (), ()))
noncomputable def l_slices_Concat_int64_l3 : sp_slices_Concat_int64_l3.T → Option (XT xs_slices_Concat_int64_l3) := lim s_slices_Concat_int64_l3
theorem es_slices_Concat_int64_l3 : ∀ x, evCode ty (gamOf g_slices_Concat_int64) j_slices_Concat_int64 (lamOf []) (loopAt b_slices_Concat_int64 3) (sp_slices_Concat_int64_l3.hd x) (rdK sp_slices_Concat_int64_l3 xs_slices_Concat_int64_l3) = s_slices_Concat_int64_l3 x := fun x => by kernel_rfl
theorem ls_slices_Concat_int64_l3 : LSumOk P (loopAt b_slices_Concat_int64 3) (loopL sp_slices_Concat_int64_l3 xs_slices_Concat_int64_l3 l_slices_Concat_int64_l3) := loop_ok tyOk mixed gok_slices_Concat_int64 (by kernel_rfl) (by kernel_rfl) (lam_ok (tab := []) (by kernel_rfl) (fun p hp => by cases hp)) es_slices_Concat_int64_l3 lim_itr
abbrev sp_slices_Concat_int64_l11 : Sp := ⟨36, [(6, .fix (.own 59000)), (25, .val false (.sl (.sl (.int .i64)))), (26, .val false (.int .i64)), (27, .val false (.int .i64))], [], [(59000, (.int .i64), true)]⟩
abbrev xs_slices_Concat_int64_l11 : List (Ex × Sp) := [(.exit 2, ⟨36, [(6, .fix (.own 59000))], [], [(59000, (.int .i64), true)]⟩)]
noncomputable def s_slices_Concat_int64_l11 : sp_slices_Concat_int64_l11.T → Option (sp_slices_Concat_int64_l11.T ⊕ XT xs_slices_Concat_int64_l11) := fun x =>
  bif (decide (x.1.2.2.1 < x.1.2.1)) then
    (bif ib x.1.2.2.1 (x.1.1).length then
    bif room (x.2.2.1 ++ ((x.1.1).getD (Int.toNat x.1.2.2.1) (K.zero (.sl (.int .i64))))).length 8 then
    some (.inl ((x.1.1, (x.1.2.1, ((IntKind.wrap .i64 (x.1.2.2.1 + (1 : Int))), ()))), (), ((x.2.2.1 ++ ((x.1.1).getD (Int.toNat x.1.2.2.1) (K.zero (.sl (.int .i64))))), ())))
    else none
    else none)
  else
  some (.inr ((), (), (x.2.2.1, ())))
noncomputable def l_slices_Concat_int64_l11 : sp_slices_Concat_int64_l11.T → Option (XT xs_slices_Concat_int64_l11) := lim s_slices_Concat_int64_l11
theorem es_slices_Concat_int64_l11 : ∀ x, evCode ty (gamOf g_slices_Concat_int64) j_slices_Concat_int64 (lamOf []) (loopAt b_slices_Concat_int64 11) (sp_slices_Concat_int64_l11.hd x) (rdK sp_slices_Concat_int64_l11 xs_slices_Concat_int64_l11) = s_slices_Concat_int64_l11 x := fun x => by kernel_rfl
theorem ls_slices_Concat_int64_l11 : LSumOk P (loopAt b_slices_Concat_int64 11) (loopL sp_slices_Concat_int64_l11 xs_slices_Concat_int64_l11 l_slices_Concat_int64_l11) := loop_ok tyOk mixed gok_slices_Concat_int64 (by kernel_rfl) (by kernel_rfl) (lam_ok (tab := []) (by kernel_rfl) (fun p hp => by cases hp)) es_slices_Concat_int64_l11 lim_itr
noncomputable def F_slices_Concat_int64 (x1 : K.T (.sl (.sl (.int .i64)))) : Option sq_slices_Concat_int64.T :=
  (l_slices_Concat_int64_l3 ((x1, ((0 : Int), (x1, (((x1).length : Int), ((0 : Int), ()))))), (), ())).bind fun y1 =>
  (F_slices_Grow_int64 y1.1.2.1).bind fun y2 =>
  (l_slices_Concat_int64_l11 ((y1.1.1, (((y1.1.1).length : Int), ((0 : Int), ()))), (), (y2.2.2.1, ()))).bind fun y3 =>
  some ((), (), (y3.2.2.1, ()))
noncomputable abbrev U_slices_Concat_int64 : sp_slices_Concat_int64.T → Option sq_slices_Concat_int64.T := fun x => F_slices_Concat_int64 x.1.1
theorem e_slices_Concat_int64 : ∀ x, evCode ty (gamOf g_slices_Concat_int64) j_slices_Concat_int64 (lamOf [(3, loopL sp_slices_Concat_int64_l3 xs_slices_Concat_int64_l3 l_slices_Concat_int64_l3), (11, loopL sp_slices_Concat_int64_l11 xs_slices_Concat_int64_l11 l_slices_Concat_int64_l11)]) b_slices_Concat_int64 (sp_slices_Concat_int64.hd x) (finN ty sq_slices_Concat_int64 [.tmp 2]) = U_slices_Concat_int64 x := fun x => by kernel_rfl
theorem c_slices_Concat_int64 : FnS P 157 sp_slices_Concat_int64 sq_slices_Concat_int64 U_slices_Concat_int64 :=
  fnS_of_ev tyOk mixed gok_slices_Concat_int64 (fn := Try.f157) (by kernel_rfl) (c := b_slices_Concat_int64) (by kernel_rfl) (by kernel_rfl) (by kernel_rfl) (lam_ok (tab := [(3, loopL sp_slices_Concat_int64_l3 xs_slices_Concat_int64_l3 l_slices_Concat_int64_l3), (11, loopL sp_slices_Concat_int64_l11 xs_slices_Concat_int64_l11 l_slices_Concat_int64_l11)]) (by kernel_rfl) (by
    intro p hp
    simp only [List.mem_cons, List.not_mem_nil, or_false] at hp
    rcases hp with rfl | rfl
    · exact @ls_slices_Concat_int64_l3
    · exact @ls_slices_Concat_int64_l11)) e_slices_Concat_int64

/-! (impl.Build).pack -/
abbrev sp_impl_Build_pack : Sp := ⟨61, [(0, .val true k9)], [], []⟩
abbrev sq_impl_Build_pack : Sp := ⟨1, [(0, .fix (.own 59000))], [], [(59000, (.int .i64), true)]⟩
noncomputable def g_impl_Build_pack : List (FuncId × SumX) := [(116, cN sp_impl_crc sq_impl_crc U_impl_crc), (156, cN sp_impl_flag sq_impl_flag U_impl_flag), (157, fN sp_slices_Concat_int64 sq_slices_Concat_int64 U_slices_Concat_int64)]
def j_impl_Build_pack : Nat → Option (List (Nat × SS)) := jOf []
theorem gok_impl_Build_pack : GOk P (gamOf g_impl_Build_pack) := gam_ok (tab := g_impl_Build_pack) (by
    intro p hp
    simp only [g_impl_Build_pack, List.mem_cons, List.not_mem_nil, or_false] at hp
    rcases hp with rfl | rfl | rfl
    · exact cN_ok c_impl_crc rfl
    · exact cN_ok c_impl_flag rfl
    · exact fN_ok c_slices_Concat_int64 rfl)
noncomputable abbrev b_impl_Build_pack : Code := bodyOf Try.f106
abbrev sp_impl_Build_pack_l3 : Sp := ⟨61, [(1, .fix (.ptr 59000 0)), (3, .fix (.own 59000)), (26, .val false (.sl k0)), (27, .val false (.int .i64)), (28, .val false (.int .i64))], [(59000, [.val (.int .i64), .val (.sl k0), .val (.sl (.int .i64)), .val (.sl (.int .i64)), .val (.sl (.int .i64)), .val (.sl (.int .i64)), .val (.sl (.int .i64)), .val (.int .i64), .val (.int .i64)])], [(59000, (.int .i64), true)]⟩
abbrev xs_impl_Build_pack_l3 : List (Ex × Sp) := [(.exit 0, ⟨61, [(1, .fix (.ptr 59000 0)), (3, .fix (.own 59000))], [(59000, [.val (.int .i64), .val (.sl k0), .val (.sl (.int .i64)), .val (.sl (.int .i64)), .val (.sl (.int .i64)), .val (.sl (.int .i64)), .val (.sl (.int .i64)), .val (.int .i64), .val (.int .i64)])], [(59000, (.int .i64), true)]⟩)]
noncomputable def s_impl_Build_pack_l3 : sp_impl_Build_pack_l3.T → Option (sp_impl_Build_pack_l3.T ⊕ XT xs_impl_Build_pack_l3) := fun x =>
  bif (decide (x.1.2.2.1 < x.1.2.1)) then
    (bif ib x.1.2.2.1 (x.1.1).length then
    (F_impl_flag (((x.1.1).getD (Int.toNat x.1.2.2.1) (K.zero k0)).2)).bind fun y1 =>
    bif room (x.2.2.1 ++ [(IntKind.wrap .i64 ((((x.1.1).getD (Int.toNat x.1.2.2.1) (K.zero k0)).1) + (IntKind.wrap .i64 ((100 : Int) * y1.1.1))))]).length 8 then
    some (.inl ((x.1.1, (x.1.2.1, ((IntKind.wrap .i64 (x.1.2.2.1 + (1 : Int))), ()))), ((x.2.1.1.1, (x.2.1.1.2.1, (x.2.1.1.2.2.1, (x.2.1.1.2.2.2.1, (x.2.1.1.2.2.2.2.1, (x.2.1.1.2.2.2.2.2.1, (x.2.1.1.2.2.2.2.2.2.1, (x.2.1.1.2.2.2.2.2.2.2.1, (x.2.1.1.2.2.2.2.2.2.2.2.1, ()))))))))), ()), ((x.2.2.1 ++ [(IntKind.wrap .i64 ((((x.1.1).getD (Int.toNat x.1.2.2.1) (K.zero k0)).1) + (IntKind.wrap .i64 ((100 : Int) * y1.1.1))))]), ())))
    else none
    else none)
  else
  some (.inr ((), ((x.2.1.1.1, (x.2.1.1.2.1, (x.2.1.1.2.2.1, (x.2.1.1.2.2.2.1, (x.2.1.1.2.2.2.2.1, (x.2.1.1.2.2.2.2.2.1, (x.2.1.1.2.2.2.2.2.2.1, (x.2.1.1.2.2.2.2.2.2.2.1, (x.2.1.1.2.2.2.2.2.2.2.2.1, ()))))))))), ()), (x.2.2.1, ())))
noncomputable def l_impl_Build_pack_l3 : sp_impl_Build_pack_l3.T → Option (XT xs_impl_Build_pack_l3) := lim s_impl_Build_pack_l3
theorem es_impl_Build_pack_l3 : ∀ x, evCode ty (gamOf g_impl_Build_pack) j_impl_Build_pack (lamOf []) (loopAt b_impl_Build_pack 3) (sp_impl_Build_pack_l3.hd x) (rdK sp_impl_Build_pack_l3 xs_impl_Build_pack_l3) = s_impl_Build_pack_l3 x := fun x => by kernel_rfl
theorem ls_impl_Build_pack_l3 : LSumOk P (loopAt b_impl_Build_pack 3) (loopL sp_impl_Build_pack_l3 xs_impl_Build_pack_l3 l_impl_Build_pack_l3) := loop_ok tyOk mixed gok_impl_Build_pack (by kernel_rfl) (by kernel_rfl) (lam_ok (tab := []) (by kernel_rfl) (fun p hp => by cases hp)) es_impl_Build_pack_l3 lim_itr
noncomputable def F_impl_Build_pack (x1 : K.T k9) : Option sq_impl_Build_pack.T :=
  (l_impl_Build_pack_l3 ((x1.2.1, (((x1.2.1).length : Int), ((0 : Int), ()))), ((x1.1, (x1.2.1, (x1.2.2.1, (x1.2.2.2.1, (x1.2.2.2.2.1, (x1.2.2.2.2.2.1, (x1.2.2.2.2.2.2.1, (x1.2.2.2.2.2.2.2.1, (x1.2.2.2.2.2.2.2.2, ()))))))))), ()), ([(21930 : Int), x1.1, x1.2.2.2.2.2.2.2.1, x1.2.2.2.2.2.2.2.2, ((x1.2.1).length : Int), ((x1.2.2.1).length : Int), ((x1.2.2.2.1).length : Int), ((x1.2.2.2.2.1).length : Int)], ()))).bind fun y2 =>
  (F_slices_Concat_int64 [y2.2.2.1, y2.2.1.1.2.2.1, y2.2.1.1.2.2.2.1, y2.2.1.1.2.2.2.2.1, y2.2.1.1.2.2.2.2.2.1, y2.2.1.1.2.2.2.2.2.2.1]).bind fun y3 =>
  (F_impl_crc y3.2.2.1).bind fun y4 =>
  bif room (y3.2.2.1 ++ [y4.1.1]).length 8 then
  some ((), (), ((y3.2.2.1 ++ [y4.1.1]), ()))
  else none
noncomputable abbrev U_impl_Build_pack : sp_impl_Build_pack.T → Option sq_impl_Build_pack.T := fun x => F_impl_Build_pack x.1.1
theorem e_impl_Build_pack : ∀ x, evCode ty (gamOf g_impl_Build_pack) j_impl_Build_pack (lamOf [(3, loopL sp_impl_Build_pack_l3 xs_impl_Build_pack_l3 l_impl_Build_pack_l3)]) b_impl_Build_pack (sp_impl_Build_pack.hd x) (finN ty sq_impl_Build_pack [.tmp 2]) = U_impl_Build_pack x := fun x => by kernel_rfl
theorem c_impl_Build_pack : FnS P 106 sp_impl_Build_pack sq_impl_Build_pack U_impl_Build_pack :=
  fnS_of_ev tyOk mixed gok_impl_Build_pack (fn := Try.f106) (by kernel_rfl) (c := b_impl_Build_pack) (by kernel_rfl) (by kernel_rfl) (by kernel_rfl) (lam_ok (tab := [(3, loopL sp_impl_Build_pack_l3 xs_impl_Build_pack_l3 l_impl_Build_pack_l3)]) (by kernel_rfl) (by
    intro p hp
    simp only [List.mem_cons, List.not_mem_nil, or_false] at hp
    rcases hp with rfl
    · exact @ls_impl_Build_pack_l3)) e_impl_Build_pack

/-! impl.PackBuild -/
abbrev sp_impl_PackBuild : Sp := ⟨19, [(0, .val true k9)], [], []⟩
abbrev sq_impl_PackBuild : Sp := ⟨1, [(0, .mix true [.val (.int .i64), .fix (.own 59000)])], [], [(59000, (.int .i64), true)]⟩
noncomputable def g_impl_PackBuild : List (FuncId × SumX) := [(34, cN sp_impl_BuildFault sq_impl_BuildFault U_impl_BuildFault), (106, fN sp_impl_Build_pack sq_impl_Build_pack U_impl_Build_pack)]
def j_impl_PackBuild : Nat → Option (List (Nat × SS)) := jOf []
theorem gok_impl_PackBuild : GOk P (gamOf g_impl_PackBuild) := gam_ok (tab := g_impl_PackBuild) (by
    intro p hp
    simp only [g_impl_PackBuild, List.mem_cons, List.not_mem_nil, or_false] at hp
    rcases hp with rfl | rfl
    · exact cN_ok c_impl_BuildFault rfl
    · exact fN_ok c_impl_Build_pack rfl)
noncomputable abbrev b_impl_PackBuild : Code := bodyOf Try.f39
noncomputable def F_impl_PackBuild (x1 : K.T k9) : Option sq_impl_PackBuild.T :=
  (F_impl_BuildFault x1).bind fun y1 =>
  bif (y1.1.1 != (0 : Int)) then
    (some (((y1.1.1, ()), ()), (), ([], ())))
  else
  (F_impl_Build_pack x1).bind fun y2 =>
  bif (decide (((y2.2.2.1).length : Int) > (1200 : Int))) then
    (some ((((2 : Int), ()), ()), (), ([], ())))
  else
  some ((((0 : Int), ()), ()), (), (y2.2.2.1, ()))
noncomputable abbrev U_impl_PackBuild : sp_impl_PackBuild.T → Option sq_impl_PackBuild.T := fun x => F_impl_PackBuild x.1.1
theorem e_impl_PackBuild : ∀ x, evCode ty (gamOf g_impl_PackBuild) j_impl_PackBuild (lamOf []) b_impl_PackBuild (sp_impl_PackBuild.hd x) (finN ty sq_impl_PackBuild [.cell 2 27]) = U_impl_PackBuild x := fun x => by kernel_rfl
theorem c_impl_PackBuild : FnS P 39 sp_impl_PackBuild sq_impl_PackBuild U_impl_PackBuild :=
  fnS_of_ev tyOk mixed gok_impl_PackBuild (fn := Try.f39) (by kernel_rfl) (c := b_impl_PackBuild) (by kernel_rfl) (by kernel_rfl) (by kernel_rfl) (lam_ok (tab := []) (by kernel_rfl) (fun p hp => by cases hp)) e_impl_PackBuild

/-! laws.markPortS -/
abbrev sp_laws_markPortS : Sp := ⟨29, [(0, .fix (.own 64000)), (1, .val false (.int .i64))], [], [(64000, k0, true)]⟩
abbrev sq_laws_markPortS : Sp := ⟨1, [(0, .val false (.int .i64))], [], [(64000, k0, true)]⟩
noncomputable def g_laws_markPortS : List (FuncId × SumX) := []
def j_laws_markPortS : Nat → Option (List (Nat × SS)) := jOf []
theorem gok_laws_markPortS : GOk P (gamOf g_laws_markPortS) := gam_ok (tab := g_laws_markPortS) (fun p hp => by cases hp)
noncomputable abbrev b_laws_markPortS : Code := bodyOf Try.f107
abbrev sp_laws_markPortS_l2 : Sp := ⟨29, [(0, .fix (.own 64000)), (1, .val false (.int .i64)), (5, .val false (.int .i64))], [], [(64000, k0, true)]⟩
abbrev xs_laws_markPortS_l2 : List (Ex × Sp) := [(.exit 0, ⟨29, [(1, .val false (.int .i64))], [], [(64000, k0, true)]⟩)]
noncomputable def s_laws_markPortS_l2 : sp_laws_markPortS_l2.T → Option (sp_laws_markPortS_l2.T ⊕ XT xs_laws_markPortS_l2) := fun x =>
  bif (decide (x.1.2.1 < ((x.2.2.1).length : Int))) then
    (bif ib x.1.2.1 (x.2.2.1).length then
    bif ib x.1.2.1 ((x.2.2.1).set (Int.toNat x.1.2.1) (x.1.1, ((x.2.2.1).getD (Int.toNat x.1.2.1) (K.zero k0)).2)).length then
    some (.inl (((IntKind.wrap .i64 ((IntKind.wrap .i64 (x.1.1 + (1 : Int))) + (1 : Int))), ((IntKind.wrap .i64 (x.1.2.1 + (1 : Int))), ())), (), (((x.2.2.1).set (Int.toNat x.1.2.1) (x.1.1, ((x.2.2.1).getD (Int.toNat x.1.2.1) (K.zero k0)).2)).set (Int.toNat x.1.2.1) ((((x.2.2.1).set (Int.toNat x.1.2.1) (x.1.1, ((x.2.2.1).getD (Int.toNat x.1.2.1) (K.zero k0)).2)).getD (Int.toNat x.1.2.1) (K.zero k0)).1, ((Int.tmod (IntKind.wrap .i64 (x.1.1 + (1 : Int))) (3 : Int)) == (0 : Int))), ())))
    else none
    else none)
  else
  some (.inr ((x.1.1, ()), (), (x.2.2.1, ())))
noncomputable def l_laws_markPortS_l2 : sp_laws_markPortS_l2.T → Option (XT xs_laws_markPortS_l2) := lim s_laws_markPortS_l2
theorem es_laws_markPortS_l2 : ∀ x, evCode ty (gamOf g_laws_markPortS) j_laws_markPortS (lamOf []) (loopAt b_laws_markPortS 2) (sp_laws_markPortS_l2.hd x) (rdK sp_laws_markPortS_l2 xs_laws_markPortS_l2) = s_laws_markPortS_l2 x := fun x => by kernel_rfl
theorem ls_laws_markPortS_l2 : LSumOk P (loopAt b_laws_markPortS 2) (loopL sp_laws_markPortS_l2 xs_laws_markPortS_l2 l_laws_markPortS_l2) := loop_ok tyOk mixed gok_laws_markPortS (by kernel_rfl) (by kernel_rfl) (lam_ok (tab := []) (by kernel_rfl) (fun p hp => by cases hp)) es_laws_markPortS_l2 lim_itr
noncomputable def F_laws_markPortS (x1 : K.T (.int .i64)) (x2 : List (K.T k0)) : Option sq_laws_markPortS.T :=
  (l_laws_markPortS_l2 ((x1, ((0 : Int), ())), (), (x2, ()))).bind fun y1 =>
  some ((y1.1.1, ()), (), (y1.2.2.1, ()))
noncomputable abbrev U_laws_markPortS : sp_laws_markPortS.T → Option sq_laws_markPortS.T := fun x => F_laws_markPortS x.1.1 x.2.2.1
theorem e_laws_markPortS : ∀ x, evCode ty (gamOf g_laws_markPortS) j_laws_markPortS (lamOf [(2, loopL sp_laws_markPortS_l2 xs_laws_markPortS_l2 l_laws_markPortS_l2)]) b_laws_markPortS (sp_laws_markPortS.hd x) (finN ty sq_laws_markPortS [.tmp 4]) = U_laws_markPortS x := fun x => by kernel_rfl
theorem c_laws_markPortS : FnS P 107 sp_laws_markPortS sq_laws_markPortS U_laws_markPortS :=
  fnS_of_ev tyOk mixed gok_laws_markPortS (fn := Try.f107) (by kernel_rfl) (c := b_laws_markPortS) (by kernel_rfl) (by kernel_rfl) (by kernel_rfl) (lam_ok (tab := [(2, loopL sp_laws_markPortS_l2 xs_laws_markPortS_l2 l_laws_markPortS_l2)]) (by kernel_rfl) (by
    intro p hp
    simp only [List.mem_cons, List.not_mem_nil, or_false] at hp
    rcases hp with rfl
    · exact @ls_laws_markPortS_l2)) e_laws_markPortS

/-! laws.markBuild -/
abbrev sp_laws_markBuild : Sp := ⟨30, [(0, .mix true [.val (.int .i64), .fix (.own 64000), .fix (.own 64001), .fix (.own 64002), .fix (.own 64003), .fix (.own 64004), .fix (.own 64005), .val (.int .i64), .val (.int .i64)]), (1, .val false (.int .i64))], [], [(64000, k0, true), (64001, (.int .i64), true), (64002, (.int .i64), true), (64003, (.int .i64), true), (64004, (.int .i64), true), (64005, (.int .i64), true)]⟩
abbrev sq_laws_markBuild : Sp := ⟨1, [(0, .val false (.int .i64))], [], [(64000, k0, true), (64001, (.int .i64), true), (64002, (.int .i64), true), (64003, (.int .i64), true), (64004, (.int .i64), true), (64005, (.int .i64), true)]⟩
noncomputable def g_laws_markBuild : List (FuncId × SumX) := [(48, xN sp_laws_markInt64S sq_laws_markInt64S U_laws_markInt64S), (107, xN sp_laws_markPortS sq_laws_markPortS U_laws_markPortS)]
def j_laws_markBuild : Nat → Option (List (Nat × SS)) := jOf []
theorem gok_laws_markBuild : GOk P (gamOf g_laws_markBuild) := gam_ok (tab := g_laws_markBuild) (by
    intro p hp
    simp only [g_laws_markBuild, List.mem_cons, List.not_mem_nil, or_false] at hp
    rcases hp with rfl | rfl
    · exact xN_ok c_laws_markInt64S rfl
    · exact xN_ok c_laws_markPortS rfl)
noncomputable abbrev b_laws_markBuild : Code := bodyOf Try.f40
noncomputable def F_laws_markBuild (x1 : K.T (.int .i64)) (x2 : K.T (.int .i64)) (x3 : K.T (.int .i64)) (x4 : K.T (.int .i64)) (x5 : List (K.T k0)) (x6 : List (K.T (.int .i64))) (x7 : List (K.T (.int .i64))) (x8 : List (K.T (.int .i64))) (x9 : List (K.T (.int .i64))) (x10 : List (K.T (.int .i64))) : Option sq_laws_markBuild.T :=
  (F_laws_markPortS x4 x5).bind fun y1 =>
  (F_laws_markInt64S y1.1.1 x6).bind fun y2 =>
  (F_laws_markInt64S y2.1.1 x7).bind fun y3 =>
  (F_laws_markInt64S y3.1.1 x8).bind fun y4 =>
  (F_laws_markInt64S y4.1.1 x9).bind fun y5 =>
  (F_laws_markInt64S y5.1.1 x10).bind fun y6 =>
  some ((y6.1.1, ()), (), (y1.2.2.1, (y2.2.2.1, (y3.2.2.1, (y4.2.2.1, (y5.2.2.1, (y6.2.2.1, ())))))))
noncomputable abbrev U_laws_markBuild : sp_laws_markBuild.T → Option sq_laws_markBuild.T := fun x => F_laws_markBuild x.1.1.1 x.1.1.2.1 x.1.1.2.2.1 x.1.2.1 x.2.2.1 x.2.2.2.1 x.2.2.2.2.1 x.2.2.2.2.2.1 x.2.2.2.2.2.2.1 x.2.2.2.2.2.2.2.1
theorem e_laws_markBuild : ∀ x, evCode ty (gamOf g_laws_markBuild) j_laws_markBuild (lamOf []) b_laws_markBuild (sp_laws_markBuild.hd x) (finN ty sq_laws_markBuild [.tmp 4]) = U_laws_markBuild x := fun x => by kernel_rfl
theorem c_laws_markBuild : FnS P 40 sp_laws_markBuild sq_laws_markBuild U_laws_markBuild :=
  fnS_of_ev tyOk mixed gok_laws_markBuild (fn := Try.f40) (by kernel_rfl) (c := b_laws_markBuild) (by kernel_rfl) (by kernel_rfl) (by kernel_rfl) (lam_ok (tab := []) (by kernel_rfl) (fun p hp => by cases hp)) e_laws_markBuild

/-! laws.FnExactPackBuild -/
abbrev sp_laws_FnExactPackBuild : Sp := ⟨69, [(0, .val true k9)], [], []⟩
abbrev sq_laws_FnExactPackBuild : Sp := ⟨1, [(0, .val false .bool)], [], []⟩
noncomputable def g_laws_FnExactPackBuild : List (FuncId × SumX) := [(21, cN sp_laws_eqIntsResult sq_laws_eqIntsResult U_laws_eqIntsResult), (24, xN sp_laws_markIntsResult sq_laws_markIntsResult U_laws_markIntsResult), (25, cN sp_laws_heldIntsResult sq_laws_heldIntsResult U_laws_heldIntsResult), (31, cN sp_laws_szBuild sq_laws_szBuild U_laws_szBuild), (33, fN sp_laws_toBuild sq_laws_toBuild U_laws_toBuild), (35, cN sp_laws_eqBuild sq_laws_eqBuild U_laws_eqBuild), (38, fN sp_spec_PackBuild sq_spec_PackBuild U_spec_PackBuild), (39, fN sp_impl_PackBuild sq_impl_PackBuild U_impl_PackBuild), (40, xN sp_laws_markBuild sq_laws_markBuild U_laws_markBuild)]
def j_laws_FnExactPackBuild : Nat → Option (List (Nat × SS)) := jOf [(14, [(42, .val false .bool)])]
theorem gok_laws_FnExactPackBuild : GOk P (gamOf g_laws_FnExactPackBuild) := gam_ok (tab := g_laws_FnExactPackBuild) (by
    intro p hp
    simp only [g_laws_FnExactPackBuild, List.mem_cons, List.not_mem_nil, or_false] at hp
    rcases hp with rfl | rfl | rfl | rfl | rfl | rfl | rfl | rfl | rfl
    · exact cN_ok c_laws_eqIntsResult rfl
    · exact xN_ok c_laws_markIntsResult rfl
    · exact cN_ok c_laws_heldIntsResult rfl
    · exact cN_ok c_laws_szBuild rfl
    · exact fN_ok c_laws_toBuild rfl
    · exact cN_ok c_laws_eqBuild rfl
    · exact fN_ok c_spec_PackBuild rfl
    · exact fN_ok c_impl_PackBuild rfl
    · exact xN_ok c_laws_markBuild rfl)
noncomputable abbrev b_laws_FnExactPackBuild : Code := bodyOf Try.f7
noncomputable def F_laws_FnExactPackBuild (x1 : K.T k9) : Option sq_laws_FnExactPackBuild.T :=
  (F_laws_szBuild x1 (1048576 : Int)).bind fun y1 =>
  bif (decide (y1.1.1 < (0 : Int))) then
    (some ((true, ()), (), ()))
  else
  (F_laws_toBuild x1).bind fun y2 =>
  (F_spec_PackBuild (y2.1.1.1, (y2.2.2.1, (y2.2.2.2.1, (y2.2.2.2.2.1, (y2.2.2.2.2.2.1, (y2.2.2.2.2.2.2.1, (y2.2.2.2.2.2.2.2.1, (y2.1.1.2.1, y2.1.1.2.2.1))))))))).bind fun y3 =>
  (F_laws_toBuild x1).bind fun y4 =>
  (F_impl_PackBuild (y4.1.1.1, (y4.2.2.1, (y4.2.2.2.1, (y4.2.2.2.2.1, (y4.2.2.2.2.2.1, (y4.2.2.2.2.2.2.1, (y4.2.2.2.2.2.2.2.1, (y4.1.1.2.1, y4.1.1.2.2.1))))))))).bind fun y5 =>
  (F_laws_eqIntsResult (y5.1.1.1, y5.2.2.1) (y3.1.1.1, y3.2.2.1)).bind fun y6 =>
  bif (!y6.1.1) then
    (some ((false, ()), (), ()))
  else
  (F_laws_toBuild x1).bind fun y7 =>
  (F_laws_eqBuild (y4.1.1.1, (y4.2.2.1, (y4.2.2.2.1, (y4.2.2.2.2.1, (y4.2.2.2.2.2.1, (y4.2.2.2.2.2.2.1, (y4.2.2.2.2.2.2.2.1, (y4.1.1.2.1, y4.1.1.2.2.1)))))))) (y7.1.1.1, (y7.2.2.1, (y7.2.2.2.1, (y7.2.2.2.2.1, (y7.2.2.2.2.2.1, (y7.2.2.2.2.2.2.1, (y7.2.2.2.2.2.2.2.1, (y7.1.1.2.1, y7.1.1.2.2.1))))))))).bind fun y8 =>
  bif (!y8.1.1) then
    (some ((false, ()), (), ()))
  else
  (F_laws_markBuild y4.1.1.1 y4.1.1.2.1 y4.1.1.2.2.1 (1 : Int) y4.2.2.1 y4.2.2.2.1 y4.2.2.2.2.1 y4.2.2.2.2.2.1 y4.2.2.2.2.2.2.1 y4.2.2.2.2.2.2.2.1).bind fun y9 =>
  (bif (decide (y9.1.1 < (0 : Int))) then
      (some (true, ()))
    else
    (F_laws_eqIntsResult (y5.1.1.1, y5.2.2.1) (y3.1.1.1, y3.2.2.1)).bind fun y10 =>
    some ((!y10.1.1), ())).bind fun y11 =>
  bif y11.1 then
    (some ((false, ()), (), ()))
  else
  (F_laws_markIntsResult y5.1.1.1 (1 : Int) y5.2.2.1).bind fun y12 =>
  (F_laws_heldIntsResult (y5.1.1.1, y12.2.2.1) (1 : Int)).bind fun y13 =>
  bif (decide (y13.1.1 < (0 : Int))) then
    (some ((false, ()), (), ()))
  else
  bif (y13.1.1 != y12.1.1) then
    (some ((false, ()), (), ()))
  else
  (F_laws_toBuild x1).bind fun y14 =>
  (F_impl_PackBuild (y14.1.1.1, (y14.2.2.1, (y14.2.2.2.1, (y14.2.2.2.2.1, (y14.2.2.2.2.2.1, (y14.2.2.2.2.2.2.1, (y14.2.2.2.2.2.2.2.1, (y14.1.1.2.1, y14.1.1.2.2.1))))))))).bind fun y15 =>
  (F_laws_eqIntsResult (y15.1.1.1, y15.2.2.1) (y3.1.1.1, y3.2.2.1)).bind fun y16 =>
  bif (!y16.1.1) then
    (some ((false, ()), (), ()))
  else
  (F_laws_heldIntsResult (y5.1.1.1, y12.2.2.1) (1 : Int)).bind fun y17 =>
  bif (decide (y17.1.1 < (0 : Int))) then
    (some ((false, ()), (), ()))
  else
  bif (y17.1.1 != y12.1.1) then
    (some ((false, ()), (), ()))
  else
  some ((true, ()), (), ())
noncomputable abbrev U_laws_FnExactPackBuild : sp_laws_FnExactPackBuild.T → Option sq_laws_FnExactPackBuild.T := fun x => F_laws_FnExactPackBuild x.1.1
theorem e_laws_FnExactPackBuild : ∀ x, evCode ty (gamOf g_laws_FnExactPackBuild) j_laws_FnExactPackBuild (lamOf []) b_laws_FnExactPackBuild (sp_laws_FnExactPackBuild.hd x) (finN ty sq_laws_FnExactPackBuild [.tmp 2]) = U_laws_FnExactPackBuild x := fun x => by kernel_rfl
theorem c_laws_FnExactPackBuild : FnS P 7 sp_laws_FnExactPackBuild sq_laws_FnExactPackBuild U_laws_FnExactPackBuild :=
  fnS_of_ev tyOk mixed gok_laws_FnExactPackBuild (fn := Try.f7) (by kernel_rfl) (c := b_laws_FnExactPackBuild) (by kernel_rfl) (by kernel_rfl) (by kernel_rfl) (lam_ok (tab := []) (by kernel_rfl) (fun p hp => by cases hp)) e_laws_FnExactPackBuild
end Go.Ev
