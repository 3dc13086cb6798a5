/- What is proved here: the contract of each function that FnExactHurtPlant reaches; no condition. -/
import Derived.Test.YtdgnmaelfhiedaaProg
import Derived.Test.YtdgnmaelfhiedaaLe
import Derived.KernelRfl
set_option linter.unusedVariables false
namespace Go.Ev
open Go.Proofs
def bodyOf (f : Func) : Code := f.body.getD .skip
noncomputable abbrev P : Program := Try.prog
abbrev k0 : K := (.pr (.int .i64) .bool)
abbrev k1 : K := (.pr (.int .i64) (.int .i64))
abbrev k2 : K := (.pr (.sl (.int .i64)) k1)
abbrev k3 : K := (.pr (.sl (.int .i64)) k2)
abbrev k4 : K := (.pr (.sl (.int .i64)) k3)
abbrev k5 : K := (.pr (.int .i64) k4)
abbrev k6 : K := (.pr (.sl (.int .i64)) k4)
abbrev k7 : K := (.pr (.sl (.int .i64)) k6)
abbrev k8 : K := (.pr (.sl k0) k7)
abbrev k9 : K := (.pr (.int .i64) k8)
abbrev k10 : K := (.pr (.sl (.int .i64)) (.int .i64))
abbrev k11 : K := (.pr (.int .i64) k10)
abbrev k12 : K := (.pr (.int .i64) k11)
abbrev k13 : K := (.pr .bool k12)
abbrev k14 : K := (.pr k5 k13)
abbrev k15 : K := (.pr k5 k14)
abbrev k16 : K := (.pr k9 k15)
abbrev k17 : K := (.pr (.int .i64) k16)
abbrev k18 : K := (.pr (.int .i64) k5)
abbrev k19 : K := (.pr (.int .i64) k18)
abbrev k20 : K := (.pr (.int .i64) k19)
def tab : List (Nat × TI) := [
  (2, (⟨.other, false, 1, 8, [.int .i64 0], some (.int .i64)⟩ : TI)),
  (3, (⟨.other, false, 1, 8, [.int .i64 0], some (.int .i64)⟩ : TI)),
  (4, (⟨.other, false, 1, 1, [.bool false], some .bool⟩ : TI)),
  (22, (⟨.slice 2, false, 1, 24, [.nil], some (.sl (.int .i64))⟩ : TI)),
  (24, (⟨.struct [(0, 1, false), (1, 1, false), (2, 1, false), (3, 1, false), (4, 1, false), (5, 1, false)], true, 6, 96, [.int .i64 0, .nil, .nil, .nil, .int .i64 0, .int .i64 0], some k5⟩ : TI)),
  (29, (⟨.struct [(0, 1, false), (1, 1, false), (2, 1, false), (3, 1, false), (4, 1, false), (5, 1, false)], true, 6, 96, [.int .i64 0, .nil, .nil, .nil, .int .i64 0, .int .i64 0], some k5⟩ : TI)),
  (37, (⟨.struct [(0, 1, false), (1, 1, false), (2, 1, false), (3, 6, true)], true, 9, 120, [.int .i64 0, .int .i64 0, .int .i64 0, .int .i64 0, .nil, .nil, .nil, .int .i64 0, .int .i64 0], some k20⟩ : TI)),
  (42, (⟨.slice 153, false, 1, 24, [.nil], some (.sl k0)⟩ : TI)),
  (44, (⟨.struct [(0, 1, false), (1, 1, false), (2, 1, false), (3, 1, false), (4, 1, false), (5, 1, false), (6, 1, false), (7, 1, false), (8, 1, false)], true, 9, 168, [.int .i64 0, .nil, .nil, .nil, .nil, .nil, .nil, .int .i64 0, .int .i64 0], some k9⟩ : TI)),
  (47, (⟨.slice 117, false, 1, 24, [.nil], some (.sl k0)⟩ : TI)),
  (49, (⟨.struct [(0, 1, false), (1, 1, false), (2, 1, false), (3, 1, false), (4, 1, false), (5, 1, false), (6, 1, false), (7, 1, false), (8, 1, false)], true, 9, 168, [.int .i64 0, .nil, .nil, .nil, .nil, .nil, .nil, .int .i64 0, .int .i64 0], some k9⟩ : TI)),
  (68, (⟨.struct [(0, 9, true), (9, 6, true), (15, 6, true), (21, 1, false), (22, 1, false), (23, 1, false), (24, 1, false), (25, 1, false)], true, 26, 416, [.int .i64 0, .nil, .nil, .nil, .nil, .nil, .nil, .int .i64 0, .int .i64 0, .int .i64 0, .nil, .nil, .nil, .int .i64 0, .int .i64 0, .int .i64 0, .nil, .nil, .nil, .int .i64 0, .int .i64 0, .bool false, .int .i64 0, .int .i64 0, .nil, .int .i64 0], some k16⟩ : TI)),
  (72, (⟨.struct [(0, 9, true), (9, 6, true), (15, 6, true), (21, 1, false), (22, 1, false), (23, 1, false), (24, 1, false), (25, 1, false)], true, 26, 416, [.int .i64 0, .nil, .nil, .nil, .nil, .nil, .nil, .int .i64 0, .int .i64 0, .int .i64 0, .nil, .nil, .nil, .int .i64 0, .int .i64 0, .int .i64 0, .nil, .nil, .nil, .int .i64 0, .int .i64 0, .bool false, .int .i64 0, .int .i64 0, .nil, .int .i64 0], some k16⟩ : TI)),
  (78, (⟨.struct [(0, 1, false), (1, 26, true)], true, 27, 424, [.int .i64 0, .int .i64 0, .nil, .nil, .nil, .nil, .nil, .nil, .int .i64 0, .int .i64 0, .int .i64 0, .nil, .nil, .nil, .int .i64 0, .int .i64 0, .int .i64 0, .nil, .nil, .nil, .int .i64 0, .int .i64 0, .bool false, .int .i64 0, .int .i64 0, .nil, .int .i64 0], some k17⟩ : TI)),
  (109, (⟨.other, false, 1, 8, [.nilf], none⟩ : TI)),
  (117, (⟨.struct [(0, 1, false), (1, 1, false)], true, 2, 16, [.int .i64 0, .bool false], some k0⟩ : TI)),
  (120, (⟨.slice 22, false, 1, 24, [.nil], some (.sl (.sl (.int .i64)))⟩ : TI)),
  (150, (⟨.slice 3, false, 1, 24, [.nil], some (.sl (.int .i64))⟩ : TI)),
  (153, (⟨.struct [(0, 1, false), (1, 1, false)], true, 2, 16, [.int .i64 0, .bool false], some k0⟩ : TI))]
def ty : Ty := fun t => (Tr.ofList tab).get t
theorem tyOk : TyOk P ty := tyOk_of_tab (by kernel_rfl)
theorem mixed : P.follows .mixedOrders = true := by kernel_rfl
/-! laws.szInt64S -/
abbrev sp_laws_szInt64S : Sp := ⟨12, [(0, .val false (.sl (.int .i64))), (1, .val false (.int .i64))], [], []⟩
abbrev sq_laws_szInt64S : Sp := ⟨1, [(0, .val false (.int .i64))], [], []⟩
noncomputable def g_laws_szInt64S : List (FuncId × SumX) := []
def j_laws_szInt64S : Nat → Option (List (Nat × SS)) := jOf []
theorem gok_laws_szInt64S : GOk P (gamOf g_laws_szInt64S) := gam_ok (tab := g_laws_szInt64S) (fun p hp => by cases hp)
noncomputable abbrev b_laws_szInt64S : Code := bodyOf Try.f79
noncomputable def F_laws_szInt64S (x1 : K.T (.sl (.int .i64))) (x2 : K.T (.int .i64)) : Option sq_laws_szInt64S.T :=
  bif (decide ((IntKind.wrap .i64 (x2 - ((x1).length : Int))) < (0 : Int))) then
    (some (((-1 : Int), ()), (), ()))
  else
  some (((IntKind.wrap .i64 (x2 - ((x1).length : Int))), ()), (), ())
noncomputable abbrev U_laws_szInt64S : sp_laws_szInt64S.T → Option sq_laws_szInt64S.T := fun x => F_laws_szInt64S x.1.1 x.1.2.1
theorem e_laws_szInt64S : ∀ x, evCode ty (gamOf g_laws_szInt64S) j_laws_szInt64S (lamOf []) b_laws_szInt64S (sp_laws_szInt64S.hd x) (finN ty sq_laws_szInt64S [.tmp 4]) = U_laws_szInt64S x := fun x => by kernel_rfl
theorem c_laws_szInt64S : FnS P 79 sp_laws_szInt64S sq_laws_szInt64S U_laws_szInt64S :=
  fnS_of_ev tyOk mixed gok_laws_szInt64S (fn := Try.f79) (by kernel_rfl) (c := b_laws_szInt64S) (by kernel_rfl) (by kernel_rfl) (by kernel_rfl) (lam_ok (tab := []) (by kernel_rfl) (fun p hp => by cases hp)) e_laws_szInt64S

/-! laws.szChan -/
abbrev sp_laws_szChan : Sp := ⟨24, [(0, .val true k5), (1, .val false (.int .i64))], [], []⟩
abbrev sq_laws_szChan : Sp := ⟨1, [(0, .val false (.int .i64))], [], []⟩
noncomputable def g_laws_szChan : List (FuncId × SumX) := [(79, cN sp_laws_szInt64S sq_laws_szInt64S U_laws_szInt64S)]
def j_laws_szChan : Nat → Option (List (Nat × SS)) := jOf []
theorem gok_laws_szChan : GOk P (gamOf g_laws_szChan) := gam_ok (tab := g_laws_szChan) (by
    intro p hp
    simp only [g_laws_szChan, List.mem_cons, List.not_mem_nil, or_false] at hp
    rcases hp with rfl
    · exact cN_ok c_laws_szInt64S rfl)
noncomputable abbrev b_laws_szChan : Code := bodyOf Try.f17
noncomputable def F_laws_szChan (x1 : K.T k5) (x2 : K.T (.int .i64)) : Option sq_laws_szChan.T :=
  (F_laws_szInt64S x1.2.1 x2).bind fun y1 =>
  bif (decide (y1.1.1 < (0 : Int))) then
    (some (((-1 : Int), ()), (), ()))
  else
  (F_laws_szInt64S x1.2.2.1 y1.1.1).bind fun y2 =>
  bif (decide (y2.1.1 < (0 : Int))) then
    (some (((-1 : Int), ()), (), ()))
  else
  (F_laws_szInt64S x1.2.2.2.1 y2.1.1).bind fun y3 =>
  bif (decide (y3.1.1 < (0 : Int))) then
    (some (((-1 : Int), ()), (), ()))
  else
  some ((y3.1.1, ()), (), ())
noncomputable abbrev U_laws_szChan : sp_laws_szChan.T → Option sq_laws_szChan.T := fun x => F_laws_szChan x.1.1 x.1.2.1
theorem e_laws_szChan : ∀ x, evCode ty (gamOf g_laws_szChan) j_laws_szChan (lamOf []) b_laws_szChan (sp_laws_szChan.hd x) (finN ty sq_laws_szChan [.tmp 4]) = U_laws_szChan x := fun x => by kernel_rfl
theorem c_laws_szChan : FnS P 17 sp_laws_szChan sq_laws_szChan U_laws_szChan :=
  fnS_of_ev tyOk mixed gok_laws_szChan (fn := Try.f17) (by kernel_rfl) (c := b_laws_szChan) (by kernel_rfl) (by kernel_rfl) (by kernel_rfl) (lam_ok (tab := []) (by kernel_rfl) (fun p hp => by cases hp)) e_laws_szChan

/-! laws.szPortS -/
abbrev sp_laws_szPortS : Sp := ⟨12, [(0, .val false (.sl k0)), (1, .val false (.int .i64))], [], []⟩
abbrev sq_laws_szPortS : Sp := ⟨1, [(0, .val false (.int .i64))], [], []⟩
noncomputable def g_laws_szPortS : List (FuncId × SumX) := []
def j_laws_szPortS : Nat → Option (List (Nat × SS)) := jOf []
theorem gok_laws_szPortS : GOk P (gamOf g_laws_szPortS) := gam_ok (tab := g_laws_szPortS) (fun p hp => by cases hp)
noncomputable abbrev b_laws_szPortS : Code := bodyOf Try.f91
noncomputable def F_laws_szPortS (x1 : K.T (.sl k0)) (x2 : K.T (.int .i64)) : Option sq_laws_szPortS.T :=
  bif (decide ((IntKind.wrap .i64 (x2 - ((x1).length : Int))) < (0 : Int))) then
    (some (((-1 : Int), ()), (), ()))
  else
  some (((IntKind.wrap .i64 (x2 - ((x1).length : Int))), ()), (), ())
noncomputable abbrev U_laws_szPortS : sp_laws_szPortS.T → Option sq_laws_szPortS.T := fun x => F_laws_szPortS x.1.1 x.1.2.1
theorem e_laws_szPortS : ∀ x, evCode ty (gamOf g_laws_szPortS) j_laws_szPortS (lamOf []) b_laws_szPortS (sp_laws_szPortS.hd x) (finN ty sq_laws_szPortS [.tmp 4]) = U_laws_szPortS x := fun x => by kernel_rfl
theorem c_laws_szPortS : FnS P 91 sp_laws_szPortS sq_laws_szPortS U_laws_szPortS :=
  fnS_of_ev tyOk mixed gok_laws_szPortS (fn := Try.f91) (by kernel_rfl) (c := b_laws_szPortS) (by kernel_rfl) (by kernel_rfl) (by kernel_rfl) (lam_ok (tab := []) (by kernel_rfl) (fun p hp => by cases hp)) e_laws_szPortS

/-! laws.szBuild -/
abbrev sp_laws_szBuild : Sp := ⟨42, [(0, .val true k9), (1, .val false (.int .i64))], [], []⟩
abbrev sq_laws_szBuild : Sp := ⟨1, [(0, .val false (.int .i64))], [], []⟩
noncomputable def g_laws_szBuild : List (FuncId × SumX) := [(79, cN sp_laws_szInt64S sq_laws_szInt64S U_laws_szInt64S), (91, cN sp_laws_szPortS sq_laws_szPortS U_laws_szPortS)]
def j_laws_szBuild : Nat → Option (List (Nat × SS)) := jOf []
theorem gok_laws_szBuild : GOk P (gamOf g_laws_szBuild) := gam_ok (tab := g_laws_szBuild) (by
    intro p hp
    simp only [g_laws_szBuild, List.mem_cons, List.not_mem_nil, or_false] at hp
    rcases hp with rfl | rfl
    · exact cN_ok c_laws_szInt64S rfl
    · exact cN_ok c_laws_szPortS rfl)
noncomputable abbrev b_laws_szBuild : Code := bodyOf Try.f31
noncomputable def F_laws_szBuild (x1 : K.T k9) (x2 : K.T (.int .i64)) : Option sq_laws_szBuild.T :=
  (F_laws_szPortS x1.2.1 x2).bind fun y1 =>
  bif (decide (y1.1.1 < (0 : Int))) then
    (some (((-1 : Int), ()), (), ()))
  else
  (F_laws_szInt64S x1.2.2.1 y1.1.1).bind fun y2 =>
  bif (decide (y2.1.1 < (0 : Int))) then
    (some (((-1 : Int), ()), (), ()))
  else
  (F_laws_szInt64S x1.2.2.2.1 y2.1.1).bind fun y3 =>
  bif (decide (y3.1.1 < (0 : Int))) then
    (some (((-1 : Int), ()), (), ()))
  else
  (F_laws_szInt64S x1.2.2.2.2.1 y3.1.1).bind fun y4 =>
  bif (decide (y4.1.1 < (0 : Int))) then
    (some (((-1 : Int), ()), (), ()))
  else
  (F_laws_szInt64S x1.2.2.2.2.2.1 y4.1.1).bind fun y5 =>
  bif (decide (y5.1.1 < (0 : Int))) then
    (some (((-1 : Int), ()), (), ()))
  else
  (F_laws_szInt64S x1.2.2.2.2.2.2.1 y5.1.1).bind fun y6 =>
  bif (decide (y6.1.1 < (0 : Int))) then
    (some (((-1 : Int), ()), (), ()))
  else
  some ((y6.1.1, ()), (), ())
noncomputable abbrev U_laws_szBuild : sp_laws_szBuild.T → Option sq_laws_szBuild.T := fun x => F_laws_szBuild x.1.1 x.1.2.1
theorem e_laws_szBuild : ∀ x, evCode ty (gamOf g_laws_szBuild) j_laws_szBuild (lamOf []) b_laws_szBuild (sp_laws_szBuild.hd x) (finN ty sq_laws_szBuild [.tmp 4]) = U_laws_szBuild x := fun x => by kernel_rfl
theorem c_laws_szBuild : FnS P 31 sp_laws_szBuild sq_laws_szBuild U_laws_szBuild :=
  fnS_of_ev tyOk mixed gok_laws_szBuild (fn := Try.f31) (by kernel_rfl) (c := b_laws_szBuild) (by kernel_rfl) (by kernel_rfl) (by kernel_rfl) (lam_ok (tab := []) (by kernel_rfl) (fun p hp => by cases hp)) e_laws_szBuild

/-! laws.szPlant -/
abbrev sp_laws_szPlant : Sp := ⟨30, [(0, .val true k16), (1, .val false (.int .i64))], [], []⟩
abbrev sq_laws_szPlant : Sp := ⟨1, [(0, .val false (.int .i64))], [], []⟩
noncomputable def g_laws_szPlant : List (FuncId × SumX) := [(17, cN sp_laws_szChan sq_laws_szChan U_laws_szChan), (31, cN sp_laws_szBuild sq_laws_szBuild U_laws_szBuild), (79, cN sp_laws_szInt64S sq_laws_szInt64S U_laws_szInt64S)]
def j_laws_szPlant : Nat → Option (List (Nat × SS)) := jOf []
theorem gok_laws_szPlant : GOk P (gamOf g_laws_szPlant) := gam_ok (tab := g_laws_szPlant) (by
    intro p hp
    simp only [g_laws_szPlant, List.mem_cons, List.not_mem_nil, or_false] at hp
    rcases hp with rfl | rfl | rfl
    · exact cN_ok c_laws_szChan rfl
    · exact cN_ok c_laws_szBuild rfl
    · exact cN_ok c_laws_szInt64S rfl)
noncomputable abbrev b_laws_szPlant : Code := bodyOf Try.f51
noncomputable def F_laws_szPlant (x1 : K.T k16) (x2 : K.T (.int .i64)) : Option sq_laws_szPlant.T :=
  (F_laws_szBuild x1.1 x2).bind fun y1 =>
  bif (decide (y1.1.1 < (0 : Int))) then
    (some (((-1 : Int), ()), (), ()))
  else
  (F_laws_szChan x1.2.1 y1.1.1).bind fun y2 =>
  bif (decide (y2.1.1 < (0 : Int))) then
    (some (((-1 : Int), ()), (), ()))
  else
  (F_laws_szChan x1.2.2.1 y2.1.1).bind fun y3 =>
  bif (decide (y3.1.1 < (0 : Int))) then
    (some (((-1 : Int), ()), (), ()))
  else
  (F_laws_szInt64S x1.2.2.2.2.2.2.1 y3.1.1).bind fun y4 =>
  bif (decide (y4.1.1 < (0 : Int))) then
    (some (((-1 : Int), ()), (), ()))
  else
  some ((y4.1.1, ()), (), ())
noncomputable abbrev U_laws_szPlant : sp_laws_szPlant.T → Option sq_laws_szPlant.T := fun x => F_laws_szPlant x.1.1 x.1.2.1
theorem e_laws_szPlant : ∀ x, evCode ty (gamOf g_laws_szPlant) j_laws_szPlant (lamOf []) b_laws_szPlant (sp_laws_szPlant.hd x) (finN ty sq_laws_szPlant [.tmp 4]) = U_laws_szPlant x := fun x => by kernel_rfl
theorem c_laws_szPlant : FnS P 51 sp_laws_szPlant sq_laws_szPlant U_laws_szPlant :=
  fnS_of_ev tyOk mixed gok_laws_szPlant (fn := Try.f51) (by kernel_rfl) (c := b_laws_szPlant) (by kernel_rfl) (by kernel_rfl) (by kernel_rfl) (lam_ok (tab := []) (by kernel_rfl) (fun p hp => by cases hp)) e_laws_szPlant

/-! laws.toInt64S -/
abbrev sp_laws_toInt64S : Sp := ⟨22, [(0, .val false (.sl (.int .i64)))], [], []⟩
abbrev sq_laws_toInt64S : Sp := ⟨1, [(0, .fix (.own 59000))], [], [(59000, (.int .i64), true)]⟩
noncomputable def g_laws_toInt64S : List (FuncId × SumX) := []
def j_laws_toInt64S : Nat → Option (List (Nat × SS)) := jOf []
theorem gok_laws_toInt64S : GOk P (gamOf g_laws_toInt64S) := gam_ok (tab := g_laws_toInt64S) (fun p hp => by cases hp)
noncomputable abbrev b_laws_toInt64S : Code := bodyOf Try.f44
abbrev sp_laws_toInt64S_l3 : Sp := ⟨22, [(0, .val false (.sl (.int .i64))), (3, .fix (.own 59000)), (4, .val false (.int .i64))], [], [(59000, (.int .i64), true)]⟩
abbrev xs_laws_toInt64S_l3 : List (Ex × Sp) := [(.exit 0, ⟨22, [(3, .fix (.own 59000))], [], [(59000, (.int .i64), true)]⟩)]
noncomputable def s_laws_toInt64S_l3 : sp_laws_toInt64S_l3.T → Option (sp_laws_toInt64S_l3.T ⊕ XT xs_laws_toInt64S_l3) := fun x =>
  bif (decide (x.1.2.1 < ((x.1.1).length : Int))) then
    (bif ib x.1.2.1 (x.1.1).length then
    bif ib x.1.2.1 (x.2.2.1).length then
    some (.inl ((x.1.1, ((IntKind.wrap .i64 (x.1.2.1 + (1 : Int))), ())), (), ((x.2.2.1).set (Int.toNat x.1.2.1) ((x.1.1).getD (Int.toNat x.1.2.1) (K.zero (.int .i64))), ())))
    else none
    else none)
  else
  some (.inr ((), (), (x.2.2.1, ())))
noncomputable def l_laws_toInt64S_l3 : sp_laws_toInt64S_l3.T → Option (XT xs_laws_toInt64S_l3) := lim s_laws_toInt64S_l3
theorem es_laws_toInt64S_l3 : ∀ x, evCode ty (gamOf g_laws_toInt64S) j_laws_toInt64S (lamOf []) (loopAt b_laws_toInt64S 3) (sp_laws_toInt64S_l3.hd x) (rdK sp_laws_toInt64S_l3 xs_laws_toInt64S_l3) = s_laws_toInt64S_l3 x := fun x => by kernel_rfl
theorem ls_laws_toInt64S_l3 : LSumOk P (loopAt b_laws_toInt64S 3) (loopL sp_laws_toInt64S_l3 xs_laws_toInt64S_l3 l_laws_toInt64S_l3) := loop_ok tyOk mixed gok_laws_toInt64S (by kernel_rfl) (by kernel_rfl) (lam_ok (tab := []) (by kernel_rfl) (fun p hp => by cases hp)) es_laws_toInt64S_l3 lim_itr
noncomputable def F_laws_toInt64S (x1 : K.T (.sl (.int .i64))) : Option sq_laws_toInt64S.T :=
  bif decide (0 ≤ ((x1).length : Int) ∧ ((x1).length : Int) ≤ ((x1).length : Int)) then
  bif room (Int.toNat ((x1).length : Int)) 8 then
  (l_laws_toInt64S_l3 ((x1, ((0 : Int), ())), (), ((List.replicate (Int.toNat ((x1).length : Int)) (K.zero (.int .i64))), ()))).bind fun y1 =>
  some ((), (), (y1.2.2.1, ()))
  else none
  else none
noncomputable abbrev U_laws_toInt64S : sp_laws_toInt64S.T → Option sq_laws_toInt64S.T := fun x => F_laws_toInt64S x.1.1
theorem e_laws_toInt64S : ∀ x, evCode ty (gamOf g_laws_toInt64S) j_laws_toInt64S (lamOf [(3, loopL sp_laws_toInt64S_l3 xs_laws_toInt64S_l3 l_laws_toInt64S_l3)]) b_laws_toInt64S (sp_laws_toInt64S.hd x) (finN ty sq_laws_toInt64S [.tmp 2]) = U_laws_toInt64S x := fun x => by kernel_rfl
theorem c_laws_toInt64S : FnS P 44 sp_laws_toInt64S sq_laws_toInt64S U_laws_toInt64S :=
  fnS_of_ev tyOk mixed gok_laws_toInt64S (fn := Try.f44) (by kernel_rfl) (c := b_laws_toInt64S) (by kernel_rfl) (by kernel_rfl) (by kernel_rfl) (lam_ok (tab := [(3, loopL sp_laws_toInt64S_l3 xs_laws_toInt64S_l3 l_laws_toInt64S_l3)]) (by kernel_rfl) (by
    intro p hp
    simp only [List.mem_cons, List.not_mem_nil, or_false] at hp
    rcases hp with rfl
    · exact @ls_laws_toInt64S_l3)) e_laws_toInt64S

/-! laws.toChan -/
abbrev sp_laws_toChan : Sp := ⟨26, [(0, .val true k5)], [], []⟩
abbrev sq_laws_toChan : Sp := ⟨1, [(0, .mix true [.val (.int .i64), .fix (.own 59000), .fix (.own 59001), .fix (.own 59002), .val (.int .i64), .val (.int .i64)])], [], [(59000, (.int .i64), true), (59001, (.int .i64), true), (59002, (.int .i64), true)]⟩
noncomputable def g_laws_toChan : List (FuncId × SumX) := [(44, fN sp_laws_toInt64S sq_laws_toInt64S U_laws_toInt64S)]
def j_laws_toChan : Nat → Option (List (Nat × SS)) := jOf []
theorem gok_laws_toChan : GOk P (gamOf g_laws_toChan) := gam_ok (tab := g_laws_toChan) (by
    intro p hp
    simp only [g_laws_toChan, List.mem_cons, List.not_mem_nil, or_false] at hp
    rcases hp with rfl
    · exact fN_ok c_laws_toInt64S rfl)
noncomputable abbrev b_laws_toChan : Code := bodyOf Try.f19
noncomputable def F_laws_toChan (x1 : K.T k5) : Option sq_laws_toChan.T :=
  (F_laws_toInt64S x1.2.1).bind fun y1 =>
  (F_laws_toInt64S x1.2.2.1).bind fun y2 =>
  (F_laws_toInt64S x1.2.2.2.1).bind fun y3 =>
  some (((x1.1, (x1.2.2.2.2.1, (x1.2.2.2.2.2, ()))), ()), (), (y1.2.2.1, (y2.2.2.1, (y3.2.2.1, ()))))
noncomputable abbrev U_laws_toChan : sp_laws_toChan.T → Option sq_laws_toChan.T := fun x => F_laws_toChan x.1.1
theorem e_laws_toChan : ∀ x, evCode ty (gamOf g_laws_toChan) j_laws_toChan (lamOf []) b_laws_toChan (sp_laws_toChan.hd x) (finN ty sq_laws_toChan [.cell 2 29]) = U_laws_toChan x := fun x => by kernel_rfl
theorem c_laws_toChan : FnS P 19 sp_laws_toChan sq_laws_toChan U_laws_toChan :=
  fnS_of_ev tyOk mixed gok_laws_toChan (fn := Try.f19) (by kernel_rfl) (c := b_laws_toChan) (by kernel_rfl) (by kernel_rfl) (by kernel_rfl) (lam_ok (tab := []) (by kernel_rfl) (fun p hp => by cases hp)) e_laws_toChan

/-! laws.toPort -/
abbrev sp_laws_toPort : Sp := ⟨11, [(0, .val true k0)], [], []⟩
abbrev sq_laws_toPort : Sp := ⟨1, [(0, .val true k0)], [], []⟩
noncomputable def g_laws_toPort : List (FuncId × SumX) := []
def j_laws_toPort : Nat → Option (List (Nat × SS)) := jOf []
theorem gok_laws_toPort : GOk P (gamOf g_laws_toPort) := gam_ok (tab := g_laws_toPort) (fun p hp => by cases hp)
noncomputable abbrev b_laws_toPort : Code := bodyOf Try.f150
noncomputable def F_laws_toPort (x1 : K.T k0) : Option sq_laws_toPort.T :=
  some ((x1, ()), (), ())
noncomputable abbrev U_laws_toPort : sp_laws_toPort.T → Option sq_laws_toPort.T := fun x => F_laws_toPort x.1.1
theorem e_laws_toPort : ∀ x, evCode ty (gamOf g_laws_toPort) j_laws_toPort (lamOf []) b_laws_toPort (sp_laws_toPort.hd x) (finN ty sq_laws_toPort [.cell 2 117]) = U_laws_toPort x := fun x => by kernel_rfl
theorem c_laws_toPort : FnS P 150 sp_laws_toPort sq_laws_toPort U_laws_toPort :=
  fnS_of_ev tyOk mixed gok_laws_toPort (fn := Try.f150) (by kernel_rfl) (c := b_laws_toPort) (by kernel_rfl) (by kernel_rfl) (by kernel_rfl) (lam_ok (tab := []) (by kernel_rfl) (fun p hp => by cases hp)) e_laws_toPort

/-! laws.toPortS -/
abbrev sp_laws_toPortS : Sp := ⟨23, [(0, .val false (.sl k0))], [], []⟩
abbrev sq_laws_toPortS : Sp := ⟨1, [(0, .fix (.own 59000))], [], [(59000, k0, true)]⟩
noncomputable def g_laws_toPortS : List (FuncId × SumX) := [(150, cN sp_laws_toPort sq_laws_toPort U_laws_toPort)]
def j_laws_toPortS : Nat → Option (List (Nat × SS)) := jOf []
theorem gok_laws_toPortS : GOk P (gamOf g_laws_toPortS) := gam_ok (tab := g_laws_toPortS) (by
    intro p hp
    simp only [g_laws_toPortS, List.mem_cons, List.not_mem_nil, or_false] at hp
    rcases hp with rfl
    · exact cN_ok c_laws_toPort rfl)
noncomputable abbrev b_laws_toPortS : Code := bodyOf Try.f93
abbrev sp_laws_toPortS_l3 : Sp := ⟨23, [(0, .val false (.sl k0)), (3, .fix (.own 59000)), (4, .val false (.int .i64))], [], [(59000, k0, true)]⟩
abbrev xs_laws_toPortS_l3 : List (Ex × Sp) := [(.exit 0, ⟨23, [(3, .fix (.own 59000))], [], [(59000, k0, true)]⟩)]
noncomputable def s_laws_toPortS_l3 : sp_laws_toPortS_l3.T → Option (sp_laws_toPortS_l3.T ⊕ XT xs_laws_toPortS_l3) := fun x =>
  bif (decide (x.1.2.1 < ((x.1.1).length : Int))) then
    (bif ib x.1.2.1 (x.1.1).length then
    (F_laws_toPort ((x.1.1).getD (Int.toNat x.1.2.1) (K.zero k0))).bind fun y1 =>
    bif ib x.1.2.1 (x.2.2.1).length then
    some (.inl ((x.1.1, ((IntKind.wrap .i64 (x.1.2.1 + (1 : Int))), ())), (), ((x.2.2.1).set (Int.toNat x.1.2.1) y1.1.1, ())))
    else none
    else none)
  else
  some (.inr ((), (), (x.2.2.1, ())))
noncomputable def l_laws_toPortS_l3 : sp_laws_toPortS_l3.T → Option (XT xs_laws_toPortS_l3) := lim s_laws_toPortS_l3
theorem es_laws_toPortS_l3 : ∀ x, evCode ty (gamOf g_laws_toPortS) j_laws_toPortS (lamOf []) (loopAt b_laws_toPortS 3) (sp_laws_toPortS_l3.hd x) (rdK sp_laws_toPortS_l3 xs_laws_toPortS_l3) = s_laws_toPortS_l3 x := fun x => by kernel_rfl
theorem ls_laws_toPortS_l3 : LSumOk P (loopAt b_laws_toPortS 3) (loopL sp_laws_toPortS_l3 xs_laws_toPortS_l3 l_laws_toPortS_l3) := loop_ok tyOk mixed gok_laws_toPortS (by kernel_rfl) (by kernel_rfl) (lam_ok (tab := []) (by kernel_rfl) (fun p hp => by cases hp)) es_laws_toPortS_l3 lim_itr
noncomputable def F_laws_toPortS (x1 : K.T (.sl k0)) : Option sq_laws_toPortS.T :=
  bif decide (0 ≤ ((x1).length : Int) ∧ ((x1).length : Int) ≤ ((x1).length : Int)) then
  bif room (Int.toNat ((x1).length : Int)) 16 then
  (l_laws_toPortS_l3 ((x1, ((0 : Int), ())), (), ((List.replicate (Int.toNat ((x1).length : Int)) (K.zero k0)), ()))).bind fun y2 =>
  some ((), (), (y2.2.2.1, ()))
  else none
  else none
noncomputable abbrev U_laws_toPortS : sp_laws_toPortS.T → Option sq_laws_toPortS.T := fun x => F_laws_toPortS x.1.1
theorem e_laws_toPortS : ∀ x, evCode ty (gamOf g_laws_toPortS) j_laws_toPortS (lamOf [(3, loopL sp_laws_toPortS_l3 xs_laws_toPortS_l3 l_laws_toPortS_l3)]) b_laws_toPortS (sp_laws_toPortS.hd x) (finN ty sq_laws_toPortS [.tmp 2]) = U_laws_toPortS x := fun x => by kernel_rfl
theorem c_laws_toPortS : FnS P 93 sp_laws_toPortS sq_laws_toPortS U_laws_toPortS :=
  fnS_of_ev tyOk mixed gok_laws_toPortS (fn := Try.f93) (by kernel_rfl) (c := b_laws_toPortS) (by kernel_rfl) (by kernel_rfl) (by kernel_rfl) (lam_ok (tab := [(3, loopL sp_laws_toPortS_l3 xs_laws_toPortS_l3 l_laws_toPortS_l3)]) (by kernel_rfl) (by
    intro p hp
    simp only [List.mem_cons, List.not_mem_nil, or_false] at hp
    rcases hp with rfl
    · exact @ls_laws_toPortS_l3)) e_laws_toPortS

/-! laws.toBuild -/
abbrev sp_laws_toBuild : Sp := ⟨38, [(0, .val true k9)], [], []⟩
abbrev sq_laws_toBuild : Sp := ⟨1, [(0, .mix true [.val (.int .i64), .fix (.own 59000), .fix (.own 59001), .fix (.own 59002), .fix (.own 59003), .fix (.own 59004), .fix (.own 59005), .val (.int .i64), .val (.int .i64)])], [], [(59000, k0, true), (59001, (.int .i64), true), (59002, (.int .i64), true), (59003, (.int .i64), true), (59004, (.int .i64), true), (59005, (.int .i64), true)]⟩
noncomputable def g_laws_toBuild : List (FuncId × SumX) := [(44, fN sp_laws_toInt64S sq_laws_toInt64S U_laws_toInt64S), (93, fN sp_laws_toPortS sq_laws_toPortS U_laws_toPortS)]
def j_laws_toBuild : Nat → Option (List (Nat × SS)) := jOf []
theorem gok_laws_toBuild : GOk P (gamOf g_laws_toBuild) := gam_ok (tab := g_laws_toBuild) (by
    intro p hp
    simp only [g_laws_toBuild, List.mem_cons, List.not_mem_nil, or_false] at hp
    rcases hp with rfl | rfl
    · exact fN_ok c_laws_toInt64S rfl
    · exact fN_ok c_laws_toPortS rfl)
noncomputable abbrev b_laws_toBuild : Code := bodyOf Try.f33
noncomputable def F_laws_toBuild (x1 : K.T k9) : Option sq_laws_toBuild.T :=
  (F_laws_toPortS x1.2.1).bind fun y1 =>
  (F_laws_toInt64S x1.2.2.1).bind fun y2 =>
  (F_laws_toInt64S x1.2.2.2.1).bind fun y3 =>
  (F_laws_toInt64S x1.2.2.2.2.1).bind fun y4 =>
  (F_laws_toInt64S x1.2.2.2.2.2.1).bind fun y5 =>
  (F_laws_toInt64S x1.2.2.2.2.2.2.1).bind fun y6 =>
  some (((x1.1, (x1.2.2.2.2.2.2.2.1, (x1.2.2.2.2.2.2.2.2, ()))), ()), (), (y1.2.2.1, (y2.2.2.1, (y3.2.2.1, (y4.2.2.1, (y5.2.2.1, (y6.2.2.1, ())))))))
noncomputable abbrev U_laws_toBuild : sp_laws_toBuild.T → Option sq_laws_toBuild.T := fun x => F_laws_toBuild x.1.1
theorem e_laws_toBuild : ∀ x, evCode ty (gamOf g_laws_toBuild) j_laws_toBuild (lamOf []) b_laws_toBuild (sp_laws_toBuild.hd x) (finN ty sq_laws_toBuild [.cell 2 49]) = U_laws_toBuild x := fun x => by kernel_rfl
theorem c_laws_toBuild : FnS P 33 sp_laws_toBuild sq_laws_toBuild U_laws_toBuild :=
  fnS_of_ev tyOk mixed gok_laws_toBuild (fn := Try.f33) (by kernel_rfl) (c := b_laws_toBuild) (by kernel_rfl) (by kernel_rfl) (by kernel_rfl) (lam_ok (tab := []) (by kernel_rfl) (fun p hp => by cases hp)) e_laws_toBuild

/-! laws.toPlant -/
abbrev sp_laws_toPlant : Sp := ⟨33, [(0, .val true k16)], [], []⟩
abbrev sq_laws_toPlant : Sp := ⟨1, [(0, .mix true [.val (.int .i64), .fix (.own 59000), .fix (.own 59001), .fix (.own 59002), .fix (.own 59003), .fix (.own 59004), .fix (.own 59005), .val (.int .i64), .val (.int .i64), .val (.int .i64), .fix (.own 59006), .fix (.own 59007), .fix (.own 59008), .val (.int .i64), .val (.int .i64), .val (.int .i64), .fix (.own 59009), .fix (.own 59010), .fix (.own 59011), .val (.int .i64), .val (.int .i64), .val .bool, .val (.int .i64), .val (.int .i64), .fix (.own 59012), .val (.int .i64)])], [], [(59000, k0, true), (59001, (.int .i64), true), (59002, (.int .i64), true), (59003, (.int .i64), true), (59004, (.int .i64), true), (59005, (.int .i64), true), (59006, (.int .i64), true), (59007, (.int .i64), true), (59008, (.int .i64), true), (59009, (.int .i64), true), (59010, (.int .i64), true), (59011, (.int .i64), true), (59012, (.int .i64), true)]⟩
noncomputable def g_laws_toPlant : List (FuncId × SumX) := [(19, fN sp_laws_toChan sq_laws_toChan U_laws_toChan), (33, fN sp_laws_toBuild sq_laws_toBuild U_laws_toBuild), (44, fN sp_laws_toInt64S sq_laws_toInt64S U_laws_toInt64S)]
def j_laws_toPlant : Nat → Option (List (Nat × SS)) := jOf []
theorem gok_laws_toPlant : GOk P (gamOf g_laws_toPlant) := gam_ok (tab := g_laws_toPlant) (by
    intro p hp
    simp only [g_laws_toPlant, List.mem_cons, List.not_mem_nil, or_false] at hp
    rcases hp with rfl | rfl | rfl
    · exact fN_ok c_laws_toChan rfl
    · exact fN_ok c_laws_toBuild rfl
    · exact fN_ok c_laws_toInt64S rfl)
noncomputable abbrev b_laws_toPlant : Code := bodyOf Try.f53
noncomputable def F_laws_toPlant (x1 : K.T k16) : Option sq_laws_toPlant.T :=
  (F_laws_toBuild x1.1).bind fun y1 =>
  (F_laws_toChan x1.2.1).bind fun y2 =>
  (F_laws_toChan x1.2.2.1).bind fun y3 =>
  (F_laws_toInt64S x1.2.2.2.2.2.2.1).bind fun y4 =>
  some (((y1.1.1.1, (y1.1.1.2.1, (y1.1.1.2.2.1, (y2.1.1.1, (y2.1.1.2.1, (y2.1.1.2.2.1, (y3.1.1.1, (y3.1.1.2.1, (y3.1.1.2.2.1, (x1.2.2.2.1, (x1.2.2.2.2.1, (x1.2.2.2.2.2.1, (x1.2.2.2.2.2.2.2, ()))))))))))))), ()), (), (y1.2.2.1, (y1.2.2.2.1, (y1.2.2.2.2.1, (y1.2.2.2.2.2.1, (y1.2.2.2.2.2.2.1, (y1.2.2.2.2.2.2.2.1, (y2.2.2.1, (y2.2.2.2.1, (y2.2.2.2.2.1, (y3.2.2.1, (y3.2.2.2.1, (y3.2.2.2.2.1, (y4.2.2.1, ()))))))))))))))
noncomputable abbrev U_laws_toPlant : sp_laws_toPlant.T → Option sq_laws_toPlant.T := fun x => F_laws_toPlant x.1.1
theorem e_laws_toPlant : ∀ x, evCode ty (gamOf g_laws_toPlant) j_laws_toPlant (lamOf []) b_laws_toPlant (sp_laws_toPlant.hd x) (finN ty sq_laws_toPlant [.cell 2 72]) = U_laws_toPlant x := fun x => by kernel_rfl
theorem c_laws_toPlant : FnS P 53 sp_laws_toPlant sq_laws_toPlant U_laws_toPlant :=
  fnS_of_ev tyOk mixed gok_laws_toPlant (fn := Try.f53) (by kernel_rfl) (c := b_laws_toPlant) (by kernel_rfl) (by kernel_rfl) (by kernel_rfl) (lam_ok (tab := []) (by kernel_rfl) (fun p hp => by cases hp)) e_laws_toPlant

/-! laws.eqInt64S -/
abbrev sp_laws_eqInt64S : Sp := ⟨26, [(0, .val false (.sl (.int .i64))), (1, .val false (.sl (.int .i64)))], [], []⟩
abbrev sq_laws_eqInt64S : Sp := ⟨1, [(0, .val false .bool)], [], []⟩
noncomputable def g_laws_eqInt64S : List (FuncId × SumX) := []
def j_laws_eqInt64S : Nat → Option (List (Nat × SS)) := jOf []
theorem gok_laws_eqInt64S : GOk P (gamOf g_laws_eqInt64S) := gam_ok (tab := g_laws_eqInt64S) (fun p hp => by cases hp)
noncomputable abbrev b_laws_eqInt64S : Code := bodyOf Try.f47
abbrev sp_laws_eqInt64S_l4 : Sp := ⟨26, [(0, .val false (.sl (.int .i64))), (1, .val false (.sl (.int .i64))), (5, .val false (.int .i64))], [], []⟩
abbrev xs_laws_eqInt64S_l4 : List (Ex × Sp) := [(.exit 0, ⟨26, [], [], []⟩), (.ret, ⟨26, [(4, .val false .bool)], [], []⟩)]
noncomputable def s_laws_eqInt64S_l4 : sp_laws_eqInt64S_l4.T → Option (sp_laws_eqInt64S_l4.T ⊕ XT xs_laws_eqInt64S_l4) := fun x =>
  bif (decide (x.1.2.2.1 < ((x.1.1).length : Int))) then
    (bif ib x.1.2.2.1 (x.1.1).length then
    bif ib x.1.2.2.1 (x.1.2.1).length then
    bif (((x.1.1).getD (Int.toNat x.1.2.2.1) (K.zero (.int .i64))) != ((x.1.2.1).getD (Int.toNat x.1.2.2.1) (K.zero (.int .i64)))) then
      (some (.inr (.inr ((false, ()), (), ()))))
    else
    some (.inl ((x.1.1, (x.1.2.1, ((IntKind.wrap .i64 (x.1.2.2.1 + (1 : Int))), ()))), (), ()))
    else none
    else none)
  else
  some (.inr (.inl ((), (), ())))
noncomputable def l_laws_eqInt64S_l4 : sp_laws_eqInt64S_l4.T → Option (XT xs_laws_eqInt64S_l4) := lim s_laws_eqInt64S_l4
theorem es_laws_eqInt64S_l4 : ∀ x, evCode ty (gamOf g_laws_eqInt64S) j_laws_eqInt64S (lamOf []) (loopAt b_laws_eqInt64S 4) (sp_laws_eqInt64S_l4.hd x) (rdK sp_laws_eqInt64S_l4 xs_laws_eqInt64S_l4) = s_laws_eqInt64S_l4 x := fun x => by kernel_rfl
theorem ls_laws_eqInt64S_l4 : LSumOk P (loopAt b_laws_eqInt64S 4) (loopL sp_laws_eqInt64S_l4 xs_laws_eqInt64S_l4 l_laws_eqInt64S_l4) := loop_ok tyOk mixed gok_laws_eqInt64S (by kernel_rfl) (by kernel_rfl) (lam_ok (tab := []) (by kernel_rfl) (fun p hp => by cases hp)) es_laws_eqInt64S_l4 lim_itr
noncomputable def F_laws_eqInt64S (x1 : K.T (.sl (.int .i64))) (x2 : K.T (.sl (.int .i64))) : Option sq_laws_eqInt64S.T :=
  bif (((x1).length : Int) != ((x2).length : Int)) then
    (some ((false, ()), (), ()))
  else
  (l_laws_eqInt64S_l4 ((x1, (x2, ((0 : Int), ()))), (), ())).bind fun y1 =>
  (match y1 with
  | .inl y2 => some ((true, ()), (), ())
  | .inr z3 => some ((z3.1.1, ()), (), ()))
noncomputable abbrev U_laws_eqInt64S : sp_laws_eqInt64S.T → Option sq_laws_eqInt64S.T := fun x => F_laws_eqInt64S x.1.1 x.1.2.1
theorem e_laws_eqInt64S : ∀ x, evCode ty (gamOf g_laws_eqInt64S) j_laws_eqInt64S (lamOf [(4, loopL sp_laws_eqInt64S_l4 xs_laws_eqInt64S_l4 l_laws_eqInt64S_l4)]) b_laws_eqInt64S (sp_laws_eqInt64S.hd x) (finN ty sq_laws_eqInt64S [.tmp 4]) = U_laws_eqInt64S x := fun x => by kernel_rfl
theorem c_laws_eqInt64S : FnS P 47 sp_laws_eqInt64S sq_laws_eqInt64S U_laws_eqInt64S :=
  fnS_of_ev tyOk mixed gok_laws_eqInt64S (fn := Try.f47) (by kernel_rfl) (c := b_laws_eqInt64S) (by kernel_rfl) (by kernel_rfl) (by kernel_rfl) (lam_ok (tab := [(4, loopL sp_laws_eqInt64S_l4 xs_laws_eqInt64S_l4 l_laws_eqInt64S_l4)]) (by kernel_rfl) (by
    intro p hp
    simp only [List.mem_cons, List.not_mem_nil, or_false] at hp
    rcases hp with rfl
    · exact @ls_laws_eqInt64S_l4)) e_laws_eqInt64S

/-! laws.eqChan -/
abbrev sp_laws_eqChan : Sp := ⟨38, [(0, .val true k5), (1, .val true k5)], [], []⟩
abbrev sq_laws_eqChan : Sp := ⟨1, [(0, .val false .bool)], [], []⟩
noncomputable def g_laws_eqChan : List (FuncId × SumX) := [(47, cN sp_laws_eqInt64S sq_laws_eqInt64S U_laws_eqInt64S)]
def j_laws_eqChan : Nat → Option (List (Nat × SS)) := jOf []
theorem gok_laws_eqChan : GOk P (gamOf g_laws_eqChan) := gam_ok (tab := g_laws_eqChan) (by
    intro p hp
    simp only [g_laws_eqChan, List.mem_cons, List.not_mem_nil, or_false] at hp
    rcases hp with rfl
    · exact cN_ok c_laws_eqInt64S rfl)
noncomputable abbrev b_laws_eqChan : Code := bodyOf Try.f22
noncomputable def F_laws_eqChan (x1 : K.T k5) (x2 : K.T k5) : Option sq_laws_eqChan.T :=
  bif (x1.1 != x2.1) then
    (some ((false, ()), (), ()))
  else
  (F_laws_eqInt64S x1.2.1 x2.2.1).bind fun y1 =>
  bif (!y1.1.1) then
    (some ((false, ()), (), ()))
  else
  (F_laws_eqInt64S x1.2.2.1 x2.2.2.1).bind fun y2 =>
  bif (!y2.1.1) then
    (some ((false, ()), (), ()))
  else
  (F_laws_eqInt64S x1.2.2.2.1 x2.2.2.2.1).bind fun y3 =>
  bif (!y3.1.1) then
    (some ((false, ()), (), ()))
  else
  bif (x1.2.2.2.2.1 != x2.2.2.2.2.1) then
    (some ((false, ()), (), ()))
  else
  bif (x1.2.2.2.2.2 != x2.2.2.2.2.2) then
    (some ((false, ()), (), ()))
  else
  some ((true, ()), (), ())
noncomputable abbrev U_laws_eqChan : sp_laws_eqChan.T → Option sq_laws_eqChan.T := fun x => F_laws_eqChan x.1.1 x.1.2.1
theorem e_laws_eqChan : ∀ x, evCode ty (gamOf g_laws_eqChan) j_laws_eqChan (lamOf []) b_laws_eqChan (sp_laws_eqChan.hd x) (finN ty sq_laws_eqChan [.tmp 4]) = U_laws_eqChan x := fun x => by kernel_rfl
theorem c_laws_eqChan : FnS P 22 sp_laws_eqChan sq_laws_eqChan U_laws_eqChan :=
  fnS_of_ev tyOk mixed gok_laws_eqChan (fn := Try.f22) (by kernel_rfl) (c := b_laws_eqChan) (by kernel_rfl) (by kernel_rfl) (by kernel_rfl) (lam_ok (tab := []) (by kernel_rfl) (fun p hp => by cases hp)) e_laws_eqChan

/-! laws.eqPort -/
abbrev sp_laws_eqPort : Sp := ⟨15, [(0, .val true k0), (1, .val true k0)], [], []⟩
abbrev sq_laws_eqPort : Sp := ⟨1, [(0, .val false .bool)], [], []⟩
noncomputable def g_laws_eqPort : List (FuncId × SumX) := []
def j_laws_eqPort : Nat → Option (List (Nat × SS)) := jOf []
theorem gok_laws_eqPort : GOk P (gamOf g_laws_eqPort) := gam_ok (tab := g_laws_eqPort) (fun p hp => by cases hp)
noncomputable abbrev b_laws_eqPort : Code := bodyOf Try.f153
noncomputable def F_laws_eqPort (x1 : K.T k0) (x2 : K.T k0) : Option sq_laws_eqPort.T :=
  bif (x1.1 != x2.1) then
    (some ((false, ()), (), ()))
  else
  bif (!(x1.2 == x2.2)) then
    (some ((false, ()), (), ()))
  else
  some ((true, ()), (), ())
noncomputable abbrev U_laws_eqPort : sp_laws_eqPort.T → Option sq_laws_eqPort.T := fun x => F_laws_eqPort x.1.1 x.1.2.1
theorem e_laws_eqPort : ∀ x, evCode ty (gamOf g_laws_eqPort) j_laws_eqPort (lamOf []) b_laws_eqPort (sp_laws_eqPort.hd x) (finN ty sq_laws_eqPort [.tmp 4]) = U_laws_eqPort x := fun x => by kernel_rfl
theorem c_laws_eqPort : FnS P 153 sp_laws_eqPort sq_laws_eqPort U_laws_eqPort :=
  fnS_of_ev tyOk mixed gok_laws_eqPort (fn := Try.f153) (by kernel_rfl) (c := b_laws_eqPort) (by kernel_rfl) (by kernel_rfl) (by kernel_rfl) (lam_ok (tab := []) (by kernel_rfl) (fun p hp => by cases hp)) e_laws_eqPort

/-! laws.eqPortS -/
abbrev sp_laws_eqPortS : Sp := ⟨27, [(0, .val false (.sl k0)), (1, .val false (.sl k0))], [], []⟩
abbrev sq_laws_eqPortS : Sp := ⟨1, [(0, .val false .bool)], [], []⟩
noncomputable def g_laws_eqPortS : List (FuncId × SumX) := [(153, cN sp_laws_eqPort sq_laws_eqPort U_laws_eqPort)]
def j_laws_eqPortS : Nat → Option (List (Nat × SS)) := jOf []
theorem gok_laws_eqPortS : GOk P (gamOf g_laws_eqPortS) := gam_ok (tab := g_laws_eqPortS) (by
    intro p hp
    simp only [g_laws_eqPortS, List.mem_cons, List.not_mem_nil, or_false] at hp
    rcases hp with rfl
    · exact cN_ok c_laws_eqPort rfl)
noncomputable abbrev b_laws_eqPortS : Code := bodyOf Try.f102
abbrev sp_laws_eqPortS_l4 : Sp := ⟨27, [(0, .val false (.sl k0)), (1, .val false (.sl k0)), (5, .val false (.int .i64))], [], []⟩
abbrev xs_laws_eqPortS_l4 : List (Ex × Sp) := [(.exit 0, ⟨27, [], [], []⟩), (.ret, ⟨27, [(4, .val false .bool)], [], []⟩)]
noncomputable def s_laws_eqPortS_l4 : sp_laws_eqPortS_l4.T → Option (sp_laws_eqPortS_l4.T ⊕ XT xs_laws_eqPortS_l4) := fun x =>
  bif (decide (x.1.2.2.1 < ((x.1.1).length : Int))) then
    (bif ib x.1.2.2.1 (x.1.1).length then
    bif ib x.1.2.2.1 (x.1.2.1).length then
    (F_laws_eqPort ((x.1.1).getD (Int.toNat x.1.2.2.1) (K.zero k0)) ((x.1.2.1).getD (Int.toNat x.1.2.2.1) (K.zero k0))).bind fun y1 =>
    bif (!y1.1.1) then
      (some (.inr (.inr ((false, ()), (), ()))))
    else
    some (.inl ((x.1.1, (x.1.2.1, ((IntKind.wrap .i64 (x.1.2.2.1 + (1 : Int))), ()))), (), ()))
    else none
    else none)
  else
  some (.inr (.inl ((), (), ())))
noncomputable def l_laws_eqPortS_l4 : sp_laws_eqPortS_l4.T → Option (XT xs_laws_eqPortS_l4) := lim s_laws_eqPortS_l4
theorem es_laws_eqPortS_l4 : ∀ x, evCode ty (gamOf g_laws_eqPortS) j_laws_eqPortS (lamOf []) (loopAt b_laws_eqPortS 4) (sp_laws_eqPortS_l4.hd x) (rdK sp_laws_eqPortS_l4 xs_laws_eqPortS_l4) = s_laws_eqPortS_l4 x := fun x => by kernel_rfl
theorem ls_laws_eqPortS_l4 : LSumOk P (loopAt b_laws_eqPortS 4) (loopL sp_laws_eqPortS_l4 xs_laws_eqPortS_l4 l_laws_eqPortS_l4) := loop_ok tyOk mixed gok_laws_eqPortS (by kernel_rfl) (by kernel_rfl) (lam_ok (tab := []) (by kernel_rfl) (fun p hp => by cases hp)) es_laws_eqPortS_l4 lim_itr
noncomputable def F_laws_eqPortS (x1 : K.T (.sl k0)) (x2 : K.T (.sl k0)) : Option sq_laws_eqPortS.T :=
  bif (((x1).length : Int) != ((x2).length : Int)) then
    (some ((false, ()), (), ()))
  else
  (l_laws_eqPortS_l4 ((x1, (x2, ((0 : Int), ()))), (), ())).bind fun y2 =>
  (match y2 with
  | .inl y3 => some ((true, ()), (), ())
  | .inr z4 => some ((z4.1.1, ()), (), ()))
noncomputable abbrev U_laws_eqPortS : sp_laws_eqPortS.T → Option sq_laws_eqPortS.T := fun x => F_laws_eqPortS x.1.1 x.1.2.1
theorem e_laws_eqPortS : ∀ x, evCode ty (gamOf g_laws_eqPortS) j_laws_eqPortS (lamOf [(4, loopL sp_laws_eqPortS_l4 xs_laws_eqPortS_l4 l_laws_eqPortS_l4)]) b_laws_eqPortS (sp_laws_eqPortS.hd x) (finN ty sq_laws_eqPortS [.tmp 4]) = U_laws_eqPortS x := fun x => by kernel_rfl
theorem c_laws_eqPortS : FnS P 102 sp_laws_eqPortS sq_laws_eqPortS U_laws_eqPortS :=
  fnS_of_ev tyOk mixed gok_laws_eqPortS (fn := Try.f102) (by kernel_rfl) (c := b_laws_eqPortS) (by kernel_rfl) (by kernel_rfl) (by kernel_rfl) (lam_ok (tab := [(4, loopL sp_laws_eqPortS_l4 xs_laws_eqPortS_l4 l_laws_eqPortS_l4)]) (by kernel_rfl) (by
    intro p hp
    simp only [List.mem_cons, List.not_mem_nil, or_false] at hp
    rcases hp with rfl
    · exact @ls_laws_eqPortS_l4)) e_laws_eqPortS

/-! laws.eqBuild -/
abbrev sp_laws_eqBuild : Sp := ⟨56, [(0, .val true k9), (1, .val true k9)], [], []⟩
abbrev sq_laws_eqBuild : Sp := ⟨1, [(0, .val false .bool)], [], []⟩
noncomputable def g_laws_eqBuild : List (FuncId × SumX) := [(47, cN sp_laws_eqInt64S sq_laws_eqInt64S U_laws_eqInt64S), (102, cN sp_laws_eqPortS sq_laws_eqPortS U_laws_eqPortS)]
def j_laws_eqBuild : Nat → Option (List (Nat × SS)) := jOf []
theorem gok_laws_eqBuild : GOk P (gamOf g_laws_eqBuild) := gam_ok (tab := g_laws_eqBuild) (by
    intro p hp
    simp only [g_laws_eqBuild, List.mem_cons, List.not_mem_nil, or_false] at hp
    rcases hp with rfl | rfl
    · exact cN_ok c_laws_eqInt64S rfl
    · exact cN_ok c_laws_eqPortS rfl)
noncomputable abbrev b_laws_eqBuild : Code := bodyOf Try.f35
noncomputable def F_laws_eqBuild (x1 : K.T k9) (x2 : K.T k9) : Option sq_laws_eqBuild.T :=
  bif (x1.1 != x2.1) then
    (some ((false, ()), (), ()))
  else
  (F_laws_eqPortS x1.2.1 x2.2.1).bind fun y1 =>
  bif (!y1.1.1) then
    (some ((false, ()), (), ()))
  else
  (F_laws_eqInt64S x1.2.2.1 x2.2.2.1).bind fun y2 =>
  bif (!y2.1.1) then
    (some ((false, ()), (), ()))
  else
  (F_laws_eqInt64S x1.2.2.2.1 x2.2.2.2.1).bind fun y3 =>
  bif (!y3.1.1) then
    (some ((false, ()), (), ()))
  else
  (F_laws_eqInt64S x1.2.2.2.2.1 x2.2.2.2.2.1).bind fun y4 =>
  bif (!y4.1.1) then
    (some ((false, ()), (), ()))
  else
  (F_laws_eqInt64S x1.2.2.2.2.2.1 x2.2.2.2.2.2.1).bind fun y5 =>
  bif (!y5.1.1) then
    (some ((false, ()), (), ()))
  else
  (F_laws_eqInt64S x1.2.2.2.2.2.2.1 x2.2.2.2.2.2.2.1).bind fun y6 =>
  bif (!y6.1.1) then
    (some ((false, ()), (), ()))
  else
  bif (x1.2.2.2.2.2.2.2.1 != x2.2.2.2.2.2.2.2.1) then
    (some ((false, ()), (), ()))
  else
  bif (x1.2.2.2.2.2.2.2.2 != x2.2.2.2.2.2.2.2.2) then
    (some ((false, ()), (), ()))
  else
  some ((true, ()), (), ())
noncomputable abbrev U_laws_eqBuild : sp_laws_eqBuild.T → Option sq_laws_eqBuild.T := fun x => F_laws_eqBuild x.1.1 x.1.2.1
theorem e_laws_eqBuild : ∀ x, evCode ty (gamOf g_laws_eqBuild) j_laws_eqBuild (lamOf []) b_laws_eqBuild (sp_laws_eqBuild.hd x) (finN ty sq_laws_eqBuild [.tmp 4]) = U_laws_eqBuild x := fun x => by kernel_rfl
theorem c_laws_eqBuild : FnS P 35 sp_laws_eqBuild sq_laws_eqBuild U_laws_eqBuild :=
  fnS_of_ev tyOk mixed gok_laws_eqBuild (fn := Try.f35) (by kernel_rfl) (c := b_laws_eqBuild) (by kernel_rfl) (by kernel_rfl) (by kernel_rfl) (lam_ok (tab := []) (by kernel_rfl) (fun p hp => by cases hp)) e_laws_eqBuild

/-! laws.eqPlant -/
abbrev sp_laws_eqPlant : Sp := ⟨49, [(0, .val true k16), (1, .val true k16)], [], []⟩
abbrev sq_laws_eqPlant : Sp := ⟨1, [(0, .val false .bool)], [], []⟩
noncomputable def g_laws_eqPlant : List (FuncId × SumX) := [(22, cN sp_laws_eqChan sq_laws_eqChan U_laws_eqChan), (35, cN sp_laws_eqBuild sq_laws_eqBuild U_laws_eqBuild), (47, cN sp_laws_eqInt64S sq_laws_eqInt64S U_laws_eqInt64S)]
def j_laws_eqPlant : Nat → Option (List (Nat × SS)) := jOf []
theorem gok_laws_eqPlant : GOk P (gamOf g_laws_eqPlant) := gam_ok (tab := g_laws_eqPlant) (by
    intro p hp
    simp only [g_laws_eqPlant, List.mem_cons, List.not_mem_nil, or_false] at hp
    rcases hp with rfl | rfl | rfl
    · exact cN_ok c_laws_eqChan rfl
    · exact cN_ok c_laws_eqBuild rfl
    · exact cN_ok c_laws_eqInt64S rfl)
noncomputable abbrev b_laws_eqPlant : Code := bodyOf Try.f55
noncomputable def F_laws_eqPlant (x1 : K.T k16) (x2 : K.T k16) : Option sq_laws_eqPlant.T :=
  (F_laws_eqBuild x1.1 x2.1).bind fun y1 =>
  bif (!y1.1.1) then
    (some ((false, ()), (), ()))
  else
  (F_laws_eqChan x1.2.1 x2.2.1).bind fun y2 =>
  bif (!y2.1.1) then
    (some ((false, ()), (), ()))
  else
  (F_laws_eqChan x1.2.2.1 x2.2.2.1).bind fun y3 =>
  bif (!y3.1.1) then
    (some ((false, ()), (), ()))
  else
  bif (!(x1.2.2.2.1 == x2.2.2.2.1)) then
    (some ((false, ()), (), ()))
  else
  bif (x1.2.2.2.2.1 != x2.2.2.2.2.1) then
    (some ((false, ()), (), ()))
  else
  bif (x1.2.2.2.2.2.1 != x2.2.2.2.2.2.1) then
    (some ((false, ()), (), ()))
  else
  (F_laws_eqInt64S x1.2.2.2.2.2.2.1 x2.2.2.2.2.2.2.1).bind fun y4 =>
  bif (!y4.1.1) then
    (some ((false, ()), (), ()))
  else
  bif (x1.2.2.2.2.2.2.2 != x2.2.2.2.2.2.2.2) then
    (some ((false, ()), (), ()))
  else
  some ((true, ()), (), ())
noncomputable abbrev U_laws_eqPlant : sp_laws_eqPlant.T → Option sq_laws_eqPlant.T := fun x => F_laws_eqPlant x.1.1 x.1.2.1
theorem e_laws_eqPlant : ∀ x, evCode ty (gamOf g_laws_eqPlant) j_laws_eqPlant (lamOf []) b_laws_eqPlant (sp_laws_eqPlant.hd x) (finN ty sq_laws_eqPlant [.tmp 4]) = U_laws_eqPlant x := fun x => by kernel_rfl
theorem c_laws_eqPlant : FnS P 55 sp_laws_eqPlant sq_laws_eqPlant U_laws_eqPlant :=
  fnS_of_ev tyOk mixed gok_laws_eqPlant (fn := Try.f55) (by kernel_rfl) (c := b_laws_eqPlant) (by kernel_rfl) (by kernel_rfl) (by kernel_rfl) (lam_ok (tab := []) (by kernel_rfl) (fun p hp => by cases hp)) e_laws_eqPlant

/-! laws.eqPlantResult -/
abbrev sp_laws_eqPlantResult : Sp := ⟨16, [(0, .val true k17), (1, .val true k17)], [], []⟩
abbrev sq_laws_eqPlantResult : Sp := ⟨1, [(0, .val false .bool)], [], []⟩
noncomputable def g_laws_eqPlantResult : List (FuncId × SumX) := [(55, cN sp_laws_eqPlant sq_laws_eqPlant U_laws_eqPlant)]
def j_laws_eqPlantResult : Nat → Option (List (Nat × SS)) := jOf []
theorem gok_laws_eqPlantResult : GOk P (gamOf g_laws_eqPlantResult) := gam_ok (tab := g_laws_eqPlantResult) (by
    intro p hp
    simp only [g_laws_eqPlantResult, List.mem_cons, List.not_mem_nil, or_false] at hp
    rcases hp with rfl
    · exact cN_ok c_laws_eqPlant rfl)
noncomputable abbrev b_laws_eqPlantResult : Code := bodyOf Try.f60
noncomputable def F_laws_eqPlantResult (x1 : K.T k17) (x2 : K.T k17) : Option sq_laws_eqPlantResult.T :=
  bif (x1.1 != x2.1) then
    (some ((false, ()), (), ()))
  else
  (F_laws_eqPlant x1.2 x2.2).bind fun y1 =>
  bif (!y1.1.1) then
    (some ((false, ()), (), ()))
  else
  some ((true, ()), (), ())
noncomputable abbrev U_laws_eqPlantResult : sp_laws_eqPlantResult.T → Option sq_laws_eqPlantResult.T := fun x => F_laws_eqPlantResult x.1.1 x.1.2.1
theorem e_laws_eqPlantResult : ∀ x, evCode ty (gamOf g_laws_eqPlantResult) j_laws_eqPlantResult (lamOf []) b_laws_eqPlantResult (sp_laws_eqPlantResult.hd x) (finN ty sq_laws_eqPlantResult [.tmp 4]) = U_laws_eqPlantResult x := fun x => by kernel_rfl
theorem c_laws_eqPlantResult : FnS P 60 sp_laws_eqPlantResult sq_laws_eqPlantResult U_laws_eqPlantResult :=
  fnS_of_ev tyOk mixed gok_laws_eqPlantResult (fn := Try.f60) (by kernel_rfl) (c := b_laws_eqPlantResult) (by kernel_rfl) (by kernel_rfl) (by kernel_rfl) (lam_ok (tab := []) (by kernel_rfl) (fun p hp => by cases hp)) e_laws_eqPlantResult

/-! laws.markInt64S -/
abbrev sp_laws_markInt64S : Sp := ⟨19, [(0, .fix (.own 64000)), (1, .val false (.int .i64))], [], [(64000, (.int .i64), true)]⟩
abbrev sq_laws_markInt64S : Sp := ⟨1, [(0, .val false (.int .i64))], [], [(64000, (.int .i64), true)]⟩
noncomputable def g_laws_markInt64S : List (FuncId × SumX) := []
def j_laws_markInt64S : Nat → Option (List (Nat × SS)) := jOf []
theorem gok_laws_markInt64S : GOk P (gamOf g_laws_markInt64S) := gam_ok (tab := g_laws_markInt64S) (fun p hp => by cases hp)
noncomputable abbrev b_laws_markInt64S : Code := bodyOf Try.f48
abbrev sp_laws_markInt64S_l2 : Sp := ⟨19, [(0, .fix (.own 64000)), (1, .val false (.int .i64)), (5, .val false (.int .i64))], [], [(64000, (.int .i64), true)]⟩
abbrev xs_laws_markInt64S_l2 : List (Ex × Sp) := [(.exit 0, ⟨19, [(1, .val false (.int .i64))], [], [(64000, (.int .i64), true)]⟩)]
noncomputable def s_laws_markInt64S_l2 : sp_laws_markInt64S_l2.T → Option (sp_laws_markInt64S_l2.T ⊕ XT xs_laws_markInt64S_l2) := fun x =>
  bif (decide (x.1.2.1 < ((x.2.2.1).length : Int))) then
    (bif ib x.1.2.1 (x.2.2.1).length then
    some (.inl (((IntKind.wrap .i64 (x.1.1 + (1 : Int))), ((IntKind.wrap .i64 (x.1.2.1 + (1 : Int))), ())), (), ((x.2.2.1).set (Int.toNat x.1.2.1) x.1.1, ())))
    else none)
  else
  some (.inr ((x.1.1, ()), (), (x.2.2.1, ())))
noncomputable def l_laws_markInt64S_l2 : sp_laws_markInt64S_l2.T → Option (XT xs_laws_markInt64S_l2) := lim s_laws_markInt64S_l2
theorem es_laws_markInt64S_l2 : ∀ x, evCode ty (gamOf g_laws_markInt64S) j_laws_markInt64S (lamOf []) (loopAt b_laws_markInt64S 2) (sp_laws_markInt64S_l2.hd x) (rdK sp_laws_markInt64S_l2 xs_laws_markInt64S_l2) = s_laws_markInt64S_l2 x := fun x => by kernel_rfl
theorem ls_laws_markInt64S_l2 : LSumOk P (loopAt b_laws_markInt64S 2) (loopL sp_laws_markInt64S_l2 xs_laws_markInt64S_l2 l_laws_markInt64S_l2) := loop_ok tyOk mixed gok_laws_markInt64S (by kernel_rfl) (by kernel_rfl) (lam_ok (tab := []) (by kernel_rfl) (fun p hp => by cases hp)) es_laws_markInt64S_l2 lim_itr
noncomputable def F_laws_markInt64S (x1 : K.T (.int .i64)) (x2 : List (K.T (.int .i64))) : Option sq_laws_markInt64S.T :=
  (l_laws_markInt64S_l2 ((x1, ((0 : Int), ())), (), (x2, ()))).bind fun y1 =>
  some ((y1.1.1, ()), (), (y1.2.2.1, ()))
noncomputable abbrev U_laws_markInt64S : sp_laws_markInt64S.T → Option sq_laws_markInt64S.T := fun x => F_laws_markInt64S x.1.1 x.2.2.1
theorem e_laws_markInt64S : ∀ x, evCode ty (gamOf g_laws_markInt64S) j_laws_markInt64S (lamOf [(2, loopL sp_laws_markInt64S_l2 xs_laws_markInt64S_l2 l_laws_markInt64S_l2)]) b_laws_markInt64S (sp_laws_markInt64S.hd x) (finN ty sq_laws_markInt64S [.tmp 4]) = U_laws_markInt64S x := fun x => by kernel_rfl
theorem c_laws_markInt64S : FnS P 48 sp_laws_markInt64S sq_laws_markInt64S U_laws_markInt64S :=
  fnS_of_ev tyOk mixed gok_laws_markInt64S (fn := Try.f48) (by kernel_rfl) (c := b_laws_markInt64S) (by kernel_rfl) (by kernel_rfl) (by kernel_rfl) (lam_ok (tab := [(2, loopL sp_laws_markInt64S_l2 xs_laws_markInt64S_l2 l_laws_markInt64S_l2)]) (by kernel_rfl) (by
    intro p hp
    simp only [List.mem_cons, List.not_mem_nil, or_false] at hp
    rcases hp with rfl
    · exact @ls_laws_markInt64S_l2)) e_laws_markInt64S

/-! laws.markChan -/
abbrev sp_laws_markChan : Sp := ⟨18, [(0, .mix true [.val (.int .i64), .fix (.own 64000), .fix (.own 64001), .fix (.own 64002), .val (.int .i64), .val (.int .i64)]), (1, .val false (.int .i64))], [], [(64000, (.int .i64), true), (64001, (.int .i64), true), (64002, (.int .i64), true)]⟩
abbrev sq_laws_markChan : Sp := ⟨1, [(0, .val false (.int .i64))], [], [(64000, (.int .i64), true), (64001, (.int .i64), true), (64002, (.int .i64), true)]⟩
noncomputable def g_laws_markChan : List (FuncId × SumX) := [(48, xN sp_laws_markInt64S sq_laws_markInt64S U_laws_markInt64S)]
def j_laws_markChan : Nat → Option (List (Nat × SS)) := jOf []
theorem gok_laws_markChan : GOk P (gamOf g_laws_markChan) := gam_ok (tab := g_laws_markChan) (by
    intro p hp
    simp only [g_laws_markChan, List.mem_cons, List.not_mem_nil, or_false] at hp
    rcases hp with rfl
    · exact xN_ok c_laws_markInt64S rfl)
noncomputable abbrev b_laws_markChan : Code := bodyOf Try.f23
noncomputable def F_laws_markChan (x1 : K.T (.int .i64)) (x2 : K.T (.int .i64)) (x3 : K.T (.int .i64)) (x4 : K.T (.int .i64)) (x5 : List (K.T (.int .i64))) (x6 : List (K.T (.int .i64))) (x7 : List (K.T (.int .i64))) : Option sq_laws_markChan.T :=
  (F_laws_markInt64S x4 x5).bind fun y1 =>
  (F_laws_markInt64S y1.1.1 x6).bind fun y2 =>
  (F_laws_markInt64S y2.1.1 x7).bind fun y3 =>
  some ((y3.1.1, ()), (), (y1.2.2.1, (y2.2.2.1, (y3.2.2.1, ()))))
noncomputable abbrev U_laws_markChan : sp_laws_markChan.T → Option sq_laws_markChan.T := fun x => F_laws_markChan x.1.1.1 x.1.1.2.1 x.1.1.2.2.1 x.1.2.1 x.2.2.1 x.2.2.2.1 x.2.2.2.2.1
theorem e_laws_markChan : ∀ x, evCode ty (gamOf g_laws_markChan) j_laws_markChan (lamOf []) b_laws_markChan (sp_laws_markChan.hd x) (finN ty sq_laws_markChan [.tmp 4]) = U_laws_markChan x := fun x => by kernel_rfl
theorem c_laws_markChan : FnS P 23 sp_laws_markChan sq_laws_markChan U_laws_markChan :=
  fnS_of_ev tyOk mixed gok_laws_markChan (fn := Try.f23) (by kernel_rfl) (c := b_laws_markChan) (by kernel_rfl) (by kernel_rfl) (by kernel_rfl) (lam_ok (tab := []) (by kernel_rfl) (fun p hp => by cases hp)) e_laws_markChan

/-! laws.markPortS -/
abbrev sp_laws_markPortS : Sp := ⟨29, [(0, .fix (.own 64000)), (1, .val false (.int .i64))], [], [(64000, k0, true)]⟩
abbrev sq_laws_markPortS : Sp := ⟨1, [(0, .val false (.int .i64))], [], [(64000, k0, true)]⟩
noncomputable def g_laws_markPortS : List (FuncId × SumX) := []
def j_laws_markPortS : Nat → Option (List (Nat × SS)) := jOf []
theorem gok_laws_markPortS : GOk P (gamOf g_laws_markPortS) := gam_ok (tab := g_laws_markPortS) (fun p hp => by cases hp)
noncomputable abbrev b_laws_markPortS : Code := bodyOf Try.f107
abbrev sp_laws_markPortS_l2 : Sp := ⟨29, [(0, .fix (.own 64000)), (1, .val false (.int .i64)), (5, .val false (.int .i64))], [], [(64000, k0, true)]⟩
abbrev xs_laws_markPortS_l2 : List (Ex × Sp) := [(.exit 0, ⟨29, [(1, .val false (.int .i64))], [], [(64000, k0, true)]⟩)]
noncomputable def s_laws_markPortS_l2 : sp_laws_markPortS_l2.T → Option (sp_laws_markPortS_l2.T ⊕ XT xs_laws_markPortS_l2) := fun x =>
  bif (decide (x.1.2.1 < ((x.2.2.1).length : Int))) then
    (bif ib x.1.2.1 (x.2.2.1).length then
    bif ib x.1.2.1 ((x.2.2.1).set (Int.toNat x.1.2.1) (x.1.1, ((x.2.2.1).getD (Int.toNat x.1.2.1) (K.zero k0)).2)).length then
    some (.inl (((IntKind.wrap .i64 ((IntKind.wrap .i64 (x.1.1 + (1 : Int))) + (1 : Int))), ((IntKind.wrap .i64 (x.1.2.1 + (1 : Int))), ())), (), (((x.2.2.1).set (Int.toNat x.1.2.1) (x.1.1, ((x.2.2.1).getD (Int.toNat x.1.2.1) (K.zero k0)).2)).set (Int.toNat x.1.2.1) ((((x.2.2.1).set (Int.toNat x.1.2.1) (x.1.1, ((x.2.2.1).getD (Int.toNat x.1.2.1) (K.zero k0)).2)).getD (Int.toNat x.1.2.1) (K.zero k0)).1, ((Int.tmod (IntKind.wrap .i64 (x.1.1 + (1 : Int))) (3 : Int)) == (0 : Int))), ())))
    else none
    else none)
  else
  some (.inr ((x.1.1, ()), (), (x.2.2.1, ())))
noncomputable def l_laws_markPortS_l2 : sp_laws_markPortS_l2.T → Option (XT xs_laws_markPortS_l2) := lim s_laws_markPortS_l2
theorem es_laws_markPortS_l2 : ∀ x, evCode ty (gamOf g_laws_markPortS) j_laws_markPortS (lamOf []) (loopAt b_laws_markPortS 2) (sp_laws_markPortS_l2.hd x) (rdK sp_laws_markPortS_l2 xs_laws_markPortS_l2) = s_laws_markPortS_l2 x := fun x => by kernel_rfl
theorem ls_laws_markPortS_l2 : LSumOk P (loopAt b_laws_markPortS 2) (loopL sp_laws_markPortS_l2 xs_laws_markPortS_l2 l_laws_markPortS_l2) := loop_ok tyOk mixed gok_laws_markPortS (by kernel_rfl) (by kernel_rfl) (lam_ok (tab := []) (by kernel_rfl) (fun p hp => by cases hp)) es_laws_markPortS_l2 lim_itr
noncomputable def F_laws_markPortS (x1 : K.T (.int .i64)) (x2 : List (K.T k0)) : Option sq_laws_markPortS.T :=
  (l_laws_markPortS_l2 ((x1, ((0 : Int), ())), (), (x2, ()))).bind fun y1 =>
  some ((y1.1.1, ()), (), (y1.2.2.1, ()))
noncomputable abbrev U_laws_markPortS : sp_laws_markPortS.T → Option sq_laws_markPortS.T := fun x => F_laws_markPortS x.1.1 x.2.2.1
theorem e_laws_markPortS : ∀ x, evCode ty (gamOf g_laws_markPortS) j_laws_markPortS (lamOf [(2, loopL sp_laws_markPortS_l2 xs_laws_markPortS_l2 l_laws_markPortS_l2)]) b_laws_markPortS (sp_laws_markPortS.hd x) (finN ty sq_laws_markPortS [.tmp 4]) = U_laws_markPortS x := fun x => by kernel_rfl
theorem c_laws_markPortS : FnS P 107 sp_laws_markPortS sq_laws_markPortS U_laws_markPortS :=
  fnS_of_ev tyOk mixed gok_laws_markPortS (fn := Try.f107) (by kernel_rfl) (c := b_laws_markPortS) (by kernel_rfl) (by kernel_rfl) (by kernel_rfl) (lam_ok (tab := [(2, loopL sp_laws_markPortS_l2 xs_laws_markPortS_l2 l_laws_markPortS_l2)]) (by kernel_rfl) (by
    intro p hp
    simp only [List.mem_cons, List.not_mem_nil, or_false] at hp
    rcases hp with rfl
    · exact @ls_laws_markPortS_l2)) e_laws_markPortS

/-! laws.markBuild -/
abbrev sp_laws_markBuild : Sp := ⟨30, [(0, .mix true [.val (.int .i64), .fix (.own 64000), .fix (.own 64001), .fix (.own 64002), .fix (.own 64003), .fix (.own 64004), .fix (.own 64005), .val (.int .i64), .val (.int .i64)]), (1, .val false (.int .i64))], [], [(64000, k0, true), (64001, (.int .i64), true), (64002, (.int .i64), true), (64003, (.int .i64), true), (64004, (.int .i64), true), (64005, (.int .i64), true)]⟩
abbrev sq_laws_markBuild : Sp := ⟨1, [(0, .val false (.int .i64))], [], [(64000, k0, true), (64001, (.int .i64), true), (64002, (.int .i64), true), (64003, (.int .i64), true), (64004, (.int .i64), true), (64005, (.int .i64), true)]⟩
noncomputable def g_laws_markBuild : List (FuncId × SumX) := [(48, xN sp_laws_markInt64S sq_laws_markInt64S U_laws_markInt64S), (107, xN sp_laws_markPortS sq_laws_markPortS U_laws_markPortS)]
def j_laws_markBuild : Nat → Option (List (Nat × SS)) := jOf []
theorem gok_laws_markBuild : GOk P (gamOf g_laws_markBuild) := gam_ok (tab := g_laws_markBuild) (by
    intro p hp
    simp only [g_laws_markBuild, List.mem_cons, List.not_mem_nil, or_false] at hp
    rcases hp with rfl | rfl
    · exact xN_ok c_laws_markInt64S rfl
    · exact xN_ok c_laws_markPortS rfl)
noncomputable abbrev b_laws_markBuild : Code := bodyOf Try.f40
noncomputable def F_laws_markBuild (x1 : K.T (.int .i64)) (x2 : K.T (.int .i64)) (x3 : K.T (.int .i64)) (x4 : K.T (.int .i64)) (x5 : List (K.T k0)) (x6 : List (K.T (.int .i64))) (x7 : List (K.T (.int .i64))) (x8 : List (K.T (.int .i64))) (x9 : List (K.T (.int .i64))) (x10 : List (K.T (.int .i64))) : Option sq_laws_markBuild.T :=
  (F_laws_markPortS x4 x5).bind fun y1 =>
  (F_laws_markInt64S y1.1.1 x6).bind fun y2 =>
  (F_laws_markInt64S y2.1.1 x7).bind fun y3 =>
  (F_laws_markInt64S y3.1.1 x8).bind fun y4 =>
  (F_laws_markInt64S y4.1.1 x9).bind fun y5 =>
  (F_laws_markInt64S y5.1.1 x10).bind fun y6 =>
  some ((y6.1.1, ()), (), (y1.2.2.1, (y2.2.2.1, (y3.2.2.1, (y4.2.2.1, (y5.2.2.1, (y6.2.2.1, ())))))))
noncomputable abbrev U_laws_markBuild : sp_laws_markBuild.T → Option sq_laws_markBuild.T := fun x => F_laws_markBuild x.1.1.1 x.1.1.2.1 x.1.1.2.2.1 x.1.2.1 x.2.2.1 x.2.2.2.1 x.2.2.2.2.1 x.2.2.2.2.2.1 x.2.2.2.2.2.2.1 x.2.2.2.2.2.2.2.1
theorem e_laws_markBuild : ∀ x, evCode ty (gamOf g_laws_markBuild) j_laws_markBuild (lamOf []) b_laws_markBuild (sp_laws_markBuild.hd x) (finN ty sq_laws_markBuild [.tmp 4]) = U_laws_markBuild x := fun x => by kernel_rfl
theorem c_laws_markBuild : FnS P 40 sp_laws_markBuild sq_laws_markBuild U_laws_markBuild :=
  fnS_of_ev tyOk mixed gok_laws_markBuild (fn := Try.f40) (by kernel_rfl) (c := b_laws_markBuild) (by kernel_rfl) (by kernel_rfl) (by kernel_rfl) (lam_ok (tab := []) (by kernel_rfl) (fun p hp => by cases hp)) e_laws_markBuild

/-! laws.markPlant -/
abbrev sp_laws_markPlant : Sp := ⟨22, [(0, .mix true [.val (.int .i64), .fix (.own 64000), .fix (.own 64001), .fix (.own 64002), .fix (.own 64003), .fix (.own 64004), .fix (.own 64005), .val (.int .i64), .val (.int .i64), .val (.int .i64), .fix (.own 64006), .fix (.own 64007), .fix (.own 64008), .val (.int .i64), .val (.int .i64), .val (.int .i64), .fix (.own 64009), .fix (.own 64010), .fix (.own 64011), .val (.int .i64), .val (.int .i64), .val .bool, .val (.int .i64), .val (.int .i64), .fix (.own 64012), .val (.int .i64)]), (1, .val false (.int .i64))], [], [(64000, k0, true), (64001, (.int .i64), true), (64002, (.int .i64), true), (64003, (.int .i64), true), (64004, (.int .i64), true), (64005, (.int .i64), true), (64006, (.int .i64), true), (64007, (.int .i64), true), (64008, (.int .i64), true), (64009, (.int .i64), true), (64010, (.int .i64), true), (64011, (.int .i64), true), (64012, (.int .i64), true)]⟩
abbrev sq_laws_markPlant : Sp := ⟨1, [(0, .val false (.int .i64))], [], [(64000, k0, true), (64001, (.int .i64), true), (64002, (.int .i64), true), (64003, (.int .i64), true), (64004, (.int .i64), true), (64005, (.int .i64), true), (64006, (.int .i64), true), (64007, (.int .i64), true), (64008, (.int .i64), true), (64009, (.int .i64), true), (64010, (.int .i64), true), (64011, (.int .i64), true), (64012, (.int .i64), true)]⟩
noncomputable def g_laws_markPlant : List (FuncId × SumX) := [(23, xN sp_laws_markChan sq_laws_markChan U_laws_markChan), (40, xN sp_laws_markBuild sq_laws_markBuild U_laws_markBuild), (48, xN sp_laws_markInt64S sq_laws_markInt64S U_laws_markInt64S)]
def j_laws_markPlant : Nat → Option (List (Nat × SS)) := jOf []
theorem gok_laws_markPlant : GOk P (gamOf g_laws_markPlant) := gam_ok (tab := g_laws_markPlant) (by
    intro p hp
    simp only [g_laws_markPlant, List.mem_cons, List.not_mem_nil, or_false] at hp
    rcases hp with rfl | rfl | rfl
    · exact xN_ok c_laws_markChan rfl
    · exact xN_ok c_laws_markBuild rfl
    · exact xN_ok c_laws_markInt64S rfl)
noncomputable abbrev b_laws_markPlant : Code := bodyOf Try.f70
noncomputable def F_laws_markPlant (x1 : K.T (.int .i64)) (x2 : K.T (.int .i64)) (x3 : K.T (.int .i64)) (x4 : K.T (.int .i64)) (x5 : K.T (.int .i64)) (x6 : K.T (.int .i64)) (x7 : K.T (.int .i64)) (x8 : K.T (.int .i64)) (x9 : K.T (.int .i64)) (x10 : K.T .bool) (x11 : K.T (.int .i64)) (x12 : K.T (.int .i64)) (x13 : K.T (.int .i64)) (x14 : K.T (.int .i64)) (x15 : List (K.T k0)) (x16 : List (K.T (.int .i64))) (x17 : List (K.T (.int .i64))) (x18 : List (K.T (.int .i64))) (x19 : List (K.T (.int .i64))) (x20 : List (K.T (.int .i64))) (x21 : List (K.T (.int .i64))) (x22 : List (K.T (.int .i64))) (x23 : List (K.T (.int .i64))) (x24 : List (K.T (.int .i64))) (x25 : List (K.T (.int .i64))) (x26 : List (K.T (.int .i64))) (x27 : List (K.T (.int .i64))) : Option sq_laws_markPlant.T :=
  (F_laws_markBuild x1 x2 x3 x14 x15 x16 x17 x18 x19 x20).bind fun y1 =>
  (F_laws_markChan x4 x5 x6 y1.1.1 x21 x22 x23).bind fun y2 =>
  (F_laws_markChan x7 x8 x9 y2.1.1 x24 x25 x26).bind fun y3 =>
  (F_laws_markInt64S y3.1.1 x27).bind fun y4 =>
  some ((y4.1.1, ()), (), (y1.2.2.1, (y1.2.2.2.1, (y1.2.2.2.2.1, (y1.2.2.2.2.2.1, (y1.2.2.2.2.2.2.1, (y1.2.2.2.2.2.2.2.1, (y2.2.2.1, (y2.2.2.2.1, (y2.2.2.2.2.1, (y3.2.2.1, (y3.2.2.2.1, (y3.2.2.2.2.1, (y4.2.2.1, ()))))))))))))))
noncomputable abbrev U_laws_markPlant : sp_laws_markPlant.T → Option sq_laws_markPlant.T := fun x => F_laws_markPlant x.1.1.1 x.1.1.2.1 x.1.1.2.2.1 x.1.1.2.2.2.1 x.1.1.2.2.2.2.1 x.1.1.2.2.2.2.2.1 x.1.1.2.2.2.2.2.2.1 x.1.1.2.2.2.2.2.2.2.1 x.1.1.2.2.2.2.2.2.2.2.1 x.1.1.2.2.2.2.2.2.2.2.2.1 x.1.1.2.2.2.2.2.2.2.2.2.2.1 x.1.1.2.2.2.2.2.2.2.2.2.2.2.1 x.1.1.2.2.2.2.2.2.2.2.2.2.2.2.1 x.1.2.1 x.2.2.1 x.2.2.2.1 x.2.2.2.2.1 x.2.2.2.2.2.1 x.2.2.2.2.2.2.1 x.2.2.2.2.2.2.2.1 x.2.2.2.2.2.2.2.2.1 x.2.2.2.2.2.2.2.2.2.1 x.2.2.2.2.2.2.2.2.2.2.1 x.2.2.2.2.2.2.2.2.2.2.2.1 x.2.2.2.2.2.2.2.2.2.2.2.2.1 x.2.2.2.2.2.2.2.2.2.2.2.2.2.1 x.2.2.2.2.2.2.2.2.2.2.2.2.2.2.1
theorem e_laws_markPlant : ∀ x, evCode ty (gamOf g_laws_markPlant) j_laws_markPlant (lamOf []) b_laws_markPlant (sp_laws_markPlant.hd x) (finN ty sq_laws_markPlant [.tmp 4]) = U_laws_markPlant x := fun x => by kernel_rfl
theorem c_laws_markPlant : FnS P 70 sp_laws_markPlant sq_laws_markPlant U_laws_markPlant :=
  fnS_of_ev tyOk mixed gok_laws_markPlant (fn := Try.f70) (by kernel_rfl) (c := b_laws_markPlant) (by kernel_rfl) (by kernel_rfl) (by kernel_rfl) (lam_ok (tab := []) (by kernel_rfl) (fun p hp => by cases hp)) e_laws_markPlant

/-! laws.markPlantResult -/
abbrev sp_laws_markPlantResult : Sp := ⟨10, [(0, .mix true [.val (.int .i64), .val (.int .i64), .fix (.own 64000), .fix (.own 64001), .fix (.own 64002), .fix (.own 64003), .fix (.own 64004), .fix (.own 64005), .val (.int .i64), .val (.int .i64), .val (.int .i64), .fix (.own 64006), .fix (.own 64007), .fix (.own 64008), .val (.int .i64), .val (.int .i64), .val (.int .i64), .fix (.own 64009), .fix (.own 64010), .fix (.own 64011), .val (.int .i64), .val (.int .i64), .val .bool, .val (.int .i64), .val (.int .i64), .fix (.own 64012), .val (.int .i64)]), (1, .val false (.int .i64))], [], [(64000, k0, true), (64001, (.int .i64), true), (64002, (.int .i64), true), (64003, (.int .i64), true), (64004, (.int .i64), true), (64005, (.int .i64), true), (64006, (.int .i64), true), (64007, (.int .i64), true), (64008, (.int .i64), true), (64009, (.int .i64), true), (64010, (.int .i64), true), (64011, (.int .i64), true), (64012, (.int .i64), true)]⟩
abbrev sq_laws_markPlantResult : Sp := ⟨1, [(0, .val false (.int .i64))], [], [(64000, k0, true), (64001, (.int .i64), true), (64002, (.int .i64), true), (64003, (.int .i64), true), (64004, (.int .i64), true), (64005, (.int .i64), true), (64006, (.int .i64), true), (64007, (.int .i64), true), (64008, (.int .i64), true), (64009, (.int .i64), true), (64010, (.int .i64), true), (64011, (.int .i64), true), (64012, (.int .i64), true)]⟩
noncomputable def g_laws_markPlantResult : List (FuncId × SumX) := [(70, xN sp_laws_markPlant sq_laws_markPlant U_laws_markPlant)]
def j_laws_markPlantResult : Nat → Option (List (Nat × SS)) := jOf []
theorem gok_laws_markPlantResult : GOk P (gamOf g_laws_markPlantResult) := gam_ok (tab := g_laws_markPlantResult) (by
    intro p hp
    simp only [g_laws_markPlantResult, List.mem_cons, List.not_mem_nil, or_false] at hp
    rcases hp with rfl
    · exact xN_ok c_laws_markPlant rfl)
noncomputable abbrev b_laws_markPlantResult : Code := bodyOf Try.f61
noncomputable def F_laws_markPlantResult (x1 : K.T (.int .i64)) (x2 : K.T (.int .i64)) (x3 : K.T (.int .i64)) (x4 : K.T (.int .i64)) (x5 : K.T (.int .i64)) (x6 : K.T (.int .i64)) (x7 : K.T (.int .i64)) (x8 : K.T (.int .i64)) (x9 : K.T (.int .i64)) (x10 : K.T (.int .i64)) (x11 : K.T .bool) (x12 : K.T (.int .i64)) (x13 : K.T (.int .i64)) (x14 : K.T (.int .i64)) (x15 : K.T (.int .i64)) (x16 : List (K.T k0)) (x17 : List (K.T (.int .i64))) (x18 : List (K.T (.int .i64))) (x19 : List (K.T (.int .i64))) (x20 : List (K.T (.int .i64))) (x21 : List (K.T (.int .i64))) (x22 : List (K.T (.int .i64))) (x23 : List (K.T (.int .i64))) (x24 : List (K.T (.int .i64))) (x25 : List (K.T (.int .i64))) (x26 : List (K.T (.int .i64))) (x27 : List (K.T (.int .i64))) (x28 : List (K.T (.int .i64))) : Option sq_laws_markPlantResult.T :=
  (F_laws_markPlant x2 x3 x4 x5 x6 x7 x8 x9 x10 x11 x12 x13 x14 x15 x16 x17 x18 x19 x20 x21 x22 x23 x24 x25 x26 x27 x28).bind fun y1 =>
  some ((y1.1.1, ()), (), (y1.2.2.1, (y1.2.2.2.1, (y1.2.2.2.2.1, (y1.2.2.2.2.2.1, (y1.2.2.2.2.2.2.1, (y1.2.2.2.2.2.2.2.1, (y1.2.2.2.2.2.2.2.2.1, (y1.2.2.2.2.2.2.2.2.2.1, (y1.2.2.2.2.2.2.2.2.2.2.1, (y1.2.2.2.2.2.2.2.2.2.2.2.1, (y1.2.2.2.2.2.2.2.2.2.2.2.2.1, (y1.2.2.2.2.2.2.2.2.2.2.2.2.2.1, (y1.2.2.2.2.2.2.2.2.2.2.2.2.2.2.1, ()))))))))))))))
noncomputable abbrev U_laws_markPlantResult : sp_laws_markPlantResult.T → Option sq_laws_markPlantResult.T := fun x => F_laws_markPlantResult x.1.1.1 x.1.1.2.1 x.1.1.2.2.1 x.1.1.2.2.2.1 x.1.1.2.2.2.2.1 x.1.1.2.2.2.2.2.1 x.1.1.2.2.2.2.2.2.1 x.1.1.2.2.2.2.2.2.2.1 x.1.1.2.2.2.2.2.2.2.2.1 x.1.1.2.2.2.2.2.2.2.2.2.1 x.1.1.2.2.2.2.2.2.2.2.2.2.1 x.1.1.2.2.2.2.2.2.2.2.2.2.2.1 x.1.1.2.2.2.2.2.2.2.2.2.2.2.2.1 x.1.1.2.2.2.2.2.2.2.2.2.2.2.2.2.1 x.1.2.1 x.2.2.1 x.2.2.2.1 x.2.2.2.2.1 x.2.2.2.2.2.1 x.2.2.2.2.2.2.1 x.2.2.2.2.2.2.2.1 x.2.2.2.2.2.2.2.2.1 x.2.2.2.2.2.2.2.2.2.1 x.2.2.2.2.2.2.2.2.2.2.1 x.2.2.2.2.2.2.2.2.2.2.2.1 x.2.2.2.2.2.2.2.2.2.2.2.2.1 x.2.2.2.2.2.2.2.2.2.2.2.2.2.1 x.2.2.2.2.2.2.2.2.2.2.2.2.2.2.1
theorem e_laws_markPlantResult : ∀ x, evCode ty (gamOf g_laws_markPlantResult) j_laws_markPlantResult (lamOf []) b_laws_markPlantResult (sp_laws_markPlantResult.hd x) (finN ty sq_laws_markPlantResult [.tmp 4]) = U_laws_markPlantResult x := fun x => by kernel_rfl
theorem c_laws_markPlantResult : FnS P 61 sp_laws_markPlantResult sq_laws_markPlantResult U_laws_markPlantResult :=
  fnS_of_ev tyOk mixed gok_laws_markPlantResult (fn := Try.f61) (by kernel_rfl) (c := b_laws_markPlantResult) (by kernel_rfl) (by kernel_rfl) (by kernel_rfl) (lam_ok (tab := []) (by kernel_rfl) (fun p hp => by cases hp)) e_laws_markPlantResult

/-! laws.heldInt64S -/
abbrev sp_laws_heldInt64S : Sp := ⟨21, [(0, .val false (.sl (.int .i64))), (1, .val false (.int .i64))], [], []⟩
abbrev sq_laws_heldInt64S : Sp := ⟨1, [(0, .val false (.int .i64))], [], []⟩
noncomputable def g_laws_heldInt64S : List (FuncId × SumX) := []
def j_laws_heldInt64S : Nat → Option (List (Nat × SS)) := jOf []
theorem gok_laws_heldInt64S : GOk P (gamOf g_laws_heldInt64S) := gam_ok (tab := g_laws_heldInt64S) (fun p hp => by cases hp)
noncomputable abbrev b_laws_heldInt64S : Code := bodyOf Try.f84
abbrev sp_laws_heldInt64S_l2 : Sp := ⟨21, [(0, .val false (.sl (.int .i64))), (1, .val false (.int .i64)), (5, .val false (.int .i64))], [], []⟩
abbrev xs_laws_heldInt64S_l2 : List (Ex × Sp) := [(.exit 0, ⟨21, [(1, .val false (.int .i64))], [], []⟩), (.ret, ⟨21, [(4, .val false (.int .i64))], [], []⟩)]
noncomputable def s_laws_heldInt64S_l2 : sp_laws_heldInt64S_l2.T → Option (sp_laws_heldInt64S_l2.T ⊕ XT xs_laws_heldInt64S_l2) := fun x =>
  bif (decide (x.1.2.2.1 < ((x.1.1).length : Int))) then
    (bif ib x.1.2.2.1 (x.1.1).length then
    bif (((x.1.1).getD (Int.toNat x.1.2.2.1) (K.zero (.int .i64))) != x.1.2.1) then
      (some (.inr (.inr (((-1 : Int), ()), (), ()))))
    else
    some (.inl ((x.1.1, ((IntKind.wrap .i64 (x.1.2.1 + (1 : Int))), ((IntKind.wrap .i64 (x.1.2.2.1 + (1 : Int))), ()))), (), ()))
    else none)
  else
  some (.inr (.inl ((x.1.2.1, ()), (), ())))
noncomputable def l_laws_heldInt64S_l2 : sp_laws_heldInt64S_l2.T → Option (XT xs_laws_heldInt64S_l2) := lim s_laws_heldInt64S_l2
theorem es_laws_heldInt64S_l2 : ∀ x, evCode ty (gamOf g_laws_heldInt64S) j_laws_heldInt64S (lamOf []) (loopAt b_laws_heldInt64S 2) (sp_laws_heldInt64S_l2.hd x) (rdK sp_laws_heldInt64S_l2 xs_laws_heldInt64S_l2) = s_laws_heldInt64S_l2 x := fun x => by kernel_rfl
theorem ls_laws_heldInt64S_l2 : LSumOk P (loopAt b_laws_heldInt64S 2) (loopL sp_laws_heldInt64S_l2 xs_laws_heldInt64S_l2 l_laws_heldInt64S_l2) := loop_ok tyOk mixed gok_laws_heldInt64S (by kernel_rfl) (by kernel_rfl) (lam_ok (tab := []) (by kernel_rfl) (fun p hp => by cases hp)) es_laws_heldInt64S_l2 lim_itr
noncomputable def F_laws_heldInt64S (x1 : K.T (.sl (.int .i64))) (x2 : K.T (.int .i64)) : Option sq_laws_heldInt64S.T :=
  (l_laws_heldInt64S_l2 ((x1, (x2, ((0 : Int), ()))), (), ())).bind fun y1 =>
  (match y1 with
  | .inl y2 => some ((y2.1.1, ()), (), ())
  | .inr z3 => some ((z3.1.1, ()), (), ()))
noncomputable abbrev U_laws_heldInt64S : sp_laws_heldInt64S.T → Option sq_laws_heldInt64S.T := fun x => F_laws_heldInt64S x.1.1 x.1.2.1
theorem e_laws_heldInt64S : ∀ x, evCode ty (gamOf g_laws_heldInt64S) j_laws_heldInt64S (lamOf [(2, loopL sp_laws_heldInt64S_l2 xs_laws_heldInt64S_l2 l_laws_heldInt64S_l2)]) b_laws_heldInt64S (sp_laws_heldInt64S.hd x) (finN ty sq_laws_heldInt64S [.tmp 4]) = U_laws_heldInt64S x := fun x => by kernel_rfl
theorem c_laws_heldInt64S : FnS P 84 sp_laws_heldInt64S sq_laws_heldInt64S U_laws_heldInt64S :=
  fnS_of_ev tyOk mixed gok_laws_heldInt64S (fn := Try.f84) (by kernel_rfl) (c := b_laws_heldInt64S) (by kernel_rfl) (by kernel_rfl) (by kernel_rfl) (lam_ok (tab := [(2, loopL sp_laws_heldInt64S_l2 xs_laws_heldInt64S_l2 l_laws_heldInt64S_l2)]) (by kernel_rfl) (by
    intro p hp
    simp only [List.mem_cons, List.not_mem_nil, or_false] at hp
    rcases hp with rfl
    · exact @ls_laws_heldInt64S_l2)) e_laws_heldInt64S

/-! laws.heldChan -/
abbrev sp_laws_heldChan : Sp := ⟨24, [(0, .val true k5), (1, .val false (.int .i64))], [], []⟩
abbrev sq_laws_heldChan : Sp := ⟨1, [(0, .val false (.int .i64))], [], []⟩
noncomputable def g_laws_heldChan : List (FuncId × SumX) := [(84, cN sp_laws_heldInt64S sq_laws_heldInt64S U_laws_heldInt64S)]
def j_laws_heldChan : Nat → Option (List (Nat × SS)) := jOf []
theorem gok_laws_heldChan : GOk P (gamOf g_laws_heldChan) := gam_ok (tab := g_laws_heldChan) (by
    intro p hp
    simp only [g_laws_heldChan, List.mem_cons, List.not_mem_nil, or_false] at hp
    rcases hp with rfl
    · exact cN_ok c_laws_heldInt64S rfl)
noncomputable abbrev b_laws_heldChan : Code := bodyOf Try.f90
noncomputable def F_laws_heldChan (x1 : K.T k5) (x2 : K.T (.int .i64)) : Option sq_laws_heldChan.T :=
  (F_laws_heldInt64S x1.2.1 x2).bind fun y1 =>
  bif (decide (y1.1.1 < (0 : Int))) then
    (some (((-1 : Int), ()), (), ()))
  else
  (F_laws_heldInt64S x1.2.2.1 y1.1.1).bind fun y2 =>
  bif (decide (y2.1.1 < (0 : Int))) then
    (some (((-1 : Int), ()), (), ()))
  else
  (F_laws_heldInt64S x1.2.2.2.1 y2.1.1).bind fun y3 =>
  bif (decide (y3.1.1 < (0 : Int))) then
    (some (((-1 : Int), ()), (), ()))
  else
  some ((y3.1.1, ()), (), ())
noncomputable abbrev U_laws_heldChan : sp_laws_heldChan.T → Option sq_laws_heldChan.T := fun x => F_laws_heldChan x.1.1 x.1.2.1
theorem e_laws_heldChan : ∀ x, evCode ty (gamOf g_laws_heldChan) j_laws_heldChan (lamOf []) b_laws_heldChan (sp_laws_heldChan.hd x) (finN ty sq_laws_heldChan [.tmp 4]) = U_laws_heldChan x := fun x => by kernel_rfl
theorem c_laws_heldChan : FnS P 90 sp_laws_heldChan sq_laws_heldChan U_laws_heldChan :=
  fnS_of_ev tyOk mixed gok_laws_heldChan (fn := Try.f90) (by kernel_rfl) (c := b_laws_heldChan) (by kernel_rfl) (by kernel_rfl) (by kernel_rfl) (lam_ok (tab := []) (by kernel_rfl) (fun p hp => by cases hp)) e_laws_heldChan

/-! laws.heldPortS -/
abbrev sp_laws_heldPortS : Sp := ⟨33, [(0, .val false (.sl k0)), (1, .val false (.int .i64))], [], []⟩
abbrev sq_laws_heldPortS : Sp := ⟨1, [(0, .val false (.int .i64))], [], []⟩
noncomputable def g_laws_heldPortS : List (FuncId × SumX) := []
def j_laws_heldPortS : Nat → Option (List (Nat × SS)) := jOf []
theorem gok_laws_heldPortS : GOk P (gamOf g_laws_heldPortS) := gam_ok (tab := g_laws_heldPortS) (fun p hp => by cases hp)
noncomputable abbrev b_laws_heldPortS : Code := bodyOf Try.f161
abbrev sp_laws_heldPortS_l2 : Sp := ⟨33, [(0, .val false (.sl k0)), (1, .val false (.int .i64)), (5, .val false (.int .i64))], [], []⟩
abbrev xs_laws_heldPortS_l2 : List (Ex × Sp) := [(.exit 0, ⟨33, [(1, .val false (.int .i64))], [], []⟩), (.ret, ⟨33, [(4, .val false (.int .i64))], [], []⟩)]
noncomputable def s_laws_heldPortS_l2 : sp_laws_heldPortS_l2.T → Option (sp_laws_heldPortS_l2.T ⊕ XT xs_laws_heldPortS_l2) := fun x =>
  bif (decide (x.1.2.2.1 < ((x.1.1).length : Int))) then
    (bif ib x.1.2.2.1 (x.1.1).length then
    bif ((((x.1.1).getD (Int.toNat x.1.2.2.1) (K.zero k0)).1) != x.1.2.1) then
      (some (.inr (.inr (((-1 : Int), ()), (), ()))))
    else
    bif ib x.1.2.2.1 (x.1.1).length then
    bif (!((((x.1.1).getD (Int.toNat x.1.2.2.1) (K.zero k0)).2) == ((Int.tmod (IntKind.wrap .i64 (x.1.2.1 + (1 : Int))) (3 : Int)) == (0 : Int)))) then
      (some (.inr (.inr (((-1 : Int), ()), (), ()))))
    else
    some (.inl ((x.1.1, ((IntKind.wrap .i64 ((IntKind.wrap .i64 (x.1.2.1 + (1 : Int))) + (1 : Int))), ((IntKind.wrap .i64 (x.1.2.2.1 + (1 : Int))), ()))), (), ()))
    else none
    else none)
  else
  some (.inr (.inl ((x.1.2.1, ()), (), ())))
noncomputable def l_laws_heldPortS_l2 : sp_laws_heldPortS_l2.T → Option (XT xs_laws_heldPortS_l2) := lim s_laws_heldPortS_l2
theorem es_laws_heldPortS_l2 : ∀ x, evCode ty (gamOf g_laws_heldPortS) j_laws_heldPortS (lamOf []) (loopAt b_laws_heldPortS 2) (sp_laws_heldPortS_l2.hd x) (rdK sp_laws_heldPortS_l2 xs_laws_heldPortS_l2) = s_laws_heldPortS_l2 x := fun x => by kernel_rfl
theorem ls_laws_heldPortS_l2 : LSumOk P (loopAt b_laws_heldPortS 2) (loopL sp_laws_heldPortS_l2 xs_laws_heldPortS_l2 l_laws_heldPortS_l2) := loop_ok tyOk mixed gok_laws_heldPortS (by kernel_rfl) (by kernel_rfl) (lam_ok (tab := []) (by kernel_rfl) (fun p hp => by cases hp)) es_laws_heldPortS_l2 lim_itr
noncomputable def F_laws_heldPortS (x1 : K.T (.sl k0)) (x2 : K.T (.int .i64)) : Option sq_laws_heldPortS.T :=
  (l_laws_heldPortS_l2 ((x1, (x2, ((0 : Int), ()))), (), ())).bind fun y1 =>
  (match y1 with
  | .inl y2 => some ((y2.1.1, ()), (), ())
  | .inr z3 => some ((z3.1.1, ()), (), ()))
noncomputable abbrev U_laws_heldPortS : sp_laws_heldPortS.T → Option sq_laws_heldPortS.T := fun x => F_laws_heldPortS x.1.1 x.1.2.1
theorem e_laws_heldPortS : ∀ x, evCode ty (gamOf g_laws_heldPortS) j_laws_heldPortS (lamOf [(2, loopL sp_laws_heldPortS_l2 xs_laws_heldPortS_l2 l_laws_heldPortS_l2)]) b_laws_heldPortS (sp_laws_heldPortS.hd x) (finN ty sq_laws_heldPortS [.tmp 4]) = U_laws_heldPortS x := fun x => by kernel_rfl
theorem c_laws_heldPortS : FnS P 161 sp_laws_heldPortS sq_laws_heldPortS U_laws_heldPortS :=
  fnS_of_ev tyOk mixed gok_laws_heldPortS (fn := Try.f161) (by kernel_rfl) (c := b_laws_heldPortS) (by kernel_rfl) (by kernel_rfl) (by kernel_rfl) (lam_ok (tab := [(2, loopL sp_laws_heldPortS_l2 xs_laws_heldPortS_l2 l_laws_heldPortS_l2)]) (by kernel_rfl) (by
    intro p hp
    simp only [List.mem_cons, List.not_mem_nil, or_false] at hp
    rcases hp with rfl
    · exact @ls_laws_heldPortS_l2)) e_laws_heldPortS

/-! laws.heldBuild -/
abbrev sp_laws_heldBuild : Sp := ⟨42, [(0, .val true k9), (1, .val false (.int .i64))], [], []⟩
abbrev sq_laws_heldBuild : Sp := ⟨1, [(0, .val false (.int .i64))], [], []⟩
noncomputable def g_laws_heldBuild : List (FuncId × SumX) := [(84, cN sp_laws_heldInt64S sq_laws_heldInt64S U_laws_heldInt64S), (161, cN sp_laws_heldPortS sq_laws_heldPortS U_laws_heldPortS)]
def j_laws_heldBuild : Nat → Option (List (Nat × SS)) := jOf []
theorem gok_laws_heldBuild : GOk P (gamOf g_laws_heldBuild) := gam_ok (tab := g_laws_heldBuild) (by
    intro p hp
    simp only [g_laws_heldBuild, List.mem_cons, List.not_mem_nil, or_false] at hp
    rcases hp with rfl | rfl
    · exact cN_ok c_laws_heldInt64S rfl
    · exact cN_ok c_laws_heldPortS rfl)
noncomputable abbrev b_laws_heldBuild : Code := bodyOf Try.f121
noncomputable def F_laws_heldBuild (x1 : K.T k9) (x2 : K.T (.int .i64)) : Option sq_laws_heldBuild.T :=
  (F_laws_heldPortS x1.2.1 x2).bind fun y1 =>
  bif (decide (y1.1.1 < (0 : Int))) then
    (some (((-1 : Int), ()), (), ()))
  else
  (F_laws_heldInt64S x1.2.2.1 y1.1.1).bind fun y2 =>
  bif (decide (y2.1.1 < (0 : Int))) then
    (some (((-1 : Int), ()), (), ()))
  else
  (F_laws_heldInt64S x1.2.2.2.1 y2.1.1).bind fun y3 =>
  bif (decide (y3.1.1 < (0 : Int))) then
    (some (((-1 : Int), ()), (), ()))
  else
  (F_laws_heldInt64S x1.2.2.2.2.1 y3.1.1).bind fun y4 =>
  bif (decide (y4.1.1 < (0 : Int))) then
    (some (((-1 : Int), ()), (), ()))
  else
  (F_laws_heldInt64S x1.2.2.2.2.2.1 y4.1.1).bind fun y5 =>
  bif (decide (y5.1.1 < (0 : Int))) then
    (some (((-1 : Int), ()), (), ()))
  else
  (F_laws_heldInt64S x1.2.2.2.2.2.2.1 y5.1.1).bind fun y6 =>
  bif (decide (y6.1.1 < (0 : Int))) then
    (some (((-1 : Int), ()), (), ()))
  else
  some ((y6.1.1, ()), (), ())
noncomputable abbrev U_laws_heldBuild : sp_laws_heldBuild.T → Option sq_laws_heldBuild.T := fun x => F_laws_heldBuild x.1.1 x.1.2.1
theorem e_laws_heldBuild : ∀ x, evCode ty (gamOf g_laws_heldBuild) j_laws_heldBuild (lamOf []) b_laws_heldBuild (sp_laws_heldBuild.hd x) (finN ty sq_laws_heldBuild [.tmp 4]) = U_laws_heldBuild x := fun x => by kernel_rfl
theorem c_laws_heldBuild : FnS P 121 sp_laws_heldBuild sq_laws_heldBuild U_laws_heldBuild :=
  fnS_of_ev tyOk mixed gok_laws_heldBuild (fn := Try.f121) (by kernel_rfl) (c := b_laws_heldBuild) (by kernel_rfl) (by kernel_rfl) (by kernel_rfl) (lam_ok (tab := []) (by kernel_rfl) (fun p hp => by cases hp)) e_laws_heldBuild

/-! laws.heldPlant -/
abbrev sp_laws_heldPlant : Sp := ⟨30, [(0, .val true k16), (1, .val false (.int .i64))], [], []⟩
abbrev sq_laws_heldPlant : Sp := ⟨1, [(0, .val false (.int .i64))], [], []⟩
noncomputable def g_laws_heldPlant : List (FuncId × SumX) := [(84, cN sp_laws_heldInt64S sq_laws_heldInt64S U_laws_heldInt64S), (90, cN sp_laws_heldChan sq_laws_heldChan U_laws_heldChan), (121, cN sp_laws_heldBuild sq_laws_heldBuild U_laws_heldBuild)]
def j_laws_heldPlant : Nat → Option (List (Nat × SS)) := jOf []
theorem gok_laws_heldPlant : GOk P (gamOf g_laws_heldPlant) := gam_ok (tab := g_laws_heldPlant) (by
    intro p hp
    simp only [g_laws_heldPlant, List.mem_cons, List.not_mem_nil, or_false] at hp
    rcases hp with rfl | rfl | rfl
    · exact cN_ok c_laws_heldInt64S rfl
    · exact cN_ok c_laws_heldChan rfl
    · exact cN_ok c_laws_heldBuild rfl)
noncomputable abbrev b_laws_heldPlant : Code := bodyOf Try.f128
noncomputable def F_laws_heldPlant (x1 : K.T k16) (x2 : K.T (.int .i64)) : Option sq_laws_heldPlant.T :=
  (F_laws_heldBuild x1.1 x2).bind fun y1 =>
  bif (decide (y1.1.1 < (0 : Int))) then
    (some (((-1 : Int), ()), (), ()))
  else
  (F_laws_heldChan x1.2.1 y1.1.1).bind fun y2 =>
  bif (decide (y2.1.1 < (0 : Int))) then
    (some (((-1 : Int), ()), (), ()))
  else
  (F_laws_heldChan x1.2.2.1 y2.1.1).bind fun y3 =>
  bif (decide (y3.1.1 < (0 : Int))) then
    (some (((-1 : Int), ()), (), ()))
  else
  (F_laws_heldInt64S x1.2.2.2.2.2.2.1 y3.1.1).bind fun y4 =>
  bif (decide (y4.1.1 < (0 : Int))) then
    (some (((-1 : Int), ()), (), ()))
  else
  some ((y4.1.1, ()), (), ())
noncomputable abbrev U_laws_heldPlant : sp_laws_heldPlant.T → Option sq_laws_heldPlant.T := fun x => F_laws_heldPlant x.1.1 x.1.2.1
theorem e_laws_heldPlant : ∀ x, evCode ty (gamOf g_laws_heldPlant) j_laws_heldPlant (lamOf []) b_laws_heldPlant (sp_laws_heldPlant.hd x) (finN ty sq_laws_heldPlant [.tmp 4]) = U_laws_heldPlant x := fun x => by kernel_rfl
theorem c_laws_heldPlant : FnS P 128 sp_laws_heldPlant sq_laws_heldPlant U_laws_heldPlant :=
  fnS_of_ev tyOk mixed gok_laws_heldPlant (fn := Try.f128) (by kernel_rfl) (c := b_laws_heldPlant) (by kernel_rfl) (by kernel_rfl) (by kernel_rfl) (lam_ok (tab := []) (by kernel_rfl) (fun p hp => by cases hp)) e_laws_heldPlant

/-! laws.heldPlantResult -/
abbrev sp_laws_heldPlantResult : Sp := ⟨12, [(0, .val true k17), (1, .val false (.int .i64))], [], []⟩
abbrev sq_laws_heldPlantResult : Sp := ⟨1, [(0, .val false (.int .i64))], [], []⟩
noncomputable def g_laws_heldPlantResult : List (FuncId × SumX) := [(128, cN sp_laws_heldPlant sq_laws_heldPlant U_laws_heldPlant)]
def j_laws_heldPlantResult : Nat → Option (List (Nat × SS)) := jOf []
theorem gok_laws_heldPlantResult : GOk P (gamOf g_laws_heldPlantResult) := gam_ok (tab := g_laws_heldPlantResult) (by
    intro p hp
    simp only [g_laws_heldPlantResult, List.mem_cons, List.not_mem_nil, or_false] at hp
    rcases hp with rfl
    · exact cN_ok c_laws_heldPlant rfl)
noncomputable abbrev b_laws_heldPlantResult : Code := bodyOf Try.f62
noncomputable def F_laws_heldPlantResult (x1 : K.T k17) (x2 : K.T (.int .i64)) : Option sq_laws_heldPlantResult.T :=
  (F_laws_heldPlant x1.2 x2).bind fun y1 =>
  bif (decide (y1.1.1 < (0 : Int))) then
    (some (((-1 : Int), ()), (), ()))
  else
  some ((y1.1.1, ()), (), ())
noncomputable abbrev U_laws_heldPlantResult : sp_laws_heldPlantResult.T → Option sq_laws_heldPlantResult.T := fun x => F_laws_heldPlantResult x.1.1 x.1.2.1
theorem e_laws_heldPlantResult : ∀ x, evCode ty (gamOf g_laws_heldPlantResult) j_laws_heldPlantResult (lamOf []) b_laws_heldPlantResult (sp_laws_heldPlantResult.hd x) (finN ty sq_laws_heldPlantResult [.tmp 4]) = U_laws_heldPlantResult x := fun x => by kernel_rfl
theorem c_laws_heldPlantResult : FnS P 62 sp_laws_heldPlantResult sq_laws_heldPlantResult U_laws_heldPlantResult :=
  fnS_of_ev tyOk mixed gok_laws_heldPlantResult (fn := Try.f62) (by kernel_rfl) (c := b_laws_heldPlantResult) (by kernel_rfl) (by kernel_rfl) (by kernel_rfl) (lam_ok (tab := []) (by kernel_rfl) (fun p hp => by cases hp)) e_laws_heldPlantResult

/-! spec.l1In -/
abbrev sp_spec_l1In : Sp := ⟨15, [(0, .val false (.int .i64)), (1, .val false (.int .i64)), (2, .val false (.int .i64))], [], []⟩
abbrev sq_spec_l1In : Sp := ⟨1, [(0, .val false .bool)], [], []⟩
noncomputable def g_spec_l1In : List (FuncId × SumX) := []
def j_spec_l1In : Nat → Option (List (Nat × SS)) := jOf [(1, [(6, .val false .bool)])]
theorem gok_spec_l1In : GOk P (gamOf g_spec_l1In) := gam_ok (tab := g_spec_l1In) (fun p hp => by cases hp)
noncomputable abbrev b_spec_l1In : Code := bodyOf Try.f131
noncomputable def F_spec_l1In (x1 : K.T (.int .i64)) (x2 : K.T (.int .i64)) (x3 : K.T (.int .i64)) : Option sq_spec_l1In.T :=
  (bif (decide (x1 ≥ x2)) then
      (some ((decide (x1 ≤ x3)), ()))
    else
    some (false, ())).bind fun y1 =>
  some ((y1.1, ()), (), ())
noncomputable abbrev U_spec_l1In : sp_spec_l1In.T → Option sq_spec_l1In.T := fun x => F_spec_l1In x.1.1 x.1.2.1 x.1.2.2.1
theorem e_spec_l1In : ∀ x, evCode ty (gamOf g_spec_l1In) j_spec_l1In (lamOf []) b_spec_l1In (sp_spec_l1In.hd x) (finN ty sq_spec_l1In [.tmp 6]) = U_spec_l1In x := fun x => by kernel_rfl
theorem c_spec_l1In : FnS P 131 sp_spec_l1In sq_spec_l1In U_spec_l1In :=
  fnS_of_ev tyOk mixed gok_spec_l1In (fn := Try.f131) (by kernel_rfl) (c := b_spec_l1In) (by kernel_rfl) (by kernel_rfl) (by kernel_rfl) (lam_ok (tab := []) (by kernel_rfl) (fun p hp => by cases hp)) e_spec_l1In

/-! spec.l1Word -/
abbrev sp_spec_l1Word : Sp := ⟨5, [(0, .val false (.int .i64))], [], []⟩
abbrev sq_spec_l1Word : Sp := ⟨1, [(0, .val false .bool)], [], []⟩
noncomputable def g_spec_l1Word : List (FuncId × SumX) := [(131, cN sp_spec_l1In sq_spec_l1In U_spec_l1In)]
def j_spec_l1Word : Nat → Option (List (Nat × SS)) := jOf []
theorem gok_spec_l1Word : GOk P (gamOf g_spec_l1Word) := gam_ok (tab := g_spec_l1Word) (by
    intro p hp
    simp only [g_spec_l1Word, List.mem_cons, List.not_mem_nil, or_false] at hp
    rcases hp with rfl
    · exact cN_ok c_spec_l1In rfl)
noncomputable abbrev b_spec_l1Word : Code := bodyOf Try.f146
noncomputable def F_spec_l1Word (x1 : K.T (.int .i64)) : Option sq_spec_l1Word.T :=
  (F_spec_l1In x1 (0 : Int) (65535 : Int)).bind fun y1 =>
  some ((y1.1.1, ()), (), ())
noncomputable abbrev U_spec_l1Word : sp_spec_l1Word.T → Option sq_spec_l1Word.T := fun x => F_spec_l1Word x.1.1
theorem e_spec_l1Word : ∀ x, evCode ty (gamOf g_spec_l1Word) j_spec_l1Word (lamOf []) b_spec_l1Word (sp_spec_l1Word.hd x) (finN ty sq_spec_l1Word [.tmp 2]) = U_spec_l1Word x := fun x => by kernel_rfl
theorem c_spec_l1Word : FnS P 146 sp_spec_l1Word sq_spec_l1Word U_spec_l1Word :=
  fnS_of_ev tyOk mixed gok_spec_l1Word (fn := Try.f146) (by kernel_rfl) (c := b_spec_l1Word) (by kernel_rfl) (by kernel_rfl) (by kernel_rfl) (lam_ok (tab := []) (by kernel_rfl) (fun p hp => by cases hp)) e_spec_l1Word

/-! spec.l13Hurt -/
abbrev sp_spec_l13Hurt : Sp := ⟨116, [(0, .fix (.ptr 60000 0)), (1, .val false (.int .i64)), (2, .val false (.int .i64)), (3, .val false (.int .i64))], [(60000, [.val (.int .i64), .fix (.own 63000), .fix (.own 63001), .fix (.own 63002), .val (.int .i64), .val (.int .i64)])], [(63000, (.int .i64), true), (63001, (.int .i64), true), (63002, (.int .i64), true)]⟩
abbrev sq_spec_l13Hurt : Sp := ⟨1, [(0, .val false (.int .i64))], [(60000, [.val (.int .i64), .fix (.own 59000), .fix (.own 59001), .fix (.own 59002), .val (.int .i64), .val (.int .i64)])], [(59000, (.int .i64), true), (59001, (.int .i64), true), (59002, (.int .i64), true)]⟩
noncomputable def g_spec_l13Hurt : List (FuncId × SumX) := [(131, cN sp_spec_l1In sq_spec_l1In U_spec_l1In), (146, cN sp_spec_l1Word sq_spec_l1Word U_spec_l1Word)]
def j_spec_l13Hurt : Nat → Option (List (Nat × SS)) := jOf [(4, [(41, .val false .bool)])]
theorem gok_spec_l13Hurt : GOk P (gamOf g_spec_l13Hurt) := gam_ok (tab := g_spec_l13Hurt) (by
    intro p hp
    simp only [g_spec_l13Hurt, List.mem_cons, List.not_mem_nil, or_false] at hp
    rcases hp with rfl | rfl
    · exact cN_ok c_spec_l1In rfl
    · exact cN_ok c_spec_l1Word rfl)
noncomputable abbrev b_spec_l13Hurt : Code := bodyOf Try.f86
noncomputable def F_spec_l13Hurt (x1 : K.T (.int .i64)) (x2 : K.T (.int .i64)) (x3 : K.T (.int .i64)) (x4 : K.T (.int .i64)) (x5 : K.T (.int .i64)) (x6 : K.T (.int .i64)) (x7 : List (K.T (.int .i64))) (x8 : List (K.T (.int .i64))) (x9 : List (K.T (.int .i64))) : Option sq_spec_l13Hurt.T :=
  (F_spec_l1In x1 (1 : Int) (5 : Int)).bind fun y1 =>
  bif (!y1.1.1) then
    (some (((1 : Int), ()), ((x4, (x5, (x6, ()))), ()), (x7, (x8, (x9, ())))))
  else
  ((F_spec_l1Word x3).bind fun y2 =>
    bif (!y2.1.1) then
      (some (true, ()))
    else
    bif ib x1 ([(0 : Int), ((x7).length : Int), ((x9).length : Int), ((x8).length : Int), (1 : Int), (1 : Int)]).length then
    (F_spec_l1In x2 (0 : Int) (IntKind.wrap .i64 ((([(0 : Int), ((x7).length : Int), ((x9).length : Int), ((x8).length : Int), (1 : Int), (1 : Int)]).getD (Int.toNat x1) (K.zero (.int .i64))) - (1 : Int)))).bind fun y3 =>
    some ((!y3.1.1), ())
    else none).bind fun y4 =>
  bif y4.1 then
    (some (((3 : Int), ()), ((x4, (x5, (x6, ()))), ()), (x7, (x8, (x9, ())))))
  else
  bif (x1 == (1 : Int)) then
    (bif ib x2 (x7).length then
    bif ib x2 (x7).length then
    some (((0 : Int), ()), ((x4, (x5, (x6, ()))), ()), ((x7).set (Int.toNat x2) (IntKind.wrap .i64 (((BitVec.ofInt (IntKind.bits .i64) ((x7).getD (Int.toNat x2) (K.zero (.int .i64))) ^^^ BitVec.ofInt (IntKind.bits .i64) x3).toNat : Int))), (x8, (x9, ()))))
    else none
    else none)
  else
  bif (x1 == (2 : Int)) then
    (bif ib x2 (x9).length then
    bif ib x2 (x9).length then
    some (((0 : Int), ()), ((x4, (x5, (x6, ()))), ()), (x7, (x8, ((x9).set (Int.toNat x2) (IntKind.wrap .i64 (((BitVec.ofInt (IntKind.bits .i64) ((x9).getD (Int.toNat x2) (K.zero (.int .i64))) ^^^ BitVec.ofInt (IntKind.bits .i64) x3).toNat : Int))), ()))))
    else none
    else none)
  else
  bif (x1 == (3 : Int)) then
    (bif ib x2 (x8).length then
    bif ib x2 (x8).length then
    some (((0 : Int), ()), ((x4, (x5, (x6, ()))), ()), (x7, ((x8).set (Int.toNat x2) (IntKind.wrap .i64 (((BitVec.ofInt (IntKind.bits .i64) ((x8).getD (Int.toNat x2) (K.zero (.int .i64))) ^^^ BitVec.ofInt (IntKind.bits .i64) x3).toNat : Int))), (x9, ()))))
    else none
    else none)
  else
  bif (x1 == (4 : Int)) then
    (some (((0 : Int), ()), ((x4, ((IntKind.wrap .i64 (((BitVec.ofInt (IntKind.bits .i64) x5 ^^^ BitVec.ofInt (IntKind.bits .i64) x3).toNat : Int))), (x6, ()))), ()), (x7, (x8, (x9, ())))))
  else
  bif (x1 == (5 : Int)) then
    (some (((0 : Int), ()), ((x4, (x5, ((IntKind.wrap .i64 (((BitVec.ofInt (IntKind.bits .i64) x6 ^^^ BitVec.ofInt (IntKind.bits .i64) x3).toNat : Int))), ()))), ()), (x7, (x8, (x9, ())))))
  else
  some (((0 : Int), ()), ((x4, (x5, (x6, ()))), ()), (x7, (x8, (x9, ()))))
noncomputable abbrev U_spec_l13Hurt : sp_spec_l13Hurt.T → Option sq_spec_l13Hurt.T := fun x => F_spec_l13Hurt x.1.1 x.1.2.1 x.1.2.2.1 x.2.1.1.1 x.2.1.1.2.1 x.2.1.1.2.2.1 x.2.2.1 x.2.2.2.1 x.2.2.2.2.1
theorem e_spec_l13Hurt : ∀ x, evCode ty (gamOf g_spec_l13Hurt) j_spec_l13Hurt (lamOf []) b_spec_l13Hurt (sp_spec_l13Hurt.hd x) (finN ty sq_spec_l13Hurt [.tmp 8]) = U_spec_l13Hurt x := fun x => by kernel_rfl
theorem c_spec_l13Hurt : FnS P 86 sp_spec_l13Hurt sq_spec_l13Hurt U_spec_l13Hurt :=
  fnS_of_ev tyOk mixed gok_spec_l13Hurt (fn := Try.f86) (by kernel_rfl) (c := b_spec_l13Hurt) (by kernel_rfl) (by kernel_rfl) (by kernel_rfl) (lam_ok (tab := []) (by kernel_rfl) (fun p hp => by cases hp)) e_spec_l13Hurt

/-! spec.l13Kind -/
abbrev sp_spec_l13Kind : Sp := ⟨9, [(0, .val false (.int .i64))], [], []⟩
abbrev sq_spec_l13Kind : Sp := ⟨1, [(0, .val false .bool)], [], []⟩
noncomputable def g_spec_l13Kind : List (FuncId × SumX) := []
def j_spec_l13Kind : Nat → Option (List (Nat × SS)) := jOf [(1, [(2, .val false .bool)])]
theorem gok_spec_l13Kind : GOk P (gamOf g_spec_l13Kind) := gam_ok (tab := g_spec_l13Kind) (fun p hp => by cases hp)
noncomputable abbrev b_spec_l13Kind : Code := bodyOf Try.f108
noncomputable def F_spec_l13Kind (x1 : K.T (.int .i64)) : Option sq_spec_l13Kind.T :=
  (bif (x1 == (1 : Int)) then
      (some (true, ()))
    else
    some ((x1 == (2 : Int)), ())).bind fun y1 =>
  some ((y1.1, ()), (), ())
noncomputable abbrev U_spec_l13Kind : sp_spec_l13Kind.T → Option sq_spec_l13Kind.T := fun x => F_spec_l13Kind x.1.1
theorem e_spec_l13Kind : ∀ x, evCode ty (gamOf g_spec_l13Kind) j_spec_l13Kind (lamOf []) b_spec_l13Kind (sp_spec_l13Kind.hd x) (finN ty sq_spec_l13Kind [.tmp 2]) = U_spec_l13Kind x := fun x => by kernel_rfl
theorem c_spec_l13Kind : FnS P 108 sp_spec_l13Kind sq_spec_l13Kind U_spec_l13Kind :=
  fnS_of_ev tyOk mixed gok_spec_l13Kind (fn := Try.f108) (by kernel_rfl) (c := b_spec_l13Kind) (by kernel_rfl) (by kernel_rfl) (by kernel_rfl) (lam_ok (tab := []) (by kernel_rfl) (fun p hp => by cases hp)) e_spec_l13Kind

/-! spec.l6All -/
abbrev sp_spec_l6All : Sp := ⟨16, [(0, .val false (.sl (.int .i64)))], [], []⟩
abbrev sq_spec_l6All : Sp := ⟨1, [(0, .val false .bool)], [], []⟩
noncomputable def g_spec_l6All : List (FuncId × SumX) := [(146, cN sp_spec_l1Word sq_spec_l1Word U_spec_l1Word)]
def j_spec_l6All : Nat → Option (List (Nat × SS)) := jOf []
theorem gok_spec_l6All : GOk P (gamOf g_spec_l6All) := gam_ok (tab := g_spec_l6All) (by
    intro p hp
    simp only [g_spec_l6All, List.mem_cons, List.not_mem_nil, or_false] at hp
    rcases hp with rfl
    · exact cN_ok c_spec_l1Word rfl)
noncomputable abbrev b_spec_l6All : Code := bodyOf Try.f111
abbrev sp_spec_l6All_l2 : Sp := ⟨16, [(0, .val false (.sl (.int .i64))), (3, .val false (.int .i64))], [], []⟩
abbrev xs_spec_l6All_l2 : List (Ex × Sp) := [(.exit 0, ⟨16, [], [], []⟩), (.ret, ⟨16, [(2, .val false .bool)], [], []⟩)]
noncomputable def s_spec_l6All_l2 : sp_spec_l6All_l2.T → Option (sp_spec_l6All_l2.T ⊕ XT xs_spec_l6All_l2) := fun x =>
  bif (decide (x.1.2.1 < ((x.1.1).length : Int))) then
    (bif ib x.1.2.1 (x.1.1).length then
    (F_spec_l1Word ((x.1.1).getD (Int.toNat x.1.2.1) (K.zero (.int .i64)))).bind fun y1 =>
    bif (!y1.1.1) then
      (some (.inr (.inr ((false, ()), (), ()))))
    else
    some (.inl ((x.1.1, ((IntKind.wrap .i64 (x.1.2.1 + (1 : Int))), ())), (), ()))
    else none)
  else
  some (.inr (.inl ((), (), ())))
noncomputable def l_spec_l6All_l2 : sp_spec_l6All_l2.T → Option (XT xs_spec_l6All_l2) := lim s_spec_l6All_l2
theorem es_spec_l6All_l2 : ∀ x, evCode ty (gamOf g_spec_l6All) j_spec_l6All (lamOf []) (loopAt b_spec_l6All 2) (sp_spec_l6All_l2.hd x) (rdK sp_spec_l6All_l2 xs_spec_l6All_l2) = s_spec_l6All_l2 x := fun x => by kernel_rfl
theorem ls_spec_l6All_l2 : LSumOk P (loopAt b_spec_l6All 2) (loopL sp_spec_l6All_l2 xs_spec_l6All_l2 l_spec_l6All_l2) := loop_ok tyOk mixed gok_spec_l6All (by kernel_rfl) (by kernel_rfl) (lam_ok (tab := []) (by kernel_rfl) (fun p hp => by cases hp)) es_spec_l6All_l2 lim_itr
noncomputable def F_spec_l6All (x1 : K.T (.sl (.int .i64))) : Option sq_spec_l6All.T :=
  (l_spec_l6All_l2 ((x1, ((0 : Int), ())), (), ())).bind fun y2 =>
  (match y2 with
  | .inl y3 => some ((true, ()), (), ())
  | .inr z4 => some ((z4.1.1, ()), (), ()))
noncomputable abbrev U_spec_l6All : sp_spec_l6All.T → Option sq_spec_l6All.T := fun x => F_spec_l6All x.1.1
theorem e_spec_l6All : ∀ x, evCode ty (gamOf g_spec_l6All) j_spec_l6All (lamOf [(2, loopL sp_spec_l6All_l2 xs_spec_l6All_l2 l_spec_l6All_l2)]) b_spec_l6All (sp_spec_l6All.hd x) (finN ty sq_spec_l6All [.tmp 2]) = U_spec_l6All x := fun x => by kernel_rfl
theorem c_spec_l6All : FnS P 111 sp_spec_l6All sq_spec_l6All U_spec_l6All :=
  fnS_of_ev tyOk mixed gok_spec_l6All (fn := Try.f111) (by kernel_rfl) (c := b_spec_l6All) (by kernel_rfl) (by kernel_rfl) (by kernel_rfl) (lam_ok (tab := [(2, loopL sp_spec_l6All_l2 xs_spec_l6All_l2 l_spec_l6All_l2)]) (by kernel_rfl) (by
    intro p hp
    simp only [List.mem_cons, List.not_mem_nil, or_false] at hp
    rcases hp with rfl
    · exact @ls_spec_l6All_l2)) e_spec_l6All

/-! spec.WordsFault -/
abbrev sp_spec_WordsFault : Sp := ⟨19, [(0, .val false (.sl (.int .i64)))], [], []⟩
abbrev sq_spec_WordsFault : Sp := ⟨1, [(0, .val false (.int .i64))], [], []⟩
noncomputable def g_spec_WordsFault : List (FuncId × SumX) := [(146, cN sp_spec_l1Word sq_spec_l1Word U_spec_l1Word)]
def j_spec_WordsFault : Nat → Option (List (Nat × SS)) := jOf []
theorem gok_spec_WordsFault : GOk P (gamOf g_spec_WordsFault) := gam_ok (tab := g_spec_WordsFault) (by
    intro p hp
    simp only [g_spec_WordsFault, List.mem_cons, List.not_mem_nil, or_false] at hp
    rcases hp with rfl
    · exact cN_ok c_spec_l1Word rfl)
noncomputable abbrev b_spec_WordsFault : Code := bodyOf Try.f129
abbrev sp_spec_WordsFault_l4 : Sp := ⟨19, [(0, .val false (.sl (.int .i64))), (3, .val false (.int .i64))], [], []⟩
abbrev xs_spec_WordsFault_l4 : List (Ex × Sp) := [(.exit 0, ⟨19, [], [], []⟩), (.ret, ⟨19, [(2, .val false (.int .i64))], [], []⟩)]
noncomputable def s_spec_WordsFault_l4 : sp_spec_WordsFault_l4.T → Option (sp_spec_WordsFault_l4.T ⊕ XT xs_spec_WordsFault_l4) := fun x =>
  bif (decide (x.1.2.1 < ((x.1.1).length : Int))) then
    (bif ib x.1.2.1 (x.1.1).length then
    (F_spec_l1Word ((x.1.1).getD (Int.toNat x.1.2.1) (K.zero (.int .i64)))).bind fun y1 =>
    bif (!y1.1.1) then
      (some (.inr (.inr (((3 : Int), ()), (), ()))))
    else
    some (.inl ((x.1.1, ((IntKind.wrap .i64 (x.1.2.1 + (1 : Int))), ())), (), ()))
    else none)
  else
  some (.inr (.inl ((), (), ())))
noncomputable def l_spec_WordsFault_l4 : sp_spec_WordsFault_l4.T → Option (XT xs_spec_WordsFault_l4) := lim s_spec_WordsFault_l4
theorem es_spec_WordsFault_l4 : ∀ x, evCode ty (gamOf g_spec_WordsFault) j_spec_WordsFault (lamOf []) (loopAt b_spec_WordsFault 4) (sp_spec_WordsFault_l4.hd x) (rdK sp_spec_WordsFault_l4 xs_spec_WordsFault_l4) = s_spec_WordsFault_l4 x := fun x => by kernel_rfl
theorem ls_spec_WordsFault_l4 : LSumOk P (loopAt b_spec_WordsFault 4) (loopL sp_spec_WordsFault_l4 xs_spec_WordsFault_l4 l_spec_WordsFault_l4) := loop_ok tyOk mixed gok_spec_WordsFault (by kernel_rfl) (by kernel_rfl) (lam_ok (tab := []) (by kernel_rfl) (fun p hp => by cases hp)) es_spec_WordsFault_l4 lim_itr
noncomputable def F_spec_WordsFault (x1 : K.T (.sl (.int .i64))) : Option sq_spec_WordsFault.T :=
  bif (decide (((x1).length : Int) > (400 : Int))) then
    (some (((2 : Int), ()), (), ()))
  else
  (l_spec_WordsFault_l4 ((x1, ((0 : Int), ())), (), ())).bind fun y2 =>
  (match y2 with
  | .inl y3 => some (((0 : Int), ()), (), ())
  | .inr z4 => some ((z4.1.1, ()), (), ()))
noncomputable abbrev U_spec_WordsFault : sp_spec_WordsFault.T → Option sq_spec_WordsFault.T := fun x => F_spec_WordsFault x.1.1
theorem e_spec_WordsFault : ∀ x, evCode ty (gamOf g_spec_WordsFault) j_spec_WordsFault (lamOf [(4, loopL sp_spec_WordsFault_l4 xs_spec_WordsFault_l4 l_spec_WordsFault_l4)]) b_spec_WordsFault (sp_spec_WordsFault.hd x) (finN ty sq_spec_WordsFault [.tmp 2]) = U_spec_WordsFault x := fun x => by kernel_rfl
theorem c_spec_WordsFault : FnS P 129 sp_spec_WordsFault sq_spec_WordsFault U_spec_WordsFault :=
  fnS_of_ev tyOk mixed gok_spec_WordsFault (fn := Try.f129) (by kernel_rfl) (c := b_spec_WordsFault) (by kernel_rfl) (by kernel_rfl) (by kernel_rfl) (lam_ok (tab := [(4, loopL sp_spec_WordsFault_l4 xs_spec_WordsFault_l4 l_spec_WordsFault_l4)]) (by kernel_rfl) (by
    intro p hp
    simp only [List.mem_cons, List.not_mem_nil, or_false] at hp
    rcases hp with rfl
    · exact @ls_spec_WordsFault_l4)) e_spec_WordsFault

/-! spec.l13Fault -/
abbrev sp_spec_l13Fault : Sp := ⟨55, [(0, .rp k5)], [], []⟩
abbrev sq_spec_l13Fault : Sp := ⟨1, [(0, .val false (.int .i64))], [], []⟩
noncomputable def g_spec_l13Fault : List (FuncId × SumX) := [(108, cN sp_spec_l13Kind sq_spec_l13Kind U_spec_l13Kind), (111, cN sp_spec_l6All sq_spec_l6All U_spec_l6All), (129, cN sp_spec_WordsFault sq_spec_WordsFault U_spec_WordsFault), (146, cN sp_spec_l1Word sq_spec_l1Word U_spec_l1Word)]
def j_spec_l13Fault : Nat → Option (List (Nat × SS)) := jOf [(9, [(48, .val false .bool)])]
theorem gok_spec_l13Fault : GOk P (gamOf g_spec_l13Fault) := gam_ok (tab := g_spec_l13Fault) (by
    intro p hp
    simp only [g_spec_l13Fault, List.mem_cons, List.not_mem_nil, or_false] at hp
    rcases hp with rfl | rfl | rfl | rfl
    · exact cN_ok c_spec_l13Kind rfl
    · exact cN_ok c_spec_l6All rfl
    · exact cN_ok c_spec_WordsFault rfl
    · exact cN_ok c_spec_l1Word rfl)
noncomputable abbrev b_spec_l13Fault : Code := bodyOf Try.f80
noncomputable def F_spec_l13Fault (x1 : K.T k5) : Option sq_spec_l13Fault.T :=
  (F_spec_l13Kind x1.1).bind fun y1 =>
  bif (!y1.1.1) then
    (some (((1 : Int), ()), (), ()))
  else
  (F_spec_WordsFault x1.2.1).bind fun y2 =>
  bif (y2.1.1 != (0 : Int)) then
    (some ((y2.1.1, ()), (), ()))
  else
  (F_spec_WordsFault x1.2.2.1).bind fun y3 =>
  bif (y3.1.1 != (0 : Int)) then
    (some ((y3.1.1, ()), (), ()))
  else
  ((F_spec_l6All x1.2.2.2.1).bind fun y4 =>
    bif (!y4.1.1) then
      (some (true, ()))
    else
    (F_spec_l1Word x1.2.2.2.2.1).bind fun y5 =>
    bif (!y5.1.1) then
      (some (true, ()))
    else
    (F_spec_l1Word x1.2.2.2.2.2).bind fun y6 =>
    some ((!y6.1.1), ())).bind fun y7 =>
  bif y7.1 then
    (some (((3 : Int), ()), (), ()))
  else
  bif (decide (((x1.2.2.2.1).length : Int) > (80 : Int))) then
    (some (((2 : Int), ()), (), ()))
  else
  some (((0 : Int), ()), (), ())
noncomputable abbrev U_spec_l13Fault : sp_spec_l13Fault.T → Option sq_spec_l13Fault.T := fun x => F_spec_l13Fault x.1.1
theorem e_spec_l13Fault : ∀ x, evCode ty (gamOf g_spec_l13Fault) j_spec_l13Fault (lamOf []) b_spec_l13Fault (sp_spec_l13Fault.hd x) (finN ty sq_spec_l13Fault [.tmp 2]) = U_spec_l13Fault x := fun x => by kernel_rfl
theorem c_spec_l13Fault : FnS P 80 sp_spec_l13Fault sq_spec_l13Fault U_spec_l13Fault :=
  fnS_of_ev tyOk mixed gok_spec_l13Fault (fn := Try.f80) (by kernel_rfl) (c := b_spec_l13Fault) (by kernel_rfl) (by kernel_rfl) (by kernel_rfl) (lam_ok (tab := []) (by kernel_rfl) (fun p hp => by cases hp)) e_spec_l13Fault

/-! spec.l12Same -/
abbrev sp_spec_l12Same : Sp := ⟨26, [(0, .val false (.sl (.int .i64))), (1, .val false (.sl (.int .i64)))], [], []⟩
abbrev sq_spec_l12Same : Sp := ⟨1, [(0, .val false .bool)], [], []⟩
noncomputable def g_spec_l12Same : List (FuncId × SumX) := []
def j_spec_l12Same : Nat → Option (List (Nat × SS)) := jOf []
theorem gok_spec_l12Same : GOk P (gamOf g_spec_l12Same) := gam_ok (tab := g_spec_l12Same) (fun p hp => by cases hp)
noncomputable abbrev b_spec_l12Same : Code := bodyOf Try.f114
abbrev sp_spec_l12Same_l4 : Sp := ⟨26, [(0, .val false (.sl (.int .i64))), (1, .val false (.sl (.int .i64))), (5, .val false (.int .i64))], [], []⟩
abbrev xs_spec_l12Same_l4 : List (Ex × Sp) := [(.exit 0, ⟨26, [], [], []⟩), (.ret, ⟨26, [(4, .val false .bool)], [], []⟩)]
noncomputable def s_spec_l12Same_l4 : sp_spec_l12Same_l4.T → Option (sp_spec_l12Same_l4.T ⊕ XT xs_spec_l12Same_l4) := fun x =>
  bif (decide (x.1.2.2.1 < ((x.1.1).length : Int))) then
    (bif ib x.1.2.2.1 (x.1.1).length then
    bif ib x.1.2.2.1 (x.1.2.1).length then
    bif (((x.1.1).getD (Int.toNat x.1.2.2.1) (K.zero (.int .i64))) != ((x.1.2.1).getD (Int.toNat x.1.2.2.1) (K.zero (.int .i64)))) then
      (some (.inr (.inr ((false, ()), (), ()))))
    else
    some (.inl ((x.1.1, (x.1.2.1, ((IntKind.wrap .i64 (x.1.2.2.1 + (1 : Int))), ()))), (), ()))
    else none
    else none)
  else
  some (.inr (.inl ((), (), ())))
noncomputable def l_spec_l12Same_l4 : sp_spec_l12Same_l4.T → Option (XT xs_spec_l12Same_l4) := lim s_spec_l12Same_l4
theorem es_spec_l12Same_l4 : ∀ x, evCode ty (gamOf g_spec_l12Same) j_spec_l12Same (lamOf []) (loopAt b_spec_l12Same 4) (sp_spec_l12Same_l4.hd x) (rdK sp_spec_l12Same_l4 xs_spec_l12Same_l4) = s_spec_l12Same_l4 x := fun x => by kernel_rfl
theorem ls_spec_l12Same_l4 : LSumOk P (loopAt b_spec_l12Same 4) (loopL sp_spec_l12Same_l4 xs_spec_l12Same_l4 l_spec_l12Same_l4) := loop_ok tyOk mixed gok_spec_l12Same (by kernel_rfl) (by kernel_rfl) (lam_ok (tab := []) (by kernel_rfl) (fun p hp => by cases hp)) es_spec_l12Same_l4 lim_itr
noncomputable def F_spec_l12Same (x1 : K.T (.sl (.int .i64))) (x2 : K.T (.sl (.int .i64))) : Option sq_spec_l12Same.T :=
  bif (((x1).length : Int) != ((x2).length : Int)) then
    (some ((false, ()), (), ()))
  else
  (l_spec_l12Same_l4 ((x1, (x2, ((0 : Int), ()))), (), ())).bind fun y1 =>
  (match y1 with
  | .inl y2 => some ((true, ()), (), ())
  | .inr z3 => some ((z3.1.1, ()), (), ()))
noncomputable abbrev U_spec_l12Same : sp_spec_l12Same.T → Option sq_spec_l12Same.T := fun x => F_spec_l12Same x.1.1 x.1.2.1
theorem e_spec_l12Same : ∀ x, evCode ty (gamOf g_spec_l12Same) j_spec_l12Same (lamOf [(4, loopL sp_spec_l12Same_l4 xs_spec_l12Same_l4 l_spec_l12Same_l4)]) b_spec_l12Same (sp_spec_l12Same.hd x) (finN ty sq_spec_l12Same [.tmp 4]) = U_spec_l12Same x := fun x => by kernel_rfl
theorem c_spec_l12Same : FnS P 114 sp_spec_l12Same sq_spec_l12Same U_spec_l12Same :=
  fnS_of_ev tyOk mixed gok_spec_l12Same (fn := Try.f114) (by kernel_rfl) (c := b_spec_l12Same) (by kernel_rfl) (by kernel_rfl) (by kernel_rfl) (lam_ok (tab := [(4, loopL sp_spec_l12Same_l4 xs_spec_l12Same_l4 l_spec_l12Same_l4)]) (by kernel_rfl) (by
    intro p hp
    simp only [List.mem_cons, List.not_mem_nil, or_false] at hp
    rcases hp with rfl
    · exact @ls_spec_l12Same_l4)) e_spec_l12Same

/-! spec.l12Cell -/
abbrev sp_spec_l12Cell : Sp := ⟨12, [(0, .rp k9), (1, .val false (.int .i64))], [], []⟩
abbrev sq_spec_l12Cell : Sp := ⟨1, [(0, .val false .bool)], [], []⟩
noncomputable def g_spec_l12Cell : List (FuncId × SumX) := [(131, cN sp_spec_l1In sq_spec_l1In U_spec_l1In)]
def j_spec_l12Cell : Nat → Option (List (Nat × SS)) := jOf []
theorem gok_spec_l12Cell : GOk P (gamOf g_spec_l12Cell) := gam_ok (tab := g_spec_l12Cell) (by
    intro p hp
    simp only [g_spec_l12Cell, List.mem_cons, List.not_mem_nil, or_false] at hp
    rcases hp with rfl
    · exact cN_ok c_spec_l1In rfl)
noncomputable abbrev b_spec_l12Cell : Code := bodyOf Try.f148
noncomputable def F_spec_l12Cell (x1 : K.T k9) (x2 : K.T (.int .i64)) : Option sq_spec_l12Cell.T :=
  (F_spec_l1In x2 (0 : Int) (IntKind.wrap .i64 (x1.1 - (1 : Int)))).bind fun y1 =>
  some ((y1.1.1, ()), (), ())
noncomputable abbrev U_spec_l12Cell : sp_spec_l12Cell.T → Option sq_spec_l12Cell.T := fun x => F_spec_l12Cell x.1.1 x.1.2.1
theorem e_spec_l12Cell : ∀ x, evCode ty (gamOf g_spec_l12Cell) j_spec_l12Cell (lamOf []) b_spec_l12Cell (sp_spec_l12Cell.hd x) (finN ty sq_spec_l12Cell [.tmp 4]) = U_spec_l12Cell x := fun x => by kernel_rfl
theorem c_spec_l12Cell : FnS P 148 sp_spec_l12Cell sq_spec_l12Cell U_spec_l12Cell :=
  fnS_of_ev tyOk mixed gok_spec_l12Cell (fn := Try.f148) (by kernel_rfl) (c := b_spec_l12Cell) (by kernel_rfl) (by kernel_rfl) (by kernel_rfl) (lam_ok (tab := []) (by kernel_rfl) (fun p hp => by cases hp)) e_spec_l12Cell

/-! spec.l1Crc -/
abbrev sp_spec_l1Crc : Sp := ⟨24, [(0, .val false (.int .i64)), (1, .val false (.int .i64))], [], []⟩
abbrev sq_spec_l1Crc : Sp := ⟨1, [(0, .val false (.int .i64))], [], []⟩
noncomputable def g_spec_l1Crc : List (FuncId × SumX) := []
def j_spec_l1Crc : Nat → Option (List (Nat × SS)) := jOf []
theorem gok_spec_l1Crc : GOk P (gamOf g_spec_l1Crc) := gam_ok (tab := g_spec_l1Crc) (fun p hp => by cases hp)
noncomputable abbrev b_spec_l1Crc : Code := bodyOf Try.f159
abbrev sp_spec_l1Crc_l3 : Sp := ⟨24, [(0, .val false (.int .i64)), (5, .val false (.int .i64))], [], []⟩
abbrev xs_spec_l1Crc_l3 : List (Ex × Sp) := [(.exit 0, ⟨24, [(0, .val false (.int .i64))], [], []⟩)]
noncomputable def s_spec_l1Crc_l3 : sp_spec_l1Crc_l3.T → Option (sp_spec_l1Crc_l3.T ⊕ XT xs_spec_l1Crc_l3) := fun x =>
  bif (decide (x.1.2.1 < (8 : Int))) then
    (bif (decide (x.1.1 ≥ (32768 : Int))) then
      (some (.inl (((IntKind.wrap .i64 (((BitVec.ofInt (IntKind.bits .i64) (Int.tmod (IntKind.wrap .i64 (x.1.1 * (2 : Int))) (65536 : Int)) ^^^ BitVec.ofInt (IntKind.bits .i64) (4129 : Int)).toNat : Int))), ((IntKind.wrap .i64 (x.1.2.1 + (1 : Int))), ())), (), ())))
    else
    some (.inl (((Int.tmod (IntKind.wrap .i64 (x.1.1 * (2 : Int))) (65536 : Int)), ((IntKind.wrap .i64 (x.1.2.1 + (1 : Int))), ())), (), ())))
  else
  some (.inr ((x.1.1, ()), (), ()))
noncomputable def l_spec_l1Crc_l3 : sp_spec_l1Crc_l3.T → Option (XT xs_spec_l1Crc_l3) := lim s_spec_l1Crc_l3
theorem es_spec_l1Crc_l3 : ∀ x, evCode ty (gamOf g_spec_l1Crc) j_spec_l1Crc (lamOf []) (loopAt b_spec_l1Crc 3) (sp_spec_l1Crc_l3.hd x) (rdK sp_spec_l1Crc_l3 xs_spec_l1Crc_l3) = s_spec_l1Crc_l3 x := fun x => by kernel_rfl
theorem ls_spec_l1Crc_l3 : LSumOk P (loopAt b_spec_l1Crc 3) (loopL sp_spec_l1Crc_l3 xs_spec_l1Crc_l3 l_spec_l1Crc_l3) := loop_ok tyOk mixed gok_spec_l1Crc (by kernel_rfl) (by kernel_rfl) (lam_ok (tab := []) (by kernel_rfl) (fun p hp => by cases hp)) es_spec_l1Crc_l3 lim_itr
noncomputable def F_spec_l1Crc (x1 : K.T (.int .i64)) (x2 : K.T (.int .i64)) : Option sq_spec_l1Crc.T :=
  (l_spec_l1Crc_l3 (((IntKind.wrap .i64 (((BitVec.ofInt (IntKind.bits .i64) x1 ^^^ BitVec.ofInt (IntKind.bits .i64) (IntKind.wrap .i64 (x2 * 2 ^ min (Int.toNat (8 : Int)) (IntKind.bits .i64)))).toNat : Int))), ((0 : Int), ())), (), ())).bind fun y1 =>
  some ((y1.1.1, ()), (), ())
noncomputable abbrev U_spec_l1Crc : sp_spec_l1Crc.T → Option sq_spec_l1Crc.T := fun x => F_spec_l1Crc x.1.1 x.1.2.1
theorem e_spec_l1Crc : ∀ x, evCode ty (gamOf g_spec_l1Crc) j_spec_l1Crc (lamOf [(3, loopL sp_spec_l1Crc_l3 xs_spec_l1Crc_l3 l_spec_l1Crc_l3)]) b_spec_l1Crc (sp_spec_l1Crc.hd x) (finN ty sq_spec_l1Crc [.tmp 4]) = U_spec_l1Crc x := fun x => by kernel_rfl
theorem c_spec_l1Crc : FnS P 159 sp_spec_l1Crc sq_spec_l1Crc U_spec_l1Crc :=
  fnS_of_ev tyOk mixed gok_spec_l1Crc (fn := Try.f159) (by kernel_rfl) (c := b_spec_l1Crc) (by kernel_rfl) (by kernel_rfl) (by kernel_rfl) (lam_ok (tab := [(3, loopL sp_spec_l1Crc_l3 xs_spec_l1Crc_l3 l_spec_l1Crc_l3)]) (by kernel_rfl) (by
    intro p hp
    simp only [List.mem_cons, List.not_mem_nil, or_false] at hp
    rcases hp with rfl
    · exact @ls_spec_l1Crc_l3)) e_spec_l1Crc

/-! spec.l1Sum -/
abbrev sp_spec_l1Sum : Sp := ⟨26, [(0, .val false (.sl (.int .i64)))], [], []⟩
abbrev sq_spec_l1Sum : Sp := ⟨1, [(0, .val false (.int .i64))], [], []⟩
noncomputable def g_spec_l1Sum : List (FuncId × SumX) := [(159, cN sp_spec_l1Crc sq_spec_l1Crc U_spec_l1Crc)]
def j_spec_l1Sum : Nat → Option (List (Nat × SS)) := jOf []
theorem gok_spec_l1Sum : GOk P (gamOf g_spec_l1Sum) := gam_ok (tab := g_spec_l1Sum) (by
    intro p hp
    simp only [g_spec_l1Sum, List.mem_cons, List.not_mem_nil, or_false] at hp
    rcases hp with rfl
    · exact cN_ok c_spec_l1Crc rfl)
noncomputable abbrev b_spec_l1Sum : Code := bodyOf Try.f112
abbrev sp_spec_l1Sum_l3 : Sp := ⟨26, [(0, .val false (.sl (.int .i64))), (3, .val false (.int .i64)), (4, .val false (.int .i64))], [], []⟩
abbrev xs_spec_l1Sum_l3 : List (Ex × Sp) := [(.exit 0, ⟨26, [(3, .val false (.int .i64))], [], []⟩)]
noncomputable def s_spec_l1Sum_l3 : sp_spec_l1Sum_l3.T → Option (sp_spec_l1Sum_l3.T ⊕ XT xs_spec_l1Sum_l3) := fun x =>
  bif (decide (x.1.2.2.1 < ((x.1.1).length : Int))) then
    (bif ib x.1.2.2.1 (x.1.1).length then
    (F_spec_l1Crc x.1.2.1 (IntKind.wrap .i64 (Int.tdiv ((x.1.1).getD (Int.toNat x.1.2.2.1) (K.zero (.int .i64))) (256 : Int)))).bind fun y1 =>
    bif ib x.1.2.2.1 (x.1.1).length then
    (F_spec_l1Crc y1.1.1 (Int.tmod ((x.1.1).getD (Int.toNat x.1.2.2.1) (K.zero (.int .i64))) (256 : Int))).bind fun y2 =>
    some (.inl ((x.1.1, (y2.1.1, ((IntKind.wrap .i64 (x.1.2.2.1 + (1 : Int))), ()))), (), ()))
    else none
    else none)
  else
  some (.inr ((x.1.2.1, ()), (), ()))
noncomputable def l_spec_l1Sum_l3 : sp_spec_l1Sum_l3.T → Option (XT xs_spec_l1Sum_l3) := lim s_spec_l1Sum_l3
theorem es_spec_l1Sum_l3 : ∀ x, evCode ty (gamOf g_spec_l1Sum) j_spec_l1Sum (lamOf []) (loopAt b_spec_l1Sum 3) (sp_spec_l1Sum_l3.hd x) (rdK sp_spec_l1Sum_l3 xs_spec_l1Sum_l3) = s_spec_l1Sum_l3 x := fun x => by kernel_rfl
theorem ls_spec_l1Sum_l3 : LSumOk P (loopAt b_spec_l1Sum 3) (loopL sp_spec_l1Sum_l3 xs_spec_l1Sum_l3 l_spec_l1Sum_l3) := loop_ok tyOk mixed gok_spec_l1Sum (by kernel_rfl) (by kernel_rfl) (lam_ok (tab := []) (by kernel_rfl) (fun p hp => by cases hp)) es_spec_l1Sum_l3 lim_itr
noncomputable def F_spec_l1Sum (x1 : K.T (.sl (.int .i64))) : Option sq_spec_l1Sum.T :=
  (l_spec_l1Sum_l3 ((x1, ((65535 : Int), ((0 : Int), ()))), (), ())).bind fun y3 =>
  some ((y3.1.1, ()), (), ())
noncomputable abbrev U_spec_l1Sum : sp_spec_l1Sum.T → Option sq_spec_l1Sum.T := fun x => F_spec_l1Sum x.1.1
theorem e_spec_l1Sum : ∀ x, evCode ty (gamOf g_spec_l1Sum) j_spec_l1Sum (lamOf [(3, loopL sp_spec_l1Sum_l3 xs_spec_l1Sum_l3 l_spec_l1Sum_l3)]) b_spec_l1Sum (sp_spec_l1Sum.hd x) (finN ty sq_spec_l1Sum [.tmp 2]) = U_spec_l1Sum x := fun x => by kernel_rfl
theorem c_spec_l1Sum : FnS P 112 sp_spec_l1Sum sq_spec_l1Sum U_spec_l1Sum :=
  fnS_of_ev tyOk mixed gok_spec_l1Sum (fn := Try.f112) (by kernel_rfl) (c := b_spec_l1Sum) (by kernel_rfl) (by kernel_rfl) (by kernel_rfl) (lam_ok (tab := [(3, loopL sp_spec_l1Sum_l3 xs_spec_l1Sum_l3 l_spec_l1Sum_l3)]) (by kernel_rfl) (by
    intro p hp
    simp only [List.mem_cons, List.not_mem_nil, or_false] at hp
    rcases hp with rfl
    · exact @ls_spec_l1Sum_l3)) e_spec_l1Sum

/-! spec.l1Min -/
abbrev sp_spec_l1Min : Sp := ⟨10, [(0, .val false (.int .i64)), (1, .val false (.int .i64))], [], []⟩
abbrev sq_spec_l1Min : Sp := ⟨1, [(0, .val false (.int .i64))], [], []⟩
noncomputable def g_spec_l1Min : List (FuncId × SumX) := []
def j_spec_l1Min : Nat → Option (List (Nat × SS)) := jOf []
theorem gok_spec_l1Min : GOk P (gamOf g_spec_l1Min) := gam_ok (tab := g_spec_l1Min) (fun p hp => by cases hp)
noncomputable abbrev b_spec_l1Min : Code := bodyOf Try.f154
noncomputable def F_spec_l1Min (x1 : K.T (.int .i64)) (x2 : K.T (.int .i64)) : Option sq_spec_l1Min.T :=
  bif (decide (x1 < x2)) then
    (some ((x1, ()), (), ()))
  else
  some ((x2, ()), (), ())
noncomputable abbrev U_spec_l1Min : sp_spec_l1Min.T → Option sq_spec_l1Min.T := fun x => F_spec_l1Min x.1.1 x.1.2.1
theorem e_spec_l1Min : ∀ x, evCode ty (gamOf g_spec_l1Min) j_spec_l1Min (lamOf []) b_spec_l1Min (sp_spec_l1Min.hd x) (finN ty sq_spec_l1Min [.tmp 4]) = U_spec_l1Min x := fun x => by kernel_rfl
theorem c_spec_l1Min : FnS P 154 sp_spec_l1Min sq_spec_l1Min U_spec_l1Min :=
  fnS_of_ev tyOk mixed gok_spec_l1Min (fn := Try.f154) (by kernel_rfl) (c := b_spec_l1Min) (by kernel_rfl) (by kernel_rfl) (by kernel_rfl) (lam_ok (tab := []) (by kernel_rfl) (fun p hp => by cases hp)) e_spec_l1Min

/-! spec.l1Blocks -/
abbrev sp_spec_l1Blocks : Sp := ⟨27, [(0, .val false (.sl (.int .i64)))], [], []⟩
abbrev sq_spec_l1Blocks : Sp := ⟨1, [(0, .fix (.own 59000))], [], [(59000, (.int .i64), true)]⟩
noncomputable def g_spec_l1Blocks : List (FuncId × SumX) := [(112, cN sp_spec_l1Sum sq_spec_l1Sum U_spec_l1Sum), (154, cN sp_spec_l1Min sq_spec_l1Min U_spec_l1Min)]
def j_spec_l1Blocks : Nat → Option (List (Nat × SS)) := jOf []
theorem gok_spec_l1Blocks : GOk P (gamOf g_spec_l1Blocks) := gam_ok (tab := g_spec_l1Blocks) (by
    intro p hp
    simp only [g_spec_l1Blocks, List.mem_cons, List.not_mem_nil, or_false] at hp
    rcases hp with rfl | rfl
    · exact cN_ok c_spec_l1Sum rfl
    · exact cN_ok c_spec_l1Min rfl)
noncomputable abbrev b_spec_l1Blocks : Code := bodyOf Try.f149
abbrev sp_spec_l1Blocks_l3 : Sp := ⟨27, [(0, .val false (.sl (.int .i64))), (3, .fix (.own 59000)), (4, .val false (.int .i64))], [], [(59000, (.int .i64), true)]⟩
abbrev xs_spec_l1Blocks_l3 : List (Ex × Sp) := [(.exit 0, ⟨27, [(3, .fix (.own 59000))], [], [(59000, (.int .i64), true)]⟩)]
noncomputable def s_spec_l1Blocks_l3 : sp_spec_l1Blocks_l3.T → Option (sp_spec_l1Blocks_l3.T ⊕ XT xs_spec_l1Blocks_l3) := fun x =>
  bif (decide (x.1.2.1 < ((x.1.1).length : Int))) then
    ((F_spec_l1Min ((x.1.1).length : Int) (IntKind.wrap .i64 (x.1.2.1 + (8 : Int)))).bind fun y1 =>
    bif decide (0 ≤ x.1.2.1 ∧ x.1.2.1 ≤ y1.1.1 ∧ y1.1.1 ≤ ((x.1.1).length : Int)) then
    (F_spec_l1Sum (((x.1.1).take (Int.toNat y1.1.1)).drop (Int.toNat x.1.2.1))).bind fun y2 =>
    bif room (x.2.2.1 ++ [y2.1.1]).length 8 then
    some (.inl ((x.1.1, ((IntKind.wrap .i64 (x.1.2.1 + (8 : Int))), ())), (), ((x.2.2.1 ++ [y2.1.1]), ())))
    else none
    else none)
  else
  some (.inr ((), (), (x.2.2.1, ())))
noncomputable def l_spec_l1Blocks_l3 : sp_spec_l1Blocks_l3.T → Option (XT xs_spec_l1Blocks_l3) := lim s_spec_l1Blocks_l3
theorem es_spec_l1Blocks_l3 : ∀ x, evCode ty (gamOf g_spec_l1Blocks) j_spec_l1Blocks (lamOf []) (loopAt b_spec_l1Blocks 3) (sp_spec_l1Blocks_l3.hd x) (rdK sp_spec_l1Blocks_l3 xs_spec_l1Blocks_l3) = s_spec_l1Blocks_l3 x := fun x => by kernel_rfl
theorem ls_spec_l1Blocks_l3 : LSumOk P (loopAt b_spec_l1Blocks 3) (loopL sp_spec_l1Blocks_l3 xs_spec_l1Blocks_l3 l_spec_l1Blocks_l3) := loop_ok tyOk mixed gok_spec_l1Blocks (by kernel_rfl) (by kernel_rfl) (lam_ok (tab := []) (by kernel_rfl) (fun p hp => by cases hp)) es_spec_l1Blocks_l3 lim_itr
noncomputable def F_spec_l1Blocks (x1 : K.T (.sl (.int .i64))) : Option sq_spec_l1Blocks.T :=
  (l_spec_l1Blocks_l3 ((x1, ((0 : Int), ())), (), ([], ()))).bind fun y3 =>
  some ((), (), (y3.2.2.1, ()))
noncomputable abbrev U_spec_l1Blocks : sp_spec_l1Blocks.T → Option sq_spec_l1Blocks.T := fun x => F_spec_l1Blocks x.1.1
theorem e_spec_l1Blocks : ∀ x, evCode ty (gamOf g_spec_l1Blocks) j_spec_l1Blocks (lamOf [(3, loopL sp_spec_l1Blocks_l3 xs_spec_l1Blocks_l3 l_spec_l1Blocks_l3)]) b_spec_l1Blocks (sp_spec_l1Blocks.hd x) (finN ty sq_spec_l1Blocks [.tmp 2]) = U_spec_l1Blocks x := fun x => by kernel_rfl
theorem c_spec_l1Blocks : FnS P 149 sp_spec_l1Blocks sq_spec_l1Blocks U_spec_l1Blocks :=
  fnS_of_ev tyOk mixed gok_spec_l1Blocks (fn := Try.f149) (by kernel_rfl) (c := b_spec_l1Blocks) (by kernel_rfl) (by kernel_rfl) (by kernel_rfl) (lam_ok (tab := [(3, loopL sp_spec_l1Blocks_l3 xs_spec_l1Blocks_l3 l_spec_l1Blocks_l3)]) (by kernel_rfl) (by
    intro p hp
    simp only [List.mem_cons, List.not_mem_nil, or_false] at hp
    rcases hp with rfl
    · exact @ls_spec_l1Blocks_l3)) e_spec_l1Blocks

/-! spec.l12Fault -/
abbrev sp_spec_l12Fault : Sp := ⟨122, [(0, .rp k9)], [], []⟩
abbrev sq_spec_l12Fault : Sp := ⟨1, [(0, .val false (.int .i64))], [], []⟩
noncomputable def g_spec_l12Fault : List (FuncId × SumX) := [(114, cN sp_spec_l12Same sq_spec_l12Same U_spec_l12Same), (129, cN sp_spec_WordsFault sq_spec_WordsFault U_spec_WordsFault), (131, cN sp_spec_l1In sq_spec_l1In U_spec_l1In), (148, cN sp_spec_l12Cell sq_spec_l12Cell U_spec_l12Cell), (149, fN sp_spec_l1Blocks sq_spec_l1Blocks U_spec_l1Blocks)]
def j_spec_l12Fault : Nat → Option (List (Nat × SS)) := jOf [(1, [(28, .val false .bool)]), (3, [(42, .val false .bool)])]
theorem gok_spec_l12Fault : GOk P (gamOf g_spec_l12Fault) := gam_ok (tab := g_spec_l12Fault) (by
    intro p hp
    simp only [g_spec_l12Fault, List.mem_cons, List.not_mem_nil, or_false] at hp
    rcases hp with rfl | rfl | rfl | rfl | rfl
    · exact cN_ok c_spec_l12Same rfl
    · exact cN_ok c_spec_WordsFault rfl
    · exact cN_ok c_spec_l1In rfl
    · exact cN_ok c_spec_l12Cell rfl
    · exact fN_ok c_spec_l1Blocks rfl)
noncomputable abbrev b_spec_l12Fault : Code := bodyOf Try.f92
abbrev sp_spec_l12Fault_l6 : Sp := ⟨122, [(0, .rp k9), (3, .val false (.int .i64))], [], []⟩
abbrev xs_spec_l12Fault_l6 : List (Ex × Sp) := [(.exit 0, ⟨122, [(0, .rp k9)], [], []⟩), (.ret, ⟨122, [(2, .val false (.int .i64))], [], []⟩)]
noncomputable def s_spec_l12Fault_l6 : sp_spec_l12Fault_l6.T → Option (sp_spec_l12Fault_l6.T ⊕ XT xs_spec_l12Fault_l6) := fun x =>
  bif (decide (x.1.2.1 < ((x.1.1.2.1).length : Int))) then
    (bif ib x.1.2.1 (x.1.1.2.1).length then
    (F_spec_l12Cell x.1.1 (((x.1.1.2.1).getD (Int.toNat x.1.2.1) (K.zero k0)).1)).bind fun y6 =>
    bif (!y6.1.1) then
      (some (.inr (.inr (((3 : Int), ()), (), ()))))
    else
    some (.inl ((x.1.1, ((IntKind.wrap .i64 (x.1.2.1 + (1 : Int))), ())), (), ()))
    else none)
  else
  some (.inr (.inl ((x.1.1, ()), (), ())))
noncomputable def l_spec_l12Fault_l6 : sp_spec_l12Fault_l6.T → Option (XT xs_spec_l12Fault_l6) := lim s_spec_l12Fault_l6
theorem es_spec_l12Fault_l6 : ∀ x, evCode ty (gamOf g_spec_l12Fault) j_spec_l12Fault (lamOf []) (loopAt b_spec_l12Fault 6) (sp_spec_l12Fault_l6.hd x) (rdK sp_spec_l12Fault_l6 xs_spec_l12Fault_l6) = s_spec_l12Fault_l6 x := fun x => by kernel_rfl
theorem ls_spec_l12Fault_l6 : LSumOk P (loopAt b_spec_l12Fault 6) (loopL sp_spec_l12Fault_l6 xs_spec_l12Fault_l6 l_spec_l12Fault_l6) := loop_ok tyOk mixed gok_spec_l12Fault (by kernel_rfl) (by kernel_rfl) (lam_ok (tab := []) (by kernel_rfl) (fun p hp => by cases hp)) es_spec_l12Fault_l6 lim_itr
abbrev sp_spec_l12Fault_l11 : Sp := ⟨122, [(0, .rp k9), (4, .val false (.int .i64))], [], []⟩
abbrev xs_spec_l12Fault_l11 : List (Ex × Sp) := [(.exit 2, ⟨122, [(0, .rp k9)], [], []⟩), (.ret, ⟨122, [(2, .val false (.int .i64))], [], []⟩)]
noncomputable def s_spec_l12Fault_l11 : sp_spec_l12Fault_l11.T → Option (sp_spec_l12Fault_l11.T ⊕ XT xs_spec_l12Fault_l11) := fun x =>
  bif (decide (x.1.2.1 < ((x.1.1.2.2.1).length : Int))) then
    (bif ib x.1.2.1 (x.1.1.2.2.1).length then
    (F_spec_l12Cell x.1.1 ((x.1.1.2.2.1).getD (Int.toNat x.1.2.1) (K.zero (.int .i64)))).bind fun y10 =>
    bif (!y10.1.1) then
      (some (.inr (.inr (((3 : Int), ()), (), ()))))
    else
    some (.inl ((x.1.1, ((IntKind.wrap .i64 (x.1.2.1 + (1 : Int))), ())), (), ()))
    else none)
  else
  some (.inr (.inl ((x.1.1, ()), (), ())))
noncomputable def l_spec_l12Fault_l11 : sp_spec_l12Fault_l11.T → Option (XT xs_spec_l12Fault_l11) := lim s_spec_l12Fault_l11
theorem es_spec_l12Fault_l11 : ∀ x, evCode ty (gamOf g_spec_l12Fault) j_spec_l12Fault (lamOf []) (loopAt b_spec_l12Fault 11) (sp_spec_l12Fault_l11.hd x) (rdK sp_spec_l12Fault_l11 xs_spec_l12Fault_l11) = s_spec_l12Fault_l11 x := fun x => by kernel_rfl
theorem ls_spec_l12Fault_l11 : LSumOk P (loopAt b_spec_l12Fault 11) (loopL sp_spec_l12Fault_l11 xs_spec_l12Fault_l11 l_spec_l12Fault_l11) := loop_ok tyOk mixed gok_spec_l12Fault (by kernel_rfl) (by kernel_rfl) (lam_ok (tab := []) (by kernel_rfl) (fun p hp => by cases hp)) es_spec_l12Fault_l11 lim_itr
noncomputable def F_spec_l12Fault (x1 : K.T k9) : Option sq_spec_l12Fault.T :=
  ((F_spec_l1In x1.1 (0 : Int) (80 : Int)).bind fun y1 =>
    bif (!y1.1.1) then
      (some (true, ()))
    else
    (F_spec_l1In x1.2.2.2.2.2.2.2.1 (0 : Int) (20000 : Int)).bind fun y2 =>
    bif (!y2.1.1) then
      (some (true, ()))
    else
    (F_spec_l1In x1.2.2.2.2.2.2.2.2 (0 : Int) (20000 : Int)).bind fun y3 =>
    some ((!y3.1.1), ())).bind fun y4 =>
  bif y4.1 then
    (some (((3 : Int), ()), (), ()))
  else
  (bif (decide (((x1.2.1).length : Int) > (24 : Int))) then
      (some (true, ()))
    else
    some ((decide (((x1.2.2.1).length : Int) > (60 : Int))), ())).bind fun y5 =>
  bif y5.1 then
    (some (((2 : Int), ()), (), ()))
  else
  (l_spec_l12Fault_l6 ((x1, ((0 : Int), ())), (), ())).bind fun y7 =>
  (match y7 with
  | .inl y8 => (l_spec_l12Fault_l11 ((y8.1.1, ((0 : Int), ())), (), ())).bind fun y11 =>
    (match y11 with
    | .inl y12 => (F_spec_WordsFault y12.1.1.2.2.2.1).bind fun y14 =>
      bif (y14.1.1 != (0 : Int)) then
        (some ((y14.1.1, ()), (), ()))
      else
      (F_spec_WordsFault y12.1.1.2.2.2.2.1).bind fun y15 =>
      bif (y15.1.1 != (0 : Int)) then
        (some ((y15.1.1, ()), (), ()))
      else
      (F_spec_l1Blocks y12.1.1.2.2.2.1).bind fun y16 =>
      (F_spec_l12Same y12.1.1.2.2.2.2.2.1 y16.2.2.1).bind fun y17 =>
      bif (!y17.1.1) then
        (some (((6 : Int), ()), (), ()))
      else
      (F_spec_l1Blocks y12.1.1.2.2.2.2.1).bind fun y18 =>
      (F_spec_l12Same y12.1.1.2.2.2.2.2.2.1 y18.2.2.1).bind fun y19 =>
      bif (!y19.1.1) then
        (some (((6 : Int), ()), (), ()))
      else
      some (((0 : Int), ()), (), ())
    | .inr z13 => some ((z13.1.1, ()), (), ()))
  | .inr z9 => some ((z9.1.1, ()), (), ()))
noncomputable abbrev U_spec_l12Fault : sp_spec_l12Fault.T → Option sq_spec_l12Fault.T := fun x => F_spec_l12Fault x.1.1
theorem e_spec_l12Fault : ∀ x, evCode ty (gamOf g_spec_l12Fault) j_spec_l12Fault (lamOf [(6, loopL sp_spec_l12Fault_l6 xs_spec_l12Fault_l6 l_spec_l12Fault_l6), (11, loopL sp_spec_l12Fault_l11 xs_spec_l12Fault_l11 l_spec_l12Fault_l11)]) b_spec_l12Fault (sp_spec_l12Fault.hd x) (finN ty sq_spec_l12Fault [.tmp 2]) = U_spec_l12Fault x := fun x => by kernel_rfl
theorem c_spec_l12Fault : FnS P 92 sp_spec_l12Fault sq_spec_l12Fault U_spec_l12Fault :=
  fnS_of_ev tyOk mixed gok_spec_l12Fault (fn := Try.f92) (by kernel_rfl) (c := b_spec_l12Fault) (by kernel_rfl) (by kernel_rfl) (by kernel_rfl) (lam_ok (tab := [(6, loopL sp_spec_l12Fault_l6 xs_spec_l12Fault_l6 l_spec_l12Fault_l6), (11, loopL sp_spec_l12Fault_l11 xs_spec_l12Fault_l11 l_spec_l12Fault_l11)]) (by kernel_rfl) (by
    intro p hp
    simp only [List.mem_cons, List.not_mem_nil, or_false] at hp
    rcases hp with rfl | rfl
    · exact @ls_spec_l12Fault_l6
    · exact @ls_spec_l12Fault_l11)) e_spec_l12Fault

/-! spec.l14Outs -/
abbrev sp_spec_l14Outs : Sp := ⟨69, [(0, .rp k16)], [], []⟩
abbrev sq_spec_l14Outs : Sp := ⟨1, [(0, .val false (.int .i64))], [], []⟩
noncomputable def g_spec_l14Outs : List (FuncId × SumX) := [(111, cN sp_spec_l6All sq_spec_l6All U_spec_l6All)]
def j_spec_l14Outs : Nat → Option (List (Nat × SS)) := jOf [(6, [(38, .val false .bool)]), (8, [(62, .val false .bool)])]
theorem gok_spec_l14Outs : GOk P (gamOf g_spec_l14Outs) := gam_ok (tab := g_spec_l14Outs) (by
    intro p hp
    simp only [g_spec_l14Outs, List.mem_cons, List.not_mem_nil, or_false] at hp
    rcases hp with rfl
    · exact cN_ok c_spec_l6All rfl)
noncomputable abbrev b_spec_l14Outs : Code := bodyOf Try.f162
abbrev sp_spec_l14Outs_l4 : Sp := ⟨69, [(0, .rp k16), (3, .val false (.int .i64))], [], []⟩
abbrev xs_spec_l14Outs_l4 : List (Ex × Sp) := [(.exit 0, ⟨69, [(0, .rp k16)], [], []⟩), (.ret, ⟨69, [(2, .val false (.int .i64))], [], []⟩)]
noncomputable def s_spec_l14Outs_l4 : sp_spec_l14Outs_l4.T → Option (sp_spec_l14Outs_l4.T ⊕ XT xs_spec_l14Outs_l4) := fun x =>
  bif (decide (x.1.2.1 < ((x.1.1.2.2.2.2.2.2.1).length : Int))) then
    ((bif x.1.1.2.2.2.1 then
        (bif ib x.1.2.1 (x.1.1.2.2.2.2.2.2.1).length then
        some ((((x.1.1.2.2.2.2.2.2.1).getD (Int.toNat x.1.2.1) (K.zero (.int .i64))) != (0 : Int)), ())
        else none)
      else
      some (false, ())).bind fun y1 =>
    bif y1.1 then
      (some (.inr (.inr (((1 : Int), ()), (), ()))))
    else
    some (.inl ((x.1.1, ((IntKind.wrap .i64 (x.1.2.1 + (1 : Int))), ())), (), ())))
  else
  some (.inr (.inl ((x.1.1, ()), (), ())))
noncomputable def l_spec_l14Outs_l4 : sp_spec_l14Outs_l4.T → Option (XT xs_spec_l14Outs_l4) := lim s_spec_l14Outs_l4
theorem es_spec_l14Outs_l4 : ∀ x, evCode ty (gamOf g_spec_l14Outs) j_spec_l14Outs (lamOf []) (loopAt b_spec_l14Outs 4) (sp_spec_l14Outs_l4.hd x) (rdK sp_spec_l14Outs_l4 xs_spec_l14Outs_l4) = s_spec_l14Outs_l4 x := fun x => by kernel_rfl
theorem ls_spec_l14Outs_l4 : LSumOk P (loopAt b_spec_l14Outs 4) (loopL sp_spec_l14Outs_l4 xs_spec_l14Outs_l4 l_spec_l14Outs_l4) := loop_ok tyOk mixed gok_spec_l14Outs (by kernel_rfl) (by kernel_rfl) (lam_ok (tab := []) (by kernel_rfl) (fun p hp => by cases hp)) es_spec_l14Outs_l4 lim_itr
noncomputable def F_spec_l14Outs (x1 : K.T k16) : Option sq_spec_l14Outs.T :=
  bif (((x1.2.2.2.2.2.2.1).length : Int) != ((x1.1.2.2.1).length : Int)) then
    (some (((1 : Int), ()), (), ()))
  else
  (l_spec_l14Outs_l4 ((x1, ((0 : Int), ())), (), ())).bind fun y2 =>
  (match y2 with
  | .inl y3 => (bif (y3.1.1.2.2.2.1 == (y3.1.1.2.2.2.2.1 == (0 : Int))) then
        (some (true, ()))
      else
      bif (y3.1.1.2.2.2.2.1 != (3 : Int)) then
        (some ((y3.1.1.2.2.2.2.2.1 != (0 : Int)), ()))
      else
      some (false, ())).bind fun y5 =>
    bif y5.1 then
      (some (((1 : Int), ()), (), ()))
    else
    (F_spec_l6All y3.1.1.2.2.2.2.2.2.1).bind fun y6 =>
    bif (!y6.1.1) then
      (some (((3 : Int), ()), (), ()))
    else
    some (((0 : Int), ()), (), ())
  | .inr z4 => some ((z4.1.1, ()), (), ()))
noncomputable abbrev U_spec_l14Outs : sp_spec_l14Outs.T → Option sq_spec_l14Outs.T := fun x => F_spec_l14Outs x.1.1
theorem e_spec_l14Outs : ∀ x, evCode ty (gamOf g_spec_l14Outs) j_spec_l14Outs (lamOf [(4, loopL sp_spec_l14Outs_l4 xs_spec_l14Outs_l4 l_spec_l14Outs_l4)]) b_spec_l14Outs (sp_spec_l14Outs.hd x) (finN ty sq_spec_l14Outs [.tmp 2]) = U_spec_l14Outs x := fun x => by kernel_rfl
theorem c_spec_l14Outs : FnS P 162 sp_spec_l14Outs sq_spec_l14Outs U_spec_l14Outs :=
  fnS_of_ev tyOk mixed gok_spec_l14Outs (fn := Try.f162) (by kernel_rfl) (c := b_spec_l14Outs) (by kernel_rfl) (by kernel_rfl) (by kernel_rfl) (lam_ok (tab := [(4, loopL sp_spec_l14Outs_l4 xs_spec_l14Outs_l4 l_spec_l14Outs_l4)]) (by kernel_rfl) (by
    intro p hp
    simp only [List.mem_cons, List.not_mem_nil, or_false] at hp
    rcases hp with rfl
    · exact @ls_spec_l14Outs_l4)) e_spec_l14Outs

/-! spec.l14Fault -/
abbrev sp_spec_l14Fault : Sp := ⟨123, [(0, .rp k16)], [], []⟩
abbrev sq_spec_l14Fault : Sp := ⟨1, [(0, .val false (.int .i64))], [], []⟩
noncomputable def g_spec_l14Fault : List (FuncId × SumX) := [(80, cN sp_spec_l13Fault sq_spec_l13Fault U_spec_l13Fault), (92, cN sp_spec_l12Fault sq_spec_l12Fault U_spec_l12Fault), (131, cN sp_spec_l1In sq_spec_l1In U_spec_l1In), (162, cN sp_spec_l14Outs sq_spec_l14Outs U_spec_l14Outs)]
def j_spec_l14Fault : Nat → Option (List (Nat × SS)) := jOf [(10, [(98, .val false .bool)]), (12, [(120, .val false .bool)])]
theorem gok_spec_l14Fault : GOk P (gamOf g_spec_l14Fault) := gam_ok (tab := g_spec_l14Fault) (by
    intro p hp
    simp only [g_spec_l14Fault, List.mem_cons, List.not_mem_nil, or_false] at hp
    rcases hp with rfl | rfl | rfl | rfl
    · exact cN_ok c_spec_l13Fault rfl
    · exact cN_ok c_spec_l12Fault rfl
    · exact cN_ok c_spec_l1In rfl
    · exact cN_ok c_spec_l14Outs rfl)
noncomputable abbrev b_spec_l14Fault : Code := bodyOf Try.f122
noncomputable def F_spec_l14Fault (x1 : K.T k16) : Option sq_spec_l14Fault.T :=
  (F_spec_l12Fault x1.1).bind fun y1 =>
  bif (y1.1.1 != (0 : Int)) then
    (some ((y1.1.1, ()), (), ()))
  else
  (F_spec_l13Fault x1.2.1).bind fun y2 =>
  bif (y2.1.1 != (0 : Int)) then
    (some ((y2.1.1, ()), (), ()))
  else
  (F_spec_l13Fault x1.2.2.1).bind fun y3 =>
  bif (y3.1.1 != (0 : Int)) then
    (some ((y3.1.1, ()), (), ()))
  else
  (bif (x1.2.1.1 != (1 : Int)) then
      (some (true, ()))
    else
    bif (x1.2.2.1.1 != (2 : Int)) then
      (some (true, ()))
    else
    bif (((x1.2.1.2.1).length : Int) != ((x1.1.2.2.2.1).length : Int)) then
      (some (true, ()))
    else
    bif (((x1.2.2.1.2.1).length : Int) != ((x1.1.2.2.2.2.1).length : Int)) then
      (some (true, ()))
    else
    bif (((x1.2.1.2.2.2.1).length : Int) != x1.1.1) then
      (some (true, ()))
    else
    some ((((x1.2.2.1.2.2.2.1).length : Int) != x1.1.1), ())).bind fun y4 =>
  bif y4.1 then
    (some (((1 : Int), ()), (), ()))
  else
  ((F_spec_l1In x1.2.2.2.2.2.2.2 (0 : Int) (1000000 : Int)).bind fun y5 =>
    bif (!y5.1.1) then
      (some (true, ()))
    else
    (F_spec_l1In x1.2.2.2.2.1 (0 : Int) (4 : Int)).bind fun y6 =>
    bif (!y6.1.1) then
      (some (true, ()))
    else
    (F_spec_l1In x1.2.2.2.2.2.1 (0 : Int) (10 : Int)).bind fun y7 =>
    some ((!y7.1.1), ())).bind fun y8 =>
  bif y8.1 then
    (some (((3 : Int), ()), (), ()))
  else
  (F_spec_l14Outs x1).bind fun y9 =>
  some ((y9.1.1, ()), (), ())
noncomputable abbrev U_spec_l14Fault : sp_spec_l14Fault.T → Option sq_spec_l14Fault.T := fun x => F_spec_l14Fault x.1.1
theorem e_spec_l14Fault : ∀ x, evCode ty (gamOf g_spec_l14Fault) j_spec_l14Fault (lamOf []) b_spec_l14Fault (sp_spec_l14Fault.hd x) (finN ty sq_spec_l14Fault [.tmp 2]) = U_spec_l14Fault x := fun x => by kernel_rfl
theorem c_spec_l14Fault : FnS P 122 sp_spec_l14Fault sq_spec_l14Fault U_spec_l14Fault :=
  fnS_of_ev tyOk mixed gok_spec_l14Fault (fn := Try.f122) (by kernel_rfl) (c := b_spec_l14Fault) (by kernel_rfl) (by kernel_rfl) (by kernel_rfl) (lam_ok (tab := []) (by kernel_rfl) (fun p hp => by cases hp)) e_spec_l14Fault

/-! spec.l14Bad -/
abbrev sp_spec_l14Bad : Sp := ⟨5, [(0, .val false (.int .i64))], [], []⟩
abbrev sq_spec_l14Bad : Sp := ⟨1, [(0, .val true k17)], [], []⟩
noncomputable def g_spec_l14Bad : List (FuncId × SumX) := []
def j_spec_l14Bad : Nat → Option (List (Nat × SS)) := jOf []
theorem gok_spec_l14Bad : GOk P (gamOf g_spec_l14Bad) := gam_ok (tab := g_spec_l14Bad) (fun p hp => by cases hp)
noncomputable abbrev b_spec_l14Bad : Code := bodyOf Try.f125
noncomputable def F_spec_l14Bad (x1 : K.T (.int .i64)) : Option sq_spec_l14Bad.T :=
  some (((x1, (((0 : Int), ([], ([], ([], ([], ([], ([], ((0 : Int), (0 : Int))))))))), (((0 : Int), ([], ([], ([], ((0 : Int), (0 : Int)))))), (((0 : Int), ([], ([], ([], ((0 : Int), (0 : Int)))))), (false, ((0 : Int), ((0 : Int), ([], (0 : Int))))))))), ()), (), ())
noncomputable abbrev U_spec_l14Bad : sp_spec_l14Bad.T → Option sq_spec_l14Bad.T := fun x => F_spec_l14Bad x.1.1
theorem e_spec_l14Bad : ∀ x, evCode ty (gamOf g_spec_l14Bad) j_spec_l14Bad (lamOf []) b_spec_l14Bad (sp_spec_l14Bad.hd x) (finN ty sq_spec_l14Bad [.cell 2 78]) = U_spec_l14Bad x := fun x => by kernel_rfl
theorem c_spec_l14Bad : FnS P 125 sp_spec_l14Bad sq_spec_l14Bad U_spec_l14Bad :=
  fnS_of_ev tyOk mixed gok_spec_l14Bad (fn := Try.f125) (by kernel_rfl) (c := b_spec_l14Bad) (by kernel_rfl) (by kernel_rfl) (by kernel_rfl) (lam_ok (tab := []) (by kernel_rfl) (fun p hp => by cases hp)) e_spec_l14Bad

/-! spec.l13Copy -/
abbrev sp_spec_l13Copy : Sp := ⟨19, [(0, .val true k5)], [], []⟩
abbrev sq_spec_l13Copy : Sp := ⟨1, [(0, .mix true [.val (.int .i64), .fix (.own 59000), .fix (.own 59001), .fix (.own 59002), .val (.int .i64), .val (.int .i64)])], [], [(59000, (.int .i64), true), (59001, (.int .i64), true), (59002, (.int .i64), true)]⟩
noncomputable def g_spec_l13Copy : List (FuncId × SumX) := []
def j_spec_l13Copy : Nat → Option (List (Nat × SS)) := jOf []
theorem gok_spec_l13Copy : GOk P (gamOf g_spec_l13Copy) := gam_ok (tab := g_spec_l13Copy) (fun p hp => by cases hp)
noncomputable abbrev b_spec_l13Copy : Code := bodyOf Try.f85
noncomputable def F_spec_l13Copy (x1 : K.T k5) : Option sq_spec_l13Copy.T :=
  bif room ([] ++ x1.2.1).length 8 then
  bif room ([] ++ x1.2.2.1).length 8 then
  bif room ([] ++ x1.2.2.2.1).length 8 then
  some (((x1.1, (x1.2.2.2.2.1, (x1.2.2.2.2.2, ()))), ()), (), (([] ++ x1.2.1), (([] ++ x1.2.2.1), (([] ++ x1.2.2.2.1), ()))))
  else none
  else none
  else none
noncomputable abbrev U_spec_l13Copy : sp_spec_l13Copy.T → Option sq_spec_l13Copy.T := fun x => F_spec_l13Copy x.1.1
theorem e_spec_l13Copy : ∀ x, evCode ty (gamOf g_spec_l13Copy) j_spec_l13Copy (lamOf []) b_spec_l13Copy (sp_spec_l13Copy.hd x) (finN ty sq_spec_l13Copy [.cell 2 29]) = U_spec_l13Copy x := fun x => by kernel_rfl
theorem c_spec_l13Copy : FnS P 85 sp_spec_l13Copy sq_spec_l13Copy U_spec_l13Copy :=
  fnS_of_ev tyOk mixed gok_spec_l13Copy (fn := Try.f85) (by kernel_rfl) (c := b_spec_l13Copy) (by kernel_rfl) (by kernel_rfl) (by kernel_rfl) (lam_ok (tab := []) (by kernel_rfl) (fun p hp => by cases hp)) e_spec_l13Copy

/-! spec.l14Build -/
abbrev sp_spec_l14Build : Sp := ⟨34, [(0, .val true k9)], [], []⟩
abbrev sq_spec_l14Build : Sp := ⟨1, [(0, .mix true [.val (.int .i64), .fix (.own 59000), .fix (.own 59001), .fix (.own 59002), .fix (.own 59003), .fix (.own 59004), .fix (.own 59005), .val (.int .i64), .val (.int .i64)])], [], [(59000, k0, true), (59001, (.int .i64), true), (59002, (.int .i64), true), (59003, (.int .i64), true), (59004, (.int .i64), true), (59005, (.int .i64), true)]⟩
noncomputable def g_spec_l14Build : List (FuncId × SumX) := []
def j_spec_l14Build : Nat → Option (List (Nat × SS)) := jOf []
theorem gok_spec_l14Build : GOk P (gamOf g_spec_l14Build) := gam_ok (tab := g_spec_l14Build) (fun p hp => by cases hp)
noncomputable abbrev b_spec_l14Build : Code := bodyOf Try.f164
noncomputable def F_spec_l14Build (x1 : K.T k9) : Option sq_spec_l14Build.T :=
  bif room ([] ++ x1.2.1).length 16 then
  bif room ([] ++ x1.2.2.1).length 8 then
  bif room ([] ++ x1.2.2.2.1).length 8 then
  bif room ([] ++ x1.2.2.2.2.1).length 8 then
  bif room ([] ++ x1.2.2.2.2.2.1).length 8 then
  bif room ([] ++ x1.2.2.2.2.2.2.1).length 8 then
  some (((x1.1, (x1.2.2.2.2.2.2.2.1, (x1.2.2.2.2.2.2.2.2, ()))), ()), (), (([] ++ x1.2.1), (([] ++ x1.2.2.1), (([] ++ x1.2.2.2.1), (([] ++ x1.2.2.2.2.1), (([] ++ x1.2.2.2.2.2.1), (([] ++ x1.2.2.2.2.2.2.1), ())))))))
  else none
  else none
  else none
  else none
  else none
  else none
noncomputable abbrev U_spec_l14Build : sp_spec_l14Build.T → Option sq_spec_l14Build.T := fun x => F_spec_l14Build x.1.1
theorem e_spec_l14Build : ∀ x, evCode ty (gamOf g_spec_l14Build) j_spec_l14Build (lamOf []) b_spec_l14Build (sp_spec_l14Build.hd x) (finN ty sq_spec_l14Build [.cell 2 49]) = U_spec_l14Build x := fun x => by kernel_rfl
theorem c_spec_l14Build : FnS P 164 sp_spec_l14Build sq_spec_l14Build U_spec_l14Build :=
  fnS_of_ev tyOk mixed gok_spec_l14Build (fn := Try.f164) (by kernel_rfl) (c := b_spec_l14Build) (by kernel_rfl) (by kernel_rfl) (by kernel_rfl) (lam_ok (tab := []) (by kernel_rfl) (fun p hp => by cases hp)) e_spec_l14Build

/-! spec.l14Copy -/
abbrev sp_spec_l14Copy : Sp := ⟨21, [(0, .val true k16)], [], []⟩
abbrev sq_spec_l14Copy : Sp := ⟨1, [(0, .mix true [.val (.int .i64), .fix (.own 59000), .fix (.own 59001), .fix (.own 59002), .fix (.own 59003), .fix (.own 59004), .fix (.own 59005), .val (.int .i64), .val (.int .i64), .val (.int .i64), .fix (.own 59006), .fix (.own 59007), .fix (.own 59008), .val (.int .i64), .val (.int .i64), .val (.int .i64), .fix (.own 59009), .fix (.own 59010), .fix (.own 59011), .val (.int .i64), .val (.int .i64), .val .bool, .val (.int .i64), .val (.int .i64), .fix (.own 59012), .val (.int .i64)])], [], [(59000, k0, true), (59001, (.int .i64), true), (59002, (.int .i64), true), (59003, (.int .i64), true), (59004, (.int .i64), true), (59005, (.int .i64), true), (59006, (.int .i64), true), (59007, (.int .i64), true), (59008, (.int .i64), true), (59009, (.int .i64), true), (59010, (.int .i64), true), (59011, (.int .i64), true), (59012, (.int .i64), true)]⟩
noncomputable def g_spec_l14Copy : List (FuncId × SumX) := [(85, fN sp_spec_l13Copy sq_spec_l13Copy U_spec_l13Copy), (164, fN sp_spec_l14Build sq_spec_l14Build U_spec_l14Build)]
def j_spec_l14Copy : Nat → Option (List (Nat × SS)) := jOf []
theorem gok_spec_l14Copy : GOk P (gamOf g_spec_l14Copy) := gam_ok (tab := g_spec_l14Copy) (by
    intro p hp
    simp only [g_spec_l14Copy, List.mem_cons, List.not_mem_nil, or_false] at hp
    rcases hp with rfl | rfl
    · exact fN_ok c_spec_l13Copy rfl
    · exact fN_ok c_spec_l14Build rfl)
noncomputable abbrev b_spec_l14Copy : Code := bodyOf Try.f138
noncomputable def F_spec_l14Copy (x1 : K.T k16) : Option sq_spec_l14Copy.T :=
  (F_spec_l14Build x1.1).bind fun y1 =>
  (F_spec_l13Copy x1.2.1).bind fun y2 =>
  (F_spec_l13Copy x1.2.2.1).bind fun y3 =>
  bif room ([] ++ x1.2.2.2.2.2.2.1).length 8 then
  some (((y1.1.1.1, (y1.1.1.2.1, (y1.1.1.2.2.1, (y2.1.1.1, (y2.1.1.2.1, (y2.1.1.2.2.1, (y3.1.1.1, (y3.1.1.2.1, (y3.1.1.2.2.1, (x1.2.2.2.1, (x1.2.2.2.2.1, (x1.2.2.2.2.2.1, (x1.2.2.2.2.2.2.2, ()))))))))))))), ()), (), (y1.2.2.1, (y1.2.2.2.1, (y1.2.2.2.2.1, (y1.2.2.2.2.2.1, (y1.2.2.2.2.2.2.1, (y1.2.2.2.2.2.2.2.1, (y2.2.2.1, (y2.2.2.2.1, (y2.2.2.2.2.1, (y3.2.2.1, (y3.2.2.2.1, (y3.2.2.2.2.1, (([] ++ x1.2.2.2.2.2.2.1), ()))))))))))))))
  else none
noncomputable abbrev U_spec_l14Copy : sp_spec_l14Copy.T → Option sq_spec_l14Copy.T := fun x => F_spec_l14Copy x.1.1
theorem e_spec_l14Copy : ∀ x, evCode ty (gamOf g_spec_l14Copy) j_spec_l14Copy (lamOf []) b_spec_l14Copy (sp_spec_l14Copy.hd x) (finN ty sq_spec_l14Copy [.cell 2 72]) = U_spec_l14Copy x := fun x => by kernel_rfl
theorem c_spec_l14Copy : FnS P 138 sp_spec_l14Copy sq_spec_l14Copy U_spec_l14Copy :=
  fnS_of_ev tyOk mixed gok_spec_l14Copy (fn := Try.f138) (by kernel_rfl) (c := b_spec_l14Copy) (by kernel_rfl) (by kernel_rfl) (by kernel_rfl) (lam_ok (tab := []) (by kernel_rfl) (fun p hp => by cases hp)) e_spec_l14Copy

/-! spec.HurtPlant -/
abbrev sp_spec_HurtPlant : Sp := ⟨43, [(0, .val true k16), (1, .val false (.int .i64)), (2, .val false (.int .i64)), (3, .val false (.int .i64)), (4, .val false (.int .i64))], [], []⟩
abbrev sq_spec_HurtPlant : Sp := ⟨1, [(0, .val true k17)], [], []⟩
noncomputable def g_spec_HurtPlant : List (FuncId × SumX) := [(86, xN sp_spec_l13Hurt sq_spec_l13Hurt U_spec_l13Hurt), (108, cN sp_spec_l13Kind sq_spec_l13Kind U_spec_l13Kind), (122, cN sp_spec_l14Fault sq_spec_l14Fault U_spec_l14Fault), (125, cN sp_spec_l14Bad sq_spec_l14Bad U_spec_l14Bad), (138, fN sp_spec_l14Copy sq_spec_l14Copy U_spec_l14Copy)]
def j_spec_HurtPlant : Nat → Option (List (Nat × SS)) := jOf []
theorem gok_spec_HurtPlant : GOk P (gamOf g_spec_HurtPlant) := gam_ok (tab := g_spec_HurtPlant) (by
    intro p hp
    simp only [g_spec_HurtPlant, List.mem_cons, List.not_mem_nil, or_false] at hp
    rcases hp with rfl | rfl | rfl | rfl | rfl
    · exact xN_ok c_spec_l13Hurt rfl
    · exact cN_ok c_spec_l13Kind rfl
    · exact cN_ok c_spec_l14Fault rfl
    · exact cN_ok c_spec_l14Bad rfl
    · exact fN_ok c_spec_l14Copy rfl)
noncomputable abbrev b_spec_HurtPlant : Code := bodyOf Try.f71
noncomputable def F_spec_HurtPlant (x1 : K.T k16) (x2 : K.T (.int .i64)) (x3 : K.T (.int .i64)) (x4 : K.T (.int .i64)) (x5 : K.T (.int .i64)) : Option sq_spec_HurtPlant.T :=
  (F_spec_l14Fault x1).bind fun y1 =>
  bif (y1.1.1 != (0 : Int)) then
    ((F_spec_l14Bad y1.1.1).bind fun y2 =>
    some ((y2.1.1, ()), (), ()))
  else
  (F_spec_l13Kind x2).bind fun y3 =>
  bif (!y3.1.1) then
    ((F_spec_l14Bad (1 : Int)).bind fun y4 =>
    some ((y4.1.1, ()), (), ()))
  else
  (F_spec_l14Copy x1).bind fun y5 =>
  bif (x2 == (1 : Int)) then
    ((F_spec_l13Hurt x3 x4 x5 y5.1.1.2.2.2.1 y5.1.1.2.2.2.2.1 y5.1.1.2.2.2.2.2.1 y5.2.2.2.2.2.2.2.2.1 y5.2.2.2.2.2.2.2.2.2.1 y5.2.2.2.2.2.2.2.2.2.2.1).bind fun y6 =>
    bif (y6.1.1 != (0 : Int)) then
      ((F_spec_l14Bad y6.1.1).bind fun y7 =>
      some ((y7.1.1, ()), (), ()))
    else
    some ((((0 : Int), ((y5.1.1.1, (y5.2.2.1, (y5.2.2.2.1, (y5.2.2.2.2.1, (y5.2.2.2.2.2.1, (y5.2.2.2.2.2.2.1, (y5.2.2.2.2.2.2.2.1, (y5.1.1.2.1, y5.1.1.2.2.1)))))))), ((y6.2.1.1.1, (y6.2.2.1, (y6.2.2.2.1, (y6.2.2.2.2.1, (y6.2.1.1.2.1, y6.2.1.1.2.2.1))))), ((y5.1.1.2.2.2.2.2.2.1, (y5.2.2.2.2.2.2.2.2.2.2.2.1, (y5.2.2.2.2.2.2.2.2.2.2.2.2.1, (y5.2.2.2.2.2.2.2.2.2.2.2.2.2.1, (y5.1.1.2.2.2.2.2.2.2.1, y5.1.1.2.2.2.2.2.2.2.2.1))))), (y5.1.1.2.2.2.2.2.2.2.2.2.1, (y5.1.1.2.2.2.2.2.2.2.2.2.2.1, (y5.1.1.2.2.2.2.2.2.2.2.2.2.2.1, (y5.2.2.2.2.2.2.2.2.2.2.2.2.2.2.1, y5.1.1.2.2.2.2.2.2.2.2.2.2.2.2.1)))))))), ()), (), ()))
  else
  (F_spec_l13Hurt x3 x4 x5 y5.1.1.2.2.2.2.2.2.1 y5.1.1.2.2.2.2.2.2.2.1 y5.1.1.2.2.2.2.2.2.2.2.1 y5.2.2.2.2.2.2.2.2.2.2.2.1 y5.2.2.2.2.2.2.2.2.2.2.2.2.1 y5.2.2.2.2.2.2.2.2.2.2.2.2.2.1).bind fun y8 =>
  bif (y8.1.1 != (0 : Int)) then
    ((F_spec_l14Bad y8.1.1).bind fun y9 =>
    some ((y9.1.1, ()), (), ()))
  else
  some ((((0 : Int), ((y5.1.1.1, (y5.2.2.1, (y5.2.2.2.1, (y5.2.2.2.2.1, (y5.2.2.2.2.2.1, (y5.2.2.2.2.2.2.1, (y5.2.2.2.2.2.2.2.1, (y5.1.1.2.1, y5.1.1.2.2.1)))))))), ((y5.1.1.2.2.2.1, (y5.2.2.2.2.2.2.2.2.1, (y5.2.2.2.2.2.2.2.2.2.1, (y5.2.2.2.2.2.2.2.2.2.2.1, (y5.1.1.2.2.2.2.1, y5.1.1.2.2.2.2.2.1))))), ((y8.2.1.1.1, (y8.2.2.1, (y8.2.2.2.1, (y8.2.2.2.2.1, (y8.2.1.1.2.1, y8.2.1.1.2.2.1))))), (y5.1.1.2.2.2.2.2.2.2.2.2.1, (y5.1.1.2.2.2.2.2.2.2.2.2.2.1, (y5.1.1.2.2.2.2.2.2.2.2.2.2.2.1, (y5.2.2.2.2.2.2.2.2.2.2.2.2.2.2.1, y5.1.1.2.2.2.2.2.2.2.2.2.2.2.2.1)))))))), ()), (), ())
noncomputable abbrev U_spec_HurtPlant : sp_spec_HurtPlant.T → Option sq_spec_HurtPlant.T := fun x => F_spec_HurtPlant x.1.1 x.1.2.1 x.1.2.2.1 x.1.2.2.2.1 x.1.2.2.2.2.1
theorem e_spec_HurtPlant : ∀ x, evCode ty (gamOf g_spec_HurtPlant) j_spec_HurtPlant (lamOf []) b_spec_HurtPlant (sp_spec_HurtPlant.hd x) (finN ty sq_spec_HurtPlant [.cell 10 78]) = U_spec_HurtPlant x := fun x => by kernel_rfl
theorem c_spec_HurtPlant : FnS P 71 sp_spec_HurtPlant sq_spec_HurtPlant U_spec_HurtPlant :=
  fnS_of_ev tyOk mixed gok_spec_HurtPlant (fn := Try.f71) (by kernel_rfl) (c := b_spec_HurtPlant) (by kernel_rfl) (by kernel_rfl) (by kernel_rfl) (lam_ok (tab := []) (by kernel_rfl) (fun p hp => by cases hp)) e_spec_HurtPlant

/-! impl.within -/
abbrev sp_impl_within : Sp := ⟨15, [(0, .val false (.int .i64)), (1, .val false (.int .i64)), (2, .val false (.int .i64))], [], []⟩
abbrev sq_impl_within : Sp := ⟨1, [(0, .val false .bool)], [], []⟩
noncomputable def g_impl_within : List (FuncId × SumX) := []
def j_impl_within : Nat → Option (List (Nat × SS)) := jOf [(1, [(6, .val false .bool)])]
theorem gok_impl_within : GOk P (gamOf g_impl_within) := gam_ok (tab := g_impl_within) (fun p hp => by cases hp)
noncomputable abbrev b_impl_within : Code := bodyOf Try.f89
noncomputable def F_impl_within (x1 : K.T (.int .i64)) (x2 : K.T (.int .i64)) (x3 : K.T (.int .i64)) : Option sq_impl_within.T :=
  (bif (decide (x2 ≤ x1)) then
      (some ((decide (x1 ≤ x3)), ()))
    else
    some (false, ())).bind fun y1 =>
  some ((y1.1, ()), (), ())
noncomputable abbrev U_impl_within : sp_impl_within.T → Option sq_impl_within.T := fun x => F_impl_within x.1.1 x.1.2.1 x.1.2.2.1
theorem e_impl_within : ∀ x, evCode ty (gamOf g_impl_within) j_impl_within (lamOf []) b_impl_within (sp_impl_within.hd x) (finN ty sq_impl_within [.tmp 6]) = U_impl_within x := fun x => by kernel_rfl
theorem c_impl_within : FnS P 89 sp_impl_within sq_impl_within U_impl_within :=
  fnS_of_ev tyOk mixed gok_impl_within (fn := Try.f89) (by kernel_rfl) (c := b_impl_within) (by kernel_rfl) (by kernel_rfl) (by kernel_rfl) (lam_ok (tab := []) (by kernel_rfl) (fun p hp => by cases hp)) e_impl_within

/-! impl.isWord -/
abbrev sp_impl_isWord : Sp := ⟨5, [(0, .val false (.int .i64))], [], []⟩
abbrev sq_impl_isWord : Sp := ⟨1, [(0, .val false .bool)], [], []⟩
noncomputable def g_impl_isWord : List (FuncId × SumX) := [(89, cN sp_impl_within sq_impl_within U_impl_within)]
def j_impl_isWord : Nat → Option (List (Nat × SS)) := jOf []
theorem gok_impl_isWord : GOk P (gamOf g_impl_isWord) := gam_ok (tab := g_impl_isWord) (by
    intro p hp
    simp only [g_impl_isWord, List.mem_cons, List.not_mem_nil, or_false] at hp
    rcases hp with rfl
    · exact cN_ok c_impl_within rfl)
noncomputable abbrev b_impl_isWord : Code := bodyOf Try.f88
noncomputable def F_impl_isWord (x1 : K.T (.int .i64)) : Option sq_impl_isWord.T :=
  (F_impl_within x1 (0 : Int) (65535 : Int)).bind fun y1 =>
  some ((y1.1.1, ()), (), ())
noncomputable abbrev U_impl_isWord : sp_impl_isWord.T → Option sq_impl_isWord.T := fun x => F_impl_isWord x.1.1
theorem e_impl_isWord : ∀ x, evCode ty (gamOf g_impl_isWord) j_impl_isWord (lamOf []) b_impl_isWord (sp_impl_isWord.hd x) (finN ty sq_impl_isWord [.tmp 2]) = U_impl_isWord x := fun x => by kernel_rfl
theorem c_impl_isWord : FnS P 88 sp_impl_isWord sq_impl_isWord U_impl_isWord :=
  fnS_of_ev tyOk mixed gok_impl_isWord (fn := Try.f88) (by kernel_rfl) (c := b_impl_isWord) (by kernel_rfl) (by kernel_rfl) (by kernel_rfl) (lam_ok (tab := []) (by kernel_rfl) (fun p hp => by cases hp)) e_impl_isWord

/-! impl.areWords -/
abbrev sp_impl_areWords : Sp := ⟨15, [(0, .val false (.sl (.int .i64)))], [], []⟩
abbrev sq_impl_areWords : Sp := ⟨1, [(0, .val false .bool)], [], []⟩
noncomputable def g_impl_areWords : List (FuncId × SumX) := [(88, cN sp_impl_isWord sq_impl_isWord U_impl_isWord)]
def j_impl_areWords : Nat → Option (List (Nat × SS)) := jOf []
theorem gok_impl_areWords : GOk P (gamOf g_impl_areWords) := gam_ok (tab := g_impl_areWords) (by
    intro p hp
    simp only [g_impl_areWords, List.mem_cons, List.not_mem_nil, or_false] at hp
    rcases hp with rfl
    · exact cN_ok c_impl_isWord rfl)
noncomputable abbrev b_impl_areWords : Code := bodyOf Try.f115
abbrev sp_impl_areWords_l2 : Sp := ⟨15, [(5, .val false (.sl (.int .i64))), (6, .val false (.int .i64)), (7, .val false (.int .i64))], [], []⟩
abbrev xs_impl_areWords_l2 : List (Ex × Sp) := [(.exit 0, ⟨15, [], [], []⟩), (.ret, ⟨15, [(2, .val false .bool)], [], []⟩)]
noncomputable def s_impl_areWords_l2 : sp_impl_areWords_l2.T → Option (sp_impl_areWords_l2.T ⊕ XT xs_impl_areWords_l2) := fun x =>
  bif (decide (x.1.2.2.1 < x.1.2.1)) then
    (bif ib x.1.2.2.1 (x.1.1).length then
    (F_impl_isWord ((x.1.1).getD (Int.toNat x.1.2.2.1) (K.zero (.int .i64)))).bind fun y1 =>
    bif (!y1.1.1) then
      (some (.inr (.inr ((false, ()), (), ()))))
    else
    some (.inl ((x.1.1, (x.1.2.1, ((IntKind.wrap .i64 (x.1.2.2.1 + (1 : Int))), ()))), (), ()))
    else none)
  else
  some (.inr (.inl ((), (), ())))
noncomputable def l_impl_areWords_l2 : sp_impl_areWords_l2.T → Option (XT xs_impl_areWords_l2) := lim s_impl_areWords_l2
theorem es_impl_areWords_l2 : ∀ x, evCode ty (gamOf g_impl_areWords) j_impl_areWords (lamOf []) (loopAt b_impl_areWords 2) (sp_impl_areWords_l2.hd x) (rdK sp_impl_areWords_l2 xs_impl_areWords_l2) = s_impl_areWords_l2 x := fun x => by kernel_rfl
theorem ls_impl_areWords_l2 : LSumOk P (loopAt b_impl_areWords 2) (loopL sp_impl_areWords_l2 xs_impl_areWords_l2 l_impl_areWords_l2) := loop_ok tyOk mixed gok_impl_areWords (by kernel_rfl) (by kernel_rfl) (lam_ok (tab := []) (by kernel_rfl) (fun p hp => by cases hp)) es_impl_areWords_l2 lim_itr
noncomputable def F_impl_areWords (x1 : K.T (.sl (.int .i64))) : Option sq_impl_areWords.T :=
  (l_impl_areWords_l2 ((x1, (((x1).length : Int), ((0 : Int), ()))), (), ())).bind fun y2 =>
  (match y2 with
  | .inl y3 => some ((true, ()), (), ())
  | .inr z4 => some ((z4.1.1, ()), (), ()))
noncomputable abbrev U_impl_areWords : sp_impl_areWords.T → Option sq_impl_areWords.T := fun x => F_impl_areWords x.1.1
theorem e_impl_areWords : ∀ x, evCode ty (gamOf g_impl_areWords) j_impl_areWords (lamOf [(2, loopL sp_impl_areWords_l2 xs_impl_areWords_l2 l_impl_areWords_l2)]) b_impl_areWords (sp_impl_areWords.hd x) (finN ty sq_impl_areWords [.tmp 2]) = U_impl_areWords x := fun x => by kernel_rfl
theorem c_impl_areWords : FnS P 115 sp_impl_areWords sq_impl_areWords U_impl_areWords :=
  fnS_of_ev tyOk mixed gok_impl_areWords (fn := Try.f115) (by kernel_rfl) (c := b_impl_areWords) (by kernel_rfl) (by kernel_rfl) (by kernel_rfl) (lam_ok (tab := [(2, loopL sp_impl_areWords_l2 xs_impl_areWords_l2 l_impl_areWords_l2)]) (by kernel_rfl) (by
    intro p hp
    simp only [List.mem_cons, List.not_mem_nil, or_false] at hp
    rcases hp with rfl
    · exact @ls_impl_areWords_l2)) e_impl_areWords

/-! impl.WordsFault -/
abbrev sp_impl_WordsFault : Sp := ⟨11, [(0, .val false (.sl (.int .i64)))], [], []⟩
abbrev sq_impl_WordsFault : Sp := ⟨1, [(0, .val false (.int .i64))], [], []⟩
noncomputable def g_impl_WordsFault : List (FuncId × SumX) := [(115, cN sp_impl_areWords sq_impl_areWords U_impl_areWords)]
def j_impl_WordsFault : Nat → Option (List (Nat × SS)) := jOf []
theorem gok_impl_WordsFault : GOk P (gamOf g_impl_WordsFault) := gam_ok (tab := g_impl_WordsFault) (by
    intro p hp
    simp only [g_impl_WordsFault, List.mem_cons, List.not_mem_nil, or_false] at hp
    rcases hp with rfl
    · exact cN_ok c_impl_areWords rfl)
noncomputable abbrev b_impl_WordsFault : Code := bodyOf Try.f99
noncomputable def F_impl_WordsFault (x1 : K.T (.sl (.int .i64))) : Option sq_impl_WordsFault.T :=
  bif (decide (((x1).length : Int) > (400 : Int))) then
    (some (((2 : Int), ()), (), ()))
  else
  (F_impl_areWords x1).bind fun y1 =>
  bif (!y1.1.1) then
    (some (((3 : Int), ()), (), ()))
  else
  some (((0 : Int), ()), (), ())
noncomputable abbrev U_impl_WordsFault : sp_impl_WordsFault.T → Option sq_impl_WordsFault.T := fun x => F_impl_WordsFault x.1.1
theorem e_impl_WordsFault : ∀ x, evCode ty (gamOf g_impl_WordsFault) j_impl_WordsFault (lamOf []) b_impl_WordsFault (sp_impl_WordsFault.hd x) (finN ty sq_impl_WordsFault [.tmp 2]) = U_impl_WordsFault x := fun x => by kernel_rfl
theorem c_impl_WordsFault : FnS P 99 sp_impl_WordsFault sq_impl_WordsFault U_impl_WordsFault :=
  fnS_of_ev tyOk mixed gok_impl_WordsFault (fn := Try.f99) (by kernel_rfl) (c := b_impl_WordsFault) (by kernel_rfl) (by kernel_rfl) (by kernel_rfl) (lam_ok (tab := []) (by kernel_rfl) (fun p hp => by cases hp)) e_impl_WordsFault

/-! impl.ChanFault -/
abbrev sp_impl_ChanFault : Sp := ⟨52, [(0, .val true k5)], [], []⟩
abbrev sq_impl_ChanFault : Sp := ⟨1, [(0, .val false (.int .i64))], [], []⟩
noncomputable def g_impl_ChanFault : List (FuncId × SumX) := [(88, cN sp_impl_isWord sq_impl_isWord U_impl_isWord), (99, cN sp_impl_WordsFault sq_impl_WordsFault U_impl_WordsFault), (115, cN sp_impl_areWords sq_impl_areWords U_impl_areWords)]
def j_impl_ChanFault : Nat → Option (List (Nat × SS)) := jOf [(1, [(13, .val false .bool)]), (10, [(30, .val false .bool)])]
theorem gok_impl_ChanFault : GOk P (gamOf g_impl_ChanFault) := gam_ok (tab := g_impl_ChanFault) (by
    intro p hp
    simp only [g_impl_ChanFault, List.mem_cons, List.not_mem_nil, or_false] at hp
    rcases hp with rfl | rfl | rfl
    · exact cN_ok c_impl_isWord rfl
    · exact cN_ok c_impl_WordsFault rfl
    · exact cN_ok c_impl_areWords rfl)
noncomputable abbrev b_impl_ChanFault : Code := bodyOf Try.f82
abbrev sp_impl_ChanFault_l4 : Sp := ⟨52, [(1, .fix (.ptr 59000 0)), (18, .fix (.own 59000)), (19, .val false (.int .i64)), (20, .val false (.int .i64))], [(59000, [.val (.int .i64), .val (.sl (.int .i64)), .val (.sl (.int .i64)), .val (.sl (.int .i64)), .val (.int .i64), .val (.int .i64)])], [(59000, (.sl (.int .i64)), false)]⟩
abbrev xs_impl_ChanFault_l4 : List (Ex × Sp) := [(.exit 0, ⟨52, [(1, .fix (.ptr 59000 0))], [(59000, [.val (.int .i64), .val (.sl (.int .i64)), .val (.sl (.int .i64)), .val (.sl (.int .i64)), .val (.int .i64), .val (.int .i64)])], []⟩), (.ret, ⟨52, [(2, .val false (.int .i64))], [], []⟩)]
noncomputable def s_impl_ChanFault_l4 : sp_impl_ChanFault_l4.T → Option (sp_impl_ChanFault_l4.T ⊕ XT xs_impl_ChanFault_l4) := fun x =>
  bif (decide (x.1.2.1 < x.1.1)) then
    (bif ib x.1.2.1 (x.2.2.1).length then
    (F_impl_WordsFault ((x.2.2.1).getD (Int.toNat x.1.2.1) (K.zero (.sl (.int .i64))))).bind fun y2 =>
    bif (y2.1.1 != (0 : Int)) then
      (some (.inr (.inr ((y2.1.1, ()), (), ()))))
    else
    some (.inl ((x.1.1, ((IntKind.wrap .i64 (x.1.2.1 + (1 : Int))), ())), ((x.2.1.1.1, (x.2.1.1.2.1, (x.2.1.1.2.2.1, (x.2.1.1.2.2.2.1, (x.2.1.1.2.2.2.2.1, (x.2.1.1.2.2.2.2.2.1, ())))))), ()), (x.2.2.1, ())))
    else none)
  else
  some (.inr (.inl ((), ((x.2.1.1.1, (x.2.1.1.2.1, (x.2.1.1.2.2.1, (x.2.1.1.2.2.2.1, (x.2.1.1.2.2.2.2.1, (x.2.1.1.2.2.2.2.2.1, ())))))), ()), ())))
noncomputable def l_impl_ChanFault_l4 : sp_impl_ChanFault_l4.T → Option (XT xs_impl_ChanFault_l4) := lim s_impl_ChanFault_l4
theorem es_impl_ChanFault_l4 : ∀ x, evCode ty (gamOf g_impl_ChanFault) j_impl_ChanFault (lamOf []) (loopAt b_impl_ChanFault 4) (sp_impl_ChanFault_l4.hd x) (rdK sp_impl_ChanFault_l4 xs_impl_ChanFault_l4) = s_impl_ChanFault_l4 x := fun x => by kernel_rfl
theorem ls_impl_ChanFault_l4 : LSumOk P (loopAt b_impl_ChanFault 4) (loopL sp_impl_ChanFault_l4 xs_impl_ChanFault_l4 l_impl_ChanFault_l4) := loop_ok tyOk mixed gok_impl_ChanFault (by kernel_rfl) (by kernel_rfl) (lam_ok (tab := []) (by kernel_rfl) (fun p hp => by cases hp)) es_impl_ChanFault_l4 lim_itr
noncomputable def F_impl_ChanFault (x1 : K.T k5) : Option sq_impl_ChanFault.T :=
  (bif (x1.1 != (1 : Int)) then
      (some ((x1.1 != (2 : Int)), ()))
    else
    some (false, ())).bind fun y1 =>
  bif y1.1 then
    (some (((1 : Int), ()), (), ()))
  else
  (l_impl_ChanFault_l4 (((([x1.2.1, x1.2.2.1]).length : Int), ((0 : Int), ())), ((x1.1, (x1.2.1, (x1.2.2.1, (x1.2.2.2.1, (x1.2.2.2.2.1, (x1.2.2.2.2.2, ())))))), ()), ([x1.2.1, x1.2.2.1], ()))).bind fun y3 =>
  (match y3 with
  | .inl y4 => ((F_impl_areWords y4.2.1.1.2.2.2.1).bind fun y6 =>
      bif (!y6.1.1) then
        (some (true, ()))
      else
      (F_impl_isWord y4.2.1.1.2.2.2.2.1).bind fun y7 =>
      bif (!y7.1.1) then
        (some (true, ()))
      else
      (F_impl_isWord y4.2.1.1.2.2.2.2.2.1).bind fun y8 =>
      some ((!y8.1.1), ())).bind fun y9 =>
    bif y9.1 then
      (some (((3 : Int), ()), (), ()))
    else
    bif (decide (((y4.2.1.1.2.2.2.1).length : Int) > (80 : Int))) then
      (some (((2 : Int), ()), (), ()))
    else
    some (((0 : Int), ()), (), ())
  | .inr z5 => some ((z5.1.1, ()), (), ()))
noncomputable abbrev U_impl_ChanFault : sp_impl_ChanFault.T → Option sq_impl_ChanFault.T := fun x => F_impl_ChanFault x.1.1
theorem e_impl_ChanFault : ∀ x, evCode ty (gamOf g_impl_ChanFault) j_impl_ChanFault (lamOf [(4, loopL sp_impl_ChanFault_l4 xs_impl_ChanFault_l4 l_impl_ChanFault_l4)]) b_impl_ChanFault (sp_impl_ChanFault.hd x) (finN ty sq_impl_ChanFault [.tmp 2]) = U_impl_ChanFault x := fun x => by kernel_rfl
theorem c_impl_ChanFault : FnS P 82 sp_impl_ChanFault sq_impl_ChanFault U_impl_ChanFault :=
  fnS_of_ev tyOk mixed gok_impl_ChanFault (fn := Try.f82) (by kernel_rfl) (c := b_impl_ChanFault) (by kernel_rfl) (by kernel_rfl) (by kernel_rfl) (lam_ok (tab := [(4, loopL sp_impl_ChanFault_l4 xs_impl_ChanFault_l4 l_impl_ChanFault_l4)]) (by kernel_rfl) (by
    intro p hp
    simp only [List.mem_cons, List.not_mem_nil, or_false] at hp
    rcases hp with rfl
    · exact @ls_impl_ChanFault_l4)) e_impl_ChanFault

/-! slices.Clone[[]int64,int64] -/
abbrev sp_slices_Clone_int64 : Sp := ⟨8, [(0, .val false (.sl (.int .i64)))], [], []⟩
abbrev sq_slices_Clone_int64 : Sp := ⟨1, [(0, .fix (.own 59000))], [], [(59000, (.int .i64), true)]⟩
noncomputable def g_slices_Clone_int64 : List (FuncId × SumX) := []
def j_slices_Clone_int64 : Nat → Option (List (Nat × SS)) := jOf []
theorem gok_slices_Clone_int64 : GOk P (gamOf g_slices_Clone_int64) := gam_ok (tab := g_slices_Clone_int64) (fun p hp => by cases hp)
noncomputable abbrev b_slices_Clone_int64 : Code := bodyOf Try.f117
noncomputable def F_slices_Clone_int64 (x1 : K.T (.sl (.int .i64))) : Option sq_slices_Clone_int64.T :=
  nilB ((x1).isEmpty)
    (some ((), (), ([], ())))
    (bif room ([] ++ x1).length 8 then
    some ((), (), (([] ++ x1), ()))
    else none)
noncomputable abbrev U_slices_Clone_int64 : sp_slices_Clone_int64.T → Option sq_slices_Clone_int64.T := fun x => F_slices_Clone_int64 x.1.1
theorem e_slices_Clone_int64 : ∀ x, evCode ty (gamOf g_slices_Clone_int64) j_slices_Clone_int64 (lamOf []) b_slices_Clone_int64 (sp_slices_Clone_int64.hd x) (finN ty sq_slices_Clone_int64 [.tmp 2]) = U_slices_Clone_int64 x := fun x => by kernel_rfl
theorem c_slices_Clone_int64 : FnS P 117 sp_slices_Clone_int64 sq_slices_Clone_int64 U_slices_Clone_int64 :=
  fnS_of_ev tyOk mixed gok_slices_Clone_int64 (fn := Try.f117) (by kernel_rfl) (c := b_slices_Clone_int64) (by kernel_rfl) (by kernel_rfl) (by kernel_rfl) (lam_ok (tab := []) (by kernel_rfl) (fun p hp => by cases hp)) e_slices_Clone_int64

/-! (impl.Chan).copied -/
abbrev sp_impl_Chan_copied : Sp := ⟨16, [(0, .val true k5)], [], []⟩
abbrev sq_impl_Chan_copied : Sp := ⟨1, [(0, .mix true [.val (.int .i64), .fix (.own 59000), .fix (.own 59001), .fix (.own 59002), .val (.int .i64), .val (.int .i64)])], [], [(59000, (.int .i64), true), (59001, (.int .i64), true), (59002, (.int .i64), true)]⟩
noncomputable def g_impl_Chan_copied : List (FuncId × SumX) := [(117, fN sp_slices_Clone_int64 sq_slices_Clone_int64 U_slices_Clone_int64)]
def j_impl_Chan_copied : Nat → Option (List (Nat × SS)) := jOf []
theorem gok_impl_Chan_copied : GOk P (gamOf g_impl_Chan_copied) := gam_ok (tab := g_impl_Chan_copied) (by
    intro p hp
    simp only [g_impl_Chan_copied, List.mem_cons, List.not_mem_nil, or_false] at hp
    rcases hp with rfl
    · exact fN_ok c_slices_Clone_int64 rfl)
noncomputable abbrev b_impl_Chan_copied : Code := bodyOf Try.f87
noncomputable def F_impl_Chan_copied (x1 : K.T k5) : Option sq_impl_Chan_copied.T :=
  (F_slices_Clone_int64 x1.2.1).bind fun y1 =>
  (F_slices_Clone_int64 x1.2.2.1).bind fun y2 =>
  (F_slices_Clone_int64 x1.2.2.2.1).bind fun y3 =>
  some (((x1.1, (x1.2.2.2.2.1, (x1.2.2.2.2.2, ()))), ()), (), (y1.2.2.1, (y2.2.2.1, (y3.2.2.1, ()))))
noncomputable abbrev U_impl_Chan_copied : sp_impl_Chan_copied.T → Option sq_impl_Chan_copied.T := fun x => F_impl_Chan_copied x.1.1
theorem e_impl_Chan_copied : ∀ x, evCode ty (gamOf g_impl_Chan_copied) j_impl_Chan_copied (lamOf []) b_impl_Chan_copied (sp_impl_Chan_copied.hd x) (finN ty sq_impl_Chan_copied [.cell 2 29]) = U_impl_Chan_copied x := fun x => by kernel_rfl
theorem c_impl_Chan_copied : FnS P 87 sp_impl_Chan_copied sq_impl_Chan_copied U_impl_Chan_copied :=
  fnS_of_ev tyOk mixed gok_impl_Chan_copied (fn := Try.f87) (by kernel_rfl) (c := b_impl_Chan_copied) (by kernel_rfl) (by kernel_rfl) (by kernel_rfl) (lam_ok (tab := []) (by kernel_rfl) (fun p hp => by cases hp)) e_impl_Chan_copied

/-! impl.HurtChan -/
abbrev sp_impl_HurtChan : Sp := ⟨74, [(0, .val true k5), (1, .val false (.int .i64)), (2, .val false (.int .i64)), (3, .val false (.int .i64))], [], []⟩
abbrev sq_impl_HurtChan : Sp := ⟨1, [(0, .mix true [.val (.int .i64), .val (.int .i64), .val (.int .i64), .val (.int .i64), .fix (.own 59000), .fix (.own 59001), .fix (.own 59002), .val (.int .i64), .val (.int .i64)])], [], [(59000, (.int .i64), true), (59001, (.int .i64), true), (59002, (.int .i64), true)]⟩
noncomputable def g_impl_HurtChan : List (FuncId × SumX) := [(82, cN sp_impl_ChanFault sq_impl_ChanFault U_impl_ChanFault), (87, fN sp_impl_Chan_copied sq_impl_Chan_copied U_impl_Chan_copied), (88, cN sp_impl_isWord sq_impl_isWord U_impl_isWord), (89, cN sp_impl_within sq_impl_within U_impl_within)]
def j_impl_HurtChan : Nat → Option (List (Nat × SS)) := jOf [(17, [(48, .val false .bool)])]
theorem gok_impl_HurtChan : GOk P (gamOf g_impl_HurtChan) := gam_ok (tab := g_impl_HurtChan) (by
    intro p hp
    simp only [g_impl_HurtChan, List.mem_cons, List.not_mem_nil, or_false] at hp
    rcases hp with rfl | rfl | rfl | rfl
    · exact cN_ok c_impl_ChanFault rfl
    · exact fN_ok c_impl_Chan_copied rfl
    · exact cN_ok c_impl_isWord rfl
    · exact cN_ok c_impl_within rfl)
noncomputable abbrev b_impl_HurtChan : Code := bodyOf Try.f27
noncomputable def F_impl_HurtChan (x1 : K.T k5) (x2 : K.T (.int .i64)) (x3 : K.T (.int .i64)) (x4 : K.T (.int .i64)) : Option sq_impl_HurtChan.T :=
  (F_impl_ChanFault x1).bind fun y1 =>
  bif (y1.1.1 != (0 : Int)) then
    (some (((y1.1.1, ((0 : Int), ((0 : Int), ((0 : Int), ((0 : Int), ((0 : Int), ())))))), ()), (), ([], ([], ([], ())))))
  else
  (F_impl_Chan_copied x1).bind fun y2 =>
  bif (x2 == (1 : Int)) then
    (((F_impl_isWord x4).bind fun y3 =>
      bif (!y3.1.1) then
        (some (true, ()))
      else
      (F_impl_within x3 (0 : Int) (IntKind.wrap .i64 (((y2.2.2.1).length : Int) - (1 : Int)))).bind fun y4 =>
      some ((!y4.1.1), ())).bind fun y5 =>
    bif y5.1 then
      (some ((((3 : Int), ((0 : Int), ((0 : Int), ((0 : Int), ((0 : Int), ((0 : Int), ())))))), ()), (), ([], ([], ([], ())))))
    else
    bif ib x3 (y2.2.2.1).length then
    bif ib x3 (y2.2.2.1).length then
    bif (x2 == (4 : Int)) then
      (some ((((0 : Int), ((0 : Int), ((0 : Int), (y2.1.1.1, ((IntKind.wrap .i64 (((BitVec.ofInt (IntKind.bits .i64) y2.1.1.2.1 ^^^ BitVec.ofInt (IntKind.bits .i64) x4).toNat : Int))), (y2.1.1.2.2.1, ())))))), ()), (), ((y2.2.2.1).set (Int.toNat x3) (IntKind.wrap .i64 (((BitVec.ofInt (IntKind.bits .i64) ((y2.2.2.1).getD (Int.toNat x3) (K.zero (.int .i64))) ^^^ BitVec.ofInt (IntKind.bits .i64) x4).toNat : Int))), (y2.2.2.2.1, (y2.2.2.2.2.1, ())))))
    else
    bif (x2 == (5 : Int)) then
      (some ((((0 : Int), ((0 : Int), ((0 : Int), (y2.1.1.1, (y2.1.1.2.1, ((IntKind.wrap .i64 (((BitVec.ofInt (IntKind.bits .i64) y2.1.1.2.2.1 ^^^ BitVec.ofInt (IntKind.bits .i64) x4).toNat : Int))), ())))))), ()), (), ((y2.2.2.1).set (Int.toNat x3) (IntKind.wrap .i64 (((BitVec.ofInt (IntKind.bits .i64) ((y2.2.2.1).getD (Int.toNat x3) (K.zero (.int .i64))) ^^^ BitVec.ofInt (IntKind.bits .i64) x4).toNat : Int))), (y2.2.2.2.1, (y2.2.2.2.2.1, ())))))
    else
    some ((((0 : Int), ((0 : Int), ((0 : Int), (y2.1.1.1, (y2.1.1.2.1, (y2.1.1.2.2.1, ())))))), ()), (), ((y2.2.2.1).set (Int.toNat x3) (IntKind.wrap .i64 (((BitVec.ofInt (IntKind.bits .i64) ((y2.2.2.1).getD (Int.toNat x3) (K.zero (.int .i64))) ^^^ BitVec.ofInt (IntKind.bits .i64) x4).toNat : Int))), (y2.2.2.2.1, (y2.2.2.2.2.1, ()))))
    else none
    else none)
  else
  bif (x2 == (2 : Int)) then
    (((F_impl_isWord x4).bind fun y6 =>
      bif (!y6.1.1) then
        (some (true, ()))
      else
      (F_impl_within x3 (0 : Int) (IntKind.wrap .i64 (((y2.2.2.2.2.1).length : Int) - (1 : Int)))).bind fun y7 =>
      some ((!y7.1.1), ())).bind fun y8 =>
    bif y8.1 then
      (some ((((3 : Int), ((0 : Int), ((0 : Int), ((0 : Int), ((0 : Int), ((0 : Int), ())))))), ()), (), ([], ([], ([], ())))))
    else
    bif ib x3 (y2.2.2.2.2.1).length then
    bif ib x3 (y2.2.2.2.2.1).length then
    bif (x2 == (4 : Int)) then
      (some ((((0 : Int), ((0 : Int), ((0 : Int), (y2.1.1.1, ((IntKind.wrap .i64 (((BitVec.ofInt (IntKind.bits .i64) y2.1.1.2.1 ^^^ BitVec.ofInt (IntKind.bits .i64) x4).toNat : Int))), (y2.1.1.2.2.1, ())))))), ()), (), (y2.2.2.1, (y2.2.2.2.1, ((y2.2.2.2.2.1).set (Int.toNat x3) (IntKind.wrap .i64 (((BitVec.ofInt (IntKind.bits .i64) ((y2.2.2.2.2.1).getD (Int.toNat x3) (K.zero (.int .i64))) ^^^ BitVec.ofInt (IntKind.bits .i64) x4).toNat : Int))), ())))))
    else
    bif (x2 == (5 : Int)) then
      (some ((((0 : Int), ((0 : Int), ((0 : Int), (y2.1.1.1, (y2.1.1.2.1, ((IntKind.wrap .i64 (((BitVec.ofInt (IntKind.bits .i64) y2.1.1.2.2.1 ^^^ BitVec.ofInt (IntKind.bits .i64) x4).toNat : Int))), ())))))), ()), (), (y2.2.2.1, (y2.2.2.2.1, ((y2.2.2.2.2.1).set (Int.toNat x3) (IntKind.wrap .i64 (((BitVec.ofInt (IntKind.bits .i64) ((y2.2.2.2.2.1).getD (Int.toNat x3) (K.zero (.int .i64))) ^^^ BitVec.ofInt (IntKind.bits .i64) x4).toNat : Int))), ())))))
    else
    some ((((0 : Int), ((0 : Int), ((0 : Int), (y2.1.1.1, (y2.1.1.2.1, (y2.1.1.2.2.1, ())))))), ()), (), (y2.2.2.1, (y2.2.2.2.1, ((y2.2.2.2.2.1).set (Int.toNat x3) (IntKind.wrap .i64 (((BitVec.ofInt (IntKind.bits .i64) ((y2.2.2.2.2.1).getD (Int.toNat x3) (K.zero (.int .i64))) ^^^ BitVec.ofInt (IntKind.bits .i64) x4).toNat : Int))), ()))))
    else none
    else none)
  else
  bif (x2 == (3 : Int)) then
    (((F_impl_isWord x4).bind fun y9 =>
      bif (!y9.1.1) then
        (some (true, ()))
      else
      (F_impl_within x3 (0 : Int) (IntKind.wrap .i64 (((y2.2.2.2.1).length : Int) - (1 : Int)))).bind fun y10 =>
      some ((!y10.1.1), ())).bind fun y11 =>
    bif y11.1 then
      (some ((((3 : Int), ((0 : Int), ((0 : Int), ((0 : Int), ((0 : Int), ((0 : Int), ())))))), ()), (), ([], ([], ([], ())))))
    else
    bif ib x3 (y2.2.2.2.1).length then
    bif ib x3 (y2.2.2.2.1).length then
    bif (x2 == (4 : Int)) then
      (some ((((0 : Int), ((0 : Int), ((0 : Int), (y2.1.1.1, ((IntKind.wrap .i64 (((BitVec.ofInt (IntKind.bits .i64) y2.1.1.2.1 ^^^ BitVec.ofInt (IntKind.bits .i64) x4).toNat : Int))), (y2.1.1.2.2.1, ())))))), ()), (), (y2.2.2.1, ((y2.2.2.2.1).set (Int.toNat x3) (IntKind.wrap .i64 (((BitVec.ofInt (IntKind.bits .i64) ((y2.2.2.2.1).getD (Int.toNat x3) (K.zero (.int .i64))) ^^^ BitVec.ofInt (IntKind.bits .i64) x4).toNat : Int))), (y2.2.2.2.2.1, ())))))
    else
    bif (x2 == (5 : Int)) then
      (some ((((0 : Int), ((0 : Int), ((0 : Int), (y2.1.1.1, (y2.1.1.2.1, ((IntKind.wrap .i64 (((BitVec.ofInt (IntKind.bits .i64) y2.1.1.2.2.1 ^^^ BitVec.ofInt (IntKind.bits .i64) x4).toNat : Int))), ())))))), ()), (), (y2.2.2.1, ((y2.2.2.2.1).set (Int.toNat x3) (IntKind.wrap .i64 (((BitVec.ofInt (IntKind.bits .i64) ((y2.2.2.2.1).getD (Int.toNat x3) (K.zero (.int .i64))) ^^^ BitVec.ofInt (IntKind.bits .i64) x4).toNat : Int))), (y2.2.2.2.2.1, ())))))
    else
    some ((((0 : Int), ((0 : Int), ((0 : Int), (y2.1.1.1, (y2.1.1.2.1, (y2.1.1.2.2.1, ())))))), ()), (), (y2.2.2.1, ((y2.2.2.2.1).set (Int.toNat x3) (IntKind.wrap .i64 (((BitVec.ofInt (IntKind.bits .i64) ((y2.2.2.2.1).getD (Int.toNat x3) (K.zero (.int .i64))) ^^^ BitVec.ofInt (IntKind.bits .i64) x4).toNat : Int))), (y2.2.2.2.2.1, ()))))
    else none
    else none)
  else
  bif (x2 == (4 : Int)) then
    (((F_impl_isWord x4).bind fun y12 =>
      bif (!y12.1.1) then
        (some (true, ()))
      else
      (F_impl_within x3 (0 : Int) (IntKind.wrap .i64 ((((List.replicate (Int.toNat (1 : Int)) (K.zero (.int .i64)))).length : Int) - (1 : Int)))).bind fun y13 =>
      some ((!y13.1.1), ())).bind fun y14 =>
    bif y14.1 then
      (some ((((3 : Int), ((0 : Int), ((0 : Int), ((0 : Int), ((0 : Int), ((0 : Int), ())))))), ()), (), ([], ([], ([], ())))))
    else
    bif ib x3 ((List.replicate (Int.toNat (1 : Int)) (K.zero (.int .i64)))).length then
    bif ib x3 ((List.replicate (Int.toNat (1 : Int)) (K.zero (.int .i64)))).length then
    bif (x2 == (4 : Int)) then
      (some ((((0 : Int), ((0 : Int), ((0 : Int), (y2.1.1.1, ((IntKind.wrap .i64 (((BitVec.ofInt (IntKind.bits .i64) y2.1.1.2.1 ^^^ BitVec.ofInt (IntKind.bits .i64) x4).toNat : Int))), (y2.1.1.2.2.1, ())))))), ()), (), (y2.2.2.1, (y2.2.2.2.1, (y2.2.2.2.2.1, ())))))
    else
    bif (x2 == (5 : Int)) then
      (some ((((0 : Int), ((0 : Int), ((0 : Int), (y2.1.1.1, (y2.1.1.2.1, ((IntKind.wrap .i64 (((BitVec.ofInt (IntKind.bits .i64) y2.1.1.2.2.1 ^^^ BitVec.ofInt (IntKind.bits .i64) x4).toNat : Int))), ())))))), ()), (), (y2.2.2.1, (y2.2.2.2.1, (y2.2.2.2.2.1, ())))))
    else
    some ((((0 : Int), ((0 : Int), ((0 : Int), (y2.1.1.1, (y2.1.1.2.1, (y2.1.1.2.2.1, ())))))), ()), (), (y2.2.2.1, (y2.2.2.2.1, (y2.2.2.2.2.1, ()))))
    else none
    else none)
  else
  bif (x2 == (5 : Int)) then
    (((F_impl_isWord x4).bind fun y15 =>
      bif (!y15.1.1) then
        (some (true, ()))
      else
      (F_impl_within x3 (0 : Int) (IntKind.wrap .i64 ((((List.replicate (Int.toNat (1 : Int)) (K.zero (.int .i64)))).length : Int) - (1 : Int)))).bind fun y16 =>
      some ((!y16.1.1), ())).bind fun y17 =>
    bif y17.1 then
      (some ((((3 : Int), ((0 : Int), ((0 : Int), ((0 : Int), ((0 : Int), ((0 : Int), ())))))), ()), (), ([], ([], ([], ())))))
    else
    bif ib x3 ((List.replicate (Int.toNat (1 : Int)) (K.zero (.int .i64)))).length then
    bif ib x3 ((List.replicate (Int.toNat (1 : Int)) (K.zero (.int .i64)))).length then
    bif (x2 == (4 : Int)) then
      (some ((((0 : Int), ((0 : Int), ((0 : Int), (y2.1.1.1, ((IntKind.wrap .i64 (((BitVec.ofInt (IntKind.bits .i64) y2.1.1.2.1 ^^^ BitVec.ofInt (IntKind.bits .i64) x4).toNat : Int))), (y2.1.1.2.2.1, ())))))), ()), (), (y2.2.2.1, (y2.2.2.2.1, (y2.2.2.2.2.1, ())))))
    else
    bif (x2 == (5 : Int)) then
      (some ((((0 : Int), ((0 : Int), ((0 : Int), (y2.1.1.1, (y2.1.1.2.1, ((IntKind.wrap .i64 (((BitVec.ofInt (IntKind.bits .i64) y2.1.1.2.2.1 ^^^ BitVec.ofInt (IntKind.bits .i64) x4).toNat : Int))), ())))))), ()), (), (y2.2.2.1, (y2.2.2.2.1, (y2.2.2.2.2.1, ())))))
    else
    some ((((0 : Int), ((0 : Int), ((0 : Int), (y2.1.1.1, (y2.1.1.2.1, (y2.1.1.2.2.1, ())))))), ()), (), (y2.2.2.1, (y2.2.2.2.1, (y2.2.2.2.2.1, ()))))
    else none
    else none)
  else
  some ((((1 : Int), ((0 : Int), ((0 : Int), ((0 : Int), ((0 : Int), ((0 : Int), ())))))), ()), (), ([], ([], ([], ()))))
noncomputable abbrev U_impl_HurtChan : sp_impl_HurtChan.T → Option sq_impl_HurtChan.T := fun x => F_impl_HurtChan x.1.1 x.1.2.1 x.1.2.2.1 x.1.2.2.2.1
theorem e_impl_HurtChan : ∀ x, evCode ty (gamOf g_impl_HurtChan) j_impl_HurtChan (lamOf []) b_impl_HurtChan (sp_impl_HurtChan.hd x) (finN ty sq_impl_HurtChan [.cell 8 37]) = U_impl_HurtChan x := fun x => by kernel_rfl
theorem c_impl_HurtChan : FnS P 27 sp_impl_HurtChan sq_impl_HurtChan U_impl_HurtChan :=
  fnS_of_ev tyOk mixed gok_impl_HurtChan (fn := Try.f27) (by kernel_rfl) (c := b_impl_HurtChan) (by kernel_rfl) (by kernel_rfl) (by kernel_rfl) (lam_ok (tab := []) (by kernel_rfl) (fun p hp => by cases hp)) e_impl_HurtChan

/-! impl.BuildFault$1 -/
abbrev sp_impl_BuildFault_f1 : Sp := ⟨9, [(0, .val false (.int .i64)), (1, .fix (.ptr 60000 0))], [(60000, [.val (.int .i64), .val (.sl k0), .val (.sl (.int .i64)), .val (.sl (.int .i64)), .val (.sl (.int .i64)), .val (.sl (.int .i64)), .val (.sl (.int .i64)), .val (.int .i64), .val (.int .i64)])], []⟩
abbrev sq_impl_BuildFault_f1 : Sp := ⟨1, [(0, .val false .bool)], [(60000, [.val (.int .i64), .val (.sl k0), .val (.sl (.int .i64)), .val (.sl (.int .i64)), .val (.sl (.int .i64)), .val (.sl (.int .i64)), .val (.sl (.int .i64)), .val (.int .i64), .val (.int .i64)])], []⟩
noncomputable def g_impl_BuildFault_f1 : List (FuncId × SumX) := [(89, cN sp_impl_within sq_impl_within U_impl_within)]
def j_impl_BuildFault_f1 : Nat → Option (List (Nat × SS)) := jOf []
theorem gok_impl_BuildFault_f1 : GOk P (gamOf g_impl_BuildFault_f1) := gam_ok (tab := g_impl_BuildFault_f1) (by
    intro p hp
    simp only [g_impl_BuildFault_f1, List.mem_cons, List.not_mem_nil, or_false] at hp
    rcases hp with rfl
    · exact cN_ok c_impl_within rfl)
noncomputable abbrev b_impl_BuildFault_f1 : Code := bodyOf Try.f94
noncomputable def F_impl_BuildFault_f1 (x1 : K.T (.int .i64)) (x2 : K.T (.int .i64)) (x3 : K.T (.sl k0)) (x4 : K.T (.sl (.int .i64))) (x5 : K.T (.sl (.int .i64))) (x6 : K.T (.sl (.int .i64))) (x7 : K.T (.sl (.int .i64))) (x8 : K.T (.sl (.int .i64))) (x9 : K.T (.int .i64)) (x10 : K.T (.int .i64)) : Option sq_impl_BuildFault_f1.T :=
  (F_impl_within x1 (0 : Int) (IntKind.wrap .i64 (x2 - (1 : Int)))).bind fun y1 =>
  some ((y1.1.1, ()), ((x2, (x3, (x4, (x5, (x6, (x7, (x8, (x9, (x10, ()))))))))), ()), ())
noncomputable abbrev U_impl_BuildFault_f1 : sp_impl_BuildFault_f1.T → Option sq_impl_BuildFault_f1.T := fun x => F_impl_BuildFault_f1 x.1.1 x.2.1.1.1 x.2.1.1.2.1 x.2.1.1.2.2.1 x.2.1.1.2.2.2.1 x.2.1.1.2.2.2.2.1 x.2.1.1.2.2.2.2.2.1 x.2.1.1.2.2.2.2.2.2.1 x.2.1.1.2.2.2.2.2.2.2.1 x.2.1.1.2.2.2.2.2.2.2.2.1
theorem e_impl_BuildFault_f1 : ∀ x, evCode ty (gamOf g_impl_BuildFault_f1) j_impl_BuildFault_f1 (lamOf []) b_impl_BuildFault_f1 (sp_impl_BuildFault_f1.hd x) (finN ty sq_impl_BuildFault_f1 [.tmp 3]) = U_impl_BuildFault_f1 x := fun x => by kernel_rfl
theorem c_impl_BuildFault_f1 : FnS P 94 sp_impl_BuildFault_f1 sq_impl_BuildFault_f1 U_impl_BuildFault_f1 :=
  fnS_of_ev tyOk mixed gok_impl_BuildFault_f1 (fn := Try.f94) (by kernel_rfl) (c := b_impl_BuildFault_f1) (by kernel_rfl) (by kernel_rfl) (by kernel_rfl) (lam_ok (tab := []) (by kernel_rfl) (fun p hp => by cases hp)) e_impl_BuildFault_f1

/-! impl.BuildFault$2 -/
abbrev sp_impl_BuildFault_f2 : Sp := ⟨9, [(0, .val true k0), (1, .fix (.ptr 60000 0))], [(60000, [.fix (.fn 94 [(60001, 0)])]), (60001, [.val (.int .i64), .val (.sl k0), .val (.sl (.int .i64)), .val (.sl (.int .i64)), .val (.sl (.int .i64)), .val (.sl (.int .i64)), .val (.sl (.int .i64)), .val (.int .i64), .val (.int .i64)])], []⟩
abbrev sq_impl_BuildFault_f2 : Sp := ⟨1, [(0, .val false .bool)], [(60000, [.fix (.fn 94 [(60001, 0)])]), (60001, [.val (.int .i64), .val (.sl k0), .val (.sl (.int .i64)), .val (.sl (.int .i64)), .val (.sl (.int .i64)), .val (.sl (.int .i64)), .val (.sl (.int .i64)), .val (.int .i64), .val (.int .i64)])], []⟩
noncomputable def g_impl_BuildFault_f2 : List (FuncId × SumX) := [(94, xN sp_impl_BuildFault_f1 sq_impl_BuildFault_f1 U_impl_BuildFault_f1)]
def j_impl_BuildFault_f2 : Nat → Option (List (Nat × SS)) := jOf []
theorem gok_impl_BuildFault_f2 : GOk P (gamOf g_impl_BuildFault_f2) := gam_ok (tab := g_impl_BuildFault_f2) (by
    intro p hp
    simp only [g_impl_BuildFault_f2, List.mem_cons, List.not_mem_nil, or_false] at hp
    rcases hp with rfl
    · exact xN_ok c_impl_BuildFault_f1 rfl)
noncomputable abbrev b_impl_BuildFault_f2 : Code := bodyOf Try.f96
noncomputable def F_impl_BuildFault_f2 (x1 : K.T k0) (x2 : K.T (.int .i64)) (x3 : K.T (.sl k0)) (x4 : K.T (.sl (.int .i64))) (x5 : K.T (.sl (.int .i64))) (x6 : K.T (.sl (.int .i64))) (x7 : K.T (.sl (.int .i64))) (x8 : K.T (.sl (.int .i64))) (x9 : K.T (.int .i64)) (x10 : K.T (.int .i64)) : Option sq_impl_BuildFault_f2.T :=
  (F_impl_BuildFault_f1 x1.1 x2 x3 x4 x5 x6 x7 x8 x9 x10).bind fun y1 =>
  some (((!y1.1.1), ()), ((), ((y1.2.1.1.1, (y1.2.1.1.2.1, (y1.2.1.1.2.2.1, (y1.2.1.1.2.2.2.1, (y1.2.1.1.2.2.2.2.1, (y1.2.1.1.2.2.2.2.2.1, (y1.2.1.1.2.2.2.2.2.2.1, (y1.2.1.1.2.2.2.2.2.2.2.1, (y1.2.1.1.2.2.2.2.2.2.2.2.1, ()))))))))), ())), ())
noncomputable abbrev U_impl_BuildFault_f2 : sp_impl_BuildFault_f2.T → Option sq_impl_BuildFault_f2.T := fun x => F_impl_BuildFault_f2 x.1.1 x.2.1.2.1.1 x.2.1.2.1.2.1 x.2.1.2.1.2.2.1 x.2.1.2.1.2.2.2.1 x.2.1.2.1.2.2.2.2.1 x.2.1.2.1.2.2.2.2.2.1 x.2.1.2.1.2.2.2.2.2.2.1 x.2.1.2.1.2.2.2.2.2.2.2.1 x.2.1.2.1.2.2.2.2.2.2.2.2.1
theorem e_impl_BuildFault_f2 : ∀ x, evCode ty (gamOf g_impl_BuildFault_f2) j_impl_BuildFault_f2 (lamOf []) b_impl_BuildFault_f2 (sp_impl_BuildFault_f2.hd x) (finN ty sq_impl_BuildFault_f2 [.tmp 3]) = U_impl_BuildFault_f2 x := fun x => by kernel_rfl
theorem c_impl_BuildFault_f2 : FnS P 96 sp_impl_BuildFault_f2 sq_impl_BuildFault_f2 U_impl_BuildFault_f2 :=
  fnS_of_ev tyOk mixed gok_impl_BuildFault_f2 (fn := Try.f96) (by kernel_rfl) (c := b_impl_BuildFault_f2) (by kernel_rfl) (by kernel_rfl) (by kernel_rfl) (lam_ok (tab := []) (by kernel_rfl) (fun p hp => by cases hp)) e_impl_BuildFault_f2

/-! slices.IndexFunc[[]impl.Port,impl.Port] -/
abbrev sp_slices_IndexFunc_Port : Sp := ⟨19, [(0, .val false (.sl k0)), (1, .fix (.fn 96 [(60000, 0)]))], [(60000, [.fix (.fn 94 [(60001, 0)])]), (60001, [.val (.int .i64), .val (.sl k0), .val (.sl (.int .i64)), .val (.sl (.int .i64)), .val (.sl (.int .i64)), .val (.sl (.int .i64)), .val (.sl (.int .i64)), .val (.int .i64), .val (.int .i64)])], []⟩
abbrev sq_slices_IndexFunc_Port : Sp := ⟨1, [(0, .val false (.int .i64))], [(60000, [.fix (.fn 94 [(60001, 0)])]), (60001, [.val (.int .i64), .val (.sl k0), .val (.sl (.int .i64)), .val (.sl (.int .i64)), .val (.sl (.int .i64)), .val (.sl (.int .i64)), .val (.sl (.int .i64)), .val (.int .i64), .val (.int .i64)])], []⟩
noncomputable def g_slices_IndexFunc_Port : List (FuncId × SumX) := [(96, xN sp_impl_BuildFault_f2 sq_impl_BuildFault_f2 U_impl_BuildFault_f2)]
def j_slices_IndexFunc_Port : Nat → Option (List (Nat × SS)) := jOf []
theorem gok_slices_IndexFunc_Port : GOk P (gamOf g_slices_IndexFunc_Port) := gam_ok (tab := g_slices_IndexFunc_Port) (by
    intro p hp
    simp only [g_slices_IndexFunc_Port, List.mem_cons, List.not_mem_nil, or_false] at hp
    rcases hp with rfl
    · exact xN_ok c_impl_BuildFault_f2 rfl)
noncomputable abbrev b_slices_IndexFunc_Port : Code := bodyOf Try.f151
abbrev sp_slices_IndexFunc_Port_l2 : Sp := ⟨19, [(0, .val false (.sl k0)), (1, .fix (.fn 96 [(60000, 0)])), (7, .val false (.int .i64)), (8, .val false (.int .i64))], [(60000, [.fix (.fn 94 [(60001, 0)])]), (60001, [.val (.int .i64), .val (.sl k0), .val (.sl (.int .i64)), .val (.sl (.int .i64)), .val (.sl (.int .i64)), .val (.sl (.int .i64)), .val (.sl (.int .i64)), .val (.int .i64), .val (.int .i64)])], []⟩
abbrev xs_slices_IndexFunc_Port_l2 : List (Ex × Sp) := [(.exit 0, ⟨19, [], [(60000, [.fix (.fn 94 [(60001, 0)])]), (60001, [.val (.int .i64), .val (.sl k0), .val (.sl (.int .i64)), .val (.sl (.int .i64)), .val (.sl (.int .i64)), .val (.sl (.int .i64)), .val (.sl (.int .i64)), .val (.int .i64), .val (.int .i64)])], []⟩), (.ret, ⟨19, [(4, .val false (.int .i64))], [(60000, [.fix (.fn 94 [(60001, 0)])]), (60001, [.val (.int .i64), .val (.sl k0), .val (.sl (.int .i64)), .val (.sl (.int .i64)), .val (.sl (.int .i64)), .val (.sl (.int .i64)), .val (.sl (.int .i64)), .val (.int .i64), .val (.int .i64)])], []⟩)]
noncomputable def s_slices_IndexFunc_Port_l2 : sp_slices_IndexFunc_Port_l2.T → Option (sp_slices_IndexFunc_Port_l2.T ⊕ XT xs_slices_IndexFunc_Port_l2) := fun x =>
  bif (decide (x.1.2.2.1 < x.1.2.1)) then
    (bif ib x.1.2.2.1 (x.1.1).length then
    (F_impl_BuildFault_f2 ((x.1.1).getD (Int.toNat x.1.2.2.1) (K.zero k0)) x.2.1.2.1.1 x.2.1.2.1.2.1 x.2.1.2.1.2.2.1 x.2.1.2.1.2.2.2.1 x.2.1.2.1.2.2.2.2.1 x.2.1.2.1.2.2.2.2.2.1 x.2.1.2.1.2.2.2.2.2.2.1 x.2.1.2.1.2.2.2.2.2.2.2.1 x.2.1.2.1.2.2.2.2.2.2.2.2.1).bind fun y1 =>
    bif y1.1.1 then
      (some (.inr (.inr ((x.1.2.2.1, ()), ((), ((y1.2.1.2.1.1, (y1.2.1.2.1.2.1, (y1.2.1.2.1.2.2.1, (y1.2.1.2.1.2.2.2.1, (y1.2.1.2.1.2.2.2.2.1, (y1.2.1.2.1.2.2.2.2.2.1, (y1.2.1.2.1.2.2.2.2.2.2.1, (y1.2.1.2.1.2.2.2.2.2.2.2.1, (y1.2.1.2.1.2.2.2.2.2.2.2.2.1, ()))))))))), ())), ()))))
    else
    some (.inl ((x.1.1, (x.1.2.1, ((IntKind.wrap .i64 (x.1.2.2.1 + (1 : Int))), ()))), ((), ((y1.2.1.2.1.1, (y1.2.1.2.1.2.1, (y1.2.1.2.1.2.2.1, (y1.2.1.2.1.2.2.2.1, (y1.2.1.2.1.2.2.2.2.1, (y1.2.1.2.1.2.2.2.2.2.1, (y1.2.1.2.1.2.2.2.2.2.2.1, (y1.2.1.2.1.2.2.2.2.2.2.2.1, (y1.2.1.2.1.2.2.2.2.2.2.2.2.1, ()))))))))), ())), ()))
    else none)
  else
  some (.inr (.inl ((), ((), ((x.2.1.2.1.1, (x.2.1.2.1.2.1, (x.2.1.2.1.2.2.1, (x.2.1.2.1.2.2.2.1, (x.2.1.2.1.2.2.2.2.1, (x.2.1.2.1.2.2.2.2.2.1, (x.2.1.2.1.2.2.2.2.2.2.1, (x.2.1.2.1.2.2.2.2.2.2.2.1, (x.2.1.2.1.2.2.2.2.2.2.2.2.1, ()))))))))), ())), ())))
noncomputable def l_slices_IndexFunc_Port_l2 : sp_slices_IndexFunc_Port_l2.T → Option (XT xs_slices_IndexFunc_Port_l2) := lim s_slices_IndexFunc_Port_l2
theorem es_slices_IndexFunc_Port_l2 : ∀ x, evCode ty (gamOf g_slices_IndexFunc_Port) j_slices_IndexFunc_Port (lamOf []) (loopAt b_slices_IndexFunc_Port 2) (sp_slices_IndexFunc_Port_l2.hd x) (rdK sp_slices_IndexFunc_Port_l2 xs_slices_IndexFunc_Port_l2) = s_slices_IndexFunc_Port_l2 x := fun x => by kernel_rfl
theorem ls_slices_IndexFunc_Port_l2 : LSumOk P (loopAt b_slices_IndexFunc_Port 2) (loopL sp_slices_IndexFunc_Port_l2 xs_slices_IndexFunc_Port_l2 l_slices_IndexFunc_Port_l2) := loop_ok tyOk mixed gok_slices_IndexFunc_Port (by kernel_rfl) (by kernel_rfl) (lam_ok (tab := []) (by kernel_rfl) (fun p hp => by cases hp)) es_slices_IndexFunc_Port_l2 lim_itr
noncomputable def F_slices_IndexFunc_Port (x1 : K.T (.sl k0)) (x2 : K.T (.int .i64)) (x3 : K.T (.sl k0)) (x4 : K.T (.sl (.int .i64))) (x5 : K.T (.sl (.int .i64))) (x6 : K.T (.sl (.int .i64))) (x7 : K.T (.sl (.int .i64))) (x8 : K.T (.sl (.int .i64))) (x9 : K.T (.int .i64)) (x10 : K.T (.int .i64)) : Option sq_slices_IndexFunc_Port.T :=
  (l_slices_IndexFunc_Port_l2 ((x1, (((x1).length : Int), ((0 : Int), ()))), ((), ((x2, (x3, (x4, (x5, (x6, (x7, (x8, (x9, (x10, ()))))))))), ())), ())).bind fun y2 =>
  (match y2 with
  | .inl y3 => some (((-1 : Int), ()), ((), ((y3.2.1.2.1.1, (y3.2.1.2.1.2.1, (y3.2.1.2.1.2.2.1, (y3.2.1.2.1.2.2.2.1, (y3.2.1.2.1.2.2.2.2.1, (y3.2.1.2.1.2.2.2.2.2.1, (y3.2.1.2.1.2.2.2.2.2.2.1, (y3.2.1.2.1.2.2.2.2.2.2.2.1, (y3.2.1.2.1.2.2.2.2.2.2.2.2.1, ()))))))))), ())), ())
  | .inr z4 => some ((z4.1.1, ()), ((), ((z4.2.1.2.1.1, (z4.2.1.2.1.2.1, (z4.2.1.2.1.2.2.1, (z4.2.1.2.1.2.2.2.1, (z4.2.1.2.1.2.2.2.2.1, (z4.2.1.2.1.2.2.2.2.2.1, (z4.2.1.2.1.2.2.2.2.2.2.1, (z4.2.1.2.1.2.2.2.2.2.2.2.1, (z4.2.1.2.1.2.2.2.2.2.2.2.2.1, ()))))))))), ())), ()))
noncomputable abbrev U_slices_IndexFunc_Port : sp_slices_IndexFunc_Port.T → Option sq_slices_IndexFunc_Port.T := fun x => F_slices_IndexFunc_Port x.1.1 x.2.1.2.1.1 x.2.1.2.1.2.1 x.2.1.2.1.2.2.1 x.2.1.2.1.2.2.2.1 x.2.1.2.1.2.2.2.2.1 x.2.1.2.1.2.2.2.2.2.1 x.2.1.2.1.2.2.2.2.2.2.1 x.2.1.2.1.2.2.2.2.2.2.2.1 x.2.1.2.1.2.2.2.2.2.2.2.2.1
theorem e_slices_IndexFunc_Port : ∀ x, evCode ty (gamOf g_slices_IndexFunc_Port) j_slices_IndexFunc_Port (lamOf [(2, loopL sp_slices_IndexFunc_Port_l2 xs_slices_IndexFunc_Port_l2 l_slices_IndexFunc_Port_l2)]) b_slices_IndexFunc_Port (sp_slices_IndexFunc_Port.hd x) (finN ty sq_slices_IndexFunc_Port [.tmp 4]) = U_slices_IndexFunc_Port x := fun x => by kernel_rfl
theorem c_slices_IndexFunc_Port : FnS P 151 sp_slices_IndexFunc_Port sq_slices_IndexFunc_Port U_slices_IndexFunc_Port :=
  fnS_of_ev tyOk mixed gok_slices_IndexFunc_Port (fn := Try.f151) (by kernel_rfl) (c := b_slices_IndexFunc_Port) (by kernel_rfl) (by kernel_rfl) (by kernel_rfl) (lam_ok (tab := [(2, loopL sp_slices_IndexFunc_Port_l2 xs_slices_IndexFunc_Port_l2 l_slices_IndexFunc_Port_l2)]) (by kernel_rfl) (by
    intro p hp
    simp only [List.mem_cons, List.not_mem_nil, or_false] at hp
    rcases hp with rfl
    · exact @ls_slices_IndexFunc_Port_l2)) e_slices_IndexFunc_Port

/-! slices.ContainsFunc[[]impl.Port,impl.Port] -/
abbrev sp_slices_ContainsFunc_Port : Sp := ⟨9, [(0, .val false (.sl k0)), (1, .fix (.fn 96 [(60000, 0)]))], [(60000, [.fix (.fn 94 [(60001, 0)])]), (60001, [.val (.int .i64), .val (.sl k0), .val (.sl (.int .i64)), .val (.sl (.int .i64)), .val (.sl (.int .i64)), .val (.sl (.int .i64)), .val (.sl (.int .i64)), .val (.int .i64), .val (.int .i64)])], []⟩
abbrev sq_slices_ContainsFunc_Port : Sp := ⟨1, [(0, .val false .bool)], [(60000, [.fix (.fn 94 [(60001, 0)])]), (60001, [.val (.int .i64), .val (.sl k0), .val (.sl (.int .i64)), .val (.sl (.int .i64)), .val (.sl (.int .i64)), .val (.sl (.int .i64)), .val (.sl (.int .i64)), .val (.int .i64), .val (.int .i64)])], []⟩
noncomputable def g_slices_ContainsFunc_Port : List (FuncId × SumX) := [(151, xN sp_slices_IndexFunc_Port sq_slices_IndexFunc_Port U_slices_IndexFunc_Port)]
def j_slices_ContainsFunc_Port : Nat → Option (List (Nat × SS)) := jOf []
theorem gok_slices_ContainsFunc_Port : GOk P (gamOf g_slices_ContainsFunc_Port) := gam_ok (tab := g_slices_ContainsFunc_Port) (by
    intro p hp
    simp only [g_slices_ContainsFunc_Port, List.mem_cons, List.not_mem_nil, or_false] at hp
    rcases hp with rfl
    · exact xN_ok c_slices_IndexFunc_Port rfl)
noncomputable abbrev b_slices_ContainsFunc_Port : Code := bodyOf Try.f95
noncomputable def F_slices_ContainsFunc_Port (x1 : K.T (.sl k0)) (x2 : K.T (.int .i64)) (x3 : K.T (.sl k0)) (x4 : K.T (.sl (.int .i64))) (x5 : K.T (.sl (.int .i64))) (x6 : K.T (.sl (.int .i64))) (x7 : K.T (.sl (.int .i64))) (x8 : K.T (.sl (.int .i64))) (x9 : K.T (.int .i64)) (x10 : K.T (.int .i64)) : Option sq_slices_ContainsFunc_Port.T :=
  (F_slices_IndexFunc_Port x1 x2 x3 x4 x5 x6 x7 x8 x9 x10).bind fun y1 =>
  some (((decide (y1.1.1 ≥ (0 : Int))), ()), ((), ((y1.2.1.2.1.1, (y1.2.1.2.1.2.1, (y1.2.1.2.1.2.2.1, (y1.2.1.2.1.2.2.2.1, (y1.2.1.2.1.2.2.2.2.1, (y1.2.1.2.1.2.2.2.2.2.1, (y1.2.1.2.1.2.2.2.2.2.2.1, (y1.2.1.2.1.2.2.2.2.2.2.2.1, (y1.2.1.2.1.2.2.2.2.2.2.2.2.1, ()))))))))), ())), ())
noncomputable abbrev U_slices_ContainsFunc_Port : sp_slices_ContainsFunc_Port.T → Option sq_slices_ContainsFunc_Port.T := fun x => F_slices_ContainsFunc_Port x.1.1 x.2.1.2.1.1 x.2.1.2.1.2.1 x.2.1.2.1.2.2.1 x.2.1.2.1.2.2.2.1 x.2.1.2.1.2.2.2.2.1 x.2.1.2.1.2.2.2.2.2.1 x.2.1.2.1.2.2.2.2.2.2.1 x.2.1.2.1.2.2.2.2.2.2.2.1 x.2.1.2.1.2.2.2.2.2.2.2.2.1
theorem e_slices_ContainsFunc_Port : ∀ x, evCode ty (gamOf g_slices_ContainsFunc_Port) j_slices_ContainsFunc_Port (lamOf []) b_slices_ContainsFunc_Port (sp_slices_ContainsFunc_Port.hd x) (finN ty sq_slices_ContainsFunc_Port [.tmp 4]) = U_slices_ContainsFunc_Port x := fun x => by kernel_rfl
theorem c_slices_ContainsFunc_Port : FnS P 95 sp_slices_ContainsFunc_Port sq_slices_ContainsFunc_Port U_slices_ContainsFunc_Port :=
  fnS_of_ev tyOk mixed gok_slices_ContainsFunc_Port (fn := Try.f95) (by kernel_rfl) (c := b_slices_ContainsFunc_Port) (by kernel_rfl) (by kernel_rfl) (by kernel_rfl) (lam_ok (tab := []) (by kernel_rfl) (fun p hp => by cases hp)) e_slices_ContainsFunc_Port

/-! impl.BuildFault$3 -/
abbrev sp_impl_BuildFault_f3 : Sp := ⟨8, [(0, .val false (.int .i64)), (1, .fix (.ptr 60000 0))], [(60000, [.fix (.fn 94 [(60001, 0)])]), (60001, [.val (.int .i64), .val (.sl k0), .val (.sl (.int .i64)), .val (.sl (.int .i64)), .val (.sl (.int .i64)), .val (.sl (.int .i64)), .val (.sl (.int .i64)), .val (.int .i64), .val (.int .i64)])], []⟩
abbrev sq_impl_BuildFault_f3 : Sp := ⟨1, [(0, .val false .bool)], [(60000, [.fix (.fn 94 [(60001, 0)])]), (60001, [.val (.int .i64), .val (.sl k0), .val (.sl (.int .i64)), .val (.sl (.int .i64)), .val (.sl (.int .i64)), .val (.sl (.int .i64)), .val (.sl (.int .i64)), .val (.int .i64), .val (.int .i64)])], []⟩
noncomputable def g_impl_BuildFault_f3 : List (FuncId × SumX) := [(94, xN sp_impl_BuildFault_f1 sq_impl_BuildFault_f1 U_impl_BuildFault_f1)]
def j_impl_BuildFault_f3 : Nat → Option (List (Nat × SS)) := jOf []
theorem gok_impl_BuildFault_f3 : GOk P (gamOf g_impl_BuildFault_f3) := gam_ok (tab := g_impl_BuildFault_f3) (by
    intro p hp
    simp only [g_impl_BuildFault_f3, List.mem_cons, List.not_mem_nil, or_false] at hp
    rcases hp with rfl
    · exact xN_ok c_impl_BuildFault_f1 rfl)
noncomputable abbrev b_impl_BuildFault_f3 : Code := bodyOf Try.f98
noncomputable def F_impl_BuildFault_f3 (x1 : K.T (.int .i64)) (x2 : K.T (.int .i64)) (x3 : K.T (.sl k0)) (x4 : K.T (.sl (.int .i64))) (x5 : K.T (.sl (.int .i64))) (x6 : K.T (.sl (.int .i64))) (x7 : K.T (.sl (.int .i64))) (x8 : K.T (.sl (.int .i64))) (x9 : K.T (.int .i64)) (x10 : K.T (.int .i64)) : Option sq_impl_BuildFault_f3.T :=
  (F_impl_BuildFault_f1 x1 x2 x3 x4 x5 x6 x7 x8 x9 x10).bind fun y1 =>
  some (((!y1.1.1), ()), ((), ((y1.2.1.1.1, (y1.2.1.1.2.1, (y1.2.1.1.2.2.1, (y1.2.1.1.2.2.2.1, (y1.2.1.1.2.2.2.2.1, (y1.2.1.1.2.2.2.2.2.1, (y1.2.1.1.2.2.2.2.2.2.1, (y1.2.1.1.2.2.2.2.2.2.2.1, (y1.2.1.1.2.2.2.2.2.2.2.2.1, ()))))))))), ())), ())
noncomputable abbrev U_impl_BuildFault_f3 : sp_impl_BuildFault_f3.T → Option sq_impl_BuildFault_f3.T := fun x => F_impl_BuildFault_f3 x.1.1 x.2.1.2.1.1 x.2.1.2.1.2.1 x.2.1.2.1.2.2.1 x.2.1.2.1.2.2.2.1 x.2.1.2.1.2.2.2.2.1 x.2.1.2.1.2.2.2.2.2.1 x.2.1.2.1.2.2.2.2.2.2.1 x.2.1.2.1.2.2.2.2.2.2.2.1 x.2.1.2.1.2.2.2.2.2.2.2.2.1
theorem e_impl_BuildFault_f3 : ∀ x, evCode ty (gamOf g_impl_BuildFault_f3) j_impl_BuildFault_f3 (lamOf []) b_impl_BuildFault_f3 (sp_impl_BuildFault_f3.hd x) (finN ty sq_impl_BuildFault_f3 [.tmp 3]) = U_impl_BuildFault_f3 x := fun x => by kernel_rfl
theorem c_impl_BuildFault_f3 : FnS P 98 sp_impl_BuildFault_f3 sq_impl_BuildFault_f3 U_impl_BuildFault_f3 :=
  fnS_of_ev tyOk mixed gok_impl_BuildFault_f3 (fn := Try.f98) (by kernel_rfl) (c := b_impl_BuildFault_f3) (by kernel_rfl) (by kernel_rfl) (by kernel_rfl) (lam_ok (tab := []) (by kernel_rfl) (fun p hp => by cases hp)) e_impl_BuildFault_f3

/-! slices.IndexFunc[[]int64,int64] -/
abbrev sp_slices_IndexFunc_int64 : Sp := ⟨19, [(0, .val false (.sl (.int .i64))), (1, .fix (.fn 98 [(60000, 0)]))], [(60000, [.fix (.fn 94 [(60001, 0)])]), (60001, [.val (.int .i64), .val (.sl k0), .val (.sl (.int .i64)), .val (.sl (.int .i64)), .val (.sl (.int .i64)), .val (.sl (.int .i64)), .val (.sl (.int .i64)), .val (.int .i64), .val (.int .i64)])], []⟩
abbrev sq_slices_IndexFunc_int64 : Sp := ⟨1, [(0, .val false (.int .i64))], [(60000, [.fix (.fn 94 [(60001, 0)])]), (60001, [.val (.int .i64), .val (.sl k0), .val (.sl (.int .i64)), .val (.sl (.int .i64)), .val (.sl (.int .i64)), .val (.sl (.int .i64)), .val (.sl (.int .i64)), .val (.int .i64), .val (.int .i64)])], []⟩
noncomputable def g_slices_IndexFunc_int64 : List (FuncId × SumX) := [(98, xN sp_impl_BuildFault_f3 sq_impl_BuildFault_f3 U_impl_BuildFault_f3)]
def j_slices_IndexFunc_int64 : Nat → Option (List (Nat × SS)) := jOf []
theorem gok_slices_IndexFunc_int64 : GOk P (gamOf g_slices_IndexFunc_int64) := gam_ok (tab := g_slices_IndexFunc_int64) (by
    intro p hp
    simp only [g_slices_IndexFunc_int64, List.mem_cons, List.not_mem_nil, or_false] at hp
    rcases hp with rfl
    · exact xN_ok c_impl_BuildFault_f3 rfl)
noncomputable abbrev b_slices_IndexFunc_int64 : Code := bodyOf Try.f152
abbrev sp_slices_IndexFunc_int64_l2 : Sp := ⟨19, [(0, .val false (.sl (.int .i64))), (1, .fix (.fn 98 [(60000, 0)])), (7, .val false (.int .i64)), (8, .val false (.int .i64))], [(60000, [.fix (.fn 94 [(60001, 0)])]), (60001, [.val (.int .i64), .val (.sl k0), .val (.sl (.int .i64)), .val (.sl (.int .i64)), .val (.sl (.int .i64)), .val (.sl (.int .i64)), .val (.sl (.int .i64)), .val (.int .i64), .val (.int .i64)])], []⟩
abbrev xs_slices_IndexFunc_int64_l2 : List (Ex × Sp) := [(.exit 0, ⟨19, [], [(60000, [.fix (.fn 94 [(60001, 0)])]), (60001, [.val (.int .i64), .val (.sl k0), .val (.sl (.int .i64)), .val (.sl (.int .i64)), .val (.sl (.int .i64)), .val (.sl (.int .i64)), .val (.sl (.int .i64)), .val (.int .i64), .val (.int .i64)])], []⟩), (.ret, ⟨19, [(4, .val false (.int .i64))], [(60000, [.fix (.fn 94 [(60001, 0)])]), (60001, [.val (.int .i64), .val (.sl k0), .val (.sl (.int .i64)), .val (.sl (.int .i64)), .val (.sl (.int .i64)), .val (.sl (.int .i64)), .val (.sl (.int .i64)), .val (.int .i64), .val (.int .i64)])], []⟩)]
noncomputable def s_slices_IndexFunc_int64_l2 : sp_slices_IndexFunc_int64_l2.T → Option (sp_slices_IndexFunc_int64_l2.T ⊕ XT xs_slices_IndexFunc_int64_l2) := fun x =>
  bif (decide (x.1.2.2.1 < x.1.2.1)) then
    (bif ib x.1.2.2.1 (x.1.1).length then
    (F_impl_BuildFault_f3 ((x.1.1).getD (Int.toNat x.1.2.2.1) (K.zero (.int .i64))) x.2.1.2.1.1 x.2.1.2.1.2.1 x.2.1.2.1.2.2.1 x.2.1.2.1.2.2.2.1 x.2.1.2.1.2.2.2.2.1 x.2.1.2.1.2.2.2.2.2.1 x.2.1.2.1.2.2.2.2.2.2.1 x.2.1.2.1.2.2.2.2.2.2.2.1 x.2.1.2.1.2.2.2.2.2.2.2.2.1).bind fun y1 =>
    bif y1.1.1 then
      (some (.inr (.inr ((x.1.2.2.1, ()), ((), ((y1.2.1.2.1.1, (y1.2.1.2.1.2.1, (y1.2.1.2.1.2.2.1, (y1.2.1.2.1.2.2.2.1, (y1.2.1.2.1.2.2.2.2.1, (y1.2.1.2.1.2.2.2.2.2.1, (y1.2.1.2.1.2.2.2.2.2.2.1, (y1.2.1.2.1.2.2.2.2.2.2.2.1, (y1.2.1.2.1.2.2.2.2.2.2.2.2.1, ()))))))))), ())), ()))))
    else
    some (.inl ((x.1.1, (x.1.2.1, ((IntKind.wrap .i64 (x.1.2.2.1 + (1 : Int))), ()))), ((), ((y1.2.1.2.1.1, (y1.2.1.2.1.2.1, (y1.2.1.2.1.2.2.1, (y1.2.1.2.1.2.2.2.1, (y1.2.1.2.1.2.2.2.2.1, (y1.2.1.2.1.2.2.2.2.2.1, (y1.2.1.2.1.2.2.2.2.2.2.1, (y1.2.1.2.1.2.2.2.2.2.2.2.1, (y1.2.1.2.1.2.2.2.2.2.2.2.2.1, ()))))))))), ())), ()))
    else none)
  else
  some (.inr (.inl ((), ((), ((x.2.1.2.1.1, (x.2.1.2.1.2.1, (x.2.1.2.1.2.2.1, (x.2.1.2.1.2.2.2.1, (x.2.1.2.1.2.2.2.2.1, (x.2.1.2.1.2.2.2.2.2.1, (x.2.1.2.1.2.2.2.2.2.2.1, (x.2.1.2.1.2.2.2.2.2.2.2.1, (x.2.1.2.1.2.2.2.2.2.2.2.2.1, ()))))))))), ())), ())))
noncomputable def l_slices_IndexFunc_int64_l2 : sp_slices_IndexFunc_int64_l2.T → Option (XT xs_slices_IndexFunc_int64_l2) := lim s_slices_IndexFunc_int64_l2
theorem es_slices_IndexFunc_int64_l2 : ∀ x, evCode ty (gamOf g_slices_IndexFunc_int64) j_slices_IndexFunc_int64 (lamOf []) (loopAt b_slices_IndexFunc_int64 2) (sp_slices_IndexFunc_int64_l2.hd x) (rdK sp_slices_IndexFunc_int64_l2 xs_slices_IndexFunc_int64_l2) = s_slices_IndexFunc_int64_l2 x := fun x => by kernel_rfl
theorem ls_slices_IndexFunc_int64_l2 : LSumOk P (loopAt b_slices_IndexFunc_int64 2) (loopL sp_slices_IndexFunc_int64_l2 xs_slices_IndexFunc_int64_l2 l_slices_IndexFunc_int64_l2) := loop_ok tyOk mixed gok_slices_IndexFunc_int64 (by kernel_rfl) (by kernel_rfl) (lam_ok (tab := []) (by kernel_rfl) (fun p hp => by cases hp)) es_slices_IndexFunc_int64_l2 lim_itr
noncomputable def F_slices_IndexFunc_int64 (x1 : K.T (.sl (.int .i64))) (x2 : K.T (.int .i64)) (x3 : K.T (.sl k0)) (x4 : K.T (.sl (.int .i64))) (x5 : K.T (.sl (.int .i64))) (x6 : K.T (.sl (.int .i64))) (x7 : K.T (.sl (.int .i64))) (x8 : K.T (.sl (.int .i64))) (x9 : K.T (.int .i64)) (x10 : K.T (.int .i64)) : Option sq_slices_IndexFunc_int64.T :=
  (l_slices_IndexFunc_int64_l2 ((x1, (((x1).length : Int), ((0 : Int), ()))), ((), ((x2, (x3, (x4, (x5, (x6, (x7, (x8, (x9, (x10, ()))))))))), ())), ())).bind fun y2 =>
  (match y2 with
  | .inl y3 => some (((-1 : Int), ()), ((), ((y3.2.1.2.1.1, (y3.2.1.2.1.2.1, (y3.2.1.2.1.2.2.1, (y3.2.1.2.1.2.2.2.1, (y3.2.1.2.1.2.2.2.2.1, (y3.2.1.2.1.2.2.2.2.2.1, (y3.2.1.2.1.2.2.2.2.2.2.1, (y3.2.1.2.1.2.2.2.2.2.2.2.1, (y3.2.1.2.1.2.2.2.2.2.2.2.2.1, ()))))))))), ())), ())
  | .inr z4 => some ((z4.1.1, ()), ((), ((z4.2.1.2.1.1, (z4.2.1.2.1.2.1, (z4.2.1.2.1.2.2.1, (z4.2.1.2.1.2.2.2.1, (z4.2.1.2.1.2.2.2.2.1, (z4.2.1.2.1.2.2.2.2.2.1, (z4.2.1.2.1.2.2.2.2.2.2.1, (z4.2.1.2.1.2.2.2.2.2.2.2.1, (z4.2.1.2.1.2.2.2.2.2.2.2.2.1, ()))))))))), ())), ()))
noncomputable abbrev U_slices_IndexFunc_int64 : sp_slices_IndexFunc_int64.T → Option sq_slices_IndexFunc_int64.T := fun x => F_slices_IndexFunc_int64 x.1.1 x.2.1.2.1.1 x.2.1.2.1.2.1 x.2.1.2.1.2.2.1 x.2.1.2.1.2.2.2.1 x.2.1.2.1.2.2.2.2.1 x.2.1.2.1.2.2.2.2.2.1 x.2.1.2.1.2.2.2.2.2.2.1 x.2.1.2.1.2.2.2.2.2.2.2.1 x.2.1.2.1.2.2.2.2.2.2.2.2.1
theorem e_slices_IndexFunc_int64 : ∀ x, evCode ty (gamOf g_slices_IndexFunc_int64) j_slices_IndexFunc_int64 (lamOf [(2, loopL sp_slices_IndexFunc_int64_l2 xs_slices_IndexFunc_int64_l2 l_slices_IndexFunc_int64_l2)]) b_slices_IndexFunc_int64 (sp_slices_IndexFunc_int64.hd x) (finN ty sq_slices_IndexFunc_int64 [.tmp 4]) = U_slices_IndexFunc_int64 x := fun x => by kernel_rfl
theorem c_slices_IndexFunc_int64 : FnS P 152 sp_slices_IndexFunc_int64 sq_slices_IndexFunc_int64 U_slices_IndexFunc_int64 :=
  fnS_of_ev tyOk mixed gok_slices_IndexFunc_int64 (fn := Try.f152) (by kernel_rfl) (c := b_slices_IndexFunc_int64) (by kernel_rfl) (by kernel_rfl) (by kernel_rfl) (lam_ok (tab := [(2, loopL sp_slices_IndexFunc_int64_l2 xs_slices_IndexFunc_int64_l2 l_slices_IndexFunc_int64_l2)]) (by kernel_rfl) (by
    intro p hp
    simp only [List.mem_cons, List.not_mem_nil, or_false] at hp
    rcases hp with rfl
    · exact @ls_slices_IndexFunc_int64_l2)) e_slices_IndexFunc_int64

/-! slices.ContainsFunc[[]int64,int64] -/
abbrev sp_slices_ContainsFunc_int64 : Sp := ⟨9, [(0, .val false (.sl (.int .i64))), (1, .fix (.fn 98 [(60000, 0)]))], [(60000, [.fix (.fn 94 [(60001, 0)])]), (60001, [.val (.int .i64), .val (.sl k0), .val (.sl (.int .i64)), .val (.sl (.int .i64)), .val (.sl (.int .i64)), .val (.sl (.int .i64)), .val (.sl (.int .i64)), .val (.int .i64), .val (.int .i64)])], []⟩
abbrev sq_slices_ContainsFunc_int64 : Sp := ⟨1, [(0, .val false .bool)], [(60000, [.fix (.fn 94 [(60001, 0)])]), (60001, [.val (.int .i64), .val (.sl k0), .val (.sl (.int .i64)), .val (.sl (.int .i64)), .val (.sl (.int .i64)), .val (.sl (.int .i64)), .val (.sl (.int .i64)), .val (.int .i64), .val (.int .i64)])], []⟩
noncomputable def g_slices_ContainsFunc_int64 : List (FuncId × SumX) := [(152, xN sp_slices_IndexFunc_int64 sq_slices_IndexFunc_int64 U_slices_IndexFunc_int64)]
def j_slices_ContainsFunc_int64 : Nat → Option (List (Nat × SS)) := jOf []
theorem gok_slices_ContainsFunc_int64 : GOk P (gamOf g_slices_ContainsFunc_int64) := gam_ok (tab := g_slices_ContainsFunc_int64) (by
    intro p hp
    simp only [g_slices_ContainsFunc_int64, List.mem_cons, List.not_mem_nil, or_false] at hp
    rcases hp with rfl
    · exact xN_ok c_slices_IndexFunc_int64 rfl)
noncomputable abbrev b_slices_ContainsFunc_int64 : Code := bodyOf Try.f97
noncomputable def F_slices_ContainsFunc_int64 (x1 : K.T (.sl (.int .i64))) (x2 : K.T (.int .i64)) (x3 : K.T (.sl k0)) (x4 : K.T (.sl (.int .i64))) (x5 : K.T (.sl (.int .i64))) (x6 : K.T (.sl (.int .i64))) (x7 : K.T (.sl (.int .i64))) (x8 : K.T (.sl (.int .i64))) (x9 : K.T (.int .i64)) (x10 : K.T (.int .i64)) : Option sq_slices_ContainsFunc_int64.T :=
  (F_slices_IndexFunc_int64 x1 x2 x3 x4 x5 x6 x7 x8 x9 x10).bind fun y1 =>
  some (((decide (y1.1.1 ≥ (0 : Int))), ()), ((), ((y1.2.1.2.1.1, (y1.2.1.2.1.2.1, (y1.2.1.2.1.2.2.1, (y1.2.1.2.1.2.2.2.1, (y1.2.1.2.1.2.2.2.2.1, (y1.2.1.2.1.2.2.2.2.2.1, (y1.2.1.2.1.2.2.2.2.2.2.1, (y1.2.1.2.1.2.2.2.2.2.2.2.1, (y1.2.1.2.1.2.2.2.2.2.2.2.2.1, ()))))))))), ())), ())
noncomputable abbrev U_slices_ContainsFunc_int64 : sp_slices_ContainsFunc_int64.T → Option sq_slices_ContainsFunc_int64.T := fun x => F_slices_ContainsFunc_int64 x.1.1 x.2.1.2.1.1 x.2.1.2.1.2.1 x.2.1.2.1.2.2.1 x.2.1.2.1.2.2.2.1 x.2.1.2.1.2.2.2.2.1 x.2.1.2.1.2.2.2.2.2.1 x.2.1.2.1.2.2.2.2.2.2.1 x.2.1.2.1.2.2.2.2.2.2.2.1 x.2.1.2.1.2.2.2.2.2.2.2.2.1
theorem e_slices_ContainsFunc_int64 : ∀ x, evCode ty (gamOf g_slices_ContainsFunc_int64) j_slices_ContainsFunc_int64 (lamOf []) b_slices_ContainsFunc_int64 (sp_slices_ContainsFunc_int64.hd x) (finN ty sq_slices_ContainsFunc_int64 [.tmp 4]) = U_slices_ContainsFunc_int64 x := fun x => by kernel_rfl
theorem c_slices_ContainsFunc_int64 : FnS P 97 sp_slices_ContainsFunc_int64 sq_slices_ContainsFunc_int64 U_slices_ContainsFunc_int64 :=
  fnS_of_ev tyOk mixed gok_slices_ContainsFunc_int64 (fn := Try.f97) (by kernel_rfl) (c := b_slices_ContainsFunc_int64) (by kernel_rfl) (by kernel_rfl) (by kernel_rfl) (lam_ok (tab := []) (by kernel_rfl) (fun p hp => by cases hp)) e_slices_ContainsFunc_int64

/-! slices.Equal[[]int64,int64] -/
abbrev sp_slices_Equal_int64 : Sp := ⟨26, [(0, .val false (.sl (.int .i64))), (1, .val false (.sl (.int .i64)))], [], []⟩
abbrev sq_slices_Equal_int64 : Sp := ⟨1, [(0, .val false .bool)], [], []⟩
noncomputable def g_slices_Equal_int64 : List (FuncId × SumX) := []
def j_slices_Equal_int64 : Nat → Option (List (Nat × SS)) := jOf []
theorem gok_slices_Equal_int64 : GOk P (gamOf g_slices_Equal_int64) := gam_ok (tab := g_slices_Equal_int64) (fun p hp => by cases hp)
noncomputable abbrev b_slices_Equal_int64 : Code := bodyOf Try.f100
abbrev sp_slices_Equal_int64_l4 : Sp := ⟨26, [(0, .val false (.sl (.int .i64))), (1, .val false (.sl (.int .i64))), (12, .val false (.int .i64)), (13, .val false (.int .i64))], [], []⟩
abbrev xs_slices_Equal_int64_l4 : List (Ex × Sp) := [(.exit 0, ⟨26, [], [], []⟩), (.ret, ⟨26, [(4, .val false .bool)], [], []⟩)]
noncomputable def s_slices_Equal_int64_l4 : sp_slices_Equal_int64_l4.T → Option (sp_slices_Equal_int64_l4.T ⊕ XT xs_slices_Equal_int64_l4) := fun x =>
  bif (decide (x.1.2.2.2.1 < x.1.2.2.1)) then
    (bif ib x.1.2.2.2.1 (x.1.1).length then
    bif ib x.1.2.2.2.1 (x.1.2.1).length then
    bif (((x.1.1).getD (Int.toNat x.1.2.2.2.1) (K.zero (.int .i64))) != ((x.1.2.1).getD (Int.toNat x.1.2.2.2.1) (K.zero (.int .i64)))) then
      (some (.inr (.inr ((false, ()), (), ()))))
    else
    some (.inl ((x.1.1, (x.1.2.1, (x.1.2.2.1, ((IntKind.wrap .i64 (x.1.2.2.2.1 + (1 : Int))), ())))), (), ()))
    else none
    else none)
  else
  some (.inr (.inl ((), (), ())))
noncomputable def l_slices_Equal_int64_l4 : sp_slices_Equal_int64_l4.T → Option (XT xs_slices_Equal_int64_l4) := lim s_slices_Equal_int64_l4
theorem es_slices_Equal_int64_l4 : ∀ x, evCode ty (gamOf g_slices_Equal_int64) j_slices_Equal_int64 (lamOf []) (loopAt b_slices_Equal_int64 4) (sp_slices_Equal_int64_l4.hd x) (rdK sp_slices_Equal_int64_l4 xs_slices_Equal_int64_l4) = s_slices_Equal_int64_l4 x := fun x => by kernel_rfl
theorem ls_slices_Equal_int64_l4 : LSumOk P (loopAt b_slices_Equal_int64 4) (loopL sp_slices_Equal_int64_l4 xs_slices_Equal_int64_l4 l_slices_Equal_int64_l4) := loop_ok tyOk mixed gok_slices_Equal_int64 (by kernel_rfl) (by kernel_rfl) (lam_ok (tab := []) (by kernel_rfl) (fun p hp => by cases hp)) es_slices_Equal_int64_l4 lim_itr
noncomputable def F_slices_Equal_int64 (x1 : K.T (.sl (.int .i64))) (x2 : K.T (.sl (.int .i64))) : Option sq_slices_Equal_int64.T :=
  bif (((x1).length : Int) != ((x2).length : Int)) then
    (some ((false, ()), (), ()))
  else
  (l_slices_Equal_int64_l4 ((x1, (x2, (((x1).length : Int), ((0 : Int), ())))), (), ())).bind fun y1 =>
  (match y1 with
  | .inl y2 => some ((true, ()), (), ())
  | .inr z3 => some ((z3.1.1, ()), (), ()))
noncomputable abbrev U_slices_Equal_int64 : sp_slices_Equal_int64.T → Option sq_slices_Equal_int64.T := fun x => F_slices_Equal_int64 x.1.1 x.1.2.1
theorem e_slices_Equal_int64 : ∀ x, evCode ty (gamOf g_slices_Equal_int64) j_slices_Equal_int64 (lamOf [(4, loopL sp_slices_Equal_int64_l4 xs_slices_Equal_int64_l4 l_slices_Equal_int64_l4)]) b_slices_Equal_int64 (sp_slices_Equal_int64.hd x) (finN ty sq_slices_Equal_int64 [.tmp 4]) = U_slices_Equal_int64 x := fun x => by kernel_rfl
theorem c_slices_Equal_int64 : FnS P 100 sp_slices_Equal_int64 sq_slices_Equal_int64 U_slices_Equal_int64 :=
  fnS_of_ev tyOk mixed gok_slices_Equal_int64 (fn := Try.f100) (by kernel_rfl) (c := b_slices_Equal_int64) (by kernel_rfl) (by kernel_rfl) (by kernel_rfl) (lam_ok (tab := [(4, loopL sp_slices_Equal_int64_l4 xs_slices_Equal_int64_l4 l_slices_Equal_int64_l4)]) (by kernel_rfl) (by
    intro p hp
    simp only [List.mem_cons, List.not_mem_nil, or_false] at hp
    rcases hp with rfl
    · exact @ls_slices_Equal_int64_l4)) e_slices_Equal_int64

/-! impl.crcByte -/
abbrev sp_impl_crcByte : Sp := ⟨23, [(0, .val false (.int .i64)), (1, .val false (.int .i64))], [], []⟩
abbrev sq_impl_crcByte : Sp := ⟨1, [(0, .val false (.int .i64))], [], []⟩
noncomputable def g_impl_crcByte : List (FuncId × SumX) := []
def j_impl_crcByte : Nat → Option (List (Nat × SS)) := jOf []
theorem gok_impl_crcByte : GOk P (gamOf g_impl_crcByte) := gam_ok (tab := g_impl_crcByte) (fun p hp => by cases hp)
noncomputable abbrev b_impl_crcByte : Code := bodyOf Try.f160
abbrev sp_impl_crcByte_l3 : Sp := ⟨23, [(0, .val false (.int .i64)), (10, .val false (.int .i64))], [], []⟩
abbrev xs_impl_crcByte_l3 : List (Ex × Sp) := [(.exit 0, ⟨23, [(0, .val false (.int .i64))], [], []⟩)]
noncomputable def s_impl_crcByte_l3 : sp_impl_crcByte_l3.T → Option (sp_impl_crcByte_l3.T ⊕ XT xs_impl_crcByte_l3) := fun x =>
  bif (decide (x.1.2.1 < (8 : Int))) then
    (bif ((IntKind.wrap .i64 (((BitVec.ofInt (IntKind.bits .i64) x.1.1 &&& BitVec.ofInt (IntKind.bits .i64) (32768 : Int)).toNat : Int))) != (0 : Int)) then
      (some (.inl (((IntKind.wrap .i64 (((BitVec.ofInt (IntKind.bits .i64) (IntKind.wrap .i64 (((BitVec.ofInt (IntKind.bits .i64) (IntKind.wrap .i64 ((2 : Int) * x.1.1)) &&& BitVec.ofInt (IntKind.bits .i64) (65535 : Int)).toNat : Int))) ^^^ BitVec.ofInt (IntKind.bits .i64) (4129 : Int)).toNat : Int))), ((IntKind.wrap .i64 (x.1.2.1 + (1 : Int))), ())), (), ())))
    else
    some (.inl (((IntKind.wrap .i64 (((BitVec.ofInt (IntKind.bits .i64) (IntKind.wrap .i64 ((2 : Int) * x.1.1)) &&& BitVec.ofInt (IntKind.bits .i64) (65535 : Int)).toNat : Int))), ((IntKind.wrap .i64 (x.1.2.1 + (1 : Int))), ())), (), ())))
  else
  some (.inr ((x.1.1, ()), (), ()))
noncomputable def l_impl_crcByte_l3 : sp_impl_crcByte_l3.T → Option (XT xs_impl_crcByte_l3) := lim s_impl_crcByte_l3
theorem es_impl_crcByte_l3 : ∀ x, evCode ty (gamOf g_impl_crcByte) j_impl_crcByte (lamOf []) (loopAt b_impl_crcByte 3) (sp_impl_crcByte_l3.hd x) (rdK sp_impl_crcByte_l3 xs_impl_crcByte_l3) = s_impl_crcByte_l3 x := fun x => by kernel_rfl
theorem ls_impl_crcByte_l3 : LSumOk P (loopAt b_impl_crcByte 3) (loopL sp_impl_crcByte_l3 xs_impl_crcByte_l3 l_impl_crcByte_l3) := loop_ok tyOk mixed gok_impl_crcByte (by kernel_rfl) (by kernel_rfl) (lam_ok (tab := []) (by kernel_rfl) (fun p hp => by cases hp)) es_impl_crcByte_l3 lim_itr
noncomputable def F_impl_crcByte (x1 : K.T (.int .i64)) (x2 : K.T (.int .i64)) : Option sq_impl_crcByte.T :=
  (l_impl_crcByte_l3 (((IntKind.wrap .i64 (((BitVec.ofInt (IntKind.bits .i64) x1 ^^^ BitVec.ofInt (IntKind.bits .i64) (IntKind.wrap .i64 ((256 : Int) * x2))).toNat : Int))), ((0 : Int), ())), (), ())).bind fun y1 =>
  some ((y1.1.1, ()), (), ())
noncomputable abbrev U_impl_crcByte : sp_impl_crcByte.T → Option sq_impl_crcByte.T := fun x => F_impl_crcByte x.1.1 x.1.2.1
theorem e_impl_crcByte : ∀ x, evCode ty (gamOf g_impl_crcByte) j_impl_crcByte (lamOf [(3, loopL sp_impl_crcByte_l3 xs_impl_crcByte_l3 l_impl_crcByte_l3)]) b_impl_crcByte (sp_impl_crcByte.hd x) (finN ty sq_impl_crcByte [.tmp 4]) = U_impl_crcByte x := fun x => by kernel_rfl
theorem c_impl_crcByte : FnS P 160 sp_impl_crcByte sq_impl_crcByte U_impl_crcByte :=
  fnS_of_ev tyOk mixed gok_impl_crcByte (fn := Try.f160) (by kernel_rfl) (c := b_impl_crcByte) (by kernel_rfl) (by kernel_rfl) (by kernel_rfl) (lam_ok (tab := [(3, loopL sp_impl_crcByte_l3 xs_impl_crcByte_l3 l_impl_crcByte_l3)]) (by kernel_rfl) (by
    intro p hp
    simp only [List.mem_cons, List.not_mem_nil, or_false] at hp
    rcases hp with rfl
    · exact @ls_impl_crcByte_l3)) e_impl_crcByte

/-! impl.crc -/
abbrev sp_impl_crc : Sp := ⟨21, [(0, .val false (.sl (.int .i64)))], [], []⟩
abbrev sq_impl_crc : Sp := ⟨1, [(0, .val false (.int .i64))], [], []⟩
noncomputable def g_impl_crc : List (FuncId × SumX) := [(160, cN sp_impl_crcByte sq_impl_crcByte U_impl_crcByte)]
def j_impl_crc : Nat → Option (List (Nat × SS)) := jOf []
theorem gok_impl_crc : GOk P (gamOf g_impl_crc) := gam_ok (tab := g_impl_crc) (by
    intro p hp
    simp only [g_impl_crc, List.mem_cons, List.not_mem_nil, or_false] at hp
    rcases hp with rfl
    · exact cN_ok c_impl_crcByte rfl)
noncomputable abbrev b_impl_crc : Code := bodyOf Try.f116
abbrev sp_impl_crc_l3 : Sp := ⟨21, [(3, .val false (.int .i64)), (6, .val false (.sl (.int .i64))), (7, .val false (.int .i64)), (8, .val false (.int .i64))], [], []⟩
abbrev xs_impl_crc_l3 : List (Ex × Sp) := [(.exit 0, ⟨21, [(3, .val false (.int .i64))], [], []⟩)]
noncomputable def s_impl_crc_l3 : sp_impl_crc_l3.T → Option (sp_impl_crc_l3.T ⊕ XT xs_impl_crc_l3) := fun x =>
  bif (decide (x.1.2.2.2.1 < x.1.2.2.1)) then
    (bif ib x.1.2.2.2.1 (x.1.2.1).length then
    (F_impl_crcByte x.1.1 (Int.fdiv ((x.1.2.1).getD (Int.toNat x.1.2.2.2.1) (K.zero (.int .i64))) (2 ^ min (Int.toNat (8 : Int)) (IntKind.bits .i64)))).bind fun y1 =>
    (F_impl_crcByte y1.1.1 (IntKind.wrap .i64 (((BitVec.ofInt (IntKind.bits .i64) ((x.1.2.1).getD (Int.toNat x.1.2.2.2.1) (K.zero (.int .i64))) &&& BitVec.ofInt (IntKind.bits .i64) (255 : Int)).toNat : Int)))).bind fun y2 =>
    some (.inl ((y2.1.1, (x.1.2.1, (x.1.2.2.1, ((IntKind.wrap .i64 (x.1.2.2.2.1 + (1 : Int))), ())))), (), ()))
    else none)
  else
  some (.inr ((x.1.1, ()), (), ()))
noncomputable def l_impl_crc_l3 : sp_impl_crc_l3.T → Option (XT xs_impl_crc_l3) := lim s_impl_crc_l3
theorem es_impl_crc_l3 : ∀ x, evCode ty (gamOf g_impl_crc) j_impl_crc (lamOf []) (loopAt b_impl_crc 3) (sp_impl_crc_l3.hd x) (rdK sp_impl_crc_l3 xs_impl_crc_l3) = s_impl_crc_l3 x := fun x => by kernel_rfl
theorem ls_impl_crc_l3 : LSumOk P (loopAt b_impl_crc 3) (loopL sp_impl_crc_l3 xs_impl_crc_l3 l_impl_crc_l3) := loop_ok tyOk mixed gok_impl_crc (by kernel_rfl) (by kernel_rfl) (lam_ok (tab := []) (by kernel_rfl) (fun p hp => by cases hp)) es_impl_crc_l3 lim_itr
noncomputable def F_impl_crc (x1 : K.T (.sl (.int .i64))) : Option sq_impl_crc.T :=
  (l_impl_crc_l3 (((65535 : Int), (x1, (((x1).length : Int), ((0 : Int), ())))), (), ())).bind fun y3 =>
  some ((y3.1.1, ()), (), ())
noncomputable abbrev U_impl_crc : sp_impl_crc.T → Option sq_impl_crc.T := fun x => F_impl_crc x.1.1
theorem e_impl_crc : ∀ x, evCode ty (gamOf g_impl_crc) j_impl_crc (lamOf [(3, loopL sp_impl_crc_l3 xs_impl_crc_l3 l_impl_crc_l3)]) b_impl_crc (sp_impl_crc.hd x) (finN ty sq_impl_crc [.tmp 2]) = U_impl_crc x := fun x => by kernel_rfl
theorem c_impl_crc : FnS P 116 sp_impl_crc sq_impl_crc U_impl_crc :=
  fnS_of_ev tyOk mixed gok_impl_crc (fn := Try.f116) (by kernel_rfl) (c := b_impl_crc) (by kernel_rfl) (by kernel_rfl) (by kernel_rfl) (lam_ok (tab := [(3, loopL sp_impl_crc_l3 xs_impl_crc_l3 l_impl_crc_l3)]) (by kernel_rfl) (by
    intro p hp
    simp only [List.mem_cons, List.not_mem_nil, or_false] at hp
    rcases hp with rfl
    · exact @ls_impl_crc_l3)) e_impl_crc

/-! impl.blocks -/
abbrev sp_impl_blocks : Sp := ⟨24, [(0, .val false (.sl (.int .i64)))], [], []⟩
abbrev sq_impl_blocks : Sp := ⟨1, [(0, .fix (.own 59000))], [], [(59000, (.sl (.int .i64)), false)]⟩
noncomputable def g_impl_blocks : List (FuncId × SumX) := []
def j_impl_blocks : Nat → Option (List (Nat × SS)) := jOf []
theorem gok_impl_blocks : GOk P (gamOf g_impl_blocks) := gam_ok (tab := g_impl_blocks) (fun p hp => by cases hp)
noncomputable abbrev b_impl_blocks : Code := bodyOf Try.f120
abbrev sp_impl_blocks_l3 : Sp := ⟨24, [(0, .val false (.sl (.int .i64))), (3, .fix (.own 59000)), (4, .val false (.int .i64))], [], [(59000, (.sl (.int .i64)), false)]⟩
abbrev xs_impl_blocks_l3 : List (Ex × Sp) := [(.exit 0, ⟨24, [(3, .fix (.own 59000))], [], [(59000, (.sl (.int .i64)), false)]⟩)]
noncomputable def s_impl_blocks_l3 : sp_impl_blocks_l3.T → Option (sp_impl_blocks_l3.T ⊕ XT xs_impl_blocks_l3) := fun x =>
  bif (decide (x.1.2.1 < ((x.1.1).length : Int))) then
    (bif decide (0 ≤ x.1.2.1 ∧ x.1.2.1 ≤ (mn (IntKind.wrap .i64 (x.1.2.1 + (8 : Int))) ((x.1.1).length : Int)) ∧ (mn (IntKind.wrap .i64 (x.1.2.1 + (8 : Int))) ((x.1.1).length : Int)) ≤ ((x.1.1).length : Int)) then
    bif room (x.2.2.1 ++ [((x.1.1).take (Int.toNat (mn (IntKind.wrap .i64 (x.1.2.1 + (8 : Int))) ((x.1.1).length : Int)))).drop (Int.toNat x.1.2.1)]).length 24 then
    some (.inl ((x.1.1, ((IntKind.wrap .i64 (x.1.2.1 + (8 : Int))), ())), (), ((x.2.2.1 ++ [((x.1.1).take (Int.toNat (mn (IntKind.wrap .i64 (x.1.2.1 + (8 : Int))) ((x.1.1).length : Int)))).drop (Int.toNat x.1.2.1)]), ())))
    else none
    else none)
  else
  some (.inr ((), (), (x.2.2.1, ())))
noncomputable def l_impl_blocks_l3 : sp_impl_blocks_l3.T → Option (XT xs_impl_blocks_l3) := lim s_impl_blocks_l3
theorem es_impl_blocks_l3 : ∀ x, evCode ty (gamOf g_impl_blocks) j_impl_blocks (lamOf []) (loopAt b_impl_blocks 3) (sp_impl_blocks_l3.hd x) (rdK sp_impl_blocks_l3 xs_impl_blocks_l3) = s_impl_blocks_l3 x := fun x => by kernel_rfl
theorem ls_impl_blocks_l3 : LSumOk P (loopAt b_impl_blocks 3) (loopL sp_impl_blocks_l3 xs_impl_blocks_l3 l_impl_blocks_l3) := loop_ok tyOk mixed gok_impl_blocks (by kernel_rfl) (by kernel_rfl) (lam_ok (tab := []) (by kernel_rfl) (fun p hp => by cases hp)) es_impl_blocks_l3 lim_itr
noncomputable def F_impl_blocks (x1 : K.T (.sl (.int .i64))) : Option sq_impl_blocks.T :=
  (l_impl_blocks_l3 ((x1, ((0 : Int), ())), (), ([], ()))).bind fun y1 =>
  some ((), (), (y1.2.2.1, ()))
noncomputable abbrev U_impl_blocks : sp_impl_blocks.T → Option sq_impl_blocks.T := fun x => F_impl_blocks x.1.1
theorem e_impl_blocks : ∀ x, evCode ty (gamOf g_impl_blocks) j_impl_blocks (lamOf [(3, loopL sp_impl_blocks_l3 xs_impl_blocks_l3 l_impl_blocks_l3)]) b_impl_blocks (sp_impl_blocks.hd x) (finN ty sq_impl_blocks [.tmp 2]) = U_impl_blocks x := fun x => by kernel_rfl
theorem c_impl_blocks : FnS P 120 sp_impl_blocks sq_impl_blocks U_impl_blocks :=
  fnS_of_ev tyOk mixed gok_impl_blocks (fn := Try.f120) (by kernel_rfl) (c := b_impl_blocks) (by kernel_rfl) (by kernel_rfl) (by kernel_rfl) (lam_ok (tab := [(3, loopL sp_impl_blocks_l3 xs_impl_blocks_l3 l_impl_blocks_l3)]) (by kernel_rfl) (by
    intro p hp
    simp only [List.mem_cons, List.not_mem_nil, or_false] at hp
    rcases hp with rfl
    · exact @ls_impl_blocks_l3)) e_impl_blocks

/-! impl.blockSums -/
abbrev sp_impl_blockSums : Sp := ⟨21, [(0, .val false (.sl (.int .i64)))], [], []⟩
abbrev sq_impl_blockSums : Sp := ⟨1, [(0, .fix (.own 59000))], [], [(59000, (.int .i64), true)]⟩
noncomputable def g_impl_blockSums : List (FuncId × SumX) := [(116, cN sp_impl_crc sq_impl_crc U_impl_crc), (120, xN sp_impl_blocks sq_impl_blocks U_impl_blocks)]
def j_impl_blockSums : Nat → Option (List (Nat × SS)) := jOf []
theorem gok_impl_blockSums : GOk P (gamOf g_impl_blockSums) := gam_ok (tab := g_impl_blockSums) (by
    intro p hp
    simp only [g_impl_blockSums, List.mem_cons, List.not_mem_nil, or_false] at hp
    rcases hp with rfl | rfl
    · exact cN_ok c_impl_crc rfl
    · exact xN_ok c_impl_blocks rfl)
noncomputable abbrev b_impl_blockSums : Code := bodyOf Try.f101
abbrev sp_impl_blockSums_l3 : Sp := ⟨21, [(3, .fix (.own 59000)), (8, .fix (.own 59001)), (9, .val false (.int .i64)), (10, .val false (.int .i64))], [], [(59000, (.int .i64), true), (59001, (.sl (.int .i64)), false)]⟩
abbrev xs_impl_blockSums_l3 : List (Ex × Sp) := [(.exit 0, ⟨21, [(3, .fix (.own 59000))], [], [(59000, (.int .i64), true)]⟩)]
noncomputable def s_impl_blockSums_l3 : sp_impl_blockSums_l3.T → Option (sp_impl_blockSums_l3.T ⊕ XT xs_impl_blockSums_l3) := fun x =>
  bif (decide (x.1.2.1 < x.1.1)) then
    (bif ib x.1.2.1 (x.2.2.2.1).length then
    (F_impl_crc ((x.2.2.2.1).getD (Int.toNat x.1.2.1) (K.zero (.sl (.int .i64))))).bind fun y2 =>
    bif room (x.2.2.1 ++ [y2.1.1]).length 8 then
    some (.inl ((x.1.1, ((IntKind.wrap .i64 (x.1.2.1 + (1 : Int))), ())), (), ((x.2.2.1 ++ [y2.1.1]), (x.2.2.2.1, ()))))
    else none
    else none)
  else
  some (.inr ((), (), (x.2.2.1, ())))
noncomputable def l_impl_blockSums_l3 : sp_impl_blockSums_l3.T → Option (XT xs_impl_blockSums_l3) := lim s_impl_blockSums_l3
theorem es_impl_blockSums_l3 : ∀ x, evCode ty (gamOf g_impl_blockSums) j_impl_blockSums (lamOf []) (loopAt b_impl_blockSums 3) (sp_impl_blockSums_l3.hd x) (rdK sp_impl_blockSums_l3 xs_impl_blockSums_l3) = s_impl_blockSums_l3 x := fun x => by kernel_rfl
theorem ls_impl_blockSums_l3 : LSumOk P (loopAt b_impl_blockSums 3) (loopL sp_impl_blockSums_l3 xs_impl_blockSums_l3 l_impl_blockSums_l3) := loop_ok tyOk mixed gok_impl_blockSums (by kernel_rfl) (by kernel_rfl) (lam_ok (tab := []) (by kernel_rfl) (fun p hp => by cases hp)) es_impl_blockSums_l3 lim_itr
noncomputable def F_impl_blockSums (x1 : K.T (.sl (.int .i64))) : Option sq_impl_blockSums.T :=
  (F_impl_blocks x1).bind fun y1 =>
  (l_impl_blockSums_l3 ((((y1.2.2.1).length : Int), ((0 : Int), ())), (), ([], (y1.2.2.1, ())))).bind fun y3 =>
  some ((), (), (y3.2.2.1, ()))
noncomputable abbrev U_impl_blockSums : sp_impl_blockSums.T → Option sq_impl_blockSums.T := fun x => F_impl_blockSums x.1.1
theorem e_impl_blockSums : ∀ x, evCode ty (gamOf g_impl_blockSums) j_impl_blockSums (lamOf [(3, loopL sp_impl_blockSums_l3 xs_impl_blockSums_l3 l_impl_blockSums_l3)]) b_impl_blockSums (sp_impl_blockSums.hd x) (finN ty sq_impl_blockSums [.tmp 2]) = U_impl_blockSums x := fun x => by kernel_rfl
theorem c_impl_blockSums : FnS P 101 sp_impl_blockSums sq_impl_blockSums U_impl_blockSums :=
  fnS_of_ev tyOk mixed gok_impl_blockSums (fn := Try.f101) (by kernel_rfl) (c := b_impl_blockSums) (by kernel_rfl) (by kernel_rfl) (by kernel_rfl) (lam_ok (tab := [(3, loopL sp_impl_blockSums_l3 xs_impl_blockSums_l3 l_impl_blockSums_l3)]) (by kernel_rfl) (by
    intro p hp
    simp only [List.mem_cons, List.not_mem_nil, or_false] at hp
    rcases hp with rfl
    · exact @ls_impl_blockSums_l3)) e_impl_blockSums

/-! impl.BuildFault -/
abbrev sp_impl_BuildFault : Sp := ⟨79, [(0, .val true k9)], [], []⟩
abbrev sq_impl_BuildFault : Sp := ⟨1, [(0, .val false (.int .i64))], [], []⟩
noncomputable def g_impl_BuildFault : List (FuncId × SumX) := [(89, cN sp_impl_within sq_impl_within U_impl_within), (95, xN sp_slices_ContainsFunc_Port sq_slices_ContainsFunc_Port U_slices_ContainsFunc_Port), (97, xN sp_slices_ContainsFunc_int64 sq_slices_ContainsFunc_int64 U_slices_ContainsFunc_int64), (99, cN sp_impl_WordsFault sq_impl_WordsFault U_impl_WordsFault), (100, cN sp_slices_Equal_int64 sq_slices_Equal_int64 U_slices_Equal_int64), (101, fN sp_impl_blockSums sq_impl_blockSums U_impl_blockSums)]
def j_impl_BuildFault : Nat → Option (List (Nat × SS)) := jOf [(2, [(8, .val false .bool)]), (4, [(25, .val false .bool)])]
theorem gok_impl_BuildFault : GOk P (gamOf g_impl_BuildFault) := gam_ok (tab := g_impl_BuildFault) (by
    intro p hp
    simp only [g_impl_BuildFault, List.mem_cons, List.not_mem_nil, or_false] at hp
    rcases hp with rfl | rfl | rfl | rfl | rfl | rfl
    · exact cN_ok c_impl_within rfl
    · exact xN_ok c_slices_ContainsFunc_Port rfl
    · exact xN_ok c_slices_ContainsFunc_int64 rfl
    · exact cN_ok c_impl_WordsFault rfl
    · exact cN_ok c_slices_Equal_int64 rfl
    · exact fN_ok c_impl_blockSums rfl)
noncomputable abbrev b_impl_BuildFault : Code := bodyOf Try.f34
abbrev sp_impl_BuildFault_l9 : Sp := ⟨79, [(1, .fix (.ptr 59000 0)), (51, .fix (.own 59000)), (52, .val false (.int .i64)), (53, .val false (.int .i64))], [(59000, [.val (.int .i64), .val (.sl k0), .val (.sl (.int .i64)), .val (.sl (.int .i64)), .val (.sl (.int .i64)), .val (.sl (.int .i64)), .val (.sl (.int .i64)), .val (.int .i64), .val (.int .i64)])], [(59000, (.sl (.int .i64)), false)]⟩
abbrev xs_impl_BuildFault_l9 : List (Ex × Sp) := [(.exit 1, ⟨79, [(1, .fix (.ptr 59000 0))], [(59000, [.val (.int .i64), .val (.sl k0), .val (.sl (.int .i64)), .val (.sl (.int .i64)), .val (.sl (.int .i64)), .val (.sl (.int .i64)), .val (.sl (.int .i64)), .val (.int .i64), .val (.int .i64)])], []⟩), (.ret, ⟨79, [(2, .val false (.int .i64))], [], []⟩)]
noncomputable def s_impl_BuildFault_l9 : sp_impl_BuildFault_l9.T → Option (sp_impl_BuildFault_l9.T ⊕ XT xs_impl_BuildFault_l9) := fun x =>
  bif (decide (x.1.2.1 < x.1.1)) then
    (bif ib x.1.2.1 (x.2.2.1).length then
    (F_impl_WordsFault ((x.2.2.1).getD (Int.toNat x.1.2.1) (K.zero (.sl (.int .i64))))).bind fun y8 =>
    bif (y8.1.1 != (0 : Int)) then
      (some (.inr (.inr ((y8.1.1, ()), (), ()))))
    else
    some (.inl ((x.1.1, ((IntKind.wrap .i64 (x.1.2.1 + (1 : Int))), ())), ((x.2.1.1.1, (x.2.1.1.2.1, (x.2.1.1.2.2.1, (x.2.1.1.2.2.2.1, (x.2.1.1.2.2.2.2.1, (x.2.1.1.2.2.2.2.2.1, (x.2.1.1.2.2.2.2.2.2.1, (x.2.1.1.2.2.2.2.2.2.2.1, (x.2.1.1.2.2.2.2.2.2.2.2.1, ()))))))))), ()), (x.2.2.1, ())))
    else none)
  else
  some (.inr (.inl ((), ((x.2.1.1.1, (x.2.1.1.2.1, (x.2.1.1.2.2.1, (x.2.1.1.2.2.2.1, (x.2.1.1.2.2.2.2.1, (x.2.1.1.2.2.2.2.2.1, (x.2.1.1.2.2.2.2.2.2.1, (x.2.1.1.2.2.2.2.2.2.2.1, (x.2.1.1.2.2.2.2.2.2.2.2.1, ()))))))))), ()), ())))
noncomputable def l_impl_BuildFault_l9 : sp_impl_BuildFault_l9.T → Option (XT xs_impl_BuildFault_l9) := lim s_impl_BuildFault_l9
theorem es_impl_BuildFault_l9 : ∀ x, evCode ty (gamOf g_impl_BuildFault) j_impl_BuildFault (lamOf []) (loopAt b_impl_BuildFault 9) (sp_impl_BuildFault_l9.hd x) (rdK sp_impl_BuildFault_l9 xs_impl_BuildFault_l9) = s_impl_BuildFault_l9 x := fun x => by kernel_rfl
theorem ls_impl_BuildFault_l9 : LSumOk P (loopAt b_impl_BuildFault 9) (loopL sp_impl_BuildFault_l9 xs_impl_BuildFault_l9 l_impl_BuildFault_l9) := loop_ok tyOk mixed gok_impl_BuildFault (by kernel_rfl) (by kernel_rfl) (lam_ok (tab := []) (by kernel_rfl) (fun p hp => by cases hp)) es_impl_BuildFault_l9 lim_itr
noncomputable def F_impl_BuildFault (x1 : K.T k9) : Option sq_impl_BuildFault.T :=
  ((F_impl_within x1.1 (0 : Int) (80 : Int)).bind fun y1 =>
    bif (!y1.1.1) then
      (some (true, ()))
    else
    (F_impl_within x1.2.2.2.2.2.2.2.1 (0 : Int) (20000 : Int)).bind fun y2 =>
    bif (!y2.1.1) then
      (some (true, ()))
    else
    (F_impl_within x1.2.2.2.2.2.2.2.2 (0 : Int) (20000 : Int)).bind fun y3 =>
    some ((!y3.1.1), ())).bind fun y4 =>
  bif y4.1 then
    (some (((3 : Int), ()), (), ()))
  else
  (bif (decide (((x1.2.1).length : Int) > (24 : Int))) then
      (some (true, ()))
    else
    some ((decide (((x1.2.2.1).length : Int) > (60 : Int))), ())).bind fun y5 =>
  bif y5.1 then
    (some (((2 : Int), ()), (), ()))
  else
  (F_slices_ContainsFunc_Port x1.2.1 x1.1 x1.2.1 x1.2.2.1 x1.2.2.2.1 x1.2.2.2.2.1 x1.2.2.2.2.2.1 x1.2.2.2.2.2.2.1 x1.2.2.2.2.2.2.2.1 x1.2.2.2.2.2.2.2.2).bind fun y6 =>
  bif y6.1.1 then
    (some (((3 : Int), ()), (), ()))
  else
  (F_slices_ContainsFunc_int64 y6.2.1.2.1.2.2.1 y6.2.1.2.1.1 y6.2.1.2.1.2.1 y6.2.1.2.1.2.2.1 y6.2.1.2.1.2.2.2.1 y6.2.1.2.1.2.2.2.2.1 y6.2.1.2.1.2.2.2.2.2.1 y6.2.1.2.1.2.2.2.2.2.2.1 y6.2.1.2.1.2.2.2.2.2.2.2.1 y6.2.1.2.1.2.2.2.2.2.2.2.2.1).bind fun y7 =>
  bif y7.1.1 then
    (some (((3 : Int), ()), (), ()))
  else
  (l_impl_BuildFault_l9 (((([y7.2.1.2.1.2.2.2.1, y7.2.1.2.1.2.2.2.2.1]).length : Int), ((0 : Int), ())), ((y7.2.1.2.1.1, (y7.2.1.2.1.2.1, (y7.2.1.2.1.2.2.1, (y7.2.1.2.1.2.2.2.1, (y7.2.1.2.1.2.2.2.2.1, (y7.2.1.2.1.2.2.2.2.2.1, (y7.2.1.2.1.2.2.2.2.2.2.1, (y7.2.1.2.1.2.2.2.2.2.2.2.1, (y7.2.1.2.1.2.2.2.2.2.2.2.2.1, ()))))))))), ()), ([y7.2.1.2.1.2.2.2.1, y7.2.1.2.1.2.2.2.2.1], ()))).bind fun y9 =>
  (match y9 with
  | .inl y10 => (F_impl_blockSums y10.2.1.1.2.2.2.1).bind fun y12 =>
    (F_slices_Equal_int64 y10.2.1.1.2.2.2.2.2.1 y12.2.2.1).bind fun y13 =>
    bif (!y13.1.1) then
      (some (((6 : Int), ()), (), ()))
    else
    (F_impl_blockSums y10.2.1.1.2.2.2.2.1).bind fun y14 =>
    (F_slices_Equal_int64 y10.2.1.1.2.2.2.2.2.2.1 y14.2.2.1).bind fun y15 =>
    bif (!y15.1.1) then
      (some (((6 : Int), ()), (), ()))
    else
    some (((0 : Int), ()), (), ())
  | .inr z11 => some ((z11.1.1, ()), (), ()))
noncomputable abbrev U_impl_BuildFault : sp_impl_BuildFault.T → Option sq_impl_BuildFault.T := fun x => F_impl_BuildFault x.1.1
theorem e_impl_BuildFault : ∀ x, evCode ty (gamOf g_impl_BuildFault) j_impl_BuildFault (lamOf [(9, loopL sp_impl_BuildFault_l9 xs_impl_BuildFault_l9 l_impl_BuildFault_l9)]) b_impl_BuildFault (sp_impl_BuildFault.hd x) (finN ty sq_impl_BuildFault [.tmp 2]) = U_impl_BuildFault x := fun x => by kernel_rfl
theorem c_impl_BuildFault : FnS P 34 sp_impl_BuildFault sq_impl_BuildFault U_impl_BuildFault :=
  fnS_of_ev tyOk mixed gok_impl_BuildFault (fn := Try.f34) (by kernel_rfl) (c := b_impl_BuildFault) (by kernel_rfl) (by kernel_rfl) (by kernel_rfl) (lam_ok (tab := [(9, loopL sp_impl_BuildFault_l9 xs_impl_BuildFault_l9 l_impl_BuildFault_l9)]) (by kernel_rfl) (by
    intro p hp
    simp only [List.mem_cons, List.not_mem_nil, or_false] at hp
    rcases hp with rfl
    · exact @ls_impl_BuildFault_l9)) e_impl_BuildFault

/-! impl.PlantFault$1 -/
abbrev sp_impl_PlantFault_f1 : Sp := ⟨29, [(0, .val true k5), (1, .val false (.int .i64)), (2, .val false (.sl (.int .i64))), (3, .fix (.ptr 60000 0))], [(60000, [.val (.int .i64), .val (.sl k0), .val (.sl (.int .i64)), .val (.sl (.int .i64)), .val (.sl (.int .i64)), .val (.sl (.int .i64)), .val (.sl (.int .i64)), .val (.int .i64), .val (.int .i64), .val (.int .i64), .val (.sl (.int .i64)), .val (.sl (.int .i64)), .val (.sl (.int .i64)), .val (.int .i64), .val (.int .i64), .val (.int .i64), .val (.sl (.int .i64)), .val (.sl (.int .i64)), .val (.sl (.int .i64)), .val (.int .i64), .val (.int .i64), .val .bool, .val (.int .i64), .val (.int .i64), .val (.sl (.int .i64)), .val (.int .i64)])], []⟩
abbrev sq_impl_PlantFault_f1 : Sp := ⟨1, [(0, .val false .bool)], [(60000, [.val (.int .i64), .val (.sl k0), .val (.sl (.int .i64)), .val (.sl (.int .i64)), .val (.sl (.int .i64)), .val (.sl (.int .i64)), .val (.sl (.int .i64)), .val (.int .i64), .val (.int .i64), .val (.int .i64), .val (.sl (.int .i64)), .val (.sl (.int .i64)), .val (.sl (.int .i64)), .val (.int .i64), .val (.int .i64), .val (.int .i64), .val (.sl (.int .i64)), .val (.sl (.int .i64)), .val (.sl (.int .i64)), .val (.int .i64), .val (.int .i64), .val .bool, .val (.int .i64), .val (.int .i64), .val (.sl (.int .i64)), .val (.int .i64)])], []⟩
noncomputable def g_impl_PlantFault_f1 : List (FuncId × SumX) := []
def j_impl_PlantFault_f1 : Nat → Option (List (Nat × SS)) := jOf [(1, [(7, .val false .bool)])]
theorem gok_impl_PlantFault_f1 : GOk P (gamOf g_impl_PlantFault_f1) := gam_ok (tab := g_impl_PlantFault_f1) (fun p hp => by cases hp)
noncomputable abbrev b_impl_PlantFault_f1 : Code := bodyOf Try.f123
noncomputable def F_impl_PlantFault_f1 (x1 : K.T k5) (x2 : K.T (.int .i64)) (x3 : K.T (.sl (.int .i64))) (x4 : K.T (.int .i64)) (x5 : K.T (.sl k0)) (x6 : K.T (.sl (.int .i64))) (x7 : K.T (.sl (.int .i64))) (x8 : K.T (.sl (.int .i64))) (x9 : K.T (.sl (.int .i64))) (x10 : K.T (.sl (.int .i64))) (x11 : K.T (.int .i64)) (x12 : K.T (.int .i64)) (x13 : K.T (.int .i64)) (x14 : K.T (.sl (.int .i64))) (x15 : K.T (.sl (.int .i64))) (x16 : K.T (.sl (.int .i64))) (x17 : K.T (.int .i64)) (x18 : K.T (.int .i64)) (x19 : K.T (.int .i64)) (x20 : K.T (.sl (.int .i64))) (x21 : K.T (.sl (.int .i64))) (x22 : K.T (.sl (.int .i64))) (x23 : K.T (.int .i64)) (x24 : K.T (.int .i64)) (x25 : K.T .bool) (x26 : K.T (.int .i64)) (x27 : K.T (.int .i64)) (x28 : K.T (.sl (.int .i64))) (x29 : K.T (.int .i64)) : Option sq_impl_PlantFault_f1.T :=
  (bif (x1.1 == x2) then
      (bif (((x1.2.1).length : Int) == ((x3).length : Int)) then
        (some ((((x1.2.2.2.1).length : Int) == x4), ()))
      else
      some (false, ()))
    else
    some (false, ())).bind fun y1 =>
  some ((y1.1, ()), ((x4, (x5, (x6, (x7, (x8, (x9, (x10, (x11, (x12, (x13, (x14, (x15, (x16, (x17, (x18, (x19, (x20, (x21, (x22, (x23, (x24, (x25, (x26, (x27, (x28, (x29, ())))))))))))))))))))))))))), ()), ())
noncomputable abbrev U_impl_PlantFault_f1 : sp_impl_PlantFault_f1.T → Option sq_impl_PlantFault_f1.T := fun x => F_impl_PlantFault_f1 x.1.1 x.1.2.1 x.1.2.2.1 x.2.1.1.1 x.2.1.1.2.1 x.2.1.1.2.2.1 x.2.1.1.2.2.2.1 x.2.1.1.2.2.2.2.1 x.2.1.1.2.2.2.2.2.1 x.2.1.1.2.2.2.2.2.2.1 x.2.1.1.2.2.2.2.2.2.2.1 x.2.1.1.2.2.2.2.2.2.2.2.1 x.2.1.1.2.2.2.2.2.2.2.2.2.1 x.2.1.1.2.2.2.2.2.2.2.2.2.2.1 x.2.1.1.2.2.2.2.2.2.2.2.2.2.2.1 x.2.1.1.2.2.2.2.2.2.2.2.2.2.2.2.1 x.2.1.1.2.2.2.2.2.2.2.2.2.2.2.2.2.1 x.2.1.1.2.2.2.2.2.2.2.2.2.2.2.2.2.2.1 x.2.1.1.2.2.2.2.2.2.2.2.2.2.2.2.2.2.2.1 x.2.1.1.2.2.2.2.2.2.2.2.2.2.2.2.2.2.2.2.1 x.2.1.1.2.2.2.2.2.2.2.2.2.2.2.2.2.2.2.2.2.1 x.2.1.1.2.2.2.2.2.2.2.2.2.2.2.2.2.2.2.2.2.2.1 x.2.1.1.2.2.2.2.2.2.2.2.2.2.2.2.2.2.2.2.2.2.2.1 x.2.1.1.2.2.2.2.2.2.2.2.2.2.2.2.2.2.2.2.2.2.2.2.1 x.2.1.1.2.2.2.2.2.2.2.2.2.2.2.2.2.2.2.2.2.2.2.2.2.1 x.2.1.1.2.2.2.2.2.2.2.2.2.2.2.2.2.2.2.2.2.2.2.2.2.2.1 x.2.1.1.2.2.2.2.2.2.2.2.2.2.2.2.2.2.2.2.2.2.2.2.2.2.2.1 x.2.1.1.2.2.2.2.2.2.2.2.2.2.2.2.2.2.2.2.2.2.2.2.2.2.2.2.1 x.2.1.1.2.2.2.2.2.2.2.2.2.2.2.2.2.2.2.2.2.2.2.2.2.2.2.2.2.1
theorem e_impl_PlantFault_f1 : ∀ x, evCode ty (gamOf g_impl_PlantFault_f1) j_impl_PlantFault_f1 (lamOf []) b_impl_PlantFault_f1 (sp_impl_PlantFault_f1.hd x) (finN ty sq_impl_PlantFault_f1 [.tmp 7]) = U_impl_PlantFault_f1 x := fun x => by kernel_rfl
theorem c_impl_PlantFault_f1 : FnS P 123 sp_impl_PlantFault_f1 sq_impl_PlantFault_f1 U_impl_PlantFault_f1 :=
  fnS_of_ev tyOk mixed gok_impl_PlantFault_f1 (fn := Try.f123) (by kernel_rfl) (c := b_impl_PlantFault_f1) (by kernel_rfl) (by kernel_rfl) (by kernel_rfl) (lam_ok (tab := []) (by kernel_rfl) (fun p hp => by cases hp)) e_impl_PlantFault_f1

/-! impl.allZero$1 -/
abbrev sp_impl_allZero_f1 : Sp := ⟨5, [(0, .val false (.int .i64))], [], []⟩
abbrev sq_impl_allZero_f1 : Sp := ⟨1, [(0, .val false .bool)], [], []⟩
noncomputable def g_impl_allZero_f1 : List (FuncId × SumX) := []
def j_impl_allZero_f1 : Nat → Option (List (Nat × SS)) := jOf []
theorem gok_impl_allZero_f1 : GOk P (gamOf g_impl_allZero_f1) := gam_ok (tab := g_impl_allZero_f1) (fun p hp => by cases hp)
noncomputable abbrev b_impl_allZero_f1 : Code := bodyOf Try.f163
noncomputable def F_impl_allZero_f1 (x1 : K.T (.int .i64)) : Option sq_impl_allZero_f1.T :=
  some (((x1 != (0 : Int)), ()), (), ())
noncomputable abbrev U_impl_allZero_f1 : sp_impl_allZero_f1.T → Option sq_impl_allZero_f1.T := fun x => F_impl_allZero_f1 x.1.1
theorem e_impl_allZero_f1 : ∀ x, evCode ty (gamOf g_impl_allZero_f1) j_impl_allZero_f1 (lamOf []) b_impl_allZero_f1 (sp_impl_allZero_f1.hd x) (finN ty sq_impl_allZero_f1 [.tmp 2]) = U_impl_allZero_f1 x := fun x => by kernel_rfl
theorem c_impl_allZero_f1 : FnS P 163 sp_impl_allZero_f1 sq_impl_allZero_f1 U_impl_allZero_f1 :=
  fnS_of_ev tyOk mixed gok_impl_allZero_f1 (fn := Try.f163) (by kernel_rfl) (c := b_impl_allZero_f1) (by kernel_rfl) (by kernel_rfl) (by kernel_rfl) (lam_ok (tab := []) (by kernel_rfl) (fun p hp => by cases hp)) e_impl_allZero_f1

/-! slices.IndexFunc[[]int64,int64] -/
abbrev sp_slices_IndexFunc_int64_2 : Sp := ⟨19, [(0, .val false (.sl (.int .i64))), (1, .fix (.fn 163 []))], [], []⟩
abbrev sq_slices_IndexFunc_int64_2 : Sp := ⟨1, [(0, .val false (.int .i64))], [], []⟩
noncomputable def g_slices_IndexFunc_int64_2 : List (FuncId × SumX) := [(163, cN sp_impl_allZero_f1 sq_impl_allZero_f1 U_impl_allZero_f1)]
def j_slices_IndexFunc_int64_2 : Nat → Option (List (Nat × SS)) := jOf []
theorem gok_slices_IndexFunc_int64_2 : GOk P (gamOf g_slices_IndexFunc_int64_2) := gam_ok (tab := g_slices_IndexFunc_int64_2) (by
    intro p hp
    simp only [g_slices_IndexFunc_int64_2, List.mem_cons, List.not_mem_nil, or_false] at hp
    rcases hp with rfl
    · exact cN_ok c_impl_allZero_f1 rfl)
noncomputable abbrev b_slices_IndexFunc_int64_2 : Code := bodyOf Try.f152
abbrev sp_slices_IndexFunc_int64_2_l2 : Sp := ⟨19, [(0, .val false (.sl (.int .i64))), (1, .fix (.fn 163 [])), (7, .val false (.int .i64)), (8, .val false (.int .i64))], [], []⟩
abbrev xs_slices_IndexFunc_int64_2_l2 : List (Ex × Sp) := [(.exit 0, ⟨19, [], [], []⟩), (.ret, ⟨19, [(4, .val false (.int .i64))], [], []⟩)]
noncomputable def s_slices_IndexFunc_int64_2_l2 : sp_slices_IndexFunc_int64_2_l2.T → Option (sp_slices_IndexFunc_int64_2_l2.T ⊕ XT xs_slices_IndexFunc_int64_2_l2) := fun x =>
  bif (decide (x.1.2.2.1 < x.1.2.1)) then
    (bif ib x.1.2.2.1 (x.1.1).length then
    (F_impl_allZero_f1 ((x.1.1).getD (Int.toNat x.1.2.2.1) (K.zero (.int .i64)))).bind fun y1 =>
    bif y1.1.1 then
      (some (.inr (.inr ((x.1.2.2.1, ()), (), ()))))
    else
    some (.inl ((x.1.1, (x.1.2.1, ((IntKind.wrap .i64 (x.1.2.2.1 + (1 : Int))), ()))), (), ()))
    else none)
  else
  some (.inr (.inl ((), (), ())))
noncomputable def l_slices_IndexFunc_int64_2_l2 : sp_slices_IndexFunc_int64_2_l2.T → Option (XT xs_slices_IndexFunc_int64_2_l2) := lim s_slices_IndexFunc_int64_2_l2
theorem es_slices_IndexFunc_int64_2_l2 : ∀ x, evCode ty (gamOf g_slices_IndexFunc_int64_2) j_slices_IndexFunc_int64_2 (lamOf []) (loopAt b_slices_IndexFunc_int64_2 2) (sp_slices_IndexFunc_int64_2_l2.hd x) (rdK sp_slices_IndexFunc_int64_2_l2 xs_slices_IndexFunc_int64_2_l2) = s_slices_IndexFunc_int64_2_l2 x := fun x => by kernel_rfl
theorem ls_slices_IndexFunc_int64_2_l2 : LSumOk P (loopAt b_slices_IndexFunc_int64_2 2) (loopL sp_slices_IndexFunc_int64_2_l2 xs_slices_IndexFunc_int64_2_l2 l_slices_IndexFunc_int64_2_l2) := loop_ok tyOk mixed gok_slices_IndexFunc_int64_2 (by kernel_rfl) (by kernel_rfl) (lam_ok (tab := []) (by kernel_rfl) (fun p hp => by cases hp)) es_slices_IndexFunc_int64_2_l2 lim_itr
noncomputable def F_slices_IndexFunc_int64_2 (x1 : K.T (.sl (.int .i64))) : Option sq_slices_IndexFunc_int64_2.T :=
  (l_slices_IndexFunc_int64_2_l2 ((x1, (((x1).length : Int), ((0 : Int), ()))), (), ())).bind fun y2 =>
  (match y2 with
  | .inl y3 => some (((-1 : Int), ()), (), ())
  | .inr z4 => some ((z4.1.1, ()), (), ()))
noncomputable abbrev U_slices_IndexFunc_int64_2 : sp_slices_IndexFunc_int64_2.T → Option sq_slices_IndexFunc_int64_2.T := fun x => F_slices_IndexFunc_int64_2 x.1.1
theorem e_slices_IndexFunc_int64_2 : ∀ x, evCode ty (gamOf g_slices_IndexFunc_int64_2) j_slices_IndexFunc_int64_2 (lamOf [(2, loopL sp_slices_IndexFunc_int64_2_l2 xs_slices_IndexFunc_int64_2_l2 l_slices_IndexFunc_int64_2_l2)]) b_slices_IndexFunc_int64_2 (sp_slices_IndexFunc_int64_2.hd x) (finN ty sq_slices_IndexFunc_int64_2 [.tmp 4]) = U_slices_IndexFunc_int64_2 x := fun x => by kernel_rfl
theorem c_slices_IndexFunc_int64_2 : FnS P 152 sp_slices_IndexFunc_int64_2 sq_slices_IndexFunc_int64_2 U_slices_IndexFunc_int64_2 :=
  fnS_of_ev tyOk mixed gok_slices_IndexFunc_int64_2 (fn := Try.f152) (by kernel_rfl) (c := b_slices_IndexFunc_int64_2) (by kernel_rfl) (by kernel_rfl) (by kernel_rfl) (lam_ok (tab := [(2, loopL sp_slices_IndexFunc_int64_2_l2 xs_slices_IndexFunc_int64_2_l2 l_slices_IndexFunc_int64_2_l2)]) (by kernel_rfl) (by
    intro p hp
    simp only [List.mem_cons, List.not_mem_nil, or_false] at hp
    rcases hp with rfl
    · exact @ls_slices_IndexFunc_int64_2_l2)) e_slices_IndexFunc_int64_2

/-! slices.ContainsFunc[[]int64,int64] -/
abbrev sp_slices_ContainsFunc_int64_2 : Sp := ⟨9, [(0, .val false (.sl (.int .i64))), (1, .fix (.fn 163 []))], [], []⟩
abbrev sq_slices_ContainsFunc_int64_2 : Sp := ⟨1, [(0, .val false .bool)], [], []⟩
noncomputable def g_slices_ContainsFunc_int64_2 : List (FuncId × SumX) := [(152, cN sp_slices_IndexFunc_int64_2 sq_slices_IndexFunc_int64_2 U_slices_IndexFunc_int64_2)]
def j_slices_ContainsFunc_int64_2 : Nat → Option (List (Nat × SS)) := jOf []
theorem gok_slices_ContainsFunc_int64_2 : GOk P (gamOf g_slices_ContainsFunc_int64_2) := gam_ok (tab := g_slices_ContainsFunc_int64_2) (by
    intro p hp
    simp only [g_slices_ContainsFunc_int64_2, List.mem_cons, List.not_mem_nil, or_false] at hp
    rcases hp with rfl
    · exact cN_ok c_slices_IndexFunc_int64_2 rfl)
noncomputable abbrev b_slices_ContainsFunc_int64_2 : Code := bodyOf Try.f97
noncomputable def F_slices_ContainsFunc_int64_2 (x1 : K.T (.sl (.int .i64))) : Option sq_slices_ContainsFunc_int64_2.T :=
  (F_slices_IndexFunc_int64_2 x1).bind fun y1 =>
  some (((decide (y1.1.1 ≥ (0 : Int))), ()), (), ())
noncomputable abbrev U_slices_ContainsFunc_int64_2 : sp_slices_ContainsFunc_int64_2.T → Option sq_slices_ContainsFunc_int64_2.T := fun x => F_slices_ContainsFunc_int64_2 x.1.1
theorem e_slices_ContainsFunc_int64_2 : ∀ x, evCode ty (gamOf g_slices_ContainsFunc_int64_2) j_slices_ContainsFunc_int64_2 (lamOf []) b_slices_ContainsFunc_int64_2 (sp_slices_ContainsFunc_int64_2.hd x) (finN ty sq_slices_ContainsFunc_int64_2 [.tmp 4]) = U_slices_ContainsFunc_int64_2 x := fun x => by kernel_rfl
theorem c_slices_ContainsFunc_int64_2 : FnS P 97 sp_slices_ContainsFunc_int64_2 sq_slices_ContainsFunc_int64_2 U_slices_ContainsFunc_int64_2 :=
  fnS_of_ev tyOk mixed gok_slices_ContainsFunc_int64_2 (fn := Try.f97) (by kernel_rfl) (c := b_slices_ContainsFunc_int64_2) (by kernel_rfl) (by kernel_rfl) (by kernel_rfl) (lam_ok (tab := []) (by kernel_rfl) (fun p hp => by cases hp)) e_slices_ContainsFunc_int64_2

/-! impl.allZero -/
abbrev sp_impl_allZero : Sp := ⟨6, [(0, .val false (.sl (.int .i64)))], [], []⟩
abbrev sq_impl_allZero : Sp := ⟨1, [(0, .val false .bool)], [], []⟩
noncomputable def g_impl_allZero : List (FuncId × SumX) := [(97, cN sp_slices_ContainsFunc_int64_2 sq_slices_ContainsFunc_int64_2 U_slices_ContainsFunc_int64_2)]
def j_impl_allZero : Nat → Option (List (Nat × SS)) := jOf []
theorem gok_impl_allZero : GOk P (gamOf g_impl_allZero) := gam_ok (tab := g_impl_allZero) (by
    intro p hp
    simp only [g_impl_allZero, List.mem_cons, List.not_mem_nil, or_false] at hp
    rcases hp with rfl
    · exact cN_ok c_slices_ContainsFunc_int64_2 rfl)
noncomputable abbrev b_impl_allZero : Code := bodyOf Try.f124
noncomputable def F_impl_allZero (x1 : K.T (.sl (.int .i64))) : Option sq_impl_allZero.T :=
  (F_slices_ContainsFunc_int64_2 x1).bind fun y1 =>
  some (((!y1.1.1), ()), (), ())
noncomputable abbrev U_impl_allZero : sp_impl_allZero.T → Option sq_impl_allZero.T := fun x => F_impl_allZero x.1.1
theorem e_impl_allZero : ∀ x, evCode ty (gamOf g_impl_allZero) j_impl_allZero (lamOf []) b_impl_allZero (sp_impl_allZero.hd x) (finN ty sq_impl_allZero [.tmp 2]) = U_impl_allZero x := fun x => by kernel_rfl
theorem c_impl_allZero : FnS P 124 sp_impl_allZero sq_impl_allZero U_impl_allZero :=
  fnS_of_ev tyOk mixed gok_impl_allZero (fn := Try.f124) (by kernel_rfl) (c := b_impl_allZero) (by kernel_rfl) (by kernel_rfl) (by kernel_rfl) (lam_ok (tab := []) (by kernel_rfl) (fun p hp => by cases hp)) e_impl_allZero

/-! impl.PlantFault -/
abbrev sp_impl_PlantFault : Sp := ⟨105, [(0, .val true k16)], [], []⟩
abbrev sq_impl_PlantFault : Sp := ⟨1, [(0, .val false (.int .i64))], [], []⟩
noncomputable def g_impl_PlantFault : List (FuncId × SumX) := [(34, cN sp_impl_BuildFault sq_impl_BuildFault U_impl_BuildFault), (82, cN sp_impl_ChanFault sq_impl_ChanFault U_impl_ChanFault), (89, cN sp_impl_within sq_impl_within U_impl_within), (115, cN sp_impl_areWords sq_impl_areWords U_impl_areWords), (123, xN sp_impl_PlantFault_f1 sq_impl_PlantFault_f1 U_impl_PlantFault_f1), (124, cN sp_impl_allZero sq_impl_allZero U_impl_allZero)]
def j_impl_PlantFault : Nat → Option (List (Nat × SS)) := jOf [(10, [(45, .val false .bool)]), (13, [(62, .val false .bool)]), (14, [(62, .val false .bool)]), (15, [(62, .val false .bool)])]
theorem gok_impl_PlantFault : GOk P (gamOf g_impl_PlantFault) := gam_ok (tab := g_impl_PlantFault) (by
    intro p hp
    simp only [g_impl_PlantFault, List.mem_cons, List.not_mem_nil, or_false] at hp
    rcases hp with rfl | rfl | rfl | rfl | rfl | rfl
    · exact cN_ok c_impl_BuildFault rfl
    · exact cN_ok c_impl_ChanFault rfl
    · exact cN_ok c_impl_within rfl
    · exact cN_ok c_impl_areWords rfl
    · exact xN_ok c_impl_PlantFault_f1 rfl
    · exact cN_ok c_impl_allZero rfl)
noncomputable abbrev b_impl_PlantFault : Code := bodyOf Try.f54
abbrev sp_impl_PlantFault_l2 : Sp := ⟨105, [(1, .fix (.ptr 59000 0)), (15, .fix (.own 59000)), (16, .val false (.int .i64)), (17, .val false (.int .i64))], [(59000, [.val (.int .i64), .val (.sl k0), .val (.sl (.int .i64)), .val (.sl (.int .i64)), .val (.sl (.int .i64)), .val (.sl (.int .i64)), .val (.sl (.int .i64)), .val (.int .i64), .val (.int .i64), .val (.int .i64), .val (.sl (.int .i64)), .val (.sl (.int .i64)), .val (.sl (.int .i64)), .val (.int .i64), .val (.int .i64), .val (.int .i64), .val (.sl (.int .i64)), .val (.sl (.int .i64)), .val (.sl (.int .i64)), .val (.int .i64), .val (.int .i64), .val .bool, .val (.int .i64), .val (.int .i64), .val (.sl (.int .i64)), .val (.int .i64)])], [(59000, (.int .i64), true)]⟩
abbrev xs_impl_PlantFault_l2 : List (Ex × Sp) := [(.exit 0, ⟨105, [(1, .fix (.ptr 59000 0))], [(59000, [.val (.int .i64), .val (.sl k0), .val (.sl (.int .i64)), .val (.sl (.int .i64)), .val (.sl (.int .i64)), .val (.sl (.int .i64)), .val (.sl (.int .i64)), .val (.int .i64), .val (.int .i64), .val (.int .i64), .val (.sl (.int .i64)), .val (.sl (.int .i64)), .val (.sl (.int .i64)), .val (.int .i64), .val (.int .i64), .val (.int .i64), .val (.sl (.int .i64)), .val (.sl (.int .i64)), .val (.sl (.int .i64)), .val (.int .i64), .val (.int .i64), .val .bool, .val (.int .i64), .val (.int .i64), .val (.sl (.int .i64)), .val (.int .i64)])], []⟩), (.ret, ⟨105, [(2, .val false (.int .i64))], [], []⟩)]
noncomputable def s_impl_PlantFault_l2 : sp_impl_PlantFault_l2.T → Option (sp_impl_PlantFault_l2.T ⊕ XT xs_impl_PlantFault_l2) := fun x =>
  bif (decide (x.1.2.1 < x.1.1)) then
    (bif ib x.1.2.1 (x.2.2.1).length then
    bif (((x.2.2.1).getD (Int.toNat x.1.2.1) (K.zero (.int .i64))) != (0 : Int)) then
      (some (.inr (.inr ((((x.2.2.1).getD (Int.toNat x.1.2.1) (K.zero (.int .i64))), ()), (), ()))))
    else
    some (.inl ((x.1.1, ((IntKind.wrap .i64 (x.1.2.1 + (1 : Int))), ())), ((x.2.1.1.1, (x.2.1.1.2.1, (x.2.1.1.2.2.1, (x.2.1.1.2.2.2.1, (x.2.1.1.2.2.2.2.1, (x.2.1.1.2.2.2.2.2.1, (x.2.1.1.2.2.2.2.2.2.1, (x.2.1.1.2.2.2.2.2.2.2.1, (x.2.1.1.2.2.2.2.2.2.2.2.1, (x.2.1.1.2.2.2.2.2.2.2.2.2.1, (x.2.1.1.2.2.2.2.2.2.2.2.2.2.1, (x.2.1.1.2.2.2.2.2.2.2.2.2.2.2.1, (x.2.1.1.2.2.2.2.2.2.2.2.2.2.2.2.1, (x.2.1.1.2.2.2.2.2.2.2.2.2.2.2.2.2.1, (x.2.1.1.2.2.2.2.2.2.2.2.2.2.2.2.2.2.1, (x.2.1.1.2.2.2.2.2.2.2.2.2.2.2.2.2.2.2.1, (x.2.1.1.2.2.2.2.2.2.2.2.2.2.2.2.2.2.2.2.1, (x.2.1.1.2.2.2.2.2.2.2.2.2.2.2.2.2.2.2.2.2.1, (x.2.1.1.2.2.2.2.2.2.2.2.2.2.2.2.2.2.2.2.2.2.1, (x.2.1.1.2.2.2.2.2.2.2.2.2.2.2.2.2.2.2.2.2.2.2.1, (x.2.1.1.2.2.2.2.2.2.2.2.2.2.2.2.2.2.2.2.2.2.2.2.1, (x.2.1.1.2.2.2.2.2.2.2.2.2.2.2.2.2.2.2.2.2.2.2.2.2.1, (x.2.1.1.2.2.2.2.2.2.2.2.2.2.2.2.2.2.2.2.2.2.2.2.2.2.1, (x.2.1.1.2.2.2.2.2.2.2.2.2.2.2.2.2.2.2.2.2.2.2.2.2.2.2.1, (x.2.1.1.2.2.2.2.2.2.2.2.2.2.2.2.2.2.2.2.2.2.2.2.2.2.2.2.1, (x.2.1.1.2.2.2.2.2.2.2.2.2.2.2.2.2.2.2.2.2.2.2.2.2.2.2.2.2.1, ())))))))))))))))))))))))))), ()), (x.2.2.1, ())))
    else none)
  else
  some (.inr (.inl ((), ((x.2.1.1.1, (x.2.1.1.2.1, (x.2.1.1.2.2.1, (x.2.1.1.2.2.2.1, (x.2.1.1.2.2.2.2.1, (x.2.1.1.2.2.2.2.2.1, (x.2.1.1.2.2.2.2.2.2.1, (x.2.1.1.2.2.2.2.2.2.2.1, (x.2.1.1.2.2.2.2.2.2.2.2.1, (x.2.1.1.2.2.2.2.2.2.2.2.2.1, (x.2.1.1.2.2.2.2.2.2.2.2.2.2.1, (x.2.1.1.2.2.2.2.2.2.2.2.2.2.2.1, (x.2.1.1.2.2.2.2.2.2.2.2.2.2.2.2.1, (x.2.1.1.2.2.2.2.2.2.2.2.2.2.2.2.2.1, (x.2.1.1.2.2.2.2.2.2.2.2.2.2.2.2.2.2.1, (x.2.1.1.2.2.2.2.2.2.2.2.2.2.2.2.2.2.2.1, (x.2.1.1.2.2.2.2.2.2.2.2.2.2.2.2.2.2.2.2.1, (x.2.1.1.2.2.2.2.2.2.2.2.2.2.2.2.2.2.2.2.2.1, (x.2.1.1.2.2.2.2.2.2.2.2.2.2.2.2.2.2.2.2.2.2.1, (x.2.1.1.2.2.2.2.2.2.2.2.2.2.2.2.2.2.2.2.2.2.2.1, (x.2.1.1.2.2.2.2.2.2.2.2.2.2.2.2.2.2.2.2.2.2.2.2.1, (x.2.1.1.2.2.2.2.2.2.2.2.2.2.2.2.2.2.2.2.2.2.2.2.2.1, (x.2.1.1.2.2.2.2.2.2.2.2.2.2.2.2.2.2.2.2.2.2.2.2.2.2.1, (x.2.1.1.2.2.2.2.2.2.2.2.2.2.2.2.2.2.2.2.2.2.2.2.2.2.2.1, (x.2.1.1.2.2.2.2.2.2.2.2.2.2.2.2.2.2.2.2.2.2.2.2.2.2.2.2.1, (x.2.1.1.2.2.2.2.2.2.2.2.2.2.2.2.2.2.2.2.2.2.2.2.2.2.2.2.2.1, ())))))))))))))))))))))))))), ()), ())))
noncomputable def l_impl_PlantFault_l2 : sp_impl_PlantFault_l2.T → Option (XT xs_impl_PlantFault_l2) := lim s_impl_PlantFault_l2
theorem es_impl_PlantFault_l2 : ∀ x, evCode ty (gamOf g_impl_PlantFault) j_impl_PlantFault (lamOf []) (loopAt b_impl_PlantFault 2) (sp_impl_PlantFault_l2.hd x) (rdK sp_impl_PlantFault_l2 xs_impl_PlantFault_l2) = s_impl_PlantFault_l2 x := fun x => by kernel_rfl
theorem ls_impl_PlantFault_l2 : LSumOk P (loopAt b_impl_PlantFault 2) (loopL sp_impl_PlantFault_l2 xs_impl_PlantFault_l2 l_impl_PlantFault_l2) := loop_ok tyOk mixed gok_impl_PlantFault (by kernel_rfl) (by kernel_rfl) (lam_ok (tab := []) (by kernel_rfl) (fun p hp => by cases hp)) es_impl_PlantFault_l2 lim_itr
noncomputable def F_impl_PlantFault (x1 : K.T k16) : Option sq_impl_PlantFault.T :=
  (F_impl_BuildFault x1.1).bind fun y1 =>
  (F_impl_ChanFault x1.2.1).bind fun y2 =>
  (F_impl_ChanFault x1.2.2.1).bind fun y3 =>
  (l_impl_PlantFault_l2 (((([y1.1.1, y2.1.1, y3.1.1]).length : Int), ((0 : Int), ())), ((x1.1.1, (x1.1.2.1, (x1.1.2.2.1, (x1.1.2.2.2.1, (x1.1.2.2.2.2.1, (x1.1.2.2.2.2.2.1, (x1.1.2.2.2.2.2.2.1, (x1.1.2.2.2.2.2.2.2.1, (x1.1.2.2.2.2.2.2.2.2, (x1.2.1.1, (x1.2.1.2.1, (x1.2.1.2.2.1, (x1.2.1.2.2.2.1, (x1.2.1.2.2.2.2.1, (x1.2.1.2.2.2.2.2, (x1.2.2.1.1, (x1.2.2.1.2.1, (x1.2.2.1.2.2.1, (x1.2.2.1.2.2.2.1, (x1.2.2.1.2.2.2.2.1, (x1.2.2.1.2.2.2.2.2, (x1.2.2.2.1, (x1.2.2.2.2.1, (x1.2.2.2.2.2.1, (x1.2.2.2.2.2.2.1, (x1.2.2.2.2.2.2.2, ())))))))))))))))))))))))))), ()), ([y1.1.1, y2.1.1, y3.1.1], ()))).bind fun y4 =>
  (match y4 with
  | .inl y5 => (F_impl_PlantFault_f1 (y5.2.1.1.2.2.2.2.2.2.2.2.2.1, (y5.2.1.1.2.2.2.2.2.2.2.2.2.2.1, (y5.2.1.1.2.2.2.2.2.2.2.2.2.2.2.1, (y5.2.1.1.2.2.2.2.2.2.2.2.2.2.2.2.1, (y5.2.1.1.2.2.2.2.2.2.2.2.2.2.2.2.2.1, y5.2.1.1.2.2.2.2.2.2.2.2.2.2.2.2.2.2.1))))) (1 : Int) y5.2.1.1.2.2.2.1 y5.2.1.1.1 y5.2.1.1.2.1 y5.2.1.1.2.2.1 y5.2.1.1.2.2.2.1 y5.2.1.1.2.2.2.2.1 y5.2.1.1.2.2.2.2.2.1 y5.2.1.1.2.2.2.2.2.2.1 y5.2.1.1.2.2.2.2.2.2.2.1 y5.2.1.1.2.2.2.2.2.2.2.2.1 y5.2.1.1.2.2.2.2.2.2.2.2.2.1 y5.2.1.1.2.2.2.2.2.2.2.2.2.2.1 y5.2.1.1.2.2.2.2.2.2.2.2.2.2.2.1 y5.2.1.1.2.2.2.2.2.2.2.2.2.2.2.2.1 y5.2.1.1.2.2.2.2.2.2.2.2.2.2.2.2.2.1 y5.2.1.1.2.2.2.2.2.2.2.2.2.2.2.2.2.2.1 y5.2.1.1.2.2.2.2.2.2.2.2.2.2.2.2.2.2.2.1 y5.2.1.1.2.2.2.2.2.2.2.2.2.2.2.2.2.2.2.2.1 y5.2.1.1.2.2.2.2.2.2.2.2.2.2.2.2.2.2.2.2.2.1 y5.2.1.1.2.2.2.2.2.2.2.2.2.2.2.2.2.2.2.2.2.2.1 y5.2.1.1.2.2.2.2.2.2.2.2.2.2.2.2.2.2.2.2.2.2.2.1 y5.2.1.1.2.2.2.2.2.2.2.2.2.2.2.2.2.2.2.2.2.2.2.2.1 y5.2.1.1.2.2.2.2.2.2.2.2.2.2.2.2.2.2.2.2.2.2.2.2.2.1 y5.2.1.1.2.2.2.2.2.2.2.2.2.2.2.2.2.2.2.2.2.2.2.2.2.2.1 y5.2.1.1.2.2.2.2.2.2.2.2.2.2.2.2.2.2.2.2.2.2.2.2.2.2.2.1 y5.2.1.1.2.2.2.2.2.2.2.2.2.2.2.2.2.2.2.2.2.2.2.2.2.2.2.2.1 y5.2.1.1.2.2.2.2.2.2.2.2.2.2.2.2.2.2.2.2.2.2.2.2.2.2.2.2.2.1).bind fun y7 =>
    bif (!y7.1.1) then
      (some (((1 : Int), ()), (), ()))
    else
    (F_impl_PlantFault_f1 (y7.2.1.1.2.2.2.2.2.2.2.2.2.2.2.2.2.2.2.1, (y7.2.1.1.2.2.2.2.2.2.2.2.2.2.2.2.2.2.2.2.1, (y7.2.1.1.2.2.2.2.2.2.2.2.2.2.2.2.2.2.2.2.2.1, (y7.2.1.1.2.2.2.2.2.2.2.2.2.2.2.2.2.2.2.2.2.2.1, (y7.2.1.1.2.2.2.2.2.2.2.2.2.2.2.2.2.2.2.2.2.2.2.1, y7.2.1.1.2.2.2.2.2.2.2.2.2.2.2.2.2.2.2.2.2.2.2.2.1))))) (2 : Int) y7.2.1.1.2.2.2.2.1 y7.2.1.1.1 y7.2.1.1.2.1 y7.2.1.1.2.2.1 y7.2.1.1.2.2.2.1 y7.2.1.1.2.2.2.2.1 y7.2.1.1.2.2.2.2.2.1 y7.2.1.1.2.2.2.2.2.2.1 y7.2.1.1.2.2.2.2.2.2.2.1 y7.2.1.1.2.2.2.2.2.2.2.2.1 y7.2.1.1.2.2.2.2.2.2.2.2.2.1 y7.2.1.1.2.2.2.2.2.2.2.2.2.2.1 y7.2.1.1.2.2.2.2.2.2.2.2.2.2.2.1 y7.2.1.1.2.2.2.2.2.2.2.2.2.2.2.2.1 y7.2.1.1.2.2.2.2.2.2.2.2.2.2.2.2.2.1 y7.2.1.1.2.2.2.2.2.2.2.2.2.2.2.2.2.2.1 y7.2.1.1.2.2.2.2.2.2.2.2.2.2.2.2.2.2.2.1 y7.2.1.1.2.2.2.2.2.2.2.2.2.2.2.2.2.2.2.2.1 y7.2.1.1.2.2.2.2.2.2.2.2.2.2.2.2.2.2.2.2.2.1 y7.2.1.1.2.2.2.2.2.2.2.2.2.2.2.2.2.2.2.2.2.2.1 y7.2.1.1.2.2.2.2.2.2.2.2.2.2.2.2.2.2.2.2.2.2.2.1 y7.2.1.1.2.2.2.2.2.2.2.2.2.2.2.2.2.2.2.2.2.2.2.2.1 y7.2.1.1.2.2.2.2.2.2.2.2.2.2.2.2.2.2.2.2.2.2.2.2.2.1 y7.2.1.1.2.2.2.2.2.2.2.2.2.2.2.2.2.2.2.2.2.2.2.2.2.2.1 y7.2.1.1.2.2.2.2.2.2.2.2.2.2.2.2.2.2.2.2.2.2.2.2.2.2.2.1 y7.2.1.1.2.2.2.2.2.2.2.2.2.2.2.2.2.2.2.2.2.2.2.2.2.2.2.2.1 y7.2.1.1.2.2.2.2.2.2.2.2.2.2.2.2.2.2.2.2.2.2.2.2.2.2.2.2.2.1).bind fun y8 =>
    bif (!y8.1.1) then
      (some (((1 : Int), ()), (), ()))
    else
    ((F_impl_within y8.2.1.1.2.2.2.2.2.2.2.2.2.2.2.2.2.2.2.2.2.2.2.2.2.2.2.2.2.1 (0 : Int) (1000000 : Int)).bind fun y9 =>
      bif (!y9.1.1) then
        (some (true, ()))
      else
      (F_impl_within y8.2.1.1.2.2.2.2.2.2.2.2.2.2.2.2.2.2.2.2.2.2.2.2.2.2.1 (0 : Int) (4 : Int)).bind fun y10 =>
      bif (!y10.1.1) then
        (some (true, ()))
      else
      (F_impl_within y8.2.1.1.2.2.2.2.2.2.2.2.2.2.2.2.2.2.2.2.2.2.2.2.2.2.2.1 (0 : Int) (10 : Int)).bind fun y11 =>
      some ((!y11.1.1), ())).bind fun y12 =>
    bif y12.1 then
      (some (((3 : Int), ()), (), ()))
    else
    bif (((y8.2.1.1.2.2.2.2.2.2.2.2.2.2.2.2.2.2.2.2.2.2.2.2.2.2.2.2.1).length : Int) != ((y8.2.1.1.2.2.1).length : Int)) then
      (some (((1 : Int), ()), (), ()))
    else
    (bif y8.2.1.1.2.2.2.2.2.2.2.2.2.2.2.2.2.2.2.2.2.2.2.2.2.1 then
        ((F_impl_allZero y8.2.1.1.2.2.2.2.2.2.2.2.2.2.2.2.2.2.2.2.2.2.2.2.2.2.2.2.1).bind fun y13 =>
        bif (!y13.1.1) then
          (some (true, ()))
        else
        some ((y8.2.1.1.2.2.2.2.2.2.2.2.2.2.2.2.2.2.2.2.2.2.2.2.2.2.1 == (0 : Int)), ()))
      else
      some (false, ())).bind fun y14 =>
    bif y14.1 then
      (some (((1 : Int), ()), (), ()))
    else
    (bif (!y8.2.1.1.2.2.2.2.2.2.2.2.2.2.2.2.2.2.2.2.2.2.2.2.2.1) then
        (some ((y8.2.1.1.2.2.2.2.2.2.2.2.2.2.2.2.2.2.2.2.2.2.2.2.2.2.1 != (0 : Int)), ()))
      else
      some (false, ())).bind fun y15 =>
    bif y15.1 then
      (some (((1 : Int), ()), (), ()))
    else
    (bif (y8.2.1.1.2.2.2.2.2.2.2.2.2.2.2.2.2.2.2.2.2.2.2.2.2.2.1 != (3 : Int)) then
        (some ((y8.2.1.1.2.2.2.2.2.2.2.2.2.2.2.2.2.2.2.2.2.2.2.2.2.2.2.1 != (0 : Int)), ()))
      else
      some (false, ())).bind fun y16 =>
    bif y16.1 then
      (some (((1 : Int), ()), (), ()))
    else
    (F_impl_areWords y8.2.1.1.2.2.2.2.2.2.2.2.2.2.2.2.2.2.2.2.2.2.2.2.2.2.2.2.1).bind fun y17 =>
    bif (!y17.1.1) then
      (some (((3 : Int), ()), (), ()))
    else
    some (((0 : Int), ()), (), ())
  | .inr z6 => some ((z6.1.1, ()), (), ()))
noncomputable abbrev U_impl_PlantFault : sp_impl_PlantFault.T → Option sq_impl_PlantFault.T := fun x => F_impl_PlantFault x.1.1
theorem e_impl_PlantFault : ∀ x, evCode ty (gamOf g_impl_PlantFault) j_impl_PlantFault (lamOf [(2, loopL sp_impl_PlantFault_l2 xs_impl_PlantFault_l2 l_impl_PlantFault_l2)]) b_impl_PlantFault (sp_impl_PlantFault.hd x) (finN ty sq_impl_PlantFault [.tmp 2]) = U_impl_PlantFault x := fun x => by kernel_rfl
theorem c_impl_PlantFault : FnS P 54 sp_impl_PlantFault sq_impl_PlantFault U_impl_PlantFault :=
  fnS_of_ev tyOk mixed gok_impl_PlantFault (fn := Try.f54) (by kernel_rfl) (c := b_impl_PlantFault) (by kernel_rfl) (by kernel_rfl) (by kernel_rfl) (lam_ok (tab := [(2, loopL sp_impl_PlantFault_l2 xs_impl_PlantFault_l2 l_impl_PlantFault_l2)]) (by kernel_rfl) (by
    intro p hp
    simp only [List.mem_cons, List.not_mem_nil, or_false] at hp
    rcases hp with rfl
    · exact @ls_impl_PlantFault_l2)) e_impl_PlantFault

/-! slices.Clone[[]impl.Port,impl.Port] -/
abbrev sp_slices_Clone_Port : Sp := ⟨8, [(0, .val false (.sl k0))], [], []⟩
abbrev sq_slices_Clone_Port : Sp := ⟨1, [(0, .fix (.own 59000))], [], [(59000, k0, true)]⟩
noncomputable def g_slices_Clone_Port : List (FuncId × SumX) := []
def j_slices_Clone_Port : Nat → Option (List (Nat × SS)) := jOf []
theorem gok_slices_Clone_Port : GOk P (gamOf g_slices_Clone_Port) := gam_ok (tab := g_slices_Clone_Port) (fun p hp => by cases hp)
noncomputable abbrev b_slices_Clone_Port : Code := bodyOf Try.f179
noncomputable def F_slices_Clone_Port (x1 : K.T (.sl k0)) : Option sq_slices_Clone_Port.T :=
  nilB ((x1).isEmpty)
    (some ((), (), ([], ())))
    (bif room ([] ++ x1).length 16 then
    some ((), (), (([] ++ x1), ()))
    else none)
noncomputable abbrev U_slices_Clone_Port : sp_slices_Clone_Port.T → Option sq_slices_Clone_Port.T := fun x => F_slices_Clone_Port x.1.1
theorem e_slices_Clone_Port : ∀ x, evCode ty (gamOf g_slices_Clone_Port) j_slices_Clone_Port (lamOf []) b_slices_Clone_Port (sp_slices_Clone_Port.hd x) (finN ty sq_slices_Clone_Port [.tmp 2]) = U_slices_Clone_Port x := fun x => by kernel_rfl
theorem c_slices_Clone_Port : FnS P 179 sp_slices_Clone_Port sq_slices_Clone_Port U_slices_Clone_Port :=
  fnS_of_ev tyOk mixed gok_slices_Clone_Port (fn := Try.f179) (by kernel_rfl) (c := b_slices_Clone_Port) (by kernel_rfl) (by kernel_rfl) (by kernel_rfl) (lam_ok (tab := []) (by kernel_rfl) (fun p hp => by cases hp)) e_slices_Clone_Port

/-! (impl.Build).copied -/
abbrev sp_impl_Build_copied : Sp := ⟨28, [(0, .val true k9)], [], []⟩
abbrev sq_impl_Build_copied : Sp := ⟨1, [(0, .mix true [.val (.int .i64), .fix (.own 59000), .fix (.own 59001), .fix (.own 59002), .fix (.own 59003), .fix (.own 59004), .fix (.own 59005), .val (.int .i64), .val (.int .i64)])], [], [(59000, k0, true), (59001, (.int .i64), true), (59002, (.int .i64), true), (59003, (.int .i64), true), (59004, (.int .i64), true), (59005, (.int .i64), true)]⟩
noncomputable def g_impl_Build_copied : List (FuncId × SumX) := [(117, fN sp_slices_Clone_int64 sq_slices_Clone_int64 U_slices_Clone_int64), (179, fN sp_slices_Clone_Port sq_slices_Clone_Port U_slices_Clone_Port)]
def j_impl_Build_copied : Nat → Option (List (Nat × SS)) := jOf []
theorem gok_impl_Build_copied : GOk P (gamOf g_impl_Build_copied) := gam_ok (tab := g_impl_Build_copied) (by
    intro p hp
    simp only [g_impl_Build_copied, List.mem_cons, List.not_mem_nil, or_false] at hp
    rcases hp with rfl | rfl
    · exact fN_ok c_slices_Clone_int64 rfl
    · exact fN_ok c_slices_Clone_Port rfl)
noncomputable abbrev b_impl_Build_copied : Code := bodyOf Try.f158
noncomputable def F_impl_Build_copied (x1 : K.T k9) : Option sq_impl_Build_copied.T :=
  (F_slices_Clone_Port x1.2.1).bind fun y1 =>
  (F_slices_Clone_int64 x1.2.2.1).bind fun y2 =>
  (F_slices_Clone_int64 x1.2.2.2.1).bind fun y3 =>
  (F_slices_Clone_int64 x1.2.2.2.2.1).bind fun y4 =>
  (F_slices_Clone_int64 x1.2.2.2.2.2.1).bind fun y5 =>
  (F_slices_Clone_int64 x1.2.2.2.2.2.2.1).bind fun y6 =>
  some (((x1.1, (x1.2.2.2.2.2.2.2.1, (x1.2.2.2.2.2.2.2.2, ()))), ()), (), (y1.2.2.1, (y2.2.2.1, (y3.2.2.1, (y4.2.2.1, (y5.2.2.1, (y6.2.2.1, ())))))))
noncomputable abbrev U_impl_Build_copied : sp_impl_Build_copied.T → Option sq_impl_Build_copied.T := fun x => F_impl_Build_copied x.1.1
theorem e_impl_Build_copied : ∀ x, evCode ty (gamOf g_impl_Build_copied) j_impl_Build_copied (lamOf []) b_impl_Build_copied (sp_impl_Build_copied.hd x) (finN ty sq_impl_Build_copied [.cell 2 49]) = U_impl_Build_copied x := fun x => by kernel_rfl
theorem c_impl_Build_copied : FnS P 158 sp_impl_Build_copied sq_impl_Build_copied U_impl_Build_copied :=
  fnS_of_ev tyOk mixed gok_impl_Build_copied (fn := Try.f158) (by kernel_rfl) (c := b_impl_Build_copied) (by kernel_rfl) (by kernel_rfl) (by kernel_rfl) (lam_ok (tab := []) (by kernel_rfl) (fun p hp => by cases hp)) e_impl_Build_copied

/-! (impl.Plant).copied -/
abbrev sp_impl_Plant_copied : Sp := ⟨20, [(0, .val true k16)], [], []⟩
abbrev sq_impl_Plant_copied : Sp := ⟨1, [(0, .mix true [.val (.int .i64), .fix (.own 59000), .fix (.own 59001), .fix (.own 59002), .fix (.own 59003), .fix (.own 59004), .fix (.own 59005), .val (.int .i64), .val (.int .i64), .val (.int .i64), .fix (.own 59006), .fix (.own 59007), .fix (.own 59008), .val (.int .i64), .val (.int .i64), .val (.int .i64), .fix (.own 59009), .fix (.own 59010), .fix (.own 59011), .val (.int .i64), .val (.int .i64), .val .bool, .val (.int .i64), .val (.int .i64), .fix (.own 59012), .val (.int .i64)])], [], [(59000, k0, true), (59001, (.int .i64), true), (59002, (.int .i64), true), (59003, (.int .i64), true), (59004, (.int .i64), true), (59005, (.int .i64), true), (59006, (.int .i64), true), (59007, (.int .i64), true), (59008, (.int .i64), true), (59009, (.int .i64), true), (59010, (.int .i64), true), (59011, (.int .i64), true), (59012, (.int .i64), true)]⟩
noncomputable def g_impl_Plant_copied : List (FuncId × SumX) := [(87, fN sp_impl_Chan_copied sq_impl_Chan_copied U_impl_Chan_copied), (117, fN sp_slices_Clone_int64 sq_slices_Clone_int64 U_slices_Clone_int64), (158, fN sp_impl_Build_copied sq_impl_Build_copied U_impl_Build_copied)]
def j_impl_Plant_copied : Nat → Option (List (Nat × SS)) := jOf []
theorem gok_impl_Plant_copied : GOk P (gamOf g_impl_Plant_copied) := gam_ok (tab := g_impl_Plant_copied) (by
    intro p hp
    simp only [g_impl_Plant_copied, List.mem_cons, List.not_mem_nil, or_false] at hp
    rcases hp with rfl | rfl | rfl
    · exact fN_ok c_impl_Chan_copied rfl
    · exact fN_ok c_slices_Clone_int64 rfl
    · exact fN_ok c_impl_Build_copied rfl)
noncomputable abbrev b_impl_Plant_copied : Code := bodyOf Try.f139
noncomputable def F_impl_Plant_copied (x1 : K.T k16) : Option sq_impl_Plant_copied.T :=
  (F_impl_Build_copied x1.1).bind fun y1 =>
  (F_impl_Chan_copied x1.2.1).bind fun y2 =>
  (F_impl_Chan_copied x1.2.2.1).bind fun y3 =>
  (F_slices_Clone_int64 x1.2.2.2.2.2.2.1).bind fun y4 =>
  some (((y1.1.1.1, (y1.1.1.2.1, (y1.1.1.2.2.1, (y2.1.1.1, (y2.1.1.2.1, (y2.1.1.2.2.1, (y3.1.1.1, (y3.1.1.2.1, (y3.1.1.2.2.1, (x1.2.2.2.1, (x1.2.2.2.2.1, (x1.2.2.2.2.2.1, (x1.2.2.2.2.2.2.2, ()))))))))))))), ()), (), (y1.2.2.1, (y1.2.2.2.1, (y1.2.2.2.2.1, (y1.2.2.2.2.2.1, (y1.2.2.2.2.2.2.1, (y1.2.2.2.2.2.2.2.1, (y2.2.2.1, (y2.2.2.2.1, (y2.2.2.2.2.1, (y3.2.2.1, (y3.2.2.2.1, (y3.2.2.2.2.1, (y4.2.2.1, ()))))))))))))))
noncomputable abbrev U_impl_Plant_copied : sp_impl_Plant_copied.T → Option sq_impl_Plant_copied.T := fun x => F_impl_Plant_copied x.1.1
theorem e_impl_Plant_copied : ∀ x, evCode ty (gamOf g_impl_Plant_copied) j_impl_Plant_copied (lamOf []) b_impl_Plant_copied (sp_impl_Plant_copied.hd x) (finN ty sq_impl_Plant_copied [.cell 2 72]) = U_impl_Plant_copied x := fun x => by kernel_rfl
theorem c_impl_Plant_copied : FnS P 139 sp_impl_Plant_copied sq_impl_Plant_copied U_impl_Plant_copied :=
  fnS_of_ev tyOk mixed gok_impl_Plant_copied (fn := Try.f139) (by kernel_rfl) (c := b_impl_Plant_copied) (by kernel_rfl) (by kernel_rfl) (by kernel_rfl) (lam_ok (tab := []) (by kernel_rfl) (fun p hp => by cases hp)) e_impl_Plant_copied

/-! impl.HurtPlant -/
abbrev sp_impl_HurtPlant : Sp := ⟨56, [(0, .val true k16), (1, .val false (.int .i64)), (2, .val false (.int .i64)), (3, .val false (.int .i64)), (4, .val false (.int .i64))], [], []⟩
abbrev sq_impl_HurtPlant : Sp := ⟨1, [(0, .mix true [.val (.int .i64), .val (.int .i64), .fix (.own 59000), .fix (.own 59001), .fix (.own 59002), .fix (.own 59003), .fix (.own 59004), .fix (.own 59005), .val (.int .i64), .val (.int .i64), .val (.int .i64), .fix (.own 59006), .fix (.own 59007), .fix (.own 59008), .val (.int .i64), .val (.int .i64), .val (.int .i64), .fix (.own 59009), .fix (.own 59010), .fix (.own 59011), .val (.int .i64), .val (.int .i64), .val .bool, .val (.int .i64), .val (.int .i64), .fix (.own 59012), .val (.int .i64)])], [], [(59000, k0, true), (59001, (.int .i64), true), (59002, (.int .i64), true), (59003, (.int .i64), true), (59004, (.int .i64), true), (59005, (.int .i64), true), (59006, (.int .i64), true), (59007, (.int .i64), true), (59008, (.int .i64), true), (59009, (.int .i64), true), (59010, (.int .i64), true), (59011, (.int .i64), true), (59012, (.int .i64), true)]⟩
noncomputable def g_impl_HurtPlant : List (FuncId × SumX) := [(27, fN sp_impl_HurtChan sq_impl_HurtChan U_impl_HurtChan), (54, cN sp_impl_PlantFault sq_impl_PlantFault U_impl_PlantFault), (139, fN sp_impl_Plant_copied sq_impl_Plant_copied U_impl_Plant_copied)]
def j_impl_HurtPlant : Nat → Option (List (Nat × SS)) := jOf [(2, [(26, .val false .bool)])]
theorem gok_impl_HurtPlant : GOk P (gamOf g_impl_HurtPlant) := gam_ok (tab := g_impl_HurtPlant) (by
    intro p hp
    simp only [g_impl_HurtPlant, List.mem_cons, List.not_mem_nil, or_false] at hp
    rcases hp with rfl | rfl | rfl
    · exact fN_ok c_impl_HurtChan rfl
    · exact cN_ok c_impl_PlantFault rfl
    · exact fN_ok c_impl_Plant_copied rfl)
noncomputable abbrev b_impl_HurtPlant : Code := bodyOf Try.f72
noncomputable def F_impl_HurtPlant (x1 : K.T k16) (x2 : K.T (.int .i64)) (x3 : K.T (.int .i64)) (x4 : K.T (.int .i64)) (x5 : K.T (.int .i64)) : Option sq_impl_HurtPlant.T :=
  (F_impl_PlantFault x1).bind fun y1 =>
  (bif (y1.1.1 == (0 : Int)) then
      (bif (x2 != (1 : Int)) then
        (some ((x2 != (2 : Int)), ()))
      else
      some (false, ()))
    else
    some (false, ())).bind fun y2 =>
  bif y2.1 then
    (some ((((1 : Int), ((0 : Int), ((0 : Int), ((0 : Int), ((0 : Int), ((0 : Int), ((0 : Int), ((0 : Int), ((0 : Int), ((0 : Int), (false, ((0 : Int), ((0 : Int), ((0 : Int), ())))))))))))))), ()), (), ([], ([], ([], ([], ([], ([], ([], ([], ([], ([], ([], ([], ([], ())))))))))))))))
  else
  bif (y1.1.1 != (0 : Int)) then
    (some (((y1.1.1, ((0 : Int), ((0 : Int), ((0 : Int), ((0 : Int), ((0 : Int), ((0 : Int), ((0 : Int), ((0 : Int), ((0 : Int), (false, ((0 : Int), ((0 : Int), ((0 : Int), ())))))))))))))), ()), (), ([], ([], ([], ([], ([], ([], ([], ([], ([], ([], ([], ([], ([], ())))))))))))))))
  else
  (F_impl_Plant_copied x1).bind fun y3 =>
  bif (x2 == (2 : Int)) then
    ((F_impl_HurtChan (y3.1.1.2.2.2.2.2.2.1, (y3.2.2.2.2.2.2.2.2.2.2.2.1, (y3.2.2.2.2.2.2.2.2.2.2.2.2.1, (y3.2.2.2.2.2.2.2.2.2.2.2.2.2.1, (y3.1.1.2.2.2.2.2.2.2.1, y3.1.1.2.2.2.2.2.2.2.2.1))))) x3 x4 x5).bind fun y4 =>
    bif (y4.1.1.1 != (0 : Int)) then
      (some (((y4.1.1.1, ((0 : Int), ((0 : Int), ((0 : Int), ((0 : Int), ((0 : Int), ((0 : Int), ((0 : Int), ((0 : Int), ((0 : Int), (false, ((0 : Int), ((0 : Int), ((0 : Int), ())))))))))))))), ()), (), ([], ([], ([], ([], ([], ([], ([], ([], ([], ([], ([], ([], ([], ())))))))))))))))
    else
    some ((((0 : Int), (y3.1.1.1, (y3.1.1.2.1, (y3.1.1.2.2.1, (y3.1.1.2.2.2.1, (y3.1.1.2.2.2.2.1, (y3.1.1.2.2.2.2.2.1, (y4.1.1.2.2.2.1, (y4.1.1.2.2.2.2.1, (y4.1.1.2.2.2.2.2.1, (y3.1.1.2.2.2.2.2.2.2.2.2.1, (y3.1.1.2.2.2.2.2.2.2.2.2.2.1, (y3.1.1.2.2.2.2.2.2.2.2.2.2.2.1, (y3.1.1.2.2.2.2.2.2.2.2.2.2.2.2.1, ())))))))))))))), ()), (), (y3.2.2.1, (y3.2.2.2.1, (y3.2.2.2.2.1, (y3.2.2.2.2.2.1, (y3.2.2.2.2.2.2.1, (y3.2.2.2.2.2.2.2.1, (y3.2.2.2.2.2.2.2.2.1, (y3.2.2.2.2.2.2.2.2.2.1, (y3.2.2.2.2.2.2.2.2.2.2.1, (y4.2.2.1, (y4.2.2.2.1, (y4.2.2.2.2.1, (y3.2.2.2.2.2.2.2.2.2.2.2.2.2.2.1, ())))))))))))))))
  else
  (F_impl_HurtChan (y3.1.1.2.2.2.1, (y3.2.2.2.2.2.2.2.2.1, (y3.2.2.2.2.2.2.2.2.2.1, (y3.2.2.2.2.2.2.2.2.2.2.1, (y3.1.1.2.2.2.2.1, y3.1.1.2.2.2.2.2.1))))) x3 x4 x5).bind fun y5 =>
  bif (y5.1.1.1 != (0 : Int)) then
    (some (((y5.1.1.1, ((0 : Int), ((0 : Int), ((0 : Int), ((0 : Int), ((0 : Int), ((0 : Int), ((0 : Int), ((0 : Int), ((0 : Int), (false, ((0 : Int), ((0 : Int), ((0 : Int), ())))))))))))))), ()), (), ([], ([], ([], ([], ([], ([], ([], ([], ([], ([], ([], ([], ([], ())))))))))))))))
  else
  some ((((0 : Int), (y3.1.1.1, (y3.1.1.2.1, (y3.1.1.2.2.1, (y5.1.1.2.2.2.1, (y5.1.1.2.2.2.2.1, (y5.1.1.2.2.2.2.2.1, (y3.1.1.2.2.2.2.2.2.1, (y3.1.1.2.2.2.2.2.2.2.1, (y3.1.1.2.2.2.2.2.2.2.2.1, (y3.1.1.2.2.2.2.2.2.2.2.2.1, (y3.1.1.2.2.2.2.2.2.2.2.2.2.1, (y3.1.1.2.2.2.2.2.2.2.2.2.2.2.1, (y3.1.1.2.2.2.2.2.2.2.2.2.2.2.2.1, ())))))))))))))), ()), (), (y3.2.2.1, (y3.2.2.2.1, (y3.2.2.2.2.1, (y3.2.2.2.2.2.1, (y3.2.2.2.2.2.2.1, (y3.2.2.2.2.2.2.2.1, (y5.2.2.1, (y5.2.2.2.1, (y5.2.2.2.2.1, (y3.2.2.2.2.2.2.2.2.2.2.2.1, (y3.2.2.2.2.2.2.2.2.2.2.2.2.1, (y3.2.2.2.2.2.2.2.2.2.2.2.2.2.1, (y3.2.2.2.2.2.2.2.2.2.2.2.2.2.2.1, ()))))))))))))))
noncomputable abbrev U_impl_HurtPlant : sp_impl_HurtPlant.T → Option sq_impl_HurtPlant.T := fun x => F_impl_HurtPlant x.1.1 x.1.2.1 x.1.2.2.1 x.1.2.2.2.1 x.1.2.2.2.2.1
theorem e_impl_HurtPlant : ∀ x, evCode ty (gamOf g_impl_HurtPlant) j_impl_HurtPlant (lamOf []) b_impl_HurtPlant (sp_impl_HurtPlant.hd x) (finN ty sq_impl_HurtPlant [.cell 10 78]) = U_impl_HurtPlant x := fun x => by kernel_rfl
theorem c_impl_HurtPlant : FnS P 72 sp_impl_HurtPlant sq_impl_HurtPlant U_impl_HurtPlant :=
  fnS_of_ev tyOk mixed gok_impl_HurtPlant (fn := Try.f72) (by kernel_rfl) (c := b_impl_HurtPlant) (by kernel_rfl) (by kernel_rfl) (by kernel_rfl) (lam_ok (tab := []) (by kernel_rfl) (fun p hp => by cases hp)) e_impl_HurtPlant

/-! laws.FnExactHurtPlant -/
abbrev sp_laws_FnExactHurtPlant : Sp := ⟨89, [(0, .val true k16), (1, .val false (.int .i64)), (2, .val false (.int .i64)), (3, .val false (.int .i64)), (4, .val false (.int .i64))], [], []⟩
abbrev sq_laws_FnExactHurtPlant : Sp := ⟨1, [(0, .val false .bool)], [], []⟩
noncomputable def g_laws_FnExactHurtPlant : List (FuncId × SumX) := [(51, cN sp_laws_szPlant sq_laws_szPlant U_laws_szPlant), (53, fN sp_laws_toPlant sq_laws_toPlant U_laws_toPlant), (55, cN sp_laws_eqPlant sq_laws_eqPlant U_laws_eqPlant), (60, cN sp_laws_eqPlantResult sq_laws_eqPlantResult U_laws_eqPlantResult), (61, xN sp_laws_markPlantResult sq_laws_markPlantResult U_laws_markPlantResult), (62, cN sp_laws_heldPlantResult sq_laws_heldPlantResult U_laws_heldPlantResult), (70, xN sp_laws_markPlant sq_laws_markPlant U_laws_markPlant), (71, xN sp_spec_HurtPlant sq_spec_HurtPlant U_spec_HurtPlant), (72, fN sp_impl_HurtPlant sq_impl_HurtPlant U_impl_HurtPlant)]
def j_laws_FnExactHurtPlant : Nat → Option (List (Nat × SS)) := jOf [(14, [(58, .val false .bool)])]
theorem gok_laws_FnExactHurtPlant : GOk P (gamOf g_laws_FnExactHurtPlant) := gam_ok (tab := g_laws_FnExactHurtPlant) (by
    intro p hp
    simp only [g_laws_FnExactHurtPlant, List.mem_cons, List.not_mem_nil, or_false] at hp
    rcases hp with rfl | rfl | rfl | rfl | rfl | rfl | rfl | rfl | rfl
    · exact cN_ok c_laws_szPlant rfl
    · exact fN_ok c_laws_toPlant rfl
    · exact cN_ok c_laws_eqPlant rfl
    · exact cN_ok c_laws_eqPlantResult rfl
    · exact xN_ok c_laws_markPlantResult rfl
    · exact cN_ok c_laws_heldPlantResult rfl
    · exact xN_ok c_laws_markPlant rfl
    · exact xN_ok c_spec_HurtPlant rfl
    · exact fN_ok c_impl_HurtPlant rfl)
noncomputable abbrev b_laws_FnExactHurtPlant : Code := bodyOf Try.f15
noncomputable def F_laws_FnExactHurtPlant (x1 : K.T k16) (x2 : K.T (.int .i64)) (x3 : K.T (.int .i64)) (x4 : K.T (.int .i64)) (x5 : K.T (.int .i64)) : Option sq_laws_FnExactHurtPlant.T :=
  (F_laws_szPlant x1 (1048576 : Int)).bind fun y1 =>
  bif (decide (y1.1.1 < (0 : Int))) then
    (some ((true, ()), (), ()))
  else
  (F_laws_toPlant x1).bind fun y2 =>
  (F_spec_HurtPlant ((y2.1.1.1, (y2.2.2.1, (y2.2.2.2.1, (y2.2.2.2.2.1, (y2.2.2.2.2.2.1, (y2.2.2.2.2.2.2.1, (y2.2.2.2.2.2.2.2.1, (y2.1.1.2.1, y2.1.1.2.2.1)))))))), ((y2.1.1.2.2.2.1, (y2.2.2.2.2.2.2.2.2.1, (y2.2.2.2.2.2.2.2.2.2.1, (y2.2.2.2.2.2.2.2.2.2.2.1, (y2.1.1.2.2.2.2.1, y2.1.1.2.2.2.2.2.1))))), ((y2.1.1.2.2.2.2.2.2.1, (y2.2.2.2.2.2.2.2.2.2.2.2.1, (y2.2.2.2.2.2.2.2.2.2.2.2.2.1, (y2.2.2.2.2.2.2.2.2.2.2.2.2.2.1, (y2.1.1.2.2.2.2.2.2.2.1, y2.1.1.2.2.2.2.2.2.2.2.1))))), (y2.1.1.2.2.2.2.2.2.2.2.2.1, (y2.1.1.2.2.2.2.2.2.2.2.2.2.1, (y2.1.1.2.2.2.2.2.2.2.2.2.2.2.1, (y2.2.2.2.2.2.2.2.2.2.2.2.2.2.2.1, y2.1.1.2.2.2.2.2.2.2.2.2.2.2.2.1))))))) x2 x3 x4 x5).bind fun y3 =>
  (F_laws_toPlant x1).bind fun y4 =>
  (F_impl_HurtPlant ((y4.1.1.1, (y4.2.2.1, (y4.2.2.2.1, (y4.2.2.2.2.1, (y4.2.2.2.2.2.1, (y4.2.2.2.2.2.2.1, (y4.2.2.2.2.2.2.2.1, (y4.1.1.2.1, y4.1.1.2.2.1)))))))), ((y4.1.1.2.2.2.1, (y4.2.2.2.2.2.2.2.2.1, (y4.2.2.2.2.2.2.2.2.2.1, (y4.2.2.2.2.2.2.2.2.2.2.1, (y4.1.1.2.2.2.2.1, y4.1.1.2.2.2.2.2.1))))), ((y4.1.1.2.2.2.2.2.2.1, (y4.2.2.2.2.2.2.2.2.2.2.2.1, (y4.2.2.2.2.2.2.2.2.2.2.2.2.1, (y4.2.2.2.2.2.2.2.2.2.2.2.2.2.1, (y4.1.1.2.2.2.2.2.2.2.1, y4.1.1.2.2.2.2.2.2.2.2.1))))), (y4.1.1.2.2.2.2.2.2.2.2.2.1, (y4.1.1.2.2.2.2.2.2.2.2.2.2.1, (y4.1.1.2.2.2.2.2.2.2.2.2.2.2.1, (y4.2.2.2.2.2.2.2.2.2.2.2.2.2.2.1, y4.1.1.2.2.2.2.2.2.2.2.2.2.2.2.1))))))) x2 x3 x4 x5).bind fun y5 =>
  (F_laws_eqPlantResult (y5.1.1.1, ((y5.1.1.2.1, (y5.2.2.1, (y5.2.2.2.1, (y5.2.2.2.2.1, (y5.2.2.2.2.2.1, (y5.2.2.2.2.2.2.1, (y5.2.2.2.2.2.2.2.1, (y5.1.1.2.2.1, y5.1.1.2.2.2.1)))))))), ((y5.1.1.2.2.2.2.1, (y5.2.2.2.2.2.2.2.2.1, (y5.2.2.2.2.2.2.2.2.2.1, (y5.2.2.2.2.2.2.2.2.2.2.1, (y5.1.1.2.2.2.2.2.1, y5.1.1.2.2.2.2.2.2.1))))), ((y5.1.1.2.2.2.2.2.2.2.1, (y5.2.2.2.2.2.2.2.2.2.2.2.1, (y5.2.2.2.2.2.2.2.2.2.2.2.2.1, (y5.2.2.2.2.2.2.2.2.2.2.2.2.2.1, (y5.1.1.2.2.2.2.2.2.2.2.1, y5.1.1.2.2.2.2.2.2.2.2.2.1))))), (y5.1.1.2.2.2.2.2.2.2.2.2.2.1, (y5.1.1.2.2.2.2.2.2.2.2.2.2.2.1, (y5.1.1.2.2.2.2.2.2.2.2.2.2.2.2.1, (y5.2.2.2.2.2.2.2.2.2.2.2.2.2.2.1, y5.1.1.2.2.2.2.2.2.2.2.2.2.2.2.2.1)))))))) y3.1.1).bind fun y6 =>
  bif (!y6.1.1) then
    (some ((false, ()), (), ()))
  else
  (F_laws_toPlant x1).bind fun y7 =>
  (F_laws_eqPlant ((y4.1.1.1, (y4.2.2.1, (y4.2.2.2.1, (y4.2.2.2.2.1, (y4.2.2.2.2.2.1, (y4.2.2.2.2.2.2.1, (y4.2.2.2.2.2.2.2.1, (y4.1.1.2.1, y4.1.1.2.2.1)))))))), ((y4.1.1.2.2.2.1, (y4.2.2.2.2.2.2.2.2.1, (y4.2.2.2.2.2.2.2.2.2.1, (y4.2.2.2.2.2.2.2.2.2.2.1, (y4.1.1.2.2.2.2.1, y4.1.1.2.2.2.2.2.1))))), ((y4.1.1.2.2.2.2.2.2.1, (y4.2.2.2.2.2.2.2.2.2.2.2.1, (y4.2.2.2.2.2.2.2.2.2.2.2.2.1, (y4.2.2.2.2.2.2.2.2.2.2.2.2.2.1, (y4.1.1.2.2.2.2.2.2.2.1, y4.1.1.2.2.2.2.2.2.2.2.1))))), (y4.1.1.2.2.2.2.2.2.2.2.2.1, (y4.1.1.2.2.2.2.2.2.2.2.2.2.1, (y4.1.1.2.2.2.2.2.2.2.2.2.2.2.1, (y4.2.2.2.2.2.2.2.2.2.2.2.2.2.2.1, y4.1.1.2.2.2.2.2.2.2.2.2.2.2.2.1))))))) ((y7.1.1.1, (y7.2.2.1, (y7.2.2.2.1, (y7.2.2.2.2.1, (y7.2.2.2.2.2.1, (y7.2.2.2.2.2.2.1, (y7.2.2.2.2.2.2.2.1, (y7.1.1.2.1, y7.1.1.2.2.1)))))))), ((y7.1.1.2.2.2.1, (y7.2.2.2.2.2.2.2.2.1, (y7.2.2.2.2.2.2.2.2.2.1, (y7.2.2.2.2.2.2.2.2.2.2.1, (y7.1.1.2.2.2.2.1, y7.1.1.2.2.2.2.2.1))))), ((y7.1.1.2.2.2.2.2.2.1, (y7.2.2.2.2.2.2.2.2.2.2.2.1, (y7.2.2.2.2.2.2.2.2.2.2.2.2.1, (y7.2.2.2.2.2.2.2.2.2.2.2.2.2.1, (y7.1.1.2.2.2.2.2.2.2.1, y7.1.1.2.2.2.2.2.2.2.2.1))))), (y7.1.1.2.2.2.2.2.2.2.2.2.1, (y7.1.1.2.2.2.2.2.2.2.2.2.2.1, (y7.1.1.2.2.2.2.2.2.2.2.2.2.2.1, (y7.2.2.2.2.2.2.2.2.2.2.2.2.2.2.1, y7.1.1.2.2.2.2.2.2.2.2.2.2.2.2.1)))))))).bind fun y8 =>
  bif (!y8.1.1) then
    (some ((false, ()), (), ()))
  else
  (F_laws_markPlant y4.1.1.1 y4.1.1.2.1 y4.1.1.2.2.1 y4.1.1.2.2.2.1 y4.1.1.2.2.2.2.1 y4.1.1.2.2.2.2.2.1 y4.1.1.2.2.2.2.2.2.1 y4.1.1.2.2.2.2.2.2.2.1 y4.1.1.2.2.2.2.2.2.2.2.1 y4.1.1.2.2.2.2.2.2.2.2.2.1 y4.1.1.2.2.2.2.2.2.2.2.2.2.1 y4.1.1.2.2.2.2.2.2.2.2.2.2.2.1 y4.1.1.2.2.2.2.2.2.2.2.2.2.2.2.1 (1 : Int) y4.2.2.1 y4.2.2.2.1 y4.2.2.2.2.1 y4.2.2.2.2.2.1 y4.2.2.2.2.2.2.1 y4.2.2.2.2.2.2.2.1 y4.2.2.2.2.2.2.2.2.1 y4.2.2.2.2.2.2.2.2.2.1 y4.2.2.2.2.2.2.2.2.2.2.1 y4.2.2.2.2.2.2.2.2.2.2.2.1 y4.2.2.2.2.2.2.2.2.2.2.2.2.1 y4.2.2.2.2.2.2.2.2.2.2.2.2.2.1 y4.2.2.2.2.2.2.2.2.2.2.2.2.2.2.1).bind fun y9 =>
  (bif (decide (y9.1.1 < (0 : Int))) then
      (some (true, ()))
    else
    (F_laws_eqPlantResult (y5.1.1.1, ((y5.1.1.2.1, (y5.2.2.1, (y5.2.2.2.1, (y5.2.2.2.2.1, (y5.2.2.2.2.2.1, (y5.2.2.2.2.2.2.1, (y5.2.2.2.2.2.2.2.1, (y5.1.1.2.2.1, y5.1.1.2.2.2.1)))))))), ((y5.1.1.2.2.2.2.1, (y5.2.2.2.2.2.2.2.2.1, (y5.2.2.2.2.2.2.2.2.2.1, (y5.2.2.2.2.2.2.2.2.2.2.1, (y5.1.1.2.2.2.2.2.1, y5.1.1.2.2.2.2.2.2.1))))), ((y5.1.1.2.2.2.2.2.2.2.1, (y5.2.2.2.2.2.2.2.2.2.2.2.1, (y5.2.2.2.2.2.2.2.2.2.2.2.2.1, (y5.2.2.2.2.2.2.2.2.2.2.2.2.2.1, (y5.1.1.2.2.2.2.2.2.2.2.1, y5.1.1.2.2.2.2.2.2.2.2.2.1))))), (y5.1.1.2.2.2.2.2.2.2.2.2.2.1, (y5.1.1.2.2.2.2.2.2.2.2.2.2.2.1, (y5.1.1.2.2.2.2.2.2.2.2.2.2.2.2.1, (y5.2.2.2.2.2.2.2.2.2.2.2.2.2.2.1, y5.1.1.2.2.2.2.2.2.2.2.2.2.2.2.2.1)))))))) y3.1.1).bind fun y10 =>
    some ((!y10.1.1), ())).bind fun y11 =>
  bif y11.1 then
    (some ((false, ()), (), ()))
  else
  (F_laws_markPlantResult y5.1.1.1 y5.1.1.2.1 y5.1.1.2.2.1 y5.1.1.2.2.2.1 y5.1.1.2.2.2.2.1 y5.1.1.2.2.2.2.2.1 y5.1.1.2.2.2.2.2.2.1 y5.1.1.2.2.2.2.2.2.2.1 y5.1.1.2.2.2.2.2.2.2.2.1 y5.1.1.2.2.2.2.2.2.2.2.2.1 y5.1.1.2.2.2.2.2.2.2.2.2.2.1 y5.1.1.2.2.2.2.2.2.2.2.2.2.2.1 y5.1.1.2.2.2.2.2.2.2.2.2.2.2.2.1 y5.1.1.2.2.2.2.2.2.2.2.2.2.2.2.2.1 (1 : Int) y5.2.2.1 y5.2.2.2.1 y5.2.2.2.2.1 y5.2.2.2.2.2.1 y5.2.2.2.2.2.2.1 y5.2.2.2.2.2.2.2.1 y5.2.2.2.2.2.2.2.2.1 y5.2.2.2.2.2.2.2.2.2.1 y5.2.2.2.2.2.2.2.2.2.2.1 y5.2.2.2.2.2.2.2.2.2.2.2.1 y5.2.2.2.2.2.2.2.2.2.2.2.2.1 y5.2.2.2.2.2.2.2.2.2.2.2.2.2.1 y5.2.2.2.2.2.2.2.2.2.2.2.2.2.2.1).bind fun y12 =>
  (F_laws_heldPlantResult (y5.1.1.1, ((y5.1.1.2.1, (y12.2.2.1, (y12.2.2.2.1, (y12.2.2.2.2.1, (y12.2.2.2.2.2.1, (y12.2.2.2.2.2.2.1, (y12.2.2.2.2.2.2.2.1, (y5.1.1.2.2.1, y5.1.1.2.2.2.1)))))))), ((y5.1.1.2.2.2.2.1, (y12.2.2.2.2.2.2.2.2.1, (y12.2.2.2.2.2.2.2.2.2.1, (y12.2.2.2.2.2.2.2.2.2.2.1, (y5.1.1.2.2.2.2.2.1, y5.1.1.2.2.2.2.2.2.1))))), ((y5.1.1.2.2.2.2.2.2.2.1, (y12.2.2.2.2.2.2.2.2.2.2.2.1, (y12.2.2.2.2.2.2.2.2.2.2.2.2.1, (y12.2.2.2.2.2.2.2.2.2.2.2.2.2.1, (y5.1.1.2.2.2.2.2.2.2.2.1, y5.1.1.2.2.2.2.2.2.2.2.2.1))))), (y5.1.1.2.2.2.2.2.2.2.2.2.2.1, (y5.1.1.2.2.2.2.2.2.2.2.2.2.2.1, (y5.1.1.2.2.2.2.2.2.2.2.2.2.2.2.1, (y12.2.2.2.2.2.2.2.2.2.2.2.2.2.2.1, y5.1.1.2.2.2.2.2.2.2.2.2.2.2.2.2.1)))))))) (1 : Int)).bind fun y13 =>
  bif (decide (y13.1.1 < (0 : Int))) then
    (some ((false, ()), (), ()))
  else
  bif (y13.1.1 != y12.1.1) then
    (some ((false, ()), (), ()))
  else
  (F_laws_toPlant x1).bind fun y14 =>
  (F_impl_HurtPlant ((y14.1.1.1, (y14.2.2.1, (y14.2.2.2.1, (y14.2.2.2.2.1, (y14.2.2.2.2.2.1, (y14.2.2.2.2.2.2.1, (y14.2.2.2.2.2.2.2.1, (y14.1.1.2.1, y14.1.1.2.2.1)))))))), ((y14.1.1.2.2.2.1, (y14.2.2.2.2.2.2.2.2.1, (y14.2.2.2.2.2.2.2.2.2.1, (y14.2.2.2.2.2.2.2.2.2.2.1, (y14.1.1.2.2.2.2.1, y14.1.1.2.2.2.2.2.1))))), ((y14.1.1.2.2.2.2.2.2.1, (y14.2.2.2.2.2.2.2.2.2.2.2.1, (y14.2.2.2.2.2.2.2.2.2.2.2.2.1, (y14.2.2.2.2.2.2.2.2.2.2.2.2.2.1, (y14.1.1.2.2.2.2.2.2.2.1, y14.1.1.2.2.2.2.2.2.2.2.1))))), (y14.1.1.2.2.2.2.2.2.2.2.2.1, (y14.1.1.2.2.2.2.2.2.2.2.2.2.1, (y14.1.1.2.2.2.2.2.2.2.2.2.2.2.1, (y14.2.2.2.2.2.2.2.2.2.2.2.2.2.2.1, y14.1.1.2.2.2.2.2.2.2.2.2.2.2.2.1))))))) x2 x3 x4 x5).bind fun y15 =>
  (F_laws_eqPlantResult (y15.1.1.1, ((y15.1.1.2.1, (y15.2.2.1, (y15.2.2.2.1, (y15.2.2.2.2.1, (y15.2.2.2.2.2.1, (y15.2.2.2.2.2.2.1, (y15.2.2.2.2.2.2.2.1, (y15.1.1.2.2.1, y15.1.1.2.2.2.1)))))))), ((y15.1.1.2.2.2.2.1, (y15.2.2.2.2.2.2.2.2.1, (y15.2.2.2.2.2.2.2.2.2.1, (y15.2.2.2.2.2.2.2.2.2.2.1, (y15.1.1.2.2.2.2.2.1, y15.1.1.2.2.2.2.2.2.1))))), ((y15.1.1.2.2.2.2.2.2.2.1, (y15.2.2.2.2.2.2.2.2.2.2.2.1, (y15.2.2.2.2.2.2.2.2.2.2.2.2.1, (y15.2.2.2.2.2.2.2.2.2.2.2.2.2.1, (y15.1.1.2.2.2.2.2.2.2.2.1, y15.1.1.2.2.2.2.2.2.2.2.2.1))))), (y15.1.1.2.2.2.2.2.2.2.2.2.2.1, (y15.1.1.2.2.2.2.2.2.2.2.2.2.2.1, (y15.1.1.2.2.2.2.2.2.2.2.2.2.2.2.1, (y15.2.2.2.2.2.2.2.2.2.2.2.2.2.2.1, y15.1.1.2.2.2.2.2.2.2.2.2.2.2.2.2.1)))))))) y3.1.1).bind fun y16 =>
  bif (!y16.1.1) then
    (some ((false, ()), (), ()))
  else
  (F_laws_heldPlantResult (y5.1.1.1, ((y5.1.1.2.1, (y12.2.2.1, (y12.2.2.2.1, (y12.2.2.2.2.1, (y12.2.2.2.2.2.1, (y12.2.2.2.2.2.2.1, (y12.2.2.2.2.2.2.2.1, (y5.1.1.2.2.1, y5.1.1.2.2.2.1)))))))), ((y5.1.1.2.2.2.2.1, (y12.2.2.2.2.2.2.2.2.1, (y12.2.2.2.2.2.2.2.2.2.1, (y12.2.2.2.2.2.2.2.2.2.2.1, (y5.1.1.2.2.2.2.2.1, y5.1.1.2.2.2.2.2.2.1))))), ((y5.1.1.2.2.2.2.2.2.2.1, (y12.2.2.2.2.2.2.2.2.2.2.2.1, (y12.2.2.2.2.2.2.2.2.2.2.2.2.1, (y12.2.2.2.2.2.2.2.2.2.2.2.2.2.1, (y5.1.1.2.2.2.2.2.2.2.2.1, y5.1.1.2.2.2.2.2.2.2.2.2.1))))), (y5.1.1.2.2.2.2.2.2.2.2.2.2.1, (y5.1.1.2.2.2.2.2.2.2.2.2.2.2.1, (y5.1.1.2.2.2.2.2.2.2.2.2.2.2.2.1, (y12.2.2.2.2.2.2.2.2.2.2.2.2.2.2.1, y5.1.1.2.2.2.2.2.2.2.2.2.2.2.2.2.1)))))))) (1 : Int)).bind fun y17 =>
  bif (decide (y17.1.1 < (0 : Int))) then
    (some ((false, ()), (), ()))
  else
  bif (y17.1.1 != y12.1.1) then
    (some ((false, ()), (), ()))
  else
  some ((true, ()), (), ())
noncomputable abbrev U_laws_FnExactHurtPlant : sp_laws_FnExactHurtPlant.T → Option sq_laws_FnExactHurtPlant.T := fun x => F_laws_FnExactHurtPlant x.1.1 x.1.2.1 x.1.2.2.1 x.1.2.2.2.1 x.1.2.2.2.2.1
theorem e_laws_FnExactHurtPlant : ∀ x, evCode ty (gamOf g_laws_FnExactHurtPlant) j_laws_FnExactHurtPlant (lamOf []) b_laws_FnExactHurtPlant (sp_laws_FnExactHurtPlant.hd x) (finN ty sq_laws_FnExactHurtPlant [.tmp 10]) = U_laws_FnExactHurtPlant x := fun x => by kernel_rfl
theorem c_laws_FnExactHurtPlant : FnS P 15 sp_laws_FnExactHurtPlant sq_laws_FnExactHurtPlant U_laws_FnExactHurtPlant :=
  fnS_of_ev tyOk mixed gok_laws_FnExactHurtPlant (fn := Try.f15) (by kernel_rfl) (c := b_laws_FnExactHurtPlant) (by kernel_rfl) (by kernel_rfl) (by kernel_rfl) (lam_ok (tab := []) (by kernel_rfl) (fun p hp => by cases hp)) e_laws_FnExactHurtPlant
end Go.Ev
