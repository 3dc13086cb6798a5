/- What is proved here: the contract of each function that FnExactScanChan reaches; no condition. -/
import Derived.Test.YtfglckpbconanaaGreatProg
import Derived.Test.YtfglckpbconanaaGreatLe
import Derived.KernelRfl
set_option linter.unusedVariables false
namespace Go.Ev
open Go.Proofs
def bodyOf (f : Func) : Code := f.body.getD .skip
noncomputable abbrev P : Program := Tryz.prog
abbrev k0 : K := (.pr (.int .i64) .bool)
abbrev k1 : K := (.pr (.int .i64) (.int .i64))
abbrev k2 : K := (.pr (.sl (.int .i64)) k1)
abbrev k3 : K := (.pr (.sl (.int .i64)) k2)
abbrev k4 : K := (.pr (.sl (.int .i64)) k3)
abbrev k5 : K := (.pr (.sl (.int .i64)) k4)
abbrev k6 : K := (.pr (.sl (.int .i64)) k5)
abbrev k7 : K := (.pr (.sl k0) k6)
abbrev k8 : K := (.pr (.int .i64) k7)
abbrev k9 : K := (.pr (.int .i64) k4)
abbrev k10 : K := (.pr (.int .i64) k0)
abbrev k11 : K := (.pr (.int .i64) k10)
abbrev k12 : K := (.pr (.sl (.int .i64)) k11)
abbrev k13 : K := (.pr (.sl (.int .i64)) k12)
abbrev k14 : K := (.pr (.int .i64) k13)
abbrev k15 : K := (.pr (.int .i64) k9)
abbrev k16 : K := (.pr (.int .i64) k15)
abbrev k17 : K := (.pr (.int .i64) k16)
abbrev k18 : K := (.pr (.int .i64) k14)
def tab : List (Nat × TI) := [
  (2, (⟨.other, false, 1, 8, [.int .i64 0], some (.int .i64)⟩ : TI)),
  (3, (⟨.other, false, 1, 8, [.int .i64 0], some (.int .i64)⟩ : TI)),
  (4, (⟨.other, false, 1, 1, [.bool false], some .bool⟩ : TI)),
  (22, (⟨.slice 129, false, 1, 24, [.nil], some (.sl k0)⟩ : TI)),
  (23, (⟨.slice 2, false, 1, 24, [.nil], some (.sl (.int .i64))⟩ : TI)),
  (25, (⟨.struct [(0, 1, false), (1, 1, false), (2, 1, false), (3, 1, false), (4, 1, false), (5, 1, false), (6, 1, false), (7, 1, false), (8, 1, false)], true, 9, 168, [.int .i64 0, .nil, .nil, .nil, .nil, .nil, .nil, .int .i64 0, .int .i64 0], some k8⟩ : TI)),
  (27, (⟨.struct [(0, 1, false), (1, 1, false), (2, 1, false), (3, 1, false), (4, 1, false), (5, 1, false)], true, 6, 96, [.int .i64 0, .nil, .nil, .nil, .int .i64 0, .int .i64 0], some k9⟩ : TI)),
  (30, (⟨.struct [(0, 1, false), (1, 1, false), (2, 1, false), (3, 1, false), (4, 1, false), (5, 1, false)], true, 6, 96, [.int .i64 0, .nil, .nil, .nil, .int .i64 0, .int .i64 0], some k9⟩ : TI)),
  (32, (⟨.struct [(0, 1, false), (1, 1, false), (2, 1, false), (3, 6, true)], true, 9, 120, [.int .i64 0, .int .i64 0, .int .i64 0, .int .i64 0, .nil, .nil, .nil, .int .i64 0, .int .i64 0], some k17⟩ : TI)),
  (34, (⟨.slice 118, false, 1, 24, [.nil], some (.sl k0)⟩ : TI)),
  (36, (⟨.struct [(0, 1, false), (1, 1, false), (2, 1, false), (3, 1, false), (4, 1, false), (5, 1, false), (6, 1, false), (7, 1, false), (8, 1, false)], true, 9, 168, [.int .i64 0, .nil, .nil, .nil, .nil, .nil, .nil, .int .i64 0, .int .i64 0], some k8⟩ : TI)),
  (65, (⟨.slice 23, false, 1, 24, [.nil], some (.sl (.sl (.int .i64)))⟩ : TI)),
  (118, (⟨.struct [(0, 1, false), (1, 1, false)], true, 2, 16, [.int .i64 0, .bool false], some k0⟩ : TI)),
  (120, (⟨.other, false, 1, 8, [.nilf], none⟩ : TI)),
  (123, (⟨.struct [(0, 1, false), (1, 1, false), (2, 1, false), (3, 1, false), (4, 1, false), (5, 1, false), (6, 1, false)], true, 7, 88, [.int .i64 0, .nil, .nil, .int .i64 0, .int .i64 0, .int .i64 0, .bool false], some k14⟩ : TI)),
  (126, (⟨.struct [(0, 1, false), (1, 1, false), (2, 1, false), (3, 1, false), (4, 1, false), (5, 1, false), (6, 1, false)], true, 7, 88, [.int .i64 0, .nil, .nil, .int .i64 0, .int .i64 0, .int .i64 0, .bool false], some k14⟩ : TI)),
  (129, (⟨.struct [(0, 1, false), (1, 1, false)], true, 2, 16, [.int .i64 0, .bool false], some k0⟩ : TI)),
  (137, (⟨.struct [(0, 1, false), (1, 7, true)], true, 8, 96, [.int .i64 0, .int .i64 0, .nil, .nil, .int .i64 0, .int .i64 0, .int .i64 0, .bool false], some k18⟩ : TI)),
  (140, (⟨.struct [(0, 1, false), (1, 7, true)], true, 8, 96, [.int .i64 0, .int .i64 0, .nil, .nil, .int .i64 0, .int .i64 0, .int .i64 0, .bool false], some k18⟩ : TI)),
  (166, (⟨.other, false, 1, 8, [.nilp], none⟩ : TI)),
  (168, (⟨.other, false, 1, 8, [.nilp], none⟩ : TI)),
  (170, (⟨.slice 3, false, 1, 24, [.nil], some (.sl (.int .i64))⟩ : TI)),
  (173, (⟨.other, false, 1, 2, [.int .u16 0], some (.int .u16)⟩ : TI)),
  (180, (⟨.other, false, 1, 8, [.int .u64 0], some (.int .u64)⟩ : TI)),
  (199, (⟨.struct [(0, 1, false), (1, 1, false)], true, 2, 16, [.int .i64 0, .int .i64 0], some k1⟩ : TI)),
  (211, (⟨.other, false, 1, 2, [.int .i16 0], some (.int .i16)⟩ : TI))]
def ty : Ty := fun t => (Tr.ofList tab).get t
theorem tyOk : TyOk P ty := tyOk_of_tab (by kernel_rfl)
theorem mixed : P.follows .mixedOrders = true := by kernel_rfl
/-! laws.szPortS -/
abbrev sp_laws_szPortS : Sp := ⟨12, [(0, .val false (.sl k0)), (1, .val false (.int .i64))], [], []⟩
abbrev sq_laws_szPortS : Sp := ⟨1, [(0, .val false (.int .i64))], [], []⟩
noncomputable def g_laws_szPortS : List (FuncId × SumX) := []
def j_laws_szPortS : Nat → Option (List (Nat × SS)) := jOf []
theorem gok_laws_szPortS : GOk P (gamOf g_laws_szPortS) := gam_ok (tab := g_laws_szPortS) gm0
noncomputable abbrev b_laws_szPortS : Code := bodyOf Tryz.f40
noncomputable def F_laws_szPortS (x1 : K.T (.sl k0)) (x2 : K.T (.int .i64)) : Option sq_laws_szPortS.T :=
  bif (decide ((IntKind.wrap .i64 (x2 - ((x1).length : Int))) < (0 : Int))) then
    (some (((-1 : Int), ()), (), ()))
  else
  some (((IntKind.wrap .i64 (x2 - ((x1).length : Int))), ()), (), ())
noncomputable abbrev U_laws_szPortS : sp_laws_szPortS.T → Option sq_laws_szPortS.T := fun x => F_laws_szPortS x.1.1 x.1.2.1
theorem e_laws_szPortS : ∀ x, evCode ty (gamOf g_laws_szPortS) j_laws_szPortS (lamOf []) b_laws_szPortS (sp_laws_szPortS.hd x) (finN ty sq_laws_szPortS [.tmp 4]) = U_laws_szPortS x := fun x => by kernel_rfl
theorem c_laws_szPortS : FnS P 40 sp_laws_szPortS sq_laws_szPortS U_laws_szPortS :=
  fnS_of_ev tyOk mixed gok_laws_szPortS (fn := Tryz.f40) (by kernel_rfl) (c := b_laws_szPortS) (by kernel_rfl) (by kernel_rfl) (by kernel_rfl) (lam_ok (tab := []) (by kernel_rfl) lm0) e_laws_szPortS

/-! laws.szInt64S -/
abbrev sp_laws_szInt64S : Sp := ⟨12, [(0, .val false (.sl (.int .i64))), (1, .val false (.int .i64))], [], []⟩
abbrev sq_laws_szInt64S : Sp := ⟨1, [(0, .val false (.int .i64))], [], []⟩
noncomputable def g_laws_szInt64S : List (FuncId × SumX) := []
def j_laws_szInt64S : Nat → Option (List (Nat × SS)) := jOf []
theorem gok_laws_szInt64S : GOk P (gamOf g_laws_szInt64S) := gam_ok (tab := g_laws_szInt64S) gm0
noncomputable abbrev b_laws_szInt64S : Code := bodyOf Tryz.f41
noncomputable def F_laws_szInt64S (x1 : K.T (.sl (.int .i64))) (x2 : K.T (.int .i64)) : Option sq_laws_szInt64S.T :=
  bif (decide ((IntKind.wrap .i64 (x2 - ((x1).length : Int))) < (0 : Int))) then
    (some (((-1 : Int), ()), (), ()))
  else
  some (((IntKind.wrap .i64 (x2 - ((x1).length : Int))), ()), (), ())
noncomputable abbrev U_laws_szInt64S : sp_laws_szInt64S.T → Option sq_laws_szInt64S.T := fun x => F_laws_szInt64S x.1.1 x.1.2.1
theorem e_laws_szInt64S : ∀ x, evCode ty (gamOf g_laws_szInt64S) j_laws_szInt64S (lamOf []) b_laws_szInt64S (sp_laws_szInt64S.hd x) (finN ty sq_laws_szInt64S [.tmp 4]) = U_laws_szInt64S x := fun x => by kernel_rfl
theorem c_laws_szInt64S : FnS P 41 sp_laws_szInt64S sq_laws_szInt64S U_laws_szInt64S :=
  fnS_of_ev tyOk mixed gok_laws_szInt64S (fn := Tryz.f41) (by kernel_rfl) (c := b_laws_szInt64S) (by kernel_rfl) (by kernel_rfl) (by kernel_rfl) (lam_ok (tab := []) (by kernel_rfl) lm0) e_laws_szInt64S

/-! laws.szBuild -/
abbrev sp_laws_szBuild : Sp := ⟨42, [(0, .val true k8), (1, .val false (.int .i64))], [], []⟩
abbrev sq_laws_szBuild : Sp := ⟨1, [(0, .val false (.int .i64))], [], []⟩
noncomputable def g_laws_szBuild : List (FuncId × SumX) := [(40, cN sp_laws_szPortS sq_laws_szPortS U_laws_szPortS), (41, cN sp_laws_szInt64S sq_laws_szInt64S U_laws_szInt64S)]
def j_laws_szBuild : Nat → Option (List (Nat × SS)) := jOf []
theorem gok_laws_szBuild : GOk P (gamOf g_laws_szBuild) := gam_ok (tab := g_laws_szBuild) (gm1 (cN_ok c_laws_szPortS rfl) (gm1 (cN_ok c_laws_szInt64S rfl) gm0))
noncomputable abbrev b_laws_szBuild : Code := bodyOf Tryz.f6
noncomputable def F_laws_szBuild (x1 : K.T k8) (x2 : K.T (.int .i64)) : Option sq_laws_szBuild.T :=
  (F_laws_szPortS x1.2.1 x2).bind fun y1 =>
  bif (decide (y1.1.1 < (0 : Int))) then
    (some (((-1 : Int), ()), (), ()))
  else
  (F_laws_szInt64S x1.2.2.1 y1.1.1).bind fun y2 =>
  bif (decide (y2.1.1 < (0 : Int))) then
    (some (((-1 : Int), ()), (), ()))
  else
  (F_laws_szInt64S x1.2.2.2.1 y2.1.1).bind fun y3 =>
  bif (decide (y3.1.1 < (0 : Int))) then
    (some (((-1 : Int), ()), (), ()))
  else
  (F_laws_szInt64S x1.2.2.2.2.1 y3.1.1).bind fun y4 =>
  bif (decide (y4.1.1 < (0 : Int))) then
    (some (((-1 : Int), ()), (), ()))
  else
  (F_laws_szInt64S x1.2.2.2.2.2.1 y4.1.1).bind fun y5 =>
  bif (decide (y5.1.1 < (0 : Int))) then
    (some (((-1 : Int), ()), (), ()))
  else
  (F_laws_szInt64S x1.2.2.2.2.2.2.1 y5.1.1).bind fun y6 =>
  bif (decide (y6.1.1 < (0 : Int))) then
    (some (((-1 : Int), ()), (), ()))
  else
  some ((y6.1.1, ()), (), ())
noncomputable abbrev U_laws_szBuild : sp_laws_szBuild.T → Option sq_laws_szBuild.T := fun x => F_laws_szBuild x.1.1 x.1.2.1
theorem e_laws_szBuild : ∀ x, evCode ty (gamOf g_laws_szBuild) j_laws_szBuild (lamOf []) b_laws_szBuild (sp_laws_szBuild.hd x) (finN ty sq_laws_szBuild [.tmp 4]) = U_laws_szBuild x := fun x => by kernel_rfl
theorem c_laws_szBuild : FnS P 6 sp_laws_szBuild sq_laws_szBuild U_laws_szBuild :=
  fnS_of_ev tyOk mixed gok_laws_szBuild (fn := Tryz.f6) (by kernel_rfl) (c := b_laws_szBuild) (by kernel_rfl) (by kernel_rfl) (by kernel_rfl) (lam_ok (tab := []) (by kernel_rfl) lm0) e_laws_szBuild

/-! laws.szChan -/
abbrev sp_laws_szChan : Sp := ⟨24, [(0, .val true k9), (1, .val false (.int .i64))], [], []⟩
abbrev sq_laws_szChan : Sp := ⟨1, [(0, .val false (.int .i64))], [], []⟩
noncomputable def g_laws_szChan : List (FuncId × SumX) := [(41, cN sp_laws_szInt64S sq_laws_szInt64S U_laws_szInt64S)]
def j_laws_szChan : Nat → Option (List (Nat × SS)) := jOf []
theorem gok_laws_szChan : GOk P (gamOf g_laws_szChan) := gam_ok (tab := g_laws_szChan) (gm1 (cN_ok c_laws_szInt64S rfl) gm0)
noncomputable abbrev b_laws_szChan : Code := bodyOf Tryz.f7
noncomputable def F_laws_szChan (x1 : K.T k9) (x2 : K.T (.int .i64)) : Option sq_laws_szChan.T :=
  (F_laws_szInt64S x1.2.1 x2).bind fun y1 =>
  bif (decide (y1.1.1 < (0 : Int))) then
    (some (((-1 : Int), ()), (), ()))
  else
  (F_laws_szInt64S x1.2.2.1 y1.1.1).bind fun y2 =>
  bif (decide (y2.1.1 < (0 : Int))) then
    (some (((-1 : Int), ()), (), ()))
  else
  (F_laws_szInt64S x1.2.2.2.1 y2.1.1).bind fun y3 =>
  bif (decide (y3.1.1 < (0 : Int))) then
    (some (((-1 : Int), ()), (), ()))
  else
  some ((y3.1.1, ()), (), ())
noncomputable abbrev U_laws_szChan : sp_laws_szChan.T → Option sq_laws_szChan.T := fun x => F_laws_szChan x.1.1 x.1.2.1
theorem e_laws_szChan : ∀ x, evCode ty (gamOf g_laws_szChan) j_laws_szChan (lamOf []) b_laws_szChan (sp_laws_szChan.hd x) (finN ty sq_laws_szChan [.tmp 4]) = U_laws_szChan x := fun x => by kernel_rfl
theorem c_laws_szChan : FnS P 7 sp_laws_szChan sq_laws_szChan U_laws_szChan :=
  fnS_of_ev tyOk mixed gok_laws_szChan (fn := Tryz.f7) (by kernel_rfl) (c := b_laws_szChan) (by kernel_rfl) (by kernel_rfl) (by kernel_rfl) (lam_ok (tab := []) (by kernel_rfl) lm0) e_laws_szChan

/-! spec.l1In -/
abbrev sp_spec_l1In : Sp := ⟨15, [(0, .val false (.int .i64)), (1, .val false (.int .i64)), (2, .val false (.int .i64))], [], []⟩
abbrev sq_spec_l1In : Sp := ⟨1, [(0, .val false .bool)], [], []⟩
noncomputable def g_spec_l1In : List (FuncId × SumX) := []
def j_spec_l1In : Nat → Option (List (Nat × SS)) := jOf [(1, [(6, .val false .bool)])]
theorem gok_spec_l1In : GOk P (gamOf g_spec_l1In) := gam_ok (tab := g_spec_l1In) gm0
noncomputable abbrev b_spec_l1In : Code := bodyOf Tryz.f80
noncomputable def F_spec_l1In (x1 : K.T (.int .i64)) (x2 : K.T (.int .i64)) (x3 : K.T (.int .i64)) : Option sq_spec_l1In.T :=
  (bif (decide (x1 ≥ x2)) then
      (some ((decide (x1 ≤ x3)), ()))
    else
    some (false, ())).bind fun y1 =>
  some ((y1.1, ()), (), ())
noncomputable abbrev U_spec_l1In : sp_spec_l1In.T → Option sq_spec_l1In.T := fun x => F_spec_l1In x.1.1 x.1.2.1 x.1.2.2.1
theorem e_spec_l1In : ∀ x, evCode ty (gamOf g_spec_l1In) j_spec_l1In (lamOf []) b_spec_l1In (sp_spec_l1In.hd x) (finN ty sq_spec_l1In [.tmp 6]) = U_spec_l1In x := fun x => by kernel_rfl
theorem c_spec_l1In : FnS P 80 sp_spec_l1In sq_spec_l1In U_spec_l1In :=
  fnS_of_ev tyOk mixed gok_spec_l1In (fn := Tryz.f80) (by kernel_rfl) (c := b_spec_l1In) (by kernel_rfl) (by kernel_rfl) (by kernel_rfl) (lam_ok (tab := []) (by kernel_rfl) lm0) e_spec_l1In

/-! spec.l12Cell -/
abbrev sp_spec_l12Cell : Sp := ⟨12, [(0, .rp k8), (1, .val false (.int .i64))], [], []⟩
abbrev sq_spec_l12Cell : Sp := ⟨1, [(0, .val false .bool)], [], []⟩
noncomputable def g_spec_l12Cell : List (FuncId × SumX) := [(80, cN sp_spec_l1In sq_spec_l1In U_spec_l1In)]
def j_spec_l12Cell : Nat → Option (List (Nat × SS)) := jOf []
theorem gok_spec_l12Cell : GOk P (gamOf g_spec_l12Cell) := gam_ok (tab := g_spec_l12Cell) (gm1 (cN_ok c_spec_l1In rfl) gm0)
noncomputable abbrev b_spec_l12Cell : Code := bodyOf Tryz.f81
noncomputable def F_spec_l12Cell (x1 : K.T k8) (x2 : K.T (.int .i64)) : Option sq_spec_l12Cell.T :=
  (F_spec_l1In x2 (0 : Int) (IntKind.wrap .i64 (x1.1 - (1 : Int)))).bind fun y1 =>
  some ((y1.1.1, ()), (), ())
noncomputable abbrev U_spec_l12Cell : sp_spec_l12Cell.T → Option sq_spec_l12Cell.T := fun x => F_spec_l12Cell x.1.1 x.1.2.1
theorem e_spec_l12Cell : ∀ x, evCode ty (gamOf g_spec_l12Cell) j_spec_l12Cell (lamOf []) b_spec_l12Cell (sp_spec_l12Cell.hd x) (finN ty sq_spec_l12Cell [.tmp 4]) = U_spec_l12Cell x := fun x => by kernel_rfl
theorem c_spec_l12Cell : FnS P 81 sp_spec_l12Cell sq_spec_l12Cell U_spec_l12Cell :=
  fnS_of_ev tyOk mixed gok_spec_l12Cell (fn := Tryz.f81) (by kernel_rfl) (c := b_spec_l12Cell) (by kernel_rfl) (by kernel_rfl) (by kernel_rfl) (lam_ok (tab := []) (by kernel_rfl) lm0) e_spec_l12Cell

/-! spec.l1Word -/
abbrev sp_spec_l1Word : Sp := ⟨5, [(0, .val false (.int .i64))], [], []⟩
abbrev sq_spec_l1Word : Sp := ⟨1, [(0, .val false .bool)], [], []⟩
noncomputable def g_spec_l1Word : List (FuncId × SumX) := [(80, cN sp_spec_l1In sq_spec_l1In U_spec_l1In)]
def j_spec_l1Word : Nat → Option (List (Nat × SS)) := jOf []
theorem gok_spec_l1Word : GOk P (gamOf g_spec_l1Word) := gam_ok (tab := g_spec_l1Word) (gm1 (cN_ok c_spec_l1In rfl) gm0)
noncomputable abbrev b_spec_l1Word : Code := bodyOf Tryz.f86
noncomputable def F_spec_l1Word (x1 : K.T (.int .i64)) : Option sq_spec_l1Word.T :=
  (F_spec_l1In x1 (0 : Int) (65535 : Int)).bind fun y1 =>
  some ((y1.1.1, ()), (), ())
noncomputable abbrev U_spec_l1Word : sp_spec_l1Word.T → Option sq_spec_l1Word.T := fun x => F_spec_l1Word x.1.1
theorem e_spec_l1Word : ∀ x, evCode ty (gamOf g_spec_l1Word) j_spec_l1Word (lamOf []) b_spec_l1Word (sp_spec_l1Word.hd x) (finN ty sq_spec_l1Word [.tmp 2]) = U_spec_l1Word x := fun x => by kernel_rfl
theorem c_spec_l1Word : FnS P 86 sp_spec_l1Word sq_spec_l1Word U_spec_l1Word :=
  fnS_of_ev tyOk mixed gok_spec_l1Word (fn := Tryz.f86) (by kernel_rfl) (c := b_spec_l1Word) (by kernel_rfl) (by kernel_rfl) (by kernel_rfl) (lam_ok (tab := []) (by kernel_rfl) lm0) e_spec_l1Word

/-! spec.WordsFault -/
abbrev sp_spec_WordsFault : Sp := ⟨19, [(0, .val false (.sl (.int .i64)))], [], []⟩
abbrev sq_spec_WordsFault : Sp := ⟨1, [(0, .val false (.int .i64))], [], []⟩
noncomputable def g_spec_WordsFault : List (FuncId × SumX) := [(86, cN sp_spec_l1Word sq_spec_l1Word U_spec_l1Word)]
def j_spec_WordsFault : Nat → Option (List (Nat × SS)) := jOf []
theorem gok_spec_WordsFault : GOk P (gamOf g_spec_WordsFault) := gam_ok (tab := g_spec_WordsFault) (gm1 (cN_ok c_spec_l1Word rfl) gm0)
noncomputable abbrev b_spec_WordsFault : Code := bodyOf Tryz.f82
abbrev sp_spec_WordsFault_l4 : Sp := ⟨19, [(0, .val false (.sl (.int .i64))), (3, .val false (.int .i64))], [], []⟩
abbrev xs_spec_WordsFault_l4 : List (Ex × Sp) := [(.exit 0, ⟨19, [], [], []⟩), (.ret, ⟨19, [(2, .val false (.int .i64))], [], []⟩)]
noncomputable def s_spec_WordsFault_l4 : sp_spec_WordsFault_l4.T → Option (sp_spec_WordsFault_l4.T ⊕ XT xs_spec_WordsFault_l4) := fun x =>
  bif (decide (x.1.2.1 < ((x.1.1).length : Int))) then
    (bif ib x.1.2.1 (x.1.1).length then
    (F_spec_l1Word ((x.1.1).getD (Int.toNat x.1.2.1) (K.zero (.int .i64)))).bind fun y1 =>
    bif (!y1.1.1) then
      (some (.inr (.inr (((3 : Int), ()), (), ()))))
    else
    some (.inl ((x.1.1, ((IntKind.wrap .i64 (x.1.2.1 + (1 : Int))), ())), (), ()))
    else none)
  else
  some (.inr (.inl ((), (), ())))
noncomputable def l_spec_WordsFault_l4 : sp_spec_WordsFault_l4.T → Option (XT xs_spec_WordsFault_l4) := lim s_spec_WordsFault_l4
theorem es_spec_WordsFault_l4 : ∀ x, evCode ty (gamOf g_spec_WordsFault) j_spec_WordsFault (lamOf []) (loopAt b_spec_WordsFault 4) (sp_spec_WordsFault_l4.hd x) (rdK sp_spec_WordsFault_l4 xs_spec_WordsFault_l4) = s_spec_WordsFault_l4 x := fun x => by kernel_rfl
theorem ls_spec_WordsFault_l4 : LSumOk P (loopAt b_spec_WordsFault 4) (loopL sp_spec_WordsFault_l4 xs_spec_WordsFault_l4 l_spec_WordsFault_l4) := loop_ok tyOk mixed gok_spec_WordsFault (by kernel_rfl) (by kernel_rfl) (lam_ok (tab := []) (by kernel_rfl) lm0) es_spec_WordsFault_l4 lim_itr
noncomputable def F_spec_WordsFault (x1 : K.T (.sl (.int .i64))) : Option sq_spec_WordsFault.T :=
  bif (decide (((x1).length : Int) > (400 : Int))) then
    (some (((2 : Int), ()), (), ()))
  else
  (l_spec_WordsFault_l4 ((x1, ((0 : Int), ())), (), ())).bind fun y2 =>
  (match y2 with
  | .inl y3 => some (((0 : Int), ()), (), ())
  | .inr z4 => some ((z4.1.1, ()), (), ()))
noncomputable abbrev U_spec_WordsFault : sp_spec_WordsFault.T → Option sq_spec_WordsFault.T := fun x => F_spec_WordsFault x.1.1
theorem e_spec_WordsFault : ∀ x, evCode ty (gamOf g_spec_WordsFault) j_spec_WordsFault (lamOf [(4, loopL sp_spec_WordsFault_l4 xs_spec_WordsFault_l4 l_spec_WordsFault_l4)]) b_spec_WordsFault (sp_spec_WordsFault.hd x) (finN ty sq_spec_WordsFault [.tmp 2]) = U_spec_WordsFault x := fun x => by kernel_rfl
theorem c_spec_WordsFault : FnS P 82 sp_spec_WordsFault sq_spec_WordsFault U_spec_WordsFault :=
  fnS_of_ev tyOk mixed gok_spec_WordsFault (fn := Tryz.f82) (by kernel_rfl) (c := b_spec_WordsFault) (by kernel_rfl) (by kernel_rfl) (by kernel_rfl) (lam_ok (tab := [(4, loopL sp_spec_WordsFault_l4 xs_spec_WordsFault_l4 l_spec_WordsFault_l4)]) (by kernel_rfl) (lm1 @ls_spec_WordsFault_l4 lm0)) e_spec_WordsFault

/-! spec.l12Same -/
abbrev sp_spec_l12Same : Sp := ⟨26, [(0, .val false (.sl (.int .i64))), (1, .val false (.sl (.int .i64)))], [], []⟩
abbrev sq_spec_l12Same : Sp := ⟨1, [(0, .val false .bool)], [], []⟩
noncomputable def g_spec_l12Same : List (FuncId × SumX) := []
def j_spec_l12Same : Nat → Option (List (Nat × SS)) := jOf []
theorem gok_spec_l12Same : GOk P (gamOf g_spec_l12Same) := gam_ok (tab := g_spec_l12Same) gm0
noncomputable abbrev b_spec_l12Same : Code := bodyOf Tryz.f83
abbrev sp_spec_l12Same_l4 : Sp := ⟨26, [(0, .val false (.sl (.int .i64))), (1, .val false (.sl (.int .i64))), (5, .val false (.int .i64))], [], []⟩
abbrev xs_spec_l12Same_l4 : List (Ex × Sp) := [(.exit 0, ⟨26, [], [], []⟩), (.ret, ⟨26, [(4, .val false .bool)], [], []⟩)]
noncomputable def s_spec_l12Same_l4 : sp_spec_l12Same_l4.T → Option (sp_spec_l12Same_l4.T ⊕ XT xs_spec_l12Same_l4) := fun x =>
  bif (decide (x.1.2.2.1 < ((x.1.1).length : Int))) then
    (bif ib x.1.2.2.1 (x.1.1).length then
    bif ib x.1.2.2.1 (x.1.2.1).length then
    bif (((x.1.1).getD (Int.toNat x.1.2.2.1) (K.zero (.int .i64))) != ((x.1.2.1).getD (Int.toNat x.1.2.2.1) (K.zero (.int .i64)))) then
      (some (.inr (.inr ((false, ()), (), ()))))
    else
    some (.inl ((x.1.1, (x.1.2.1, ((IntKind.wrap .i64 (x.1.2.2.1 + (1 : Int))), ()))), (), ()))
    else none
    else none)
  else
  some (.inr (.inl ((), (), ())))
noncomputable def l_spec_l12Same_l4 : sp_spec_l12Same_l4.T → Option (XT xs_spec_l12Same_l4) := lim s_spec_l12Same_l4
theorem es_spec_l12Same_l4 : ∀ x, evCode ty (gamOf g_spec_l12Same) j_spec_l12Same (lamOf []) (loopAt b_spec_l12Same 4) (sp_spec_l12Same_l4.hd x) (rdK sp_spec_l12Same_l4 xs_spec_l12Same_l4) = s_spec_l12Same_l4 x := fun x => by kernel_rfl
theorem ls_spec_l12Same_l4 : LSumOk P (loopAt b_spec_l12Same 4) (loopL sp_spec_l12Same_l4 xs_spec_l12Same_l4 l_spec_l12Same_l4) := loop_ok tyOk mixed gok_spec_l12Same (by kernel_rfl) (by kernel_rfl) (lam_ok (tab := []) (by kernel_rfl) lm0) es_spec_l12Same_l4 lim_itr
noncomputable def F_spec_l12Same (x1 : K.T (.sl (.int .i64))) (x2 : K.T (.sl (.int .i64))) : Option sq_spec_l12Same.T :=
  bif (((x1).length : Int) != ((x2).length : Int)) then
    (some ((false, ()), (), ()))
  else
  (l_spec_l12Same_l4 ((x1, (x2, ((0 : Int), ()))), (), ())).bind fun y1 =>
  (match y1 with
  | .inl y2 => some ((true, ()), (), ())
  | .inr z3 => some ((z3.1.1, ()), (), ()))
noncomputable abbrev U_spec_l12Same : sp_spec_l12Same.T → Option sq_spec_l12Same.T := fun x => F_spec_l12Same x.1.1 x.1.2.1
theorem e_spec_l12Same : ∀ x, evCode ty (gamOf g_spec_l12Same) j_spec_l12Same (lamOf [(4, loopL sp_spec_l12Same_l4 xs_spec_l12Same_l4 l_spec_l12Same_l4)]) b_spec_l12Same (sp_spec_l12Same.hd x) (finN ty sq_spec_l12Same [.tmp 4]) = U_spec_l12Same x := fun x => by kernel_rfl
theorem c_spec_l12Same : FnS P 83 sp_spec_l12Same sq_spec_l12Same U_spec_l12Same :=
  fnS_of_ev tyOk mixed gok_spec_l12Same (fn := Tryz.f83) (by kernel_rfl) (c := b_spec_l12Same) (by kernel_rfl) (by kernel_rfl) (by kernel_rfl) (lam_ok (tab := [(4, loopL sp_spec_l12Same_l4 xs_spec_l12Same_l4 l_spec_l12Same_l4)]) (by kernel_rfl) (lm1 @ls_spec_l12Same_l4 lm0)) e_spec_l12Same

/-! spec.l1Min -/
abbrev sp_spec_l1Min : Sp := ⟨10, [(0, .val false (.int .i64)), (1, .val false (.int .i64))], [], []⟩
abbrev sq_spec_l1Min : Sp := ⟨1, [(0, .val false (.int .i64))], [], []⟩
noncomputable def g_spec_l1Min : List (FuncId × SumX) := []
def j_spec_l1Min : Nat → Option (List (Nat × SS)) := jOf []
theorem gok_spec_l1Min : GOk P (gamOf g_spec_l1Min) := gam_ok (tab := g_spec_l1Min) gm0
noncomputable abbrev b_spec_l1Min : Code := bodyOf Tryz.f127
noncomputable def F_spec_l1Min (x1 : K.T (.int .i64)) (x2 : K.T (.int .i64)) : Option sq_spec_l1Min.T :=
  bif (decide (x1 < x2)) then
    (some ((x1, ()), (), ()))
  else
  some ((x2, ()), (), ())
noncomputable abbrev U_spec_l1Min : sp_spec_l1Min.T → Option sq_spec_l1Min.T := fun x => F_spec_l1Min x.1.1 x.1.2.1
theorem e_spec_l1Min : ∀ x, evCode ty (gamOf g_spec_l1Min) j_spec_l1Min (lamOf []) b_spec_l1Min (sp_spec_l1Min.hd x) (finN ty sq_spec_l1Min [.tmp 4]) = U_spec_l1Min x := fun x => by kernel_rfl
theorem c_spec_l1Min : FnS P 127 sp_spec_l1Min sq_spec_l1Min U_spec_l1Min :=
  fnS_of_ev tyOk mixed gok_spec_l1Min (fn := Tryz.f127) (by kernel_rfl) (c := b_spec_l1Min) (by kernel_rfl) (by kernel_rfl) (by kernel_rfl) (lam_ok (tab := []) (by kernel_rfl) lm0) e_spec_l1Min

/-! spec.l1Crc -/
abbrev sp_spec_l1Crc : Sp := ⟨24, [(0, .val false (.int .i64)), (1, .val false (.int .i64))], [], []⟩
abbrev sq_spec_l1Crc : Sp := ⟨1, [(0, .val false (.int .i64))], [], []⟩
noncomputable def g_spec_l1Crc : List (FuncId × SumX) := []
def j_spec_l1Crc : Nat → Option (List (Nat × SS)) := jOf []
theorem gok_spec_l1Crc : GOk P (gamOf g_spec_l1Crc) := gam_ok (tab := g_spec_l1Crc) gm0
noncomputable abbrev b_spec_l1Crc : Code := bodyOf Tryz.f150
abbrev sp_spec_l1Crc_l3 : Sp := ⟨24, [(0, .val false (.int .i64)), (5, .val false (.int .i64))], [], []⟩
abbrev xs_spec_l1Crc_l3 : List (Ex × Sp) := [(.exit 0, ⟨24, [(0, .val false (.int .i64))], [], []⟩)]
noncomputable def s_spec_l1Crc_l3 : sp_spec_l1Crc_l3.T → Option (sp_spec_l1Crc_l3.T ⊕ XT xs_spec_l1Crc_l3) := fun x =>
  bif (decide (x.1.2.1 < (8 : Int))) then
    (bif (decide (x.1.1 ≥ (32768 : Int))) then
      (some (.inl (((IntKind.wrap .i64 (((BitVec.ofInt (IntKind.bits .i64) (Int.tmod (IntKind.wrap .i64 (x.1.1 * (2 : Int))) (65536 : Int)) ^^^ BitVec.ofInt (IntKind.bits .i64) (4129 : Int)).toNat : Int))), ((IntKind.wrap .i64 (x.1.2.1 + (1 : Int))), ())), (), ())))
    else
    some (.inl (((Int.tmod (IntKind.wrap .i64 (x.1.1 * (2 : Int))) (65536 : Int)), ((IntKind.wrap .i64 (x.1.2.1 + (1 : Int))), ())), (), ())))
  else
  some (.inr ((x.1.1, ()), (), ()))
noncomputable def l_spec_l1Crc_l3 : sp_spec_l1Crc_l3.T → Option (XT xs_spec_l1Crc_l3) := lim s_spec_l1Crc_l3
theorem es_spec_l1Crc_l3 : ∀ x, evCode ty (gamOf g_spec_l1Crc) j_spec_l1Crc (lamOf []) (loopAt b_spec_l1Crc 3) (sp_spec_l1Crc_l3.hd x) (rdK sp_spec_l1Crc_l3 xs_spec_l1Crc_l3) = s_spec_l1Crc_l3 x := fun x => by kernel_rfl
theorem ls_spec_l1Crc_l3 : LSumOk P (loopAt b_spec_l1Crc 3) (loopL sp_spec_l1Crc_l3 xs_spec_l1Crc_l3 l_spec_l1Crc_l3) := loop_ok tyOk mixed gok_spec_l1Crc (by kernel_rfl) (by kernel_rfl) (lam_ok (tab := []) (by kernel_rfl) lm0) es_spec_l1Crc_l3 lim_itr
noncomputable def F_spec_l1Crc (x1 : K.T (.int .i64)) (x2 : K.T (.int .i64)) : Option sq_spec_l1Crc.T :=
  (l_spec_l1Crc_l3 (((IntKind.wrap .i64 (((BitVec.ofInt (IntKind.bits .i64) x1 ^^^ BitVec.ofInt (IntKind.bits .i64) (IntKind.wrap .i64 (x2 * 2 ^ min (Int.toNat (8 : Int)) (IntKind.bits .i64)))).toNat : Int))), ((0 : Int), ())), (), ())).bind fun y1 =>
  some ((y1.1.1, ()), (), ())
noncomputable abbrev U_spec_l1Crc : sp_spec_l1Crc.T → Option sq_spec_l1Crc.T := fun x => F_spec_l1Crc x.1.1 x.1.2.1
theorem e_spec_l1Crc : ∀ x, evCode ty (gamOf g_spec_l1Crc) j_spec_l1Crc (lamOf [(3, loopL sp_spec_l1Crc_l3 xs_spec_l1Crc_l3 l_spec_l1Crc_l3)]) b_spec_l1Crc (sp_spec_l1Crc.hd x) (finN ty sq_spec_l1Crc [.tmp 4]) = U_spec_l1Crc x := fun x => by kernel_rfl
theorem c_spec_l1Crc : FnS P 150 sp_spec_l1Crc sq_spec_l1Crc U_spec_l1Crc :=
  fnS_of_ev tyOk mixed gok_spec_l1Crc (fn := Tryz.f150) (by kernel_rfl) (c := b_spec_l1Crc) (by kernel_rfl) (by kernel_rfl) (by kernel_rfl) (lam_ok (tab := [(3, loopL sp_spec_l1Crc_l3 xs_spec_l1Crc_l3 l_spec_l1Crc_l3)]) (by kernel_rfl) (lm1 @ls_spec_l1Crc_l3 lm0)) e_spec_l1Crc

/-! spec.l1Sum -/
abbrev sp_spec_l1Sum : Sp := ⟨26, [(0, .val false (.sl (.int .i64)))], [], []⟩
abbrev sq_spec_l1Sum : Sp := ⟨1, [(0, .val false (.int .i64))], [], []⟩
noncomputable def g_spec_l1Sum : List (FuncId × SumX) := [(150, cN sp_spec_l1Crc sq_spec_l1Crc U_spec_l1Crc)]
def j_spec_l1Sum : Nat → Option (List (Nat × SS)) := jOf []
theorem gok_spec_l1Sum : GOk P (gamOf g_spec_l1Sum) := gam_ok (tab := g_spec_l1Sum) (gm1 (cN_ok c_spec_l1Crc rfl) gm0)
noncomputable abbrev b_spec_l1Sum : Code := bodyOf Tryz.f128
abbrev sp_spec_l1Sum_l3 : Sp := ⟨26, [(0, .val false (.sl (.int .i64))), (3, .val false (.int .i64)), (4, .val false (.int .i64))], [], []⟩
abbrev xs_spec_l1Sum_l3 : List (Ex × Sp) := [(.exit 0, ⟨26, [(3, .val false (.int .i64))], [], []⟩)]
noncomputable def s_spec_l1Sum_l3 : sp_spec_l1Sum_l3.T → Option (sp_spec_l1Sum_l3.T ⊕ XT xs_spec_l1Sum_l3) := fun x =>
  bif (decide (x.1.2.2.1 < ((x.1.1).length : Int))) then
    (bif ib x.1.2.2.1 (x.1.1).length then
    (F_spec_l1Crc x.1.2.1 (IntKind.wrap .i64 (Int.tdiv ((x.1.1).getD (Int.toNat x.1.2.2.1) (K.zero (.int .i64))) (256 : Int)))).bind fun y1 =>
    bif ib x.1.2.2.1 (x.1.1).length then
    (F_spec_l1Crc y1.1.1 (Int.tmod ((x.1.1).getD (Int.toNat x.1.2.2.1) (K.zero (.int .i64))) (256 : Int))).bind fun y2 =>
    some (.inl ((x.1.1, (y2.1.1, ((IntKind.wrap .i64 (x.1.2.2.1 + (1 : Int))), ()))), (), ()))
    else none
    else none)
  else
  some (.inr ((x.1.2.1, ()), (), ()))
noncomputable def l_spec_l1Sum_l3 : sp_spec_l1Sum_l3.T → Option (XT xs_spec_l1Sum_l3) := lim s_spec_l1Sum_l3
theorem es_spec_l1Sum_l3 : ∀ x, evCode ty (gamOf g_spec_l1Sum) j_spec_l1Sum (lamOf []) (loopAt b_spec_l1Sum 3) (sp_spec_l1Sum_l3.hd x) (rdK sp_spec_l1Sum_l3 xs_spec_l1Sum_l3) = s_spec_l1Sum_l3 x := fun x => by kernel_rfl
theorem ls_spec_l1Sum_l3 : LSumOk P (loopAt b_spec_l1Sum 3) (loopL sp_spec_l1Sum_l3 xs_spec_l1Sum_l3 l_spec_l1Sum_l3) := loop_ok tyOk mixed gok_spec_l1Sum (by kernel_rfl) (by kernel_rfl) (lam_ok (tab := []) (by kernel_rfl) lm0) es_spec_l1Sum_l3 lim_itr
noncomputable def F_spec_l1Sum (x1 : K.T (.sl (.int .i64))) : Option sq_spec_l1Sum.T :=
  (l_spec_l1Sum_l3 ((x1, ((65535 : Int), ((0 : Int), ()))), (), ())).bind fun y3 =>
  some ((y3.1.1, ()), (), ())
noncomputable abbrev U_spec_l1Sum : sp_spec_l1Sum.T → Option sq_spec_l1Sum.T := fun x => F_spec_l1Sum x.1.1
theorem e_spec_l1Sum : ∀ x, evCode ty (gamOf g_spec_l1Sum) j_spec_l1Sum (lamOf [(3, loopL sp_spec_l1Sum_l3 xs_spec_l1Sum_l3 l_spec_l1Sum_l3)]) b_spec_l1Sum (sp_spec_l1Sum.hd x) (finN ty sq_spec_l1Sum [.tmp 2]) = U_spec_l1Sum x := fun x => by kernel_rfl
theorem c_spec_l1Sum : FnS P 128 sp_spec_l1Sum sq_spec_l1Sum U_spec_l1Sum :=
  fnS_of_ev tyOk mixed gok_spec_l1Sum (fn := Tryz.f128) (by kernel_rfl) (c := b_spec_l1Sum) (by kernel_rfl) (by kernel_rfl) (by kernel_rfl) (lam_ok (tab := [(3, loopL sp_spec_l1Sum_l3 xs_spec_l1Sum_l3 l_spec_l1Sum_l3)]) (by kernel_rfl) (lm1 @ls_spec_l1Sum_l3 lm0)) e_spec_l1Sum

/-! spec.l1Blocks -/
abbrev sp_spec_l1Blocks : Sp := ⟨27, [(0, .val false (.sl (.int .i64)))], [], []⟩
abbrev sq_spec_l1Blocks : Sp := ⟨1, [(0, .fix (.own 59000))], [], [(59000, (.int .i64), true)]⟩
noncomputable def g_spec_l1Blocks : List (FuncId × SumX) := [(127, cN sp_spec_l1Min sq_spec_l1Min U_spec_l1Min), (128, cN sp_spec_l1Sum sq_spec_l1Sum U_spec_l1Sum)]
def j_spec_l1Blocks : Nat → Option (List (Nat × SS)) := jOf []
theorem gok_spec_l1Blocks : GOk P (gamOf g_spec_l1Blocks) := gam_ok (tab := g_spec_l1Blocks) (gm1 (cN_ok c_spec_l1Min rfl) (gm1 (cN_ok c_spec_l1Sum rfl) gm0))
noncomputable abbrev b_spec_l1Blocks : Code := bodyOf Tryz.f84
abbrev sp_spec_l1Blocks_l3 : Sp := ⟨27, [(0, .val false (.sl (.int .i64))), (3, .fix (.own 59000)), (4, .val false (.int .i64))], [], [(59000, (.int .i64), true)]⟩
abbrev xs_spec_l1Blocks_l3 : List (Ex × Sp) := [(.exit 0, ⟨27, [(3, .fix (.own 59000))], [], [(59000, (.int .i64), true)]⟩)]
noncomputable def s_spec_l1Blocks_l3 : sp_spec_l1Blocks_l3.T → Option (sp_spec_l1Blocks_l3.T ⊕ XT xs_spec_l1Blocks_l3) := fun x =>
  bif (decide (x.1.2.1 < ((x.1.1).length : Int))) then
    ((F_spec_l1Min ((x.1.1).length : Int) (IntKind.wrap .i64 (x.1.2.1 + (8 : Int)))).bind fun y1 =>
    bif decide (0 ≤ x.1.2.1 ∧ x.1.2.1 ≤ y1.1.1 ∧ y1.1.1 ≤ ((x.1.1).length : Int)) then
    (F_spec_l1Sum (((x.1.1).take (Int.toNat y1.1.1)).drop (Int.toNat x.1.2.1))).bind fun y2 =>
    bif room (x.2.2.1 ++ [y2.1.1]).length 8 then
    some (.inl ((x.1.1, ((IntKind.wrap .i64 (x.1.2.1 + (8 : Int))), ())), (), ((x.2.2.1 ++ [y2.1.1]), ())))
    else none
    else none)
  else
  some (.inr ((), (), (x.2.2.1, ())))
noncomputable def l_spec_l1Blocks_l3 : sp_spec_l1Blocks_l3.T → Option (XT xs_spec_l1Blocks_l3) := lim s_spec_l1Blocks_l3
theorem es_spec_l1Blocks_l3 : ∀ x, evCode ty (gamOf g_spec_l1Blocks) j_spec_l1Blocks (lamOf []) (loopAt b_spec_l1Blocks 3) (sp_spec_l1Blocks_l3.hd x) (rdK sp_spec_l1Blocks_l3 xs_spec_l1Blocks_l3) = s_spec_l1Blocks_l3 x := fun x => by kernel_rfl
theorem ls_spec_l1Blocks_l3 : LSumOk P (loopAt b_spec_l1Blocks 3) (loopL sp_spec_l1Blocks_l3 xs_spec_l1Blocks_l3 l_spec_l1Blocks_l3) := loop_ok tyOk mixed gok_spec_l1Blocks (by kernel_rfl) (by kernel_rfl) (lam_ok (tab := []) (by kernel_rfl) lm0) es_spec_l1Blocks_l3 lim_itr
noncomputable def F_spec_l1Blocks (x1 : K.T (.sl (.int .i64))) : Option sq_spec_l1Blocks.T :=
  (l_spec_l1Blocks_l3 ((x1, ((0 : Int), ())), (), ([], ()))).bind fun y3 =>
  some ((), (), (y3.2.2.1, ()))
noncomputable abbrev U_spec_l1Blocks : sp_spec_l1Blocks.T → Option sq_spec_l1Blocks.T := fun x => F_spec_l1Blocks x.1.1
theorem e_spec_l1Blocks : ∀ x, evCode ty (gamOf g_spec_l1Blocks) j_spec_l1Blocks (lamOf [(3, loopL sp_spec_l1Blocks_l3 xs_spec_l1Blocks_l3 l_spec_l1Blocks_l3)]) b_spec_l1Blocks (sp_spec_l1Blocks.hd x) (finN ty sq_spec_l1Blocks [.tmp 2]) = U_spec_l1Blocks x := fun x => by kernel_rfl
theorem c_spec_l1Blocks : FnS P 84 sp_spec_l1Blocks sq_spec_l1Blocks U_spec_l1Blocks :=
  fnS_of_ev tyOk mixed gok_spec_l1Blocks (fn := Tryz.f84) (by kernel_rfl) (c := b_spec_l1Blocks) (by kernel_rfl) (by kernel_rfl) (by kernel_rfl) (lam_ok (tab := [(3, loopL sp_spec_l1Blocks_l3 xs_spec_l1Blocks_l3 l_spec_l1Blocks_l3)]) (by kernel_rfl) (lm1 @ls_spec_l1Blocks_l3 lm0)) e_spec_l1Blocks

/-! spec.l12Fault -/
abbrev sp_spec_l12Fault : Sp := ⟨122, [(0, .rp k8)], [], []⟩
abbrev sq_spec_l12Fault : Sp := ⟨1, [(0, .val false (.int .i64))], [], []⟩
noncomputable def g_spec_l12Fault : List (FuncId × SumX) := [(80, cN sp_spec_l1In sq_spec_l1In U_spec_l1In), (81, cN sp_spec_l12Cell sq_spec_l12Cell U_spec_l12Cell), (82, cN sp_spec_WordsFault sq_spec_WordsFault U_spec_WordsFault), (83, cN sp_spec_l12Same sq_spec_l12Same U_spec_l12Same), (84, fN sp_spec_l1Blocks sq_spec_l1Blocks U_spec_l1Blocks)]
def j_spec_l12Fault : Nat → Option (List (Nat × SS)) := jOf [(1, [(28, .val false .bool)]), (3, [(42, .val false .bool)])]
theorem gok_spec_l12Fault : GOk P (gamOf g_spec_l12Fault) := gam_ok (tab := g_spec_l12Fault) (gm1 (cN_ok c_spec_l1In rfl) (gm1 (cN_ok c_spec_l12Cell rfl) (gm1 (cN_ok c_spec_WordsFault rfl) (gm1 (cN_ok c_spec_l12Same rfl) (gm1 (fN_ok c_spec_l1Blocks rfl) gm0)))))
noncomputable abbrev b_spec_l12Fault : Code := bodyOf Tryz.f42
abbrev sp_spec_l12Fault_l6 : Sp := ⟨122, [(0, .rp k8), (3, .val false (.int .i64))], [], []⟩
abbrev xs_spec_l12Fault_l6 : List (Ex × Sp) := [(.exit 0, ⟨122, [(0, .rp k8)], [], []⟩), (.ret, ⟨122, [(2, .val false (.int .i64))], [], []⟩)]
noncomputable def s_spec_l12Fault_l6 : sp_spec_l12Fault_l6.T → Option (sp_spec_l12Fault_l6.T ⊕ XT xs_spec_l12Fault_l6) := fun x =>
  bif (decide (x.1.2.1 < ((x.1.1.2.1).length : Int))) then
    (bif ib x.1.2.1 (x.1.1.2.1).length then
    (F_spec_l12Cell x.1.1 (((x.1.1.2.1).getD (Int.toNat x.1.2.1) (K.zero k0)).1)).bind fun y6 =>
    bif (!y6.1.1) then
      (some (.inr (.inr (((3 : Int), ()), (), ()))))
    else
    some (.inl ((x.1.1, ((IntKind.wrap .i64 (x.1.2.1 + (1 : Int))), ())), (), ()))
    else none)
  else
  some (.inr (.inl ((x.1.1, ()), (), ())))
noncomputable def l_spec_l12Fault_l6 : sp_spec_l12Fault_l6.T → Option (XT xs_spec_l12Fault_l6) := lim s_spec_l12Fault_l6
theorem es_spec_l12Fault_l6 : ∀ x, evCode ty (gamOf g_spec_l12Fault) j_spec_l12Fault (lamOf []) (loopAt b_spec_l12Fault 6) (sp_spec_l12Fault_l6.hd x) (rdK sp_spec_l12Fault_l6 xs_spec_l12Fault_l6) = s_spec_l12Fault_l6 x := fun x => by kernel_rfl
theorem ls_spec_l12Fault_l6 : LSumOk P (loopAt b_spec_l12Fault 6) (loopL sp_spec_l12Fault_l6 xs_spec_l12Fault_l6 l_spec_l12Fault_l6) := loop_ok tyOk mixed gok_spec_l12Fault (by kernel_rfl) (by kernel_rfl) (lam_ok (tab := []) (by kernel_rfl) lm0) es_spec_l12Fault_l6 lim_itr
abbrev sp_spec_l12Fault_l11 : Sp := ⟨122, [(0, .rp k8), (4, .val false (.int .i64))], [], []⟩
abbrev xs_spec_l12Fault_l11 : List (Ex × Sp) := [(.exit 2, ⟨122, [(0, .rp k8)], [], []⟩), (.ret, ⟨122, [(2, .val false (.int .i64))], [], []⟩)]
noncomputable def s_spec_l12Fault_l11 : sp_spec_l12Fault_l11.T → Option (sp_spec_l12Fault_l11.T ⊕ XT xs_spec_l12Fault_l11) := fun x =>
  bif (decide (x.1.2.1 < ((x.1.1.2.2.1).length : Int))) then
    (bif ib x.1.2.1 (x.1.1.2.2.1).length then
    (F_spec_l12Cell x.1.1 ((x.1.1.2.2.1).getD (Int.toNat x.1.2.1) (K.zero (.int .i64)))).bind fun y10 =>
    bif (!y10.1.1) then
      (some (.inr (.inr (((3 : Int), ()), (), ()))))
    else
    some (.inl ((x.1.1, ((IntKind.wrap .i64 (x.1.2.1 + (1 : Int))), ())), (), ()))
    else none)
  else
  some (.inr (.inl ((x.1.1, ()), (), ())))
noncomputable def l_spec_l12Fault_l11 : sp_spec_l12Fault_l11.T → Option (XT xs_spec_l12Fault_l11) := lim s_spec_l12Fault_l11
theorem es_spec_l12Fault_l11 : ∀ x, evCode ty (gamOf g_spec_l12Fault) j_spec_l12Fault (lamOf []) (loopAt b_spec_l12Fault 11) (sp_spec_l12Fault_l11.hd x) (rdK sp_spec_l12Fault_l11 xs_spec_l12Fault_l11) = s_spec_l12Fault_l11 x := fun x => by kernel_rfl
theorem ls_spec_l12Fault_l11 : LSumOk P (loopAt b_spec_l12Fault 11) (loopL sp_spec_l12Fault_l11 xs_spec_l12Fault_l11 l_spec_l12Fault_l11) := loop_ok tyOk mixed gok_spec_l12Fault (by kernel_rfl) (by kernel_rfl) (lam_ok (tab := []) (by kernel_rfl) lm0) es_spec_l12Fault_l11 lim_itr
noncomputable def F_spec_l12Fault (x1 : K.T k8) : Option sq_spec_l12Fault.T :=
  ((F_spec_l1In x1.1 (0 : Int) (80 : Int)).bind fun y1 =>
    bif (!y1.1.1) then
      (some (true, ()))
    else
    (F_spec_l1In x1.2.2.2.2.2.2.2.1 (0 : Int) (20000 : Int)).bind fun y2 =>
    bif (!y2.1.1) then
      (some (true, ()))
    else
    (F_spec_l1In x1.2.2.2.2.2.2.2.2 (0 : Int) (20000 : Int)).bind fun y3 =>
    some ((!y3.1.1), ())).bind fun y4 =>
  bif y4.1 then
    (some (((3 : Int), ()), (), ()))
  else
  (bif (decide (((x1.2.1).length : Int) > (24 : Int))) then
      (some (true, ()))
    else
    some ((decide (((x1.2.2.1).length : Int) > (60 : Int))), ())).bind fun y5 =>
  bif y5.1 then
    (some (((2 : Int), ()), (), ()))
  else
  (l_spec_l12Fault_l6 ((x1, ((0 : Int), ())), (), ())).bind fun y7 =>
  (match y7 with
  | .inl y8 => (l_spec_l12Fault_l11 ((y8.1.1, ((0 : Int), ())), (), ())).bind fun y11 =>
    (match y11 with
    | .inl y12 => (F_spec_WordsFault y12.1.1.2.2.2.1).bind fun y14 =>
      bif (y14.1.1 != (0 : Int)) then
        (some ((y14.1.1, ()), (), ()))
      else
      (F_spec_WordsFault y12.1.1.2.2.2.2.1).bind fun y15 =>
      bif (y15.1.1 != (0 : Int)) then
        (some ((y15.1.1, ()), (), ()))
      else
      (F_spec_l1Blocks y12.1.1.2.2.2.1).bind fun y16 =>
      (F_spec_l12Same y12.1.1.2.2.2.2.2.1 y16.2.2.1).bind fun y17 =>
      bif (!y17.1.1) then
        (some (((6 : Int), ()), (), ()))
      else
      (F_spec_l1Blocks y12.1.1.2.2.2.2.1).bind fun y18 =>
      (F_spec_l12Same y12.1.1.2.2.2.2.2.2.1 y18.2.2.1).bind fun y19 =>
      bif (!y19.1.1) then
        (some (((6 : Int), ()), (), ()))
      else
      some (((0 : Int), ()), (), ())
    | .inr z13 => some ((z13.1.1, ()), (), ()))
  | .inr z9 => some ((z9.1.1, ()), (), ()))
noncomputable abbrev U_spec_l12Fault : sp_spec_l12Fault.T → Option sq_spec_l12Fault.T := fun x => F_spec_l12Fault x.1.1
theorem e_spec_l12Fault : ∀ x, evCode ty (gamOf g_spec_l12Fault) j_spec_l12Fault (lamOf [(6, loopL sp_spec_l12Fault_l6 xs_spec_l12Fault_l6 l_spec_l12Fault_l6), (11, loopL sp_spec_l12Fault_l11 xs_spec_l12Fault_l11 l_spec_l12Fault_l11)]) b_spec_l12Fault (sp_spec_l12Fault.hd x) (finN ty sq_spec_l12Fault [.tmp 2]) = U_spec_l12Fault x := fun x => by kernel_rfl
theorem c_spec_l12Fault : FnS P 42 sp_spec_l12Fault sq_spec_l12Fault U_spec_l12Fault :=
  fnS_of_ev tyOk mixed gok_spec_l12Fault (fn := Tryz.f42) (by kernel_rfl) (c := b_spec_l12Fault) (by kernel_rfl) (by kernel_rfl) (by kernel_rfl) (lam_ok (tab := [(6, loopL sp_spec_l12Fault_l6 xs_spec_l12Fault_l6 l_spec_l12Fault_l6), (11, loopL sp_spec_l12Fault_l11 xs_spec_l12Fault_l11 l_spec_l12Fault_l11)]) (by kernel_rfl) (lm1 @ls_spec_l12Fault_l6 (lm1 @ls_spec_l12Fault_l11 lm0))) e_spec_l12Fault

/-! spec.l6All -/
abbrev sp_spec_l6All : Sp := ⟨16, [(0, .val false (.sl (.int .i64)))], [], []⟩
abbrev sq_spec_l6All : Sp := ⟨1, [(0, .val false .bool)], [], []⟩
noncomputable def g_spec_l6All : List (FuncId × SumX) := [(86, cN sp_spec_l1Word sq_spec_l1Word U_spec_l1Word)]
def j_spec_l6All : Nat → Option (List (Nat × SS)) := jOf []
theorem gok_spec_l6All : GOk P (gamOf g_spec_l6All) := gam_ok (tab := g_spec_l6All) (gm1 (cN_ok c_spec_l1Word rfl) gm0)
noncomputable abbrev b_spec_l6All : Code := bodyOf Tryz.f44
abbrev sp_spec_l6All_l2 : Sp := ⟨16, [(0, .val false (.sl (.int .i64))), (3, .val false (.int .i64))], [], []⟩
abbrev xs_spec_l6All_l2 : List (Ex × Sp) := [(.exit 0, ⟨16, [], [], []⟩), (.ret, ⟨16, [(2, .val false .bool)], [], []⟩)]
noncomputable def s_spec_l6All_l2 : sp_spec_l6All_l2.T → Option (sp_spec_l6All_l2.T ⊕ XT xs_spec_l6All_l2) := fun x =>
  bif (decide (x.1.2.1 < ((x.1.1).length : Int))) then
    (bif ib x.1.2.1 (x.1.1).length then
    (F_spec_l1Word ((x.1.1).getD (Int.toNat x.1.2.1) (K.zero (.int .i64)))).bind fun y1 =>
    bif (!y1.1.1) then
      (some (.inr (.inr ((false, ()), (), ()))))
    else
    some (.inl ((x.1.1, ((IntKind.wrap .i64 (x.1.2.1 + (1 : Int))), ())), (), ()))
    else none)
  else
  some (.inr (.inl ((), (), ())))
noncomputable def l_spec_l6All_l2 : sp_spec_l6All_l2.T → Option (XT xs_spec_l6All_l2) := lim s_spec_l6All_l2
theorem es_spec_l6All_l2 : ∀ x, evCode ty (gamOf g_spec_l6All) j_spec_l6All (lamOf []) (loopAt b_spec_l6All 2) (sp_spec_l6All_l2.hd x) (rdK sp_spec_l6All_l2 xs_spec_l6All_l2) = s_spec_l6All_l2 x := fun x => by kernel_rfl
theorem ls_spec_l6All_l2 : LSumOk P (loopAt b_spec_l6All 2) (loopL sp_spec_l6All_l2 xs_spec_l6All_l2 l_spec_l6All_l2) := loop_ok tyOk mixed gok_spec_l6All (by kernel_rfl) (by kernel_rfl) (lam_ok (tab := []) (by kernel_rfl) lm0) es_spec_l6All_l2 lim_itr
noncomputable def F_spec_l6All (x1 : K.T (.sl (.int .i64))) : Option sq_spec_l6All.T :=
  (l_spec_l6All_l2 ((x1, ((0 : Int), ())), (), ())).bind fun y2 =>
  (match y2 with
  | .inl y3 => some ((true, ()), (), ())
  | .inr z4 => some ((z4.1.1, ()), (), ()))
noncomputable abbrev U_spec_l6All : sp_spec_l6All.T → Option sq_spec_l6All.T := fun x => F_spec_l6All x.1.1
theorem e_spec_l6All : ∀ x, evCode ty (gamOf g_spec_l6All) j_spec_l6All (lamOf [(2, loopL sp_spec_l6All_l2 xs_spec_l6All_l2 l_spec_l6All_l2)]) b_spec_l6All (sp_spec_l6All.hd x) (finN ty sq_spec_l6All [.tmp 2]) = U_spec_l6All x := fun x => by kernel_rfl
theorem c_spec_l6All : FnS P 44 sp_spec_l6All sq_spec_l6All U_spec_l6All :=
  fnS_of_ev tyOk mixed gok_spec_l6All (fn := Tryz.f44) (by kernel_rfl) (c := b_spec_l6All) (by kernel_rfl) (by kernel_rfl) (by kernel_rfl) (lam_ok (tab := [(2, loopL sp_spec_l6All_l2 xs_spec_l6All_l2 l_spec_l6All_l2)]) (by kernel_rfl) (lm1 @ls_spec_l6All_l2 lm0)) e_spec_l6All

/-! spec.l13Kind -/
abbrev sp_spec_l13Kind : Sp := ⟨9, [(0, .val false (.int .i64))], [], []⟩
abbrev sq_spec_l13Kind : Sp := ⟨1, [(0, .val false .bool)], [], []⟩
noncomputable def g_spec_l13Kind : List (FuncId × SumX) := []
def j_spec_l13Kind : Nat → Option (List (Nat × SS)) := jOf [(1, [(2, .val false .bool)])]
theorem gok_spec_l13Kind : GOk P (gamOf g_spec_l13Kind) := gam_ok (tab := g_spec_l13Kind) gm0
noncomputable abbrev b_spec_l13Kind : Code := bodyOf Tryz.f85
noncomputable def F_spec_l13Kind (x1 : K.T (.int .i64)) : Option sq_spec_l13Kind.T :=
  (bif (x1 == (1 : Int)) then
      (some (true, ()))
    else
    some ((x1 == (2 : Int)), ())).bind fun y1 =>
  some ((y1.1, ()), (), ())
noncomputable abbrev U_spec_l13Kind : sp_spec_l13Kind.T → Option sq_spec_l13Kind.T := fun x => F_spec_l13Kind x.1.1
theorem e_spec_l13Kind : ∀ x, evCode ty (gamOf g_spec_l13Kind) j_spec_l13Kind (lamOf []) b_spec_l13Kind (sp_spec_l13Kind.hd x) (finN ty sq_spec_l13Kind [.tmp 2]) = U_spec_l13Kind x := fun x => by kernel_rfl
theorem c_spec_l13Kind : FnS P 85 sp_spec_l13Kind sq_spec_l13Kind U_spec_l13Kind :=
  fnS_of_ev tyOk mixed gok_spec_l13Kind (fn := Tryz.f85) (by kernel_rfl) (c := b_spec_l13Kind) (by kernel_rfl) (by kernel_rfl) (by kernel_rfl) (lam_ok (tab := []) (by kernel_rfl) lm0) e_spec_l13Kind

/-! spec.l13Fault -/
abbrev sp_spec_l13Fault : Sp := ⟨55, [(0, .rp k9)], [], []⟩
abbrev sq_spec_l13Fault : Sp := ⟨1, [(0, .val false (.int .i64))], [], []⟩
noncomputable def g_spec_l13Fault : List (FuncId × SumX) := [(44, cN sp_spec_l6All sq_spec_l6All U_spec_l6All), (82, cN sp_spec_WordsFault sq_spec_WordsFault U_spec_WordsFault), (85, cN sp_spec_l13Kind sq_spec_l13Kind U_spec_l13Kind), (86, cN sp_spec_l1Word sq_spec_l1Word U_spec_l1Word)]
def j_spec_l13Fault : Nat → Option (List (Nat × SS)) := jOf [(9, [(48, .val false .bool)])]
theorem gok_spec_l13Fault : GOk P (gamOf g_spec_l13Fault) := gam_ok (tab := g_spec_l13Fault) (gm1 (cN_ok c_spec_l6All rfl) (gm1 (cN_ok c_spec_WordsFault rfl) (gm1 (cN_ok c_spec_l13Kind rfl) (gm1 (cN_ok c_spec_l1Word rfl) gm0))))
noncomputable abbrev b_spec_l13Fault : Code := bodyOf Tryz.f43
noncomputable def F_spec_l13Fault (x1 : K.T k9) : Option sq_spec_l13Fault.T :=
  (F_spec_l13Kind x1.1).bind fun y1 =>
  bif (!y1.1.1) then
    (some (((1 : Int), ()), (), ()))
  else
  (F_spec_WordsFault x1.2.1).bind fun y2 =>
  bif (y2.1.1 != (0 : Int)) then
    (some ((y2.1.1, ()), (), ()))
  else
  (F_spec_WordsFault x1.2.2.1).bind fun y3 =>
  bif (y3.1.1 != (0 : Int)) then
    (some ((y3.1.1, ()), (), ()))
  else
  ((F_spec_l6All x1.2.2.2.1).bind fun y4 =>
    bif (!y4.1.1) then
      (some (true, ()))
    else
    (F_spec_l1Word x1.2.2.2.2.1).bind fun y5 =>
    bif (!y5.1.1) then
      (some (true, ()))
    else
    (F_spec_l1Word x1.2.2.2.2.2).bind fun y6 =>
    some ((!y6.1.1), ())).bind fun y7 =>
  bif y7.1 then
    (some (((3 : Int), ()), (), ()))
  else
  bif (decide (((x1.2.2.2.1).length : Int) > (80 : Int))) then
    (some (((2 : Int), ()), (), ()))
  else
  some (((0 : Int), ()), (), ())
noncomputable abbrev U_spec_l13Fault : sp_spec_l13Fault.T → Option sq_spec_l13Fault.T := fun x => F_spec_l13Fault x.1.1
theorem e_spec_l13Fault : ∀ x, evCode ty (gamOf g_spec_l13Fault) j_spec_l13Fault (lamOf []) b_spec_l13Fault (sp_spec_l13Fault.hd x) (finN ty sq_spec_l13Fault [.tmp 2]) = U_spec_l13Fault x := fun x => by kernel_rfl
theorem c_spec_l13Fault : FnS P 43 sp_spec_l13Fault sq_spec_l13Fault U_spec_l13Fault :=
  fnS_of_ev tyOk mixed gok_spec_l13Fault (fn := Tryz.f43) (by kernel_rfl) (c := b_spec_l13Fault) (by kernel_rfl) (by kernel_rfl) (by kernel_rfl) (lam_ok (tab := []) (by kernel_rfl) lm0) e_spec_l13Fault

/-! spec.l13Copy -/
abbrev sp_spec_l13Copy : Sp := ⟨19, [(0, .val true k9)], [], []⟩
abbrev sq_spec_l13Copy : Sp := ⟨1, [(0, .mix true [.val (.int .i64), .fix (.own 59000), .fix (.own 59001), .fix (.own 59002), .val (.int .i64), .val (.int .i64)])], [], [(59000, (.int .i64), true), (59001, (.int .i64), true), (59002, (.int .i64), true)]⟩
noncomputable def g_spec_l13Copy : List (FuncId × SumX) := []
def j_spec_l13Copy : Nat → Option (List (Nat × SS)) := jOf []
theorem gok_spec_l13Copy : GOk P (gamOf g_spec_l13Copy) := gam_ok (tab := g_spec_l13Copy) gm0
noncomputable abbrev b_spec_l13Copy : Code := bodyOf Tryz.f45
noncomputable def F_spec_l13Copy (x1 : K.T k9) : Option sq_spec_l13Copy.T :=
  bif room ([] ++ x1.2.1).length 8 then
  bif room ([] ++ x1.2.2.1).length 8 then
  bif room ([] ++ x1.2.2.2.1).length 8 then
  some (((x1.1, (x1.2.2.2.2.1, (x1.2.2.2.2.2, ()))), ()), (), (([] ++ x1.2.1), (([] ++ x1.2.2.1), (([] ++ x1.2.2.2.1), ()))))
  else none
  else none
  else none
noncomputable abbrev U_spec_l13Copy : sp_spec_l13Copy.T → Option sq_spec_l13Copy.T := fun x => F_spec_l13Copy x.1.1
theorem e_spec_l13Copy : ∀ x, evCode ty (gamOf g_spec_l13Copy) j_spec_l13Copy (lamOf []) b_spec_l13Copy (sp_spec_l13Copy.hd x) (finN ty sq_spec_l13Copy [.cell 2 30]) = U_spec_l13Copy x := fun x => by kernel_rfl
theorem c_spec_l13Copy : FnS P 45 sp_spec_l13Copy sq_spec_l13Copy U_spec_l13Copy :=
  fnS_of_ev tyOk mixed gok_spec_l13Copy (fn := Tryz.f45) (by kernel_rfl) (c := b_spec_l13Copy) (by kernel_rfl) (by kernel_rfl) (by kernel_rfl) (lam_ok (tab := []) (by kernel_rfl) lm0) e_spec_l13Copy

/-! spec.l2Bit -/
abbrev sp_spec_l2Bit : Sp := ⟨4, [(0, .val false .bool)], [], []⟩
abbrev sq_spec_l2Bit : Sp := ⟨1, [(0, .val false (.int .i64))], [], []⟩
noncomputable def g_spec_l2Bit : List (FuncId × SumX) := []
def j_spec_l2Bit : Nat → Option (List (Nat × SS)) := jOf []
theorem gok_spec_l2Bit : GOk P (gamOf g_spec_l2Bit) := gam_ok (tab := g_spec_l2Bit) gm0
noncomputable abbrev b_spec_l2Bit : Code := bodyOf Tryz.f129
noncomputable def F_spec_l2Bit (x1 : K.T .bool) : Option sq_spec_l2Bit.T :=
  bif x1 then
    (some (((1 : Int), ()), (), ()))
  else
  some (((0 : Int), ()), (), ())
noncomputable abbrev U_spec_l2Bit : sp_spec_l2Bit.T → Option sq_spec_l2Bit.T := fun x => F_spec_l2Bit x.1.1
theorem e_spec_l2Bit : ∀ x, evCode ty (gamOf g_spec_l2Bit) j_spec_l2Bit (lamOf []) b_spec_l2Bit (sp_spec_l2Bit.hd x) (finN ty sq_spec_l2Bit [.tmp 2]) = U_spec_l2Bit x := fun x => by kernel_rfl
theorem c_spec_l2Bit : FnS P 129 sp_spec_l2Bit sq_spec_l2Bit U_spec_l2Bit :=
  fnS_of_ev tyOk mixed gok_spec_l2Bit (fn := Tryz.f129) (by kernel_rfl) (c := b_spec_l2Bit) (by kernel_rfl) (by kernel_rfl) (by kernel_rfl) (lam_ok (tab := []) (by kernel_rfl) lm0) e_spec_l2Bit

/-! spec.l6Least -/
abbrev sp_spec_l6Least : Sp := ⟨6, [(0, .val false (.int .i64))], [], []⟩
abbrev sq_spec_l6Least : Sp := ⟨1, [(0, .val false (.int .i64))], [], []⟩
noncomputable def g_spec_l6Least : List (FuncId × SumX) := [(129, cN sp_spec_l2Bit sq_spec_l2Bit U_spec_l2Bit)]
def j_spec_l6Least : Nat → Option (List (Nat × SS)) := jOf []
theorem gok_spec_l6Least : GOk P (gamOf g_spec_l6Least) := gam_ok (tab := g_spec_l6Least) (gm1 (cN_ok c_spec_l2Bit rfl) gm0)
noncomputable abbrev b_spec_l6Least : Code := bodyOf Tryz.f87
noncomputable def F_spec_l6Least (x1 : K.T (.int .i64)) : Option sq_spec_l6Least.T :=
  (F_spec_l2Bit (x1 != (0 : Int))).bind fun y1 =>
  some ((y1.1.1, ()), (), ())
noncomputable abbrev U_spec_l6Least : sp_spec_l6Least.T → Option sq_spec_l6Least.T := fun x => F_spec_l6Least x.1.1
theorem e_spec_l6Least : ∀ x, evCode ty (gamOf g_spec_l6Least) j_spec_l6Least (lamOf []) b_spec_l6Least (sp_spec_l6Least.hd x) (finN ty sq_spec_l6Least [.tmp 2]) = U_spec_l6Least x := fun x => by kernel_rfl
theorem c_spec_l6Least : FnS P 87 sp_spec_l6Least sq_spec_l6Least U_spec_l6Least :=
  fnS_of_ev tyOk mixed gok_spec_l6Least (fn := Tryz.f87) (by kernel_rfl) (c := b_spec_l6Least) (by kernel_rfl) (by kernel_rfl) (by kernel_rfl) (lam_ok (tab := []) (by kernel_rfl) lm0) e_spec_l6Least

/-! spec.WordOf -/
abbrev sp_spec_WordOf : Sp := ⟨6, [(0, .val false (.int .i64))], [], []⟩
abbrev sq_spec_WordOf : Sp := ⟨1, [(0, .val false (.int .i64))], [], []⟩
noncomputable def g_spec_WordOf : List (FuncId × SumX) := []
def j_spec_WordOf : Nat → Option (List (Nat × SS)) := jOf []
theorem gok_spec_WordOf : GOk P (gamOf g_spec_WordOf) := gam_ok (tab := g_spec_WordOf) gm0
noncomputable abbrev b_spec_WordOf : Code := bodyOf Tryz.f130
noncomputable def F_spec_WordOf (x1 : K.T (.int .i64)) : Option sq_spec_WordOf.T :=
  some (((IntKind.wrap .i64 (IntKind.wrap .u16 x1)), ()), (), ())
noncomputable abbrev U_spec_WordOf : sp_spec_WordOf.T → Option sq_spec_WordOf.T := fun x => F_spec_WordOf x.1.1
theorem e_spec_WordOf : ∀ x, evCode ty (gamOf g_spec_WordOf) j_spec_WordOf (lamOf []) b_spec_WordOf (sp_spec_WordOf.hd x) (finN ty sq_spec_WordOf [.tmp 2]) = U_spec_WordOf x := fun x => by kernel_rfl
theorem c_spec_WordOf : FnS P 130 sp_spec_WordOf sq_spec_WordOf U_spec_WordOf :=
  fnS_of_ev tyOk mixed gok_spec_WordOf (fn := Tryz.f130) (by kernel_rfl) (c := b_spec_WordOf) (by kernel_rfl) (by kernel_rfl) (by kernel_rfl) (lam_ok (tab := []) (by kernel_rfl) lm0) e_spec_WordOf

/-! spec.Complement -/
abbrev sp_spec_Complement : Sp := ⟨6, [(0, .val false (.int .i64))], [], []⟩
abbrev sq_spec_Complement : Sp := ⟨1, [(0, .val false (.int .i64))], [], []⟩
noncomputable def g_spec_Complement : List (FuncId × SumX) := [(130, cN sp_spec_WordOf sq_spec_WordOf U_spec_WordOf)]
def j_spec_Complement : Nat → Option (List (Nat × SS)) := jOf []
theorem gok_spec_Complement : GOk P (gamOf g_spec_Complement) := gam_ok (tab := g_spec_Complement) (gm1 (cN_ok c_spec_WordOf rfl) gm0)
noncomputable abbrev b_spec_Complement : Code := bodyOf Tryz.f88
noncomputable def F_spec_Complement (x1 : K.T (.int .i64)) : Option sq_spec_Complement.T :=
  (F_spec_WordOf x1).bind fun y1 =>
  some (((IntKind.wrap .i64 ((65535 : Int) - y1.1.1)), ()), (), ())
noncomputable abbrev U_spec_Complement : sp_spec_Complement.T → Option sq_spec_Complement.T := fun x => F_spec_Complement x.1.1
theorem e_spec_Complement : ∀ x, evCode ty (gamOf g_spec_Complement) j_spec_Complement (lamOf []) b_spec_Complement (sp_spec_Complement.hd x) (finN ty sq_spec_Complement [.tmp 2]) = U_spec_Complement x := fun x => by kernel_rfl
theorem c_spec_Complement : FnS P 88 sp_spec_Complement sq_spec_Complement U_spec_Complement :=
  fnS_of_ev tyOk mixed gok_spec_Complement (fn := Tryz.f88) (by kernel_rfl) (c := b_spec_Complement) (by kernel_rfl) (by kernel_rfl) (by kernel_rfl) (lam_ok (tab := []) (by kernel_rfl) lm0) e_spec_Complement

/-! spec.l8Copy -/
abbrev sp_spec_l8Copy : Sp := ⟨14, [(0, .val true k14)], [], []⟩
abbrev sq_spec_l8Copy : Sp := ⟨1, [(0, .mix true [.val (.int .i64), .fix (.own 59000), .fix (.own 59001), .val (.int .i64), .val (.int .i64), .val (.int .i64), .val .bool])], [], [(59000, (.int .i64), true), (59001, (.int .i64), true)]⟩
noncomputable def g_spec_l8Copy : List (FuncId × SumX) := []
def j_spec_l8Copy : Nat → Option (List (Nat × SS)) := jOf []
theorem gok_spec_l8Copy : GOk P (gamOf g_spec_l8Copy) := gam_ok (tab := g_spec_l8Copy) gm0
noncomputable abbrev b_spec_l8Copy : Code := bodyOf Tryz.f151
noncomputable def F_spec_l8Copy (x1 : K.T k14) : Option sq_spec_l8Copy.T :=
  bif room ([] ++ x1.2.1).length 8 then
  bif room ([] ++ x1.2.2.1).length 8 then
  some (((x1.1, (x1.2.2.2.1, (x1.2.2.2.2.1, (x1.2.2.2.2.2.1, (x1.2.2.2.2.2.2, ()))))), ()), (), (([] ++ x1.2.1), (([] ++ x1.2.2.1), ())))
  else none
  else none
noncomputable abbrev U_spec_l8Copy : sp_spec_l8Copy.T → Option sq_spec_l8Copy.T := fun x => F_spec_l8Copy x.1.1
theorem e_spec_l8Copy : ∀ x, evCode ty (gamOf g_spec_l8Copy) j_spec_l8Copy (lamOf []) b_spec_l8Copy (sp_spec_l8Copy.hd x) (finN ty sq_spec_l8Copy [.cell 2 123]) = U_spec_l8Copy x := fun x => by kernel_rfl
theorem c_spec_l8Copy : FnS P 151 sp_spec_l8Copy sq_spec_l8Copy U_spec_l8Copy :=
  fnS_of_ev tyOk mixed gok_spec_l8Copy (fn := Tryz.f151) (by kernel_rfl) (c := b_spec_l8Copy) (by kernel_rfl) (by kernel_rfl) (by kernel_rfl) (lam_ok (tab := []) (by kernel_rfl) lm0) e_spec_l8Copy

/-! spec.l8Args -/
abbrev sp_spec_l8Args : Sp := ⟨12, [(0, .val false (.int .i64))], [], []⟩
abbrev sq_spec_l8Args : Sp := ⟨1, [(0, .val false (.int .i64))], [], []⟩
noncomputable def g_spec_l8Args : List (FuncId × SumX) := []
def j_spec_l8Args : Nat → Option (List (Nat × SS)) := jOf []
theorem gok_spec_l8Args : GOk P (gamOf g_spec_l8Args) := gam_ok (tab := g_spec_l8Args) gm0
noncomputable abbrev b_spec_l8Args : Code := bodyOf Tryz.f167
noncomputable def F_spec_l8Args (x1 : K.T (.int .i64)) : Option sq_spec_l8Args.T :=
  bif (x1 == (4 : Int)) then
    (some (((2 : Int), ()), (), ()))
  else
  bif (x1 == (5 : Int)) then
    (some (((2 : Int), ()), (), ()))
  else
  bif (x1 == (7 : Int)) then
    (some (((0 : Int), ()), (), ()))
  else
  bif (x1 == (8 : Int)) then
    (some (((0 : Int), ()), (), ()))
  else
  bif (x1 == (9 : Int)) then
    (some (((0 : Int), ()), (), ()))
  else
  bif (x1 == (13 : Int)) then
    (some (((0 : Int), ()), (), ()))
  else
  some (((1 : Int), ()), (), ())
noncomputable abbrev U_spec_l8Args : sp_spec_l8Args.T → Option sq_spec_l8Args.T := fun x => F_spec_l8Args x.1.1
theorem e_spec_l8Args : ∀ x, evCode ty (gamOf g_spec_l8Args) j_spec_l8Args (lamOf []) b_spec_l8Args (sp_spec_l8Args.hd x) (finN ty sq_spec_l8Args [.tmp 2]) = U_spec_l8Args x := fun x => by kernel_rfl
theorem c_spec_l8Args : FnS P 167 sp_spec_l8Args sq_spec_l8Args U_spec_l8Args :=
  fnS_of_ev tyOk mixed gok_spec_l8Args (fn := Tryz.f167) (by kernel_rfl) (c := b_spec_l8Args) (by kernel_rfl) (by kernel_rfl) (by kernel_rfl) (lam_ok (tab := []) (by kernel_rfl) lm0) e_spec_l8Args

/-! spec.l8Takes -/
abbrev sp_spec_l8Takes : Sp := ⟨20, [(0, .val false (.int .i64))], [], []⟩
abbrev sq_spec_l8Takes : Sp := ⟨2, [(0, .val false (.int .i64)), (1, .val false (.int .i64))], [], []⟩
noncomputable def g_spec_l8Takes : List (FuncId × SumX) := []
def j_spec_l8Takes : Nat → Option (List (Nat × SS)) := jOf []
theorem gok_spec_l8Takes : GOk P (gamOf g_spec_l8Takes) := gam_ok (tab := g_spec_l8Takes) gm0
noncomputable abbrev b_spec_l8Takes : Code := bodyOf Tryz.f168
noncomputable def F_spec_l8Takes (x1 : K.T (.int .i64)) : Option sq_spec_l8Takes.T :=
  bif (x1 == (1 : Int)) then
    (some (((0 : Int), ((1 : Int), ())), (), ()))
  else
  bif (x1 == (2 : Int)) then
    (some (((0 : Int), ((1 : Int), ())), (), ()))
  else
  bif (x1 == (3 : Int)) then
    (some (((1 : Int), ((0 : Int), ())), (), ()))
  else
  bif (x1 == (11 : Int)) then
    (some (((1 : Int), ((0 : Int), ())), (), ()))
  else
  bif (x1 == (4 : Int)) then
    (some (((1 : Int), ((1 : Int), ())), (), ()))
  else
  bif (x1 == (7 : Int)) then
    (some (((1 : Int), ((1 : Int), ())), (), ()))
  else
  bif (x1 == (8 : Int)) then
    (some (((1 : Int), ((1 : Int), ())), (), ()))
  else
  bif (x1 == (9 : Int)) then
    (some (((1 : Int), ((1 : Int), ())), (), ()))
  else
  bif (x1 == (5 : Int)) then
    (some (((2 : Int), ((0 : Int), ())), (), ()))
  else
  bif (x1 == (6 : Int)) then
    (some (((2 : Int), ((1 : Int), ())), (), ()))
  else
  some (((0 : Int), ((0 : Int), ())), (), ())
noncomputable abbrev U_spec_l8Takes : sp_spec_l8Takes.T → Option sq_spec_l8Takes.T := fun x => F_spec_l8Takes x.1.1
theorem e_spec_l8Takes : ∀ x, evCode ty (gamOf g_spec_l8Takes) j_spec_l8Takes (lamOf []) b_spec_l8Takes (sp_spec_l8Takes.hd x) (finN ty sq_spec_l8Takes [.tmp 2, .tmp 3]) = U_spec_l8Takes x := fun x => by kernel_rfl
theorem c_spec_l8Takes : FnS P 168 sp_spec_l8Takes sq_spec_l8Takes U_spec_l8Takes :=
  fnS_of_ev tyOk mixed gok_spec_l8Takes (fn := Tryz.f168) (by kernel_rfl) (c := b_spec_l8Takes) (by kernel_rfl) (by kernel_rfl) (by kernel_rfl) (lam_ok (tab := []) (by kernel_rfl) lm0) e_spec_l8Takes

/-! spec.l8Ready -/
abbrev sp_spec_l8Ready : Sp := ⟨88, [(0, .val false (.sl (.int .i64))), (1, .rp k14)], [], []⟩
abbrev sq_spec_l8Ready : Sp := ⟨1, [(0, .val false .bool)], [], []⟩
noncomputable def g_spec_l8Ready : List (FuncId × SumX) := [(80, cN sp_spec_l1In sq_spec_l1In U_spec_l1In), (167, cN sp_spec_l8Args sq_spec_l8Args U_spec_l8Args), (168, cN sp_spec_l8Takes sq_spec_l8Takes U_spec_l8Takes)]
def j_spec_l8Ready : Nat → Option (List (Nat × SS)) := jOf [(2, [(27, .val false .bool)]), (8, [(67, .val false .bool)]), (10, [(73, .val false .bool)])]
theorem gok_spec_l8Ready : GOk P (gamOf g_spec_l8Ready) := gam_ok (tab := g_spec_l8Ready) (gm1 (cN_ok c_spec_l1In rfl) (gm1 (cN_ok c_spec_l8Args rfl) (gm1 (cN_ok c_spec_l8Takes rfl) gm0)))
noncomputable abbrev b_spec_l8Ready : Code := bodyOf Tryz.f152
noncomputable def F_spec_l8Ready (x1 : K.T (.sl (.int .i64))) (x2 : K.T k14) : Option sq_spec_l8Ready.T :=
  (bif (decide (x2.1 ≥ ((x1).length : Int))) then
      (some (true, ()))
    else
    bif ib x2.1 (x1).length then
    (F_spec_l1In ((x1).getD (Int.toNat x2.1) (K.zero (.int .i64))) (1 : Int) (13 : Int)).bind fun y1 =>
    some ((!y1.1.1), ())
    else none).bind fun y2 =>
  bif y2.1 then
    (some ((false, ()), (), ()))
  else
  bif ib x2.1 (x1).length then
  (F_spec_l8Args ((x1).getD (Int.toNat x2.1) (K.zero (.int .i64)))).bind fun y3 =>
  bif (decide ((IntKind.wrap .i64 (x2.1 + y3.1.1)) ≥ ((x1).length : Int))) then
    (some ((false, ()), (), ()))
  else
  (F_spec_l8Takes ((x1).getD (Int.toNat x2.1) (K.zero (.int .i64)))).bind fun y4 =>
  (bif (decide (((x2.2.1).length : Int) < y4.1.1)) then
      (some (true, ()))
    else
    some ((decide ((IntKind.wrap .i64 ((IntKind.wrap .i64 (((x2.2.1).length : Int) - y4.1.1)) + y4.1.2.1)) > (40 : Int))), ())).bind fun y5 =>
  bif y5.1 then
    (some ((false, ()), (), ()))
  else
  (bif (((x1).getD (Int.toNat x2.1) (K.zero (.int .i64))) == (2 : Int)) then
      (some (true, ()))
    else
    some ((((x1).getD (Int.toNat x2.1) (K.zero (.int .i64))) == (3 : Int)), ())).bind fun y6 =>
  bif y6.1 then
    (bif ib (IntKind.wrap .i64 (x2.1 + (1 : Int))) (x1).length then
    some (((decide (((x1).getD (Int.toNat (IntKind.wrap .i64 (x2.1 + (1 : Int)))) (K.zero (.int .i64))) < ((x2.2.2.1).length : Int))), ()), (), ())
    else none)
  else
  some ((true, ()), (), ())
  else none
noncomputable abbrev U_spec_l8Ready : sp_spec_l8Ready.T → Option sq_spec_l8Ready.T := fun x => F_spec_l8Ready x.1.1 x.1.2.1
theorem e_spec_l8Ready : ∀ x, evCode ty (gamOf g_spec_l8Ready) j_spec_l8Ready (lamOf []) b_spec_l8Ready (sp_spec_l8Ready.hd x) (finN ty sq_spec_l8Ready [.tmp 4]) = U_spec_l8Ready x := fun x => by kernel_rfl
theorem c_spec_l8Ready : FnS P 152 sp_spec_l8Ready sq_spec_l8Ready U_spec_l8Ready :=
  fnS_of_ev tyOk mixed gok_spec_l8Ready (fn := Tryz.f152) (by kernel_rfl) (c := b_spec_l8Ready) (by kernel_rfl) (by kernel_rfl) (by kernel_rfl) (lam_ok (tab := []) (by kernel_rfl) lm0) e_spec_l8Ready

/-! spec.l8Push -/
abbrev sp_spec_l8Push : Sp := ⟨14, [(0, .fix (.ptr 60000 0)), (1, .val false (.int .i64))], [(60000, [.val (.int .i64), .fix (.own 63000), .fix (.own 63001), .val (.int .i64), .val (.int .i64), .val (.int .i64), .val .bool])], [(63000, (.int .i64), true), (63001, (.int .i64), true)]⟩
abbrev sq_spec_l8Push : Sp := ⟨0, [], [(60000, [.val (.int .i64), .fix (.own 59000), .fix (.own 59001), .val (.int .i64), .val (.int .i64), .val (.int .i64), .val .bool])], [(59000, (.int .i64), true), (59001, (.int .i64), true)]⟩
noncomputable def g_spec_l8Push : List (FuncId × SumX) := []
def j_spec_l8Push : Nat → Option (List (Nat × SS)) := jOf []
theorem gok_spec_l8Push : GOk P (gamOf g_spec_l8Push) := gam_ok (tab := g_spec_l8Push) gm0
noncomputable abbrev b_spec_l8Push : Code := bodyOf Tryz.f169
noncomputable def F_spec_l8Push (x1 : K.T (.int .i64)) (x2 : K.T (.int .i64)) (x3 : K.T (.int .i64)) (x4 : K.T (.int .i64)) (x5 : K.T (.int .i64)) (x6 : K.T .bool) (x7 : List (K.T (.int .i64))) (x8 : List (K.T (.int .i64))) : Option sq_spec_l8Push.T :=
  bif room (x7 ++ [x1]).length 8 then
  some ((), ((x2, (x3, (x4, (x5, (x6, ()))))), ()), ((x7 ++ [x1]), (x8, ())))
  else none
noncomputable abbrev U_spec_l8Push : sp_spec_l8Push.T → Option sq_spec_l8Push.T := fun x => F_spec_l8Push x.1.1 x.2.1.1.1 x.2.1.1.2.1 x.2.1.1.2.2.1 x.2.1.1.2.2.2.1 x.2.1.1.2.2.2.2.1 x.2.2.1 x.2.2.2.1
theorem e_spec_l8Push : ∀ x, evCode ty (gamOf g_spec_l8Push) j_spec_l8Push (lamOf []) b_spec_l8Push (sp_spec_l8Push.hd x) (finN ty sq_spec_l8Push []) = U_spec_l8Push x := fun x => by kernel_rfl
theorem c_spec_l8Push : FnS P 169 sp_spec_l8Push sq_spec_l8Push U_spec_l8Push :=
  fnS_of_ev tyOk mixed gok_spec_l8Push (fn := Tryz.f169) (by kernel_rfl) (c := b_spec_l8Push) (by kernel_rfl) (by kernel_rfl) (by kernel_rfl) (lam_ok (tab := []) (by kernel_rfl) lm0) e_spec_l8Push

/-! spec.l8Pop -/
abbrev sp_spec_l8Pop : Sp := ⟨29, [(0, .fix (.ptr 60000 0))], [(60000, [.val (.int .i64), .fix (.own 63000), .fix (.own 63001), .val (.int .i64), .val (.int .i64), .val (.int .i64), .val .bool])], [(63000, (.int .i64), true), (63001, (.int .i64), true)]⟩
abbrev sq_spec_l8Pop : Sp := ⟨1, [(0, .val false (.int .i64))], [(60000, [.val (.int .i64), .fix (.own 59000), .fix (.own 59001), .val (.int .i64), .val (.int .i64), .val (.int .i64), .val .bool])], [(59000, (.int .i64), true), (59001, (.int .i64), true)]⟩
noncomputable def g_spec_l8Pop : List (FuncId × SumX) := []
def j_spec_l8Pop : Nat → Option (List (Nat × SS)) := jOf []
theorem gok_spec_l8Pop : GOk P (gamOf g_spec_l8Pop) := gam_ok (tab := g_spec_l8Pop) gm0
noncomputable abbrev b_spec_l8Pop : Code := bodyOf Tryz.f170
noncomputable def F_spec_l8Pop (x1 : K.T (.int .i64)) (x2 : K.T (.int .i64)) (x3 : K.T (.int .i64)) (x4 : K.T (.int .i64)) (x5 : K.T .bool) (x6 : List (K.T (.int .i64))) (x7 : List (K.T (.int .i64))) : Option sq_spec_l8Pop.T :=
  bif ib (IntKind.wrap .i64 (((x6).length : Int) - (1 : Int))) (x6).length then
  bif decide (0 ≤ (0 : Int) ∧ (0 : Int) ≤ (IntKind.wrap .i64 (((x6).length : Int) - (1 : Int))) ∧ (IntKind.wrap .i64 (((x6).length : Int) - (1 : Int))) ≤ ((x6).length : Int)) then
  some ((((x6).getD (Int.toNat (IntKind.wrap .i64 (((x6).length : Int) - (1 : Int)))) (K.zero (.int .i64))), ()), ((x1, (x2, (x3, (x4, (x5, ()))))), ()), ((((x6).drop (Int.toNat (0 : Int))).take (Int.toNat (IntKind.wrap .i64 (((x6).length : Int) - (1 : Int))) - Int.toNat (0 : Int))), (x7, ())))
  else none
  else none
noncomputable abbrev U_spec_l8Pop : sp_spec_l8Pop.T → Option sq_spec_l8Pop.T := fun x => F_spec_l8Pop x.2.1.1.1 x.2.1.1.2.1 x.2.1.1.2.2.1 x.2.1.1.2.2.2.1 x.2.1.1.2.2.2.2.1 x.2.2.1 x.2.2.2.1
theorem e_spec_l8Pop : ∀ x, evCode ty (gamOf g_spec_l8Pop) j_spec_l8Pop (lamOf []) b_spec_l8Pop (sp_spec_l8Pop.hd x) (finN ty sq_spec_l8Pop [.tmp 2]) = U_spec_l8Pop x := fun x => by kernel_rfl
theorem c_spec_l8Pop : FnS P 170 sp_spec_l8Pop sq_spec_l8Pop U_spec_l8Pop :=
  fnS_of_ev tyOk mixed gok_spec_l8Pop (fn := Tryz.f170) (by kernel_rfl) (c := b_spec_l8Pop) (by kernel_rfl) (by kernel_rfl) (by kernel_rfl) (lam_ok (tab := []) (by kernel_rfl) lm0) e_spec_l8Pop

/-! spec.SignedOf -/
abbrev sp_spec_SignedOf : Sp := ⟨7, [(0, .val false (.int .i64))], [], []⟩
abbrev sq_spec_SignedOf : Sp := ⟨1, [(0, .val false (.int .i64))], [], []⟩
noncomputable def g_spec_SignedOf : List (FuncId × SumX) := []
def j_spec_SignedOf : Nat → Option (List (Nat × SS)) := jOf []
theorem gok_spec_SignedOf : GOk P (gamOf g_spec_SignedOf) := gam_ok (tab := g_spec_SignedOf) gm0
noncomputable abbrev b_spec_SignedOf : Code := bodyOf Tryz.f192
noncomputable def F_spec_SignedOf (x1 : K.T (.int .i64)) : Option sq_spec_SignedOf.T :=
  some (((IntKind.wrap .i64 (IntKind.wrap .i16 (IntKind.wrap .u16 x1))), ()), (), ())
noncomputable abbrev U_spec_SignedOf : sp_spec_SignedOf.T → Option sq_spec_SignedOf.T := fun x => F_spec_SignedOf x.1.1
theorem e_spec_SignedOf : ∀ x, evCode ty (gamOf g_spec_SignedOf) j_spec_SignedOf (lamOf []) b_spec_SignedOf (sp_spec_SignedOf.hd x) (finN ty sq_spec_SignedOf [.tmp 2]) = U_spec_SignedOf x := fun x => by kernel_rfl
theorem c_spec_SignedOf : FnS P 192 sp_spec_SignedOf sq_spec_SignedOf U_spec_SignedOf :=
  fnS_of_ev tyOk mixed gok_spec_SignedOf (fn := Tryz.f192) (by kernel_rfl) (c := b_spec_SignedOf) (by kernel_rfl) (by kernel_rfl) (by kernel_rfl) (lam_ok (tab := []) (by kernel_rfl) lm0) e_spec_SignedOf

/-! spec.l8Row -/
abbrev sp_spec_l8Row : Sp := ⟨30, [(0, .rp k14), (1, .val false (.int .i64)), (2, .val false (.int .i64)), (3, .val false (.int .i64))], [], []⟩
abbrev sq_spec_l8Row : Sp := ⟨2, [(0, .val false (.int .i64)), (1, .val false (.int .i64))], [], []⟩
noncomputable def g_spec_l8Row : List (FuncId × SumX) := [(80, cN sp_spec_l1In sq_spec_l1In U_spec_l1In), (192, cN sp_spec_SignedOf sq_spec_SignedOf U_spec_SignedOf)]
def j_spec_l8Row : Nat → Option (List (Nat × SS)) := jOf []
theorem gok_spec_l8Row : GOk P (gamOf g_spec_l8Row) := gam_ok (tab := g_spec_l8Row) (gm1 (cN_ok c_spec_l1In rfl) (gm1 (cN_ok c_spec_SignedOf rfl) gm0))
noncomputable abbrev b_spec_l8Row : Code := bodyOf Tryz.f171
noncomputable def F_spec_l8Row (x1 : K.T k14) (x2 : K.T (.int .i64)) (x3 : K.T (.int .i64)) (x4 : K.T (.int .i64)) : Option sq_spec_l8Row.T :=
  (F_spec_SignedOf x4).bind fun y1 =>
  (F_spec_l1In y1.1.1 (0 : Int) (IntKind.wrap .i64 (x3 - (1 : Int)))).bind fun y2 =>
  bif (!y2.1.1) then
    (some (((0 : Int), ((3 : Int), ())), (), ()))
  else
  bif (decide ((IntKind.wrap .i64 (x2 + y1.1.1)) ≥ ((x1.2.2.1).length : Int))) then
    (some (((0 : Int), ((1 : Int), ())), (), ()))
  else
  some (((IntKind.wrap .i64 (x2 + y1.1.1)), ((0 : Int), ())), (), ())
noncomputable abbrev U_spec_l8Row : sp_spec_l8Row.T → Option sq_spec_l8Row.T := fun x => F_spec_l8Row x.1.1 x.1.2.1 x.1.2.2.1 x.1.2.2.2.1
theorem e_spec_l8Row : ∀ x, evCode ty (gamOf g_spec_l8Row) j_spec_l8Row (lamOf []) b_spec_l8Row (sp_spec_l8Row.hd x) (finN ty sq_spec_l8Row [.tmp 8, .tmp 9]) = U_spec_l8Row x := fun x => by kernel_rfl
theorem c_spec_l8Row : FnS P 171 sp_spec_l8Row sq_spec_l8Row U_spec_l8Row :=
  fnS_of_ev tyOk mixed gok_spec_l8Row (fn := Tryz.f171) (by kernel_rfl) (c := b_spec_l8Row) (by kernel_rfl) (by kernel_rfl) (by kernel_rfl) (lam_ok (tab := []) (by kernel_rfl) lm0) e_spec_l8Row

/-! spec.l2Binary -/
abbrev sp_spec_l2Binary : Sp := ⟨81, [(0, .val false (.int .i64)), (1, .val false (.int .i64)), (2, .val false (.int .i64))], [], []⟩
abbrev sq_spec_l2Binary : Sp := ⟨2, [(0, .val false (.int .i64)), (1, .val false (.int .i64))], [], []⟩
noncomputable def g_spec_l2Binary : List (FuncId × SumX) := [(129, cN sp_spec_l2Bit sq_spec_l2Bit U_spec_l2Bit), (130, cN sp_spec_WordOf sq_spec_WordOf U_spec_WordOf), (192, cN sp_spec_SignedOf sq_spec_SignedOf U_spec_SignedOf)]
def j_spec_l2Binary : Nat → Option (List (Nat × SS)) := jOf []
theorem gok_spec_l2Binary : GOk P (gamOf g_spec_l2Binary) := gam_ok (tab := g_spec_l2Binary) (gm1 (cN_ok c_spec_l2Bit rfl) (gm1 (cN_ok c_spec_WordOf rfl) (gm1 (cN_ok c_spec_SignedOf rfl) gm0)))
noncomputable abbrev b_spec_l2Binary : Code := bodyOf Tryz.f172
noncomputable def F_spec_l2Binary (x1 : K.T (.int .i64)) (x2 : K.T (.int .i64)) (x3 : K.T (.int .i64)) : Option sq_spec_l2Binary.T :=
  (F_spec_SignedOf x2).bind fun y1 =>
  (F_spec_SignedOf x3).bind fun y2 =>
  bif (x1 == (1 : Int)) then
    ((F_spec_WordOf (IntKind.wrap .i64 (y1.1.1 + y2.1.1))).bind fun y3 =>
    some ((y3.1.1, ((0 : Int), ())), (), ()))
  else
  bif (x1 == (2 : Int)) then
    ((F_spec_WordOf (IntKind.wrap .i64 (y1.1.1 - y2.1.1))).bind fun y4 =>
    some ((y4.1.1, ((0 : Int), ())), (), ()))
  else
  bif (x1 == (3 : Int)) then
    ((F_spec_WordOf (IntKind.wrap .i64 (y1.1.1 * y2.1.1))).bind fun y5 =>
    some ((y5.1.1, ((0 : Int), ())), (), ()))
  else
  bif (x1 == (4 : Int)) then
    (bif (y2.1.1 == (0 : Int)) then
      (some (((0 : Int), ((4 : Int), ())), (), ()))
    else
    bif (x1 == (4 : Int)) then
      (bif (y2.1.1 == 0) then none else
      (F_spec_WordOf (IntKind.wrap .i64 (Int.tdiv y1.1.1 y2.1.1))).bind fun y6 =>
      some ((y6.1.1, ((0 : Int), ())), (), ()))
    else
    bif (y2.1.1 == 0) then none else
    (F_spec_WordOf (Int.tmod y1.1.1 y2.1.1)).bind fun y7 =>
    some ((y7.1.1, ((0 : Int), ())), (), ()))
  else
  bif (x1 == (5 : Int)) then
    (bif (y2.1.1 == (0 : Int)) then
      (some (((0 : Int), ((4 : Int), ())), (), ()))
    else
    bif (x1 == (4 : Int)) then
      (bif (y2.1.1 == 0) then none else
      (F_spec_WordOf (IntKind.wrap .i64 (Int.tdiv y1.1.1 y2.1.1))).bind fun y8 =>
      some ((y8.1.1, ((0 : Int), ())), (), ()))
    else
    bif (y2.1.1 == 0) then none else
    (F_spec_WordOf (Int.tmod y1.1.1 y2.1.1)).bind fun y9 =>
    some ((y9.1.1, ((0 : Int), ())), (), ()))
  else
  bif (x1 == (6 : Int)) then
    ((F_spec_WordOf x2).bind fun y10 =>
    (F_spec_WordOf x3).bind fun y11 =>
    some (((IntKind.wrap .i64 (((BitVec.ofInt (IntKind.bits .i64) y10.1.1 &&& BitVec.ofInt (IntKind.bits .i64) y11.1.1).toNat : Int))), ((0 : Int), ())), (), ()))
  else
  bif (x1 == (7 : Int)) then
    ((F_spec_WordOf x2).bind fun y12 =>
    (F_spec_WordOf x3).bind fun y13 =>
    some (((IntKind.wrap .i64 (((BitVec.ofInt (IntKind.bits .i64) y12.1.1 ||| BitVec.ofInt (IntKind.bits .i64) y13.1.1).toNat : Int))), ((0 : Int), ())), (), ()))
  else
  bif (x1 == (8 : Int)) then
    ((F_spec_WordOf x2).bind fun y14 =>
    (F_spec_WordOf x3).bind fun y15 =>
    some (((IntKind.wrap .i64 (((BitVec.ofInt (IntKind.bits .i64) y14.1.1 ^^^ BitVec.ofInt (IntKind.bits .i64) y15.1.1).toNat : Int))), ((0 : Int), ())), (), ()))
  else
  bif (x1 == (9 : Int)) then
    ((F_spec_l2Bit (decide (y1.1.1 < y2.1.1))).bind fun y16 =>
    some ((y16.1.1, ((0 : Int), ())), (), ()))
  else
  bif (x1 == (10 : Int)) then
    ((F_spec_l2Bit (y1.1.1 == y2.1.1)).bind fun y17 =>
    some ((y17.1.1, ((0 : Int), ())), (), ()))
  else
  some (((0 : Int), ((3 : Int), ())), (), ())
noncomputable abbrev U_spec_l2Binary : sp_spec_l2Binary.T → Option sq_spec_l2Binary.T := fun x => F_spec_l2Binary x.1.1 x.1.2.1 x.1.2.2.1
theorem e_spec_l2Binary : ∀ x, evCode ty (gamOf g_spec_l2Binary) j_spec_l2Binary (lamOf []) b_spec_l2Binary (sp_spec_l2Binary.hd x) (finN ty sq_spec_l2Binary [.tmp 6, .tmp 7]) = U_spec_l2Binary x := fun x => by kernel_rfl
theorem c_spec_l2Binary : FnS P 172 sp_spec_l2Binary sq_spec_l2Binary U_spec_l2Binary :=
  fnS_of_ev tyOk mixed gok_spec_l2Binary (fn := Tryz.f172) (by kernel_rfl) (c := b_spec_l2Binary) (by kernel_rfl) (by kernel_rfl) (by kernel_rfl) (lam_ok (tab := []) (by kernel_rfl) lm0) e_spec_l2Binary

/-! spec.NegOf -/
abbrev sp_spec_NegOf : Sp := ⟨7, [(0, .val false (.int .i64))], [], []⟩
abbrev sq_spec_NegOf : Sp := ⟨1, [(0, .val false (.int .i64))], [], []⟩
noncomputable def g_spec_NegOf : List (FuncId × SumX) := [(130, cN sp_spec_WordOf sq_spec_WordOf U_spec_WordOf), (192, cN sp_spec_SignedOf sq_spec_SignedOf U_spec_SignedOf)]
def j_spec_NegOf : Nat → Option (List (Nat × SS)) := jOf []
theorem gok_spec_NegOf : GOk P (gamOf g_spec_NegOf) := gam_ok (tab := g_spec_NegOf) (gm1 (cN_ok c_spec_WordOf rfl) (gm1 (cN_ok c_spec_SignedOf rfl) gm0))
noncomputable abbrev b_spec_NegOf : Code := bodyOf Tryz.f173
noncomputable def F_spec_NegOf (x1 : K.T (.int .i64)) : Option sq_spec_NegOf.T :=
  (F_spec_SignedOf x1).bind fun y1 =>
  (F_spec_WordOf (IntKind.wrap .i64 (0 - y1.1.1))).bind fun y2 =>
  some ((y2.1.1, ()), (), ())
noncomputable abbrev U_spec_NegOf : sp_spec_NegOf.T → Option sq_spec_NegOf.T := fun x => F_spec_NegOf x.1.1
theorem e_spec_NegOf : ∀ x, evCode ty (gamOf g_spec_NegOf) j_spec_NegOf (lamOf []) b_spec_NegOf (sp_spec_NegOf.hd x) (finN ty sq_spec_NegOf [.tmp 2]) = U_spec_NegOf x := fun x => by kernel_rfl
theorem c_spec_NegOf : FnS P 173 sp_spec_NegOf sq_spec_NegOf U_spec_NegOf :=
  fnS_of_ev tyOk mixed gok_spec_NegOf (fn := Tryz.f173) (by kernel_rfl) (c := b_spec_NegOf) (by kernel_rfl) (by kernel_rfl) (by kernel_rfl) (lam_ok (tab := []) (by kernel_rfl) lm0) e_spec_NegOf

/-! spec.NotOf -/
abbrev sp_spec_NotOf : Sp := ⟨6, [(0, .val false (.int .i64))], [], []⟩
abbrev sq_spec_NotOf : Sp := ⟨1, [(0, .val false (.int .i64))], [], []⟩
noncomputable def g_spec_NotOf : List (FuncId × SumX) := [(130, cN sp_spec_WordOf sq_spec_WordOf U_spec_WordOf)]
def j_spec_NotOf : Nat → Option (List (Nat × SS)) := jOf []
theorem gok_spec_NotOf : GOk P (gamOf g_spec_NotOf) := gam_ok (tab := g_spec_NotOf) (gm1 (cN_ok c_spec_WordOf rfl) gm0)
noncomputable abbrev b_spec_NotOf : Code := bodyOf Tryz.f174
noncomputable def F_spec_NotOf (x1 : K.T (.int .i64)) : Option sq_spec_NotOf.T :=
  (F_spec_WordOf x1).bind fun y1 =>
  bif (y1.1.1 == (0 : Int)) then
    (some (((1 : Int), ()), (), ()))
  else
  some (((0 : Int), ()), (), ())
noncomputable abbrev U_spec_NotOf : sp_spec_NotOf.T → Option sq_spec_NotOf.T := fun x => F_spec_NotOf x.1.1
theorem e_spec_NotOf : ∀ x, evCode ty (gamOf g_spec_NotOf) j_spec_NotOf (lamOf []) b_spec_NotOf (sp_spec_NotOf.hd x) (finN ty sq_spec_NotOf [.tmp 2]) = U_spec_NotOf x := fun x => by kernel_rfl
theorem c_spec_NotOf : FnS P 174 sp_spec_NotOf sq_spec_NotOf U_spec_NotOf :=
  fnS_of_ev tyOk mixed gok_spec_NotOf (fn := Tryz.f174) (by kernel_rfl) (c := b_spec_NotOf) (by kernel_rfl) (by kernel_rfl) (by kernel_rfl) (lam_ok (tab := []) (by kernel_rfl) lm0) e_spec_NotOf

/-! spec.SignOf -/
abbrev sp_spec_SignOf : Sp := ⟨13, [(0, .val false (.int .i64)), (1, .val false (.int .i64))], [], []⟩
abbrev sq_spec_SignOf : Sp := ⟨1, [(0, .val false (.int .i64))], [], []⟩
noncomputable def g_spec_SignOf : List (FuncId × SumX) := [(130, cN sp_spec_WordOf sq_spec_WordOf U_spec_WordOf)]
def j_spec_SignOf : Nat → Option (List (Nat × SS)) := jOf []
theorem gok_spec_SignOf : GOk P (gamOf g_spec_SignOf) := gam_ok (tab := g_spec_SignOf) (gm1 (cN_ok c_spec_WordOf rfl) gm0)
noncomputable abbrev b_spec_SignOf : Code := bodyOf Tryz.f175
noncomputable def F_spec_SignOf (x1 : K.T (.int .i64)) (x2 : K.T (.int .i64)) : Option sq_spec_SignOf.T :=
  (F_spec_WordOf x1).bind fun y1 =>
  (F_spec_WordOf x2).bind fun y2 =>
  some (((Int.tmod (IntKind.wrap .i64 ((IntKind.wrap .i64 ((IntKind.wrap .i64 (y1.1.1 * (31 : Int))) + y2.1.1)) + (1 : Int))) (65521 : Int)), ()), (), ())
noncomputable abbrev U_spec_SignOf : sp_spec_SignOf.T → Option sq_spec_SignOf.T := fun x => F_spec_SignOf x.1.1 x.1.2.1
theorem e_spec_SignOf : ∀ x, evCode ty (gamOf g_spec_SignOf) j_spec_SignOf (lamOf []) b_spec_SignOf (sp_spec_SignOf.hd x) (finN ty sq_spec_SignOf [.tmp 4]) = U_spec_SignOf x := fun x => by kernel_rfl
theorem c_spec_SignOf : FnS P 175 sp_spec_SignOf sq_spec_SignOf U_spec_SignOf :=
  fnS_of_ev tyOk mixed gok_spec_SignOf (fn := Tryz.f175) (by kernel_rfl) (c := b_spec_SignOf) (by kernel_rfl) (by kernel_rfl) (by kernel_rfl) (lam_ok (tab := []) (by kernel_rfl) lm0) e_spec_SignOf

/-! spec.l8Do -/
abbrev sp_spec_l8Do : Sp := ⟨236, [(0, .val false (.sl (.int .i64))), (1, .fix (.ptr 60000 0))], [(60000, [.val (.int .i64), .fix (.own 63000), .fix (.own 63001), .val (.int .i64), .val (.int .i64), .val (.int .i64), .val .bool])], [(63000, (.int .i64), true), (63001, (.int .i64), true)]⟩
abbrev sq_spec_l8Do : Sp := ⟨1, [(0, .val false (.int .i64))], [(60000, [.val (.int .i64), .fix (.own 59000), .fix (.own 59001), .val (.int .i64), .val (.int .i64), .val (.int .i64), .val .bool])], [(59000, (.int .i64), true), (59001, (.int .i64), true)]⟩
noncomputable def g_spec_l8Do : List (FuncId × SumX) := [(87, cN sp_spec_l6Least sq_spec_l6Least U_spec_l6Least), (167, cN sp_spec_l8Args sq_spec_l8Args U_spec_l8Args), (169, xN sp_spec_l8Push sq_spec_l8Push U_spec_l8Push), (170, xN sp_spec_l8Pop sq_spec_l8Pop U_spec_l8Pop), (171, cN sp_spec_l8Row sq_spec_l8Row U_spec_l8Row), (172, cN sp_spec_l2Binary sq_spec_l2Binary U_spec_l2Binary), (173, cN sp_spec_NegOf sq_spec_NegOf U_spec_NegOf), (174, cN sp_spec_NotOf sq_spec_NotOf U_spec_NotOf), (175, cN sp_spec_SignOf sq_spec_SignOf U_spec_SignOf)]
def j_spec_l8Do : Nat → Option (List (Nat × SS)) := jOf []
theorem gok_spec_l8Do : GOk P (gamOf g_spec_l8Do) := gam_ok (tab := g_spec_l8Do) (gm1 (cN_ok c_spec_l6Least rfl) (gm1 (cN_ok c_spec_l8Args rfl) (gm1 (xN_ok c_spec_l8Push rfl) (gm1 (xN_ok c_spec_l8Pop rfl) (gm1 (cN_ok c_spec_l8Row rfl) (gm1 (cN_ok c_spec_l2Binary rfl) (gm1 (cN_ok c_spec_NegOf rfl) (gm1 (cN_ok c_spec_NotOf rfl) (gm1 (cN_ok c_spec_SignOf rfl) gm0)))))))))
noncomputable abbrev b_spec_l8Do : Code := bodyOf Tryz.f153
noncomputable def F_spec_l8Do (x1 : K.T (.sl (.int .i64))) (x2 : K.T (.int .i64)) (x3 : K.T (.int .i64)) (x4 : K.T (.int .i64)) (x5 : K.T (.int .i64)) (x6 : K.T .bool) (x7 : List (K.T (.int .i64))) (x8 : List (K.T (.int .i64))) : Option sq_spec_l8Do.T :=
  bif ib x2 (x1).length then
  (F_spec_l8Args ((x1).getD (Int.toNat x2) (K.zero (.int .i64)))).bind fun y1 =>
  bif (((x1).getD (Int.toNat x2) (K.zero (.int .i64))) == (1 : Int)) then
    (bif ib (IntKind.wrap .i64 (x2 + (1 : Int))) (x1).length then
    (F_spec_l8Push ((x1).getD (Int.toNat (IntKind.wrap .i64 (x2 + (1 : Int)))) (K.zero (.int .i64))) x2 x3 x4 x5 x6 x7 x8).bind fun y2 =>
    some (((0 : Int), ()), (((IntKind.wrap .i64 ((IntKind.wrap .i64 (x2 + (1 : Int))) + y1.1.1)), (y2.2.1.1.2.1, (y2.2.1.1.2.2.1, (y2.2.1.1.2.2.2.1, (y2.2.1.1.2.2.2.2.1, ()))))), ()), (y2.2.2.1, (y2.2.2.2.1, ())))
    else none)
  else
  bif (((x1).getD (Int.toNat x2) (K.zero (.int .i64))) == (2 : Int)) then
    (bif ib (IntKind.wrap .i64 (x2 + (1 : Int))) (x1).length then
    bif ib ((x1).getD (Int.toNat (IntKind.wrap .i64 (x2 + (1 : Int)))) (K.zero (.int .i64))) (x8).length then
    (F_spec_l8Push ((x8).getD (Int.toNat ((x1).getD (Int.toNat (IntKind.wrap .i64 (x2 + (1 : Int)))) (K.zero (.int .i64)))) (K.zero (.int .i64))) x2 x3 x4 x5 x6 x7 x8).bind fun y3 =>
    some (((0 : Int), ()), (((IntKind.wrap .i64 ((IntKind.wrap .i64 (x2 + (1 : Int))) + y1.1.1)), (y3.2.1.1.2.1, (y3.2.1.1.2.2.1, (y3.2.1.1.2.2.2.1, (y3.2.1.1.2.2.2.2.1, ()))))), ()), (y3.2.2.1, (y3.2.2.2.1, ())))
    else none
    else none)
  else
  bif (((x1).getD (Int.toNat x2) (K.zero (.int .i64))) == (3 : Int)) then
    ((F_spec_l8Pop x2 x3 x4 x5 x6 x7 x8).bind fun y4 =>
    bif ib (IntKind.wrap .i64 (x2 + (1 : Int))) (x1).length then
    bif ib ((x1).getD (Int.toNat (IntKind.wrap .i64 (x2 + (1 : Int)))) (K.zero (.int .i64))) (y4.2.2.2.1).length then
    some (((0 : Int), ()), (((IntKind.wrap .i64 ((IntKind.wrap .i64 (x2 + (1 : Int))) + y1.1.1)), (y4.2.1.1.2.1, (y4.2.1.1.2.2.1, (y4.2.1.1.2.2.2.1, (y4.2.1.1.2.2.2.2.1, ()))))), ()), (y4.2.2.1, ((y4.2.2.2.1).set (Int.toNat ((x1).getD (Int.toNat (IntKind.wrap .i64 (x2 + (1 : Int)))) (K.zero (.int .i64)))) y4.1.1, ())))
    else none
    else none)
  else
  bif (((x1).getD (Int.toNat x2) (K.zero (.int .i64))) == (4 : Int)) then
    ((F_spec_l8Pop x2 x3 x4 x5 x6 x7 x8).bind fun y5 =>
    bif ib (IntKind.wrap .i64 (x2 + (1 : Int))) (x1).length then
    bif ib (IntKind.wrap .i64 (x2 + (2 : Int))) (x1).length then
    (F_spec_l8Row (y5.2.1.1.1, (y5.2.2.1, (y5.2.2.2.1, (y5.2.1.1.2.1, (y5.2.1.1.2.2.1, (y5.2.1.1.2.2.2.1, y5.2.1.1.2.2.2.2.1)))))) ((x1).getD (Int.toNat (IntKind.wrap .i64 (x2 + (1 : Int)))) (K.zero (.int .i64))) ((x1).getD (Int.toNat (IntKind.wrap .i64 (x2 + (2 : Int)))) (K.zero (.int .i64))) y5.1.1).bind fun y6 =>
    bif (y6.1.2.1 != (0 : Int)) then
      (some ((y6.1.2.1, ()), ((y5.2.1.1.1, (y5.2.1.1.2.1, (y5.2.1.1.2.2.1, (y5.2.1.1.2.2.2.1, (y5.2.1.1.2.2.2.2.1, ()))))), ()), (y5.2.2.1, (y5.2.2.2.1, ()))))
    else
    bif ib y6.1.1 (y5.2.2.2.1).length then
    (F_spec_l8Push ((y5.2.2.2.1).getD (Int.toNat y6.1.1) (K.zero (.int .i64))) y5.2.1.1.1 y5.2.1.1.2.1 y5.2.1.1.2.2.1 y5.2.1.1.2.2.2.1 y5.2.1.1.2.2.2.2.1 y5.2.2.1 y5.2.2.2.1).bind fun y7 =>
    some (((0 : Int), ()), (((IntKind.wrap .i64 ((IntKind.wrap .i64 (x2 + (1 : Int))) + y1.1.1)), (y7.2.1.1.2.1, (y7.2.1.1.2.2.1, (y7.2.1.1.2.2.2.1, (y7.2.1.1.2.2.2.2.1, ()))))), ()), (y7.2.2.1, (y7.2.2.2.1, ())))
    else none
    else none
    else none)
  else
  bif (((x1).getD (Int.toNat x2) (K.zero (.int .i64))) == (5 : Int)) then
    ((F_spec_l8Pop x2 x3 x4 x5 x6 x7 x8).bind fun y8 =>
    (F_spec_l8Pop y8.2.1.1.1 y8.2.1.1.2.1 y8.2.1.1.2.2.1 y8.2.1.1.2.2.2.1 y8.2.1.1.2.2.2.2.1 y8.2.2.1 y8.2.2.2.1).bind fun y9 =>
    bif ib (IntKind.wrap .i64 (x2 + (1 : Int))) (x1).length then
    bif ib (IntKind.wrap .i64 (x2 + (2 : Int))) (x1).length then
    (F_spec_l8Row (y9.2.1.1.1, (y9.2.2.1, (y9.2.2.2.1, (y9.2.1.1.2.1, (y9.2.1.1.2.2.1, (y9.2.1.1.2.2.2.1, y9.2.1.1.2.2.2.2.1)))))) ((x1).getD (Int.toNat (IntKind.wrap .i64 (x2 + (1 : Int)))) (K.zero (.int .i64))) ((x1).getD (Int.toNat (IntKind.wrap .i64 (x2 + (2 : Int)))) (K.zero (.int .i64))) y9.1.1).bind fun y10 =>
    bif (y10.1.2.1 != (0 : Int)) then
      (some ((y10.1.2.1, ()), ((y9.2.1.1.1, (y9.2.1.1.2.1, (y9.2.1.1.2.2.1, (y9.2.1.1.2.2.2.1, (y9.2.1.1.2.2.2.2.1, ()))))), ()), (y9.2.2.1, (y9.2.2.2.1, ()))))
    else
    bif ib y10.1.1 (y9.2.2.2.1).length then
    some (((0 : Int), ()), (((IntKind.wrap .i64 ((IntKind.wrap .i64 (x2 + (1 : Int))) + y1.1.1)), (y9.2.1.1.2.1, (y9.2.1.1.2.2.1, (y9.2.1.1.2.2.2.1, (y9.2.1.1.2.2.2.2.1, ()))))), ()), (y9.2.2.1, ((y9.2.2.2.1).set (Int.toNat y10.1.1) y8.1.1, ())))
    else none
    else none
    else none)
  else
  bif (((x1).getD (Int.toNat x2) (K.zero (.int .i64))) == (6 : Int)) then
    ((F_spec_l8Pop x2 x3 x4 x5 x6 x7 x8).bind fun y11 =>
    (F_spec_l8Pop y11.2.1.1.1 y11.2.1.1.2.1 y11.2.1.1.2.2.1 y11.2.1.1.2.2.2.1 y11.2.1.1.2.2.2.2.1 y11.2.2.1 y11.2.2.2.1).bind fun y12 =>
    bif ib (IntKind.wrap .i64 (x2 + (1 : Int))) (x1).length then
    (F_spec_l2Binary ((x1).getD (Int.toNat (IntKind.wrap .i64 (x2 + (1 : Int)))) (K.zero (.int .i64))) y12.1.1 y11.1.1).bind fun y13 =>
    bif (y13.1.2.1 == (3 : Int)) then
      (some (((1 : Int), ()), ((y12.2.1.1.1, (y12.2.1.1.2.1, (y12.2.1.1.2.2.1, (y12.2.1.1.2.2.2.1, (y12.2.1.1.2.2.2.2.1, ()))))), ()), (y12.2.2.1, (y12.2.2.2.1, ()))))
    else
    bif (y13.1.2.1 != (0 : Int)) then
      (some ((y13.1.2.1, ()), ((y12.2.1.1.1, (y12.2.1.1.2.1, (y12.2.1.1.2.2.1, (y12.2.1.1.2.2.2.1, (y12.2.1.1.2.2.2.2.1, ()))))), ()), (y12.2.2.1, (y12.2.2.2.1, ()))))
    else
    (F_spec_l8Push y13.1.1 y12.2.1.1.1 y12.2.1.1.2.1 y12.2.1.1.2.2.1 y12.2.1.1.2.2.2.1 y12.2.1.1.2.2.2.2.1 y12.2.2.1 y12.2.2.2.1).bind fun y14 =>
    some (((0 : Int), ()), (((IntKind.wrap .i64 ((IntKind.wrap .i64 (x2 + (1 : Int))) + y1.1.1)), (y14.2.1.1.2.1, (y14.2.1.1.2.2.1, (y14.2.1.1.2.2.2.1, (y14.2.1.1.2.2.2.2.1, ()))))), ()), (y14.2.2.1, (y14.2.2.2.1, ())))
    else none)
  else
  bif (((x1).getD (Int.toNat x2) (K.zero (.int .i64))) == (7 : Int)) then
    ((F_spec_l8Pop x2 x3 x4 x5 x6 x7 x8).bind fun y15 =>
    (F_spec_NegOf y15.1.1).bind fun y16 =>
    (F_spec_l8Push y16.1.1 y15.2.1.1.1 y15.2.1.1.2.1 y15.2.1.1.2.2.1 y15.2.1.1.2.2.2.1 y15.2.1.1.2.2.2.2.1 y15.2.2.1 y15.2.2.2.1).bind fun y17 =>
    some (((0 : Int), ()), (((IntKind.wrap .i64 ((IntKind.wrap .i64 (x2 + (1 : Int))) + y1.1.1)), (y17.2.1.1.2.1, (y17.2.1.1.2.2.1, (y17.2.1.1.2.2.2.1, (y17.2.1.1.2.2.2.2.1, ()))))), ()), (y17.2.2.1, (y17.2.2.2.1, ()))))
  else
  bif (((x1).getD (Int.toNat x2) (K.zero (.int .i64))) == (8 : Int)) then
    ((F_spec_l8Pop x2 x3 x4 x5 x6 x7 x8).bind fun y18 =>
    (F_spec_NotOf y18.1.1).bind fun y19 =>
    (F_spec_l8Push y19.1.1 y18.2.1.1.1 y18.2.1.1.2.1 y18.2.1.1.2.2.1 y18.2.1.1.2.2.2.1 y18.2.1.1.2.2.2.2.1 y18.2.2.1 y18.2.2.2.1).bind fun y20 =>
    some (((0 : Int), ()), (((IntKind.wrap .i64 ((IntKind.wrap .i64 (x2 + (1 : Int))) + y1.1.1)), (y20.2.1.1.2.1, (y20.2.1.1.2.2.1, (y20.2.1.1.2.2.2.1, (y20.2.1.1.2.2.2.2.1, ()))))), ()), (y20.2.2.1, (y20.2.2.2.1, ()))))
  else
  bif (((x1).getD (Int.toNat x2) (K.zero (.int .i64))) == (9 : Int)) then
    ((F_spec_l8Pop x2 x3 x4 x5 x6 x7 x8).bind fun y21 =>
    (F_spec_l6Least y21.1.1).bind fun y22 =>
    (F_spec_l8Push y22.1.1 y21.2.1.1.1 y21.2.1.1.2.1 y21.2.1.1.2.2.1 y21.2.1.1.2.2.2.1 y21.2.1.1.2.2.2.2.1 y21.2.2.1 y21.2.2.2.1).bind fun y23 =>
    some (((0 : Int), ()), (((IntKind.wrap .i64 ((IntKind.wrap .i64 (x2 + (1 : Int))) + y1.1.1)), (y23.2.1.1.2.1, (y23.2.1.1.2.2.1, (y23.2.1.1.2.2.2.1, (y23.2.1.1.2.2.2.2.1, ()))))), ()), (y23.2.2.1, (y23.2.2.2.1, ()))))
  else
  bif (((x1).getD (Int.toNat x2) (K.zero (.int .i64))) == (10 : Int)) then
    (bif ib (IntKind.wrap .i64 (x2 + (1 : Int))) (x1).length then
    some (((0 : Int), ()), ((((x1).getD (Int.toNat (IntKind.wrap .i64 (x2 + (1 : Int)))) (K.zero (.int .i64))), (x3, (x4, (x5, (x6, ()))))), ()), (x7, (x8, ())))
    else none)
  else
  bif (((x1).getD (Int.toNat x2) (K.zero (.int .i64))) == (11 : Int)) then
    ((F_spec_l8Pop x2 x3 x4 x5 x6 x7 x8).bind fun y24 =>
    bif (y24.1.1 == (0 : Int)) then
      (bif ib (IntKind.wrap .i64 (x2 + (1 : Int))) (x1).length then
      some (((0 : Int), ()), ((((x1).getD (Int.toNat (IntKind.wrap .i64 (x2 + (1 : Int)))) (K.zero (.int .i64))), (y24.2.1.1.2.1, (y24.2.1.1.2.2.1, (y24.2.1.1.2.2.2.1, (y24.2.1.1.2.2.2.2.1, ()))))), ()), (y24.2.2.1, (y24.2.2.2.1, ())))
      else none)
    else
    some (((0 : Int), ()), (((IntKind.wrap .i64 ((IntKind.wrap .i64 (x2 + (1 : Int))) + y1.1.1)), (y24.2.1.1.2.1, (y24.2.1.1.2.2.1, (y24.2.1.1.2.2.2.1, (y24.2.1.1.2.2.2.2.1, ()))))), ()), (y24.2.2.1, (y24.2.2.2.1, ()))))
  else
  bif (((x1).getD (Int.toNat x2) (K.zero (.int .i64))) == (12 : Int)) then
    (bif ib (IntKind.wrap .i64 (x2 + (1 : Int))) (x1).length then
    (F_spec_SignOf x3 ((x1).getD (Int.toNat (IntKind.wrap .i64 (x2 + (1 : Int)))) (K.zero (.int .i64)))).bind fun y25 =>
    some (((0 : Int), ()), (((IntKind.wrap .i64 ((IntKind.wrap .i64 (x2 + (1 : Int))) + y1.1.1)), (y25.1.1, (x4, (x5, (x6, ()))))), ()), (x7, (x8, ())))
    else none)
  else
  bif (((x1).getD (Int.toNat x2) (K.zero (.int .i64))) == (13 : Int)) then
    (some (((0 : Int), ()), (((IntKind.wrap .i64 ((IntKind.wrap .i64 (x2 + (1 : Int))) + y1.1.1)), (x3, (x4, (x5, (true, ()))))), ()), (x7, (x8, ()))))
  else
  some (((0 : Int), ()), (((IntKind.wrap .i64 ((IntKind.wrap .i64 (x2 + (1 : Int))) + y1.1.1)), (x3, (x4, (x5, (x6, ()))))), ()), (x7, (x8, ())))
  else none
noncomputable abbrev U_spec_l8Do : sp_spec_l8Do.T → Option sq_spec_l8Do.T := fun x => F_spec_l8Do x.1.1 x.2.1.1.1 x.2.1.1.2.1 x.2.1.1.2.2.1 x.2.1.1.2.2.2.1 x.2.1.1.2.2.2.2.1 x.2.2.1 x.2.2.2.1
theorem e_spec_l8Do : ∀ x, evCode ty (gamOf g_spec_l8Do) j_spec_l8Do (lamOf []) b_spec_l8Do (sp_spec_l8Do.hd x) (finN ty sq_spec_l8Do [.tmp 4]) = U_spec_l8Do x := fun x => by kernel_rfl
theorem c_spec_l8Do : FnS P 153 sp_spec_l8Do sq_spec_l8Do U_spec_l8Do :=
  fnS_of_ev tyOk mixed gok_spec_l8Do (fn := Tryz.f153) (by kernel_rfl) (c := b_spec_l8Do) (by kernel_rfl) (by kernel_rfl) (by kernel_rfl) (lam_ok (tab := []) (by kernel_rfl) lm0) e_spec_l8Do

/-! spec.l8Step -/
abbrev sp_spec_l8Step : Sp := ⟨42, [(0, .val false (.sl (.int .i64))), (1, .mix true [.val (.int .i64), .fix (.own 63000), .fix (.own 63001), .val (.int .i64), .val (.int .i64), .val (.int .i64), .val .bool])], [], [(63000, (.int .i64), true), (63001, (.int .i64), true)]⟩
abbrev sq_spec_l8Step : Sp := ⟨1, [(0, .mix true [.val (.int .i64), .fix (.own 59000), .fix (.own 59001), .val (.int .i64), .val (.int .i64), .val (.int .i64), .val .bool])], [], [(59000, (.int .i64), true), (59001, (.int .i64), true)]⟩
noncomputable def g_spec_l8Step : List (FuncId × SumX) := [(127, cN sp_spec_l1Min sq_spec_l1Min U_spec_l1Min), (151, fN sp_spec_l8Copy sq_spec_l8Copy U_spec_l8Copy), (152, cN sp_spec_l8Ready sq_spec_l8Ready U_spec_l8Ready), (153, xN sp_spec_l8Do sq_spec_l8Do U_spec_l8Do)]
def j_spec_l8Step : Nat → Option (List (Nat × SS)) := jOf [(1, [(15, .val false .bool)])]
theorem gok_spec_l8Step : GOk P (gamOf g_spec_l8Step) := gam_ok (tab := g_spec_l8Step) (gm1 (cN_ok c_spec_l1Min rfl) (gm1 (fN_ok c_spec_l8Copy rfl) (gm1 (cN_ok c_spec_l8Ready rfl) (gm1 (xN_ok c_spec_l8Do rfl) gm0))))
noncomputable abbrev b_spec_l8Step : Code := bodyOf Tryz.f131
noncomputable def F_spec_l8Step (x1 : K.T (.sl (.int .i64))) (x2 : K.T (.int .i64)) (x3 : K.T (.int .i64)) (x4 : K.T (.int .i64)) (x5 : K.T (.int .i64)) (x6 : K.T .bool) (x7 : List (K.T (.int .i64))) (x8 : List (K.T (.int .i64))) : Option sq_spec_l8Step.T :=
  (bif x6 then
      (some (true, ()))
    else
    some ((x5 != (0 : Int)), ())).bind fun y1 =>
  bif y1.1 then
    (some (((x2, (x3, (x4, (x5, (x6, ()))))), ()), (), (x7, (x8, ()))))
  else
  (F_spec_l1Min (1000000 : Int) (IntKind.wrap .i64 (x4 + (1 : Int)))).bind fun y2 =>
  (F_spec_l8Copy (x2, (x7, (x8, (x3, (x4, (x5, x6))))))).bind fun y3 =>
  (F_spec_l8Ready x1 (x2, (x7, (x8, (x3, (x4, (x5, x6))))))).bind fun y4 =>
  bif (!y4.1.1) then
    (some (((y3.1.1.1, (y3.1.1.2.1, (y2.1.1, ((1 : Int), (y3.1.1.2.2.2.2.1, ()))))), ()), (), (y3.2.2.1, (y3.2.2.2.1, ()))))
  else
  (F_spec_l8Copy (x2, (x7, (x8, (x3, (x4, (x5, x6))))))).bind fun y5 =>
  (F_spec_l8Do x1 y5.1.1.1 y5.1.1.2.1 y2.1.1 y5.1.1.2.2.2.1 y5.1.1.2.2.2.2.1 y5.2.2.1 y5.2.2.2.1).bind fun y6 =>
  bif (y6.1.1 != (0 : Int)) then
    (some (((y3.1.1.1, (y3.1.1.2.1, (y2.1.1, (y6.1.1, (y3.1.1.2.2.2.2.1, ()))))), ()), (), (y3.2.2.1, (y3.2.2.2.1, ()))))
  else
  some (((y6.2.1.1.1, (y6.2.1.1.2.1, (y6.2.1.1.2.2.1, (y6.2.1.1.2.2.2.1, (y6.2.1.1.2.2.2.2.1, ()))))), ()), (), (y6.2.2.1, (y6.2.2.2.1, ())))
noncomputable abbrev U_spec_l8Step : sp_spec_l8Step.T → Option sq_spec_l8Step.T := fun x => F_spec_l8Step x.1.1 x.1.2.1.1 x.1.2.1.2.1 x.1.2.1.2.2.1 x.1.2.1.2.2.2.1 x.1.2.1.2.2.2.2.1 x.2.2.1 x.2.2.2.1
theorem e_spec_l8Step : ∀ x, evCode ty (gamOf g_spec_l8Step) j_spec_l8Step (lamOf []) b_spec_l8Step (sp_spec_l8Step.hd x) (finN ty sq_spec_l8Step [.cell 4 123]) = U_spec_l8Step x := fun x => by kernel_rfl
theorem c_spec_l8Step : FnS P 131 sp_spec_l8Step sq_spec_l8Step U_spec_l8Step :=
  fnS_of_ev tyOk mixed gok_spec_l8Step (fn := Tryz.f131) (by kernel_rfl) (c := b_spec_l8Step) (by kernel_rfl) (by kernel_rfl) (by kernel_rfl) (lam_ok (tab := []) (by kernel_rfl) lm0) e_spec_l8Step

/-! spec.l8Run -/
abbrev sp_spec_l8Run : Sp := ⟨30, [(0, .val false (.sl (.int .i64))), (1, .val false (.sl (.int .i64))), (2, .val false (.int .i64))], [], []⟩
abbrev sq_spec_l8Run : Sp := ⟨1, [(0, .mix true [.val (.int .i64), .fix (.own 59000), .fix (.own 59001), .val (.int .i64), .val (.int .i64), .val (.int .i64), .val .bool])], [], [(59000, (.int .i64), true), (59001, (.int .i64), true)]⟩
noncomputable def g_spec_l8Run : List (FuncId × SumX) := [(131, xN sp_spec_l8Step sq_spec_l8Step U_spec_l8Step)]
def j_spec_l8Run : Nat → Option (List (Nat × SS)) := jOf [(2, [(19, .val false .bool)])]
theorem gok_spec_l8Run : GOk P (gamOf g_spec_l8Run) := gam_ok (tab := g_spec_l8Run) (gm1 (xN_ok c_spec_l8Step rfl) gm0)
noncomputable abbrev b_spec_l8Run : Code := bodyOf Tryz.f89
abbrev sp_spec_l8Run_l2 : Sp := ⟨30, [(0, .val false (.sl (.int .i64))), (2, .val false (.int .i64)), (6, .fix (.ptr 59000 0)), (7, .fix (.ptr 59001 0))], [(59000, [.val (.int .i64), .fix .nil, .fix .nil, .val (.int .i64), .val (.int .i64), .val (.int .i64), .val .bool]), (59001, [.val (.int .i64), .fix (.own 59000), .fix (.own 59001), .val (.int .i64), .val (.int .i64), .val (.int .i64), .val .bool])], [(59000, (.int .i64), true), (59001, (.int .i64), true)]⟩
abbrev xs_spec_l8Run_l2 : List (Ex × Sp) := [(.exit 0, ⟨30, [(6, .fix (.ptr 59000 0)), (7, .fix (.ptr 59001 0))], [(59000, [.val (.int .i64), .fix .nil, .fix .nil, .val (.int .i64), .val (.int .i64), .val (.int .i64), .val .bool]), (59001, [.val (.int .i64), .fix (.own 59000), .fix (.own 59001), .val (.int .i64), .val (.int .i64), .val (.int .i64), .val .bool])], [(59000, (.int .i64), true), (59001, (.int .i64), true)]⟩), (.ret, ⟨30, [(6, .fix (.ptr 59000 0))], [(59000, [.val (.int .i64), .fix (.own 59000), .fix (.own 59001), .val (.int .i64), .val (.int .i64), .val (.int .i64), .val .bool])], [(59000, (.int .i64), true), (59001, (.int .i64), true)]⟩)]
noncomputable def s_spec_l8Run_l2 : sp_spec_l8Run_l2.T → Option (sp_spec_l8Run_l2.T ⊕ XT xs_spec_l8Run_l2) := fun x =>
  (bif (!x.2.1.2.1.2.2.2.2.1) then
      (some ((x.2.1.2.1.2.2.2.1 == (0 : Int)), ()))
    else
    some (false, ())).bind fun y1 =>
  bif y1.1 then
    (bif (decide (x.2.1.2.1.2.2.1 ≥ x.1.2.1)) then
      (some (.inr (.inr ((), ((x.2.1.2.1.1, (x.2.1.2.1.2.1, (x.2.1.2.1.2.2.1, ((2 : Int), (x.2.1.2.1.2.2.2.2.1, ()))))), ()), (x.2.2.1, (x.2.2.2.1, ()))))))
    else
    (F_spec_l8Step x.1.1 x.2.1.2.1.1 x.2.1.2.1.2.1 x.2.1.2.1.2.2.1 x.2.1.2.1.2.2.2.1 x.2.1.2.1.2.2.2.2.1 x.2.2.1 x.2.2.2.1).bind fun y2 =>
    some (.inl ((x.1.1, (x.1.2.1, ())), ((x.2.1.1.1, (x.2.1.1.2.1, (x.2.1.1.2.2.1, (x.2.1.1.2.2.2.1, (x.2.1.1.2.2.2.2.1, ()))))), ((y2.1.1.1, (y2.1.1.2.1, (y2.1.1.2.2.1, (y2.1.1.2.2.2.1, (y2.1.1.2.2.2.2.1, ()))))), ())), (y2.2.2.1, (y2.2.2.2.1, ())))))
  else
  some (.inr (.inl ((), ((x.2.1.1.1, (x.2.1.1.2.1, (x.2.1.1.2.2.1, (x.2.1.1.2.2.2.1, (x.2.1.1.2.2.2.2.1, ()))))), ((x.2.1.2.1.1, (x.2.1.2.1.2.1, (x.2.1.2.1.2.2.1, (x.2.1.2.1.2.2.2.1, (x.2.1.2.1.2.2.2.2.1, ()))))), ())), (x.2.2.1, (x.2.2.2.1, ())))))
noncomputable def l_spec_l8Run_l2 : sp_spec_l8Run_l2.T → Option (XT xs_spec_l8Run_l2) := lim s_spec_l8Run_l2
theorem es_spec_l8Run_l2 : ∀ x, evCode ty (gamOf g_spec_l8Run) j_spec_l8Run (lamOf []) (loopAt b_spec_l8Run 2) (sp_spec_l8Run_l2.hd x) (rdK sp_spec_l8Run_l2 xs_spec_l8Run_l2) = s_spec_l8Run_l2 x := fun x => by kernel_rfl
theorem ls_spec_l8Run_l2 : LSumOk P (loopAt b_spec_l8Run 2) (loopL sp_spec_l8Run_l2 xs_spec_l8Run_l2 l_spec_l8Run_l2) := loop_ok tyOk mixed gok_spec_l8Run (by kernel_rfl) (by kernel_rfl) (lam_ok (tab := []) (by kernel_rfl) lm0) es_spec_l8Run_l2 lim_itr
noncomputable def F_spec_l8Run (x1 : K.T (.sl (.int .i64))) (x2 : K.T (.sl (.int .i64))) (x3 : K.T (.int .i64)) : Option sq_spec_l8Run.T :=
  bif room ([] ++ x2).length 8 then
  (l_spec_l8Run_l2 ((x1, (x3, ())), (((0 : Int), ((0 : Int), ((0 : Int), ((0 : Int), (false, ()))))), (((0 : Int), ((0 : Int), ((0 : Int), ((0 : Int), (false, ()))))), ())), ([], (([] ++ x2), ())))).bind fun y3 =>
  (match y3 with
  | .inl y4 => some (((y4.2.1.2.1.1, (y4.2.1.2.1.2.1, (y4.2.1.2.1.2.2.1, (y4.2.1.2.1.2.2.2.1, (y4.2.1.2.1.2.2.2.2.1, ()))))), ()), (), (y4.2.2.1, (y4.2.2.2.1, ())))
  | .inr z5 => some (((z5.2.1.1.1, (z5.2.1.1.2.1, (z5.2.1.1.2.2.1, (z5.2.1.1.2.2.2.1, (z5.2.1.1.2.2.2.2.1, ()))))), ()), (), (z5.2.2.1, (z5.2.2.2.1, ()))))
  else none
noncomputable abbrev U_spec_l8Run : sp_spec_l8Run.T → Option sq_spec_l8Run.T := fun x => F_spec_l8Run x.1.1 x.1.2.1 x.1.2.2.1
theorem e_spec_l8Run : ∀ x, evCode ty (gamOf g_spec_l8Run) j_spec_l8Run (lamOf [(2, loopL sp_spec_l8Run_l2 xs_spec_l8Run_l2 l_spec_l8Run_l2)]) b_spec_l8Run (sp_spec_l8Run.hd x) (finN ty sq_spec_l8Run [.cell 6 123]) = U_spec_l8Run x := fun x => by kernel_rfl
theorem c_spec_l8Run : FnS P 89 sp_spec_l8Run sq_spec_l8Run U_spec_l8Run :=
  fnS_of_ev tyOk mixed gok_spec_l8Run (fn := Tryz.f89) (by kernel_rfl) (c := b_spec_l8Run) (by kernel_rfl) (by kernel_rfl) (by kernel_rfl) (lam_ok (tab := [(2, loopL sp_spec_l8Run_l2 xs_spec_l8Run_l2 l_spec_l8Run_l2)]) (by kernel_rfl) (lm1 @ls_spec_l8Run_l2 lm0)) e_spec_l8Run

/-! spec.l10Start -/
abbrev sp_spec_l10Start : Sp := ⟨19, [(0, .val false (.sl (.int .i64)))], [], []⟩
abbrev sq_spec_l10Start : Sp := ⟨1, [(0, .mix true [.val (.int .i64), .fix (.own 59000), .fix (.own 59001), .val (.int .i64), .val (.int .i64), .val (.int .i64), .val .bool])], [], [(59000, (.int .i64), true), (59001, (.int .i64), true)]⟩
noncomputable def g_spec_l10Start : List (FuncId × SumX) := []
def j_spec_l10Start : Nat → Option (List (Nat × SS)) := jOf []
theorem gok_spec_l10Start : GOk P (gamOf g_spec_l10Start) := gam_ok (tab := g_spec_l10Start) gm0
noncomputable abbrev b_spec_l10Start : Code := bodyOf Tryz.f132
abbrev sp_spec_l10Start_l3 : Sp := ⟨19, [(2, .fix (.ptr 59000 0)), (3, .fix (.ptr 59001 0)), (4, .val false (.int .i64))], [(59000, [.val (.int .i64), .fix .nil, .fix .nil, .val (.int .i64), .val (.int .i64), .val (.int .i64), .val .bool]), (59001, [.val (.int .i64), .fix (.own 59000), .fix (.own 59001), .val (.int .i64), .val (.int .i64), .val (.int .i64), .val .bool])], [(59000, (.int .i64), true), (59001, (.int .i64), true)]⟩
abbrev xs_spec_l10Start_l3 : List (Ex × Sp) := [(.exit 0, ⟨19, [(2, .fix (.ptr 59000 0)), (3, .fix (.ptr 59001 0))], [(59000, [.val (.int .i64), .fix .nil, .fix .nil, .val (.int .i64), .val (.int .i64), .val (.int .i64), .val .bool]), (59001, [.val (.int .i64), .fix (.own 59000), .fix (.own 59001), .val (.int .i64), .val (.int .i64), .val (.int .i64), .val .bool])], [(59000, (.int .i64), true), (59001, (.int .i64), true)]⟩)]
noncomputable def s_spec_l10Start_l3 : sp_spec_l10Start_l3.T → Option (sp_spec_l10Start_l3.T ⊕ XT xs_spec_l10Start_l3) := fun x =>
  bif (decide (x.1.1 < (24 : Int))) then
    (bif room (x.2.2.1 ++ [(65535 : Int)]).length 8 then
    some (.inl (((IntKind.wrap .i64 (x.1.1 + (1 : Int))), ()), ((x.2.1.1.1, (x.2.1.1.2.1, (x.2.1.1.2.2.1, (x.2.1.1.2.2.2.1, (x.2.1.1.2.2.2.2.1, ()))))), ((x.2.1.2.1.1, (x.2.1.2.1.2.1, (x.2.1.2.1.2.2.1, (x.2.1.2.1.2.2.2.1, (x.2.1.2.1.2.2.2.2.1, ()))))), ())), ((x.2.2.1 ++ [(65535 : Int)]), (x.2.2.2.1, ()))))
    else none)
  else
  some (.inr ((), ((x.2.1.1.1, (x.2.1.1.2.1, (x.2.1.1.2.2.1, (x.2.1.1.2.2.2.1, (x.2.1.1.2.2.2.2.1, ()))))), ((x.2.1.2.1.1, (x.2.1.2.1.2.1, (x.2.1.2.1.2.2.1, (x.2.1.2.1.2.2.2.1, (x.2.1.2.1.2.2.2.2.1, ()))))), ())), (x.2.2.1, (x.2.2.2.1, ()))))
noncomputable def l_spec_l10Start_l3 : sp_spec_l10Start_l3.T → Option (XT xs_spec_l10Start_l3) := lim s_spec_l10Start_l3
theorem es_spec_l10Start_l3 : ∀ x, evCode ty (gamOf g_spec_l10Start) j_spec_l10Start (lamOf []) (loopAt b_spec_l10Start 3) (sp_spec_l10Start_l3.hd x) (rdK sp_spec_l10Start_l3 xs_spec_l10Start_l3) = s_spec_l10Start_l3 x := fun x => by kernel_rfl
theorem ls_spec_l10Start_l3 : LSumOk P (loopAt b_spec_l10Start 3) (loopL sp_spec_l10Start_l3 xs_spec_l10Start_l3 l_spec_l10Start_l3) := loop_ok tyOk mixed gok_spec_l10Start (by kernel_rfl) (by kernel_rfl) (lam_ok (tab := []) (by kernel_rfl) lm0) es_spec_l10Start_l3 lim_itr
noncomputable def F_spec_l10Start (x1 : K.T (.sl (.int .i64))) : Option sq_spec_l10Start.T :=
  bif room ([] ++ x1).length 8 then
  (l_spec_l10Start_l3 (((0 : Int), ()), (((0 : Int), ((0 : Int), ((0 : Int), ((0 : Int), (false, ()))))), (((0 : Int), ((0 : Int), ((0 : Int), ((0 : Int), (false, ()))))), ())), ([], (([] ++ x1), ())))).bind fun y1 =>
  some (((y1.2.1.2.1.1, (y1.2.1.2.1.2.1, (y1.2.1.2.1.2.2.1, (y1.2.1.2.1.2.2.2.1, (y1.2.1.2.1.2.2.2.2.1, ()))))), ()), (), (y1.2.2.1, (y1.2.2.2.1, ())))
  else none
noncomputable abbrev U_spec_l10Start : sp_spec_l10Start.T → Option sq_spec_l10Start.T := fun x => F_spec_l10Start x.1.1
theorem e_spec_l10Start : ∀ x, evCode ty (gamOf g_spec_l10Start) j_spec_l10Start (lamOf [(3, loopL sp_spec_l10Start_l3 xs_spec_l10Start_l3 l_spec_l10Start_l3)]) b_spec_l10Start (sp_spec_l10Start.hd x) (finN ty sq_spec_l10Start [.cell 2 126]) = U_spec_l10Start x := fun x => by kernel_rfl
theorem c_spec_l10Start : FnS P 132 sp_spec_l10Start sq_spec_l10Start U_spec_l10Start :=
  fnS_of_ev tyOk mixed gok_spec_l10Start (fn := Tryz.f132) (by kernel_rfl) (c := b_spec_l10Start) (by kernel_rfl) (by kernel_rfl) (by kernel_rfl) (lam_ok (tab := [(3, loopL sp_spec_l10Start_l3 xs_spec_l10Start_l3 l_spec_l10Start_l3)]) (by kernel_rfl) (lm1 @ls_spec_l10Start_l3 lm0)) e_spec_l10Start

/-! spec.l10Copy -/
abbrev sp_spec_l10Copy : Sp := ⟨14, [(0, .val true k14)], [], []⟩
abbrev sq_spec_l10Copy : Sp := ⟨1, [(0, .mix true [.val (.int .i64), .fix (.own 59000), .fix (.own 59001), .val (.int .i64), .val (.int .i64), .val (.int .i64), .val .bool])], [], [(59000, (.int .i64), true), (59001, (.int .i64), true)]⟩
noncomputable def g_spec_l10Copy : List (FuncId × SumX) := []
def j_spec_l10Copy : Nat → Option (List (Nat × SS)) := jOf []
theorem gok_spec_l10Copy : GOk P (gamOf g_spec_l10Copy) := gam_ok (tab := g_spec_l10Copy) gm0
noncomputable abbrev b_spec_l10Copy : Code := bodyOf Tryz.f154
noncomputable def F_spec_l10Copy (x1 : K.T k14) : Option sq_spec_l10Copy.T :=
  bif room ([] ++ x1.2.1).length 8 then
  bif room ([] ++ x1.2.2.1).length 8 then
  some (((x1.1, (x1.2.2.2.1, (x1.2.2.2.2.1, (x1.2.2.2.2.2.1, (x1.2.2.2.2.2.2, ()))))), ()), (), (([] ++ x1.2.1), (([] ++ x1.2.2.1), ())))
  else none
  else none
noncomputable abbrev U_spec_l10Copy : sp_spec_l10Copy.T → Option sq_spec_l10Copy.T := fun x => F_spec_l10Copy x.1.1
theorem e_spec_l10Copy : ∀ x, evCode ty (gamOf g_spec_l10Copy) j_spec_l10Copy (lamOf []) b_spec_l10Copy (sp_spec_l10Copy.hd x) (finN ty sq_spec_l10Copy [.cell 2 126]) = U_spec_l10Copy x := fun x => by kernel_rfl
theorem c_spec_l10Copy : FnS P 154 sp_spec_l10Copy sq_spec_l10Copy U_spec_l10Copy :=
  fnS_of_ev tyOk mixed gok_spec_l10Copy (fn := Tryz.f154) (by kernel_rfl) (c := b_spec_l10Copy) (by kernel_rfl) (by kernel_rfl) (by kernel_rfl) (lam_ok (tab := []) (by kernel_rfl) lm0) e_spec_l10Copy

/-! spec.l10Args -/
abbrev sp_spec_l10Args : Sp := ⟨14, [(0, .val false (.int .i64))], [], []⟩
abbrev sq_spec_l10Args : Sp := ⟨1, [(0, .val false (.int .i64))], [], []⟩
noncomputable def g_spec_l10Args : List (FuncId × SumX) := []
def j_spec_l10Args : Nat → Option (List (Nat × SS)) := jOf []
theorem gok_spec_l10Args : GOk P (gamOf g_spec_l10Args) := gam_ok (tab := g_spec_l10Args) gm0
noncomputable abbrev b_spec_l10Args : Code := bodyOf Tryz.f176
noncomputable def F_spec_l10Args (x1 : K.T (.int .i64)) : Option sq_spec_l10Args.T :=
  bif (x1 == (4 : Int)) then
    (some (((4 : Int), ()), (), ()))
  else
  bif (x1 == (5 : Int)) then
    (some (((4 : Int), ()), (), ()))
  else
  bif (x1 == (6 : Int)) then
    (some (((4 : Int), ()), (), ()))
  else
  bif (x1 == (9 : Int)) then
    (some (((1 : Int), ()), (), ()))
  else
  bif (x1 == (10 : Int)) then
    (some (((1 : Int), ()), (), ()))
  else
  bif (x1 == (12 : Int)) then
    (some (((1 : Int), ()), (), ()))
  else
  bif (x1 == (13 : Int)) then
    (some (((0 : Int), ()), (), ()))
  else
  some (((2 : Int), ()), (), ())
noncomputable abbrev U_spec_l10Args : sp_spec_l10Args.T → Option sq_spec_l10Args.T := fun x => F_spec_l10Args x.1.1
theorem e_spec_l10Args : ∀ x, evCode ty (gamOf g_spec_l10Args) j_spec_l10Args (lamOf []) b_spec_l10Args (sp_spec_l10Args.hd x) (finN ty sq_spec_l10Args [.tmp 2]) = U_spec_l10Args x := fun x => by kernel_rfl
theorem c_spec_l10Args : FnS P 176 sp_spec_l10Args sq_spec_l10Args U_spec_l10Args :=
  fnS_of_ev tyOk mixed gok_spec_l10Args (fn := Tryz.f176) (by kernel_rfl) (c := b_spec_l10Args) (by kernel_rfl) (by kernel_rfl) (by kernel_rfl) (lam_ok (tab := []) (by kernel_rfl) lm0) e_spec_l10Args

/-! spec.l10Places -/
abbrev sp_spec_l10Places : Sp := ⟨25, [(0, .val false (.int .i64))], [], []⟩
abbrev sq_spec_l10Places : Sp := ⟨2, [(0, .fix (.own 59000)), (1, .val false (.int .i64))], [], [(59000, (.int .i64), true)]⟩
noncomputable def g_spec_l10Places : List (FuncId × SumX) := []
def j_spec_l10Places : Nat → Option (List (Nat × SS)) := jOf []
theorem gok_spec_l10Places : GOk P (gamOf g_spec_l10Places) := gam_ok (tab := g_spec_l10Places) gm0
noncomputable abbrev b_spec_l10Places : Code := bodyOf Tryz.f177
noncomputable def F_spec_l10Places (x1 : K.T (.int .i64)) : Option sq_spec_l10Places.T :=
  bif (x1 == (1 : Int)) then
    (some (((-1 : Int), ()), (), ([(1 : Int)], ())))
  else
  bif (x1 == (9 : Int)) then
    (some (((-1 : Int), ()), (), ([(1 : Int)], ())))
  else
  bif (x1 == (11 : Int)) then
    (some (((-1 : Int), ()), (), ([(1 : Int)], ())))
  else
  bif (x1 == (2 : Int)) then
    (some (((2 : Int), ()), (), ([(1 : Int)], ())))
  else
  bif (x1 == (3 : Int)) then
    (some (((1 : Int), ()), (), ([(2 : Int)], ())))
  else
  bif (x1 == (4 : Int)) then
    (some (((-1 : Int), ()), (), ([(1 : Int), (2 : Int)], ())))
  else
  bif (x1 == (5 : Int)) then
    (some (((-1 : Int), ()), (), ([(1 : Int), (2 : Int)], ())))
  else
  bif (x1 == (7 : Int)) then
    (some (((-1 : Int), ()), (), ([(1 : Int), (2 : Int)], ())))
  else
  bif (x1 == (8 : Int)) then
    (some (((-1 : Int), ()), (), ([(1 : Int), (2 : Int)], ())))
  else
  bif (x1 == (6 : Int)) then
    (some (((-1 : Int), ()), (), ([(1 : Int), (2 : Int), (3 : Int)], ())))
  else
  some (((-1 : Int), ()), (), ([], ()))
noncomputable abbrev U_spec_l10Places : sp_spec_l10Places.T → Option sq_spec_l10Places.T := fun x => F_spec_l10Places x.1.1
theorem e_spec_l10Places : ∀ x, evCode ty (gamOf g_spec_l10Places) j_spec_l10Places (lamOf []) b_spec_l10Places (sp_spec_l10Places.hd x) (finN ty sq_spec_l10Places [.tmp 2, .tmp 3]) = U_spec_l10Places x := fun x => by kernel_rfl
theorem c_spec_l10Places : FnS P 177 sp_spec_l10Places sq_spec_l10Places U_spec_l10Places :=
  fnS_of_ev tyOk mixed gok_spec_l10Places (fn := Tryz.f177) (by kernel_rfl) (c := b_spec_l10Places) (by kernel_rfl) (by kernel_rfl) (by kernel_rfl) (lam_ok (tab := []) (by kernel_rfl) lm0) e_spec_l10Places

/-! spec.l10Ready -/
abbrev sp_spec_l10Ready : Sp := ⟨88, [(0, .val false (.sl (.int .i64))), (1, .rp k14)], [], []⟩
abbrev sq_spec_l10Ready : Sp := ⟨1, [(0, .val false .bool)], [], []⟩
noncomputable def g_spec_l10Ready : List (FuncId × SumX) := [(80, cN sp_spec_l1In sq_spec_l1In U_spec_l1In), (176, cN sp_spec_l10Args sq_spec_l10Args U_spec_l10Args), (177, fN sp_spec_l10Places sq_spec_l10Places U_spec_l10Places)]
def j_spec_l10Ready : Nat → Option (List (Nat × SS)) := jOf [(2, [(28, .val false .bool)]), (13, [(4, .val false .bool)])]
theorem gok_spec_l10Ready : GOk P (gamOf g_spec_l10Ready) := gam_ok (tab := g_spec_l10Ready) (gm1 (cN_ok c_spec_l1In rfl) (gm1 (cN_ok c_spec_l10Args rfl) (gm1 (fN_ok c_spec_l10Places rfl) gm0)))
noncomputable abbrev b_spec_l10Ready : Code := bodyOf Tryz.f155
abbrev sp_spec_l10Ready_l9 : Sp := ⟨88, [(0, .val false (.sl (.int .i64))), (1, .rp k14), (7, .fix (.own 59000)), (8, .val false (.int .i64)), (9, .val false (.int .i64))], [], [(59000, (.int .i64), true)]⟩
abbrev xs_spec_l10Ready_l9 : List (Ex × Sp) := [(.exit 0, ⟨88, [(0, .val false (.sl (.int .i64))), (1, .rp k14), (8, .val false (.int .i64))], [], []⟩), (.ret, ⟨88, [(4, .val false .bool)], [], []⟩)]
noncomputable def s_spec_l10Ready_l9 : sp_spec_l10Ready_l9.T → Option (sp_spec_l10Ready_l9.T ⊕ XT xs_spec_l10Ready_l9) := fun x =>
  bif (decide (x.1.2.2.2.1 < ((x.2.2.1).length : Int))) then
    (bif ib x.1.2.2.2.1 (x.2.2.1).length then
    bif ib (IntKind.wrap .i64 (x.1.2.1.1 + ((x.2.2.1).getD (Int.toNat x.1.2.2.2.1) (K.zero (.int .i64))))) (x.1.1).length then
    bif (decide (((x.1.1).getD (Int.toNat (IntKind.wrap .i64 (x.1.2.1.1 + ((x.2.2.1).getD (Int.toNat x.1.2.2.2.1) (K.zero (.int .i64)))))) (K.zero (.int .i64))) ≥ (24 : Int))) then
      (some (.inr (.inr ((false, ()), (), ()))))
    else
    some (.inl ((x.1.1, (x.1.2.1, (x.1.2.2.1, ((IntKind.wrap .i64 (x.1.2.2.2.1 + (1 : Int))), ())))), (), (x.2.2.1, ())))
    else none
    else none)
  else
  some (.inr (.inl ((x.1.1, (x.1.2.1, (x.1.2.2.1, ()))), (), ())))
noncomputable def l_spec_l10Ready_l9 : sp_spec_l10Ready_l9.T → Option (XT xs_spec_l10Ready_l9) := lim s_spec_l10Ready_l9
theorem es_spec_l10Ready_l9 : ∀ x, evCode ty (gamOf g_spec_l10Ready) j_spec_l10Ready (lamOf []) (loopAt b_spec_l10Ready 9) (sp_spec_l10Ready_l9.hd x) (rdK sp_spec_l10Ready_l9 xs_spec_l10Ready_l9) = s_spec_l10Ready_l9 x := fun x => by kernel_rfl
theorem ls_spec_l10Ready_l9 : LSumOk P (loopAt b_spec_l10Ready 9) (loopL sp_spec_l10Ready_l9 xs_spec_l10Ready_l9 l_spec_l10Ready_l9) := loop_ok tyOk mixed gok_spec_l10Ready (by kernel_rfl) (by kernel_rfl) (lam_ok (tab := []) (by kernel_rfl) lm0) es_spec_l10Ready_l9 lim_itr
noncomputable def F_spec_l10Ready (x1 : K.T (.sl (.int .i64))) (x2 : K.T k14) : Option sq_spec_l10Ready.T :=
  (bif (decide (x2.1 ≥ ((x1).length : Int))) then
      (some (true, ()))
    else
    bif ib x2.1 (x1).length then
    (F_spec_l1In ((x1).getD (Int.toNat x2.1) (K.zero (.int .i64))) (1 : Int) (13 : Int)).bind fun y1 =>
    some ((!y1.1.1), ())
    else none).bind fun y2 =>
  bif y2.1 then
    (some ((false, ()), (), ()))
  else
  bif ib x2.1 (x1).length then
  (F_spec_l10Args ((x1).getD (Int.toNat x2.1) (K.zero (.int .i64)))).bind fun y3 =>
  bif (decide ((IntKind.wrap .i64 (x2.1 + y3.1.1)) ≥ ((x1).length : Int))) then
    (some ((false, ()), (), ()))
  else
  (F_spec_l10Places ((x1).getD (Int.toNat x2.1) (K.zero (.int .i64)))).bind fun y4 =>
  (l_spec_l10Ready_l9 ((x1, (x2, (y4.1.1, ((0 : Int), ())))), (), (y4.2.2.1, ()))).bind fun y5 =>
  (match y5 with
  | .inl y6 => (bif (decide (y6.1.2.2.1 < (0 : Int))) then
        (some (true, ()))
      else
      bif ib (IntKind.wrap .i64 (y6.1.2.1.1 + y6.1.2.2.1)) (y6.1.1).length then
      some ((decide (((y6.1.1).getD (Int.toNat (IntKind.wrap .i64 (y6.1.2.1.1 + y6.1.2.2.1))) (K.zero (.int .i64))) < ((y6.1.2.1.2.2.1).length : Int))), ())
      else none).bind fun y8 =>
    some ((y8.1, ()), (), ())
  | .inr z7 => some ((z7.1.1, ()), (), ()))
  else none
noncomputable abbrev U_spec_l10Ready : sp_spec_l10Ready.T → Option sq_spec_l10Ready.T := fun x => F_spec_l10Ready x.1.1 x.1.2.1
theorem e_spec_l10Ready : ∀ x, evCode ty (gamOf g_spec_l10Ready) j_spec_l10Ready (lamOf [(9, loopL sp_spec_l10Ready_l9 xs_spec_l10Ready_l9 l_spec_l10Ready_l9)]) b_spec_l10Ready (sp_spec_l10Ready.hd x) (finN ty sq_spec_l10Ready [.tmp 4]) = U_spec_l10Ready x := fun x => by kernel_rfl
theorem c_spec_l10Ready : FnS P 155 sp_spec_l10Ready sq_spec_l10Ready U_spec_l10Ready :=
  fnS_of_ev tyOk mixed gok_spec_l10Ready (fn := Tryz.f155) (by kernel_rfl) (c := b_spec_l10Ready) (by kernel_rfl) (by kernel_rfl) (by kernel_rfl) (lam_ok (tab := [(9, loopL sp_spec_l10Ready_l9 xs_spec_l10Ready_l9 l_spec_l10Ready_l9)]) (by kernel_rfl) (lm1 @ls_spec_l10Ready_l9 lm0)) e_spec_l10Ready

/-! spec.l10Row -/
abbrev sp_spec_l10Row : Sp := ⟨31, [(0, .rp k14), (1, .val false (.int .i64)), (2, .val false (.int .i64)), (3, .val false (.int .i64))], [], []⟩
abbrev sq_spec_l10Row : Sp := ⟨2, [(0, .val false (.int .i64)), (1, .val false (.int .i64))], [], []⟩
noncomputable def g_spec_l10Row : List (FuncId × SumX) := [(80, cN sp_spec_l1In sq_spec_l1In U_spec_l1In), (88, cN sp_spec_Complement sq_spec_Complement U_spec_Complement), (192, cN sp_spec_SignedOf sq_spec_SignedOf U_spec_SignedOf)]
def j_spec_l10Row : Nat → Option (List (Nat × SS)) := jOf []
theorem gok_spec_l10Row : GOk P (gamOf g_spec_l10Row) := gam_ok (tab := g_spec_l10Row) (gm1 (cN_ok c_spec_l1In rfl) (gm1 (cN_ok c_spec_Complement rfl) (gm1 (cN_ok c_spec_SignedOf rfl) gm0)))
noncomputable abbrev b_spec_l10Row : Code := bodyOf Tryz.f178
noncomputable def F_spec_l10Row (x1 : K.T k14) (x2 : K.T (.int .i64)) (x3 : K.T (.int .i64)) (x4 : K.T (.int .i64)) : Option sq_spec_l10Row.T :=
  (F_spec_Complement x4).bind fun y1 =>
  (F_spec_SignedOf y1.1.1).bind fun y2 =>
  (F_spec_l1In y2.1.1 (0 : Int) (IntKind.wrap .i64 (x3 - (1 : Int)))).bind fun y3 =>
  bif (!y3.1.1) then
    (some (((0 : Int), ((3 : Int), ())), (), ()))
  else
  bif (decide ((IntKind.wrap .i64 (x2 + y2.1.1)) ≥ ((x1.2.2.1).length : Int))) then
    (some (((0 : Int), ((1 : Int), ())), (), ()))
  else
  some (((IntKind.wrap .i64 (x2 + y2.1.1)), ((0 : Int), ())), (), ())
noncomputable abbrev U_spec_l10Row : sp_spec_l10Row.T → Option sq_spec_l10Row.T := fun x => F_spec_l10Row x.1.1 x.1.2.1 x.1.2.2.1 x.1.2.2.2.1
theorem e_spec_l10Row : ∀ x, evCode ty (gamOf g_spec_l10Row) j_spec_l10Row (lamOf []) b_spec_l10Row (sp_spec_l10Row.hd x) (finN ty sq_spec_l10Row [.tmp 8, .tmp 9]) = U_spec_l10Row x := fun x => by kernel_rfl
theorem c_spec_l10Row : FnS P 178 sp_spec_l10Row sq_spec_l10Row U_spec_l10Row :=
  fnS_of_ev tyOk mixed gok_spec_l10Row (fn := Tryz.f178) (by kernel_rfl) (c := b_spec_l10Row) (by kernel_rfl) (by kernel_rfl) (by kernel_rfl) (lam_ok (tab := []) (by kernel_rfl) lm0) e_spec_l10Row

/-! spec.BinaryInv -/
abbrev sp_spec_BinaryInv : Sp := ⟨25, [(0, .val false (.int .i64)), (1, .val false (.int .i64)), (2, .val false (.int .i64))], [], []⟩
abbrev sq_spec_BinaryInv : Sp := ⟨1, [(0, .val true k1)], [], []⟩
noncomputable def g_spec_BinaryInv : List (FuncId × SumX) := [(88, cN sp_spec_Complement sq_spec_Complement U_spec_Complement), (172, cN sp_spec_l2Binary sq_spec_l2Binary U_spec_l2Binary)]
def j_spec_BinaryInv : Nat → Option (List (Nat × SS)) := jOf []
theorem gok_spec_BinaryInv : GOk P (gamOf g_spec_BinaryInv) := gam_ok (tab := g_spec_BinaryInv) (gm1 (cN_ok c_spec_Complement rfl) (gm1 (cN_ok c_spec_l2Binary rfl) gm0))
noncomputable abbrev b_spec_BinaryInv : Code := bodyOf Tryz.f193
noncomputable def F_spec_BinaryInv (x1 : K.T (.int .i64)) (x2 : K.T (.int .i64)) (x3 : K.T (.int .i64)) : Option sq_spec_BinaryInv.T :=
  (F_spec_Complement x2).bind fun y1 =>
  (F_spec_Complement x3).bind fun y2 =>
  (F_spec_l2Binary x1 y1.1.1 y2.1.1).bind fun y3 =>
  bif (y3.1.2.1 != (0 : Int)) then
    (some (((y3.1.2.1, (0 : Int)), ()), (), ()))
  else
  (F_spec_Complement y3.1.1).bind fun y4 =>
  some ((((0 : Int), y4.1.1), ()), (), ())
noncomputable abbrev U_spec_BinaryInv : sp_spec_BinaryInv.T → Option sq_spec_BinaryInv.T := fun x => F_spec_BinaryInv x.1.1 x.1.2.1 x.1.2.2.1
theorem e_spec_BinaryInv : ∀ x, evCode ty (gamOf g_spec_BinaryInv) j_spec_BinaryInv (lamOf []) b_spec_BinaryInv (sp_spec_BinaryInv.hd x) (finN ty sq_spec_BinaryInv [.cell 6 199]) = U_spec_BinaryInv x := fun x => by kernel_rfl
theorem c_spec_BinaryInv : FnS P 193 sp_spec_BinaryInv sq_spec_BinaryInv U_spec_BinaryInv :=
  fnS_of_ev tyOk mixed gok_spec_BinaryInv (fn := Tryz.f193) (by kernel_rfl) (c := b_spec_BinaryInv) (by kernel_rfl) (by kernel_rfl) (by kernel_rfl) (lam_ok (tab := []) (by kernel_rfl) lm0) e_spec_BinaryInv

/-! spec.l10Two -/
abbrev sp_spec_l10Two : Sp := ⟨46, [(0, .fix (.ptr 60000 0)), (1, .val false (.sl (.int .i64)))], [(60000, [.val (.int .i64), .fix (.own 63000), .fix (.own 63001), .val (.int .i64), .val (.int .i64), .val (.int .i64), .val .bool])], [(63000, (.int .i64), true), (63001, (.int .i64), true)]⟩
abbrev sq_spec_l10Two : Sp := ⟨1, [(0, .val false (.int .i64))], [(60000, [.val (.int .i64), .fix (.own 59000), .fix (.own 59001), .val (.int .i64), .val (.int .i64), .val (.int .i64), .val .bool])], [(59000, (.int .i64), true), (59001, (.int .i64), true)]⟩
noncomputable def g_spec_l10Two : List (FuncId × SumX) := [(193, cN sp_spec_BinaryInv sq_spec_BinaryInv U_spec_BinaryInv)]
def j_spec_l10Two : Nat → Option (List (Nat × SS)) := jOf []
theorem gok_spec_l10Two : GOk P (gamOf g_spec_l10Two) := gam_ok (tab := g_spec_l10Two) (gm1 (cN_ok c_spec_BinaryInv rfl) gm0)
noncomputable abbrev b_spec_l10Two : Code := bodyOf Tryz.f179
noncomputable def F_spec_l10Two (x1 : K.T (.sl (.int .i64))) (x2 : K.T (.int .i64)) (x3 : K.T (.int .i64)) (x4 : K.T (.int .i64)) (x5 : K.T (.int .i64)) (x6 : K.T .bool) (x7 : List (K.T (.int .i64))) (x8 : List (K.T (.int .i64))) : Option sq_spec_l10Two.T :=
  bif ib (3 : Int) (x1).length then
  bif ib (1 : Int) (x1).length then
  bif ib ((x1).getD (Int.toNat (1 : Int)) (K.zero (.int .i64))) (x7).length then
  bif ib (2 : Int) (x1).length then
  bif ib ((x1).getD (Int.toNat (2 : Int)) (K.zero (.int .i64))) (x7).length then
  (F_spec_BinaryInv ((x1).getD (Int.toNat (3 : Int)) (K.zero (.int .i64))) ((x7).getD (Int.toNat ((x1).getD (Int.toNat (1 : Int)) (K.zero (.int .i64)))) (K.zero (.int .i64))) ((x7).getD (Int.toNat ((x1).getD (Int.toNat (2 : Int)) (K.zero (.int .i64)))) (K.zero (.int .i64)))).bind fun y1 =>
  bif (y1.1.1.1 == (3 : Int)) then
    (some (((1 : Int), ()), ((x2, (x3, (x4, (x5, (x6, ()))))), ()), (x7, (x8, ()))))
  else
  bif (y1.1.1.1 == (0 : Int)) then
    (bif ib (0 : Int) (x1).length then
    bif ib ((x1).getD (Int.toNat (0 : Int)) (K.zero (.int .i64))) (x7).length then
    some ((y1.1.1.1, ()), ((x2, (x3, (x4, (x5, (x6, ()))))), ()), ((x7).set (Int.toNat ((x1).getD (Int.toNat (0 : Int)) (K.zero (.int .i64)))) y1.1.1.2, (x8, ())))
    else none
    else none)
  else
  some ((y1.1.1.1, ()), ((x2, (x3, (x4, (x5, (x6, ()))))), ()), (x7, (x8, ())))
  else none
  else none
  else none
  else none
  else none
noncomputable abbrev U_spec_l10Two : sp_spec_l10Two.T → Option sq_spec_l10Two.T := fun x => F_spec_l10Two x.1.1 x.2.1.1.1 x.2.1.1.2.1 x.2.1.1.2.2.1 x.2.1.1.2.2.2.1 x.2.1.1.2.2.2.2.1 x.2.2.1 x.2.2.2.1
theorem e_spec_l10Two : ∀ x, evCode ty (gamOf g_spec_l10Two) j_spec_l10Two (lamOf []) b_spec_l10Two (sp_spec_l10Two.hd x) (finN ty sq_spec_l10Two [.tmp 4]) = U_spec_l10Two x := fun x => by kernel_rfl
theorem c_spec_l10Two : FnS P 179 sp_spec_l10Two sq_spec_l10Two U_spec_l10Two :=
  fnS_of_ev tyOk mixed gok_spec_l10Two (fn := Tryz.f179) (by kernel_rfl) (c := b_spec_l10Two) (by kernel_rfl) (by kernel_rfl) (by kernel_rfl) (lam_ok (tab := []) (by kernel_rfl) lm0) e_spec_l10Two

/-! spec.l10Do -/
abbrev sp_spec_l10Do : Sp := ⟨289, [(0, .val false (.sl (.int .i64))), (1, .fix (.ptr 60000 0))], [(60000, [.val (.int .i64), .fix (.own 63000), .fix (.own 63001), .val (.int .i64), .val (.int .i64), .val (.int .i64), .val .bool])], [(63000, (.int .i64), true), (63001, (.int .i64), true)]⟩
abbrev sq_spec_l10Do : Sp := ⟨1, [(0, .val false (.int .i64))], [(60000, [.val (.int .i64), .fix (.own 59000), .fix (.own 59001), .val (.int .i64), .val (.int .i64), .val (.int .i64), .val .bool])], [(59000, (.int .i64), true), (59001, (.int .i64), true)]⟩
noncomputable def g_spec_l10Do : List (FuncId × SumX) := [(88, cN sp_spec_Complement sq_spec_Complement U_spec_Complement), (173, cN sp_spec_NegOf sq_spec_NegOf U_spec_NegOf), (174, cN sp_spec_NotOf sq_spec_NotOf U_spec_NotOf), (175, cN sp_spec_SignOf sq_spec_SignOf U_spec_SignOf), (176, cN sp_spec_l10Args sq_spec_l10Args U_spec_l10Args), (178, cN sp_spec_l10Row sq_spec_l10Row U_spec_l10Row), (179, xN sp_spec_l10Two sq_spec_l10Two U_spec_l10Two)]
def j_spec_l10Do : Nat → Option (List (Nat × SS)) := jOf []
theorem gok_spec_l10Do : GOk P (gamOf g_spec_l10Do) := gam_ok (tab := g_spec_l10Do) (gm1 (cN_ok c_spec_Complement rfl) (gm1 (cN_ok c_spec_NegOf rfl) (gm1 (cN_ok c_spec_NotOf rfl) (gm1 (cN_ok c_spec_SignOf rfl) (gm1 (cN_ok c_spec_l10Args rfl) (gm1 (cN_ok c_spec_l10Row rfl) (gm1 (xN_ok c_spec_l10Two rfl) gm0)))))))
noncomputable abbrev b_spec_l10Do : Code := bodyOf Tryz.f156
noncomputable def F_spec_l10Do (x1 : K.T (.sl (.int .i64))) (x2 : K.T (.int .i64)) (x3 : K.T (.int .i64)) (x4 : K.T (.int .i64)) (x5 : K.T (.int .i64)) (x6 : K.T .bool) (x7 : List (K.T (.int .i64))) (x8 : List (K.T (.int .i64))) : Option sq_spec_l10Do.T :=
  bif ib x2 (x1).length then
  (F_spec_l10Args ((x1).getD (Int.toNat x2) (K.zero (.int .i64)))).bind fun y1 =>
  bif decide (0 ≤ (IntKind.wrap .i64 (x2 + (1 : Int))) ∧ (IntKind.wrap .i64 (x2 + (1 : Int))) ≤ (IntKind.wrap .i64 ((IntKind.wrap .i64 (x2 + (1 : Int))) + y1.1.1)) ∧ (IntKind.wrap .i64 ((IntKind.wrap .i64 (x2 + (1 : Int))) + y1.1.1)) ≤ ((x1).length : Int)) then
  (F_spec_l10Args ((x1).getD (Int.toNat x2) (K.zero (.int .i64)))).bind fun y2 =>
  bif (((x1).getD (Int.toNat x2) (K.zero (.int .i64))) == (1 : Int)) then
    (bif ib (0 : Int) (((x1).take (Int.toNat (IntKind.wrap .i64 ((IntKind.wrap .i64 (x2 + (1 : Int))) + y1.1.1)))).drop (Int.toNat (IntKind.wrap .i64 (x2 + (1 : Int))))).length then
    bif ib (1 : Int) (((x1).take (Int.toNat (IntKind.wrap .i64 ((IntKind.wrap .i64 (x2 + (1 : Int))) + y1.1.1)))).drop (Int.toNat (IntKind.wrap .i64 (x2 + (1 : Int))))).length then
    bif ib ((((x1).take (Int.toNat (IntKind.wrap .i64 ((IntKind.wrap .i64 (x2 + (1 : Int))) + y1.1.1)))).drop (Int.toNat (IntKind.wrap .i64 (x2 + (1 : Int))))).getD (Int.toNat (0 : Int)) (K.zero (.int .i64))) (x7).length then
    some (((0 : Int), ()), (((IntKind.wrap .i64 ((IntKind.wrap .i64 (x2 + (1 : Int))) + y2.1.1)), (x3, (x4, (x5, (x6, ()))))), ()), ((x7).set (Int.toNat ((((x1).take (Int.toNat (IntKind.wrap .i64 ((IntKind.wrap .i64 (x2 + (1 : Int))) + y1.1.1)))).drop (Int.toNat (IntKind.wrap .i64 (x2 + (1 : Int))))).getD (Int.toNat (0 : Int)) (K.zero (.int .i64)))) ((((x1).take (Int.toNat (IntKind.wrap .i64 ((IntKind.wrap .i64 (x2 + (1 : Int))) + y1.1.1)))).drop (Int.toNat (IntKind.wrap .i64 (x2 + (1 : Int))))).getD (Int.toNat (1 : Int)) (K.zero (.int .i64))), (x8, ())))
    else none
    else none
    else none)
  else
  bif (((x1).getD (Int.toNat x2) (K.zero (.int .i64))) == (2 : Int)) then
    (bif ib (0 : Int) (((x1).take (Int.toNat (IntKind.wrap .i64 ((IntKind.wrap .i64 (x2 + (1 : Int))) + y1.1.1)))).drop (Int.toNat (IntKind.wrap .i64 (x2 + (1 : Int))))).length then
    bif ib (1 : Int) (((x1).take (Int.toNat (IntKind.wrap .i64 ((IntKind.wrap .i64 (x2 + (1 : Int))) + y1.1.1)))).drop (Int.toNat (IntKind.wrap .i64 (x2 + (1 : Int))))).length then
    bif ib ((((x1).take (Int.toNat (IntKind.wrap .i64 ((IntKind.wrap .i64 (x2 + (1 : Int))) + y1.1.1)))).drop (Int.toNat (IntKind.wrap .i64 (x2 + (1 : Int))))).getD (Int.toNat (1 : Int)) (K.zero (.int .i64))) (x8).length then
    bif ib ((((x1).take (Int.toNat (IntKind.wrap .i64 ((IntKind.wrap .i64 (x2 + (1 : Int))) + y1.1.1)))).drop (Int.toNat (IntKind.wrap .i64 (x2 + (1 : Int))))).getD (Int.toNat (0 : Int)) (K.zero (.int .i64))) (x7).length then
    some (((0 : Int), ()), (((IntKind.wrap .i64 ((IntKind.wrap .i64 (x2 + (1 : Int))) + y2.1.1)), (x3, (x4, (x5, (x6, ()))))), ()), ((x7).set (Int.toNat ((((x1).take (Int.toNat (IntKind.wrap .i64 ((IntKind.wrap .i64 (x2 + (1 : Int))) + y1.1.1)))).drop (Int.toNat (IntKind.wrap .i64 (x2 + (1 : Int))))).getD (Int.toNat (0 : Int)) (K.zero (.int .i64)))) ((x8).getD (Int.toNat ((((x1).take (Int.toNat (IntKind.wrap .i64 ((IntKind.wrap .i64 (x2 + (1 : Int))) + y1.1.1)))).drop (Int.toNat (IntKind.wrap .i64 (x2 + (1 : Int))))).getD (Int.toNat (1 : Int)) (K.zero (.int .i64)))) (K.zero (.int .i64))), (x8, ())))
    else none
    else none
    else none
    else none)
  else
  bif (((x1).getD (Int.toNat x2) (K.zero (.int .i64))) == (3 : Int)) then
    (bif ib (0 : Int) (((x1).take (Int.toNat (IntKind.wrap .i64 ((IntKind.wrap .i64 (x2 + (1 : Int))) + y1.1.1)))).drop (Int.toNat (IntKind.wrap .i64 (x2 + (1 : Int))))).length then
    bif ib (1 : Int) (((x1).take (Int.toNat (IntKind.wrap .i64 ((IntKind.wrap .i64 (x2 + (1 : Int))) + y1.1.1)))).drop (Int.toNat (IntKind.wrap .i64 (x2 + (1 : Int))))).length then
    bif ib ((((x1).take (Int.toNat (IntKind.wrap .i64 ((IntKind.wrap .i64 (x2 + (1 : Int))) + y1.1.1)))).drop (Int.toNat (IntKind.wrap .i64 (x2 + (1 : Int))))).getD (Int.toNat (1 : Int)) (K.zero (.int .i64))) (x7).length then
    bif ib ((((x1).take (Int.toNat (IntKind.wrap .i64 ((IntKind.wrap .i64 (x2 + (1 : Int))) + y1.1.1)))).drop (Int.toNat (IntKind.wrap .i64 (x2 + (1 : Int))))).getD (Int.toNat (0 : Int)) (K.zero (.int .i64))) (x8).length then
    some (((0 : Int), ()), (((IntKind.wrap .i64 ((IntKind.wrap .i64 (x2 + (1 : Int))) + y2.1.1)), (x3, (x4, (x5, (x6, ()))))), ()), (x7, ((x8).set (Int.toNat ((((x1).take (Int.toNat (IntKind.wrap .i64 ((IntKind.wrap .i64 (x2 + (1 : Int))) + y1.1.1)))).drop (Int.toNat (IntKind.wrap .i64 (x2 + (1 : Int))))).getD (Int.toNat (0 : Int)) (K.zero (.int .i64)))) ((x7).getD (Int.toNat ((((x1).take (Int.toNat (IntKind.wrap .i64 ((IntKind.wrap .i64 (x2 + (1 : Int))) + y1.1.1)))).drop (Int.toNat (IntKind.wrap .i64 (x2 + (1 : Int))))).getD (Int.toNat (1 : Int)) (K.zero (.int .i64)))) (K.zero (.int .i64))), ())))
    else none
    else none
    else none
    else none)
  else
  bif (((x1).getD (Int.toNat x2) (K.zero (.int .i64))) == (4 : Int)) then
    (bif ib (2 : Int) (((x1).take (Int.toNat (IntKind.wrap .i64 ((IntKind.wrap .i64 (x2 + (1 : Int))) + y1.1.1)))).drop (Int.toNat (IntKind.wrap .i64 (x2 + (1 : Int))))).length then
    bif ib (3 : Int) (((x1).take (Int.toNat (IntKind.wrap .i64 ((IntKind.wrap .i64 (x2 + (1 : Int))) + y1.1.1)))).drop (Int.toNat (IntKind.wrap .i64 (x2 + (1 : Int))))).length then
    bif ib (1 : Int) (((x1).take (Int.toNat (IntKind.wrap .i64 ((IntKind.wrap .i64 (x2 + (1 : Int))) + y1.1.1)))).drop (Int.toNat (IntKind.wrap .i64 (x2 + (1 : Int))))).length then
    bif ib ((((x1).take (Int.toNat (IntKind.wrap .i64 ((IntKind.wrap .i64 (x2 + (1 : Int))) + y1.1.1)))).drop (Int.toNat (IntKind.wrap .i64 (x2 + (1 : Int))))).getD (Int.toNat (1 : Int)) (K.zero (.int .i64))) (x7).length then
    (F_spec_l10Row (x2, (x7, (x8, (x3, (x4, (x5, x6)))))) ((((x1).take (Int.toNat (IntKind.wrap .i64 ((IntKind.wrap .i64 (x2 + (1 : Int))) + y1.1.1)))).drop (Int.toNat (IntKind.wrap .i64 (x2 + (1 : Int))))).getD (Int.toNat (2 : Int)) (K.zero (.int .i64))) ((((x1).take (Int.toNat (IntKind.wrap .i64 ((IntKind.wrap .i64 (x2 + (1 : Int))) + y1.1.1)))).drop (Int.toNat (IntKind.wrap .i64 (x2 + (1 : Int))))).getD (Int.toNat (3 : Int)) (K.zero (.int .i64))) ((x7).getD (Int.toNat ((((x1).take (Int.toNat (IntKind.wrap .i64 ((IntKind.wrap .i64 (x2 + (1 : Int))) + y1.1.1)))).drop (Int.toNat (IntKind.wrap .i64 (x2 + (1 : Int))))).getD (Int.toNat (1 : Int)) (K.zero (.int .i64)))) (K.zero (.int .i64)))).bind fun y3 =>
    bif (y3.1.2.1 != (0 : Int)) then
      (some ((y3.1.2.1, ()), ((x2, (x3, (x4, (x5, (x6, ()))))), ()), (x7, (x8, ()))))
    else
    bif ib (0 : Int) (((x1).take (Int.toNat (IntKind.wrap .i64 ((IntKind.wrap .i64 (x2 + (1 : Int))) + y1.1.1)))).drop (Int.toNat (IntKind.wrap .i64 (x2 + (1 : Int))))).length then
    bif ib y3.1.1 (x8).length then
    bif ib ((((x1).take (Int.toNat (IntKind.wrap .i64 ((IntKind.wrap .i64 (x2 + (1 : Int))) + y1.1.1)))).drop (Int.toNat (IntKind.wrap .i64 (x2 + (1 : Int))))).getD (Int.toNat (0 : Int)) (K.zero (.int .i64))) (x7).length then
    some (((0 : Int), ()), (((IntKind.wrap .i64 ((IntKind.wrap .i64 (x2 + (1 : Int))) + y2.1.1)), (x3, (x4, (x5, (x6, ()))))), ()), ((x7).set (Int.toNat ((((x1).take (Int.toNat (IntKind.wrap .i64 ((IntKind.wrap .i64 (x2 + (1 : Int))) + y1.1.1)))).drop (Int.toNat (IntKind.wrap .i64 (x2 + (1 : Int))))).getD (Int.toNat (0 : Int)) (K.zero (.int .i64)))) ((x8).getD (Int.toNat y3.1.1) (K.zero (.int .i64))), (x8, ())))
    else none
    else none
    else none
    else none
    else none
    else none
    else none)
  else
  bif (((x1).getD (Int.toNat x2) (K.zero (.int .i64))) == (5 : Int)) then
    (bif ib (2 : Int) (((x1).take (Int.toNat (IntKind.wrap .i64 ((IntKind.wrap .i64 (x2 + (1 : Int))) + y1.1.1)))).drop (Int.toNat (IntKind.wrap .i64 (x2 + (1 : Int))))).length then
    bif ib (3 : Int) (((x1).take (Int.toNat (IntKind.wrap .i64 ((IntKind.wrap .i64 (x2 + (1 : Int))) + y1.1.1)))).drop (Int.toNat (IntKind.wrap .i64 (x2 + (1 : Int))))).length then
    bif ib (0 : Int) (((x1).take (Int.toNat (IntKind.wrap .i64 ((IntKind.wrap .i64 (x2 + (1 : Int))) + y1.1.1)))).drop (Int.toNat (IntKind.wrap .i64 (x2 + (1 : Int))))).length then
    bif ib ((((x1).take (Int.toNat (IntKind.wrap .i64 ((IntKind.wrap .i64 (x2 + (1 : Int))) + y1.1.1)))).drop (Int.toNat (IntKind.wrap .i64 (x2 + (1 : Int))))).getD (Int.toNat (0 : Int)) (K.zero (.int .i64))) (x7).length then
    (F_spec_l10Row (x2, (x7, (x8, (x3, (x4, (x5, x6)))))) ((((x1).take (Int.toNat (IntKind.wrap .i64 ((IntKind.wrap .i64 (x2 + (1 : Int))) + y1.1.1)))).drop (Int.toNat (IntKind.wrap .i64 (x2 + (1 : Int))))).getD (Int.toNat (2 : Int)) (K.zero (.int .i64))) ((((x1).take (Int.toNat (IntKind.wrap .i64 ((IntKind.wrap .i64 (x2 + (1 : Int))) + y1.1.1)))).drop (Int.toNat (IntKind.wrap .i64 (x2 + (1 : Int))))).getD (Int.toNat (3 : Int)) (K.zero (.int .i64))) ((x7).getD (Int.toNat ((((x1).take (Int.toNat (IntKind.wrap .i64 ((IntKind.wrap .i64 (x2 + (1 : Int))) + y1.1.1)))).drop (Int.toNat (IntKind.wrap .i64 (x2 + (1 : Int))))).getD (Int.toNat (0 : Int)) (K.zero (.int .i64)))) (K.zero (.int .i64)))).bind fun y4 =>
    bif (y4.1.2.1 != (0 : Int)) then
      (some ((y4.1.2.1, ()), ((x2, (x3, (x4, (x5, (x6, ()))))), ()), (x7, (x8, ()))))
    else
    bif ib (1 : Int) (((x1).take (Int.toNat (IntKind.wrap .i64 ((IntKind.wrap .i64 (x2 + (1 : Int))) + y1.1.1)))).drop (Int.toNat (IntKind.wrap .i64 (x2 + (1 : Int))))).length then
    bif ib ((((x1).take (Int.toNat (IntKind.wrap .i64 ((IntKind.wrap .i64 (x2 + (1 : Int))) + y1.1.1)))).drop (Int.toNat (IntKind.wrap .i64 (x2 + (1 : Int))))).getD (Int.toNat (1 : Int)) (K.zero (.int .i64))) (x7).length then
    bif ib y4.1.1 (x8).length then
    some (((0 : Int), ()), (((IntKind.wrap .i64 ((IntKind.wrap .i64 (x2 + (1 : Int))) + y2.1.1)), (x3, (x4, (x5, (x6, ()))))), ()), (x7, ((x8).set (Int.toNat y4.1.1) ((x7).getD (Int.toNat ((((x1).take (Int.toNat (IntKind.wrap .i64 ((IntKind.wrap .i64 (x2 + (1 : Int))) + y1.1.1)))).drop (Int.toNat (IntKind.wrap .i64 (x2 + (1 : Int))))).getD (Int.toNat (1 : Int)) (K.zero (.int .i64)))) (K.zero (.int .i64))), ())))
    else none
    else none
    else none
    else none
    else none
    else none
    else none)
  else
  bif (((x1).getD (Int.toNat x2) (K.zero (.int .i64))) == (6 : Int)) then
    ((F_spec_l10Two (((x1).take (Int.toNat (IntKind.wrap .i64 ((IntKind.wrap .i64 (x2 + (1 : Int))) + y1.1.1)))).drop (Int.toNat (IntKind.wrap .i64 (x2 + (1 : Int))))) x2 x3 x4 x5 x6 x7 x8).bind fun y5 =>
    bif (y5.1.1 != (0 : Int)) then
      (some ((y5.1.1, ()), ((y5.2.1.1.1, (y5.2.1.1.2.1, (y5.2.1.1.2.2.1, (y5.2.1.1.2.2.2.1, (y5.2.1.1.2.2.2.2.1, ()))))), ()), (y5.2.2.1, (y5.2.2.2.1, ()))))
    else
    some (((0 : Int), ()), (((IntKind.wrap .i64 ((IntKind.wrap .i64 (x2 + (1 : Int))) + y2.1.1)), (y5.2.1.1.2.1, (y5.2.1.1.2.2.1, (y5.2.1.1.2.2.2.1, (y5.2.1.1.2.2.2.2.1, ()))))), ()), (y5.2.2.1, (y5.2.2.2.1, ()))))
  else
  bif (((x1).getD (Int.toNat x2) (K.zero (.int .i64))) == (7 : Int)) then
    (bif ib (0 : Int) (((x1).take (Int.toNat (IntKind.wrap .i64 ((IntKind.wrap .i64 (x2 + (1 : Int))) + y1.1.1)))).drop (Int.toNat (IntKind.wrap .i64 (x2 + (1 : Int))))).length then
    bif ib (1 : Int) (((x1).take (Int.toNat (IntKind.wrap .i64 ((IntKind.wrap .i64 (x2 + (1 : Int))) + y1.1.1)))).drop (Int.toNat (IntKind.wrap .i64 (x2 + (1 : Int))))).length then
    bif ib ((((x1).take (Int.toNat (IntKind.wrap .i64 ((IntKind.wrap .i64 (x2 + (1 : Int))) + y1.1.1)))).drop (Int.toNat (IntKind.wrap .i64 (x2 + (1 : Int))))).getD (Int.toNat (1 : Int)) (K.zero (.int .i64))) (x7).length then
    (F_spec_Complement ((x7).getD (Int.toNat ((((x1).take (Int.toNat (IntKind.wrap .i64 ((IntKind.wrap .i64 (x2 + (1 : Int))) + y1.1.1)))).drop (Int.toNat (IntKind.wrap .i64 (x2 + (1 : Int))))).getD (Int.toNat (1 : Int)) (K.zero (.int .i64)))) (K.zero (.int .i64)))).bind fun y6 =>
    (F_spec_NegOf y6.1.1).bind fun y7 =>
    (F_spec_Complement y7.1.1).bind fun y8 =>
    bif ib ((((x1).take (Int.toNat (IntKind.wrap .i64 ((IntKind.wrap .i64 (x2 + (1 : Int))) + y1.1.1)))).drop (Int.toNat (IntKind.wrap .i64 (x2 + (1 : Int))))).getD (Int.toNat (0 : Int)) (K.zero (.int .i64))) (x7).length then
    some (((0 : Int), ()), (((IntKind.wrap .i64 ((IntKind.wrap .i64 (x2 + (1 : Int))) + y2.1.1)), (x3, (x4, (x5, (x6, ()))))), ()), ((x7).set (Int.toNat ((((x1).take (Int.toNat (IntKind.wrap .i64 ((IntKind.wrap .i64 (x2 + (1 : Int))) + y1.1.1)))).drop (Int.toNat (IntKind.wrap .i64 (x2 + (1 : Int))))).getD (Int.toNat (0 : Int)) (K.zero (.int .i64)))) y8.1.1, (x8, ())))
    else none
    else none
    else none
    else none)
  else
  bif (((x1).getD (Int.toNat x2) (K.zero (.int .i64))) == (8 : Int)) then
    (bif ib (0 : Int) (((x1).take (Int.toNat (IntKind.wrap .i64 ((IntKind.wrap .i64 (x2 + (1 : Int))) + y1.1.1)))).drop (Int.toNat (IntKind.wrap .i64 (x2 + (1 : Int))))).length then
    bif ib (1 : Int) (((x1).take (Int.toNat (IntKind.wrap .i64 ((IntKind.wrap .i64 (x2 + (1 : Int))) + y1.1.1)))).drop (Int.toNat (IntKind.wrap .i64 (x2 + (1 : Int))))).length then
    bif ib ((((x1).take (Int.toNat (IntKind.wrap .i64 ((IntKind.wrap .i64 (x2 + (1 : Int))) + y1.1.1)))).drop (Int.toNat (IntKind.wrap .i64 (x2 + (1 : Int))))).getD (Int.toNat (1 : Int)) (K.zero (.int .i64))) (x7).length then
    (F_spec_Complement ((x7).getD (Int.toNat ((((x1).take (Int.toNat (IntKind.wrap .i64 ((IntKind.wrap .i64 (x2 + (1 : Int))) + y1.1.1)))).drop (Int.toNat (IntKind.wrap .i64 (x2 + (1 : Int))))).getD (Int.toNat (1 : Int)) (K.zero (.int .i64)))) (K.zero (.int .i64)))).bind fun y9 =>
    (F_spec_NotOf y9.1.1).bind fun y10 =>
    (F_spec_Complement y10.1.1).bind fun y11 =>
    bif ib ((((x1).take (Int.toNat (IntKind.wrap .i64 ((IntKind.wrap .i64 (x2 + (1 : Int))) + y1.1.1)))).drop (Int.toNat (IntKind.wrap .i64 (x2 + (1 : Int))))).getD (Int.toNat (0 : Int)) (K.zero (.int .i64))) (x7).length then
    some (((0 : Int), ()), (((IntKind.wrap .i64 ((IntKind.wrap .i64 (x2 + (1 : Int))) + y2.1.1)), (x3, (x4, (x5, (x6, ()))))), ()), ((x7).set (Int.toNat ((((x1).take (Int.toNat (IntKind.wrap .i64 ((IntKind.wrap .i64 (x2 + (1 : Int))) + y1.1.1)))).drop (Int.toNat (IntKind.wrap .i64 (x2 + (1 : Int))))).getD (Int.toNat (0 : Int)) (K.zero (.int .i64)))) y11.1.1, (x8, ())))
    else none
    else none
    else none
    else none)
  else
  bif (((x1).getD (Int.toNat x2) (K.zero (.int .i64))) == (9 : Int)) then
    (bif ib (0 : Int) (((x1).take (Int.toNat (IntKind.wrap .i64 ((IntKind.wrap .i64 (x2 + (1 : Int))) + y1.1.1)))).drop (Int.toNat (IntKind.wrap .i64 (x2 + (1 : Int))))).length then
    bif ib ((((x1).take (Int.toNat (IntKind.wrap .i64 ((IntKind.wrap .i64 (x2 + (1 : Int))) + y1.1.1)))).drop (Int.toNat (IntKind.wrap .i64 (x2 + (1 : Int))))).getD (Int.toNat (0 : Int)) (K.zero (.int .i64))) (x7).length then
    bif (((x7).getD (Int.toNat ((((x1).take (Int.toNat (IntKind.wrap .i64 ((IntKind.wrap .i64 (x2 + (1 : Int))) + y1.1.1)))).drop (Int.toNat (IntKind.wrap .i64 (x2 + (1 : Int))))).getD (Int.toNat (0 : Int)) (K.zero (.int .i64)))) (K.zero (.int .i64))) != (65535 : Int)) then
      (bif ib (0 : Int) (((x1).take (Int.toNat (IntKind.wrap .i64 ((IntKind.wrap .i64 (x2 + (1 : Int))) + y1.1.1)))).drop (Int.toNat (IntKind.wrap .i64 (x2 + (1 : Int))))).length then
      bif ib ((((x1).take (Int.toNat (IntKind.wrap .i64 ((IntKind.wrap .i64 (x2 + (1 : Int))) + y1.1.1)))).drop (Int.toNat (IntKind.wrap .i64 (x2 + (1 : Int))))).getD (Int.toNat (0 : Int)) (K.zero (.int .i64))) (x7).length then
      some (((0 : Int), ()), (((IntKind.wrap .i64 ((IntKind.wrap .i64 (x2 + (1 : Int))) + y2.1.1)), (x3, (x4, (x5, (x6, ()))))), ()), ((x7).set (Int.toNat ((((x1).take (Int.toNat (IntKind.wrap .i64 ((IntKind.wrap .i64 (x2 + (1 : Int))) + y1.1.1)))).drop (Int.toNat (IntKind.wrap .i64 (x2 + (1 : Int))))).getD (Int.toNat (0 : Int)) (K.zero (.int .i64)))) (65534 : Int), (x8, ())))
      else none
      else none)
    else
    some (((0 : Int), ()), (((IntKind.wrap .i64 ((IntKind.wrap .i64 (x2 + (1 : Int))) + y2.1.1)), (x3, (x4, (x5, (x6, ()))))), ()), (x7, (x8, ())))
    else none
    else none)
  else
  bif (((x1).getD (Int.toNat x2) (K.zero (.int .i64))) == (10 : Int)) then
    (bif ib (0 : Int) (((x1).take (Int.toNat (IntKind.wrap .i64 ((IntKind.wrap .i64 (x2 + (1 : Int))) + y1.1.1)))).drop (Int.toNat (IntKind.wrap .i64 (x2 + (1 : Int))))).length then
    some (((0 : Int), ()), ((((((x1).take (Int.toNat (IntKind.wrap .i64 ((IntKind.wrap .i64 (x2 + (1 : Int))) + y1.1.1)))).drop (Int.toNat (IntKind.wrap .i64 (x2 + (1 : Int))))).getD (Int.toNat (0 : Int)) (K.zero (.int .i64))), (x3, (x4, (x5, (x6, ()))))), ()), (x7, (x8, ())))
    else none)
  else
  bif (((x1).getD (Int.toNat x2) (K.zero (.int .i64))) == (11 : Int)) then
    (bif ib (0 : Int) (((x1).take (Int.toNat (IntKind.wrap .i64 ((IntKind.wrap .i64 (x2 + (1 : Int))) + y1.1.1)))).drop (Int.toNat (IntKind.wrap .i64 (x2 + (1 : Int))))).length then
    bif ib ((((x1).take (Int.toNat (IntKind.wrap .i64 ((IntKind.wrap .i64 (x2 + (1 : Int))) + y1.1.1)))).drop (Int.toNat (IntKind.wrap .i64 (x2 + (1 : Int))))).getD (Int.toNat (0 : Int)) (K.zero (.int .i64))) (x7).length then
    bif (((x7).getD (Int.toNat ((((x1).take (Int.toNat (IntKind.wrap .i64 ((IntKind.wrap .i64 (x2 + (1 : Int))) + y1.1.1)))).drop (Int.toNat (IntKind.wrap .i64 (x2 + (1 : Int))))).getD (Int.toNat (0 : Int)) (K.zero (.int .i64)))) (K.zero (.int .i64))) == (65535 : Int)) then
      (bif ib (1 : Int) (((x1).take (Int.toNat (IntKind.wrap .i64 ((IntKind.wrap .i64 (x2 + (1 : Int))) + y1.1.1)))).drop (Int.toNat (IntKind.wrap .i64 (x2 + (1 : Int))))).length then
      some (((0 : Int), ()), ((((((x1).take (Int.toNat (IntKind.wrap .i64 ((IntKind.wrap .i64 (x2 + (1 : Int))) + y1.1.1)))).drop (Int.toNat (IntKind.wrap .i64 (x2 + (1 : Int))))).getD (Int.toNat (1 : Int)) (K.zero (.int .i64))), (x3, (x4, (x5, (x6, ()))))), ()), (x7, (x8, ())))
      else none)
    else
    some (((0 : Int), ()), (((IntKind.wrap .i64 ((IntKind.wrap .i64 (x2 + (1 : Int))) + y2.1.1)), (x3, (x4, (x5, (x6, ()))))), ()), (x7, (x8, ())))
    else none
    else none)
  else
  bif (((x1).getD (Int.toNat x2) (K.zero (.int .i64))) == (12 : Int)) then
    (bif ib (0 : Int) (((x1).take (Int.toNat (IntKind.wrap .i64 ((IntKind.wrap .i64 (x2 + (1 : Int))) + y1.1.1)))).drop (Int.toNat (IntKind.wrap .i64 (x2 + (1 : Int))))).length then
    (F_spec_SignOf x3 ((((x1).take (Int.toNat (IntKind.wrap .i64 ((IntKind.wrap .i64 (x2 + (1 : Int))) + y1.1.1)))).drop (Int.toNat (IntKind.wrap .i64 (x2 + (1 : Int))))).getD (Int.toNat (0 : Int)) (K.zero (.int .i64)))).bind fun y12 =>
    some (((0 : Int), ()), (((IntKind.wrap .i64 ((IntKind.wrap .i64 (x2 + (1 : Int))) + y2.1.1)), (y12.1.1, (x4, (x5, (x6, ()))))), ()), (x7, (x8, ())))
    else none)
  else
  bif (((x1).getD (Int.toNat x2) (K.zero (.int .i64))) == (13 : Int)) then
    (some (((0 : Int), ()), (((IntKind.wrap .i64 ((IntKind.wrap .i64 (x2 + (1 : Int))) + y2.1.1)), (x3, (x4, (x5, (true, ()))))), ()), (x7, (x8, ()))))
  else
  some (((0 : Int), ()), (((IntKind.wrap .i64 ((IntKind.wrap .i64 (x2 + (1 : Int))) + y2.1.1)), (x3, (x4, (x5, (x6, ()))))), ()), (x7, (x8, ())))
  else none
  else none
noncomputable abbrev U_spec_l10Do : sp_spec_l10Do.T → Option sq_spec_l10Do.T := fun x => F_spec_l10Do x.1.1 x.2.1.1.1 x.2.1.1.2.1 x.2.1.1.2.2.1 x.2.1.1.2.2.2.1 x.2.1.1.2.2.2.2.1 x.2.2.1 x.2.2.2.1
theorem e_spec_l10Do : ∀ x, evCode ty (gamOf g_spec_l10Do) j_spec_l10Do (lamOf []) b_spec_l10Do (sp_spec_l10Do.hd x) (finN ty sq_spec_l10Do [.tmp 4]) = U_spec_l10Do x := fun x => by kernel_rfl
theorem c_spec_l10Do : FnS P 156 sp_spec_l10Do sq_spec_l10Do U_spec_l10Do :=
  fnS_of_ev tyOk mixed gok_spec_l10Do (fn := Tryz.f156) (by kernel_rfl) (c := b_spec_l10Do) (by kernel_rfl) (by kernel_rfl) (by kernel_rfl) (lam_ok (tab := []) (by kernel_rfl) lm0) e_spec_l10Do

/-! spec.l10Step -/
abbrev sp_spec_l10Step_o : Sp := ⟨42, [(0, .val false (.sl (.int .i64))), (1, .mix true [.val (.int .i64), .fix (.own 63000), .fix (.own 63001), .val (.int .i64), .val (.int .i64), .val (.int .i64), .val .bool])], [], [(63000, (.int .i64), true), (63001, (.int .i64), true)]⟩
abbrev sq_spec_l10Step_o : Sp := ⟨1, [(0, .mix true [.val (.int .i64), .fix (.own 59000), .fix (.own 59001), .val (.int .i64), .val (.int .i64), .val (.int .i64), .val .bool])], [], [(59000, (.int .i64), true), (59001, (.int .i64), true)]⟩
noncomputable def g_spec_l10Step_o : List (FuncId × SumX) := [(127, cN sp_spec_l1Min sq_spec_l1Min U_spec_l1Min), (154, fN sp_spec_l10Copy sq_spec_l10Copy U_spec_l10Copy), (155, cN sp_spec_l10Ready sq_spec_l10Ready U_spec_l10Ready), (156, xN sp_spec_l10Do sq_spec_l10Do U_spec_l10Do)]
def j_spec_l10Step_o : Nat → Option (List (Nat × SS)) := jOf [(1, [(15, .val false .bool)])]
theorem gok_spec_l10Step_o : GOk P (gamOf g_spec_l10Step_o) := gam_ok (tab := g_spec_l10Step_o) (gm1 (cN_ok c_spec_l1Min rfl) (gm1 (fN_ok c_spec_l10Copy rfl) (gm1 (cN_ok c_spec_l10Ready rfl) (gm1 (xN_ok c_spec_l10Do rfl) gm0))))
noncomputable abbrev b_spec_l10Step_o : Code := bodyOf Tryz.f133
noncomputable def F_spec_l10Step_o (x1 : K.T (.sl (.int .i64))) (x2 : K.T (.int .i64)) (x3 : K.T (.int .i64)) (x4 : K.T (.int .i64)) (x5 : K.T (.int .i64)) (x6 : K.T .bool) (x7 : List (K.T (.int .i64))) (x8 : List (K.T (.int .i64))) : Option sq_spec_l10Step_o.T :=
  (bif x6 then
      (some (true, ()))
    else
    some ((x5 != (0 : Int)), ())).bind fun y1 =>
  bif y1.1 then
    (some (((x2, (x3, (x4, (x5, (x6, ()))))), ()), (), (x7, (x8, ()))))
  else
  (F_spec_l1Min (1000000 : Int) (IntKind.wrap .i64 (x4 + (1 : Int)))).bind fun y2 =>
  (F_spec_l10Copy (x2, (x7, (x8, (x3, (x4, (x5, x6))))))).bind fun y3 =>
  (F_spec_l10Ready x1 (x2, (x7, (x8, (x3, (x4, (x5, x6))))))).bind fun y4 =>
  bif (!y4.1.1) then
    (some (((y3.1.1.1, (y3.1.1.2.1, (y2.1.1, ((1 : Int), (y3.1.1.2.2.2.2.1, ()))))), ()), (), (y3.2.2.1, (y3.2.2.2.1, ()))))
  else
  (F_spec_l10Copy (x2, (x7, (x8, (x3, (x4, (x5, x6))))))).bind fun y5 =>
  (F_spec_l10Do x1 y5.1.1.1 y5.1.1.2.1 y2.1.1 y5.1.1.2.2.2.1 y5.1.1.2.2.2.2.1 y5.2.2.1 y5.2.2.2.1).bind fun y6 =>
  bif (y6.1.1 != (0 : Int)) then
    (some (((y3.1.1.1, (y3.1.1.2.1, (y2.1.1, (y6.1.1, (y3.1.1.2.2.2.2.1, ()))))), ()), (), (y3.2.2.1, (y3.2.2.2.1, ()))))
  else
  some (((y6.2.1.1.1, (y6.2.1.1.2.1, (y6.2.1.1.2.2.1, (y6.2.1.1.2.2.2.1, (y6.2.1.1.2.2.2.2.1, ()))))), ()), (), (y6.2.2.1, (y6.2.2.2.1, ())))
noncomputable abbrev U_spec_l10Step_o : sp_spec_l10Step_o.T → Option sq_spec_l10Step_o.T := fun x => F_spec_l10Step_o x.1.1 x.1.2.1.1 x.1.2.1.2.1 x.1.2.1.2.2.1 x.1.2.1.2.2.2.1 x.1.2.1.2.2.2.2.1 x.2.2.1 x.2.2.2.1
theorem e_spec_l10Step_o : ∀ x, evCode ty (gamOf g_spec_l10Step_o) j_spec_l10Step_o (lamOf []) b_spec_l10Step_o (sp_spec_l10Step_o.hd x) (finN ty sq_spec_l10Step_o [.cell 4 126]) = U_spec_l10Step_o x := fun x => by kernel_rfl
theorem c_spec_l10Step_o : FnS P 133 sp_spec_l10Step_o sq_spec_l10Step_o U_spec_l10Step_o :=
  fnS_of_ev tyOk mixed gok_spec_l10Step_o (fn := Tryz.f133) (by kernel_rfl) (c := b_spec_l10Step_o) (by kernel_rfl) (by kernel_rfl) (by kernel_rfl) (lam_ok (tab := []) (by kernel_rfl) lm0) e_spec_l10Step_o

/-! spec.l10Run -/
abbrev sp_spec_l10Run_o : Sp := ⟨28, [(0, .val false (.sl (.int .i64))), (1, .val false (.sl (.int .i64))), (2, .val false (.int .i64))], [], []⟩
abbrev sq_spec_l10Run_o : Sp := ⟨1, [(0, .mix true [.val (.int .i64), .fix (.own 59000), .fix (.own 59001), .val (.int .i64), .val (.int .i64), .val (.int .i64), .val .bool])], [], [(59000, (.int .i64), true), (59001, (.int .i64), true)]⟩
noncomputable def g_spec_l10Run_o : List (FuncId × SumX) := [(132, fN sp_spec_l10Start sq_spec_l10Start U_spec_l10Start), (133, xN sp_spec_l10Step_o sq_spec_l10Step_o U_spec_l10Step_o)]
def j_spec_l10Run_o : Nat → Option (List (Nat × SS)) := jOf [(2, [(17, .val false .bool)])]
theorem gok_spec_l10Run_o : GOk P (gamOf g_spec_l10Run_o) := gam_ok (tab := g_spec_l10Run_o) (gm1 (fN_ok c_spec_l10Start rfl) (gm1 (xN_ok c_spec_l10Step_o rfl) gm0))
noncomputable abbrev b_spec_l10Run_o : Code := bodyOf Tryz.f90
abbrev sp_spec_l10Run_o_l2 : Sp := ⟨28, [(0, .val false (.sl (.int .i64))), (2, .val false (.int .i64)), (6, .fix (.ptr 59000 0)), (7, .fix (.ptr 59001 0))], [(59000, [.val (.int .i64), .fix .nil, .fix .nil, .val (.int .i64), .val (.int .i64), .val (.int .i64), .val .bool]), (59001, [.val (.int .i64), .fix (.own 59000), .fix (.own 59001), .val (.int .i64), .val (.int .i64), .val (.int .i64), .val .bool])], [(59000, (.int .i64), true), (59001, (.int .i64), true)]⟩
abbrev xs_spec_l10Run_o_l2 : List (Ex × Sp) := [(.exit 0, ⟨28, [(6, .fix (.ptr 59000 0)), (7, .fix (.ptr 59001 0))], [(59000, [.val (.int .i64), .fix .nil, .fix .nil, .val (.int .i64), .val (.int .i64), .val (.int .i64), .val .bool]), (59001, [.val (.int .i64), .fix (.own 59000), .fix (.own 59001), .val (.int .i64), .val (.int .i64), .val (.int .i64), .val .bool])], [(59000, (.int .i64), true), (59001, (.int .i64), true)]⟩), (.ret, ⟨28, [(6, .fix (.ptr 59000 0))], [(59000, [.val (.int .i64), .fix (.own 59000), .fix (.own 59001), .val (.int .i64), .val (.int .i64), .val (.int .i64), .val .bool])], [(59000, (.int .i64), true), (59001, (.int .i64), true)]⟩)]
noncomputable def s_spec_l10Run_o_l2 : sp_spec_l10Run_o_l2.T → Option (sp_spec_l10Run_o_l2.T ⊕ XT xs_spec_l10Run_o_l2) := fun x =>
  (bif (!x.2.1.2.1.2.2.2.2.1) then
      (some ((x.2.1.2.1.2.2.2.1 == (0 : Int)), ()))
    else
    some (false, ())).bind fun y2 =>
  bif y2.1 then
    (bif (decide (x.2.1.2.1.2.2.1 ≥ x.1.2.1)) then
      (some (.inr (.inr ((), ((x.2.1.2.1.1, (x.2.1.2.1.2.1, (x.2.1.2.1.2.2.1, ((2 : Int), (x.2.1.2.1.2.2.2.2.1, ()))))), ()), (x.2.2.1, (x.2.2.2.1, ()))))))
    else
    (F_spec_l10Step_o x.1.1 x.2.1.2.1.1 x.2.1.2.1.2.1 x.2.1.2.1.2.2.1 x.2.1.2.1.2.2.2.1 x.2.1.2.1.2.2.2.2.1 x.2.2.1 x.2.2.2.1).bind fun y3 =>
    some (.inl ((x.1.1, (x.1.2.1, ())), ((x.2.1.1.1, (x.2.1.1.2.1, (x.2.1.1.2.2.1, (x.2.1.1.2.2.2.1, (x.2.1.1.2.2.2.2.1, ()))))), ((y3.1.1.1, (y3.1.1.2.1, (y3.1.1.2.2.1, (y3.1.1.2.2.2.1, (y3.1.1.2.2.2.2.1, ()))))), ())), (y3.2.2.1, (y3.2.2.2.1, ())))))
  else
  some (.inr (.inl ((), ((x.2.1.1.1, (x.2.1.1.2.1, (x.2.1.1.2.2.1, (x.2.1.1.2.2.2.1, (x.2.1.1.2.2.2.2.1, ()))))), ((x.2.1.2.1.1, (x.2.1.2.1.2.1, (x.2.1.2.1.2.2.1, (x.2.1.2.1.2.2.2.1, (x.2.1.2.1.2.2.2.2.1, ()))))), ())), (x.2.2.1, (x.2.2.2.1, ())))))
noncomputable def l_spec_l10Run_o_l2 : sp_spec_l10Run_o_l2.T → Option (XT xs_spec_l10Run_o_l2) := lim s_spec_l10Run_o_l2
theorem es_spec_l10Run_o_l2 : ∀ x, evCode ty (gamOf g_spec_l10Run_o) j_spec_l10Run_o (lamOf []) (loopAt b_spec_l10Run_o 2) (sp_spec_l10Run_o_l2.hd x) (rdK sp_spec_l10Run_o_l2 xs_spec_l10Run_o_l2) = s_spec_l10Run_o_l2 x := fun x => by kernel_rfl
theorem ls_spec_l10Run_o_l2 : LSumOk P (loopAt b_spec_l10Run_o 2) (loopL sp_spec_l10Run_o_l2 xs_spec_l10Run_o_l2 l_spec_l10Run_o_l2) := loop_ok tyOk mixed gok_spec_l10Run_o (by kernel_rfl) (by kernel_rfl) (lam_ok (tab := []) (by kernel_rfl) lm0) es_spec_l10Run_o_l2 lim_itr
noncomputable def F_spec_l10Run_o (x1 : K.T (.sl (.int .i64))) (x2 : K.T (.sl (.int .i64))) (x3 : K.T (.int .i64)) : Option sq_spec_l10Run_o.T :=
  (F_spec_l10Start x2).bind fun y1 =>
  (l_spec_l10Run_o_l2 ((x1, (x3, ())), (((0 : Int), ((0 : Int), ((0 : Int), ((0 : Int), (false, ()))))), ((y1.1.1.1, (y1.1.1.2.1, (y1.1.1.2.2.1, (y1.1.1.2.2.2.1, (y1.1.1.2.2.2.2.1, ()))))), ())), (y1.2.2.1, (y1.2.2.2.1, ())))).bind fun y4 =>
  (match y4 with
  | .inl y5 => some (((y5.2.1.2.1.1, (y5.2.1.2.1.2.1, (y5.2.1.2.1.2.2.1, (y5.2.1.2.1.2.2.2.1, (y5.2.1.2.1.2.2.2.2.1, ()))))), ()), (), (y5.2.2.1, (y5.2.2.2.1, ())))
  | .inr z6 => some (((z6.2.1.1.1, (z6.2.1.1.2.1, (z6.2.1.1.2.2.1, (z6.2.1.1.2.2.2.1, (z6.2.1.1.2.2.2.2.1, ()))))), ()), (), (z6.2.2.1, (z6.2.2.2.1, ()))))
noncomputable abbrev U_spec_l10Run_o : sp_spec_l10Run_o.T → Option sq_spec_l10Run_o.T := fun x => F_spec_l10Run_o x.1.1 x.1.2.1 x.1.2.2.1
theorem e_spec_l10Run_o : ∀ x, evCode ty (gamOf g_spec_l10Run_o) j_spec_l10Run_o (lamOf [(2, loopL sp_spec_l10Run_o_l2 xs_spec_l10Run_o_l2 l_spec_l10Run_o_l2)]) b_spec_l10Run_o (sp_spec_l10Run_o.hd x) (finN ty sq_spec_l10Run_o [.cell 6 126]) = U_spec_l10Run_o x := fun x => by kernel_rfl
theorem c_spec_l10Run_o : FnS P 90 sp_spec_l10Run_o sq_spec_l10Run_o U_spec_l10Run_o :=
  fnS_of_ev tyOk mixed gok_spec_l10Run_o (fn := Tryz.f90) (by kernel_rfl) (c := b_spec_l10Run_o) (by kernel_rfl) (by kernel_rfl) (by kernel_rfl) (lam_ok (tab := [(2, loopL sp_spec_l10Run_o_l2 xs_spec_l10Run_o_l2 l_spec_l10Run_o_l2)]) (by kernel_rfl) (lm1 @ls_spec_l10Run_o_l2 lm0)) e_spec_l10Run_o

/-! spec.l13Scan -/
abbrev sp_spec_l13Scan : Sp := ⟨115, [(0, .fix (.ptr 60000 0)), (1, .fix (.ptr 60001 0)), (2, .val false (.sl (.int .i64)))], [(60000, [.val (.int .i64), .val (.sl k0), .val (.sl (.int .i64)), .val (.sl (.int .i64)), .val (.sl (.int .i64)), .val (.sl (.int .i64)), .val (.sl (.int .i64)), .val (.int .i64), .val (.int .i64)]), (60001, [.val (.int .i64), .fix (.own 63000), .fix (.own 63001), .fix (.own 63002), .val (.int .i64), .val (.int .i64)])], [(63000, (.int .i64), true), (63001, (.int .i64), true), (63002, (.int .i64), true)]⟩
abbrev sq_spec_l13Scan : Sp := ⟨2, [(0, .val false (.int .i64)), (1, .val false (.int .i64))], [(60000, [.val (.int .i64), .val (.sl k0), .val (.sl (.int .i64)), .val (.sl (.int .i64)), .val (.sl (.int .i64)), .val (.sl (.int .i64)), .val (.sl (.int .i64)), .val (.int .i64), .val (.int .i64)]), (60001, [.val (.int .i64), .fix (.own 59000), .fix (.own 59001), .fix (.own 59002), .val (.int .i64), .val (.int .i64)])], [(59000, (.int .i64), true), (59001, (.int .i64), true), (59002, (.int .i64), true)]⟩
noncomputable def g_spec_l13Scan : List (FuncId × SumX) := [(87, cN sp_spec_l6Least sq_spec_l6Least U_spec_l6Least), (88, cN sp_spec_Complement sq_spec_Complement U_spec_Complement), (89, fN sp_spec_l8Run sq_spec_l8Run U_spec_l8Run), (90, fN sp_spec_l10Run_o sq_spec_l10Run_o U_spec_l10Run_o)]
def j_spec_l13Scan : Nat → Option (List (Nat × SS)) := jOf []
theorem gok_spec_l13Scan : GOk P (gamOf g_spec_l13Scan) := gam_ok (tab := g_spec_l13Scan) (gm1 (cN_ok c_spec_l6Least rfl) (gm1 (cN_ok c_spec_Complement rfl) (gm1 (fN_ok c_spec_l8Run rfl) (gm1 (fN_ok c_spec_l10Run_o rfl) gm0))))
noncomputable abbrev b_spec_l13Scan : Code := bodyOf Tryz.f46
abbrev sp_spec_l13Scan_l2 : Sp := ⟨115, [(0, .fix (.ptr 60000 0)), (1, .fix (.ptr 60001 0)), (2, .val false (.sl (.int .i64))), (8, .val false (.int .i64))], [(60000, [.val (.int .i64), .val (.sl k0), .val (.sl (.int .i64)), .val (.sl (.int .i64)), .val (.sl (.int .i64)), .val (.sl (.int .i64)), .val (.sl (.int .i64)), .val (.int .i64), .val (.int .i64)]), (60001, [.val (.int .i64), .fix (.own 59000), .fix (.own 59001), .fix (.own 59002), .val (.int .i64), .val (.int .i64)])], [(59000, (.int .i64), true), (59001, (.int .i64), true), (59002, (.int .i64), true)]⟩
abbrev xs_spec_l13Scan_l2 : List (Ex × Sp) := [(.exit 0, ⟨115, [(0, .fix (.ptr 60000 0)), (1, .fix (.ptr 60001 0))], [(60000, [.val (.int .i64), .val (.sl k0), .val (.sl (.int .i64)), .val (.sl (.int .i64)), .val (.sl (.int .i64)), .val (.sl (.int .i64)), .val (.sl (.int .i64)), .val (.int .i64), .val (.int .i64)]), (60001, [.val (.int .i64), .fix (.own 59000), .fix (.own 59001), .fix (.own 59002), .val (.int .i64), .val (.int .i64)])], [(59000, (.int .i64), true), (59001, (.int .i64), true), (59002, (.int .i64), true)]⟩)]
noncomputable def s_spec_l13Scan_l2 : sp_spec_l13Scan_l2.T → Option (sp_spec_l13Scan_l2.T ⊕ XT xs_spec_l13Scan_l2) := fun x =>
  bif (decide (x.1.2.1 < ((x.2.1.1.2.1).length : Int))) then
    (bif ib x.1.2.1 (x.1.1).length then
    bif ib x.1.2.1 (x.2.1.1.2.1).length then
    bif ((x.2.1.1.2.1).getD (Int.toNat x.1.2.1) (K.zero k0)).2 then
      ((F_spec_l6Least ((x.1.1).getD (Int.toNat x.1.2.1) (K.zero (.int .i64)))).bind fun y1 =>
      bif (x.2.1.2.1.1 == (2 : Int)) then
        ((F_spec_Complement y1.1.1).bind fun y2 =>
        bif ib x.1.2.1 (x.2.1.1.2.1).length then
        bif ib (((x.2.1.1.2.1).getD (Int.toNat x.1.2.1) (K.zero k0)).1) (x.2.2.2.2.1).length then
        some (.inl ((x.1.1, ((IntKind.wrap .i64 (x.1.2.1 + (1 : Int))), ())), ((x.2.1.1.1, (x.2.1.1.2.1, (x.2.1.1.2.2.1, (x.2.1.1.2.2.2.1, (x.2.1.1.2.2.2.2.1, (x.2.1.1.2.2.2.2.2.1, (x.2.1.1.2.2.2.2.2.2.1, (x.2.1.1.2.2.2.2.2.2.2.1, (x.2.1.1.2.2.2.2.2.2.2.2.1, ()))))))))), ((x.2.1.2.1.1, (x.2.1.2.1.2.1, (x.2.1.2.1.2.2.1, ()))), ())), (x.2.2.1, (x.2.2.2.1, ((x.2.2.2.2.1).set (Int.toNat (((x.2.1.1.2.1).getD (Int.toNat x.1.2.1) (K.zero k0)).1)) y2.1.1, ())))))
        else none
        else none)
      else
      bif ib x.1.2.1 (x.2.1.1.2.1).length then
      bif ib (((x.2.1.1.2.1).getD (Int.toNat x.1.2.1) (K.zero k0)).1) (x.2.2.2.2.1).length then
      some (.inl ((x.1.1, ((IntKind.wrap .i64 (x.1.2.1 + (1 : Int))), ())), ((x.2.1.1.1, (x.2.1.1.2.1, (x.2.1.1.2.2.1, (x.2.1.1.2.2.2.1, (x.2.1.1.2.2.2.2.1, (x.2.1.1.2.2.2.2.2.1, (x.2.1.1.2.2.2.2.2.2.1, (x.2.1.1.2.2.2.2.2.2.2.1, (x.2.1.1.2.2.2.2.2.2.2.2.1, ()))))))))), ((x.2.1.2.1.1, (x.2.1.2.1.2.1, (x.2.1.2.1.2.2.1, ()))), ())), (x.2.2.1, (x.2.2.2.1, ((x.2.2.2.2.1).set (Int.toNat (((x.2.1.1.2.1).getD (Int.toNat x.1.2.1) (K.zero k0)).1)) y1.1.1, ())))))
      else none
      else none)
    else
    bif (x.2.1.2.1.1 == (2 : Int)) then
      ((F_spec_Complement ((x.1.1).getD (Int.toNat x.1.2.1) (K.zero (.int .i64)))).bind fun y3 =>
      bif ib x.1.2.1 (x.2.1.1.2.1).length then
      bif ib (((x.2.1.1.2.1).getD (Int.toNat x.1.2.1) (K.zero k0)).1) (x.2.2.2.2.1).length then
      some (.inl ((x.1.1, ((IntKind.wrap .i64 (x.1.2.1 + (1 : Int))), ())), ((x.2.1.1.1, (x.2.1.1.2.1, (x.2.1.1.2.2.1, (x.2.1.1.2.2.2.1, (x.2.1.1.2.2.2.2.1, (x.2.1.1.2.2.2.2.2.1, (x.2.1.1.2.2.2.2.2.2.1, (x.2.1.1.2.2.2.2.2.2.2.1, (x.2.1.1.2.2.2.2.2.2.2.2.1, ()))))))))), ((x.2.1.2.1.1, (x.2.1.2.1.2.1, (x.2.1.2.1.2.2.1, ()))), ())), (x.2.2.1, (x.2.2.2.1, ((x.2.2.2.2.1).set (Int.toNat (((x.2.1.1.2.1).getD (Int.toNat x.1.2.1) (K.zero k0)).1)) y3.1.1, ())))))
      else none
      else none)
    else
    bif ib x.1.2.1 (x.2.1.1.2.1).length then
    bif ib (((x.2.1.1.2.1).getD (Int.toNat x.1.2.1) (K.zero k0)).1) (x.2.2.2.2.1).length then
    some (.inl ((x.1.1, ((IntKind.wrap .i64 (x.1.2.1 + (1 : Int))), ())), ((x.2.1.1.1, (x.2.1.1.2.1, (x.2.1.1.2.2.1, (x.2.1.1.2.2.2.1, (x.2.1.1.2.2.2.2.1, (x.2.1.1.2.2.2.2.2.1, (x.2.1.1.2.2.2.2.2.2.1, (x.2.1.1.2.2.2.2.2.2.2.1, (x.2.1.1.2.2.2.2.2.2.2.2.1, ()))))))))), ((x.2.1.2.1.1, (x.2.1.2.1.2.1, (x.2.1.2.1.2.2.1, ()))), ())), (x.2.2.1, (x.2.2.2.1, ((x.2.2.2.2.1).set (Int.toNat (((x.2.1.1.2.1).getD (Int.toNat x.1.2.1) (K.zero k0)).1)) ((x.1.1).getD (Int.toNat x.1.2.1) (K.zero (.int .i64))), ())))))
    else none
    else none
    else none
    else none)
  else
  some (.inr ((), ((x.2.1.1.1, (x.2.1.1.2.1, (x.2.1.1.2.2.1, (x.2.1.1.2.2.2.1, (x.2.1.1.2.2.2.2.1, (x.2.1.1.2.2.2.2.2.1, (x.2.1.1.2.2.2.2.2.2.1, (x.2.1.1.2.2.2.2.2.2.2.1, (x.2.1.1.2.2.2.2.2.2.2.2.1, ()))))))))), ((x.2.1.2.1.1, (x.2.1.2.1.2.1, (x.2.1.2.1.2.2.1, ()))), ())), (x.2.2.1, (x.2.2.2.1, (x.2.2.2.2.1, ())))))
noncomputable def l_spec_l13Scan_l2 : sp_spec_l13Scan_l2.T → Option (XT xs_spec_l13Scan_l2) := lim s_spec_l13Scan_l2
theorem es_spec_l13Scan_l2 : ∀ x, evCode ty (gamOf g_spec_l13Scan) j_spec_l13Scan (lamOf []) (loopAt b_spec_l13Scan 2) (sp_spec_l13Scan_l2.hd x) (rdK sp_spec_l13Scan_l2 xs_spec_l13Scan_l2) = s_spec_l13Scan_l2 x := fun x => by kernel_rfl
theorem ls_spec_l13Scan_l2 : LSumOk P (loopAt b_spec_l13Scan 2) (loopL sp_spec_l13Scan_l2 xs_spec_l13Scan_l2 l_spec_l13Scan_l2) := loop_ok tyOk mixed gok_spec_l13Scan (by kernel_rfl) (by kernel_rfl) (lam_ok (tab := []) (by kernel_rfl) lm0) es_spec_l13Scan_l2 lim_itr
noncomputable def F_spec_l13Scan (x1 : K.T (.sl (.int .i64))) (x2 : K.T (.int .i64)) (x3 : K.T (.sl k0)) (x4 : K.T (.sl (.int .i64))) (x5 : K.T (.sl (.int .i64))) (x6 : K.T (.sl (.int .i64))) (x7 : K.T (.sl (.int .i64))) (x8 : K.T (.sl (.int .i64))) (x9 : K.T (.int .i64)) (x10 : K.T (.int .i64)) (x11 : K.T (.int .i64)) (x12 : K.T (.int .i64)) (x13 : K.T (.int .i64)) (x14 : List (K.T (.int .i64))) (x15 : List (K.T (.int .i64))) (x16 : List (K.T (.int .i64))) : Option sq_spec_l13Scan.T :=
  (l_spec_l13Scan_l2 ((x1, ((0 : Int), ())), ((x2, (x3, (x4, (x5, (x6, (x7, (x8, (x9, (x10, ()))))))))), ((x11, (x12, (x13, ()))), ())), (x14, (x15, (x16, ()))))).bind fun y4 =>
  bif (y4.2.1.2.1.1 == (1 : Int)) then
    ((F_spec_l8Run y4.2.2.1 y4.2.2.2.2.1 y4.2.1.1.2.2.2.2.2.2.2.1).bind fun y5 =>
    some ((y5.1.1.2.2.2.1, (y5.1.1.2.2.1, ())), ((y4.2.1.1.1, (y4.2.1.1.2.1, (y4.2.1.1.2.2.1, (y4.2.1.1.2.2.2.1, (y4.2.1.1.2.2.2.2.1, (y4.2.1.1.2.2.2.2.2.1, (y4.2.1.1.2.2.2.2.2.2.1, (y4.2.1.1.2.2.2.2.2.2.2.1, (y4.2.1.1.2.2.2.2.2.2.2.2.1, ()))))))))), ((y4.2.1.2.1.1, (y4.2.1.2.1.2.1, (y5.1.1.2.1, ()))), ())), (y4.2.2.1, (y4.2.2.2.1, (y5.2.2.2.1, ())))))
  else
  (F_spec_l10Run_o y4.2.2.1 y4.2.2.2.2.1 y4.2.1.1.2.2.2.2.2.2.2.2.1).bind fun y6 =>
  some ((y6.1.1.2.2.2.1, (y6.1.1.2.2.1, ())), ((y4.2.1.1.1, (y4.2.1.1.2.1, (y4.2.1.1.2.2.1, (y4.2.1.1.2.2.2.1, (y4.2.1.1.2.2.2.2.1, (y4.2.1.1.2.2.2.2.2.1, (y4.2.1.1.2.2.2.2.2.2.1, (y4.2.1.1.2.2.2.2.2.2.2.1, (y4.2.1.1.2.2.2.2.2.2.2.2.1, ()))))))))), ((y4.2.1.2.1.1, (y4.2.1.2.1.2.1, (y6.1.1.2.1, ()))), ())), (y4.2.2.1, (y4.2.2.2.1, (y6.2.2.2.1, ()))))
noncomputable abbrev U_spec_l13Scan : sp_spec_l13Scan.T → Option sq_spec_l13Scan.T := fun x => F_spec_l13Scan x.1.1 x.2.1.1.1 x.2.1.1.2.1 x.2.1.1.2.2.1 x.2.1.1.2.2.2.1 x.2.1.1.2.2.2.2.1 x.2.1.1.2.2.2.2.2.1 x.2.1.1.2.2.2.2.2.2.1 x.2.1.1.2.2.2.2.2.2.2.1 x.2.1.1.2.2.2.2.2.2.2.2.1 x.2.1.2.1.1 x.2.1.2.1.2.1 x.2.1.2.1.2.2.1 x.2.2.1 x.2.2.2.1 x.2.2.2.2.1
theorem e_spec_l13Scan : ∀ x, evCode ty (gamOf g_spec_l13Scan) j_spec_l13Scan (lamOf [(2, loopL sp_spec_l13Scan_l2 xs_spec_l13Scan_l2 l_spec_l13Scan_l2)]) b_spec_l13Scan (sp_spec_l13Scan.hd x) (finN ty sq_spec_l13Scan [.tmp 6, .tmp 7]) = U_spec_l13Scan x := fun x => by kernel_rfl
theorem c_spec_l13Scan : FnS P 46 sp_spec_l13Scan sq_spec_l13Scan U_spec_l13Scan :=
  fnS_of_ev tyOk mixed gok_spec_l13Scan (fn := Tryz.f46) (by kernel_rfl) (c := b_spec_l13Scan) (by kernel_rfl) (by kernel_rfl) (by kernel_rfl) (lam_ok (tab := [(2, loopL sp_spec_l13Scan_l2 xs_spec_l13Scan_l2 l_spec_l13Scan_l2)]) (by kernel_rfl) (lm1 @ls_spec_l13Scan_l2 lm0)) e_spec_l13Scan

/-! spec.ScanChan -/
abbrev sp_spec_ScanChan : Sp := ⟨56, [(0, .val true k8), (1, .val true k9), (2, .val false (.sl (.int .i64)))], [], []⟩
abbrev sq_spec_ScanChan : Sp := ⟨1, [(0, .mix true [.val (.int .i64), .val (.int .i64), .val (.int .i64), .val (.int .i64), .fix (.own 59000), .fix (.own 59001), .fix (.own 59002), .val (.int .i64), .val (.int .i64)])], [], [(59000, (.int .i64), true), (59001, (.int .i64), true), (59002, (.int .i64), true)]⟩
noncomputable def g_spec_ScanChan : List (FuncId × SumX) := [(42, cN sp_spec_l12Fault sq_spec_l12Fault U_spec_l12Fault), (43, cN sp_spec_l13Fault sq_spec_l13Fault U_spec_l13Fault), (44, cN sp_spec_l6All sq_spec_l6All U_spec_l6All), (45, fN sp_spec_l13Copy sq_spec_l13Copy U_spec_l13Copy), (46, xN sp_spec_l13Scan sq_spec_l13Scan U_spec_l13Scan)]
def j_spec_ScanChan : Nat → Option (List (Nat × SS)) := jOf [(7, [(40, .val false .bool)])]
theorem gok_spec_ScanChan : GOk P (gamOf g_spec_ScanChan) := gam_ok (tab := g_spec_ScanChan) (gm1 (cN_ok c_spec_l12Fault rfl) (gm1 (cN_ok c_spec_l13Fault rfl) (gm1 (cN_ok c_spec_l6All rfl) (gm1 (fN_ok c_spec_l13Copy rfl) (gm1 (xN_ok c_spec_l13Scan rfl) gm0)))))
noncomputable abbrev b_spec_ScanChan : Code := bodyOf Tryz.f8
noncomputable def F_spec_ScanChan (x1 : K.T k8) (x2 : K.T k9) (x3 : K.T (.sl (.int .i64))) : Option sq_spec_ScanChan.T :=
  (F_spec_l12Fault x1).bind fun y1 =>
  bif (y1.1.1 != (0 : Int)) then
    (some (((y1.1.1, ((0 : Int), ((0 : Int), ((0 : Int), ((0 : Int), ((0 : Int), ())))))), ()), (), ([], ([], ([], ())))))
  else
  (F_spec_l13Fault x2).bind fun y2 =>
  bif (y2.1.1 != (0 : Int)) then
    (some (((y2.1.1, ((0 : Int), ((0 : Int), ((0 : Int), ((0 : Int), ((0 : Int), ())))))), ()), (), ([], ([], ([], ())))))
  else
  (bif (((x3).length : Int) != ((x1.2.1).length : Int)) then
      (some (true, ()))
    else
    (F_spec_l6All x3).bind fun y3 =>
    bif (!y3.1.1) then
      (some (true, ()))
    else
    some ((((x2.2.2.2.1).length : Int) != x1.1), ())).bind fun y4 =>
  bif y4.1 then
    (some ((((1 : Int), ((0 : Int), ((0 : Int), ((0 : Int), ((0 : Int), ((0 : Int), ())))))), ()), (), ([], ([], ([], ())))))
  else
  (F_spec_l13Copy x2).bind fun y5 =>
  (F_spec_l13Scan x3 x1.1 x1.2.1 x1.2.2.1 x1.2.2.2.1 x1.2.2.2.2.1 x1.2.2.2.2.2.1 x1.2.2.2.2.2.2.1 x1.2.2.2.2.2.2.2.1 x1.2.2.2.2.2.2.2.2 y5.1.1.1 y5.1.1.2.1 y5.1.1.2.2.1 y5.2.2.1 y5.2.2.2.1 y5.2.2.2.2.1).bind fun y6 =>
  some ((((0 : Int), (y6.1.1, (y6.1.2.1, (y6.2.1.2.1.1, (y6.2.1.2.1.2.1, (y6.2.1.2.1.2.2.1, ())))))), ()), (), (y6.2.2.1, (y6.2.2.2.1, (y6.2.2.2.2.1, ()))))
noncomputable abbrev U_spec_ScanChan : sp_spec_ScanChan.T → Option sq_spec_ScanChan.T := fun x => F_spec_ScanChan x.1.1 x.1.2.1 x.1.2.2.1
theorem e_spec_ScanChan : ∀ x, evCode ty (gamOf g_spec_ScanChan) j_spec_ScanChan (lamOf []) b_spec_ScanChan (sp_spec_ScanChan.hd x) (finN ty sq_spec_ScanChan [.cell 6 32]) = U_spec_ScanChan x := fun x => by kernel_rfl
theorem c_spec_ScanChan : FnS P 8 sp_spec_ScanChan sq_spec_ScanChan U_spec_ScanChan :=
  fnS_of_ev tyOk mixed gok_spec_ScanChan (fn := Tryz.f8) (by kernel_rfl) (c := b_spec_ScanChan) (by kernel_rfl) (by kernel_rfl) (by kernel_rfl) (lam_ok (tab := []) (by kernel_rfl) lm0) e_spec_ScanChan

/-! laws.toInt64S -/
abbrev sp_laws_toInt64S : Sp := ⟨22, [(0, .val false (.sl (.int .i64)))], [], []⟩
abbrev sq_laws_toInt64S : Sp := ⟨1, [(0, .fix (.own 59000))], [], [(59000, (.int .i64), true)]⟩
noncomputable def g_laws_toInt64S : List (FuncId × SumX) := []
def j_laws_toInt64S : Nat → Option (List (Nat × SS)) := jOf []
theorem gok_laws_toInt64S : GOk P (gamOf g_laws_toInt64S) := gam_ok (tab := g_laws_toInt64S) gm0
noncomputable abbrev b_laws_toInt64S : Code := bodyOf Tryz.f11
abbrev sp_laws_toInt64S_l3 : Sp := ⟨22, [(0, .val false (.sl (.int .i64))), (3, .fix (.own 59000)), (4, .val false (.int .i64))], [], [(59000, (.int .i64), true)]⟩
abbrev xs_laws_toInt64S_l3 : List (Ex × Sp) := [(.exit 0, ⟨22, [(3, .fix (.own 59000))], [], [(59000, (.int .i64), true)]⟩)]
noncomputable def s_laws_toInt64S_l3 : sp_laws_toInt64S_l3.T → Option (sp_laws_toInt64S_l3.T ⊕ XT xs_laws_toInt64S_l3) := fun x =>
  bif (decide (x.1.2.1 < ((x.1.1).length : Int))) then
    (bif ib x.1.2.1 (x.1.1).length then
    bif ib x.1.2.1 (x.2.2.1).length then
    some (.inl ((x.1.1, ((IntKind.wrap .i64 (x.1.2.1 + (1 : Int))), ())), (), ((x.2.2.1).set (Int.toNat x.1.2.1) ((x.1.1).getD (Int.toNat x.1.2.1) (K.zero (.int .i64))), ())))
    else none
    else none)
  else
  some (.inr ((), (), (x.2.2.1, ())))
noncomputable def l_laws_toInt64S_l3 : sp_laws_toInt64S_l3.T → Option (XT xs_laws_toInt64S_l3) := lim s_laws_toInt64S_l3
theorem es_laws_toInt64S_l3 : ∀ x, evCode ty (gamOf g_laws_toInt64S) j_laws_toInt64S (lamOf []) (loopAt b_laws_toInt64S 3) (sp_laws_toInt64S_l3.hd x) (rdK sp_laws_toInt64S_l3 xs_laws_toInt64S_l3) = s_laws_toInt64S_l3 x := fun x => by kernel_rfl
theorem ls_laws_toInt64S_l3 : LSumOk P (loopAt b_laws_toInt64S 3) (loopL sp_laws_toInt64S_l3 xs_laws_toInt64S_l3 l_laws_toInt64S_l3) := loop_ok tyOk mixed gok_laws_toInt64S (by kernel_rfl) (by kernel_rfl) (lam_ok (tab := []) (by kernel_rfl) lm0) es_laws_toInt64S_l3 lim_itr
noncomputable def F_laws_toInt64S (x1 : K.T (.sl (.int .i64))) : Option sq_laws_toInt64S.T :=
  bif decide (0 ≤ ((x1).length : Int) ∧ ((x1).length : Int) ≤ ((x1).length : Int)) then
  bif room (Int.toNat ((x1).length : Int)) 8 then
  (l_laws_toInt64S_l3 ((x1, ((0 : Int), ())), (), ((List.replicate (Int.toNat ((x1).length : Int)) (K.zero (.int .i64))), ()))).bind fun y1 =>
  some ((), (), (y1.2.2.1, ()))
  else none
  else none
noncomputable abbrev U_laws_toInt64S : sp_laws_toInt64S.T → Option sq_laws_toInt64S.T := fun x => F_laws_toInt64S x.1.1
theorem e_laws_toInt64S : ∀ x, evCode ty (gamOf g_laws_toInt64S) j_laws_toInt64S (lamOf [(3, loopL sp_laws_toInt64S_l3 xs_laws_toInt64S_l3 l_laws_toInt64S_l3)]) b_laws_toInt64S (sp_laws_toInt64S.hd x) (finN ty sq_laws_toInt64S [.tmp 2]) = U_laws_toInt64S x := fun x => by kernel_rfl
theorem c_laws_toInt64S : FnS P 11 sp_laws_toInt64S sq_laws_toInt64S U_laws_toInt64S :=
  fnS_of_ev tyOk mixed gok_laws_toInt64S (fn := Tryz.f11) (by kernel_rfl) (c := b_laws_toInt64S) (by kernel_rfl) (by kernel_rfl) (by kernel_rfl) (lam_ok (tab := [(3, loopL sp_laws_toInt64S_l3 xs_laws_toInt64S_l3 l_laws_toInt64S_l3)]) (by kernel_rfl) (lm1 @ls_laws_toInt64S_l3 lm0)) e_laws_toInt64S

/-! laws.toPort -/
abbrev sp_laws_toPort : Sp := ⟨11, [(0, .val true k0)], [], []⟩
abbrev sq_laws_toPort : Sp := ⟨1, [(0, .val true k0)], [], []⟩
noncomputable def g_laws_toPort : List (FuncId × SumX) := []
def j_laws_toPort : Nat → Option (List (Nat × SS)) := jOf []
theorem gok_laws_toPort : GOk P (gamOf g_laws_toPort) := gam_ok (tab := g_laws_toPort) gm0
noncomputable abbrev b_laws_toPort : Code := bodyOf Tryz.f91
noncomputable def F_laws_toPort (x1 : K.T k0) : Option sq_laws_toPort.T :=
  some ((x1, ()), (), ())
noncomputable abbrev U_laws_toPort : sp_laws_toPort.T → Option sq_laws_toPort.T := fun x => F_laws_toPort x.1.1
theorem e_laws_toPort : ∀ x, evCode ty (gamOf g_laws_toPort) j_laws_toPort (lamOf []) b_laws_toPort (sp_laws_toPort.hd x) (finN ty sq_laws_toPort [.cell 2 118]) = U_laws_toPort x := fun x => by kernel_rfl
theorem c_laws_toPort : FnS P 91 sp_laws_toPort sq_laws_toPort U_laws_toPort :=
  fnS_of_ev tyOk mixed gok_laws_toPort (fn := Tryz.f91) (by kernel_rfl) (c := b_laws_toPort) (by kernel_rfl) (by kernel_rfl) (by kernel_rfl) (lam_ok (tab := []) (by kernel_rfl) lm0) e_laws_toPort

/-! laws.toPortS -/
abbrev sp_laws_toPortS : Sp := ⟨23, [(0, .val false (.sl k0))], [], []⟩
abbrev sq_laws_toPortS : Sp := ⟨1, [(0, .fix (.own 59000))], [], [(59000, k0, true)]⟩
noncomputable def g_laws_toPortS : List (FuncId × SumX) := [(91, cN sp_laws_toPort sq_laws_toPort U_laws_toPort)]
def j_laws_toPortS : Nat → Option (List (Nat × SS)) := jOf []
theorem gok_laws_toPortS : GOk P (gamOf g_laws_toPortS) := gam_ok (tab := g_laws_toPortS) (gm1 (cN_ok c_laws_toPort rfl) gm0)
noncomputable abbrev b_laws_toPortS : Code := bodyOf Tryz.f47
abbrev sp_laws_toPortS_l3 : Sp := ⟨23, [(0, .val false (.sl k0)), (3, .fix (.own 59000)), (4, .val false (.int .i64))], [], [(59000, k0, true)]⟩
abbrev xs_laws_toPortS_l3 : List (Ex × Sp) := [(.exit 0, ⟨23, [(3, .fix (.own 59000))], [], [(59000, k0, true)]⟩)]
noncomputable def s_laws_toPortS_l3 : sp_laws_toPortS_l3.T → Option (sp_laws_toPortS_l3.T ⊕ XT xs_laws_toPortS_l3) := fun x =>
  bif (decide (x.1.2.1 < ((x.1.1).length : Int))) then
    (bif ib x.1.2.1 (x.1.1).length then
    (F_laws_toPort ((x.1.1).getD (Int.toNat x.1.2.1) (K.zero k0))).bind fun y1 =>
    bif ib x.1.2.1 (x.2.2.1).length then
    some (.inl ((x.1.1, ((IntKind.wrap .i64 (x.1.2.1 + (1 : Int))), ())), (), ((x.2.2.1).set (Int.toNat x.1.2.1) y1.1.1, ())))
    else none
    else none)
  else
  some (.inr ((), (), (x.2.2.1, ())))
noncomputable def l_laws_toPortS_l3 : sp_laws_toPortS_l3.T → Option (XT xs_laws_toPortS_l3) := lim s_laws_toPortS_l3
theorem es_laws_toPortS_l3 : ∀ x, evCode ty (gamOf g_laws_toPortS) j_laws_toPortS (lamOf []) (loopAt b_laws_toPortS 3) (sp_laws_toPortS_l3.hd x) (rdK sp_laws_toPortS_l3 xs_laws_toPortS_l3) = s_laws_toPortS_l3 x := fun x => by kernel_rfl
theorem ls_laws_toPortS_l3 : LSumOk P (loopAt b_laws_toPortS 3) (loopL sp_laws_toPortS_l3 xs_laws_toPortS_l3 l_laws_toPortS_l3) := loop_ok tyOk mixed gok_laws_toPortS (by kernel_rfl) (by kernel_rfl) (lam_ok (tab := []) (by kernel_rfl) lm0) es_laws_toPortS_l3 lim_itr
noncomputable def F_laws_toPortS (x1 : K.T (.sl k0)) : Option sq_laws_toPortS.T :=
  bif decide (0 ≤ ((x1).length : Int) ∧ ((x1).length : Int) ≤ ((x1).length : Int)) then
  bif room (Int.toNat ((x1).length : Int)) 16 then
  (l_laws_toPortS_l3 ((x1, ((0 : Int), ())), (), ((List.replicate (Int.toNat ((x1).length : Int)) (K.zero k0)), ()))).bind fun y2 =>
  some ((), (), (y2.2.2.1, ()))
  else none
  else none
noncomputable abbrev U_laws_toPortS : sp_laws_toPortS.T → Option sq_laws_toPortS.T := fun x => F_laws_toPortS x.1.1
theorem e_laws_toPortS : ∀ x, evCode ty (gamOf g_laws_toPortS) j_laws_toPortS (lamOf [(3, loopL sp_laws_toPortS_l3 xs_laws_toPortS_l3 l_laws_toPortS_l3)]) b_laws_toPortS (sp_laws_toPortS.hd x) (finN ty sq_laws_toPortS [.tmp 2]) = U_laws_toPortS x := fun x => by kernel_rfl
theorem c_laws_toPortS : FnS P 47 sp_laws_toPortS sq_laws_toPortS U_laws_toPortS :=
  fnS_of_ev tyOk mixed gok_laws_toPortS (fn := Tryz.f47) (by kernel_rfl) (c := b_laws_toPortS) (by kernel_rfl) (by kernel_rfl) (by kernel_rfl) (lam_ok (tab := [(3, loopL sp_laws_toPortS_l3 xs_laws_toPortS_l3 l_laws_toPortS_l3)]) (by kernel_rfl) (lm1 @ls_laws_toPortS_l3 lm0)) e_laws_toPortS

/-! laws.toBuild -/
abbrev sp_laws_toBuild : Sp := ⟨38, [(0, .val true k8)], [], []⟩
abbrev sq_laws_toBuild : Sp := ⟨1, [(0, .mix true [.val (.int .i64), .fix (.own 59000), .fix (.own 59001), .fix (.own 59002), .fix (.own 59003), .fix (.own 59004), .fix (.own 59005), .val (.int .i64), .val (.int .i64)])], [], [(59000, k0, true), (59001, (.int .i64), true), (59002, (.int .i64), true), (59003, (.int .i64), true), (59004, (.int .i64), true), (59005, (.int .i64), true)]⟩
noncomputable def g_laws_toBuild : List (FuncId × SumX) := [(11, fN sp_laws_toInt64S sq_laws_toInt64S U_laws_toInt64S), (47, fN sp_laws_toPortS sq_laws_toPortS U_laws_toPortS)]
def j_laws_toBuild : Nat → Option (List (Nat × SS)) := jOf []
theorem gok_laws_toBuild : GOk P (gamOf g_laws_toBuild) := gam_ok (tab := g_laws_toBuild) (gm1 (fN_ok c_laws_toInt64S rfl) (gm1 (fN_ok c_laws_toPortS rfl) gm0))
noncomputable abbrev b_laws_toBuild : Code := bodyOf Tryz.f9
noncomputable def F_laws_toBuild (x1 : K.T k8) : Option sq_laws_toBuild.T :=
  (F_laws_toPortS x1.2.1).bind fun y1 =>
  (F_laws_toInt64S x1.2.2.1).bind fun y2 =>
  (F_laws_toInt64S x1.2.2.2.1).bind fun y3 =>
  (F_laws_toInt64S x1.2.2.2.2.1).bind fun y4 =>
  (F_laws_toInt64S x1.2.2.2.2.2.1).bind fun y5 =>
  (F_laws_toInt64S x1.2.2.2.2.2.2.1).bind fun y6 =>
  some (((x1.1, (x1.2.2.2.2.2.2.2.1, (x1.2.2.2.2.2.2.2.2, ()))), ()), (), (y1.2.2.1, (y2.2.2.1, (y3.2.2.1, (y4.2.2.1, (y5.2.2.1, (y6.2.2.1, ())))))))
noncomputable abbrev U_laws_toBuild : sp_laws_toBuild.T → Option sq_laws_toBuild.T := fun x => F_laws_toBuild x.1.1
theorem e_laws_toBuild : ∀ x, evCode ty (gamOf g_laws_toBuild) j_laws_toBuild (lamOf []) b_laws_toBuild (sp_laws_toBuild.hd x) (finN ty sq_laws_toBuild [.cell 2 36]) = U_laws_toBuild x := fun x => by kernel_rfl
theorem c_laws_toBuild : FnS P 9 sp_laws_toBuild sq_laws_toBuild U_laws_toBuild :=
  fnS_of_ev tyOk mixed gok_laws_toBuild (fn := Tryz.f9) (by kernel_rfl) (c := b_laws_toBuild) (by kernel_rfl) (by kernel_rfl) (by kernel_rfl) (lam_ok (tab := []) (by kernel_rfl) lm0) e_laws_toBuild

/-! laws.toChan -/
abbrev sp_laws_toChan : Sp := ⟨26, [(0, .val true k9)], [], []⟩
abbrev sq_laws_toChan : Sp := ⟨1, [(0, .mix true [.val (.int .i64), .fix (.own 59000), .fix (.own 59001), .fix (.own 59002), .val (.int .i64), .val (.int .i64)])], [], [(59000, (.int .i64), true), (59001, (.int .i64), true), (59002, (.int .i64), true)]⟩
noncomputable def g_laws_toChan : List (FuncId × SumX) := [(11, fN sp_laws_toInt64S sq_laws_toInt64S U_laws_toInt64S)]
def j_laws_toChan : Nat → Option (List (Nat × SS)) := jOf []
theorem gok_laws_toChan : GOk P (gamOf g_laws_toChan) := gam_ok (tab := g_laws_toChan) (gm1 (fN_ok c_laws_toInt64S rfl) gm0)
noncomputable abbrev b_laws_toChan : Code := bodyOf Tryz.f10
noncomputable def F_laws_toChan (x1 : K.T k9) : Option sq_laws_toChan.T :=
  (F_laws_toInt64S x1.2.1).bind fun y1 =>
  (F_laws_toInt64S x1.2.2.1).bind fun y2 =>
  (F_laws_toInt64S x1.2.2.2.1).bind fun y3 =>
  some (((x1.1, (x1.2.2.2.2.1, (x1.2.2.2.2.2, ()))), ()), (), (y1.2.2.1, (y2.2.2.1, (y3.2.2.1, ()))))
noncomputable abbrev U_laws_toChan : sp_laws_toChan.T → Option sq_laws_toChan.T := fun x => F_laws_toChan x.1.1
theorem e_laws_toChan : ∀ x, evCode ty (gamOf g_laws_toChan) j_laws_toChan (lamOf []) b_laws_toChan (sp_laws_toChan.hd x) (finN ty sq_laws_toChan [.cell 2 30]) = U_laws_toChan x := fun x => by kernel_rfl
theorem c_laws_toChan : FnS P 10 sp_laws_toChan sq_laws_toChan U_laws_toChan :=
  fnS_of_ev tyOk mixed gok_laws_toChan (fn := Tryz.f10) (by kernel_rfl) (c := b_laws_toChan) (by kernel_rfl) (by kernel_rfl) (by kernel_rfl) (lam_ok (tab := []) (by kernel_rfl) lm0) e_laws_toChan

/-! impl.within -/
abbrev sp_impl_within : Sp := ⟨15, [(0, .val false (.int .i64)), (1, .val false (.int .i64)), (2, .val false (.int .i64))], [], []⟩
abbrev sq_impl_within : Sp := ⟨1, [(0, .val false .bool)], [], []⟩
noncomputable def g_impl_within : List (FuncId × SumX) := []
def j_impl_within : Nat → Option (List (Nat × SS)) := jOf [(1, [(6, .val false .bool)])]
theorem gok_impl_within : GOk P (gamOf g_impl_within) := gam_ok (tab := g_impl_within) gm0
noncomputable abbrev b_impl_within : Code := bodyOf Tryz.f93
noncomputable def F_impl_within (x1 : K.T (.int .i64)) (x2 : K.T (.int .i64)) (x3 : K.T (.int .i64)) : Option sq_impl_within.T :=
  (bif (decide (x2 ≤ x1)) then
      (some ((decide (x1 ≤ x3)), ()))
    else
    some (false, ())).bind fun y1 =>
  some ((y1.1, ()), (), ())
noncomputable abbrev U_impl_within : sp_impl_within.T → Option sq_impl_within.T := fun x => F_impl_within x.1.1 x.1.2.1 x.1.2.2.1
theorem e_impl_within : ∀ x, evCode ty (gamOf g_impl_within) j_impl_within (lamOf []) b_impl_within (sp_impl_within.hd x) (finN ty sq_impl_within [.tmp 6]) = U_impl_within x := fun x => by kernel_rfl
theorem c_impl_within : FnS P 93 sp_impl_within sq_impl_within U_impl_within :=
  fnS_of_ev tyOk mixed gok_impl_within (fn := Tryz.f93) (by kernel_rfl) (c := b_impl_within) (by kernel_rfl) (by kernel_rfl) (by kernel_rfl) (lam_ok (tab := []) (by kernel_rfl) lm0) e_impl_within

/-! impl.BuildFault$1 -/
abbrev sp_impl_BuildFault_f1 : Sp := ⟨9, [(0, .val false (.int .i64)), (1, .fix (.ptr 60000 0))], [(60000, [.val (.int .i64), .val (.sl k0), .val (.sl (.int .i64)), .val (.sl (.int .i64)), .val (.sl (.int .i64)), .val (.sl (.int .i64)), .val (.sl (.int .i64)), .val (.int .i64), .val (.int .i64)])], []⟩
abbrev sq_impl_BuildFault_f1 : Sp := ⟨1, [(0, .val false .bool)], [(60000, [.val (.int .i64), .val (.sl k0), .val (.sl (.int .i64)), .val (.sl (.int .i64)), .val (.sl (.int .i64)), .val (.sl (.int .i64)), .val (.sl (.int .i64)), .val (.int .i64), .val (.int .i64)])], []⟩
noncomputable def g_impl_BuildFault_f1 : List (FuncId × SumX) := [(93, cN sp_impl_within sq_impl_within U_impl_within)]
def j_impl_BuildFault_f1 : Nat → Option (List (Nat × SS)) := jOf []
theorem gok_impl_BuildFault_f1 : GOk P (gamOf g_impl_BuildFault_f1) := gam_ok (tab := g_impl_BuildFault_f1) (gm1 (cN_ok c_impl_within rfl) gm0)
noncomputable abbrev b_impl_BuildFault_f1 : Code := bodyOf Tryz.f92
noncomputable def F_impl_BuildFault_f1 (x1 : K.T (.int .i64)) (x2 : K.T (.int .i64)) (x3 : K.T (.sl k0)) (x4 : K.T (.sl (.int .i64))) (x5 : K.T (.sl (.int .i64))) (x6 : K.T (.sl (.int .i64))) (x7 : K.T (.sl (.int .i64))) (x8 : K.T (.sl (.int .i64))) (x9 : K.T (.int .i64)) (x10 : K.T (.int .i64)) : Option sq_impl_BuildFault_f1.T :=
  (F_impl_within x1 (0 : Int) (IntKind.wrap .i64 (x2 - (1 : Int)))).bind fun y1 =>
  some ((y1.1.1, ()), ((x2, (x3, (x4, (x5, (x6, (x7, (x8, (x9, (x10, ()))))))))), ()), ())
noncomputable abbrev U_impl_BuildFault_f1 : sp_impl_BuildFault_f1.T → Option sq_impl_BuildFault_f1.T := fun x => F_impl_BuildFault_f1 x.1.1 x.2.1.1.1 x.2.1.1.2.1 x.2.1.1.2.2.1 x.2.1.1.2.2.2.1 x.2.1.1.2.2.2.2.1 x.2.1.1.2.2.2.2.2.1 x.2.1.1.2.2.2.2.2.2.1 x.2.1.1.2.2.2.2.2.2.2.1 x.2.1.1.2.2.2.2.2.2.2.2.1
theorem e_impl_BuildFault_f1 : ∀ x, evCode ty (gamOf g_impl_BuildFault_f1) j_impl_BuildFault_f1 (lamOf []) b_impl_BuildFault_f1 (sp_impl_BuildFault_f1.hd x) (finN ty sq_impl_BuildFault_f1 [.tmp 3]) = U_impl_BuildFault_f1 x := fun x => by kernel_rfl
theorem c_impl_BuildFault_f1 : FnS P 92 sp_impl_BuildFault_f1 sq_impl_BuildFault_f1 U_impl_BuildFault_f1 :=
  fnS_of_ev tyOk mixed gok_impl_BuildFault_f1 (fn := Tryz.f92) (by kernel_rfl) (c := b_impl_BuildFault_f1) (by kernel_rfl) (by kernel_rfl) (by kernel_rfl) (lam_ok (tab := []) (by kernel_rfl) lm0) e_impl_BuildFault_f1

/-! impl.BuildFault$2 -/
abbrev sp_impl_BuildFault_f2 : Sp := ⟨9, [(0, .val true k0), (1, .fix (.ptr 60000 0))], [(60000, [.fix (.fn 92 [(60001, 0)])]), (60001, [.val (.int .i64), .val (.sl k0), .val (.sl (.int .i64)), .val (.sl (.int .i64)), .val (.sl (.int .i64)), .val (.sl (.int .i64)), .val (.sl (.int .i64)), .val (.int .i64), .val (.int .i64)])], []⟩
abbrev sq_impl_BuildFault_f2 : Sp := ⟨1, [(0, .val false .bool)], [(60000, [.fix (.fn 92 [(60001, 0)])]), (60001, [.val (.int .i64), .val (.sl k0), .val (.sl (.int .i64)), .val (.sl (.int .i64)), .val (.sl (.int .i64)), .val (.sl (.int .i64)), .val (.sl (.int .i64)), .val (.int .i64), .val (.int .i64)])], []⟩
noncomputable def g_impl_BuildFault_f2 : List (FuncId × SumX) := [(92, xN sp_impl_BuildFault_f1 sq_impl_BuildFault_f1 U_impl_BuildFault_f1)]
def j_impl_BuildFault_f2 : Nat → Option (List (Nat × SS)) := jOf []
theorem gok_impl_BuildFault_f2 : GOk P (gamOf g_impl_BuildFault_f2) := gam_ok (tab := g_impl_BuildFault_f2) (gm1 (xN_ok c_impl_BuildFault_f1 rfl) gm0)
noncomputable abbrev b_impl_BuildFault_f2 : Code := bodyOf Tryz.f95
noncomputable def F_impl_BuildFault_f2 (x1 : K.T k0) (x2 : K.T (.int .i64)) (x3 : K.T (.sl k0)) (x4 : K.T (.sl (.int .i64))) (x5 : K.T (.sl (.int .i64))) (x6 : K.T (.sl (.int .i64))) (x7 : K.T (.sl (.int .i64))) (x8 : K.T (.sl (.int .i64))) (x9 : K.T (.int .i64)) (x10 : K.T (.int .i64)) : Option sq_impl_BuildFault_f2.T :=
  (F_impl_BuildFault_f1 x1.1 x2 x3 x4 x5 x6 x7 x8 x9 x10).bind fun y1 =>
  some (((!y1.1.1), ()), ((), ((y1.2.1.1.1, (y1.2.1.1.2.1, (y1.2.1.1.2.2.1, (y1.2.1.1.2.2.2.1, (y1.2.1.1.2.2.2.2.1, (y1.2.1.1.2.2.2.2.2.1, (y1.2.1.1.2.2.2.2.2.2.1, (y1.2.1.1.2.2.2.2.2.2.2.1, (y1.2.1.1.2.2.2.2.2.2.2.2.1, ()))))))))), ())), ())
noncomputable abbrev U_impl_BuildFault_f2 : sp_impl_BuildFault_f2.T → Option sq_impl_BuildFault_f2.T := fun x => F_impl_BuildFault_f2 x.1.1 x.2.1.2.1.1 x.2.1.2.1.2.1 x.2.1.2.1.2.2.1 x.2.1.2.1.2.2.2.1 x.2.1.2.1.2.2.2.2.1 x.2.1.2.1.2.2.2.2.2.1 x.2.1.2.1.2.2.2.2.2.2.1 x.2.1.2.1.2.2.2.2.2.2.2.1 x.2.1.2.1.2.2.2.2.2.2.2.2.1
theorem e_impl_BuildFault_f2 : ∀ x, evCode ty (gamOf g_impl_BuildFault_f2) j_impl_BuildFault_f2 (lamOf []) b_impl_BuildFault_f2 (sp_impl_BuildFault_f2.hd x) (finN ty sq_impl_BuildFault_f2 [.tmp 3]) = U_impl_BuildFault_f2 x := fun x => by kernel_rfl
theorem c_impl_BuildFault_f2 : FnS P 95 sp_impl_BuildFault_f2 sq_impl_BuildFault_f2 U_impl_BuildFault_f2 :=
  fnS_of_ev tyOk mixed gok_impl_BuildFault_f2 (fn := Tryz.f95) (by kernel_rfl) (c := b_impl_BuildFault_f2) (by kernel_rfl) (by kernel_rfl) (by kernel_rfl) (lam_ok (tab := []) (by kernel_rfl) lm0) e_impl_BuildFault_f2

/-! slices.IndexFunc[[]impl.Port,impl.Port] -/
abbrev sp_slices_IndexFunc_Port : Sp := ⟨19, [(0, .val false (.sl k0)), (1, .fix (.fn 95 [(60000, 0)]))], [(60000, [.fix (.fn 92 [(60001, 0)])]), (60001, [.val (.int .i64), .val (.sl k0), .val (.sl (.int .i64)), .val (.sl (.int .i64)), .val (.sl (.int .i64)), .val (.sl (.int .i64)), .val (.sl (.int .i64)), .val (.int .i64), .val (.int .i64)])], []⟩
abbrev sq_slices_IndexFunc_Port : Sp := ⟨1, [(0, .val false (.int .i64))], [(60000, [.fix (.fn 92 [(60001, 0)])]), (60001, [.val (.int .i64), .val (.sl k0), .val (.sl (.int .i64)), .val (.sl (.int .i64)), .val (.sl (.int .i64)), .val (.sl (.int .i64)), .val (.sl (.int .i64)), .val (.int .i64), .val (.int .i64)])], []⟩
noncomputable def g_slices_IndexFunc_Port : List (FuncId × SumX) := [(95, xN sp_impl_BuildFault_f2 sq_impl_BuildFault_f2 U_impl_BuildFault_f2)]
def j_slices_IndexFunc_Port : Nat → Option (List (Nat × SS)) := jOf []
theorem gok_slices_IndexFunc_Port : GOk P (gamOf g_slices_IndexFunc_Port) := gam_ok (tab := g_slices_IndexFunc_Port) (gm1 (xN_ok c_impl_BuildFault_f2 rfl) gm0)
noncomputable abbrev b_slices_IndexFunc_Port : Code := bodyOf Tryz.f134
abbrev sp_slices_IndexFunc_Port_l2 : Sp := ⟨19, [(0, .val false (.sl k0)), (1, .fix (.fn 95 [(60000, 0)])), (7, .val false (.int .i64)), (8, .val false (.int .i64))], [(60000, [.fix (.fn 92 [(60001, 0)])]), (60001, [.val (.int .i64), .val (.sl k0), .val (.sl (.int .i64)), .val (.sl (.int .i64)), .val (.sl (.int .i64)), .val (.sl (.int .i64)), .val (.sl (.int .i64)), .val (.int .i64), .val (.int .i64)])], []⟩
abbrev xs_slices_IndexFunc_Port_l2 : List (Ex × Sp) := [(.exit 0, ⟨19, [], [(60000, [.fix (.fn 92 [(60001, 0)])]), (60001, [.val (.int .i64), .val (.sl k0), .val (.sl (.int .i64)), .val (.sl (.int .i64)), .val (.sl (.int .i64)), .val (.sl (.int .i64)), .val (.sl (.int .i64)), .val (.int .i64), .val (.int .i64)])], []⟩), (.ret, ⟨19, [(4, .val false (.int .i64))], [(60000, [.fix (.fn 92 [(60001, 0)])]), (60001, [.val (.int .i64), .val (.sl k0), .val (.sl (.int .i64)), .val (.sl (.int .i64)), .val (.sl (.int .i64)), .val (.sl (.int .i64)), .val (.sl (.int .i64)), .val (.int .i64), .val (.int .i64)])], []⟩)]
noncomputable def s_slices_IndexFunc_Port_l2 : sp_slices_IndexFunc_Port_l2.T → Option (sp_slices_IndexFunc_Port_l2.T ⊕ XT xs_slices_IndexFunc_Port_l2) := fun x =>
  bif (decide (x.1.2.2.1 < x.1.2.1)) then
    (bif ib x.1.2.2.1 (x.1.1).length then
    (F_impl_BuildFault_f2 ((x.1.1).getD (Int.toNat x.1.2.2.1) (K.zero k0)) x.2.1.2.1.1 x.2.1.2.1.2.1 x.2.1.2.1.2.2.1 x.2.1.2.1.2.2.2.1 x.2.1.2.1.2.2.2.2.1 x.2.1.2.1.2.2.2.2.2.1 x.2.1.2.1.2.2.2.2.2.2.1 x.2.1.2.1.2.2.2.2.2.2.2.1 x.2.1.2.1.2.2.2.2.2.2.2.2.1).bind fun y1 =>
    bif y1.1.1 then
      (some (.inr (.inr ((x.1.2.2.1, ()), ((), ((y1.2.1.2.1.1, (y1.2.1.2.1.2.1, (y1.2.1.2.1.2.2.1, (y1.2.1.2.1.2.2.2.1, (y1.2.1.2.1.2.2.2.2.1, (y1.2.1.2.1.2.2.2.2.2.1, (y1.2.1.2.1.2.2.2.2.2.2.1, (y1.2.1.2.1.2.2.2.2.2.2.2.1, (y1.2.1.2.1.2.2.2.2.2.2.2.2.1, ()))))))))), ())), ()))))
    else
    some (.inl ((x.1.1, (x.1.2.1, ((IntKind.wrap .i64 (x.1.2.2.1 + (1 : Int))), ()))), ((), ((y1.2.1.2.1.1, (y1.2.1.2.1.2.1, (y1.2.1.2.1.2.2.1, (y1.2.1.2.1.2.2.2.1, (y1.2.1.2.1.2.2.2.2.1, (y1.2.1.2.1.2.2.2.2.2.1, (y1.2.1.2.1.2.2.2.2.2.2.1, (y1.2.1.2.1.2.2.2.2.2.2.2.1, (y1.2.1.2.1.2.2.2.2.2.2.2.2.1, ()))))))))), ())), ()))
    else none)
  else
  some (.inr (.inl ((), ((), ((x.2.1.2.1.1, (x.2.1.2.1.2.1, (x.2.1.2.1.2.2.1, (x.2.1.2.1.2.2.2.1, (x.2.1.2.1.2.2.2.2.1, (x.2.1.2.1.2.2.2.2.2.1, (x.2.1.2.1.2.2.2.2.2.2.1, (x.2.1.2.1.2.2.2.2.2.2.2.1, (x.2.1.2.1.2.2.2.2.2.2.2.2.1, ()))))))))), ())), ())))
noncomputable def l_slices_IndexFunc_Port_l2 : sp_slices_IndexFunc_Port_l2.T → Option (XT xs_slices_IndexFunc_Port_l2) := lim s_slices_IndexFunc_Port_l2
theorem es_slices_IndexFunc_Port_l2 : ∀ x, evCode ty (gamOf g_slices_IndexFunc_Port) j_slices_IndexFunc_Port (lamOf []) (loopAt b_slices_IndexFunc_Port 2) (sp_slices_IndexFunc_Port_l2.hd x) (rdK sp_slices_IndexFunc_Port_l2 xs_slices_IndexFunc_Port_l2) = s_slices_IndexFunc_Port_l2 x := fun x => by kernel_rfl
theorem ls_slices_IndexFunc_Port_l2 : LSumOk P (loopAt b_slices_IndexFunc_Port 2) (loopL sp_slices_IndexFunc_Port_l2 xs_slices_IndexFunc_Port_l2 l_slices_IndexFunc_Port_l2) := loop_ok tyOk mixed gok_slices_IndexFunc_Port (by kernel_rfl) (by kernel_rfl) (lam_ok (tab := []) (by kernel_rfl) lm0) es_slices_IndexFunc_Port_l2 lim_itr
noncomputable def F_slices_IndexFunc_Port (x1 : K.T (.sl k0)) (x2 : K.T (.int .i64)) (x3 : K.T (.sl k0)) (x4 : K.T (.sl (.int .i64))) (x5 : K.T (.sl (.int .i64))) (x6 : K.T (.sl (.int .i64))) (x7 : K.T (.sl (.int .i64))) (x8 : K.T (.sl (.int .i64))) (x9 : K.T (.int .i64)) (x10 : K.T (.int .i64)) : Option sq_slices_IndexFunc_Port.T :=
  (l_slices_IndexFunc_Port_l2 ((x1, (((x1).length : Int), ((0 : Int), ()))), ((), ((x2, (x3, (x4, (x5, (x6, (x7, (x8, (x9, (x10, ()))))))))), ())), ())).bind fun y2 =>
  (match y2 with
  | .inl y3 => some (((-1 : Int), ()), ((), ((y3.2.1.2.1.1, (y3.2.1.2.1.2.1, (y3.2.1.2.1.2.2.1, (y3.2.1.2.1.2.2.2.1, (y3.2.1.2.1.2.2.2.2.1, (y3.2.1.2.1.2.2.2.2.2.1, (y3.2.1.2.1.2.2.2.2.2.2.1, (y3.2.1.2.1.2.2.2.2.2.2.2.1, (y3.2.1.2.1.2.2.2.2.2.2.2.2.1, ()))))))))), ())), ())
  | .inr z4 => some ((z4.1.1, ()), ((), ((z4.2.1.2.1.1, (z4.2.1.2.1.2.1, (z4.2.1.2.1.2.2.1, (z4.2.1.2.1.2.2.2.1, (z4.2.1.2.1.2.2.2.2.1, (z4.2.1.2.1.2.2.2.2.2.1, (z4.2.1.2.1.2.2.2.2.2.2.1, (z4.2.1.2.1.2.2.2.2.2.2.2.1, (z4.2.1.2.1.2.2.2.2.2.2.2.2.1, ()))))))))), ())), ()))
noncomputable abbrev U_slices_IndexFunc_Port : sp_slices_IndexFunc_Port.T → Option sq_slices_IndexFunc_Port.T := fun x => F_slices_IndexFunc_Port x.1.1 x.2.1.2.1.1 x.2.1.2.1.2.1 x.2.1.2.1.2.2.1 x.2.1.2.1.2.2.2.1 x.2.1.2.1.2.2.2.2.1 x.2.1.2.1.2.2.2.2.2.1 x.2.1.2.1.2.2.2.2.2.2.1 x.2.1.2.1.2.2.2.2.2.2.2.1 x.2.1.2.1.2.2.2.2.2.2.2.2.1
theorem e_slices_IndexFunc_Port : ∀ x, evCode ty (gamOf g_slices_IndexFunc_Port) j_slices_IndexFunc_Port (lamOf [(2, loopL sp_slices_IndexFunc_Port_l2 xs_slices_IndexFunc_Port_l2 l_slices_IndexFunc_Port_l2)]) b_slices_IndexFunc_Port (sp_slices_IndexFunc_Port.hd x) (finN ty sq_slices_IndexFunc_Port [.tmp 4]) = U_slices_IndexFunc_Port x := fun x => by kernel_rfl
theorem c_slices_IndexFunc_Port : FnS P 134 sp_slices_IndexFunc_Port sq_slices_IndexFunc_Port U_slices_IndexFunc_Port :=
  fnS_of_ev tyOk mixed gok_slices_IndexFunc_Port (fn := Tryz.f134) (by kernel_rfl) (c := b_slices_IndexFunc_Port) (by kernel_rfl) (by kernel_rfl) (by kernel_rfl) (lam_ok (tab := [(2, loopL sp_slices_IndexFunc_Port_l2 xs_slices_IndexFunc_Port_l2 l_slices_IndexFunc_Port_l2)]) (by kernel_rfl) (lm1 @ls_slices_IndexFunc_Port_l2 lm0)) e_slices_IndexFunc_Port

/-! slices.ContainsFunc[[]impl.Port,impl.Port] -/
abbrev sp_slices_ContainsFunc_Port : Sp := ⟨9, [(0, .val false (.sl k0)), (1, .fix (.fn 95 [(60000, 0)]))], [(60000, [.fix (.fn 92 [(60001, 0)])]), (60001, [.val (.int .i64), .val (.sl k0), .val (.sl (.int .i64)), .val (.sl (.int .i64)), .val (.sl (.int .i64)), .val (.sl (.int .i64)), .val (.sl (.int .i64)), .val (.int .i64), .val (.int .i64)])], []⟩
abbrev sq_slices_ContainsFunc_Port : Sp := ⟨1, [(0, .val false .bool)], [(60000, [.fix (.fn 92 [(60001, 0)])]), (60001, [.val (.int .i64), .val (.sl k0), .val (.sl (.int .i64)), .val (.sl (.int .i64)), .val (.sl (.int .i64)), .val (.sl (.int .i64)), .val (.sl (.int .i64)), .val (.int .i64), .val (.int .i64)])], []⟩
noncomputable def g_slices_ContainsFunc_Port : List (FuncId × SumX) := [(134, xN sp_slices_IndexFunc_Port sq_slices_IndexFunc_Port U_slices_IndexFunc_Port)]
def j_slices_ContainsFunc_Port : Nat → Option (List (Nat × SS)) := jOf []
theorem gok_slices_ContainsFunc_Port : GOk P (gamOf g_slices_ContainsFunc_Port) := gam_ok (tab := g_slices_ContainsFunc_Port) (gm1 (xN_ok c_slices_IndexFunc_Port rfl) gm0)
noncomputable abbrev b_slices_ContainsFunc_Port : Code := bodyOf Tryz.f94
noncomputable def F_slices_ContainsFunc_Port (x1 : K.T (.sl k0)) (x2 : K.T (.int .i64)) (x3 : K.T (.sl k0)) (x4 : K.T (.sl (.int .i64))) (x5 : K.T (.sl (.int .i64))) (x6 : K.T (.sl (.int .i64))) (x7 : K.T (.sl (.int .i64))) (x8 : K.T (.sl (.int .i64))) (x9 : K.T (.int .i64)) (x10 : K.T (.int .i64)) : Option sq_slices_ContainsFunc_Port.T :=
  (F_slices_IndexFunc_Port x1 x2 x3 x4 x5 x6 x7 x8 x9 x10).bind fun y1 =>
  some (((decide (y1.1.1 ≥ (0 : Int))), ()), ((), ((y1.2.1.2.1.1, (y1.2.1.2.1.2.1, (y1.2.1.2.1.2.2.1, (y1.2.1.2.1.2.2.2.1, (y1.2.1.2.1.2.2.2.2.1, (y1.2.1.2.1.2.2.2.2.2.1, (y1.2.1.2.1.2.2.2.2.2.2.1, (y1.2.1.2.1.2.2.2.2.2.2.2.1, (y1.2.1.2.1.2.2.2.2.2.2.2.2.1, ()))))))))), ())), ())
noncomputable abbrev U_slices_ContainsFunc_Port : sp_slices_ContainsFunc_Port.T → Option sq_slices_ContainsFunc_Port.T := fun x => F_slices_ContainsFunc_Port x.1.1 x.2.1.2.1.1 x.2.1.2.1.2.1 x.2.1.2.1.2.2.1 x.2.1.2.1.2.2.2.1 x.2.1.2.1.2.2.2.2.1 x.2.1.2.1.2.2.2.2.2.1 x.2.1.2.1.2.2.2.2.2.2.1 x.2.1.2.1.2.2.2.2.2.2.2.1 x.2.1.2.1.2.2.2.2.2.2.2.2.1
theorem e_slices_ContainsFunc_Port : ∀ x, evCode ty (gamOf g_slices_ContainsFunc_Port) j_slices_ContainsFunc_Port (lamOf []) b_slices_ContainsFunc_Port (sp_slices_ContainsFunc_Port.hd x) (finN ty sq_slices_ContainsFunc_Port [.tmp 4]) = U_slices_ContainsFunc_Port x := fun x => by kernel_rfl
theorem c_slices_ContainsFunc_Port : FnS P 94 sp_slices_ContainsFunc_Port sq_slices_ContainsFunc_Port U_slices_ContainsFunc_Port :=
  fnS_of_ev tyOk mixed gok_slices_ContainsFunc_Port (fn := Tryz.f94) (by kernel_rfl) (c := b_slices_ContainsFunc_Port) (by kernel_rfl) (by kernel_rfl) (by kernel_rfl) (lam_ok (tab := []) (by kernel_rfl) lm0) e_slices_ContainsFunc_Port

/-! impl.BuildFault$3 -/
abbrev sp_impl_BuildFault_f3 : Sp := ⟨8, [(0, .val false (.int .i64)), (1, .fix (.ptr 60000 0))], [(60000, [.fix (.fn 92 [(60001, 0)])]), (60001, [.val (.int .i64), .val (.sl k0), .val (.sl (.int .i64)), .val (.sl (.int .i64)), .val (.sl (.int .i64)), .val (.sl (.int .i64)), .val (.sl (.int .i64)), .val (.int .i64), .val (.int .i64)])], []⟩
abbrev sq_impl_BuildFault_f3 : Sp := ⟨1, [(0, .val false .bool)], [(60000, [.fix (.fn 92 [(60001, 0)])]), (60001, [.val (.int .i64), .val (.sl k0), .val (.sl (.int .i64)), .val (.sl (.int .i64)), .val (.sl (.int .i64)), .val (.sl (.int .i64)), .val (.sl (.int .i64)), .val (.int .i64), .val (.int .i64)])], []⟩
noncomputable def g_impl_BuildFault_f3 : List (FuncId × SumX) := [(92, xN sp_impl_BuildFault_f1 sq_impl_BuildFault_f1 U_impl_BuildFault_f1)]
def j_impl_BuildFault_f3 : Nat → Option (List (Nat × SS)) := jOf []
theorem gok_impl_BuildFault_f3 : GOk P (gamOf g_impl_BuildFault_f3) := gam_ok (tab := g_impl_BuildFault_f3) (gm1 (xN_ok c_impl_BuildFault_f1 rfl) gm0)
noncomputable abbrev b_impl_BuildFault_f3 : Code := bodyOf Tryz.f97
noncomputable def F_impl_BuildFault_f3 (x1 : K.T (.int .i64)) (x2 : K.T (.int .i64)) (x3 : K.T (.sl k0)) (x4 : K.T (.sl (.int .i64))) (x5 : K.T (.sl (.int .i64))) (x6 : K.T (.sl (.int .i64))) (x7 : K.T (.sl (.int .i64))) (x8 : K.T (.sl (.int .i64))) (x9 : K.T (.int .i64)) (x10 : K.T (.int .i64)) : Option sq_impl_BuildFault_f3.T :=
  (F_impl_BuildFault_f1 x1 x2 x3 x4 x5 x6 x7 x8 x9 x10).bind fun y1 =>
  some (((!y1.1.1), ()), ((), ((y1.2.1.1.1, (y1.2.1.1.2.1, (y1.2.1.1.2.2.1, (y1.2.1.1.2.2.2.1, (y1.2.1.1.2.2.2.2.1, (y1.2.1.1.2.2.2.2.2.1, (y1.2.1.1.2.2.2.2.2.2.1, (y1.2.1.1.2.2.2.2.2.2.2.1, (y1.2.1.1.2.2.2.2.2.2.2.2.1, ()))))))))), ())), ())
noncomputable abbrev U_impl_BuildFault_f3 : sp_impl_BuildFault_f3.T → Option sq_impl_BuildFault_f3.T := fun x => F_impl_BuildFault_f3 x.1.1 x.2.1.2.1.1 x.2.1.2.1.2.1 x.2.1.2.1.2.2.1 x.2.1.2.1.2.2.2.1 x.2.1.2.1.2.2.2.2.1 x.2.1.2.1.2.2.2.2.2.1 x.2.1.2.1.2.2.2.2.2.2.1 x.2.1.2.1.2.2.2.2.2.2.2.1 x.2.1.2.1.2.2.2.2.2.2.2.2.1
theorem e_impl_BuildFault_f3 : ∀ x, evCode ty (gamOf g_impl_BuildFault_f3) j_impl_BuildFault_f3 (lamOf []) b_impl_BuildFault_f3 (sp_impl_BuildFault_f3.hd x) (finN ty sq_impl_BuildFault_f3 [.tmp 3]) = U_impl_BuildFault_f3 x := fun x => by kernel_rfl
theorem c_impl_BuildFault_f3 : FnS P 97 sp_impl_BuildFault_f3 sq_impl_BuildFault_f3 U_impl_BuildFault_f3 :=
  fnS_of_ev tyOk mixed gok_impl_BuildFault_f3 (fn := Tryz.f97) (by kernel_rfl) (c := b_impl_BuildFault_f3) (by kernel_rfl) (by kernel_rfl) (by kernel_rfl) (lam_ok (tab := []) (by kernel_rfl) lm0) e_impl_BuildFault_f3

/-! slices.IndexFunc[[]int64,int64] -/
abbrev sp_slices_IndexFunc_int64 : Sp := ⟨19, [(0, .val false (.sl (.int .i64))), (1, .fix (.fn 97 [(60000, 0)]))], [(60000, [.fix (.fn 92 [(60001, 0)])]), (60001, [.val (.int .i64), .val (.sl k0), .val (.sl (.int .i64)), .val (.sl (.int .i64)), .val (.sl (.int .i64)), .val (.sl (.int .i64)), .val (.sl (.int .i64)), .val (.int .i64), .val (.int .i64)])], []⟩
abbrev sq_slices_IndexFunc_int64 : Sp := ⟨1, [(0, .val false (.int .i64))], [(60000, [.fix (.fn 92 [(60001, 0)])]), (60001, [.val (.int .i64), .val (.sl k0), .val (.sl (.int .i64)), .val (.sl (.int .i64)), .val (.sl (.int .i64)), .val (.sl (.int .i64)), .val (.sl (.int .i64)), .val (.int .i64), .val (.int .i64)])], []⟩
noncomputable def g_slices_IndexFunc_int64 : List (FuncId × SumX) := [(97, xN sp_impl_BuildFault_f3 sq_impl_BuildFault_f3 U_impl_BuildFault_f3)]
def j_slices_IndexFunc_int64 : Nat → Option (List (Nat × SS)) := jOf []
theorem gok_slices_IndexFunc_int64 : GOk P (gamOf g_slices_IndexFunc_int64) := gam_ok (tab := g_slices_IndexFunc_int64) (gm1 (xN_ok c_impl_BuildFault_f3 rfl) gm0)
noncomputable abbrev b_slices_IndexFunc_int64 : Code := bodyOf Tryz.f135
abbrev sp_slices_IndexFunc_int64_l2 : Sp := ⟨19, [(0, .val false (.sl (.int .i64))), (1, .fix (.fn 97 [(60000, 0)])), (7, .val false (.int .i64)), (8, .val false (.int .i64))], [(60000, [.fix (.fn 92 [(60001, 0)])]), (60001, [.val (.int .i64), .val (.sl k0), .val (.sl (.int .i64)), .val (.sl (.int .i64)), .val (.sl (.int .i64)), .val (.sl (.int .i64)), .val (.sl (.int .i64)), .val (.int .i64), .val (.int .i64)])], []⟩
abbrev xs_slices_IndexFunc_int64_l2 : List (Ex × Sp) := [(.exit 0, ⟨19, [], [(60000, [.fix (.fn 92 [(60001, 0)])]), (60001, [.val (.int .i64), .val (.sl k0), .val (.sl (.int .i64)), .val (.sl (.int .i64)), .val (.sl (.int .i64)), .val (.sl (.int .i64)), .val (.sl (.int .i64)), .val (.int .i64), .val (.int .i64)])], []⟩), (.ret, ⟨19, [(4, .val false (.int .i64))], [(60000, [.fix (.fn 92 [(60001, 0)])]), (60001, [.val (.int .i64), .val (.sl k0), .val (.sl (.int .i64)), .val (.sl (.int .i64)), .val (.sl (.int .i64)), .val (.sl (.int .i64)), .val (.sl (.int .i64)), .val (.int .i64), .val (.int .i64)])], []⟩)]
noncomputable def s_slices_IndexFunc_int64_l2 : sp_slices_IndexFunc_int64_l2.T → Option (sp_slices_IndexFunc_int64_l2.T ⊕ XT xs_slices_IndexFunc_int64_l2) := fun x =>
  bif (decide (x.1.2.2.1 < x.1.2.1)) then
    (bif ib x.1.2.2.1 (x.1.1).length then
    (F_impl_BuildFault_f3 ((x.1.1).getD (Int.toNat x.1.2.2.1) (K.zero (.int .i64))) x.2.1.2.1.1 x.2.1.2.1.2.1 x.2.1.2.1.2.2.1 x.2.1.2.1.2.2.2.1 x.2.1.2.1.2.2.2.2.1 x.2.1.2.1.2.2.2.2.2.1 x.2.1.2.1.2.2.2.2.2.2.1 x.2.1.2.1.2.2.2.2.2.2.2.1 x.2.1.2.1.2.2.2.2.2.2.2.2.1).bind fun y1 =>
    bif y1.1.1 then
      (some (.inr (.inr ((x.1.2.2.1, ()), ((), ((y1.2.1.2.1.1, (y1.2.1.2.1.2.1, (y1.2.1.2.1.2.2.1, (y1.2.1.2.1.2.2.2.1, (y1.2.1.2.1.2.2.2.2.1, (y1.2.1.2.1.2.2.2.2.2.1, (y1.2.1.2.1.2.2.2.2.2.2.1, (y1.2.1.2.1.2.2.2.2.2.2.2.1, (y1.2.1.2.1.2.2.2.2.2.2.2.2.1, ()))))))))), ())), ()))))
    else
    some (.inl ((x.1.1, (x.1.2.1, ((IntKind.wrap .i64 (x.1.2.2.1 + (1 : Int))), ()))), ((), ((y1.2.1.2.1.1, (y1.2.1.2.1.2.1, (y1.2.1.2.1.2.2.1, (y1.2.1.2.1.2.2.2.1, (y1.2.1.2.1.2.2.2.2.1, (y1.2.1.2.1.2.2.2.2.2.1, (y1.2.1.2.1.2.2.2.2.2.2.1, (y1.2.1.2.1.2.2.2.2.2.2.2.1, (y1.2.1.2.1.2.2.2.2.2.2.2.2.1, ()))))))))), ())), ()))
    else none)
  else
  some (.inr (.inl ((), ((), ((x.2.1.2.1.1, (x.2.1.2.1.2.1, (x.2.1.2.1.2.2.1, (x.2.1.2.1.2.2.2.1, (x.2.1.2.1.2.2.2.2.1, (x.2.1.2.1.2.2.2.2.2.1, (x.2.1.2.1.2.2.2.2.2.2.1, (x.2.1.2.1.2.2.2.2.2.2.2.1, (x.2.1.2.1.2.2.2.2.2.2.2.2.1, ()))))))))), ())), ())))
noncomputable def l_slices_IndexFunc_int64_l2 : sp_slices_IndexFunc_int64_l2.T → Option (XT xs_slices_IndexFunc_int64_l2) := lim s_slices_IndexFunc_int64_l2
theorem es_slices_IndexFunc_int64_l2 : ∀ x, evCode ty (gamOf g_slices_IndexFunc_int64) j_slices_IndexFunc_int64 (lamOf []) (loopAt b_slices_IndexFunc_int64 2) (sp_slices_IndexFunc_int64_l2.hd x) (rdK sp_slices_IndexFunc_int64_l2 xs_slices_IndexFunc_int64_l2) = s_slices_IndexFunc_int64_l2 x := fun x => by kernel_rfl
theorem ls_slices_IndexFunc_int64_l2 : LSumOk P (loopAt b_slices_IndexFunc_int64 2) (loopL sp_slices_IndexFunc_int64_l2 xs_slices_IndexFunc_int64_l2 l_slices_IndexFunc_int64_l2) := loop_ok tyOk mixed gok_slices_IndexFunc_int64 (by kernel_rfl) (by kernel_rfl) (lam_ok (tab := []) (by kernel_rfl) lm0) es_slices_IndexFunc_int64_l2 lim_itr
noncomputable def F_slices_IndexFunc_int64 (x1 : K.T (.sl (.int .i64))) (x2 : K.T (.int .i64)) (x3 : K.T (.sl k0)) (x4 : K.T (.sl (.int .i64))) (x5 : K.T (.sl (.int .i64))) (x6 : K.T (.sl (.int .i64))) (x7 : K.T (.sl (.int .i64))) (x8 : K.T (.sl (.int .i64))) (x9 : K.T (.int .i64)) (x10 : K.T (.int .i64)) : Option sq_slices_IndexFunc_int64.T :=
  (l_slices_IndexFunc_int64_l2 ((x1, (((x1).length : Int), ((0 : Int), ()))), ((), ((x2, (x3, (x4, (x5, (x6, (x7, (x8, (x9, (x10, ()))))))))), ())), ())).bind fun y2 =>
  (match y2 with
  | .inl y3 => some (((-1 : Int), ()), ((), ((y3.2.1.2.1.1, (y3.2.1.2.1.2.1, (y3.2.1.2.1.2.2.1, (y3.2.1.2.1.2.2.2.1, (y3.2.1.2.1.2.2.2.2.1, (y3.2.1.2.1.2.2.2.2.2.1, (y3.2.1.2.1.2.2.2.2.2.2.1, (y3.2.1.2.1.2.2.2.2.2.2.2.1, (y3.2.1.2.1.2.2.2.2.2.2.2.2.1, ()))))))))), ())), ())
  | .inr z4 => some ((z4.1.1, ()), ((), ((z4.2.1.2.1.1, (z4.2.1.2.1.2.1, (z4.2.1.2.1.2.2.1, (z4.2.1.2.1.2.2.2.1, (z4.2.1.2.1.2.2.2.2.1, (z4.2.1.2.1.2.2.2.2.2.1, (z4.2.1.2.1.2.2.2.2.2.2.1, (z4.2.1.2.1.2.2.2.2.2.2.2.1, (z4.2.1.2.1.2.2.2.2.2.2.2.2.1, ()))))))))), ())), ()))
noncomputable abbrev U_slices_IndexFunc_int64 : sp_slices_IndexFunc_int64.T → Option sq_slices_IndexFunc_int64.T := fun x => F_slices_IndexFunc_int64 x.1.1 x.2.1.2.1.1 x.2.1.2.1.2.1 x.2.1.2.1.2.2.1 x.2.1.2.1.2.2.2.1 x.2.1.2.1.2.2.2.2.1 x.2.1.2.1.2.2.2.2.2.1 x.2.1.2.1.2.2.2.2.2.2.1 x.2.1.2.1.2.2.2.2.2.2.2.1 x.2.1.2.1.2.2.2.2.2.2.2.2.1
theorem e_slices_IndexFunc_int64 : ∀ x, evCode ty (gamOf g_slices_IndexFunc_int64) j_slices_IndexFunc_int64 (lamOf [(2, loopL sp_slices_IndexFunc_int64_l2 xs_slices_IndexFunc_int64_l2 l_slices_IndexFunc_int64_l2)]) b_slices_IndexFunc_int64 (sp_slices_IndexFunc_int64.hd x) (finN ty sq_slices_IndexFunc_int64 [.tmp 4]) = U_slices_IndexFunc_int64 x := fun x => by kernel_rfl
theorem c_slices_IndexFunc_int64 : FnS P 135 sp_slices_IndexFunc_int64 sq_slices_IndexFunc_int64 U_slices_IndexFunc_int64 :=
  fnS_of_ev tyOk mixed gok_slices_IndexFunc_int64 (fn := Tryz.f135) (by kernel_rfl) (c := b_slices_IndexFunc_int64) (by kernel_rfl) (by kernel_rfl) (by kernel_rfl) (lam_ok (tab := [(2, loopL sp_slices_IndexFunc_int64_l2 xs_slices_IndexFunc_int64_l2 l_slices_IndexFunc_int64_l2)]) (by kernel_rfl) (lm1 @ls_slices_IndexFunc_int64_l2 lm0)) e_slices_IndexFunc_int64

/-! slices.ContainsFunc[[]int64,int64] -/
abbrev sp_slices_ContainsFunc_int64 : Sp := ⟨9, [(0, .val false (.sl (.int .i64))), (1, .fix (.fn 97 [(60000, 0)]))], [(60000, [.fix (.fn 92 [(60001, 0)])]), (60001, [.val (.int .i64), .val (.sl k0), .val (.sl (.int .i64)), .val (.sl (.int .i64)), .val (.sl (.int .i64)), .val (.sl (.int .i64)), .val (.sl (.int .i64)), .val (.int .i64), .val (.int .i64)])], []⟩
abbrev sq_slices_ContainsFunc_int64 : Sp := ⟨1, [(0, .val false .bool)], [(60000, [.fix (.fn 92 [(60001, 0)])]), (60001, [.val (.int .i64), .val (.sl k0), .val (.sl (.int .i64)), .val (.sl (.int .i64)), .val (.sl (.int .i64)), .val (.sl (.int .i64)), .val (.sl (.int .i64)), .val (.int .i64), .val (.int .i64)])], []⟩
noncomputable def g_slices_ContainsFunc_int64 : List (FuncId × SumX) := [(135, xN sp_slices_IndexFunc_int64 sq_slices_IndexFunc_int64 U_slices_IndexFunc_int64)]
def j_slices_ContainsFunc_int64 : Nat → Option (List (Nat × SS)) := jOf []
theorem gok_slices_ContainsFunc_int64 : GOk P (gamOf g_slices_ContainsFunc_int64) := gam_ok (tab := g_slices_ContainsFunc_int64) (gm1 (xN_ok c_slices_IndexFunc_int64 rfl) gm0)
noncomputable abbrev b_slices_ContainsFunc_int64 : Code := bodyOf Tryz.f96
noncomputable def F_slices_ContainsFunc_int64 (x1 : K.T (.sl (.int .i64))) (x2 : K.T (.int .i64)) (x3 : K.T (.sl k0)) (x4 : K.T (.sl (.int .i64))) (x5 : K.T (.sl (.int .i64))) (x6 : K.T (.sl (.int .i64))) (x7 : K.T (.sl (.int .i64))) (x8 : K.T (.sl (.int .i64))) (x9 : K.T (.int .i64)) (x10 : K.T (.int .i64)) : Option sq_slices_ContainsFunc_int64.T :=
  (F_slices_IndexFunc_int64 x1 x2 x3 x4 x5 x6 x7 x8 x9 x10).bind fun y1 =>
  some (((decide (y1.1.1 ≥ (0 : Int))), ()), ((), ((y1.2.1.2.1.1, (y1.2.1.2.1.2.1, (y1.2.1.2.1.2.2.1, (y1.2.1.2.1.2.2.2.1, (y1.2.1.2.1.2.2.2.2.1, (y1.2.1.2.1.2.2.2.2.2.1, (y1.2.1.2.1.2.2.2.2.2.2.1, (y1.2.1.2.1.2.2.2.2.2.2.2.1, (y1.2.1.2.1.2.2.2.2.2.2.2.2.1, ()))))))))), ())), ())
noncomputable abbrev U_slices_ContainsFunc_int64 : sp_slices_ContainsFunc_int64.T → Option sq_slices_ContainsFunc_int64.T := fun x => F_slices_ContainsFunc_int64 x.1.1 x.2.1.2.1.1 x.2.1.2.1.2.1 x.2.1.2.1.2.2.1 x.2.1.2.1.2.2.2.1 x.2.1.2.1.2.2.2.2.1 x.2.1.2.1.2.2.2.2.2.1 x.2.1.2.1.2.2.2.2.2.2.1 x.2.1.2.1.2.2.2.2.2.2.2.1 x.2.1.2.1.2.2.2.2.2.2.2.2.1
theorem e_slices_ContainsFunc_int64 : ∀ x, evCode ty (gamOf g_slices_ContainsFunc_int64) j_slices_ContainsFunc_int64 (lamOf []) b_slices_ContainsFunc_int64 (sp_slices_ContainsFunc_int64.hd x) (finN ty sq_slices_ContainsFunc_int64 [.tmp 4]) = U_slices_ContainsFunc_int64 x := fun x => by kernel_rfl
theorem c_slices_ContainsFunc_int64 : FnS P 96 sp_slices_ContainsFunc_int64 sq_slices_ContainsFunc_int64 U_slices_ContainsFunc_int64 :=
  fnS_of_ev tyOk mixed gok_slices_ContainsFunc_int64 (fn := Tryz.f96) (by kernel_rfl) (c := b_slices_ContainsFunc_int64) (by kernel_rfl) (by kernel_rfl) (by kernel_rfl) (lam_ok (tab := []) (by kernel_rfl) lm0) e_slices_ContainsFunc_int64

/-! impl.isWord -/
abbrev sp_impl_isWord : Sp := ⟨5, [(0, .val false (.int .i64))], [], []⟩
abbrev sq_impl_isWord : Sp := ⟨1, [(0, .val false .bool)], [], []⟩
noncomputable def g_impl_isWord : List (FuncId × SumX) := [(93, cN sp_impl_within sq_impl_within U_impl_within)]
def j_impl_isWord : Nat → Option (List (Nat × SS)) := jOf []
theorem gok_impl_isWord : GOk P (gamOf g_impl_isWord) := gam_ok (tab := g_impl_isWord) (gm1 (cN_ok c_impl_within rfl) gm0)
noncomputable abbrev b_impl_isWord : Code := bodyOf Tryz.f101
noncomputable def F_impl_isWord (x1 : K.T (.int .i64)) : Option sq_impl_isWord.T :=
  (F_impl_within x1 (0 : Int) (65535 : Int)).bind fun y1 =>
  some ((y1.1.1, ()), (), ())
noncomputable abbrev U_impl_isWord : sp_impl_isWord.T → Option sq_impl_isWord.T := fun x => F_impl_isWord x.1.1
theorem e_impl_isWord : ∀ x, evCode ty (gamOf g_impl_isWord) j_impl_isWord (lamOf []) b_impl_isWord (sp_impl_isWord.hd x) (finN ty sq_impl_isWord [.tmp 2]) = U_impl_isWord x := fun x => by kernel_rfl
theorem c_impl_isWord : FnS P 101 sp_impl_isWord sq_impl_isWord U_impl_isWord :=
  fnS_of_ev tyOk mixed gok_impl_isWord (fn := Tryz.f101) (by kernel_rfl) (c := b_impl_isWord) (by kernel_rfl) (by kernel_rfl) (by kernel_rfl) (lam_ok (tab := []) (by kernel_rfl) lm0) e_impl_isWord

/-! impl.areWords -/
abbrev sp_impl_areWords : Sp := ⟨15, [(0, .val false (.sl (.int .i64)))], [], []⟩
abbrev sq_impl_areWords : Sp := ⟨1, [(0, .val false .bool)], [], []⟩
noncomputable def g_impl_areWords : List (FuncId × SumX) := [(101, cN sp_impl_isWord sq_impl_isWord U_impl_isWord)]
def j_impl_areWords : Nat → Option (List (Nat × SS)) := jOf []
theorem gok_impl_areWords : GOk P (gamOf g_impl_areWords) := gam_ok (tab := g_impl_areWords) (gm1 (cN_ok c_impl_isWord rfl) gm0)
noncomputable abbrev b_impl_areWords : Code := bodyOf Tryz.f50
abbrev sp_impl_areWords_l2 : Sp := ⟨15, [(5, .val false (.sl (.int .i64))), (6, .val false (.int .i64)), (7, .val false (.int .i64))], [], []⟩
abbrev xs_impl_areWords_l2 : List (Ex × Sp) := [(.exit 0, ⟨15, [], [], []⟩), (.ret, ⟨15, [(2, .val false .bool)], [], []⟩)]
noncomputable def s_impl_areWords_l2 : sp_impl_areWords_l2.T → Option (sp_impl_areWords_l2.T ⊕ XT xs_impl_areWords_l2) := fun x =>
  bif (decide (x.1.2.2.1 < x.1.2.1)) then
    (bif ib x.1.2.2.1 (x.1.1).length then
    (F_impl_isWord ((x.1.1).getD (Int.toNat x.1.2.2.1) (K.zero (.int .i64)))).bind fun y1 =>
    bif (!y1.1.1) then
      (some (.inr (.inr ((false, ()), (), ()))))
    else
    some (.inl ((x.1.1, (x.1.2.1, ((IntKind.wrap .i64 (x.1.2.2.1 + (1 : Int))), ()))), (), ()))
    else none)
  else
  some (.inr (.inl ((), (), ())))
noncomputable def l_impl_areWords_l2 : sp_impl_areWords_l2.T → Option (XT xs_impl_areWords_l2) := lim s_impl_areWords_l2
theorem es_impl_areWords_l2 : ∀ x, evCode ty (gamOf g_impl_areWords) j_impl_areWords (lamOf []) (loopAt b_impl_areWords 2) (sp_impl_areWords_l2.hd x) (rdK sp_impl_areWords_l2 xs_impl_areWords_l2) = s_impl_areWords_l2 x := fun x => by kernel_rfl
theorem ls_impl_areWords_l2 : LSumOk P (loopAt b_impl_areWords 2) (loopL sp_impl_areWords_l2 xs_impl_areWords_l2 l_impl_areWords_l2) := loop_ok tyOk mixed gok_impl_areWords (by kernel_rfl) (by kernel_rfl) (lam_ok (tab := []) (by kernel_rfl) lm0) es_impl_areWords_l2 lim_itr
noncomputable def F_impl_areWords (x1 : K.T (.sl (.int .i64))) : Option sq_impl_areWords.T :=
  (l_impl_areWords_l2 ((x1, (((x1).length : Int), ((0 : Int), ()))), (), ())).bind fun y2 =>
  (match y2 with
  | .inl y3 => some ((true, ()), (), ())
  | .inr z4 => some ((z4.1.1, ()), (), ()))
noncomputable abbrev U_impl_areWords : sp_impl_areWords.T → Option sq_impl_areWords.T := fun x => F_impl_areWords x.1.1
theorem e_impl_areWords : ∀ x, evCode ty (gamOf g_impl_areWords) j_impl_areWords (lamOf [(2, loopL sp_impl_areWords_l2 xs_impl_areWords_l2 l_impl_areWords_l2)]) b_impl_areWords (sp_impl_areWords.hd x) (finN ty sq_impl_areWords [.tmp 2]) = U_impl_areWords x := fun x => by kernel_rfl
theorem c_impl_areWords : FnS P 50 sp_impl_areWords sq_impl_areWords U_impl_areWords :=
  fnS_of_ev tyOk mixed gok_impl_areWords (fn := Tryz.f50) (by kernel_rfl) (c := b_impl_areWords) (by kernel_rfl) (by kernel_rfl) (by kernel_rfl) (lam_ok (tab := [(2, loopL sp_impl_areWords_l2 xs_impl_areWords_l2 l_impl_areWords_l2)]) (by kernel_rfl) (lm1 @ls_impl_areWords_l2 lm0)) e_impl_areWords

/-! impl.WordsFault -/
abbrev sp_impl_WordsFault : Sp := ⟨11, [(0, .val false (.sl (.int .i64)))], [], []⟩
abbrev sq_impl_WordsFault : Sp := ⟨1, [(0, .val false (.int .i64))], [], []⟩
noncomputable def g_impl_WordsFault : List (FuncId × SumX) := [(50, cN sp_impl_areWords sq_impl_areWords U_impl_areWords)]
def j_impl_WordsFault : Nat → Option (List (Nat × SS)) := jOf []
theorem gok_impl_WordsFault : GOk P (gamOf g_impl_WordsFault) := gam_ok (tab := g_impl_WordsFault) (gm1 (cN_ok c_impl_areWords rfl) gm0)
noncomputable abbrev b_impl_WordsFault : Code := bodyOf Tryz.f98
noncomputable def F_impl_WordsFault (x1 : K.T (.sl (.int .i64))) : Option sq_impl_WordsFault.T :=
  bif (decide (((x1).length : Int) > (400 : Int))) then
    (some (((2 : Int), ()), (), ()))
  else
  (F_impl_areWords x1).bind fun y1 =>
  bif (!y1.1.1) then
    (some (((3 : Int), ()), (), ()))
  else
  some (((0 : Int), ()), (), ())
noncomputable abbrev U_impl_WordsFault : sp_impl_WordsFault.T → Option sq_impl_WordsFault.T := fun x => F_impl_WordsFault x.1.1
theorem e_impl_WordsFault : ∀ x, evCode ty (gamOf g_impl_WordsFault) j_impl_WordsFault (lamOf []) b_impl_WordsFault (sp_impl_WordsFault.hd x) (finN ty sq_impl_WordsFault [.tmp 2]) = U_impl_WordsFault x := fun x => by kernel_rfl
theorem c_impl_WordsFault : FnS P 98 sp_impl_WordsFault sq_impl_WordsFault U_impl_WordsFault :=
  fnS_of_ev tyOk mixed gok_impl_WordsFault (fn := Tryz.f98) (by kernel_rfl) (c := b_impl_WordsFault) (by kernel_rfl) (by kernel_rfl) (by kernel_rfl) (lam_ok (tab := []) (by kernel_rfl) lm0) e_impl_WordsFault

/-! slices.Equal[[]int64,int64] -/
abbrev sp_slices_Equal_int64 : Sp := ⟨26, [(0, .val false (.sl (.int .i64))), (1, .val false (.sl (.int .i64)))], [], []⟩
abbrev sq_slices_Equal_int64 : Sp := ⟨1, [(0, .val false .bool)], [], []⟩
noncomputable def g_slices_Equal_int64 : List (FuncId × SumX) := []
def j_slices_Equal_int64 : Nat → Option (List (Nat × SS)) := jOf []
theorem gok_slices_Equal_int64 : GOk P (gamOf g_slices_Equal_int64) := gam_ok (tab := g_slices_Equal_int64) gm0
noncomputable abbrev b_slices_Equal_int64 : Code := bodyOf Tryz.f99
abbrev sp_slices_Equal_int64_l4 : Sp := ⟨26, [(0, .val false (.sl (.int .i64))), (1, .val false (.sl (.int .i64))), (12, .val false (.int .i64)), (13, .val false (.int .i64))], [], []⟩
abbrev xs_slices_Equal_int64_l4 : List (Ex × Sp) := [(.exit 0, ⟨26, [], [], []⟩), (.ret, ⟨26, [(4, .val false .bool)], [], []⟩)]
noncomputable def s_slices_Equal_int64_l4 : sp_slices_Equal_int64_l4.T → Option (sp_slices_Equal_int64_l4.T ⊕ XT xs_slices_Equal_int64_l4) := fun x =>
  bif (decide (x.1.2.2.2.1 < x.1.2.2.1)) then
    (bif ib x.1.2.2.2.1 (x.1.1).length then
    bif ib x.1.2.2.2.1 (x.1.2.1).length then
    bif (((x.1.1).getD (Int.toNat x.1.2.2.2.1) (K.zero (.int .i64))) != ((x.1.2.1).getD (Int.toNat x.1.2.2.2.1) (K.zero (.int .i64)))) then
      (some (.inr (.inr ((false, ()), (), ()))))
    else
    some (.inl ((x.1.1, (x.1.2.1, (x.1.2.2.1, ((IntKind.wrap .i64 (x.1.2.2.2.1 + (1 : Int))), ())))), (), ()))
    else none
    else none)
  else
  some (.inr (.inl ((), (), ())))
noncomputable def l_slices_Equal_int64_l4 : sp_slices_Equal_int64_l4.T → Option (XT xs_slices_Equal_int64_l4) := lim s_slices_Equal_int64_l4
theorem es_slices_Equal_int64_l4 : ∀ x, evCode ty (gamOf g_slices_Equal_int64) j_slices_Equal_int64 (lamOf []) (loopAt b_slices_Equal_int64 4) (sp_slices_Equal_int64_l4.hd x) (rdK sp_slices_Equal_int64_l4 xs_slices_Equal_int64_l4) = s_slices_Equal_int64_l4 x := fun x => by kernel_rfl
theorem ls_slices_Equal_int64_l4 : LSumOk P (loopAt b_slices_Equal_int64 4) (loopL sp_slices_Equal_int64_l4 xs_slices_Equal_int64_l4 l_slices_Equal_int64_l4) := loop_ok tyOk mixed gok_slices_Equal_int64 (by kernel_rfl) (by kernel_rfl) (lam_ok (tab := []) (by kernel_rfl) lm0) es_slices_Equal_int64_l4 lim_itr
noncomputable def F_slices_Equal_int64 (x1 : K.T (.sl (.int .i64))) (x2 : K.T (.sl (.int .i64))) : Option sq_slices_Equal_int64.T :=
  bif (((x1).length : Int) != ((x2).length : Int)) then
    (some ((false, ()), (), ()))
  else
  (l_slices_Equal_int64_l4 ((x1, (x2, (((x1).length : Int), ((0 : Int), ())))), (), ())).bind fun y1 =>
  (match y1 with
  | .inl y2 => some ((true, ()), (), ())
  | .inr z3 => some ((z3.1.1, ()), (), ()))
noncomputable abbrev U_slices_Equal_int64 : sp_slices_Equal_int64.T → Option sq_slices_Equal_int64.T := fun x => F_slices_Equal_int64 x.1.1 x.1.2.1
theorem e_slices_Equal_int64 : ∀ x, evCode ty (gamOf g_slices_Equal_int64) j_slices_Equal_int64 (lamOf [(4, loopL sp_slices_Equal_int64_l4 xs_slices_Equal_int64_l4 l_slices_Equal_int64_l4)]) b_slices_Equal_int64 (sp_slices_Equal_int64.hd x) (finN ty sq_slices_Equal_int64 [.tmp 4]) = U_slices_Equal_int64 x := fun x => by kernel_rfl
theorem c_slices_Equal_int64 : FnS P 99 sp_slices_Equal_int64 sq_slices_Equal_int64 U_slices_Equal_int64 :=
  fnS_of_ev tyOk mixed gok_slices_Equal_int64 (fn := Tryz.f99) (by kernel_rfl) (c := b_slices_Equal_int64) (by kernel_rfl) (by kernel_rfl) (by kernel_rfl) (lam_ok (tab := [(4, loopL sp_slices_Equal_int64_l4 xs_slices_Equal_int64_l4 l_slices_Equal_int64_l4)]) (by kernel_rfl) (lm1 @ls_slices_Equal_int64_l4 lm0)) e_slices_Equal_int64

/-! impl.blocks -/
abbrev sp_impl_blocks : Sp := ⟨24, [(0, .val false (.sl (.int .i64)))], [], []⟩
abbrev sq_impl_blocks : Sp := ⟨1, [(0, .fix (.own 59000))], [], [(59000, (.sl (.int .i64)), false)]⟩
noncomputable def g_impl_blocks : List (FuncId × SumX) := []
def j_impl_blocks : Nat → Option (List (Nat × SS)) := jOf []
theorem gok_impl_blocks : GOk P (gamOf g_impl_blocks) := gam_ok (tab := g_impl_blocks) gm0
noncomputable abbrev b_impl_blocks : Code := bodyOf Tryz.f136
abbrev sp_impl_blocks_l3 : Sp := ⟨24, [(0, .val false (.sl (.int .i64))), (3, .fix (.own 59000)), (4, .val false (.int .i64))], [], [(59000, (.sl (.int .i64)), false)]⟩
abbrev xs_impl_blocks_l3 : List (Ex × Sp) := [(.exit 0, ⟨24, [(3, .fix (.own 59000))], [], [(59000, (.sl (.int .i64)), false)]⟩)]
noncomputable def s_impl_blocks_l3 : sp_impl_blocks_l3.T → Option (sp_impl_blocks_l3.T ⊕ XT xs_impl_blocks_l3) := fun x =>
  bif (decide (x.1.2.1 < ((x.1.1).length : Int))) then
    (bif decide (0 ≤ x.1.2.1 ∧ x.1.2.1 ≤ (mn (IntKind.wrap .i64 (x.1.2.1 + (8 : Int))) ((x.1.1).length : Int)) ∧ (mn (IntKind.wrap .i64 (x.1.2.1 + (8 : Int))) ((x.1.1).length : Int)) ≤ ((x.1.1).length : Int)) then
    bif room (x.2.2.1 ++ [((x.1.1).take (Int.toNat (mn (IntKind.wrap .i64 (x.1.2.1 + (8 : Int))) ((x.1.1).length : Int)))).drop (Int.toNat x.1.2.1)]).length 24 then
    some (.inl ((x.1.1, ((IntKind.wrap .i64 (x.1.2.1 + (8 : Int))), ())), (), ((x.2.2.1 ++ [((x.1.1).take (Int.toNat (mn (IntKind.wrap .i64 (x.1.2.1 + (8 : Int))) ((x.1.1).length : Int)))).drop (Int.toNat x.1.2.1)]), ())))
    else none
    else none)
  else
  some (.inr ((), (), (x.2.2.1, ())))
noncomputable def l_impl_blocks_l3 : sp_impl_blocks_l3.T → Option (XT xs_impl_blocks_l3) := lim s_impl_blocks_l3
theorem es_impl_blocks_l3 : ∀ x, evCode ty (gamOf g_impl_blocks) j_impl_blocks (lamOf []) (loopAt b_impl_blocks 3) (sp_impl_blocks_l3.hd x) (rdK sp_impl_blocks_l3 xs_impl_blocks_l3) = s_impl_blocks_l3 x := fun x => by kernel_rfl
theorem ls_impl_blocks_l3 : LSumOk P (loopAt b_impl_blocks 3) (loopL sp_impl_blocks_l3 xs_impl_blocks_l3 l_impl_blocks_l3) := loop_ok tyOk mixed gok_impl_blocks (by kernel_rfl) (by kernel_rfl) (lam_ok (tab := []) (by kernel_rfl) lm0) es_impl_blocks_l3 lim_itr
noncomputable def F_impl_blocks (x1 : K.T (.sl (.int .i64))) : Option sq_impl_blocks.T :=
  (l_impl_blocks_l3 ((x1, ((0 : Int), ())), (), ([], ()))).bind fun y1 =>
  some ((), (), (y1.2.2.1, ()))
noncomputable abbrev U_impl_blocks : sp_impl_blocks.T → Option sq_impl_blocks.T := fun x => F_impl_blocks x.1.1
theorem e_impl_blocks : ∀ x, evCode ty (gamOf g_impl_blocks) j_impl_blocks (lamOf [(3, loopL sp_impl_blocks_l3 xs_impl_blocks_l3 l_impl_blocks_l3)]) b_impl_blocks (sp_impl_blocks.hd x) (finN ty sq_impl_blocks [.tmp 2]) = U_impl_blocks x := fun x => by kernel_rfl
theorem c_impl_blocks : FnS P 136 sp_impl_blocks sq_impl_blocks U_impl_blocks :=
  fnS_of_ev tyOk mixed gok_impl_blocks (fn := Tryz.f136) (by kernel_rfl) (c := b_impl_blocks) (by kernel_rfl) (by kernel_rfl) (by kernel_rfl) (lam_ok (tab := [(3, loopL sp_impl_blocks_l3 xs_impl_blocks_l3 l_impl_blocks_l3)]) (by kernel_rfl) (lm1 @ls_impl_blocks_l3 lm0)) e_impl_blocks

/-! impl.crcByte -/
abbrev sp_impl_crcByte : Sp := ⟨23, [(0, .val false (.int .i64)), (1, .val false (.int .i64))], [], []⟩
abbrev sq_impl_crcByte : Sp := ⟨1, [(0, .val false (.int .i64))], [], []⟩
noncomputable def g_impl_crcByte : List (FuncId × SumX) := []
def j_impl_crcByte : Nat → Option (List (Nat × SS)) := jOf []
theorem gok_impl_crcByte : GOk P (gamOf g_impl_crcByte) := gam_ok (tab := g_impl_crcByte) gm0
noncomputable abbrev b_impl_crcByte : Code := bodyOf Tryz.f157
abbrev sp_impl_crcByte_l3 : Sp := ⟨23, [(0, .val false (.int .i64)), (10, .val false (.int .i64))], [], []⟩
abbrev xs_impl_crcByte_l3 : List (Ex × Sp) := [(.exit 0, ⟨23, [(0, .val false (.int .i64))], [], []⟩)]
noncomputable def s_impl_crcByte_l3 : sp_impl_crcByte_l3.T → Option (sp_impl_crcByte_l3.T ⊕ XT xs_impl_crcByte_l3) := fun x =>
  bif (decide (x.1.2.1 < (8 : Int))) then
    (bif ((IntKind.wrap .i64 (((BitVec.ofInt (IntKind.bits .i64) x.1.1 &&& BitVec.ofInt (IntKind.bits .i64) (32768 : Int)).toNat : Int))) != (0 : Int)) then
      (some (.inl (((IntKind.wrap .i64 (((BitVec.ofInt (IntKind.bits .i64) (IntKind.wrap .i64 (((BitVec.ofInt (IntKind.bits .i64) (IntKind.wrap .i64 ((2 : Int) * x.1.1)) &&& BitVec.ofInt (IntKind.bits .i64) (65535 : Int)).toNat : Int))) ^^^ BitVec.ofInt (IntKind.bits .i64) (4129 : Int)).toNat : Int))), ((IntKind.wrap .i64 (x.1.2.1 + (1 : Int))), ())), (), ())))
    else
    some (.inl (((IntKind.wrap .i64 (((BitVec.ofInt (IntKind.bits .i64) (IntKind.wrap .i64 ((2 : Int) * x.1.1)) &&& BitVec.ofInt (IntKind.bits .i64) (65535 : Int)).toNat : Int))), ((IntKind.wrap .i64 (x.1.2.1 + (1 : Int))), ())), (), ())))
  else
  some (.inr ((x.1.1, ()), (), ()))
noncomputable def l_impl_crcByte_l3 : sp_impl_crcByte_l3.T → Option (XT xs_impl_crcByte_l3) := lim s_impl_crcByte_l3
theorem es_impl_crcByte_l3 : ∀ x, evCode ty (gamOf g_impl_crcByte) j_impl_crcByte (lamOf []) (loopAt b_impl_crcByte 3) (sp_impl_crcByte_l3.hd x) (rdK sp_impl_crcByte_l3 xs_impl_crcByte_l3) = s_impl_crcByte_l3 x := fun x => by kernel_rfl
theorem ls_impl_crcByte_l3 : LSumOk P (loopAt b_impl_crcByte 3) (loopL sp_impl_crcByte_l3 xs_impl_crcByte_l3 l_impl_crcByte_l3) := loop_ok tyOk mixed gok_impl_crcByte (by kernel_rfl) (by kernel_rfl) (lam_ok (tab := []) (by kernel_rfl) lm0) es_impl_crcByte_l3 lim_itr
noncomputable def F_impl_crcByte (x1 : K.T (.int .i64)) (x2 : K.T (.int .i64)) : Option sq_impl_crcByte.T :=
  (l_impl_crcByte_l3 (((IntKind.wrap .i64 (((BitVec.ofInt (IntKind.bits .i64) x1 ^^^ BitVec.ofInt (IntKind.bits .i64) (IntKind.wrap .i64 ((256 : Int) * x2))).toNat : Int))), ((0 : Int), ())), (), ())).bind fun y1 =>
  some ((y1.1.1, ()), (), ())
noncomputable abbrev U_impl_crcByte : sp_impl_crcByte.T → Option sq_impl_crcByte.T := fun x => F_impl_crcByte x.1.1 x.1.2.1
theorem e_impl_crcByte : ∀ x, evCode ty (gamOf g_impl_crcByte) j_impl_crcByte (lamOf [(3, loopL sp_impl_crcByte_l3 xs_impl_crcByte_l3 l_impl_crcByte_l3)]) b_impl_crcByte (sp_impl_crcByte.hd x) (finN ty sq_impl_crcByte [.tmp 4]) = U_impl_crcByte x := fun x => by kernel_rfl
theorem c_impl_crcByte : FnS P 157 sp_impl_crcByte sq_impl_crcByte U_impl_crcByte :=
  fnS_of_ev tyOk mixed gok_impl_crcByte (fn := Tryz.f157) (by kernel_rfl) (c := b_impl_crcByte) (by kernel_rfl) (by kernel_rfl) (by kernel_rfl) (lam_ok (tab := [(3, loopL sp_impl_crcByte_l3 xs_impl_crcByte_l3 l_impl_crcByte_l3)]) (by kernel_rfl) (lm1 @ls_impl_crcByte_l3 lm0)) e_impl_crcByte

/-! impl.crc -/
abbrev sp_impl_crc : Sp := ⟨21, [(0, .val false (.sl (.int .i64)))], [], []⟩
abbrev sq_impl_crc : Sp := ⟨1, [(0, .val false (.int .i64))], [], []⟩
noncomputable def g_impl_crc : List (FuncId × SumX) := [(157, cN sp_impl_crcByte sq_impl_crcByte U_impl_crcByte)]
def j_impl_crc : Nat → Option (List (Nat × SS)) := jOf []
theorem gok_impl_crc : GOk P (gamOf g_impl_crc) := gam_ok (tab := g_impl_crc) (gm1 (cN_ok c_impl_crcByte rfl) gm0)
noncomputable abbrev b_impl_crc : Code := bodyOf Tryz.f137
abbrev sp_impl_crc_l3 : Sp := ⟨21, [(3, .val false (.int .i64)), (6, .val false (.sl (.int .i64))), (7, .val false (.int .i64)), (8, .val false (.int .i64))], [], []⟩
abbrev xs_impl_crc_l3 : List (Ex × Sp) := [(.exit 0, ⟨21, [(3, .val false (.int .i64))], [], []⟩)]
noncomputable def s_impl_crc_l3 : sp_impl_crc_l3.T → Option (sp_impl_crc_l3.T ⊕ XT xs_impl_crc_l3) := fun x =>
  bif (decide (x.1.2.2.2.1 < x.1.2.2.1)) then
    (bif ib x.1.2.2.2.1 (x.1.2.1).length then
    (F_impl_crcByte x.1.1 (Int.fdiv ((x.1.2.1).getD (Int.toNat x.1.2.2.2.1) (K.zero (.int .i64))) (2 ^ min (Int.toNat (8 : Int)) (IntKind.bits .i64)))).bind fun y1 =>
    (F_impl_crcByte y1.1.1 (IntKind.wrap .i64 (((BitVec.ofInt (IntKind.bits .i64) ((x.1.2.1).getD (Int.toNat x.1.2.2.2.1) (K.zero (.int .i64))) &&& BitVec.ofInt (IntKind.bits .i64) (255 : Int)).toNat : Int)))).bind fun y2 =>
    some (.inl ((y2.1.1, (x.1.2.1, (x.1.2.2.1, ((IntKind.wrap .i64 (x.1.2.2.2.1 + (1 : Int))), ())))), (), ()))
    else none)
  else
  some (.inr ((x.1.1, ()), (), ()))
noncomputable def l_impl_crc_l3 : sp_impl_crc_l3.T → Option (XT xs_impl_crc_l3) := lim s_impl_crc_l3
theorem es_impl_crc_l3 : ∀ x, evCode ty (gamOf g_impl_crc) j_impl_crc (lamOf []) (loopAt b_impl_crc 3) (sp_impl_crc_l3.hd x) (rdK sp_impl_crc_l3 xs_impl_crc_l3) = s_impl_crc_l3 x := fun x => by kernel_rfl
theorem ls_impl_crc_l3 : LSumOk P (loopAt b_impl_crc 3) (loopL sp_impl_crc_l3 xs_impl_crc_l3 l_impl_crc_l3) := loop_ok tyOk mixed gok_impl_crc (by kernel_rfl) (by kernel_rfl) (lam_ok (tab := []) (by kernel_rfl) lm0) es_impl_crc_l3 lim_itr
noncomputable def F_impl_crc (x1 : K.T (.sl (.int .i64))) : Option sq_impl_crc.T :=
  (l_impl_crc_l3 (((65535 : Int), (x1, (((x1).length : Int), ((0 : Int), ())))), (), ())).bind fun y3 =>
  some ((y3.1.1, ()), (), ())
noncomputable abbrev U_impl_crc : sp_impl_crc.T → Option sq_impl_crc.T := fun x => F_impl_crc x.1.1
theorem e_impl_crc : ∀ x, evCode ty (gamOf g_impl_crc) j_impl_crc (lamOf [(3, loopL sp_impl_crc_l3 xs_impl_crc_l3 l_impl_crc_l3)]) b_impl_crc (sp_impl_crc.hd x) (finN ty sq_impl_crc [.tmp 2]) = U_impl_crc x := fun x => by kernel_rfl
theorem c_impl_crc : FnS P 137 sp_impl_crc sq_impl_crc U_impl_crc :=
  fnS_of_ev tyOk mixed gok_impl_crc (fn := Tryz.f137) (by kernel_rfl) (c := b_impl_crc) (by kernel_rfl) (by kernel_rfl) (by kernel_rfl) (lam_ok (tab := [(3, loopL sp_impl_crc_l3 xs_impl_crc_l3 l_impl_crc_l3)]) (by kernel_rfl) (lm1 @ls_impl_crc_l3 lm0)) e_impl_crc

/-! impl.blockSums -/
abbrev sp_impl_blockSums : Sp := ⟨21, [(0, .val false (.sl (.int .i64)))], [], []⟩
abbrev sq_impl_blockSums : Sp := ⟨1, [(0, .fix (.own 59000))], [], [(59000, (.int .i64), true)]⟩
noncomputable def g_impl_blockSums : List (FuncId × SumX) := [(136, xN sp_impl_blocks sq_impl_blocks U_impl_blocks), (137, cN sp_impl_crc sq_impl_crc U_impl_crc)]
def j_impl_blockSums : Nat → Option (List (Nat × SS)) := jOf []
theorem gok_impl_blockSums : GOk P (gamOf g_impl_blockSums) := gam_ok (tab := g_impl_blockSums) (gm1 (xN_ok c_impl_blocks rfl) (gm1 (cN_ok c_impl_crc rfl) gm0))
noncomputable abbrev b_impl_blockSums : Code := bodyOf Tryz.f100
abbrev sp_impl_blockSums_l3 : Sp := ⟨21, [(3, .fix (.own 59000)), (8, .fix (.own 59001)), (9, .val false (.int .i64)), (10, .val false (.int .i64))], [], [(59000, (.int .i64), true), (59001, (.sl (.int .i64)), false)]⟩
abbrev xs_impl_blockSums_l3 : List (Ex × Sp) := [(.exit 0, ⟨21, [(3, .fix (.own 59000))], [], [(59000, (.int .i64), true)]⟩)]
noncomputable def s_impl_blockSums_l3 : sp_impl_blockSums_l3.T → Option (sp_impl_blockSums_l3.T ⊕ XT xs_impl_blockSums_l3) := fun x =>
  bif (decide (x.1.2.1 < x.1.1)) then
    (bif ib x.1.2.1 (x.2.2.2.1).length then
    (F_impl_crc ((x.2.2.2.1).getD (Int.toNat x.1.2.1) (K.zero (.sl (.int .i64))))).bind fun y2 =>
    bif room (x.2.2.1 ++ [y2.1.1]).length 8 then
    some (.inl ((x.1.1, ((IntKind.wrap .i64 (x.1.2.1 + (1 : Int))), ())), (), ((x.2.2.1 ++ [y2.1.1]), (x.2.2.2.1, ()))))
    else none
    else none)
  else
  some (.inr ((), (), (x.2.2.1, ())))
noncomputable def l_impl_blockSums_l3 : sp_impl_blockSums_l3.T → Option (XT xs_impl_blockSums_l3) := lim s_impl_blockSums_l3
theorem es_impl_blockSums_l3 : ∀ x, evCode ty (gamOf g_impl_blockSums) j_impl_blockSums (lamOf []) (loopAt b_impl_blockSums 3) (sp_impl_blockSums_l3.hd x) (rdK sp_impl_blockSums_l3 xs_impl_blockSums_l3) = s_impl_blockSums_l3 x := fun x => by kernel_rfl
theorem ls_impl_blockSums_l3 : LSumOk P (loopAt b_impl_blockSums 3) (loopL sp_impl_blockSums_l3 xs_impl_blockSums_l3 l_impl_blockSums_l3) := loop_ok tyOk mixed gok_impl_blockSums (by kernel_rfl) (by kernel_rfl) (lam_ok (tab := []) (by kernel_rfl) lm0) es_impl_blockSums_l3 lim_itr
noncomputable def F_impl_blockSums (x1 : K.T (.sl (.int .i64))) : Option sq_impl_blockSums.T :=
  (F_impl_blocks x1).bind fun y1 =>
  (l_impl_blockSums_l3 ((((y1.2.2.1).length : Int), ((0 : Int), ())), (), ([], (y1.2.2.1, ())))).bind fun y3 =>
  some ((), (), (y3.2.2.1, ()))
noncomputable abbrev U_impl_blockSums : sp_impl_blockSums.T → Option sq_impl_blockSums.T := fun x => F_impl_blockSums x.1.1
theorem e_impl_blockSums : ∀ x, evCode ty (gamOf g_impl_blockSums) j_impl_blockSums (lamOf [(3, loopL sp_impl_blockSums_l3 xs_impl_blockSums_l3 l_impl_blockSums_l3)]) b_impl_blockSums (sp_impl_blockSums.hd x) (finN ty sq_impl_blockSums [.tmp 2]) = U_impl_blockSums x := fun x => by kernel_rfl
theorem c_impl_blockSums : FnS P 100 sp_impl_blockSums sq_impl_blockSums U_impl_blockSums :=
  fnS_of_ev tyOk mixed gok_impl_blockSums (fn := Tryz.f100) (by kernel_rfl) (c := b_impl_blockSums) (by kernel_rfl) (by kernel_rfl) (by kernel_rfl) (lam_ok (tab := [(3, loopL sp_impl_blockSums_l3 xs_impl_blockSums_l3 l_impl_blockSums_l3)]) (by kernel_rfl) (lm1 @ls_impl_blockSums_l3 lm0)) e_impl_blockSums

/-! impl.BuildFault -/
abbrev sp_impl_BuildFault : Sp := ⟨79, [(0, .val true k8)], [], []⟩
abbrev sq_impl_BuildFault : Sp := ⟨1, [(0, .val false (.int .i64))], [], []⟩
noncomputable def g_impl_BuildFault : List (FuncId × SumX) := [(93, cN sp_impl_within sq_impl_within U_impl_within), (94, xN sp_slices_ContainsFunc_Port sq_slices_ContainsFunc_Port U_slices_ContainsFunc_Port), (96, xN sp_slices_ContainsFunc_int64 sq_slices_ContainsFunc_int64 U_slices_ContainsFunc_int64), (98, cN sp_impl_WordsFault sq_impl_WordsFault U_impl_WordsFault), (99, cN sp_slices_Equal_int64 sq_slices_Equal_int64 U_slices_Equal_int64), (100, fN sp_impl_blockSums sq_impl_blockSums U_impl_blockSums)]
def j_impl_BuildFault : Nat → Option (List (Nat × SS)) := jOf [(2, [(8, .val false .bool)]), (4, [(25, .val false .bool)])]
theorem gok_impl_BuildFault : GOk P (gamOf g_impl_BuildFault) := gam_ok (tab := g_impl_BuildFault) (gm1 (cN_ok c_impl_within rfl) (gm1 (xN_ok c_slices_ContainsFunc_Port rfl) (gm1 (xN_ok c_slices_ContainsFunc_int64 rfl) (gm1 (cN_ok c_impl_WordsFault rfl) (gm1 (cN_ok c_slices_Equal_int64 rfl) (gm1 (fN_ok c_impl_blockSums rfl) gm0))))))
noncomputable abbrev b_impl_BuildFault : Code := bodyOf Tryz.f48
abbrev sp_impl_BuildFault_l9 : Sp := ⟨79, [(1, .fix (.ptr 59000 0)), (51, .fix (.own 59000)), (52, .val false (.int .i64)), (53, .val false (.int .i64))], [(59000, [.val (.int .i64), .val (.sl k0), .val (.sl (.int .i64)), .val (.sl (.int .i64)), .val (.sl (.int .i64)), .val (.sl (.int .i64)), .val (.sl (.int .i64)), .val (.int .i64), .val (.int .i64)])], [(59000, (.sl (.int .i64)), false)]⟩
abbrev xs_impl_BuildFault_l9 : List (Ex × Sp) := [(.exit 1, ⟨79, [(1, .fix (.ptr 59000 0))], [(59000, [.val (.int .i64), .val (.sl k0), .val (.sl (.int .i64)), .val (.sl (.int .i64)), .val (.sl (.int .i64)), .val (.sl (.int .i64)), .val (.sl (.int .i64)), .val (.int .i64), .val (.int .i64)])], []⟩), (.ret, ⟨79, [(2, .val false (.int .i64))], [], []⟩)]
noncomputable def s_impl_BuildFault_l9 : sp_impl_BuildFault_l9.T → Option (sp_impl_BuildFault_l9.T ⊕ XT xs_impl_BuildFault_l9) := fun x =>
  bif (decide (x.1.2.1 < x.1.1)) then
    (bif ib x.1.2.1 (x.2.2.1).length then
    (F_impl_WordsFault ((x.2.2.1).getD (Int.toNat x.1.2.1) (K.zero (.sl (.int .i64))))).bind fun y8 =>
    bif (y8.1.1 != (0 : Int)) then
      (some (.inr (.inr ((y8.1.1, ()), (), ()))))
    else
    some (.inl ((x.1.1, ((IntKind.wrap .i64 (x.1.2.1 + (1 : Int))), ())), ((x.2.1.1.1, (x.2.1.1.2.1, (x.2.1.1.2.2.1, (x.2.1.1.2.2.2.1, (x.2.1.1.2.2.2.2.1, (x.2.1.1.2.2.2.2.2.1, (x.2.1.1.2.2.2.2.2.2.1, (x.2.1.1.2.2.2.2.2.2.2.1, (x.2.1.1.2.2.2.2.2.2.2.2.1, ()))))))))), ()), (x.2.2.1, ())))
    else none)
  else
  some (.inr (.inl ((), ((x.2.1.1.1, (x.2.1.1.2.1, (x.2.1.1.2.2.1, (x.2.1.1.2.2.2.1, (x.2.1.1.2.2.2.2.1, (x.2.1.1.2.2.2.2.2.1, (x.2.1.1.2.2.2.2.2.2.1, (x.2.1.1.2.2.2.2.2.2.2.1, (x.2.1.1.2.2.2.2.2.2.2.2.1, ()))))))))), ()), ())))
noncomputable def l_impl_BuildFault_l9 : sp_impl_BuildFault_l9.T → Option (XT xs_impl_BuildFault_l9) := lim s_impl_BuildFault_l9
theorem es_impl_BuildFault_l9 : ∀ x, evCode ty (gamOf g_impl_BuildFault) j_impl_BuildFault (lamOf []) (loopAt b_impl_BuildFault 9) (sp_impl_BuildFault_l9.hd x) (rdK sp_impl_BuildFault_l9 xs_impl_BuildFault_l9) = s_impl_BuildFault_l9 x := fun x => by kernel_rfl
theorem ls_impl_BuildFault_l9 : LSumOk P (loopAt b_impl_BuildFault 9) (loopL sp_impl_BuildFault_l9 xs_impl_BuildFault_l9 l_impl_BuildFault_l9) := loop_ok tyOk mixed gok_impl_BuildFault (by kernel_rfl) (by kernel_rfl) (lam_ok (tab := []) (by kernel_rfl) lm0) es_impl_BuildFault_l9 lim_itr
noncomputable def F_impl_BuildFault (x1 : K.T k8) : Option sq_impl_BuildFault.T :=
  ((F_impl_within x1.1 (0 : Int) (80 : Int)).bind fun y1 =>
    bif (!y1.1.1) then
      (some (true, ()))
    else
    (F_impl_within x1.2.2.2.2.2.2.2.1 (0 : Int) (20000 : Int)).bind fun y2 =>
    bif (!y2.1.1) then
      (some (true, ()))
    else
    (F_impl_within x1.2.2.2.2.2.2.2.2 (0 : Int) (20000 : Int)).bind fun y3 =>
    some ((!y3.1.1), ())).bind fun y4 =>
  bif y4.1 then
    (some (((3 : Int), ()), (), ()))
  else
  (bif (decide (((x1.2.1).length : Int) > (24 : Int))) then
      (some (true, ()))
    else
    some ((decide (((x1.2.2.1).length : Int) > (60 : Int))), ())).bind fun y5 =>
  bif y5.1 then
    (some (((2 : Int), ()), (), ()))
  else
  (F_slices_ContainsFunc_Port x1.2.1 x1.1 x1.2.1 x1.2.2.1 x1.2.2.2.1 x1.2.2.2.2.1 x1.2.2.2.2.2.1 x1.2.2.2.2.2.2.1 x1.2.2.2.2.2.2.2.1 x1.2.2.2.2.2.2.2.2).bind fun y6 =>
  bif y6.1.1 then
    (some (((3 : Int), ()), (), ()))
  else
  (F_slices_ContainsFunc_int64 y6.2.1.2.1.2.2.1 y6.2.1.2.1.1 y6.2.1.2.1.2.1 y6.2.1.2.1.2.2.1 y6.2.1.2.1.2.2.2.1 y6.2.1.2.1.2.2.2.2.1 y6.2.1.2.1.2.2.2.2.2.1 y6.2.1.2.1.2.2.2.2.2.2.1 y6.2.1.2.1.2.2.2.2.2.2.2.1 y6.2.1.2.1.2.2.2.2.2.2.2.2.1).bind fun y7 =>
  bif y7.1.1 then
    (some (((3 : Int), ()), (), ()))
  else
  (l_impl_BuildFault_l9 (((([y7.2.1.2.1.2.2.2.1, y7.2.1.2.1.2.2.2.2.1]).length : Int), ((0 : Int), ())), ((y7.2.1.2.1.1, (y7.2.1.2.1.2.1, (y7.2.1.2.1.2.2.1, (y7.2.1.2.1.2.2.2.1, (y7.2.1.2.1.2.2.2.2.1, (y7.2.1.2.1.2.2.2.2.2.1, (y7.2.1.2.1.2.2.2.2.2.2.1, (y7.2.1.2.1.2.2.2.2.2.2.2.1, (y7.2.1.2.1.2.2.2.2.2.2.2.2.1, ()))))))))), ()), ([y7.2.1.2.1.2.2.2.1, y7.2.1.2.1.2.2.2.2.1], ()))).bind fun y9 =>
  (match y9 with
  | .inl y10 => (F_impl_blockSums y10.2.1.1.2.2.2.1).bind fun y12 =>
    (F_slices_Equal_int64 y10.2.1.1.2.2.2.2.2.1 y12.2.2.1).bind fun y13 =>
    bif (!y13.1.1) then
      (some (((6 : Int), ()), (), ()))
    else
    (F_impl_blockSums y10.2.1.1.2.2.2.2.1).bind fun y14 =>
    (F_slices_Equal_int64 y10.2.1.1.2.2.2.2.2.2.1 y14.2.2.1).bind fun y15 =>
    bif (!y15.1.1) then
      (some (((6 : Int), ()), (), ()))
    else
    some (((0 : Int), ()), (), ())
  | .inr z11 => some ((z11.1.1, ()), (), ()))
noncomputable abbrev U_impl_BuildFault : sp_impl_BuildFault.T → Option sq_impl_BuildFault.T := fun x => F_impl_BuildFault x.1.1
theorem e_impl_BuildFault : ∀ x, evCode ty (gamOf g_impl_BuildFault) j_impl_BuildFault (lamOf [(9, loopL sp_impl_BuildFault_l9 xs_impl_BuildFault_l9 l_impl_BuildFault_l9)]) b_impl_BuildFault (sp_impl_BuildFault.hd x) (finN ty sq_impl_BuildFault [.tmp 2]) = U_impl_BuildFault x := fun x => by kernel_rfl
theorem c_impl_BuildFault : FnS P 48 sp_impl_BuildFault sq_impl_BuildFault U_impl_BuildFault :=
  fnS_of_ev tyOk mixed gok_impl_BuildFault (fn := Tryz.f48) (by kernel_rfl) (c := b_impl_BuildFault) (by kernel_rfl) (by kernel_rfl) (by kernel_rfl) (lam_ok (tab := [(9, loopL sp_impl_BuildFault_l9 xs_impl_BuildFault_l9 l_impl_BuildFault_l9)]) (by kernel_rfl) (lm1 @ls_impl_BuildFault_l9 lm0)) e_impl_BuildFault

/-! impl.ChanFault -/
abbrev sp_impl_ChanFault : Sp := ⟨52, [(0, .val true k9)], [], []⟩
abbrev sq_impl_ChanFault : Sp := ⟨1, [(0, .val false (.int .i64))], [], []⟩
noncomputable def g_impl_ChanFault : List (FuncId × SumX) := [(50, cN sp_impl_areWords sq_impl_areWords U_impl_areWords), (98, cN sp_impl_WordsFault sq_impl_WordsFault U_impl_WordsFault), (101, cN sp_impl_isWord sq_impl_isWord U_impl_isWord)]
def j_impl_ChanFault : Nat → Option (List (Nat × SS)) := jOf [(1, [(13, .val false .bool)]), (10, [(30, .val false .bool)])]
theorem gok_impl_ChanFault : GOk P (gamOf g_impl_ChanFault) := gam_ok (tab := g_impl_ChanFault) (gm1 (cN_ok c_impl_areWords rfl) (gm1 (cN_ok c_impl_WordsFault rfl) (gm1 (cN_ok c_impl_isWord rfl) gm0)))
noncomputable abbrev b_impl_ChanFault : Code := bodyOf Tryz.f49
abbrev sp_impl_ChanFault_l4 : Sp := ⟨52, [(1, .fix (.ptr 59000 0)), (18, .fix (.own 59000)), (19, .val false (.int .i64)), (20, .val false (.int .i64))], [(59000, [.val (.int .i64), .val (.sl (.int .i64)), .val (.sl (.int .i64)), .val (.sl (.int .i64)), .val (.int .i64), .val (.int .i64)])], [(59000, (.sl (.int .i64)), false)]⟩
abbrev xs_impl_ChanFault_l4 : List (Ex × Sp) := [(.exit 0, ⟨52, [(1, .fix (.ptr 59000 0))], [(59000, [.val (.int .i64), .val (.sl (.int .i64)), .val (.sl (.int .i64)), .val (.sl (.int .i64)), .val (.int .i64), .val (.int .i64)])], []⟩), (.ret, ⟨52, [(2, .val false (.int .i64))], [], []⟩)]
noncomputable def s_impl_ChanFault_l4 : sp_impl_ChanFault_l4.T → Option (sp_impl_ChanFault_l4.T ⊕ XT xs_impl_ChanFault_l4) := fun x =>
  bif (decide (x.1.2.1 < x.1.1)) then
    (bif ib x.1.2.1 (x.2.2.1).length then
    (F_impl_WordsFault ((x.2.2.1).getD (Int.toNat x.1.2.1) (K.zero (.sl (.int .i64))))).bind fun y2 =>
    bif (y2.1.1 != (0 : Int)) then
      (some (.inr (.inr ((y2.1.1, ()), (), ()))))
    else
    some (.inl ((x.1.1, ((IntKind.wrap .i64 (x.1.2.1 + (1 : Int))), ())), ((x.2.1.1.1, (x.2.1.1.2.1, (x.2.1.1.2.2.1, (x.2.1.1.2.2.2.1, (x.2.1.1.2.2.2.2.1, (x.2.1.1.2.2.2.2.2.1, ())))))), ()), (x.2.2.1, ())))
    else none)
  else
  some (.inr (.inl ((), ((x.2.1.1.1, (x.2.1.1.2.1, (x.2.1.1.2.2.1, (x.2.1.1.2.2.2.1, (x.2.1.1.2.2.2.2.1, (x.2.1.1.2.2.2.2.2.1, ())))))), ()), ())))
noncomputable def l_impl_ChanFault_l4 : sp_impl_ChanFault_l4.T → Option (XT xs_impl_ChanFault_l4) := lim s_impl_ChanFault_l4
theorem es_impl_ChanFault_l4 : ∀ x, evCode ty (gamOf g_impl_ChanFault) j_impl_ChanFault (lamOf []) (loopAt b_impl_ChanFault 4) (sp_impl_ChanFault_l4.hd x) (rdK sp_impl_ChanFault_l4 xs_impl_ChanFault_l4) = s_impl_ChanFault_l4 x := fun x => by kernel_rfl
theorem ls_impl_ChanFault_l4 : LSumOk P (loopAt b_impl_ChanFault 4) (loopL sp_impl_ChanFault_l4 xs_impl_ChanFault_l4 l_impl_ChanFault_l4) := loop_ok tyOk mixed gok_impl_ChanFault (by kernel_rfl) (by kernel_rfl) (lam_ok (tab := []) (by kernel_rfl) lm0) es_impl_ChanFault_l4 lim_itr
noncomputable def F_impl_ChanFault (x1 : K.T k9) : Option sq_impl_ChanFault.T :=
  (bif (x1.1 != (1 : Int)) then
      (some ((x1.1 != (2 : Int)), ()))
    else
    some (false, ())).bind fun y1 =>
  bif y1.1 then
    (some (((1 : Int), ()), (), ()))
  else
  (l_impl_ChanFault_l4 (((([x1.2.1, x1.2.2.1]).length : Int), ((0 : Int), ())), ((x1.1, (x1.2.1, (x1.2.2.1, (x1.2.2.2.1, (x1.2.2.2.2.1, (x1.2.2.2.2.2, ())))))), ()), ([x1.2.1, x1.2.2.1], ()))).bind fun y3 =>
  (match y3 with
  | .inl y4 => ((F_impl_areWords y4.2.1.1.2.2.2.1).bind fun y6 =>
      bif (!y6.1.1) then
        (some (true, ()))
      else
      (F_impl_isWord y4.2.1.1.2.2.2.2.1).bind fun y7 =>
      bif (!y7.1.1) then
        (some (true, ()))
      else
      (F_impl_isWord y4.2.1.1.2.2.2.2.2.1).bind fun y8 =>
      some ((!y8.1.1), ())).bind fun y9 =>
    bif y9.1 then
      (some (((3 : Int), ()), (), ()))
    else
    bif (decide (((y4.2.1.1.2.2.2.1).length : Int) > (80 : Int))) then
      (some (((2 : Int), ()), (), ()))
    else
    some (((0 : Int), ()), (), ())
  | .inr z5 => some ((z5.1.1, ()), (), ()))
noncomputable abbrev U_impl_ChanFault : sp_impl_ChanFault.T → Option sq_impl_ChanFault.T := fun x => F_impl_ChanFault x.1.1
theorem e_impl_ChanFault : ∀ x, evCode ty (gamOf g_impl_ChanFault) j_impl_ChanFault (lamOf [(4, loopL sp_impl_ChanFault_l4 xs_impl_ChanFault_l4 l_impl_ChanFault_l4)]) b_impl_ChanFault (sp_impl_ChanFault.hd x) (finN ty sq_impl_ChanFault [.tmp 2]) = U_impl_ChanFault x := fun x => by kernel_rfl
theorem c_impl_ChanFault : FnS P 49 sp_impl_ChanFault sq_impl_ChanFault U_impl_ChanFault :=
  fnS_of_ev tyOk mixed gok_impl_ChanFault (fn := Tryz.f49) (by kernel_rfl) (c := b_impl_ChanFault) (by kernel_rfl) (by kernel_rfl) (by kernel_rfl) (lam_ok (tab := [(4, loopL sp_impl_ChanFault_l4 xs_impl_ChanFault_l4 l_impl_ChanFault_l4)]) (by kernel_rfl) (lm1 @ls_impl_ChanFault_l4 lm0)) e_impl_ChanFault

/-! slices.Clone[[]int64,int64] -/
abbrev sp_slices_Clone_int64 : Sp := ⟨8, [(0, .val false (.sl (.int .i64)))], [], []⟩
abbrev sq_slices_Clone_int64 : Sp := ⟨1, [(0, .fix (.own 59000))], [], [(59000, (.int .i64), true)]⟩
noncomputable def g_slices_Clone_int64 : List (FuncId × SumX) := []
def j_slices_Clone_int64 : Nat → Option (List (Nat × SS)) := jOf []
theorem gok_slices_Clone_int64 : GOk P (gamOf g_slices_Clone_int64) := gam_ok (tab := g_slices_Clone_int64) gm0
noncomputable abbrev b_slices_Clone_int64 : Code := bodyOf Tryz.f72
noncomputable def F_slices_Clone_int64 (x1 : K.T (.sl (.int .i64))) : Option sq_slices_Clone_int64.T :=
  nilB ((x1).isEmpty)
    (some ((), (), ([], ())))
    (bif room ([] ++ x1).length 8 then
    some ((), (), (([] ++ x1), ()))
    else none)
noncomputable abbrev U_slices_Clone_int64 : sp_slices_Clone_int64.T → Option sq_slices_Clone_int64.T := fun x => F_slices_Clone_int64 x.1.1
theorem e_slices_Clone_int64 : ∀ x, evCode ty (gamOf g_slices_Clone_int64) j_slices_Clone_int64 (lamOf []) b_slices_Clone_int64 (sp_slices_Clone_int64.hd x) (finN ty sq_slices_Clone_int64 [.tmp 2]) = U_slices_Clone_int64 x := fun x => by kernel_rfl
theorem c_slices_Clone_int64 : FnS P 72 sp_slices_Clone_int64 sq_slices_Clone_int64 U_slices_Clone_int64 :=
  fnS_of_ev tyOk mixed gok_slices_Clone_int64 (fn := Tryz.f72) (by kernel_rfl) (c := b_slices_Clone_int64) (by kernel_rfl) (by kernel_rfl) (by kernel_rfl) (lam_ok (tab := []) (by kernel_rfl) lm0) e_slices_Clone_int64

/-! (impl.Chan).copied -/
abbrev sp_impl_Chan_copied : Sp := ⟨16, [(0, .val true k9)], [], []⟩
abbrev sq_impl_Chan_copied : Sp := ⟨1, [(0, .mix true [.val (.int .i64), .fix (.own 59000), .fix (.own 59001), .fix (.own 59002), .val (.int .i64), .val (.int .i64)])], [], [(59000, (.int .i64), true), (59001, (.int .i64), true), (59002, (.int .i64), true)]⟩
noncomputable def g_impl_Chan_copied : List (FuncId × SumX) := [(72, fN sp_slices_Clone_int64 sq_slices_Clone_int64 U_slices_Clone_int64)]
def j_impl_Chan_copied : Nat → Option (List (Nat × SS)) := jOf []
theorem gok_impl_Chan_copied : GOk P (gamOf g_impl_Chan_copied) := gam_ok (tab := g_impl_Chan_copied) (gm1 (fN_ok c_slices_Clone_int64 rfl) gm0)
noncomputable abbrev b_impl_Chan_copied : Code := bodyOf Tryz.f102
noncomputable def F_impl_Chan_copied (x1 : K.T k9) : Option sq_impl_Chan_copied.T :=
  (F_slices_Clone_int64 x1.2.1).bind fun y1 =>
  (F_slices_Clone_int64 x1.2.2.1).bind fun y2 =>
  (F_slices_Clone_int64 x1.2.2.2.1).bind fun y3 =>
  some (((x1.1, (x1.2.2.2.2.1, (x1.2.2.2.2.2, ()))), ()), (), (y1.2.2.1, (y2.2.2.1, (y3.2.2.1, ()))))
noncomputable abbrev U_impl_Chan_copied : sp_impl_Chan_copied.T → Option sq_impl_Chan_copied.T := fun x => F_impl_Chan_copied x.1.1
theorem e_impl_Chan_copied : ∀ x, evCode ty (gamOf g_impl_Chan_copied) j_impl_Chan_copied (lamOf []) b_impl_Chan_copied (sp_impl_Chan_copied.hd x) (finN ty sq_impl_Chan_copied [.cell 2 30]) = U_impl_Chan_copied x := fun x => by kernel_rfl
theorem c_impl_Chan_copied : FnS P 102 sp_impl_Chan_copied sq_impl_Chan_copied U_impl_Chan_copied :=
  fnS_of_ev tyOk mixed gok_impl_Chan_copied (fn := Tryz.f102) (by kernel_rfl) (c := b_impl_Chan_copied) (by kernel_rfl) (by kernel_rfl) (by kernel_rfl) (lam_ok (tab := []) (by kernel_rfl) lm0) e_impl_Chan_copied

/-! impl.flag -/
abbrev sp_impl_flag : Sp := ⟨4, [(0, .val false .bool)], [], []⟩
abbrev sq_impl_flag : Sp := ⟨1, [(0, .val false (.int .i64))], [], []⟩
noncomputable def g_impl_flag : List (FuncId × SumX) := []
def j_impl_flag : Nat → Option (List (Nat × SS)) := jOf []
theorem gok_impl_flag : GOk P (gamOf g_impl_flag) := gam_ok (tab := g_impl_flag) gm0
noncomputable abbrev b_impl_flag : Code := bodyOf Tryz.f138
noncomputable def F_impl_flag (x1 : K.T .bool) : Option sq_impl_flag.T :=
  bif x1 then
    (some (((1 : Int), ()), (), ()))
  else
  some (((0 : Int), ()), (), ())
noncomputable abbrev U_impl_flag : sp_impl_flag.T → Option sq_impl_flag.T := fun x => F_impl_flag x.1.1
theorem e_impl_flag : ∀ x, evCode ty (gamOf g_impl_flag) j_impl_flag (lamOf []) b_impl_flag (sp_impl_flag.hd x) (finN ty sq_impl_flag [.tmp 2]) = U_impl_flag x := fun x => by kernel_rfl
theorem c_impl_flag : FnS P 138 sp_impl_flag sq_impl_flag U_impl_flag :=
  fnS_of_ev tyOk mixed gok_impl_flag (fn := Tryz.f138) (by kernel_rfl) (c := b_impl_flag) (by kernel_rfl) (by kernel_rfl) (by kernel_rfl) (lam_ok (tab := []) (by kernel_rfl) lm0) e_impl_flag

/-! impl.latch -/
abbrev sp_impl_latch : Sp := ⟨52, [(0, .val false (.sl k0)), (1, .val false (.sl (.int .i64))), (2, .val false (.sl (.int .i64)))], [], []⟩
abbrev sq_impl_latch : Sp := ⟨2, [(0, .fix (.own 59000)), (1, .val false .bool)], [], [(59000, (.int .i64), true)]⟩
noncomputable def g_impl_latch : List (FuncId × SumX) := [(50, cN sp_impl_areWords sq_impl_areWords U_impl_areWords), (72, fN sp_slices_Clone_int64 sq_slices_Clone_int64 U_slices_Clone_int64), (138, cN sp_impl_flag sq_impl_flag U_impl_flag)]
def j_impl_latch : Nat → Option (List (Nat × SS)) := jOf [(1, [(20, .val false .bool)])]
theorem gok_impl_latch : GOk P (gamOf g_impl_latch) := gam_ok (tab := g_impl_latch) (gm1 (cN_ok c_impl_areWords rfl) (gm1 (fN_ok c_slices_Clone_int64 rfl) (gm1 (cN_ok c_impl_flag rfl) gm0)))
noncomputable abbrev b_impl_latch : Code := bodyOf Tryz.f103
abbrev sp_impl_latch_l5 : Sp := ⟨52, [(2, .val false (.sl (.int .i64))), (8, .fix (.own 59000)), (23, .val false (.sl k0)), (24, .val false (.int .i64)), (25, .val false (.int .i64))], [], [(59000, (.int .i64), true)]⟩
abbrev xs_impl_latch_l5 : List (Ex × Sp) := [(.exit 0, ⟨52, [(8, .fix (.own 59000))], [], [(59000, (.int .i64), true)]⟩)]
noncomputable def s_impl_latch_l5 : sp_impl_latch_l5.T → Option (sp_impl_latch_l5.T ⊕ XT xs_impl_latch_l5) := fun x =>
  bif (decide (x.1.2.2.2.1 < x.1.2.2.1)) then
    (bif ib x.1.2.2.2.1 (x.1.2.1).length then
    bif ib x.1.2.2.2.1 (x.1.1).length then
    bif ib (((x.1.2.1).getD (Int.toNat x.1.2.2.2.1) (K.zero k0)).1) (x.2.2.1).length then
    bif ((x.1.2.1).getD (Int.toNat x.1.2.2.2.1) (K.zero k0)).2 then
      (bif ib x.1.2.2.2.1 (x.1.1).length then
      (F_impl_flag (((x.1.1).getD (Int.toNat x.1.2.2.2.1) (K.zero (.int .i64))) != (0 : Int))).bind fun y4 =>
      bif ib (((x.1.2.1).getD (Int.toNat x.1.2.2.2.1) (K.zero k0)).1) ((x.2.2.1).set (Int.toNat (((x.1.2.1).getD (Int.toNat x.1.2.2.2.1) (K.zero k0)).1)) ((x.1.1).getD (Int.toNat x.1.2.2.2.1) (K.zero (.int .i64)))).length then
      some (.inl ((x.1.1, (x.1.2.1, (x.1.2.2.1, ((IntKind.wrap .i64 (x.1.2.2.2.1 + (1 : Int))), ())))), (), (((x.2.2.1).set (Int.toNat (((x.1.2.1).getD (Int.toNat x.1.2.2.2.1) (K.zero k0)).1)) ((x.1.1).getD (Int.toNat x.1.2.2.2.1) (K.zero (.int .i64)))).set (Int.toNat (((x.1.2.1).getD (Int.toNat x.1.2.2.2.1) (K.zero k0)).1)) y4.1.1, ())))
      else none
      else none)
    else
    some (.inl ((x.1.1, (x.1.2.1, (x.1.2.2.1, ((IntKind.wrap .i64 (x.1.2.2.2.1 + (1 : Int))), ())))), (), ((x.2.2.1).set (Int.toNat (((x.1.2.1).getD (Int.toNat x.1.2.2.2.1) (K.zero k0)).1)) ((x.1.1).getD (Int.toNat x.1.2.2.2.1) (K.zero (.int .i64))), ())))
    else none
    else none
    else none)
  else
  some (.inr ((), (), (x.2.2.1, ())))
noncomputable def l_impl_latch_l5 : sp_impl_latch_l5.T → Option (XT xs_impl_latch_l5) := lim s_impl_latch_l5
theorem es_impl_latch_l5 : ∀ x, evCode ty (gamOf g_impl_latch) j_impl_latch (lamOf []) (loopAt b_impl_latch 5) (sp_impl_latch_l5.hd x) (rdK sp_impl_latch_l5 xs_impl_latch_l5) = s_impl_latch_l5 x := fun x => by kernel_rfl
theorem ls_impl_latch_l5 : LSumOk P (loopAt b_impl_latch 5) (loopL sp_impl_latch_l5 xs_impl_latch_l5 l_impl_latch_l5) := loop_ok tyOk mixed gok_impl_latch (by kernel_rfl) (by kernel_rfl) (lam_ok (tab := []) (by kernel_rfl) lm0) es_impl_latch_l5 lim_itr
noncomputable def F_impl_latch (x1 : K.T (.sl k0)) (x2 : K.T (.sl (.int .i64))) (x3 : K.T (.sl (.int .i64))) : Option sq_impl_latch.T :=
  (bif (((x3).length : Int) != ((x1).length : Int)) then
      (some (true, ()))
    else
    (F_impl_areWords x3).bind fun y1 =>
    some ((!y1.1.1), ())).bind fun y2 =>
  bif y2.1 then
    (some ((false, ()), (), ([], ())))
  else
  (F_slices_Clone_int64 x2).bind fun y3 =>
  (l_impl_latch_l5 ((x3, (x1, (((x1).length : Int), ((0 : Int), ())))), (), (y3.2.2.1, ()))).bind fun y5 =>
  some ((true, ()), (), (y5.2.2.1, ()))
noncomputable abbrev U_impl_latch : sp_impl_latch.T → Option sq_impl_latch.T := fun x => F_impl_latch x.1.1 x.1.2.1 x.1.2.2.1
theorem e_impl_latch : ∀ x, evCode ty (gamOf g_impl_latch) j_impl_latch (lamOf [(5, loopL sp_impl_latch_l5 xs_impl_latch_l5 l_impl_latch_l5)]) b_impl_latch (sp_impl_latch.hd x) (finN ty sq_impl_latch [.tmp 6, .tmp 7]) = U_impl_latch x := fun x => by kernel_rfl
theorem c_impl_latch : FnS P 103 sp_impl_latch sq_impl_latch U_impl_latch :=
  fnS_of_ev tyOk mixed gok_impl_latch (fn := Tryz.f103) (by kernel_rfl) (c := b_impl_latch) (by kernel_rfl) (by kernel_rfl) (by kernel_rfl) (lam_ok (tab := [(5, loopL sp_impl_latch_l5 xs_impl_latch_l5 l_impl_latch_l5)]) (by kernel_rfl) (lm1 @ls_impl_latch_l5 lm0)) e_impl_latch

/-! impl.StackFault -/
abbrev sp_impl_StackFault : Sp := ⟨49, [(0, .val true k14)], [], []⟩
abbrev sq_impl_StackFault : Sp := ⟨1, [(0, .val false (.int .i64))], [], []⟩
noncomputable def g_impl_StackFault : List (FuncId × SumX) := [(50, cN sp_impl_areWords sq_impl_areWords U_impl_areWords), (93, cN sp_impl_within sq_impl_within U_impl_within), (101, cN sp_impl_isWord sq_impl_isWord U_impl_isWord)]
def j_impl_StackFault : Nat → Option (List (Nat × SS)) := jOf [(1, [(3, .val false .bool)]), (3, [(38, .val false .bool)])]
theorem gok_impl_StackFault : GOk P (gamOf g_impl_StackFault) := gam_ok (tab := g_impl_StackFault) (gm1 (cN_ok c_impl_areWords rfl) (gm1 (cN_ok c_impl_within rfl) (gm1 (cN_ok c_impl_isWord rfl) gm0)))
noncomputable abbrev b_impl_StackFault : Code := bodyOf Tryz.f158
noncomputable def F_impl_StackFault (x1 : K.T k14) : Option sq_impl_StackFault.T :=
  ((F_impl_isWord x1.1).bind fun y1 =>
    bif (!y1.1.1) then
      (some (true, ()))
    else
    (F_impl_isWord x1.2.2.2.1).bind fun y2 =>
    bif (!y2.1.1) then
      (some (true, ()))
    else
    (F_impl_areWords x1.2.1).bind fun y3 =>
    bif (!y3.1.1) then
      (some (true, ()))
    else
    (F_impl_areWords x1.2.2.1).bind fun y4 =>
    bif (!y4.1.1) then
      (some (true, ()))
    else
    (F_impl_within x1.2.2.2.2.1 (0 : Int) (1000000 : Int)).bind fun y5 =>
    bif (!y5.1.1) then
      (some (true, ()))
    else
    (F_impl_within x1.2.2.2.2.2.1 (0 : Int) (10 : Int)).bind fun y6 =>
    some ((!y6.1.1), ())).bind fun y7 =>
  bif y7.1 then
    (some (((3 : Int), ()), (), ()))
  else
  (bif (decide (((x1.2.1).length : Int) > (40 : Int))) then
      (some (true, ()))
    else
    some ((decide (((x1.2.2.1).length : Int) > (80 : Int))), ())).bind fun y8 =>
  bif y8.1 then
    (some (((2 : Int), ()), (), ()))
  else
  some (((0 : Int), ()), (), ())
noncomputable abbrev U_impl_StackFault : sp_impl_StackFault.T → Option sq_impl_StackFault.T := fun x => F_impl_StackFault x.1.1
theorem e_impl_StackFault : ∀ x, evCode ty (gamOf g_impl_StackFault) j_impl_StackFault (lamOf []) b_impl_StackFault (sp_impl_StackFault.hd x) (finN ty sq_impl_StackFault [.tmp 2]) = U_impl_StackFault x := fun x => by kernel_rfl
theorem c_impl_StackFault : FnS P 158 sp_impl_StackFault sq_impl_StackFault U_impl_StackFault :=
  fnS_of_ev tyOk mixed gok_impl_StackFault (fn := Tryz.f158) (by kernel_rfl) (c := b_impl_StackFault) (by kernel_rfl) (by kernel_rfl) (by kernel_rfl) (lam_ok (tab := []) (by kernel_rfl) lm0) e_impl_StackFault

/-! impl.StartStack -/
abbrev sp_impl_StartStack : Sp := ⟨16, [(0, .val false (.sl (.int .i64)))], [], []⟩
abbrev sq_impl_StartStack : Sp := ⟨1, [(0, .mix true [.val (.int .i64), .val (.int .i64), .fix .nil, .fix (.own 59000), .val (.int .i64), .val (.int .i64), .val (.int .i64), .val .bool])], [], [(59000, (.int .i64), true)]⟩
noncomputable def g_impl_StartStack : List (FuncId × SumX) := [(72, fN sp_slices_Clone_int64 sq_slices_Clone_int64 U_slices_Clone_int64), (158, cN sp_impl_StackFault sq_impl_StackFault U_impl_StackFault)]
def j_impl_StartStack : Nat → Option (List (Nat × SS)) := jOf []
theorem gok_impl_StartStack : GOk P (gamOf g_impl_StartStack) := gam_ok (tab := g_impl_StartStack) (gm1 (fN_ok c_slices_Clone_int64 rfl) (gm1 (cN_ok c_impl_StackFault rfl) gm0))
noncomputable abbrev b_impl_StartStack : Code := bodyOf Tryz.f139
noncomputable def F_impl_StartStack (x1 : K.T (.sl (.int .i64))) : Option sq_impl_StartStack.T :=
  (F_slices_Clone_int64 x1).bind fun y1 =>
  (F_impl_StackFault ((0 : Int), ([], (y1.2.2.1, ((0 : Int), ((0 : Int), ((0 : Int), false))))))).bind fun y2 =>
  bif (y2.1.1 != (0 : Int)) then
    (some (((y2.1.1, ((0 : Int), ((0 : Int), ((0 : Int), ((0 : Int), (false, ())))))), ()), (), ([], ())))
  else
  some ((((0 : Int), ((0 : Int), ((0 : Int), ((0 : Int), ((0 : Int), (false, ())))))), ()), (), (y1.2.2.1, ()))
noncomputable abbrev U_impl_StartStack : sp_impl_StartStack.T → Option sq_impl_StartStack.T := fun x => F_impl_StartStack x.1.1
theorem e_impl_StartStack : ∀ x, evCode ty (gamOf g_impl_StartStack) j_impl_StartStack (lamOf []) b_impl_StartStack (sp_impl_StartStack.hd x) (finN ty sq_impl_StartStack [.cell 2 137]) = U_impl_StartStack x := fun x => by kernel_rfl
theorem c_impl_StartStack : FnS P 139 sp_impl_StartStack sq_impl_StartStack U_impl_StartStack :=
  fnS_of_ev tyOk mixed gok_impl_StartStack (fn := Tryz.f139) (by kernel_rfl) (c := b_impl_StartStack) (by kernel_rfl) (by kernel_rfl) (by kernel_rfl) (lam_ok (tab := []) (by kernel_rfl) lm0) e_impl_StartStack

/-! impl.ArgsOfStack -/
abbrev sp_impl_ArgsOfStack : Sp := ⟨12, [(0, .val false (.int .i64))], [], []⟩
abbrev sq_impl_ArgsOfStack : Sp := ⟨1, [(0, .val true k1)], [], []⟩
noncomputable def g_impl_ArgsOfStack : List (FuncId × SumX) := [(93, cN sp_impl_within sq_impl_within U_impl_within)]
def j_impl_ArgsOfStack : Nat → Option (List (Nat × SS)) := jOf []
theorem gok_impl_ArgsOfStack : GOk P (gamOf g_impl_ArgsOfStack) := gam_ok (tab := g_impl_ArgsOfStack) (gm1 (cN_ok c_impl_within rfl) gm0)
noncomputable abbrev b_impl_ArgsOfStack : Code := bodyOf Tryz.f160
noncomputable def F_impl_ArgsOfStack (x1 : K.T (.int .i64)) : Option sq_impl_ArgsOfStack.T :=
  (F_impl_within x1 (1 : Int) (13 : Int)).bind fun y1 =>
  bif (!y1.1.1) then
    (some ((((3 : Int), (0 : Int)), ()), (), ()))
  else
  bif ib x1 ([(0 : Int), (1 : Int), (1 : Int), (1 : Int), (2 : Int), (2 : Int), (1 : Int), (0 : Int), (0 : Int), (0 : Int), (1 : Int), (1 : Int), (1 : Int), (0 : Int)]).length then
  some ((((0 : Int), (([(0 : Int), (1 : Int), (1 : Int), (1 : Int), (2 : Int), (2 : Int), (1 : Int), (0 : Int), (0 : Int), (0 : Int), (1 : Int), (1 : Int), (1 : Int), (0 : Int)]).getD (Int.toNat x1) (K.zero (.int .i64)))), ()), (), ())
  else none
noncomputable abbrev U_impl_ArgsOfStack : sp_impl_ArgsOfStack.T → Option sq_impl_ArgsOfStack.T := fun x => F_impl_ArgsOfStack x.1.1
theorem e_impl_ArgsOfStack : ∀ x, evCode ty (gamOf g_impl_ArgsOfStack) j_impl_ArgsOfStack (lamOf []) b_impl_ArgsOfStack (sp_impl_ArgsOfStack.hd x) (finN ty sq_impl_ArgsOfStack [.cell 2 199]) = U_impl_ArgsOfStack x := fun x => by kernel_rfl
theorem c_impl_ArgsOfStack : FnS P 160 sp_impl_ArgsOfStack sq_impl_ArgsOfStack U_impl_ArgsOfStack :=
  fnS_of_ev tyOk mixed gok_impl_ArgsOfStack (fn := Tryz.f160) (by kernel_rfl) (c := b_impl_ArgsOfStack) (by kernel_rfl) (by kernel_rfl) (by kernel_rfl) (lam_ok (tab := []) (by kernel_rfl) lm0) e_impl_ArgsOfStack

/-! impl.instruction -/
abbrev sp_impl_instruction_sm : Sp := ⟨45, [(0, .val false (.sl (.int .i64))), (1, .val false (.int .i64)), (2, .fix (.fn 160 []))], [], []⟩
abbrev sq_impl_instruction_sm : Sp := ⟨3, [(0, .val false (.int .i64)), (1, .val false (.sl (.int .i64))), (2, .val false .bool)], [], []⟩
noncomputable def g_impl_instruction_sm : List (FuncId × SumX) := [(160, cN sp_impl_ArgsOfStack sq_impl_ArgsOfStack U_impl_ArgsOfStack)]
def j_impl_instruction_sm : Nat → Option (List (Nat × SS)) := jOf [(4, [(31, .val false .bool)])]
theorem gok_impl_instruction_sm : GOk P (gamOf g_impl_instruction_sm) := gam_ok (tab := g_impl_instruction_sm) (gm1 (cN_ok c_impl_ArgsOfStack rfl) gm0)
noncomputable abbrev b_impl_instruction_sm : Code := bodyOf Tryz.f159
noncomputable def F_impl_instruction_sm (x1 : K.T (.sl (.int .i64))) (x2 : K.T (.int .i64)) : Option sq_impl_instruction_sm.T :=
  bif (decide (x2 ≥ ((x1).length : Int))) then
    (some (((0 : Int), ([], (false, ()))), (), ()))
  else
  bif ib x2 (x1).length then
  (F_impl_ArgsOfStack ((x1).getD (Int.toNat x2) (K.zero (.int .i64)))).bind fun y1 =>
  (bif (y1.1.1.1 != (0 : Int)) then
      (some (true, ()))
    else
    some ((decide ((IntKind.wrap .i64 (x2 + y1.1.1.2)) ≥ ((x1).length : Int))), ())).bind fun y2 =>
  bif y2.1 then
    (some (((0 : Int), ([], (false, ()))), (), ()))
  else
  bif ib x2 (x1).length then
  bif decide (0 ≤ (IntKind.wrap .i64 (x2 + (1 : Int))) ∧ (IntKind.wrap .i64 (x2 + (1 : Int))) ≤ (IntKind.wrap .i64 ((IntKind.wrap .i64 (x2 + (1 : Int))) + y1.1.1.2)) ∧ (IntKind.wrap .i64 ((IntKind.wrap .i64 (x2 + (1 : Int))) + y1.1.1.2)) ≤ ((x1).length : Int)) then
  some ((((x1).getD (Int.toNat x2) (K.zero (.int .i64))), (((x1).take (Int.toNat (IntKind.wrap .i64 ((IntKind.wrap .i64 (x2 + (1 : Int))) + y1.1.1.2)))).drop (Int.toNat (IntKind.wrap .i64 (x2 + (1 : Int)))), (true, ()))), (), ())
  else none
  else none
  else none
noncomputable abbrev U_impl_instruction_sm : sp_impl_instruction_sm.T → Option sq_impl_instruction_sm.T := fun x => F_impl_instruction_sm x.1.1 x.1.2.1
theorem e_impl_instruction_sm : ∀ x, evCode ty (gamOf g_impl_instruction_sm) j_impl_instruction_sm (lamOf []) b_impl_instruction_sm (sp_impl_instruction_sm.hd x) (finN ty sq_impl_instruction_sm [.tmp 6, .tmp 7, .tmp 8]) = U_impl_instruction_sm x := fun x => by kernel_rfl
theorem c_impl_instruction_sm : FnS P 159 sp_impl_instruction_sm sq_impl_instruction_sm U_impl_instruction_sm :=
  fnS_of_ev tyOk mixed gok_impl_instruction_sm (fn := Tryz.f159) (by kernel_rfl) (c := b_impl_instruction_sm) (by kernel_rfl) (by kernel_rfl) (by kernel_rfl) (lam_ok (tab := []) (by kernel_rfl) lm0) e_impl_instruction_sm

/-! (*impl.StackMachine).do$1 -/
abbrev sp_impl_StackMachine_do_f1 : Sp := ⟨17, [(0, .val false (.int .i64)), (1, .fix (.ptr 60000 0)), (2, .fix (.ptr 60001 0))], [(60000, [.fix (.ptr 60002 0)]), (60001, [.val (.int .i64)]), (60002, [.val (.int .i64), .val (.sl (.int .i64)), .fix (.own 63000), .val (.int .i64), .val (.int .i64), .val (.int .i64), .val .bool])], [(63000, (.int .i64), true)]⟩
abbrev sq_impl_StackMachine_do_f1 : Sp := ⟨0, [], [(60000, [.fix (.ptr 60002 0)]), (60001, [.val (.int .i64)]), (60002, [.val (.int .i64), .fix (.own 59000), .fix (.own 59001), .val (.int .i64), .val (.int .i64), .val (.int .i64), .val .bool])], [(59000, (.int .i64), true), (59001, (.int .i64), true)]⟩
noncomputable def g_impl_StackMachine_do_f1 : List (FuncId × SumX) := []
def j_impl_StackMachine_do_f1 : Nat → Option (List (Nat × SS)) := jOf []
theorem gok_impl_StackMachine_do_f1 : GOk P (gamOf g_impl_StackMachine_do_f1) := gam_ok (tab := g_impl_StackMachine_do_f1) gm0
noncomputable abbrev b_impl_StackMachine_do_f1 : Code := bodyOf Tryz.f180
noncomputable def F_impl_StackMachine_do_f1 (x1 : K.T (.int .i64)) (x2 : K.T (.int .i64)) (x3 : K.T (.int .i64)) (x4 : K.T (.sl (.int .i64))) (x5 : K.T (.int .i64)) (x6 : K.T (.int .i64)) (x7 : K.T (.int .i64)) (x8 : K.T .bool) (x9 : List (K.T (.int .i64))) : Option sq_impl_StackMachine_do_f1.T :=
  bif decide (x2 = x2) then
  bif decide (0 ≤ (0 : Int) ∧ (0 : Int) ≤ x2 ∧ x2 ≤ ((x4).length : Int)) then
  bif ((((x4).take (Int.toNat x2)).drop (Int.toNat (0 : Int))).isEmpty || !([x1]).isEmpty) then
  bif room ((((x4).take (Int.toNat x2)).drop (Int.toNat (0 : Int))) ++ [x1]).length 8 then
  some ((), ((), ((x2, ()), ((x3, (x5, (x6, (x7, (x8, ()))))), ()))), (((((x4).take (Int.toNat x2)).drop (Int.toNat (0 : Int))) ++ [x1]), (x9, ())))
  else none
  else none
  else none
  else none
noncomputable abbrev U_impl_StackMachine_do_f1 : sp_impl_StackMachine_do_f1.T → Option sq_impl_StackMachine_do_f1.T := fun x => F_impl_StackMachine_do_f1 x.1.1 x.2.1.2.1.1 x.2.1.2.2.1.1 x.2.1.2.2.1.2.1 x.2.1.2.2.1.2.2.1 x.2.1.2.2.1.2.2.2.1 x.2.1.2.2.1.2.2.2.2.1 x.2.1.2.2.1.2.2.2.2.2.1 x.2.2.1
theorem e_impl_StackMachine_do_f1 : ∀ x, evCode ty (gamOf g_impl_StackMachine_do_f1) j_impl_StackMachine_do_f1 (lamOf []) b_impl_StackMachine_do_f1 (sp_impl_StackMachine_do_f1.hd x) (finN ty sq_impl_StackMachine_do_f1 []) = U_impl_StackMachine_do_f1 x := fun x => by kernel_rfl
theorem c_impl_StackMachine_do_f1 : FnS P 180 sp_impl_StackMachine_do_f1 sq_impl_StackMachine_do_f1 U_impl_StackMachine_do_f1 :=
  fnS_of_ev tyOk mixed gok_impl_StackMachine_do_f1 (fn := Tryz.f180) (by kernel_rfl) (c := b_impl_StackMachine_do_f1) (by kernel_rfl) (by kernel_rfl) (by kernel_rfl) (lam_ok (tab := []) (by kernel_rfl) lm0) e_impl_StackMachine_do_f1

/-! (*impl.StackMachine).do$2 -/
abbrev sp_impl_StackMachine_do_f2 : Sp := ⟨11, [(0, .val false (.int .i64)), (1, .fix (.ptr 60000 0))], [(60000, [.fix (.ptr 60001 0)]), (60001, [.val (.int .i64), .val (.sl (.int .i64)), .fix (.own 63000), .val (.int .i64), .val (.int .i64), .val (.int .i64), .val .bool])], [(63000, (.int .i64), true)]⟩
abbrev sq_impl_StackMachine_do_f2 : Sp := ⟨1, [(0, .val false .bool)], [(60000, [.fix (.ptr 60001 0)]), (60001, [.val (.int .i64), .val (.sl (.int .i64)), .fix (.own 59000), .val (.int .i64), .val (.int .i64), .val (.int .i64), .val .bool])], [(59000, (.int .i64), true)]⟩
noncomputable def g_impl_StackMachine_do_f2 : List (FuncId × SumX) := []
def j_impl_StackMachine_do_f2 : Nat → Option (List (Nat × SS)) := jOf []
theorem gok_impl_StackMachine_do_f2 : GOk P (gamOf g_impl_StackMachine_do_f2) := gam_ok (tab := g_impl_StackMachine_do_f2) gm0
noncomputable abbrev b_impl_StackMachine_do_f2 : Code := bodyOf Tryz.f181
noncomputable def F_impl_StackMachine_do_f2 (x1 : K.T (.int .i64)) (x2 : K.T (.int .i64)) (x3 : K.T (.sl (.int .i64))) (x4 : K.T (.int .i64)) (x5 : K.T (.int .i64)) (x6 : K.T (.int .i64)) (x7 : K.T .bool) (x8 : List (K.T (.int .i64))) : Option sq_impl_StackMachine_do_f2.T :=
  some (((decide (x1 < ((x8).length : Int))), ()), ((), ((x2, (x3, (x4, (x5, (x6, (x7, ())))))), ())), (x8, ()))
noncomputable abbrev U_impl_StackMachine_do_f2 : sp_impl_StackMachine_do_f2.T → Option sq_impl_StackMachine_do_f2.T := fun x => F_impl_StackMachine_do_f2 x.1.1 x.2.1.2.1.1 x.2.1.2.1.2.1 x.2.1.2.1.2.2.1 x.2.1.2.1.2.2.2.1 x.2.1.2.1.2.2.2.2.1 x.2.1.2.1.2.2.2.2.2.1 x.2.2.1
theorem e_impl_StackMachine_do_f2 : ∀ x, evCode ty (gamOf g_impl_StackMachine_do_f2) j_impl_StackMachine_do_f2 (lamOf []) b_impl_StackMachine_do_f2 (sp_impl_StackMachine_do_f2.hd x) (finN ty sq_impl_StackMachine_do_f2 [.tmp 3]) = U_impl_StackMachine_do_f2 x := fun x => by kernel_rfl
theorem c_impl_StackMachine_do_f2 : FnS P 181 sp_impl_StackMachine_do_f2 sq_impl_StackMachine_do_f2 U_impl_StackMachine_do_f2 :=
  fnS_of_ev tyOk mixed gok_impl_StackMachine_do_f2 (fn := Tryz.f181) (by kernel_rfl) (c := b_impl_StackMachine_do_f2) (by kernel_rfl) (by kernel_rfl) (by kernel_rfl) (lam_ok (tab := []) (by kernel_rfl) lm0) e_impl_StackMachine_do_f2

/-! impl.WordOf -/
abbrev sp_impl_WordOf : Sp := ⟨5, [(0, .val false (.int .i64))], [], []⟩
abbrev sq_impl_WordOf : Sp := ⟨1, [(0, .val false (.int .i64))], [], []⟩
noncomputable def g_impl_WordOf : List (FuncId × SumX) := []
def j_impl_WordOf : Nat → Option (List (Nat × SS)) := jOf []
theorem gok_impl_WordOf : GOk P (gamOf g_impl_WordOf) := gam_ok (tab := g_impl_WordOf) gm0
noncomputable abbrev b_impl_WordOf : Code := bodyOf Tryz.f162
noncomputable def F_impl_WordOf (x1 : K.T (.int .i64)) : Option sq_impl_WordOf.T :=
  some (((IntKind.wrap .i64 (((BitVec.ofInt (IntKind.bits .i64) x1 &&& BitVec.ofInt (IntKind.bits .i64) (65535 : Int)).toNat : Int))), ()), (), ())
noncomputable abbrev U_impl_WordOf : sp_impl_WordOf.T → Option sq_impl_WordOf.T := fun x => F_impl_WordOf x.1.1
theorem e_impl_WordOf : ∀ x, evCode ty (gamOf g_impl_WordOf) j_impl_WordOf (lamOf []) b_impl_WordOf (sp_impl_WordOf.hd x) (finN ty sq_impl_WordOf [.tmp 2]) = U_impl_WordOf x := fun x => by kernel_rfl
theorem c_impl_WordOf : FnS P 162 sp_impl_WordOf sq_impl_WordOf U_impl_WordOf :=
  fnS_of_ev tyOk mixed gok_impl_WordOf (fn := Tryz.f162) (by kernel_rfl) (c := b_impl_WordOf) (by kernel_rfl) (by kernel_rfl) (by kernel_rfl) (lam_ok (tab := []) (by kernel_rfl) lm0) e_impl_WordOf

/-! impl.SignedOf -/
abbrev sp_impl_SignedOf : Sp := ⟨10, [(0, .val false (.int .i64))], [], []⟩
abbrev sq_impl_SignedOf : Sp := ⟨1, [(0, .val false (.int .i64))], [], []⟩
noncomputable def g_impl_SignedOf : List (FuncId × SumX) := [(162, cN sp_impl_WordOf sq_impl_WordOf U_impl_WordOf)]
def j_impl_SignedOf : Nat → Option (List (Nat × SS)) := jOf []
theorem gok_impl_SignedOf : GOk P (gamOf g_impl_SignedOf) := gam_ok (tab := g_impl_SignedOf) (gm1 (cN_ok c_impl_WordOf rfl) gm0)
noncomputable abbrev b_impl_SignedOf : Code := bodyOf Tryz.f182
noncomputable def F_impl_SignedOf (x1 : K.T (.int .i64)) : Option sq_impl_SignedOf.T :=
  (F_impl_WordOf x1).bind fun y1 =>
  bif (decide (y1.1.1 ≥ (32768 : Int))) then
    (some (((IntKind.wrap .i64 (y1.1.1 - (65536 : Int))), ()), (), ()))
  else
  some ((y1.1.1, ()), (), ())
noncomputable abbrev U_impl_SignedOf : sp_impl_SignedOf.T → Option sq_impl_SignedOf.T := fun x => F_impl_SignedOf x.1.1
theorem e_impl_SignedOf : ∀ x, evCode ty (gamOf g_impl_SignedOf) j_impl_SignedOf (lamOf []) b_impl_SignedOf (sp_impl_SignedOf.hd x) (finN ty sq_impl_SignedOf [.tmp 2]) = U_impl_SignedOf x := fun x => by kernel_rfl
theorem c_impl_SignedOf : FnS P 182 sp_impl_SignedOf sq_impl_SignedOf U_impl_SignedOf :=
  fnS_of_ev tyOk mixed gok_impl_SignedOf (fn := Tryz.f182) (by kernel_rfl) (c := b_impl_SignedOf) (by kernel_rfl) (by kernel_rfl) (by kernel_rfl) (lam_ok (tab := []) (by kernel_rfl) lm0) e_impl_SignedOf

/-! impl.BinaryOf -/
abbrev sp_impl_BinaryOf : Sp := ⟨79, [(0, .val false (.int .i64)), (1, .val false (.int .i64)), (2, .val false (.int .i64))], [], []⟩
abbrev sq_impl_BinaryOf : Sp := ⟨1, [(0, .val true k1)], [], []⟩
noncomputable def g_impl_BinaryOf : List (FuncId × SumX) := [(138, cN sp_impl_flag sq_impl_flag U_impl_flag), (162, cN sp_impl_WordOf sq_impl_WordOf U_impl_WordOf), (182, cN sp_impl_SignedOf sq_impl_SignedOf U_impl_SignedOf)]
def j_impl_BinaryOf : Nat → Option (List (Nat × SS)) := jOf []
theorem gok_impl_BinaryOf : GOk P (gamOf g_impl_BinaryOf) := gam_ok (tab := g_impl_BinaryOf) (gm1 (cN_ok c_impl_flag rfl) (gm1 (cN_ok c_impl_WordOf rfl) (gm1 (cN_ok c_impl_SignedOf rfl) gm0)))
noncomputable abbrev b_impl_BinaryOf : Code := bodyOf Tryz.f183
noncomputable def F_impl_BinaryOf (x1 : K.T (.int .i64)) (x2 : K.T (.int .i64)) (x3 : K.T (.int .i64)) : Option sq_impl_BinaryOf.T :=
  (F_impl_WordOf x2).bind fun y1 =>
  (F_impl_WordOf x3).bind fun y2 =>
  (F_impl_SignedOf y1.1.1).bind fun y3 =>
  (F_impl_SignedOf y2.1.1).bind fun y4 =>
  bif (x1 == (1 : Int)) then
    ((F_impl_WordOf (IntKind.wrap .i64 (y1.1.1 + y2.1.1))).bind fun y5 =>
    some ((((0 : Int), y5.1.1), ()), (), ()))
  else
  bif (x1 == (2 : Int)) then
    ((F_impl_WordOf (IntKind.wrap .i64 (y1.1.1 - y2.1.1))).bind fun y6 =>
    some ((((0 : Int), y6.1.1), ()), (), ()))
  else
  bif (x1 == (3 : Int)) then
    ((F_impl_WordOf (IntKind.wrap .i64 (y1.1.1 * y2.1.1))).bind fun y7 =>
    some ((((0 : Int), y7.1.1), ()), (), ()))
  else
  bif (x1 == (4 : Int)) then
    (bif (y2.1.1 == (0 : Int)) then
      (some ((((4 : Int), (0 : Int)), ()), (), ()))
    else
    bif (y4.1.1 == 0) then none else
    bif (x1 == (5 : Int)) then
      (bif (y4.1.1 == 0) then none else
      (F_impl_WordOf (Int.tmod y3.1.1 y4.1.1)).bind fun y8 =>
      some ((((0 : Int), y8.1.1), ()), (), ()))
    else
    (F_impl_WordOf (IntKind.wrap .i64 (Int.tdiv y3.1.1 y4.1.1))).bind fun y9 =>
    some ((((0 : Int), y9.1.1), ()), (), ()))
  else
  bif (x1 == (5 : Int)) then
    (bif (y2.1.1 == (0 : Int)) then
      (some ((((4 : Int), (0 : Int)), ()), (), ()))
    else
    bif (y4.1.1 == 0) then none else
    bif (x1 == (5 : Int)) then
      (bif (y4.1.1 == 0) then none else
      (F_impl_WordOf (Int.tmod y3.1.1 y4.1.1)).bind fun y10 =>
      some ((((0 : Int), y10.1.1), ()), (), ()))
    else
    (F_impl_WordOf (IntKind.wrap .i64 (Int.tdiv y3.1.1 y4.1.1))).bind fun y11 =>
    some ((((0 : Int), y11.1.1), ()), (), ()))
  else
  bif (x1 == (6 : Int)) then
    ((F_impl_WordOf (IntKind.wrap .i64 (((BitVec.ofInt (IntKind.bits .i64) y1.1.1 &&& BitVec.ofInt (IntKind.bits .i64) y2.1.1).toNat : Int)))).bind fun y12 =>
    some ((((0 : Int), y12.1.1), ()), (), ()))
  else
  bif (x1 == (7 : Int)) then
    ((F_impl_WordOf (IntKind.wrap .i64 (((BitVec.ofInt (IntKind.bits .i64) y1.1.1 ||| BitVec.ofInt (IntKind.bits .i64) y2.1.1).toNat : Int)))).bind fun y13 =>
    some ((((0 : Int), y13.1.1), ()), (), ()))
  else
  bif (x1 == (8 : Int)) then
    ((F_impl_WordOf (IntKind.wrap .i64 (((BitVec.ofInt (IntKind.bits .i64) y1.1.1 ^^^ BitVec.ofInt (IntKind.bits .i64) y2.1.1).toNat : Int)))).bind fun y14 =>
    some ((((0 : Int), y14.1.1), ()), (), ()))
  else
  bif (x1 == (9 : Int)) then
    ((F_impl_flag (decide (y3.1.1 < y4.1.1))).bind fun y15 =>
    (F_impl_WordOf y15.1.1).bind fun y16 =>
    some ((((0 : Int), y16.1.1), ()), (), ()))
  else
  bif (x1 == (10 : Int)) then
    ((F_impl_flag (y1.1.1 == y2.1.1)).bind fun y17 =>
    (F_impl_WordOf y17.1.1).bind fun y18 =>
    some ((((0 : Int), y18.1.1), ()), (), ()))
  else
  some ((((3 : Int), (0 : Int)), ()), (), ())
noncomputable abbrev U_impl_BinaryOf : sp_impl_BinaryOf.T → Option sq_impl_BinaryOf.T := fun x => F_impl_BinaryOf x.1.1 x.1.2.1 x.1.2.2.1
theorem e_impl_BinaryOf : ∀ x, evCode ty (gamOf g_impl_BinaryOf) j_impl_BinaryOf (lamOf []) b_impl_BinaryOf (sp_impl_BinaryOf.hd x) (finN ty sq_impl_BinaryOf [.cell 6 199]) = U_impl_BinaryOf x := fun x => by kernel_rfl
theorem c_impl_BinaryOf : FnS P 183 sp_impl_BinaryOf sq_impl_BinaryOf U_impl_BinaryOf :=
  fnS_of_ev tyOk mixed gok_impl_BinaryOf (fn := Tryz.f183) (by kernel_rfl) (c := b_impl_BinaryOf) (by kernel_rfl) (by kernel_rfl) (by kernel_rfl) (lam_ok (tab := []) (by kernel_rfl) lm0) e_impl_BinaryOf

/-! impl.NegOf -/
abbrev sp_impl_NegOf : Sp := ⟨7, [(0, .val false (.int .i64))], [], []⟩
abbrev sq_impl_NegOf : Sp := ⟨1, [(0, .val false (.int .i64))], [], []⟩
noncomputable def g_impl_NegOf : List (FuncId × SumX) := [(162, cN sp_impl_WordOf sq_impl_WordOf U_impl_WordOf)]
def j_impl_NegOf : Nat → Option (List (Nat × SS)) := jOf []
theorem gok_impl_NegOf : GOk P (gamOf g_impl_NegOf) := gam_ok (tab := g_impl_NegOf) (gm1 (cN_ok c_impl_WordOf rfl) gm0)
noncomputable abbrev b_impl_NegOf : Code := bodyOf Tryz.f184
noncomputable def F_impl_NegOf (x1 : K.T (.int .i64)) : Option sq_impl_NegOf.T :=
  (F_impl_WordOf x1).bind fun y1 =>
  (F_impl_WordOf (IntKind.wrap .i64 (0 - y1.1.1))).bind fun y2 =>
  some ((y2.1.1, ()), (), ())
noncomputable abbrev U_impl_NegOf : sp_impl_NegOf.T → Option sq_impl_NegOf.T := fun x => F_impl_NegOf x.1.1
theorem e_impl_NegOf : ∀ x, evCode ty (gamOf g_impl_NegOf) j_impl_NegOf (lamOf []) b_impl_NegOf (sp_impl_NegOf.hd x) (finN ty sq_impl_NegOf [.tmp 2]) = U_impl_NegOf x := fun x => by kernel_rfl
theorem c_impl_NegOf : FnS P 184 sp_impl_NegOf sq_impl_NegOf U_impl_NegOf :=
  fnS_of_ev tyOk mixed gok_impl_NegOf (fn := Tryz.f184) (by kernel_rfl) (c := b_impl_NegOf) (by kernel_rfl) (by kernel_rfl) (by kernel_rfl) (lam_ok (tab := []) (by kernel_rfl) lm0) e_impl_NegOf

/-! impl.NotOf -/
abbrev sp_impl_NotOf : Sp := ⟨7, [(0, .val false (.int .i64))], [], []⟩
abbrev sq_impl_NotOf : Sp := ⟨1, [(0, .val false (.int .i64))], [], []⟩
noncomputable def g_impl_NotOf : List (FuncId × SumX) := [(138, cN sp_impl_flag sq_impl_flag U_impl_flag), (162, cN sp_impl_WordOf sq_impl_WordOf U_impl_WordOf)]
def j_impl_NotOf : Nat → Option (List (Nat × SS)) := jOf []
theorem gok_impl_NotOf : GOk P (gamOf g_impl_NotOf) := gam_ok (tab := g_impl_NotOf) (gm1 (cN_ok c_impl_flag rfl) (gm1 (cN_ok c_impl_WordOf rfl) gm0))
noncomputable abbrev b_impl_NotOf : Code := bodyOf Tryz.f185
noncomputable def F_impl_NotOf (x1 : K.T (.int .i64)) : Option sq_impl_NotOf.T :=
  (F_impl_WordOf x1).bind fun y1 =>
  (F_impl_flag (y1.1.1 == (0 : Int))).bind fun y2 =>
  some ((y2.1.1, ()), (), ())
noncomputable abbrev U_impl_NotOf : sp_impl_NotOf.T → Option sq_impl_NotOf.T := fun x => F_impl_NotOf x.1.1
theorem e_impl_NotOf : ∀ x, evCode ty (gamOf g_impl_NotOf) j_impl_NotOf (lamOf []) b_impl_NotOf (sp_impl_NotOf.hd x) (finN ty sq_impl_NotOf [.tmp 2]) = U_impl_NotOf x := fun x => by kernel_rfl
theorem c_impl_NotOf : FnS P 185 sp_impl_NotOf sq_impl_NotOf U_impl_NotOf :=
  fnS_of_ev tyOk mixed gok_impl_NotOf (fn := Tryz.f185) (by kernel_rfl) (c := b_impl_NotOf) (by kernel_rfl) (by kernel_rfl) (by kernel_rfl) (lam_ok (tab := []) (by kernel_rfl) lm0) e_impl_NotOf

/-! impl.SignOf -/
abbrev sp_impl_SignOf : Sp := ⟨13, [(0, .val false (.int .i64)), (1, .val false (.int .i64))], [], []⟩
abbrev sq_impl_SignOf : Sp := ⟨1, [(0, .val false (.int .i64))], [], []⟩
noncomputable def g_impl_SignOf : List (FuncId × SumX) := [(162, cN sp_impl_WordOf sq_impl_WordOf U_impl_WordOf)]
def j_impl_SignOf : Nat → Option (List (Nat × SS)) := jOf []
theorem gok_impl_SignOf : GOk P (gamOf g_impl_SignOf) := gam_ok (tab := g_impl_SignOf) (gm1 (cN_ok c_impl_WordOf rfl) gm0)
noncomputable abbrev b_impl_SignOf : Code := bodyOf Tryz.f186
noncomputable def F_impl_SignOf (x1 : K.T (.int .i64)) (x2 : K.T (.int .i64)) : Option sq_impl_SignOf.T :=
  (F_impl_WordOf x1).bind fun y1 =>
  (F_impl_WordOf x2).bind fun y2 =>
  some (((Int.tmod (IntKind.wrap .i64 ((IntKind.wrap .i64 ((IntKind.wrap .i64 (y1.1.1 * (31 : Int))) + y2.1.1)) + (1 : Int))) (65521 : Int)), ()), (), ())
noncomputable abbrev U_impl_SignOf : sp_impl_SignOf.T → Option sq_impl_SignOf.T := fun x => F_impl_SignOf x.1.1 x.1.2.1
theorem e_impl_SignOf : ∀ x, evCode ty (gamOf g_impl_SignOf) j_impl_SignOf (lamOf []) b_impl_SignOf (sp_impl_SignOf.hd x) (finN ty sq_impl_SignOf [.tmp 4]) = U_impl_SignOf x := fun x => by kernel_rfl
theorem c_impl_SignOf : FnS P 186 sp_impl_SignOf sq_impl_SignOf U_impl_SignOf :=
  fnS_of_ev tyOk mixed gok_impl_SignOf (fn := Tryz.f186) (by kernel_rfl) (c := b_impl_SignOf) (by kernel_rfl) (by kernel_rfl) (by kernel_rfl) (lam_ok (tab := []) (by kernel_rfl) lm0) e_impl_SignOf

end Go.Ev
