/- What is proved here: the contract of each function that FnExactTestChan reaches; no condition. -/
import Derived.Test.YtfglckpbconanaaProg
import Derived.Test.YtfglckpbconanaaLe
import Derived.KernelRfl
set_option linter.unusedVariables false
namespace Go.Ev
open Go.Proofs
def bodyOf (f : Func) : Code := f.body.getD .skip
noncomputable abbrev P : Program := Try.prog
abbrev k0 : K := (.pr (.int .i64) (.int .i64))
abbrev k1 : K := (.pr (.sl (.int .i64)) k0)
abbrev k2 : K := (.pr (.sl (.int .i64)) k1)
abbrev k3 : K := (.pr (.sl (.int .i64)) k2)
abbrev k4 : K := (.pr (.int .i64) k3)
abbrev k5 : K := (.pr (.int .i64) k4)
abbrev k6 : K := (.pr (.int .i64) k5)
abbrev k7 : K := (.pr (.int .i64) k6)
def tab : List (Nat × TI) := [
  (2, (⟨.other, false, 1, 8, [.int .i64 0], some (.int .i64)⟩ : TI)),
  (22, (⟨.slice 2, false, 1, 24, [.nil], some (.sl (.int .i64))⟩ : TI)),
  (24, (⟨.struct [(0, 1, false), (1, 1, false), (2, 1, false), (3, 1, false), (4, 1, false), (5, 1, false)], true, 6, 96, [.int .i64 0, .nil, .nil, .nil, .int .i64 0, .int .i64 0], some k4⟩ : TI)),
  (26, (⟨.struct [(0, 1, false), (1, 1, false), (2, 1, false), (3, 1, false), (4, 1, false), (5, 1, false)], true, 6, 96, [.int .i64 0, .nil, .nil, .nil, .int .i64 0, .int .i64 0], some k4⟩ : TI)),
  (28, (⟨.struct [(0, 1, false), (1, 1, false), (2, 1, false), (3, 6, true)], true, 9, 120, [.int .i64 0, .int .i64 0, .int .i64 0, .int .i64 0, .nil, .nil, .nil, .int .i64 0, .int .i64 0], some k7⟩ : TI)),
  (80, (⟨.slice 22, false, 1, 24, [.nil], some (.sl (.sl (.int .i64)))⟩ : TI))]
def ty : Ty := fun t => (Tr.ofList tab).get t
theorem tyOk : TyOk P ty := tyOk_of_tab (by kernel_rfl)
theorem mixed : P.follows .mixedOrders = true := by kernel_rfl
/-! laws.szInt64S -/
abbrev sp_laws_szInt64S : Sp := ⟨12, [(0, .val false (.sl (.int .i64))), (1, .val false (.int .i64))], [], []⟩
abbrev sq_laws_szInt64S : Sp := ⟨1, [(0, .val false (.int .i64))], [], []⟩
noncomputable def g_laws_szInt64S : List (FuncId × SumX) := []
def j_laws_szInt64S : Nat → Option (List (Nat × SS)) := jOf []
theorem gok_laws_szInt64S : GOk P (gamOf g_laws_szInt64S) := gam_ok (tab := g_laws_szInt64S) (fun p hp => by cases hp)
noncomputable abbrev b_laws_szInt64S : Code := bodyOf Try.f35
noncomputable def F_laws_szInt64S (x1 : K.T (.sl (.int .i64))) (x2 : K.T (.int .i64)) : Option sq_laws_szInt64S.T :=
  bif (decide ((IntKind.wrap .i64 (x2 - ((x1).length : Int))) < (0 : Int))) then
    (some (((-1 : Int), ()), (), ()))
  else
  some (((IntKind.wrap .i64 (x2 - ((x1).length : Int))), ()), (), ())
noncomputable abbrev U_laws_szInt64S : sp_laws_szInt64S.T → Option sq_laws_szInt64S.T := fun x => F_laws_szInt64S x.1.1 x.1.2.1
theorem e_laws_szInt64S : ∀ x, evCode ty (gamOf g_laws_szInt64S) j_laws_szInt64S (lamOf []) b_laws_szInt64S (sp_laws_szInt64S.hd x) (finN ty sq_laws_szInt64S [.tmp 4]) = U_laws_szInt64S x := fun x => by kernel_rfl
theorem c_laws_szInt64S : FnS P 35 sp_laws_szInt64S sq_laws_szInt64S U_laws_szInt64S :=
  fnS_of_ev tyOk mixed gok_laws_szInt64S (fn := Try.f35) (by kernel_rfl) (c := b_laws_szInt64S) (by kernel_rfl) (by kernel_rfl) (by kernel_rfl) (lam_ok (tab := []) (by kernel_rfl) (fun p hp => by cases hp)) e_laws_szInt64S

/-! laws.szChan -/
abbrev sp_laws_szChan : Sp := ⟨24, [(0, .val true k4), (1, .val false (.int .i64))], [], []⟩
abbrev sq_laws_szChan : Sp := ⟨1, [(0, .val false (.int .i64))], [], []⟩
noncomputable def g_laws_szChan : List (FuncId × SumX) := [(35, cN sp_laws_szInt64S sq_laws_szInt64S U_laws_szInt64S)]
def j_laws_szChan : Nat → Option (List (Nat × SS)) := jOf []
theorem gok_laws_szChan : GOk P (gamOf g_laws_szChan) := gam_ok (tab := g_laws_szChan) (by
    intro p hp
    simp only [g_laws_szChan, List.mem_cons, List.not_mem_nil, or_false] at hp
    rcases hp with rfl
    · exact cN_ok c_laws_szInt64S rfl)
noncomputable abbrev b_laws_szChan : Code := bodyOf Try.f7
noncomputable def F_laws_szChan (x1 : K.T k4) (x2 : K.T (.int .i64)) : Option sq_laws_szChan.T :=
  (F_laws_szInt64S x1.2.1 x2).bind fun y1 =>
  bif (decide (y1.1.1 < (0 : Int))) then
    (some (((-1 : Int), ()), (), ()))
  else
  (F_laws_szInt64S x1.2.2.1 y1.1.1).bind fun y2 =>
  bif (decide (y2.1.1 < (0 : Int))) then
    (some (((-1 : Int), ()), (), ()))
  else
  (F_laws_szInt64S x1.2.2.2.1 y2.1.1).bind fun y3 =>
  bif (decide (y3.1.1 < (0 : Int))) then
    (some (((-1 : Int), ()), (), ()))
  else
  some ((y3.1.1, ()), (), ())
noncomputable abbrev U_laws_szChan : sp_laws_szChan.T → Option sq_laws_szChan.T := fun x => F_laws_szChan x.1.1 x.1.2.1
theorem e_laws_szChan : ∀ x, evCode ty (gamOf g_laws_szChan) j_laws_szChan (lamOf []) b_laws_szChan (sp_laws_szChan.hd x) (finN ty sq_laws_szChan [.tmp 4]) = U_laws_szChan x := fun x => by kernel_rfl
theorem c_laws_szChan : FnS P 7 sp_laws_szChan sq_laws_szChan U_laws_szChan :=
  fnS_of_ev tyOk mixed gok_laws_szChan (fn := Try.f7) (by kernel_rfl) (c := b_laws_szChan) (by kernel_rfl) (by kernel_rfl) (by kernel_rfl) (lam_ok (tab := []) (by kernel_rfl) (fun p hp => by cases hp)) e_laws_szChan

/-! spec.l1In -/
abbrev sp_spec_l1In : Sp := ⟨15, [(0, .val false (.int .i64)), (1, .val false (.int .i64)), (2, .val false (.int .i64))], [], []⟩
abbrev sq_spec_l1In : Sp := ⟨1, [(0, .val false .bool)], [], []⟩
noncomputable def g_spec_l1In : List (FuncId × SumX) := []
def j_spec_l1In : Nat → Option (List (Nat × SS)) := jOf [(1, [(6, .val false .bool)])]
theorem gok_spec_l1In : GOk P (gamOf g_spec_l1In) := gam_ok (tab := g_spec_l1In) (fun p hp => by cases hp)
noncomputable abbrev b_spec_l1In : Code := bodyOf Try.f63
noncomputable def F_spec_l1In (x1 : K.T (.int .i64)) (x2 : K.T (.int .i64)) (x3 : K.T (.int .i64)) : Option sq_spec_l1In.T :=
  (bif (decide (x1 ≥ x2)) then
      (some ((decide (x1 ≤ x3)), ()))
    else
    some (false, ())).bind fun y1 =>
  some ((y1.1, ()), (), ())
noncomputable abbrev U_spec_l1In : sp_spec_l1In.T → Option sq_spec_l1In.T := fun x => F_spec_l1In x.1.1 x.1.2.1 x.1.2.2.1
theorem e_spec_l1In : ∀ x, evCode ty (gamOf g_spec_l1In) j_spec_l1In (lamOf []) b_spec_l1In (sp_spec_l1In.hd x) (finN ty sq_spec_l1In [.tmp 6]) = U_spec_l1In x := fun x => by kernel_rfl
theorem c_spec_l1In : FnS P 63 sp_spec_l1In sq_spec_l1In U_spec_l1In :=
  fnS_of_ev tyOk mixed gok_spec_l1In (fn := Try.f63) (by kernel_rfl) (c := b_spec_l1In) (by kernel_rfl) (by kernel_rfl) (by kernel_rfl) (lam_ok (tab := []) (by kernel_rfl) (fun p hp => by cases hp)) e_spec_l1In

/-! spec.l1Word -/
abbrev sp_spec_l1Word : Sp := ⟨5, [(0, .val false (.int .i64))], [], []⟩
abbrev sq_spec_l1Word : Sp := ⟨1, [(0, .val false .bool)], [], []⟩
noncomputable def g_spec_l1Word : List (FuncId × SumX) := [(63, cN sp_spec_l1In sq_spec_l1In U_spec_l1In)]
def j_spec_l1Word : Nat → Option (List (Nat × SS)) := jOf []
theorem gok_spec_l1Word : GOk P (gamOf g_spec_l1Word) := gam_ok (tab := g_spec_l1Word) (by
    intro p hp
    simp only [g_spec_l1Word, List.mem_cons, List.not_mem_nil, or_false] at hp
    rcases hp with rfl
    · exact cN_ok c_spec_l1In rfl)
noncomputable abbrev b_spec_l1Word : Code := bodyOf Try.f80
noncomputable def F_spec_l1Word (x1 : K.T (.int .i64)) : Option sq_spec_l1Word.T :=
  (F_spec_l1In x1 (0 : Int) (65535 : Int)).bind fun y1 =>
  some ((y1.1.1, ()), (), ())
noncomputable abbrev U_spec_l1Word : sp_spec_l1Word.T → Option sq_spec_l1Word.T := fun x => F_spec_l1Word x.1.1
theorem e_spec_l1Word : ∀ x, evCode ty (gamOf g_spec_l1Word) j_spec_l1Word (lamOf []) b_spec_l1Word (sp_spec_l1Word.hd x) (finN ty sq_spec_l1Word [.tmp 2]) = U_spec_l1Word x := fun x => by kernel_rfl
theorem c_spec_l1Word : FnS P 80 sp_spec_l1Word sq_spec_l1Word U_spec_l1Word :=
  fnS_of_ev tyOk mixed gok_spec_l1Word (fn := Try.f80) (by kernel_rfl) (c := b_spec_l1Word) (by kernel_rfl) (by kernel_rfl) (by kernel_rfl) (lam_ok (tab := []) (by kernel_rfl) (fun p hp => by cases hp)) e_spec_l1Word

/-! spec.l6All -/
abbrev sp_spec_l6All : Sp := ⟨16, [(0, .val false (.sl (.int .i64)))], [], []⟩
abbrev sq_spec_l6All : Sp := ⟨1, [(0, .val false .bool)], [], []⟩
noncomputable def g_spec_l6All : List (FuncId × SumX) := [(80, cN sp_spec_l1Word sq_spec_l1Word U_spec_l1Word)]
def j_spec_l6All : Nat → Option (List (Nat × SS)) := jOf []
theorem gok_spec_l6All : GOk P (gamOf g_spec_l6All) := gam_ok (tab := g_spec_l6All) (by
    intro p hp
    simp only [g_spec_l6All, List.mem_cons, List.not_mem_nil, or_false] at hp
    rcases hp with rfl
    · exact cN_ok c_spec_l1Word rfl)
noncomputable abbrev b_spec_l6All : Code := bodyOf Try.f43
abbrev sp_spec_l6All_l2 : Sp := ⟨16, [(0, .val false (.sl (.int .i64))), (3, .val false (.int .i64))], [], []⟩
abbrev xs_spec_l6All_l2 : List (Ex × Sp) := [(.exit 0, ⟨16, [], [], []⟩), (.ret, ⟨16, [(2, .val false .bool)], [], []⟩)]
noncomputable def s_spec_l6All_l2 : sp_spec_l6All_l2.T → Option (sp_spec_l6All_l2.T ⊕ XT xs_spec_l6All_l2) := fun x =>
  bif (decide (x.1.2.1 < ((x.1.1).length : Int))) then
    (bif ib x.1.2.1 (x.1.1).length then
    (F_spec_l1Word ((x.1.1).getD (Int.toNat x.1.2.1) (K.zero (.int .i64)))).bind fun y1 =>
    bif (!y1.1.1) then
      (some (.inr (.inr ((false, ()), (), ()))))
    else
    some (.inl ((x.1.1, ((IntKind.wrap .i64 (x.1.2.1 + (1 : Int))), ())), (), ()))
    else none)
  else
  some (.inr (.inl ((), (), ())))
noncomputable def l_spec_l6All_l2 : sp_spec_l6All_l2.T → Option (XT xs_spec_l6All_l2) := lim s_spec_l6All_l2
theorem es_spec_l6All_l2 : ∀ x, evCode ty (gamOf g_spec_l6All) j_spec_l6All (lamOf []) (loopAt b_spec_l6All 2) (sp_spec_l6All_l2.hd x) (rdK sp_spec_l6All_l2 xs_spec_l6All_l2) = s_spec_l6All_l2 x := fun x => by kernel_rfl
theorem ls_spec_l6All_l2 : LSumOk P (loopAt b_spec_l6All 2) (loopL sp_spec_l6All_l2 xs_spec_l6All_l2 l_spec_l6All_l2) := loop_ok tyOk mixed gok_spec_l6All (by kernel_rfl) (by kernel_rfl) (lam_ok (tab := []) (by kernel_rfl) (fun p hp => by cases hp)) es_spec_l6All_l2 lim_itr
noncomputable def F_spec_l6All (x1 : K.T (.sl (.int .i64))) : Option sq_spec_l6All.T :=
  (l_spec_l6All_l2 ((x1, ((0 : Int), ())), (), ())).bind fun y2 =>
  (match y2 with
  | .inl y3 => some ((true, ()), (), ())
  | .inr z4 => some ((z4.1.1, ()), (), ()))
noncomputable abbrev U_spec_l6All : sp_spec_l6All.T → Option sq_spec_l6All.T := fun x => F_spec_l6All x.1.1
theorem e_spec_l6All : ∀ x, evCode ty (gamOf g_spec_l6All) j_spec_l6All (lamOf [(2, loopL sp_spec_l6All_l2 xs_spec_l6All_l2 l_spec_l6All_l2)]) b_spec_l6All (sp_spec_l6All.hd x) (finN ty sq_spec_l6All [.tmp 2]) = U_spec_l6All x := fun x => by kernel_rfl
theorem c_spec_l6All : FnS P 43 sp_spec_l6All sq_spec_l6All U_spec_l6All :=
  fnS_of_ev tyOk mixed gok_spec_l6All (fn := Try.f43) (by kernel_rfl) (c := b_spec_l6All) (by kernel_rfl) (by kernel_rfl) (by kernel_rfl) (lam_ok (tab := [(2, loopL sp_spec_l6All_l2 xs_spec_l6All_l2 l_spec_l6All_l2)]) (by kernel_rfl) (by
    intro p hp
    simp only [List.mem_cons, List.not_mem_nil, or_false] at hp
    rcases hp with rfl
    · exact @ls_spec_l6All_l2)) e_spec_l6All

/-! spec.WordsFault -/
abbrev sp_spec_WordsFault : Sp := ⟨19, [(0, .val false (.sl (.int .i64)))], [], []⟩
abbrev sq_spec_WordsFault : Sp := ⟨1, [(0, .val false (.int .i64))], [], []⟩
noncomputable def g_spec_WordsFault : List (FuncId × SumX) := [(80, cN sp_spec_l1Word sq_spec_l1Word U_spec_l1Word)]
def j_spec_WordsFault : Nat → Option (List (Nat × SS)) := jOf []
theorem gok_spec_WordsFault : GOk P (gamOf g_spec_WordsFault) := gam_ok (tab := g_spec_WordsFault) (by
    intro p hp
    simp only [g_spec_WordsFault, List.mem_cons, List.not_mem_nil, or_false] at hp
    rcases hp with rfl
    · exact cN_ok c_spec_l1Word rfl)
noncomputable abbrev b_spec_WordsFault : Code := bodyOf Try.f61
abbrev sp_spec_WordsFault_l4 : Sp := ⟨19, [(0, .val false (.sl (.int .i64))), (3, .val false (.int .i64))], [], []⟩
abbrev xs_spec_WordsFault_l4 : List (Ex × Sp) := [(.exit 0, ⟨19, [], [], []⟩), (.ret, ⟨19, [(2, .val false (.int .i64))], [], []⟩)]
noncomputable def s_spec_WordsFault_l4 : sp_spec_WordsFault_l4.T → Option (sp_spec_WordsFault_l4.T ⊕ XT xs_spec_WordsFault_l4) := fun x =>
  bif (decide (x.1.2.1 < ((x.1.1).length : Int))) then
    (bif ib x.1.2.1 (x.1.1).length then
    (F_spec_l1Word ((x.1.1).getD (Int.toNat x.1.2.1) (K.zero (.int .i64)))).bind fun y1 =>
    bif (!y1.1.1) then
      (some (.inr (.inr (((3 : Int), ()), (), ()))))
    else
    some (.inl ((x.1.1, ((IntKind.wrap .i64 (x.1.2.1 + (1 : Int))), ())), (), ()))
    else none)
  else
  some (.inr (.inl ((), (), ())))
noncomputable def l_spec_WordsFault_l4 : sp_spec_WordsFault_l4.T → Option (XT xs_spec_WordsFault_l4) := lim s_spec_WordsFault_l4
theorem es_spec_WordsFault_l4 : ∀ x, evCode ty (gamOf g_spec_WordsFault) j_spec_WordsFault (lamOf []) (loopAt b_spec_WordsFault 4) (sp_spec_WordsFault_l4.hd x) (rdK sp_spec_WordsFault_l4 xs_spec_WordsFault_l4) = s_spec_WordsFault_l4 x := fun x => by kernel_rfl
theorem ls_spec_WordsFault_l4 : LSumOk P (loopAt b_spec_WordsFault 4) (loopL sp_spec_WordsFault_l4 xs_spec_WordsFault_l4 l_spec_WordsFault_l4) := loop_ok tyOk mixed gok_spec_WordsFault (by kernel_rfl) (by kernel_rfl) (lam_ok (tab := []) (by kernel_rfl) (fun p hp => by cases hp)) es_spec_WordsFault_l4 lim_itr
noncomputable def F_spec_WordsFault (x1 : K.T (.sl (.int .i64))) : Option sq_spec_WordsFault.T :=
  bif (decide (((x1).length : Int) > (400 : Int))) then
    (some (((2 : Int), ()), (), ()))
  else
  (l_spec_WordsFault_l4 ((x1, ((0 : Int), ())), (), ())).bind fun y2 =>
  (match y2 with
  | .inl y3 => some (((0 : Int), ()), (), ())
  | .inr z4 => some ((z4.1.1, ()), (), ()))
noncomputable abbrev U_spec_WordsFault : sp_spec_WordsFault.T → Option sq_spec_WordsFault.T := fun x => F_spec_WordsFault x.1.1
theorem e_spec_WordsFault : ∀ x, evCode ty (gamOf g_spec_WordsFault) j_spec_WordsFault (lamOf [(4, loopL sp_spec_WordsFault_l4 xs_spec_WordsFault_l4 l_spec_WordsFault_l4)]) b_spec_WordsFault (sp_spec_WordsFault.hd x) (finN ty sq_spec_WordsFault [.tmp 2]) = U_spec_WordsFault x := fun x => by kernel_rfl
theorem c_spec_WordsFault : FnS P 61 sp_spec_WordsFault sq_spec_WordsFault U_spec_WordsFault :=
  fnS_of_ev tyOk mixed gok_spec_WordsFault (fn := Try.f61) (by kernel_rfl) (c := b_spec_WordsFault) (by kernel_rfl) (by kernel_rfl) (by kernel_rfl) (lam_ok (tab := [(4, loopL sp_spec_WordsFault_l4 xs_spec_WordsFault_l4 l_spec_WordsFault_l4)]) (by kernel_rfl) (by
    intro p hp
    simp only [List.mem_cons, List.not_mem_nil, or_false] at hp
    rcases hp with rfl
    · exact @ls_spec_WordsFault_l4)) e_spec_WordsFault

/-! spec.l13Kind -/
abbrev sp_spec_l13Kind : Sp := ⟨9, [(0, .val false (.int .i64))], [], []⟩
abbrev sq_spec_l13Kind : Sp := ⟨1, [(0, .val false .bool)], [], []⟩
noncomputable def g_spec_l13Kind : List (FuncId × SumX) := []
def j_spec_l13Kind : Nat → Option (List (Nat × SS)) := jOf [(1, [(2, .val false .bool)])]
theorem gok_spec_l13Kind : GOk P (gamOf g_spec_l13Kind) := gam_ok (tab := g_spec_l13Kind) (fun p hp => by cases hp)
noncomputable abbrev b_spec_l13Kind : Code := bodyOf Try.f79
noncomputable def F_spec_l13Kind (x1 : K.T (.int .i64)) : Option sq_spec_l13Kind.T :=
  (bif (x1 == (1 : Int)) then
      (some (true, ()))
    else
    some ((x1 == (2 : Int)), ())).bind fun y1 =>
  some ((y1.1, ()), (), ())
noncomputable abbrev U_spec_l13Kind : sp_spec_l13Kind.T → Option sq_spec_l13Kind.T := fun x => F_spec_l13Kind x.1.1
theorem e_spec_l13Kind : ∀ x, evCode ty (gamOf g_spec_l13Kind) j_spec_l13Kind (lamOf []) b_spec_l13Kind (sp_spec_l13Kind.hd x) (finN ty sq_spec_l13Kind [.tmp 2]) = U_spec_l13Kind x := fun x => by kernel_rfl
theorem c_spec_l13Kind : FnS P 79 sp_spec_l13Kind sq_spec_l13Kind U_spec_l13Kind :=
  fnS_of_ev tyOk mixed gok_spec_l13Kind (fn := Try.f79) (by kernel_rfl) (c := b_spec_l13Kind) (by kernel_rfl) (by kernel_rfl) (by kernel_rfl) (lam_ok (tab := []) (by kernel_rfl) (fun p hp => by cases hp)) e_spec_l13Kind

/-! spec.l13Fault -/
abbrev sp_spec_l13Fault : Sp := ⟨55, [(0, .rp k4)], [], []⟩
abbrev sq_spec_l13Fault : Sp := ⟨1, [(0, .val false (.int .i64))], [], []⟩
noncomputable def g_spec_l13Fault : List (FuncId × SumX) := [(43, cN sp_spec_l6All sq_spec_l6All U_spec_l6All), (61, cN sp_spec_WordsFault sq_spec_WordsFault U_spec_WordsFault), (79, cN sp_spec_l13Kind sq_spec_l13Kind U_spec_l13Kind), (80, cN sp_spec_l1Word sq_spec_l1Word U_spec_l1Word)]
def j_spec_l13Fault : Nat → Option (List (Nat × SS)) := jOf [(9, [(48, .val false .bool)])]
theorem gok_spec_l13Fault : GOk P (gamOf g_spec_l13Fault) := gam_ok (tab := g_spec_l13Fault) (by
    intro p hp
    simp only [g_spec_l13Fault, List.mem_cons, List.not_mem_nil, or_false] at hp
    rcases hp with rfl | rfl | rfl | rfl
    · exact cN_ok c_spec_l6All rfl
    · exact cN_ok c_spec_WordsFault rfl
    · exact cN_ok c_spec_l13Kind rfl
    · exact cN_ok c_spec_l1Word rfl)
noncomputable abbrev b_spec_l13Fault : Code := bodyOf Try.f36
noncomputable def F_spec_l13Fault (x1 : K.T k4) : Option sq_spec_l13Fault.T :=
  (F_spec_l13Kind x1.1).bind fun y1 =>
  bif (!y1.1.1) then
    (some (((1 : Int), ()), (), ()))
  else
  (F_spec_WordsFault x1.2.1).bind fun y2 =>
  bif (y2.1.1 != (0 : Int)) then
    (some ((y2.1.1, ()), (), ()))
  else
  (F_spec_WordsFault x1.2.2.1).bind fun y3 =>
  bif (y3.1.1 != (0 : Int)) then
    (some ((y3.1.1, ()), (), ()))
  else
  ((F_spec_l6All x1.2.2.2.1).bind fun y4 =>
    bif (!y4.1.1) then
      (some (true, ()))
    else
    (F_spec_l1Word x1.2.2.2.2.1).bind fun y5 =>
    bif (!y5.1.1) then
      (some (true, ()))
    else
    (F_spec_l1Word x1.2.2.2.2.2).bind fun y6 =>
    some ((!y6.1.1), ())).bind fun y7 =>
  bif y7.1 then
    (some (((3 : Int), ()), (), ()))
  else
  bif (decide (((x1.2.2.2.1).length : Int) > (80 : Int))) then
    (some (((2 : Int), ()), (), ()))
  else
  some (((0 : Int), ()), (), ())
noncomputable abbrev U_spec_l13Fault : sp_spec_l13Fault.T → Option sq_spec_l13Fault.T := fun x => F_spec_l13Fault x.1.1
theorem e_spec_l13Fault : ∀ x, evCode ty (gamOf g_spec_l13Fault) j_spec_l13Fault (lamOf []) b_spec_l13Fault (sp_spec_l13Fault.hd x) (finN ty sq_spec_l13Fault [.tmp 2]) = U_spec_l13Fault x := fun x => by kernel_rfl
theorem c_spec_l13Fault : FnS P 36 sp_spec_l13Fault sq_spec_l13Fault U_spec_l13Fault :=
  fnS_of_ev tyOk mixed gok_spec_l13Fault (fn := Try.f36) (by kernel_rfl) (c := b_spec_l13Fault) (by kernel_rfl) (by kernel_rfl) (by kernel_rfl) (lam_ok (tab := []) (by kernel_rfl) (fun p hp => by cases hp)) e_spec_l13Fault

/-! spec.l13Copy -/
abbrev sp_spec_l13Copy : Sp := ⟨19, [(0, .val true k4)], [], []⟩
abbrev sq_spec_l13Copy : Sp := ⟨1, [(0, .mix true [.val (.int .i64), .fix (.own 59000), .fix (.own 59001), .fix (.own 59002), .val (.int .i64), .val (.int .i64)])], [], [(59000, (.int .i64), true), (59001, (.int .i64), true), (59002, (.int .i64), true)]⟩
noncomputable def g_spec_l13Copy : List (FuncId × SumX) := []
def j_spec_l13Copy : Nat → Option (List (Nat × SS)) := jOf []
theorem gok_spec_l13Copy : GOk P (gamOf g_spec_l13Copy) := gam_ok (tab := g_spec_l13Copy) (fun p hp => by cases hp)
noncomputable abbrev b_spec_l13Copy : Code := bodyOf Try.f37
noncomputable def F_spec_l13Copy (x1 : K.T k4) : Option sq_spec_l13Copy.T :=
  bif room ([] ++ x1.2.1).length 8 then
  bif room ([] ++ x1.2.2.1).length 8 then
  bif room ([] ++ x1.2.2.2.1).length 8 then
  some (((x1.1, (x1.2.2.2.2.1, (x1.2.2.2.2.2, ()))), ()), (), (([] ++ x1.2.1), (([] ++ x1.2.2.1), (([] ++ x1.2.2.2.1), ()))))
  else none
  else none
  else none
noncomputable abbrev U_spec_l13Copy : sp_spec_l13Copy.T → Option sq_spec_l13Copy.T := fun x => F_spec_l13Copy x.1.1
theorem e_spec_l13Copy : ∀ x, evCode ty (gamOf g_spec_l13Copy) j_spec_l13Copy (lamOf []) b_spec_l13Copy (sp_spec_l13Copy.hd x) (finN ty sq_spec_l13Copy [.cell 2 26]) = U_spec_l13Copy x := fun x => by kernel_rfl
theorem c_spec_l13Copy : FnS P 37 sp_spec_l13Copy sq_spec_l13Copy U_spec_l13Copy :=
  fnS_of_ev tyOk mixed gok_spec_l13Copy (fn := Try.f37) (by kernel_rfl) (c := b_spec_l13Copy) (by kernel_rfl) (by kernel_rfl) (by kernel_rfl) (lam_ok (tab := []) (by kernel_rfl) (fun p hp => by cases hp)) e_spec_l13Copy

/-! spec.l1Crc -/
abbrev sp_spec_l1Crc : Sp := ⟨24, [(0, .val false (.int .i64)), (1, .val false (.int .i64))], [], []⟩
abbrev sq_spec_l1Crc : Sp := ⟨1, [(0, .val false (.int .i64))], [], []⟩
noncomputable def g_spec_l1Crc : List (FuncId × SumX) := []
def j_spec_l1Crc : Nat → Option (List (Nat × SS)) := jOf []
theorem gok_spec_l1Crc : GOk P (gamOf g_spec_l1Crc) := gam_ok (tab := g_spec_l1Crc) (fun p hp => by cases hp)
noncomputable abbrev b_spec_l1Crc : Code := bodyOf Try.f83
abbrev sp_spec_l1Crc_l3 : Sp := ⟨24, [(0, .val false (.int .i64)), (5, .val false (.int .i64))], [], []⟩
abbrev xs_spec_l1Crc_l3 : List (Ex × Sp) := [(.exit 0, ⟨24, [(0, .val false (.int .i64))], [], []⟩)]
noncomputable def s_spec_l1Crc_l3 : sp_spec_l1Crc_l3.T → Option (sp_spec_l1Crc_l3.T ⊕ XT xs_spec_l1Crc_l3) := fun x =>
  bif (decide (x.1.2.1 < (8 : Int))) then
    (bif (decide (x.1.1 ≥ (32768 : Int))) then
      (some (.inl (((IntKind.wrap .i64 (((BitVec.ofInt (IntKind.bits .i64) (Int.tmod (IntKind.wrap .i64 (x.1.1 * (2 : Int))) (65536 : Int)) ^^^ BitVec.ofInt (IntKind.bits .i64) (4129 : Int)).toNat : Int))), ((IntKind.wrap .i64 (x.1.2.1 + (1 : Int))), ())), (), ())))
    else
    some (.inl (((Int.tmod (IntKind.wrap .i64 (x.1.1 * (2 : Int))) (65536 : Int)), ((IntKind.wrap .i64 (x.1.2.1 + (1 : Int))), ())), (), ())))
  else
  some (.inr ((x.1.1, ()), (), ()))
noncomputable def l_spec_l1Crc_l3 : sp_spec_l1Crc_l3.T → Option (XT xs_spec_l1Crc_l3) := lim s_spec_l1Crc_l3
theorem es_spec_l1Crc_l3 : ∀ x, evCode ty (gamOf g_spec_l1Crc) j_spec_l1Crc (lamOf []) (loopAt b_spec_l1Crc 3) (sp_spec_l1Crc_l3.hd x) (rdK sp_spec_l1Crc_l3 xs_spec_l1Crc_l3) = s_spec_l1Crc_l3 x := fun x => by kernel_rfl
theorem ls_spec_l1Crc_l3 : LSumOk P (loopAt b_spec_l1Crc 3) (loopL sp_spec_l1Crc_l3 xs_spec_l1Crc_l3 l_spec_l1Crc_l3) := loop_ok tyOk mixed gok_spec_l1Crc (by kernel_rfl) (by kernel_rfl) (lam_ok (tab := []) (by kernel_rfl) (fun p hp => by cases hp)) es_spec_l1Crc_l3 lim_itr
noncomputable def F_spec_l1Crc (x1 : K.T (.int .i64)) (x2 : K.T (.int .i64)) : Option sq_spec_l1Crc.T :=
  (l_spec_l1Crc_l3 (((IntKind.wrap .i64 (((BitVec.ofInt (IntKind.bits .i64) x1 ^^^ BitVec.ofInt (IntKind.bits .i64) (IntKind.wrap .i64 (x2 * 2 ^ min (Int.toNat (8 : Int)) (IntKind.bits .i64)))).toNat : Int))), ((0 : Int), ())), (), ())).bind fun y1 =>
  some ((y1.1.1, ()), (), ())
noncomputable abbrev U_spec_l1Crc : sp_spec_l1Crc.T → Option sq_spec_l1Crc.T := fun x => F_spec_l1Crc x.1.1 x.1.2.1
theorem e_spec_l1Crc : ∀ x, evCode ty (gamOf g_spec_l1Crc) j_spec_l1Crc (lamOf [(3, loopL sp_spec_l1Crc_l3 xs_spec_l1Crc_l3 l_spec_l1Crc_l3)]) b_spec_l1Crc (sp_spec_l1Crc.hd x) (finN ty sq_spec_l1Crc [.tmp 4]) = U_spec_l1Crc x := fun x => by kernel_rfl
theorem c_spec_l1Crc : FnS P 83 sp_spec_l1Crc sq_spec_l1Crc U_spec_l1Crc :=
  fnS_of_ev tyOk mixed gok_spec_l1Crc (fn := Try.f83) (by kernel_rfl) (c := b_spec_l1Crc) (by kernel_rfl) (by kernel_rfl) (by kernel_rfl) (lam_ok (tab := [(3, loopL sp_spec_l1Crc_l3 xs_spec_l1Crc_l3 l_spec_l1Crc_l3)]) (by kernel_rfl) (by
    intro p hp
    simp only [List.mem_cons, List.not_mem_nil, or_false] at hp
    rcases hp with rfl
    · exact @ls_spec_l1Crc_l3)) e_spec_l1Crc

/-! spec.l1Sum -/
abbrev sp_spec_l1Sum : Sp := ⟨26, [(0, .val false (.sl (.int .i64)))], [], []⟩
abbrev sq_spec_l1Sum : Sp := ⟨1, [(0, .val false (.int .i64))], [], []⟩
noncomputable def g_spec_l1Sum : List (FuncId × SumX) := [(83, cN sp_spec_l1Crc sq_spec_l1Crc U_spec_l1Crc)]
def j_spec_l1Sum : Nat → Option (List (Nat × SS)) := jOf []
theorem gok_spec_l1Sum : GOk P (gamOf g_spec_l1Sum) := gam_ok (tab := g_spec_l1Sum) (by
    intro p hp
    simp only [g_spec_l1Sum, List.mem_cons, List.not_mem_nil, or_false] at hp
    rcases hp with rfl
    · exact cN_ok c_spec_l1Crc rfl)
noncomputable abbrev b_spec_l1Sum : Code := bodyOf Try.f44
abbrev sp_spec_l1Sum_l3 : Sp := ⟨26, [(0, .val false (.sl (.int .i64))), (3, .val false (.int .i64)), (4, .val false (.int .i64))], [], []⟩
abbrev xs_spec_l1Sum_l3 : List (Ex × Sp) := [(.exit 0, ⟨26, [(3, .val false (.int .i64))], [], []⟩)]
noncomputable def s_spec_l1Sum_l3 : sp_spec_l1Sum_l3.T → Option (sp_spec_l1Sum_l3.T ⊕ XT xs_spec_l1Sum_l3) := fun x =>
  bif (decide (x.1.2.2.1 < ((x.1.1).length : Int))) then
    (bif ib x.1.2.2.1 (x.1.1).length then
    (F_spec_l1Crc x.1.2.1 (IntKind.wrap .i64 (Int.tdiv ((x.1.1).getD (Int.toNat x.1.2.2.1) (K.zero (.int .i64))) (256 : Int)))).bind fun y1 =>
    bif ib x.1.2.2.1 (x.1.1).length then
    (F_spec_l1Crc y1.1.1 (Int.tmod ((x.1.1).getD (Int.toNat x.1.2.2.1) (K.zero (.int .i64))) (256 : Int))).bind fun y2 =>
    some (.inl ((x.1.1, (y2.1.1, ((IntKind.wrap .i64 (x.1.2.2.1 + (1 : Int))), ()))), (), ()))
    else none
    else none)
  else
  some (.inr ((x.1.2.1, ()), (), ()))
noncomputable def l_spec_l1Sum_l3 : sp_spec_l1Sum_l3.T → Option (XT xs_spec_l1Sum_l3) := lim s_spec_l1Sum_l3
theorem es_spec_l1Sum_l3 : ∀ x, evCode ty (gamOf g_spec_l1Sum) j_spec_l1Sum (lamOf []) (loopAt b_spec_l1Sum 3) (sp_spec_l1Sum_l3.hd x) (rdK sp_spec_l1Sum_l3 xs_spec_l1Sum_l3) = s_spec_l1Sum_l3 x := fun x => by kernel_rfl
theorem ls_spec_l1Sum_l3 : LSumOk P (loopAt b_spec_l1Sum 3) (loopL sp_spec_l1Sum_l3 xs_spec_l1Sum_l3 l_spec_l1Sum_l3) := loop_ok tyOk mixed gok_spec_l1Sum (by kernel_rfl) (by kernel_rfl) (lam_ok (tab := []) (by kernel_rfl) (fun p hp => by cases hp)) es_spec_l1Sum_l3 lim_itr
noncomputable def F_spec_l1Sum (x1 : K.T (.sl (.int .i64))) : Option sq_spec_l1Sum.T :=
  (l_spec_l1Sum_l3 ((x1, ((65535 : Int), ((0 : Int), ()))), (), ())).bind fun y3 =>
  some ((y3.1.1, ()), (), ())
noncomputable abbrev U_spec_l1Sum : sp_spec_l1Sum.T → Option sq_spec_l1Sum.T := fun x => F_spec_l1Sum x.1.1
theorem e_spec_l1Sum : ∀ x, evCode ty (gamOf g_spec_l1Sum) j_spec_l1Sum (lamOf [(3, loopL sp_spec_l1Sum_l3 xs_spec_l1Sum_l3 l_spec_l1Sum_l3)]) b_spec_l1Sum (sp_spec_l1Sum.hd x) (finN ty sq_spec_l1Sum [.tmp 2]) = U_spec_l1Sum x := fun x => by kernel_rfl
theorem c_spec_l1Sum : FnS P 44 sp_spec_l1Sum sq_spec_l1Sum U_spec_l1Sum :=
  fnS_of_ev tyOk mixed gok_spec_l1Sum (fn := Try.f44) (by kernel_rfl) (c := b_spec_l1Sum) (by kernel_rfl) (by kernel_rfl) (by kernel_rfl) (lam_ok (tab := [(3, loopL sp_spec_l1Sum_l3 xs_spec_l1Sum_l3 l_spec_l1Sum_l3)]) (by kernel_rfl) (by
    intro p hp
    simp only [List.mem_cons, List.not_mem_nil, or_false] at hp
    rcases hp with rfl
    · exact @ls_spec_l1Sum_l3)) e_spec_l1Sum

/-! spec.l1Min -/
abbrev sp_spec_l1Min : Sp := ⟨10, [(0, .val false (.int .i64)), (1, .val false (.int .i64))], [], []⟩
abbrev sq_spec_l1Min : Sp := ⟨1, [(0, .val false (.int .i64))], [], []⟩
noncomputable def g_spec_l1Min : List (FuncId × SumX) := []
def j_spec_l1Min : Nat → Option (List (Nat × SS)) := jOf []
theorem gok_spec_l1Min : GOk P (gamOf g_spec_l1Min) := gam_ok (tab := g_spec_l1Min) (fun p hp => by cases hp)
noncomputable abbrev b_spec_l1Min : Code := bodyOf Try.f81
noncomputable def F_spec_l1Min (x1 : K.T (.int .i64)) (x2 : K.T (.int .i64)) : Option sq_spec_l1Min.T :=
  bif (decide (x1 < x2)) then
    (some ((x1, ()), (), ()))
  else
  some ((x2, ()), (), ())
noncomputable abbrev U_spec_l1Min : sp_spec_l1Min.T → Option sq_spec_l1Min.T := fun x => F_spec_l1Min x.1.1 x.1.2.1
theorem e_spec_l1Min : ∀ x, evCode ty (gamOf g_spec_l1Min) j_spec_l1Min (lamOf []) b_spec_l1Min (sp_spec_l1Min.hd x) (finN ty sq_spec_l1Min [.tmp 4]) = U_spec_l1Min x := fun x => by kernel_rfl
theorem c_spec_l1Min : FnS P 81 sp_spec_l1Min sq_spec_l1Min U_spec_l1Min :=
  fnS_of_ev tyOk mixed gok_spec_l1Min (fn := Try.f81) (by kernel_rfl) (c := b_spec_l1Min) (by kernel_rfl) (by kernel_rfl) (by kernel_rfl) (lam_ok (tab := []) (by kernel_rfl) (fun p hp => by cases hp)) e_spec_l1Min

/-! spec.l13Test -/
abbrev sp_spec_l13Test : Sp := ⟨68, [(0, .fix (.ptr 60000 0))], [(60000, [.val (.int .i64), .fix (.own 63000), .fix (.own 63001), .fix (.own 63002), .val (.int .i64), .val (.int .i64)])], [(63000, (.int .i64), true), (63001, (.int .i64), true), (63002, (.int .i64), true)]⟩
abbrev sq_spec_l13Test : Sp := ⟨1, [(0, .val false (.int .i64))], [(60000, [.val (.int .i64), .fix (.own 59000), .fix (.own 59001), .fix (.own 59002), .val (.int .i64), .val (.int .i64)])], [(59000, (.int .i64), true), (59001, (.int .i64), true), (59002, (.int .i64), true)]⟩
noncomputable def g_spec_l13Test : List (FuncId × SumX) := [(44, cN sp_spec_l1Sum sq_spec_l1Sum U_spec_l1Sum), (81, cN sp_spec_l1Min sq_spec_l1Min U_spec_l1Min)]
def j_spec_l13Test : Nat → Option (List (Nat × SS)) := jOf []
theorem gok_spec_l13Test : GOk P (gamOf g_spec_l13Test) := gam_ok (tab := g_spec_l13Test) (by
    intro p hp
    simp only [g_spec_l13Test, List.mem_cons, List.not_mem_nil, or_false] at hp
    rcases hp with rfl | rfl
    · exact cN_ok c_spec_l1Sum rfl
    · exact cN_ok c_spec_l1Min rfl)
noncomputable abbrev b_spec_l13Test : Code := bodyOf Try.f38
noncomputable def F_spec_l13Test (x1 : K.T (.int .i64)) (x2 : K.T (.int .i64)) (x3 : K.T (.int .i64)) (x4 : List (K.T (.int .i64))) (x5 : List (K.T (.int .i64))) (x6 : List (K.T (.int .i64))) : Option sq_spec_l13Test.T :=
  bif (decide (x2 ≥ (IntKind.wrap .i64 (Int.tdiv (IntKind.wrap .i64 ((IntKind.wrap .i64 (((x4).length : Int) + (8 : Int))) - (1 : Int))) (8 : Int))))) then
    (bif (decide ((1 : Int) < (IntKind.wrap .i64 (Int.tdiv (IntKind.wrap .i64 ((IntKind.wrap .i64 (((x4).length : Int) + (8 : Int))) - (1 : Int))) (8 : Int))))) then
      (bif (((x5).length : Int) != (IntKind.wrap .i64 (Int.tdiv (IntKind.wrap .i64 ((IntKind.wrap .i64 (((x4).length : Int) + (8 : Int))) - (1 : Int))) (8 : Int)))) then
        (some (((6 : Int), ()), ((x1, ((1 : Int), (x3, ()))), ()), (x4, (x5, (x6, ())))))
      else
      bif ((IntKind.wrap .i64 (Int.tdiv (IntKind.wrap .i64 ((IntKind.wrap .i64 (((x4).length : Int) + (8 : Int))) - (1 : Int))) (8 : Int))) == (0 : Int)) then
        (some (((0 : Int), ()), ((x1, ((1 : Int), (x3, ()))), ()), (x4, (x5, (x6, ())))))
      else
      (F_spec_l1Min ((x4).length : Int) (8 : Int)).bind fun y1 =>
      bif decide (0 ≤ (0 : Int) ∧ (0 : Int) ≤ y1.1.1 ∧ y1.1.1 ≤ ((x4).length : Int)) then
      (F_spec_l1Sum (((x4).drop (Int.toNat (0 : Int))).take (Int.toNat y1.1.1 - Int.toNat (0 : Int)))).bind fun y2 =>
      bif ib (0 : Int) (x5).length then
      bif (y2.1.1 != ((x5).getD (Int.toNat (0 : Int)) (K.zero (.int .i64)))) then
        (some (((6 : Int), ()), ((x1, ((1 : Int), (x3, ()))), ()), (x4, (x5, (x6, ())))))
      else
      some (((0 : Int), ()), ((x1, ((1 : Int), (x3, ()))), ()), (x4, (x5, (x6, ()))))
      else none
      else none)
    else
    bif (((x5).length : Int) != (IntKind.wrap .i64 (Int.tdiv (IntKind.wrap .i64 ((IntKind.wrap .i64 (((x4).length : Int) + (8 : Int))) - (1 : Int))) (8 : Int)))) then
      (some (((6 : Int), ()), ((x1, ((0 : Int), (x3, ()))), ()), (x4, (x5, (x6, ())))))
    else
    bif ((IntKind.wrap .i64 (Int.tdiv (IntKind.wrap .i64 ((IntKind.wrap .i64 (((x4).length : Int) + (8 : Int))) - (1 : Int))) (8 : Int))) == (0 : Int)) then
      (some (((0 : Int), ()), ((x1, ((0 : Int), (x3, ()))), ()), (x4, (x5, (x6, ())))))
    else
    (F_spec_l1Min ((x4).length : Int) (8 : Int)).bind fun y3 =>
    bif decide (0 ≤ (0 : Int) ∧ (0 : Int) ≤ y3.1.1 ∧ y3.1.1 ≤ ((x4).length : Int)) then
    (F_spec_l1Sum (((x4).drop (Int.toNat (0 : Int))).take (Int.toNat y3.1.1 - Int.toNat (0 : Int)))).bind fun y4 =>
    bif ib (0 : Int) (x5).length then
    bif (y4.1.1 != ((x5).getD (Int.toNat (0 : Int)) (K.zero (.int .i64)))) then
      (some (((6 : Int), ()), ((x1, ((0 : Int), (x3, ()))), ()), (x4, (x5, (x6, ())))))
    else
    some (((0 : Int), ()), ((x1, ((0 : Int), (x3, ()))), ()), (x4, (x5, (x6, ()))))
    else none
    else none)
  else
  bif (decide ((IntKind.wrap .i64 (x2 + (1 : Int))) < (IntKind.wrap .i64 (Int.tdiv (IntKind.wrap .i64 ((IntKind.wrap .i64 (((x4).length : Int) + (8 : Int))) - (1 : Int))) (8 : Int))))) then
    (bif (((x5).length : Int) != (IntKind.wrap .i64 (Int.tdiv (IntKind.wrap .i64 ((IntKind.wrap .i64 (((x4).length : Int) + (8 : Int))) - (1 : Int))) (8 : Int)))) then
      (some (((6 : Int), ()), ((x1, ((IntKind.wrap .i64 (x2 + (1 : Int))), (x3, ()))), ()), (x4, (x5, (x6, ())))))
    else
    bif ((IntKind.wrap .i64 (Int.tdiv (IntKind.wrap .i64 ((IntKind.wrap .i64 (((x4).length : Int) + (8 : Int))) - (1 : Int))) (8 : Int))) == (0 : Int)) then
      (some (((0 : Int), ()), ((x1, ((IntKind.wrap .i64 (x2 + (1 : Int))), (x3, ()))), ()), (x4, (x5, (x6, ())))))
    else
    (F_spec_l1Min ((x4).length : Int) (IntKind.wrap .i64 ((IntKind.wrap .i64 (x2 + (1 : Int))) * (8 : Int)))).bind fun y5 =>
    bif decide (0 ≤ (IntKind.wrap .i64 (x2 * (8 : Int))) ∧ (IntKind.wrap .i64 (x2 * (8 : Int))) ≤ y5.1.1 ∧ y5.1.1 ≤ ((x4).length : Int)) then
    (F_spec_l1Sum (((x4).drop (Int.toNat (IntKind.wrap .i64 (x2 * (8 : Int))))).take (Int.toNat y5.1.1 - Int.toNat (IntKind.wrap .i64 (x2 * (8 : Int)))))).bind fun y6 =>
    bif ib x2 (x5).length then
    bif (y6.1.1 != ((x5).getD (Int.toNat x2) (K.zero (.int .i64)))) then
      (some (((6 : Int), ()), ((x1, ((IntKind.wrap .i64 (x2 + (1 : Int))), (x3, ()))), ()), (x4, (x5, (x6, ())))))
    else
    some (((0 : Int), ()), ((x1, ((IntKind.wrap .i64 (x2 + (1 : Int))), (x3, ()))), ()), (x4, (x5, (x6, ()))))
    else none
    else none)
  else
  bif (((x5).length : Int) != (IntKind.wrap .i64 (Int.tdiv (IntKind.wrap .i64 ((IntKind.wrap .i64 (((x4).length : Int) + (8 : Int))) - (1 : Int))) (8 : Int)))) then
    (some (((6 : Int), ()), ((x1, ((0 : Int), (x3, ()))), ()), (x4, (x5, (x6, ())))))
  else
  bif ((IntKind.wrap .i64 (Int.tdiv (IntKind.wrap .i64 ((IntKind.wrap .i64 (((x4).length : Int) + (8 : Int))) - (1 : Int))) (8 : Int))) == (0 : Int)) then
    (some (((0 : Int), ()), ((x1, ((0 : Int), (x3, ()))), ()), (x4, (x5, (x6, ())))))
  else
  (F_spec_l1Min ((x4).length : Int) (IntKind.wrap .i64 ((IntKind.wrap .i64 (x2 + (1 : Int))) * (8 : Int)))).bind fun y7 =>
  bif decide (0 ≤ (IntKind.wrap .i64 (x2 * (8 : Int))) ∧ (IntKind.wrap .i64 (x2 * (8 : Int))) ≤ y7.1.1 ∧ y7.1.1 ≤ ((x4).length : Int)) then
  (F_spec_l1Sum (((x4).drop (Int.toNat (IntKind.wrap .i64 (x2 * (8 : Int))))).take (Int.toNat y7.1.1 - Int.toNat (IntKind.wrap .i64 (x2 * (8 : Int)))))).bind fun y8 =>
  bif ib x2 (x5).length then
  bif (y8.1.1 != ((x5).getD (Int.toNat x2) (K.zero (.int .i64)))) then
    (some (((6 : Int), ()), ((x1, ((0 : Int), (x3, ()))), ()), (x4, (x5, (x6, ())))))
  else
  some (((0 : Int), ()), ((x1, ((0 : Int), (x3, ()))), ()), (x4, (x5, (x6, ()))))
  else none
  else none
noncomputable abbrev U_spec_l13Test : sp_spec_l13Test.T → Option sq_spec_l13Test.T := fun x => F_spec_l13Test x.2.1.1.1 x.2.1.1.2.1 x.2.1.1.2.2.1 x.2.2.1 x.2.2.2.1 x.2.2.2.2.1
theorem e_spec_l13Test : ∀ x, evCode ty (gamOf g_spec_l13Test) j_spec_l13Test (lamOf []) b_spec_l13Test (sp_spec_l13Test.hd x) (finN ty sq_spec_l13Test [.tmp 2]) = U_spec_l13Test x := fun x => by kernel_rfl
theorem c_spec_l13Test : FnS P 38 sp_spec_l13Test sq_spec_l13Test U_spec_l13Test :=
  fnS_of_ev tyOk mixed gok_spec_l13Test (fn := Try.f38) (by kernel_rfl) (c := b_spec_l13Test) (by kernel_rfl) (by kernel_rfl) (by kernel_rfl) (lam_ok (tab := []) (by kernel_rfl) (fun p hp => by cases hp)) e_spec_l13Test

/-! spec.TestChan -/
abbrev sp_spec_TestChan : Sp := ⟨17, [(0, .val true k4)], [], []⟩
abbrev sq_spec_TestChan : Sp := ⟨1, [(0, .mix true [.val (.int .i64), .val (.int .i64), .val (.int .i64), .val (.int .i64), .fix (.own 59000), .fix (.own 59001), .fix (.own 59002), .val (.int .i64), .val (.int .i64)])], [], [(59000, (.int .i64), true), (59001, (.int .i64), true), (59002, (.int .i64), true)]⟩
noncomputable def g_spec_TestChan : List (FuncId × SumX) := [(36, cN sp_spec_l13Fault sq_spec_l13Fault U_spec_l13Fault), (37, fN sp_spec_l13Copy sq_spec_l13Copy U_spec_l13Copy), (38, xN sp_spec_l13Test sq_spec_l13Test U_spec_l13Test)]
def j_spec_TestChan : Nat → Option (List (Nat × SS)) := jOf []
theorem gok_spec_TestChan : GOk P (gamOf g_spec_TestChan) := gam_ok (tab := g_spec_TestChan) (by
    intro p hp
    simp only [g_spec_TestChan, List.mem_cons, List.not_mem_nil, or_false] at hp
    rcases hp with rfl | rfl | rfl
    · exact cN_ok c_spec_l13Fault rfl
    · exact fN_ok c_spec_l13Copy rfl
    · exact xN_ok c_spec_l13Test rfl)
noncomputable abbrev b_spec_TestChan : Code := bodyOf Try.f8
noncomputable def F_spec_TestChan (x1 : K.T k4) : Option sq_spec_TestChan.T :=
  (F_spec_l13Fault x1).bind fun y1 =>
  bif (y1.1.1 != (0 : Int)) then
    (some (((y1.1.1, ((0 : Int), ((0 : Int), ((0 : Int), ((0 : Int), ((0 : Int), ())))))), ()), (), ([], ([], ([], ())))))
  else
  (F_spec_l13Copy x1).bind fun y2 =>
  (F_spec_l13Test y2.1.1.1 y2.1.1.2.1 y2.1.1.2.2.1 y2.2.2.1 y2.2.2.2.1 y2.2.2.2.2.1).bind fun y3 =>
  some ((((0 : Int), (y3.1.1, ((0 : Int), (y3.2.1.1.1, (y3.2.1.1.2.1, (y3.2.1.1.2.2.1, ())))))), ()), (), (y3.2.2.1, (y3.2.2.2.1, (y3.2.2.2.2.1, ()))))
noncomputable abbrev U_spec_TestChan : sp_spec_TestChan.T → Option sq_spec_TestChan.T := fun x => F_spec_TestChan x.1.1
theorem e_spec_TestChan : ∀ x, evCode ty (gamOf g_spec_TestChan) j_spec_TestChan (lamOf []) b_spec_TestChan (sp_spec_TestChan.hd x) (finN ty sq_spec_TestChan [.cell 2 28]) = U_spec_TestChan x := fun x => by kernel_rfl
theorem c_spec_TestChan : FnS P 8 sp_spec_TestChan sq_spec_TestChan U_spec_TestChan :=
  fnS_of_ev tyOk mixed gok_spec_TestChan (fn := Try.f8) (by kernel_rfl) (c := b_spec_TestChan) (by kernel_rfl) (by kernel_rfl) (by kernel_rfl) (lam_ok (tab := []) (by kernel_rfl) (fun p hp => by cases hp)) e_spec_TestChan

/-! laws.toInt64S -/
abbrev sp_laws_toInt64S : Sp := ⟨22, [(0, .val false (.sl (.int .i64)))], [], []⟩
abbrev sq_laws_toInt64S : Sp := ⟨1, [(0, .fix (.own 59000))], [], [(59000, (.int .i64), true)]⟩
noncomputable def g_laws_toInt64S : List (FuncId × SumX) := []
def j_laws_toInt64S : Nat → Option (List (Nat × SS)) := jOf []
theorem gok_laws_toInt64S : GOk P (gamOf g_laws_toInt64S) := gam_ok (tab := g_laws_toInt64S) (fun p hp => by cases hp)
noncomputable abbrev b_laws_toInt64S : Code := bodyOf Try.f17
abbrev sp_laws_toInt64S_l3 : Sp := ⟨22, [(0, .val false (.sl (.int .i64))), (3, .fix (.own 59000)), (4, .val false (.int .i64))], [], [(59000, (.int .i64), true)]⟩
abbrev xs_laws_toInt64S_l3 : List (Ex × Sp) := [(.exit 0, ⟨22, [(3, .fix (.own 59000))], [], [(59000, (.int .i64), true)]⟩)]
noncomputable def s_laws_toInt64S_l3 : sp_laws_toInt64S_l3.T → Option (sp_laws_toInt64S_l3.T ⊕ XT xs_laws_toInt64S_l3) := fun x =>
  bif (decide (x.1.2.1 < ((x.1.1).length : Int))) then
    (bif ib x.1.2.1 (x.1.1).length then
    bif ib x.1.2.1 (x.2.2.1).length then
    some (.inl ((x.1.1, ((IntKind.wrap .i64 (x.1.2.1 + (1 : Int))), ())), (), ((x.2.2.1).set (Int.toNat x.1.2.1) ((x.1.1).getD (Int.toNat x.1.2.1) (K.zero (.int .i64))), ())))
    else none
    else none)
  else
  some (.inr ((), (), (x.2.2.1, ())))
noncomputable def l_laws_toInt64S_l3 : sp_laws_toInt64S_l3.T → Option (XT xs_laws_toInt64S_l3) := lim s_laws_toInt64S_l3
theorem es_laws_toInt64S_l3 : ∀ x, evCode ty (gamOf g_laws_toInt64S) j_laws_toInt64S (lamOf []) (loopAt b_laws_toInt64S 3) (sp_laws_toInt64S_l3.hd x) (rdK sp_laws_toInt64S_l3 xs_laws_toInt64S_l3) = s_laws_toInt64S_l3 x := fun x => by kernel_rfl
theorem ls_laws_toInt64S_l3 : LSumOk P (loopAt b_laws_toInt64S 3) (loopL sp_laws_toInt64S_l3 xs_laws_toInt64S_l3 l_laws_toInt64S_l3) := loop_ok tyOk mixed gok_laws_toInt64S (by kernel_rfl) (by kernel_rfl) (lam_ok (tab := []) (by kernel_rfl) (fun p hp => by cases hp)) es_laws_toInt64S_l3 lim_itr
noncomputable def F_laws_toInt64S (x1 : K.T (.sl (.int .i64))) : Option sq_laws_toInt64S.T :=
  bif decide (0 ≤ ((x1).length : Int) ∧ ((x1).length : Int) ≤ ((x1).length : Int)) then
  bif room (Int.toNat ((x1).length : Int)) 8 then
  (l_laws_toInt64S_l3 ((x1, ((0 : Int), ())), (), ((List.replicate (Int.toNat ((x1).length : Int)) (K.zero (.int .i64))), ()))).bind fun y1 =>
  some ((), (), (y1.2.2.1, ()))
  else none
  else none
noncomputable abbrev U_laws_toInt64S : sp_laws_toInt64S.T → Option sq_laws_toInt64S.T := fun x => F_laws_toInt64S x.1.1
theorem e_laws_toInt64S : ∀ x, evCode ty (gamOf g_laws_toInt64S) j_laws_toInt64S (lamOf [(3, loopL sp_laws_toInt64S_l3 xs_laws_toInt64S_l3 l_laws_toInt64S_l3)]) b_laws_toInt64S (sp_laws_toInt64S.hd x) (finN ty sq_laws_toInt64S [.tmp 2]) = U_laws_toInt64S x := fun x => by kernel_rfl
theorem c_laws_toInt64S : FnS P 17 sp_laws_toInt64S sq_laws_toInt64S U_laws_toInt64S :=
  fnS_of_ev tyOk mixed gok_laws_toInt64S (fn := Try.f17) (by kernel_rfl) (c := b_laws_toInt64S) (by kernel_rfl) (by kernel_rfl) (by kernel_rfl) (lam_ok (tab := [(3, loopL sp_laws_toInt64S_l3 xs_laws_toInt64S_l3 l_laws_toInt64S_l3)]) (by kernel_rfl) (by
    intro p hp
    simp only [List.mem_cons, List.not_mem_nil, or_false] at hp
    rcases hp with rfl
    · exact @ls_laws_toInt64S_l3)) e_laws_toInt64S

/-! laws.toChan -/
abbrev sp_laws_toChan : Sp := ⟨26, [(0, .val true k4)], [], []⟩
abbrev sq_laws_toChan : Sp := ⟨1, [(0, .mix true [.val (.int .i64), .fix (.own 59000), .fix (.own 59001), .fix (.own 59002), .val (.int .i64), .val (.int .i64)])], [], [(59000, (.int .i64), true), (59001, (.int .i64), true), (59002, (.int .i64), true)]⟩
noncomputable def g_laws_toChan : List (FuncId × SumX) := [(17, fN sp_laws_toInt64S sq_laws_toInt64S U_laws_toInt64S)]
def j_laws_toChan : Nat → Option (List (Nat × SS)) := jOf []
theorem gok_laws_toChan : GOk P (gamOf g_laws_toChan) := gam_ok (tab := g_laws_toChan) (by
    intro p hp
    simp only [g_laws_toChan, List.mem_cons, List.not_mem_nil, or_false] at hp
    rcases hp with rfl
    · exact fN_ok c_laws_toInt64S rfl)
noncomputable abbrev b_laws_toChan : Code := bodyOf Try.f9
noncomputable def F_laws_toChan (x1 : K.T k4) : Option sq_laws_toChan.T :=
  (F_laws_toInt64S x1.2.1).bind fun y1 =>
  (F_laws_toInt64S x1.2.2.1).bind fun y2 =>
  (F_laws_toInt64S x1.2.2.2.1).bind fun y3 =>
  some (((x1.1, (x1.2.2.2.2.1, (x1.2.2.2.2.2, ()))), ()), (), (y1.2.2.1, (y2.2.2.1, (y3.2.2.1, ()))))
noncomputable abbrev U_laws_toChan : sp_laws_toChan.T → Option sq_laws_toChan.T := fun x => F_laws_toChan x.1.1
theorem e_laws_toChan : ∀ x, evCode ty (gamOf g_laws_toChan) j_laws_toChan (lamOf []) b_laws_toChan (sp_laws_toChan.hd x) (finN ty sq_laws_toChan [.cell 2 26]) = U_laws_toChan x := fun x => by kernel_rfl
theorem c_laws_toChan : FnS P 9 sp_laws_toChan sq_laws_toChan U_laws_toChan :=
  fnS_of_ev tyOk mixed gok_laws_toChan (fn := Try.f9) (by kernel_rfl) (c := b_laws_toChan) (by kernel_rfl) (by kernel_rfl) (by kernel_rfl) (lam_ok (tab := []) (by kernel_rfl) (fun p hp => by cases hp)) e_laws_toChan

/-! impl.within -/
abbrev sp_impl_within : Sp := ⟨15, [(0, .val false (.int .i64)), (1, .val false (.int .i64)), (2, .val false (.int .i64))], [], []⟩
abbrev sq_impl_within : Sp := ⟨1, [(0, .val false .bool)], [], []⟩
noncomputable def g_impl_within : List (FuncId × SumX) := []
def j_impl_within : Nat → Option (List (Nat × SS)) := jOf [(1, [(6, .val false .bool)])]
theorem gok_impl_within : GOk P (gamOf g_impl_within) := gam_ok (tab := g_impl_within) (fun p hp => by cases hp)
noncomputable abbrev b_impl_within : Code := bodyOf Try.f67
noncomputable def F_impl_within (x1 : K.T (.int .i64)) (x2 : K.T (.int .i64)) (x3 : K.T (.int .i64)) : Option sq_impl_within.T :=
  (bif (decide (x2 ≤ x1)) then
      (some ((decide (x1 ≤ x3)), ()))
    else
    some (false, ())).bind fun y1 =>
  some ((y1.1, ()), (), ())
noncomputable abbrev U_impl_within : sp_impl_within.T → Option sq_impl_within.T := fun x => F_impl_within x.1.1 x.1.2.1 x.1.2.2.1
theorem e_impl_within : ∀ x, evCode ty (gamOf g_impl_within) j_impl_within (lamOf []) b_impl_within (sp_impl_within.hd x) (finN ty sq_impl_within [.tmp 6]) = U_impl_within x := fun x => by kernel_rfl
theorem c_impl_within : FnS P 67 sp_impl_within sq_impl_within U_impl_within :=
  fnS_of_ev tyOk mixed gok_impl_within (fn := Try.f67) (by kernel_rfl) (c := b_impl_within) (by kernel_rfl) (by kernel_rfl) (by kernel_rfl) (lam_ok (tab := []) (by kernel_rfl) (fun p hp => by cases hp)) e_impl_within

/-! impl.isWord -/
abbrev sp_impl_isWord : Sp := ⟨5, [(0, .val false (.int .i64))], [], []⟩
abbrev sq_impl_isWord : Sp := ⟨1, [(0, .val false .bool)], [], []⟩
noncomputable def g_impl_isWord : List (FuncId × SumX) := [(67, cN sp_impl_within sq_impl_within U_impl_within)]
def j_impl_isWord : Nat → Option (List (Nat × SS)) := jOf []
theorem gok_impl_isWord : GOk P (gamOf g_impl_isWord) := gam_ok (tab := g_impl_isWord) (by
    intro p hp
    simp only [g_impl_isWord, List.mem_cons, List.not_mem_nil, or_false] at hp
    rcases hp with rfl
    · exact cN_ok c_impl_within rfl)
noncomputable abbrev b_impl_isWord : Code := bodyOf Try.f78
noncomputable def F_impl_isWord (x1 : K.T (.int .i64)) : Option sq_impl_isWord.T :=
  (F_impl_within x1 (0 : Int) (65535 : Int)).bind fun y1 =>
  some ((y1.1.1, ()), (), ())
noncomputable abbrev U_impl_isWord : sp_impl_isWord.T → Option sq_impl_isWord.T := fun x => F_impl_isWord x.1.1
theorem e_impl_isWord : ∀ x, evCode ty (gamOf g_impl_isWord) j_impl_isWord (lamOf []) b_impl_isWord (sp_impl_isWord.hd x) (finN ty sq_impl_isWord [.tmp 2]) = U_impl_isWord x := fun x => by kernel_rfl
theorem c_impl_isWord : FnS P 78 sp_impl_isWord sq_impl_isWord U_impl_isWord :=
  fnS_of_ev tyOk mixed gok_impl_isWord (fn := Try.f78) (by kernel_rfl) (c := b_impl_isWord) (by kernel_rfl) (by kernel_rfl) (by kernel_rfl) (lam_ok (tab := []) (by kernel_rfl) (fun p hp => by cases hp)) e_impl_isWord

/-! impl.areWords -/
abbrev sp_impl_areWords : Sp := ⟨15, [(0, .val false (.sl (.int .i64)))], [], []⟩
abbrev sq_impl_areWords : Sp := ⟨1, [(0, .val false .bool)], [], []⟩
noncomputable def g_impl_areWords : List (FuncId × SumX) := [(78, cN sp_impl_isWord sq_impl_isWord U_impl_isWord)]
def j_impl_areWords : Nat → Option (List (Nat × SS)) := jOf []
theorem gok_impl_areWords : GOk P (gamOf g_impl_areWords) := gam_ok (tab := g_impl_areWords) (by
    intro p hp
    simp only [g_impl_areWords, List.mem_cons, List.not_mem_nil, or_false] at hp
    rcases hp with rfl
    · exact cN_ok c_impl_isWord rfl)
noncomputable abbrev b_impl_areWords : Code := bodyOf Try.f49
abbrev sp_impl_areWords_l2 : Sp := ⟨15, [(5, .val false (.sl (.int .i64))), (6, .val false (.int .i64)), (7, .val false (.int .i64))], [], []⟩
abbrev xs_impl_areWords_l2 : List (Ex × Sp) := [(.exit 0, ⟨15, [], [], []⟩), (.ret, ⟨15, [(2, .val false .bool)], [], []⟩)]
noncomputable def s_impl_areWords_l2 : sp_impl_areWords_l2.T → Option (sp_impl_areWords_l2.T ⊕ XT xs_impl_areWords_l2) := fun x =>
  bif (decide (x.1.2.2.1 < x.1.2.1)) then
    (bif ib x.1.2.2.1 (x.1.1).length then
    (F_impl_isWord ((x.1.1).getD (Int.toNat x.1.2.2.1) (K.zero (.int .i64)))).bind fun y1 =>
    bif (!y1.1.1) then
      (some (.inr (.inr ((false, ()), (), ()))))
    else
    some (.inl ((x.1.1, (x.1.2.1, ((IntKind.wrap .i64 (x.1.2.2.1 + (1 : Int))), ()))), (), ()))
    else none)
  else
  some (.inr (.inl ((), (), ())))
noncomputable def l_impl_areWords_l2 : sp_impl_areWords_l2.T → Option (XT xs_impl_areWords_l2) := lim s_impl_areWords_l2
theorem es_impl_areWords_l2 : ∀ x, evCode ty (gamOf g_impl_areWords) j_impl_areWords (lamOf []) (loopAt b_impl_areWords 2) (sp_impl_areWords_l2.hd x) (rdK sp_impl_areWords_l2 xs_impl_areWords_l2) = s_impl_areWords_l2 x := fun x => by kernel_rfl
theorem ls_impl_areWords_l2 : LSumOk P (loopAt b_impl_areWords 2) (loopL sp_impl_areWords_l2 xs_impl_areWords_l2 l_impl_areWords_l2) := loop_ok tyOk mixed gok_impl_areWords (by kernel_rfl) (by kernel_rfl) (lam_ok (tab := []) (by kernel_rfl) (fun p hp => by cases hp)) es_impl_areWords_l2 lim_itr
noncomputable def F_impl_areWords (x1 : K.T (.sl (.int .i64))) : Option sq_impl_areWords.T :=
  (l_impl_areWords_l2 ((x1, (((x1).length : Int), ((0 : Int), ()))), (), ())).bind fun y2 =>
  (match y2 with
  | .inl y3 => some ((true, ()), (), ())
  | .inr z4 => some ((z4.1.1, ()), (), ()))
noncomputable abbrev U_impl_areWords : sp_impl_areWords.T → Option sq_impl_areWords.T := fun x => F_impl_areWords x.1.1
theorem e_impl_areWords : ∀ x, evCode ty (gamOf g_impl_areWords) j_impl_areWords (lamOf [(2, loopL sp_impl_areWords_l2 xs_impl_areWords_l2 l_impl_areWords_l2)]) b_impl_areWords (sp_impl_areWords.hd x) (finN ty sq_impl_areWords [.tmp 2]) = U_impl_areWords x := fun x => by kernel_rfl
theorem c_impl_areWords : FnS P 49 sp_impl_areWords sq_impl_areWords U_impl_areWords :=
  fnS_of_ev tyOk mixed gok_impl_areWords (fn := Try.f49) (by kernel_rfl) (c := b_impl_areWords) (by kernel_rfl) (by kernel_rfl) (by kernel_rfl) (lam_ok (tab := [(2, loopL sp_impl_areWords_l2 xs_impl_areWords_l2 l_impl_areWords_l2)]) (by kernel_rfl) (by
    intro p hp
    simp only [List.mem_cons, List.not_mem_nil, or_false] at hp
    rcases hp with rfl
    · exact @ls_impl_areWords_l2)) e_impl_areWords

/-! impl.WordsFault -/
abbrev sp_impl_WordsFault : Sp := ⟨11, [(0, .val false (.sl (.int .i64)))], [], []⟩
abbrev sq_impl_WordsFault : Sp := ⟨1, [(0, .val false (.int .i64))], [], []⟩
noncomputable def g_impl_WordsFault : List (FuncId × SumX) := [(49, cN sp_impl_areWords sq_impl_areWords U_impl_areWords)]
def j_impl_WordsFault : Nat → Option (List (Nat × SS)) := jOf []
theorem gok_impl_WordsFault : GOk P (gamOf g_impl_WordsFault) := gam_ok (tab := g_impl_WordsFault) (by
    intro p hp
    simp only [g_impl_WordsFault, List.mem_cons, List.not_mem_nil, or_false] at hp
    rcases hp with rfl
    · exact cN_ok c_impl_areWords rfl)
noncomputable abbrev b_impl_WordsFault : Code := bodyOf Try.f65
noncomputable def F_impl_WordsFault (x1 : K.T (.sl (.int .i64))) : Option sq_impl_WordsFault.T :=
  bif (decide (((x1).length : Int) > (400 : Int))) then
    (some (((2 : Int), ()), (), ()))
  else
  (F_impl_areWords x1).bind fun y1 =>
  bif (!y1.1.1) then
    (some (((3 : Int), ()), (), ()))
  else
  some (((0 : Int), ()), (), ())
noncomputable abbrev U_impl_WordsFault : sp_impl_WordsFault.T → Option sq_impl_WordsFault.T := fun x => F_impl_WordsFault x.1.1
theorem e_impl_WordsFault : ∀ x, evCode ty (gamOf g_impl_WordsFault) j_impl_WordsFault (lamOf []) b_impl_WordsFault (sp_impl_WordsFault.hd x) (finN ty sq_impl_WordsFault [.tmp 2]) = U_impl_WordsFault x := fun x => by kernel_rfl
theorem c_impl_WordsFault : FnS P 65 sp_impl_WordsFault sq_impl_WordsFault U_impl_WordsFault :=
  fnS_of_ev tyOk mixed gok_impl_WordsFault (fn := Try.f65) (by kernel_rfl) (c := b_impl_WordsFault) (by kernel_rfl) (by kernel_rfl) (by kernel_rfl) (lam_ok (tab := []) (by kernel_rfl) (fun p hp => by cases hp)) e_impl_WordsFault

/-! impl.ChanFault -/
abbrev sp_impl_ChanFault : Sp := ⟨52, [(0, .val true k4)], [], []⟩
abbrev sq_impl_ChanFault : Sp := ⟨1, [(0, .val false (.int .i64))], [], []⟩
noncomputable def g_impl_ChanFault : List (FuncId × SumX) := [(49, cN sp_impl_areWords sq_impl_areWords U_impl_areWords), (65, cN sp_impl_WordsFault sq_impl_WordsFault U_impl_WordsFault), (78, cN sp_impl_isWord sq_impl_isWord U_impl_isWord)]
def j_impl_ChanFault : Nat → Option (List (Nat × SS)) := jOf [(1, [(13, .val false .bool)]), (10, [(30, .val false .bool)])]
theorem gok_impl_ChanFault : GOk P (gamOf g_impl_ChanFault) := gam_ok (tab := g_impl_ChanFault) (by
    intro p hp
    simp only [g_impl_ChanFault, List.mem_cons, List.not_mem_nil, or_false] at hp
    rcases hp with rfl | rfl | rfl
    · exact cN_ok c_impl_areWords rfl
    · exact cN_ok c_impl_WordsFault rfl
    · exact cN_ok c_impl_isWord rfl)
noncomputable abbrev b_impl_ChanFault : Code := bodyOf Try.f39
abbrev sp_impl_ChanFault_l4 : Sp := ⟨52, [(1, .fix (.ptr 59000 0)), (18, .fix (.own 59000)), (19, .val false (.int .i64)), (20, .val false (.int .i64))], [(59000, [.val (.int .i64), .val (.sl (.int .i64)), .val (.sl (.int .i64)), .val (.sl (.int .i64)), .val (.int .i64), .val (.int .i64)])], [(59000, (.sl (.int .i64)), false)]⟩
abbrev xs_impl_ChanFault_l4 : List (Ex × Sp) := [(.exit 0, ⟨52, [(1, .fix (.ptr 59000 0))], [(59000, [.val (.int .i64), .val (.sl (.int .i64)), .val (.sl (.int .i64)), .val (.sl (.int .i64)), .val (.int .i64), .val (.int .i64)])], []⟩), (.ret, ⟨52, [(2, .val false (.int .i64))], [], []⟩)]
noncomputable def s_impl_ChanFault_l4 : sp_impl_ChanFault_l4.T → Option (sp_impl_ChanFault_l4.T ⊕ XT xs_impl_ChanFault_l4) := fun x =>
  bif (decide (x.1.2.1 < x.1.1)) then
    (bif ib x.1.2.1 (x.2.2.1).length then
    (F_impl_WordsFault ((x.2.2.1).getD (Int.toNat x.1.2.1) (K.zero (.sl (.int .i64))))).bind fun y2 =>
    bif (y2.1.1 != (0 : Int)) then
      (some (.inr (.inr ((y2.1.1, ()), (), ()))))
    else
    some (.inl ((x.1.1, ((IntKind.wrap .i64 (x.1.2.1 + (1 : Int))), ())), ((x.2.1.1.1, (x.2.1.1.2.1, (x.2.1.1.2.2.1, (x.2.1.1.2.2.2.1, (x.2.1.1.2.2.2.2.1, (x.2.1.1.2.2.2.2.2.1, ())))))), ()), (x.2.2.1, ())))
    else none)
  else
  some (.inr (.inl ((), ((x.2.1.1.1, (x.2.1.1.2.1, (x.2.1.1.2.2.1, (x.2.1.1.2.2.2.1, (x.2.1.1.2.2.2.2.1, (x.2.1.1.2.2.2.2.2.1, ())))))), ()), ())))
noncomputable def l_impl_ChanFault_l4 : sp_impl_ChanFault_l4.T → Option (XT xs_impl_ChanFault_l4) := lim s_impl_ChanFault_l4
theorem es_impl_ChanFault_l4 : ∀ x, evCode ty (gamOf g_impl_ChanFault) j_impl_ChanFault (lamOf []) (loopAt b_impl_ChanFault 4) (sp_impl_ChanFault_l4.hd x) (rdK sp_impl_ChanFault_l4 xs_impl_ChanFault_l4) = s_impl_ChanFault_l4 x := fun x => by kernel_rfl
theorem ls_impl_ChanFault_l4 : LSumOk P (loopAt b_impl_ChanFault 4) (loopL sp_impl_ChanFault_l4 xs_impl_ChanFault_l4 l_impl_ChanFault_l4) := loop_ok tyOk mixed gok_impl_ChanFault (by kernel_rfl) (by kernel_rfl) (lam_ok (tab := []) (by kernel_rfl) (fun p hp => by cases hp)) es_impl_ChanFault_l4 lim_itr
noncomputable def F_impl_ChanFault (x1 : K.T k4) : Option sq_impl_ChanFault.T :=
  (bif (x1.1 != (1 : Int)) then
      (some ((x1.1 != (2 : Int)), ()))
    else
    some (false, ())).bind fun y1 =>
  bif y1.1 then
    (some (((1 : Int), ()), (), ()))
  else
  (l_impl_ChanFault_l4 (((([x1.2.1, x1.2.2.1]).length : Int), ((0 : Int), ())), ((x1.1, (x1.2.1, (x1.2.2.1, (x1.2.2.2.1, (x1.2.2.2.2.1, (x1.2.2.2.2.2, ())))))), ()), ([x1.2.1, x1.2.2.1], ()))).bind fun y3 =>
  (match y3 with
  | .inl y4 => ((F_impl_areWords y4.2.1.1.2.2.2.1).bind fun y6 =>
      bif (!y6.1.1) then
        (some (true, ()))
      else
      (F_impl_isWord y4.2.1.1.2.2.2.2.1).bind fun y7 =>
      bif (!y7.1.1) then
        (some (true, ()))
      else
      (F_impl_isWord y4.2.1.1.2.2.2.2.2.1).bind fun y8 =>
      some ((!y8.1.1), ())).bind fun y9 =>
    bif y9.1 then
      (some (((3 : Int), ()), (), ()))
    else
    bif (decide (((y4.2.1.1.2.2.2.1).length : Int) > (80 : Int))) then
      (some (((2 : Int), ()), (), ()))
    else
    some (((0 : Int), ()), (), ())
  | .inr z5 => some ((z5.1.1, ()), (), ()))
noncomputable abbrev U_impl_ChanFault : sp_impl_ChanFault.T → Option sq_impl_ChanFault.T := fun x => F_impl_ChanFault x.1.1
theorem e_impl_ChanFault : ∀ x, evCode ty (gamOf g_impl_ChanFault) j_impl_ChanFault (lamOf [(4, loopL sp_impl_ChanFault_l4 xs_impl_ChanFault_l4 l_impl_ChanFault_l4)]) b_impl_ChanFault (sp_impl_ChanFault.hd x) (finN ty sq_impl_ChanFault [.tmp 2]) = U_impl_ChanFault x := fun x => by kernel_rfl
theorem c_impl_ChanFault : FnS P 39 sp_impl_ChanFault sq_impl_ChanFault U_impl_ChanFault :=
  fnS_of_ev tyOk mixed gok_impl_ChanFault (fn := Try.f39) (by kernel_rfl) (c := b_impl_ChanFault) (by kernel_rfl) (by kernel_rfl) (by kernel_rfl) (lam_ok (tab := [(4, loopL sp_impl_ChanFault_l4 xs_impl_ChanFault_l4 l_impl_ChanFault_l4)]) (by kernel_rfl) (by
    intro p hp
    simp only [List.mem_cons, List.not_mem_nil, or_false] at hp
    rcases hp with rfl
    · exact @ls_impl_ChanFault_l4)) e_impl_ChanFault

/-! slices.Clone[[]int64,int64] -/
abbrev sp_slices_Clone_int64 : Sp := ⟨8, [(0, .val false (.sl (.int .i64)))], [], []⟩
abbrev sq_slices_Clone_int64 : Sp := ⟨1, [(0, .fix (.own 59000))], [], [(59000, (.int .i64), true)]⟩
noncomputable def g_slices_Clone_int64 : List (FuncId × SumX) := []
def j_slices_Clone_int64 : Nat → Option (List (Nat × SS)) := jOf []
theorem gok_slices_Clone_int64 : GOk P (gamOf g_slices_Clone_int64) := gam_ok (tab := g_slices_Clone_int64) (fun p hp => by cases hp)
noncomputable abbrev b_slices_Clone_int64 : Code := bodyOf Try.f51
noncomputable def F_slices_Clone_int64 (x1 : K.T (.sl (.int .i64))) : Option sq_slices_Clone_int64.T :=
  nilB ((x1).isEmpty)
    (some ((), (), ([], ())))
    (bif room ([] ++ x1).length 8 then
    some ((), (), (([] ++ x1), ()))
    else none)
noncomputable abbrev U_slices_Clone_int64 : sp_slices_Clone_int64.T → Option sq_slices_Clone_int64.T := fun x => F_slices_Clone_int64 x.1.1
theorem e_slices_Clone_int64 : ∀ x, evCode ty (gamOf g_slices_Clone_int64) j_slices_Clone_int64 (lamOf []) b_slices_Clone_int64 (sp_slices_Clone_int64.hd x) (finN ty sq_slices_Clone_int64 [.tmp 2]) = U_slices_Clone_int64 x := fun x => by kernel_rfl
theorem c_slices_Clone_int64 : FnS P 51 sp_slices_Clone_int64 sq_slices_Clone_int64 U_slices_Clone_int64 :=
  fnS_of_ev tyOk mixed gok_slices_Clone_int64 (fn := Try.f51) (by kernel_rfl) (c := b_slices_Clone_int64) (by kernel_rfl) (by kernel_rfl) (by kernel_rfl) (lam_ok (tab := []) (by kernel_rfl) (fun p hp => by cases hp)) e_slices_Clone_int64

/-! (impl.Chan).copied -/
abbrev sp_impl_Chan_copied : Sp := ⟨16, [(0, .val true k4)], [], []⟩
abbrev sq_impl_Chan_copied : Sp := ⟨1, [(0, .mix true [.val (.int .i64), .fix (.own 59000), .fix (.own 59001), .fix (.own 59002), .val (.int .i64), .val (.int .i64)])], [], [(59000, (.int .i64), true), (59001, (.int .i64), true), (59002, (.int .i64), true)]⟩
noncomputable def g_impl_Chan_copied : List (FuncId × SumX) := [(51, fN sp_slices_Clone_int64 sq_slices_Clone_int64 U_slices_Clone_int64)]
def j_impl_Chan_copied : Nat → Option (List (Nat × SS)) := jOf []
theorem gok_impl_Chan_copied : GOk P (gamOf g_impl_Chan_copied) := gam_ok (tab := g_impl_Chan_copied) (by
    intro p hp
    simp only [g_impl_Chan_copied, List.mem_cons, List.not_mem_nil, or_false] at hp
    rcases hp with rfl
    · exact fN_ok c_slices_Clone_int64 rfl)
noncomputable abbrev b_impl_Chan_copied : Code := bodyOf Try.f40
noncomputable def F_impl_Chan_copied (x1 : K.T k4) : Option sq_impl_Chan_copied.T :=
  (F_slices_Clone_int64 x1.2.1).bind fun y1 =>
  (F_slices_Clone_int64 x1.2.2.1).bind fun y2 =>
  (F_slices_Clone_int64 x1.2.2.2.1).bind fun y3 =>
  some (((x1.1, (x1.2.2.2.2.1, (x1.2.2.2.2.2, ()))), ()), (), (y1.2.2.1, (y2.2.2.1, (y3.2.2.1, ()))))
noncomputable abbrev U_impl_Chan_copied : sp_impl_Chan_copied.T → Option sq_impl_Chan_copied.T := fun x => F_impl_Chan_copied x.1.1
theorem e_impl_Chan_copied : ∀ x, evCode ty (gamOf g_impl_Chan_copied) j_impl_Chan_copied (lamOf []) b_impl_Chan_copied (sp_impl_Chan_copied.hd x) (finN ty sq_impl_Chan_copied [.cell 2 26]) = U_impl_Chan_copied x := fun x => by kernel_rfl
theorem c_impl_Chan_copied : FnS P 40 sp_impl_Chan_copied sq_impl_Chan_copied U_impl_Chan_copied :=
  fnS_of_ev tyOk mixed gok_impl_Chan_copied (fn := Try.f40) (by kernel_rfl) (c := b_impl_Chan_copied) (by kernel_rfl) (by kernel_rfl) (by kernel_rfl) (lam_ok (tab := []) (by kernel_rfl) (fun p hp => by cases hp)) e_impl_Chan_copied

/-! impl.crcByte -/
abbrev sp_impl_crcByte : Sp := ⟨23, [(0, .val false (.int .i64)), (1, .val false (.int .i64))], [], []⟩
abbrev sq_impl_crcByte : Sp := ⟨1, [(0, .val false (.int .i64))], [], []⟩
noncomputable def g_impl_crcByte : List (FuncId × SumX) := []
def j_impl_crcByte : Nat → Option (List (Nat × SS)) := jOf []
theorem gok_impl_crcByte : GOk P (gamOf g_impl_crcByte) := gam_ok (tab := g_impl_crcByte) (fun p hp => by cases hp)
noncomputable abbrev b_impl_crcByte : Code := bodyOf Try.f87
abbrev sp_impl_crcByte_l3 : Sp := ⟨23, [(0, .val false (.int .i64)), (10, .val false (.int .i64))], [], []⟩
abbrev xs_impl_crcByte_l3 : List (Ex × Sp) := [(.exit 0, ⟨23, [(0, .val false (.int .i64))], [], []⟩)]
noncomputable def s_impl_crcByte_l3 : sp_impl_crcByte_l3.T → Option (sp_impl_crcByte_l3.T ⊕ XT xs_impl_crcByte_l3) := fun x =>
  bif (decide (x.1.2.1 < (8 : Int))) then
    (bif ((IntKind.wrap .i64 (((BitVec.ofInt (IntKind.bits .i64) x.1.1 &&& BitVec.ofInt (IntKind.bits .i64) (32768 : Int)).toNat : Int))) != (0 : Int)) then
      (some (.inl (((IntKind.wrap .i64 (((BitVec.ofInt (IntKind.bits .i64) (IntKind.wrap .i64 (((BitVec.ofInt (IntKind.bits .i64) (IntKind.wrap .i64 ((2 : Int) * x.1.1)) &&& BitVec.ofInt (IntKind.bits .i64) (65535 : Int)).toNat : Int))) ^^^ BitVec.ofInt (IntKind.bits .i64) (4129 : Int)).toNat : Int))), ((IntKind.wrap .i64 (x.1.2.1 + (1 : Int))), ())), (), ())))
    else
    some (.inl (((IntKind.wrap .i64 (((BitVec.ofInt (IntKind.bits .i64) (IntKind.wrap .i64 ((2 : Int) * x.1.1)) &&& BitVec.ofInt (IntKind.bits .i64) (65535 : Int)).toNat : Int))), ((IntKind.wrap .i64 (x.1.2.1 + (1 : Int))), ())), (), ())))
  else
  some (.inr ((x.1.1, ()), (), ()))
noncomputable def l_impl_crcByte_l3 : sp_impl_crcByte_l3.T → Option (XT xs_impl_crcByte_l3) := lim s_impl_crcByte_l3
theorem es_impl_crcByte_l3 : ∀ x, evCode ty (gamOf g_impl_crcByte) j_impl_crcByte (lamOf []) (loopAt b_impl_crcByte 3) (sp_impl_crcByte_l3.hd x) (rdK sp_impl_crcByte_l3 xs_impl_crcByte_l3) = s_impl_crcByte_l3 x := fun x => by kernel_rfl
theorem ls_impl_crcByte_l3 : LSumOk P (loopAt b_impl_crcByte 3) (loopL sp_impl_crcByte_l3 xs_impl_crcByte_l3 l_impl_crcByte_l3) := loop_ok tyOk mixed gok_impl_crcByte (by kernel_rfl) (by kernel_rfl) (lam_ok (tab := []) (by kernel_rfl) (fun p hp => by cases hp)) es_impl_crcByte_l3 lim_itr
noncomputable def F_impl_crcByte (x1 : K.T (.int .i64)) (x2 : K.T (.int .i64)) : Option sq_impl_crcByte.T :=
  (l_impl_crcByte_l3 (((IntKind.wrap .i64 (((BitVec.ofInt (IntKind.bits .i64) x1 ^^^ BitVec.ofInt (IntKind.bits .i64) (IntKind.wrap .i64 ((256 : Int) * x2))).toNat : Int))), ((0 : Int), ())), (), ())).bind fun y1 =>
  some ((y1.1.1, ()), (), ())
noncomputable abbrev U_impl_crcByte : sp_impl_crcByte.T → Option sq_impl_crcByte.T := fun x => F_impl_crcByte x.1.1 x.1.2.1
theorem e_impl_crcByte : ∀ x, evCode ty (gamOf g_impl_crcByte) j_impl_crcByte (lamOf [(3, loopL sp_impl_crcByte_l3 xs_impl_crcByte_l3 l_impl_crcByte_l3)]) b_impl_crcByte (sp_impl_crcByte.hd x) (finN ty sq_impl_crcByte [.tmp 4]) = U_impl_crcByte x := fun x => by kernel_rfl
theorem c_impl_crcByte : FnS P 87 sp_impl_crcByte sq_impl_crcByte U_impl_crcByte :=
  fnS_of_ev tyOk mixed gok_impl_crcByte (fn := Try.f87) (by kernel_rfl) (c := b_impl_crcByte) (by kernel_rfl) (by kernel_rfl) (by kernel_rfl) (lam_ok (tab := [(3, loopL sp_impl_crcByte_l3 xs_impl_crcByte_l3 l_impl_crcByte_l3)]) (by kernel_rfl) (by
    intro p hp
    simp only [List.mem_cons, List.not_mem_nil, or_false] at hp
    rcases hp with rfl
    · exact @ls_impl_crcByte_l3)) e_impl_crcByte

/-! impl.crc -/
abbrev sp_impl_crc : Sp := ⟨21, [(0, .val false (.sl (.int .i64)))], [], []⟩
abbrev sq_impl_crc : Sp := ⟨1, [(0, .val false (.int .i64))], [], []⟩
noncomputable def g_impl_crc : List (FuncId × SumX) := [(87, cN sp_impl_crcByte sq_impl_crcByte U_impl_crcByte)]
def j_impl_crc : Nat → Option (List (Nat × SS)) := jOf []
theorem gok_impl_crc : GOk P (gamOf g_impl_crc) := gam_ok (tab := g_impl_crc) (by
    intro p hp
    simp only [g_impl_crc, List.mem_cons, List.not_mem_nil, or_false] at hp
    rcases hp with rfl
    · exact cN_ok c_impl_crcByte rfl)
noncomputable abbrev b_impl_crc : Code := bodyOf Try.f50
abbrev sp_impl_crc_l3 : Sp := ⟨21, [(3, .val false (.int .i64)), (6, .val false (.sl (.int .i64))), (7, .val false (.int .i64)), (8, .val false (.int .i64))], [], []⟩
abbrev xs_impl_crc_l3 : List (Ex × Sp) := [(.exit 0, ⟨21, [(3, .val false (.int .i64))], [], []⟩)]
noncomputable def s_impl_crc_l3 : sp_impl_crc_l3.T → Option (sp_impl_crc_l3.T ⊕ XT xs_impl_crc_l3) := fun x =>
  bif (decide (x.1.2.2.2.1 < x.1.2.2.1)) then
    (bif ib x.1.2.2.2.1 (x.1.2.1).length then
    (F_impl_crcByte x.1.1 (Int.fdiv ((x.1.2.1).getD (Int.toNat x.1.2.2.2.1) (K.zero (.int .i64))) (2 ^ min (Int.toNat (8 : Int)) (IntKind.bits .i64)))).bind fun y1 =>
    (F_impl_crcByte y1.1.1 (IntKind.wrap .i64 (((BitVec.ofInt (IntKind.bits .i64) ((x.1.2.1).getD (Int.toNat x.1.2.2.2.1) (K.zero (.int .i64))) &&& BitVec.ofInt (IntKind.bits .i64) (255 : Int)).toNat : Int)))).bind fun y2 =>
    some (.inl ((y2.1.1, (x.1.2.1, (x.1.2.2.1, ((IntKind.wrap .i64 (x.1.2.2.2.1 + (1 : Int))), ())))), (), ()))
    else none)
  else
  some (.inr ((x.1.1, ()), (), ()))
noncomputable def l_impl_crc_l3 : sp_impl_crc_l3.T → Option (XT xs_impl_crc_l3) := lim s_impl_crc_l3
theorem es_impl_crc_l3 : ∀ x, evCode ty (gamOf g_impl_crc) j_impl_crc (lamOf []) (loopAt b_impl_crc 3) (sp_impl_crc_l3.hd x) (rdK sp_impl_crc_l3 xs_impl_crc_l3) = s_impl_crc_l3 x := fun x => by kernel_rfl
theorem ls_impl_crc_l3 : LSumOk P (loopAt b_impl_crc 3) (loopL sp_impl_crc_l3 xs_impl_crc_l3 l_impl_crc_l3) := loop_ok tyOk mixed gok_impl_crc (by kernel_rfl) (by kernel_rfl) (lam_ok (tab := []) (by kernel_rfl) (fun p hp => by cases hp)) es_impl_crc_l3 lim_itr
noncomputable def F_impl_crc (x1 : K.T (.sl (.int .i64))) : Option sq_impl_crc.T :=
  (l_impl_crc_l3 (((65535 : Int), (x1, (((x1).length : Int), ((0 : Int), ())))), (), ())).bind fun y3 =>
  some ((y3.1.1, ()), (), ())
noncomputable abbrev U_impl_crc : sp_impl_crc.T → Option sq_impl_crc.T := fun x => F_impl_crc x.1.1
theorem e_impl_crc : ∀ x, evCode ty (gamOf g_impl_crc) j_impl_crc (lamOf [(3, loopL sp_impl_crc_l3 xs_impl_crc_l3 l_impl_crc_l3)]) b_impl_crc (sp_impl_crc.hd x) (finN ty sq_impl_crc [.tmp 2]) = U_impl_crc x := fun x => by kernel_rfl
theorem c_impl_crc : FnS P 50 sp_impl_crc sq_impl_crc U_impl_crc :=
  fnS_of_ev tyOk mixed gok_impl_crc (fn := Try.f50) (by kernel_rfl) (c := b_impl_crc) (by kernel_rfl) (by kernel_rfl) (by kernel_rfl) (lam_ok (tab := [(3, loopL sp_impl_crc_l3 xs_impl_crc_l3 l_impl_crc_l3)]) (by kernel_rfl) (by
    intro p hp
    simp only [List.mem_cons, List.not_mem_nil, or_false] at hp
    rcases hp with rfl
    · exact @ls_impl_crc_l3)) e_impl_crc

/-! impl.blocks -/
abbrev sp_impl_blocks : Sp := ⟨24, [(0, .val false (.sl (.int .i64)))], [], []⟩
abbrev sq_impl_blocks : Sp := ⟨1, [(0, .fix (.own 59000))], [], [(59000, (.sl (.int .i64)), false)]⟩
noncomputable def g_impl_blocks : List (FuncId × SumX) := []
def j_impl_blocks : Nat → Option (List (Nat × SS)) := jOf []
theorem gok_impl_blocks : GOk P (gamOf g_impl_blocks) := gam_ok (tab := g_impl_blocks) (fun p hp => by cases hp)
noncomputable abbrev b_impl_blocks : Code := bodyOf Try.f54
abbrev sp_impl_blocks_l3 : Sp := ⟨24, [(0, .val false (.sl (.int .i64))), (3, .fix (.own 59000)), (4, .val false (.int .i64))], [], [(59000, (.sl (.int .i64)), false)]⟩
abbrev xs_impl_blocks_l3 : List (Ex × Sp) := [(.exit 0, ⟨24, [(3, .fix (.own 59000))], [], [(59000, (.sl (.int .i64)), false)]⟩)]
noncomputable def s_impl_blocks_l3 : sp_impl_blocks_l3.T → Option (sp_impl_blocks_l3.T ⊕ XT xs_impl_blocks_l3) := fun x =>
  bif (decide (x.1.2.1 < ((x.1.1).length : Int))) then
    (bif decide (0 ≤ x.1.2.1 ∧ x.1.2.1 ≤ (mn (IntKind.wrap .i64 (x.1.2.1 + (8 : Int))) ((x.1.1).length : Int)) ∧ (mn (IntKind.wrap .i64 (x.1.2.1 + (8 : Int))) ((x.1.1).length : Int)) ≤ ((x.1.1).length : Int)) then
    bif room (x.2.2.1 ++ [((x.1.1).take (Int.toNat (mn (IntKind.wrap .i64 (x.1.2.1 + (8 : Int))) ((x.1.1).length : Int)))).drop (Int.toNat x.1.2.1)]).length 24 then
    some (.inl ((x.1.1, ((IntKind.wrap .i64 (x.1.2.1 + (8 : Int))), ())), (), ((x.2.2.1 ++ [((x.1.1).take (Int.toNat (mn (IntKind.wrap .i64 (x.1.2.1 + (8 : Int))) ((x.1.1).length : Int)))).drop (Int.toNat x.1.2.1)]), ())))
    else none
    else none)
  else
  some (.inr ((), (), (x.2.2.1, ())))
noncomputable def l_impl_blocks_l3 : sp_impl_blocks_l3.T → Option (XT xs_impl_blocks_l3) := lim s_impl_blocks_l3
theorem es_impl_blocks_l3 : ∀ x, evCode ty (gamOf g_impl_blocks) j_impl_blocks (lamOf []) (loopAt b_impl_blocks 3) (sp_impl_blocks_l3.hd x) (rdK sp_impl_blocks_l3 xs_impl_blocks_l3) = s_impl_blocks_l3 x := fun x => by kernel_rfl
theorem ls_impl_blocks_l3 : LSumOk P (loopAt b_impl_blocks 3) (loopL sp_impl_blocks_l3 xs_impl_blocks_l3 l_impl_blocks_l3) := loop_ok tyOk mixed gok_impl_blocks (by kernel_rfl) (by kernel_rfl) (lam_ok (tab := []) (by kernel_rfl) (fun p hp => by cases hp)) es_impl_blocks_l3 lim_itr
noncomputable def F_impl_blocks (x1 : K.T (.sl (.int .i64))) : Option sq_impl_blocks.T :=
  (l_impl_blocks_l3 ((x1, ((0 : Int), ())), (), ([], ()))).bind fun y1 =>
  some ((), (), (y1.2.2.1, ()))
noncomputable abbrev U_impl_blocks : sp_impl_blocks.T → Option sq_impl_blocks.T := fun x => F_impl_blocks x.1.1
theorem e_impl_blocks : ∀ x, evCode ty (gamOf g_impl_blocks) j_impl_blocks (lamOf [(3, loopL sp_impl_blocks_l3 xs_impl_blocks_l3 l_impl_blocks_l3)]) b_impl_blocks (sp_impl_blocks.hd x) (finN ty sq_impl_blocks [.tmp 2]) = U_impl_blocks x := fun x => by kernel_rfl
theorem c_impl_blocks : FnS P 54 sp_impl_blocks sq_impl_blocks U_impl_blocks :=
  fnS_of_ev tyOk mixed gok_impl_blocks (fn := Try.f54) (by kernel_rfl) (c := b_impl_blocks) (by kernel_rfl) (by kernel_rfl) (by kernel_rfl) (lam_ok (tab := [(3, loopL sp_impl_blocks_l3 xs_impl_blocks_l3 l_impl_blocks_l3)]) (by kernel_rfl) (by
    intro p hp
    simp only [List.mem_cons, List.not_mem_nil, or_false] at hp
    rcases hp with rfl
    · exact @ls_impl_blocks_l3)) e_impl_blocks

/-! (impl.Chan).test -/
abbrev sp_impl_Chan_test : Sp := ⟨49, [(0, .val true k4)], [], []⟩
abbrev sq_impl_Chan_test : Sp := ⟨2, [(0, .val true k4), (1, .val false (.int .i64))], [], []⟩
noncomputable def g_impl_Chan_test : List (FuncId × SumX) := [(50, cN sp_impl_crc sq_impl_crc U_impl_crc), (54, xN sp_impl_blocks sq_impl_blocks U_impl_blocks)]
def j_impl_Chan_test : Nat → Option (List (Nat × SS)) := jOf [(9, [(46, .val false .bool)])]
theorem gok_impl_Chan_test : GOk P (gamOf g_impl_Chan_test) := gam_ok (tab := g_impl_Chan_test) (by
    intro p hp
    simp only [g_impl_Chan_test, List.mem_cons, List.not_mem_nil, or_false] at hp
    rcases hp with rfl | rfl
    · exact cN_ok c_impl_crc rfl
    · exact xN_ok c_impl_blocks rfl)
noncomputable abbrev b_impl_Chan_test : Code := bodyOf Try.f41
noncomputable def F_impl_Chan_test (x1 : K.T k4) : Option sq_impl_Chan_test.T :=
  (F_impl_blocks x1.2.1).bind fun y1 =>
  bif (decide (x1.2.2.2.2.1 ≥ ((y1.2.2.1).length : Int))) then
    (bif (decide ((1 : Int) ≥ ((y1.2.2.1).length : Int))) then
      ((bif (((x1.2.2.1).length : Int) != ((y1.2.2.1).length : Int)) then
          (some (true, ()))
        else
        bif (decide (((y1.2.2.1).length : Int) > (0 : Int))) then
          (bif ib (0 : Int) (y1.2.2.1).length then
          (F_impl_crc ((y1.2.2.1).getD (Int.toNat (0 : Int)) (K.zero (.sl (.int .i64))))).bind fun y2 =>
          bif ib (0 : Int) (x1.2.2.1).length then
          some ((y2.1.1 != ((x1.2.2.1).getD (Int.toNat (0 : Int)) (K.zero (.int .i64)))), ())
          else none
          else none)
        else
        some (false, ())).bind fun y3 =>
      bif y3.1 then
        (some (((x1.1, (x1.2.1, (x1.2.2.1, (x1.2.2.2.1, ((0 : Int), x1.2.2.2.2.2))))), ((6 : Int), ())), (), ()))
      else
      some (((x1.1, (x1.2.1, (x1.2.2.1, (x1.2.2.2.1, ((0 : Int), x1.2.2.2.2.2))))), ((0 : Int), ())), (), ()))
    else
    (bif (((x1.2.2.1).length : Int) != ((y1.2.2.1).length : Int)) then
        (some (true, ()))
      else
      bif (decide (((y1.2.2.1).length : Int) > (0 : Int))) then
        (bif ib (0 : Int) (y1.2.2.1).length then
        (F_impl_crc ((y1.2.2.1).getD (Int.toNat (0 : Int)) (K.zero (.sl (.int .i64))))).bind fun y4 =>
        bif ib (0 : Int) (x1.2.2.1).length then
        some ((y4.1.1 != ((x1.2.2.1).getD (Int.toNat (0 : Int)) (K.zero (.int .i64)))), ())
        else none
        else none)
      else
      some (false, ())).bind fun y5 =>
    bif y5.1 then
      (some (((x1.1, (x1.2.1, (x1.2.2.1, (x1.2.2.2.1, ((1 : Int), x1.2.2.2.2.2))))), ((6 : Int), ())), (), ()))
    else
    some (((x1.1, (x1.2.1, (x1.2.2.1, (x1.2.2.2.1, ((1 : Int), x1.2.2.2.2.2))))), ((0 : Int), ())), (), ()))
  else
  bif (decide ((IntKind.wrap .i64 (x1.2.2.2.2.1 + (1 : Int))) ≥ ((y1.2.2.1).length : Int))) then
    ((bif (((x1.2.2.1).length : Int) != ((y1.2.2.1).length : Int)) then
        (some (true, ()))
      else
      bif (decide (((y1.2.2.1).length : Int) > (0 : Int))) then
        (bif ib x1.2.2.2.2.1 (y1.2.2.1).length then
        (F_impl_crc ((y1.2.2.1).getD (Int.toNat x1.2.2.2.2.1) (K.zero (.sl (.int .i64))))).bind fun y6 =>
        bif ib x1.2.2.2.2.1 (x1.2.2.1).length then
        some ((y6.1.1 != ((x1.2.2.1).getD (Int.toNat x1.2.2.2.2.1) (K.zero (.int .i64)))), ())
        else none
        else none)
      else
      some (false, ())).bind fun y7 =>
    bif y7.1 then
      (some (((x1.1, (x1.2.1, (x1.2.2.1, (x1.2.2.2.1, ((0 : Int), x1.2.2.2.2.2))))), ((6 : Int), ())), (), ()))
    else
    some (((x1.1, (x1.2.1, (x1.2.2.1, (x1.2.2.2.1, ((0 : Int), x1.2.2.2.2.2))))), ((0 : Int), ())), (), ()))
  else
  (bif (((x1.2.2.1).length : Int) != ((y1.2.2.1).length : Int)) then
      (some (true, ()))
    else
    bif (decide (((y1.2.2.1).length : Int) > (0 : Int))) then
      (bif ib x1.2.2.2.2.1 (y1.2.2.1).length then
      (F_impl_crc ((y1.2.2.1).getD (Int.toNat x1.2.2.2.2.1) (K.zero (.sl (.int .i64))))).bind fun y8 =>
      bif ib x1.2.2.2.2.1 (x1.2.2.1).length then
      some ((y8.1.1 != ((x1.2.2.1).getD (Int.toNat x1.2.2.2.2.1) (K.zero (.int .i64)))), ())
      else none
      else none)
    else
    some (false, ())).bind fun y9 =>
  bif y9.1 then
    (some (((x1.1, (x1.2.1, (x1.2.2.1, (x1.2.2.2.1, ((IntKind.wrap .i64 (x1.2.2.2.2.1 + (1 : Int))), x1.2.2.2.2.2))))), ((6 : Int), ())), (), ()))
  else
  some (((x1.1, (x1.2.1, (x1.2.2.1, (x1.2.2.2.1, ((IntKind.wrap .i64 (x1.2.2.2.2.1 + (1 : Int))), x1.2.2.2.2.2))))), ((0 : Int), ())), (), ())
noncomputable abbrev U_impl_Chan_test : sp_impl_Chan_test.T → Option sq_impl_Chan_test.T := fun x => F_impl_Chan_test x.1.1
abbrev ec_impl_Chan_test : List Ec := [⟨0, 1, 0, 1⟩, ⟨0, 2, 0, 2⟩, ⟨0, 3, 0, 3⟩]
theorem e_impl_Chan_test : ∀ x, evCode ty (gamOf g_impl_Chan_test) j_impl_Chan_test (lamOf []) b_impl_Chan_test (sp_impl_Chan_test.hdE x) (finE ty sq_impl_Chan_test [.cell 2 26, .tmp 3] ec_impl_Chan_test) = U_impl_Chan_test x := fun x => by kernel_rfl
theorem c_impl_Chan_test : FnE P 41 sp_impl_Chan_test sq_impl_Chan_test U_impl_Chan_test ec_impl_Chan_test :=
  fnE_of_ev tyOk mixed gok_impl_Chan_test (fn := Try.f41) (by kernel_rfl) (c := b_impl_Chan_test) (by kernel_rfl) (by kernel_rfl) (by kernel_rfl) (lam_ok (tab := []) (by kernel_rfl) (fun p hp => by cases hp)) e_impl_Chan_test

/-! impl.TestChan -/
abbrev sp_impl_TestChan : Sp := ⟨21, [(0, .val true k4)], [], []⟩
abbrev sq_impl_TestChan : Sp := ⟨1, [(0, .mix true [.val (.int .i64), .val (.int .i64), .val (.int .i64), .val (.int .i64), .fix (.own 59000), .fix (.own 59001), .fix (.own 59002), .val (.int .i64), .val (.int .i64)])], [], [(59000, (.int .i64), true), (59001, (.int .i64), true), (59002, (.int .i64), true)]⟩
noncomputable def g_impl_TestChan : List (FuncId × SumX) := [(39, cN sp_impl_ChanFault sq_impl_ChanFault U_impl_ChanFault), (40, fN sp_impl_Chan_copied sq_impl_Chan_copied U_impl_Chan_copied), (41, eN sp_impl_Chan_test sq_impl_Chan_test U_impl_Chan_test ec_impl_Chan_test)]
def j_impl_TestChan : Nat → Option (List (Nat × SS)) := jOf []
theorem gok_impl_TestChan : GOk P (gamOf g_impl_TestChan) := gam_ok (tab := g_impl_TestChan) (by
    intro p hp
    simp only [g_impl_TestChan, List.mem_cons, List.not_mem_nil, or_false] at hp
    rcases hp with rfl | rfl | rfl
    · exact cN_ok c_impl_ChanFault rfl
    · exact fN_ok c_impl_Chan_copied rfl
    · exact eN_ok c_impl_Chan_test rfl)
noncomputable abbrev b_impl_TestChan : Code := bodyOf Try.f10
noncomputable def F_impl_TestChan (x1 : K.T k4) : Option sq_impl_TestChan.T :=
  (F_impl_ChanFault x1).bind fun y1 =>
  bif (y1.1.1 != (0 : Int)) then
    (some (((y1.1.1, ((0 : Int), ((0 : Int), ((0 : Int), ((0 : Int), ((0 : Int), ())))))), ()), (), ([], ([], ([], ())))))
  else
  (F_impl_Chan_copied x1).bind fun y2 =>
  (F_impl_Chan_test (y2.1.1.1, (y2.2.2.1, (y2.2.2.2.1, (y2.2.2.2.2.1, (y2.1.1.2.1, y2.1.1.2.2.1)))))).bind fun y3 =>
  some ((((0 : Int), (y3.1.2.1, ((0 : Int), (y3.1.1.1, (y3.1.1.2.2.2.2.1, (y3.1.1.2.2.2.2.2, ())))))), ()), (), (y2.2.2.1, (y2.2.2.2.1, (y2.2.2.2.2.1, ()))))
noncomputable abbrev U_impl_TestChan : sp_impl_TestChan.T → Option sq_impl_TestChan.T := fun x => F_impl_TestChan x.1.1
theorem e_impl_TestChan : ∀ x, evCode ty (gamOf g_impl_TestChan) j_impl_TestChan (lamOf []) b_impl_TestChan (sp_impl_TestChan.hd x) (finN ty sq_impl_TestChan [.cell 2 28]) = U_impl_TestChan x := fun x => by kernel_rfl
theorem c_impl_TestChan : FnS P 10 sp_impl_TestChan sq_impl_TestChan U_impl_TestChan :=
  fnS_of_ev tyOk mixed gok_impl_TestChan (fn := Try.f10) (by kernel_rfl) (c := b_impl_TestChan) (by kernel_rfl) (by kernel_rfl) (by kernel_rfl) (lam_ok (tab := []) (by kernel_rfl) (fun p hp => by cases hp)) e_impl_TestChan

/-! laws.eqInt64S -/
abbrev sp_laws_eqInt64S : Sp := ⟨26, [(0, .val false (.sl (.int .i64))), (1, .val false (.sl (.int .i64)))], [], []⟩
abbrev sq_laws_eqInt64S : Sp := ⟨1, [(0, .val false .bool)], [], []⟩
noncomputable def g_laws_eqInt64S : List (FuncId × SumX) := []
def j_laws_eqInt64S : Nat → Option (List (Nat × SS)) := jOf []
theorem gok_laws_eqInt64S : GOk P (gamOf g_laws_eqInt64S) := gam_ok (tab := g_laws_eqInt64S) (fun p hp => by cases hp)
noncomputable abbrev b_laws_eqInt64S : Code := bodyOf Try.f20
abbrev sp_laws_eqInt64S_l4 : Sp := ⟨26, [(0, .val false (.sl (.int .i64))), (1, .val false (.sl (.int .i64))), (5, .val false (.int .i64))], [], []⟩
abbrev xs_laws_eqInt64S_l4 : List (Ex × Sp) := [(.exit 0, ⟨26, [], [], []⟩), (.ret, ⟨26, [(4, .val false .bool)], [], []⟩)]
noncomputable def s_laws_eqInt64S_l4 : sp_laws_eqInt64S_l4.T → Option (sp_laws_eqInt64S_l4.T ⊕ XT xs_laws_eqInt64S_l4) := fun x =>
  bif (decide (x.1.2.2.1 < ((x.1.1).length : Int))) then
    (bif ib x.1.2.2.1 (x.1.1).length then
    bif ib x.1.2.2.1 (x.1.2.1).length then
    bif (((x.1.1).getD (Int.toNat x.1.2.2.1) (K.zero (.int .i64))) != ((x.1.2.1).getD (Int.toNat x.1.2.2.1) (K.zero (.int .i64)))) then
      (some (.inr (.inr ((false, ()), (), ()))))
    else
    some (.inl ((x.1.1, (x.1.2.1, ((IntKind.wrap .i64 (x.1.2.2.1 + (1 : Int))), ()))), (), ()))
    else none
    else none)
  else
  some (.inr (.inl ((), (), ())))
noncomputable def l_laws_eqInt64S_l4 : sp_laws_eqInt64S_l4.T → Option (XT xs_laws_eqInt64S_l4) := lim s_laws_eqInt64S_l4
theorem es_laws_eqInt64S_l4 : ∀ x, evCode ty (gamOf g_laws_eqInt64S) j_laws_eqInt64S (lamOf []) (loopAt b_laws_eqInt64S 4) (sp_laws_eqInt64S_l4.hd x) (rdK sp_laws_eqInt64S_l4 xs_laws_eqInt64S_l4) = s_laws_eqInt64S_l4 x := fun x => by kernel_rfl
theorem ls_laws_eqInt64S_l4 : LSumOk P (loopAt b_laws_eqInt64S 4) (loopL sp_laws_eqInt64S_l4 xs_laws_eqInt64S_l4 l_laws_eqInt64S_l4) := loop_ok tyOk mixed gok_laws_eqInt64S (by kernel_rfl) (by kernel_rfl) (lam_ok (tab := []) (by kernel_rfl) (fun p hp => by cases hp)) es_laws_eqInt64S_l4 lim_itr
noncomputable def F_laws_eqInt64S (x1 : K.T (.sl (.int .i64))) (x2 : K.T (.sl (.int .i64))) : Option sq_laws_eqInt64S.T :=
  bif (((x1).length : Int) != ((x2).length : Int)) then
    (some ((false, ()), (), ()))
  else
  (l_laws_eqInt64S_l4 ((x1, (x2, ((0 : Int), ()))), (), ())).bind fun y1 =>
  (match y1 with
  | .inl y2 => some ((true, ()), (), ())
  | .inr z3 => some ((z3.1.1, ()), (), ()))
noncomputable abbrev U_laws_eqInt64S : sp_laws_eqInt64S.T → Option sq_laws_eqInt64S.T := fun x => F_laws_eqInt64S x.1.1 x.1.2.1
theorem e_laws_eqInt64S : ∀ x, evCode ty (gamOf g_laws_eqInt64S) j_laws_eqInt64S (lamOf [(4, loopL sp_laws_eqInt64S_l4 xs_laws_eqInt64S_l4 l_laws_eqInt64S_l4)]) b_laws_eqInt64S (sp_laws_eqInt64S.hd x) (finN ty sq_laws_eqInt64S [.tmp 4]) = U_laws_eqInt64S x := fun x => by kernel_rfl
theorem c_laws_eqInt64S : FnS P 20 sp_laws_eqInt64S sq_laws_eqInt64S U_laws_eqInt64S :=
  fnS_of_ev tyOk mixed gok_laws_eqInt64S (fn := Try.f20) (by kernel_rfl) (c := b_laws_eqInt64S) (by kernel_rfl) (by kernel_rfl) (by kernel_rfl) (lam_ok (tab := [(4, loopL sp_laws_eqInt64S_l4 xs_laws_eqInt64S_l4 l_laws_eqInt64S_l4)]) (by kernel_rfl) (by
    intro p hp
    simp only [List.mem_cons, List.not_mem_nil, or_false] at hp
    rcases hp with rfl
    · exact @ls_laws_eqInt64S_l4)) e_laws_eqInt64S

/-! laws.eqChan -/
abbrev sp_laws_eqChan : Sp := ⟨38, [(0, .val true k4), (1, .val true k4)], [], []⟩
abbrev sq_laws_eqChan : Sp := ⟨1, [(0, .val false .bool)], [], []⟩
noncomputable def g_laws_eqChan : List (FuncId × SumX) := [(20, cN sp_laws_eqInt64S sq_laws_eqInt64S U_laws_eqInt64S)]
def j_laws_eqChan : Nat → Option (List (Nat × SS)) := jOf []
theorem gok_laws_eqChan : GOk P (gamOf g_laws_eqChan) := gam_ok (tab := g_laws_eqChan) (by
    intro p hp
    simp only [g_laws_eqChan, List.mem_cons, List.not_mem_nil, or_false] at hp
    rcases hp with rfl
    · exact cN_ok c_laws_eqInt64S rfl)
noncomputable abbrev b_laws_eqChan : Code := bodyOf Try.f12
noncomputable def F_laws_eqChan (x1 : K.T k4) (x2 : K.T k4) : Option sq_laws_eqChan.T :=
  bif (x1.1 != x2.1) then
    (some ((false, ()), (), ()))
  else
  (F_laws_eqInt64S x1.2.1 x2.2.1).bind fun y1 =>
  bif (!y1.1.1) then
    (some ((false, ()), (), ()))
  else
  (F_laws_eqInt64S x1.2.2.1 x2.2.2.1).bind fun y2 =>
  bif (!y2.1.1) then
    (some ((false, ()), (), ()))
  else
  (F_laws_eqInt64S x1.2.2.2.1 x2.2.2.2.1).bind fun y3 =>
  bif (!y3.1.1) then
    (some ((false, ()), (), ()))
  else
  bif (x1.2.2.2.2.1 != x2.2.2.2.2.1) then
    (some ((false, ()), (), ()))
  else
  bif (x1.2.2.2.2.2 != x2.2.2.2.2.2) then
    (some ((false, ()), (), ()))
  else
  some ((true, ()), (), ())
noncomputable abbrev U_laws_eqChan : sp_laws_eqChan.T → Option sq_laws_eqChan.T := fun x => F_laws_eqChan x.1.1 x.1.2.1
theorem e_laws_eqChan : ∀ x, evCode ty (gamOf g_laws_eqChan) j_laws_eqChan (lamOf []) b_laws_eqChan (sp_laws_eqChan.hd x) (finN ty sq_laws_eqChan [.tmp 4]) = U_laws_eqChan x := fun x => by kernel_rfl
theorem c_laws_eqChan : FnS P 12 sp_laws_eqChan sq_laws_eqChan U_laws_eqChan :=
  fnS_of_ev tyOk mixed gok_laws_eqChan (fn := Try.f12) (by kernel_rfl) (c := b_laws_eqChan) (by kernel_rfl) (by kernel_rfl) (by kernel_rfl) (lam_ok (tab := []) (by kernel_rfl) (fun p hp => by cases hp)) e_laws_eqChan

/-! laws.eqChanResult -/
abbrev sp_laws_eqChanResult : Sp := ⟨26, [(0, .val true k7), (1, .val true k7)], [], []⟩
abbrev sq_laws_eqChanResult : Sp := ⟨1, [(0, .val false .bool)], [], []⟩
noncomputable def g_laws_eqChanResult : List (FuncId × SumX) := [(12, cN sp_laws_eqChan sq_laws_eqChan U_laws_eqChan)]
def j_laws_eqChanResult : Nat → Option (List (Nat × SS)) := jOf []
theorem gok_laws_eqChanResult : GOk P (gamOf g_laws_eqChanResult) := gam_ok (tab := g_laws_eqChanResult) (by
    intro p hp
    simp only [g_laws_eqChanResult, List.mem_cons, List.not_mem_nil, or_false] at hp
    rcases hp with rfl
    · exact cN_ok c_laws_eqChan rfl)
noncomputable abbrev b_laws_eqChanResult : Code := bodyOf Try.f11
noncomputable def F_laws_eqChanResult (x1 : K.T k7) (x2 : K.T k7) : Option sq_laws_eqChanResult.T :=
  bif (x1.1 != x2.1) then
    (some ((false, ()), (), ()))
  else
  bif (x1.2.1 != x2.2.1) then
    (some ((false, ()), (), ()))
  else
  bif (x1.2.2.1 != x2.2.2.1) then
    (some ((false, ()), (), ()))
  else
  (F_laws_eqChan x1.2.2.2 x2.2.2.2).bind fun y1 =>
  bif (!y1.1.1) then
    (some ((false, ()), (), ()))
  else
  some ((true, ()), (), ())
noncomputable abbrev U_laws_eqChanResult : sp_laws_eqChanResult.T → Option sq_laws_eqChanResult.T := fun x => F_laws_eqChanResult x.1.1 x.1.2.1
theorem e_laws_eqChanResult : ∀ x, evCode ty (gamOf g_laws_eqChanResult) j_laws_eqChanResult (lamOf []) b_laws_eqChanResult (sp_laws_eqChanResult.hd x) (finN ty sq_laws_eqChanResult [.tmp 4]) = U_laws_eqChanResult x := fun x => by kernel_rfl
theorem c_laws_eqChanResult : FnS P 11 sp_laws_eqChanResult sq_laws_eqChanResult U_laws_eqChanResult :=
  fnS_of_ev tyOk mixed gok_laws_eqChanResult (fn := Try.f11) (by kernel_rfl) (c := b_laws_eqChanResult) (by kernel_rfl) (by kernel_rfl) (by kernel_rfl) (lam_ok (tab := []) (by kernel_rfl) (fun p hp => by cases hp)) e_laws_eqChanResult

/-! laws.markInt64S -/
abbrev sp_laws_markInt64S : Sp := ⟨19, [(0, .fix (.own 64000)), (1, .val false (.int .i64))], [], [(64000, (.int .i64), true)]⟩
abbrev sq_laws_markInt64S : Sp := ⟨1, [(0, .val false (.int .i64))], [], [(64000, (.int .i64), true)]⟩
noncomputable def g_laws_markInt64S : List (FuncId × SumX) := []
def j_laws_markInt64S : Nat → Option (List (Nat × SS)) := jOf []
theorem gok_laws_markInt64S : GOk P (gamOf g_laws_markInt64S) := gam_ok (tab := g_laws_markInt64S) (fun p hp => by cases hp)
noncomputable abbrev b_laws_markInt64S : Code := bodyOf Try.f21
abbrev sp_laws_markInt64S_l2 : Sp := ⟨19, [(0, .fix (.own 64000)), (1, .val false (.int .i64)), (5, .val false (.int .i64))], [], [(64000, (.int .i64), true)]⟩
abbrev xs_laws_markInt64S_l2 : List (Ex × Sp) := [(.exit 0, ⟨19, [(1, .val false (.int .i64))], [], [(64000, (.int .i64), true)]⟩)]
noncomputable def s_laws_markInt64S_l2 : sp_laws_markInt64S_l2.T → Option (sp_laws_markInt64S_l2.T ⊕ XT xs_laws_markInt64S_l2) := fun x =>
  bif (decide (x.1.2.1 < ((x.2.2.1).length : Int))) then
    (bif ib x.1.2.1 (x.2.2.1).length then
    some (.inl (((IntKind.wrap .i64 (x.1.1 + (1 : Int))), ((IntKind.wrap .i64 (x.1.2.1 + (1 : Int))), ())), (), ((x.2.2.1).set (Int.toNat x.1.2.1) x.1.1, ())))
    else none)
  else
  some (.inr ((x.1.1, ()), (), (x.2.2.1, ())))
noncomputable def l_laws_markInt64S_l2 : sp_laws_markInt64S_l2.T → Option (XT xs_laws_markInt64S_l2) := lim s_laws_markInt64S_l2
theorem es_laws_markInt64S_l2 : ∀ x, evCode ty (gamOf g_laws_markInt64S) j_laws_markInt64S (lamOf []) (loopAt b_laws_markInt64S 2) (sp_laws_markInt64S_l2.hd x) (rdK sp_laws_markInt64S_l2 xs_laws_markInt64S_l2) = s_laws_markInt64S_l2 x := fun x => by kernel_rfl
theorem ls_laws_markInt64S_l2 : LSumOk P (loopAt b_laws_markInt64S 2) (loopL sp_laws_markInt64S_l2 xs_laws_markInt64S_l2 l_laws_markInt64S_l2) := loop_ok tyOk mixed gok_laws_markInt64S (by kernel_rfl) (by kernel_rfl) (lam_ok (tab := []) (by kernel_rfl) (fun p hp => by cases hp)) es_laws_markInt64S_l2 lim_itr
noncomputable def F_laws_markInt64S (x1 : K.T (.int .i64)) (x2 : List (K.T (.int .i64))) : Option sq_laws_markInt64S.T :=
  (l_laws_markInt64S_l2 ((x1, ((0 : Int), ())), (), (x2, ()))).bind fun y1 =>
  some ((y1.1.1, ()), (), (y1.2.2.1, ()))
noncomputable abbrev U_laws_markInt64S : sp_laws_markInt64S.T → Option sq_laws_markInt64S.T := fun x => F_laws_markInt64S x.1.1 x.2.2.1
theorem e_laws_markInt64S : ∀ x, evCode ty (gamOf g_laws_markInt64S) j_laws_markInt64S (lamOf [(2, loopL sp_laws_markInt64S_l2 xs_laws_markInt64S_l2 l_laws_markInt64S_l2)]) b_laws_markInt64S (sp_laws_markInt64S.hd x) (finN ty sq_laws_markInt64S [.tmp 4]) = U_laws_markInt64S x := fun x => by kernel_rfl
theorem c_laws_markInt64S : FnS P 21 sp_laws_markInt64S sq_laws_markInt64S U_laws_markInt64S :=
  fnS_of_ev tyOk mixed gok_laws_markInt64S (fn := Try.f21) (by kernel_rfl) (c := b_laws_markInt64S) (by kernel_rfl) (by kernel_rfl) (by kernel_rfl) (lam_ok (tab := [(2, loopL sp_laws_markInt64S_l2 xs_laws_markInt64S_l2 l_laws_markInt64S_l2)]) (by kernel_rfl) (by
    intro p hp
    simp only [List.mem_cons, List.not_mem_nil, or_false] at hp
    rcases hp with rfl
    · exact @ls_laws_markInt64S_l2)) e_laws_markInt64S

/-! laws.markChan -/
abbrev sp_laws_markChan : Sp := ⟨18, [(0, .mix true [.val (.int .i64), .fix (.own 64000), .fix (.own 64001), .fix (.own 64002), .val (.int .i64), .val (.int .i64)]), (1, .val false (.int .i64))], [], [(64000, (.int .i64), true), (64001, (.int .i64), true), (64002, (.int .i64), true)]⟩
abbrev sq_laws_markChan : Sp := ⟨1, [(0, .val false (.int .i64))], [], [(64000, (.int .i64), true), (64001, (.int .i64), true), (64002, (.int .i64), true)]⟩
noncomputable def g_laws_markChan : List (FuncId × SumX) := [(21, xN sp_laws_markInt64S sq_laws_markInt64S U_laws_markInt64S)]
def j_laws_markChan : Nat → Option (List (Nat × SS)) := jOf []
theorem gok_laws_markChan : GOk P (gamOf g_laws_markChan) := gam_ok (tab := g_laws_markChan) (by
    intro p hp
    simp only [g_laws_markChan, List.mem_cons, List.not_mem_nil, or_false] at hp
    rcases hp with rfl
    · exact xN_ok c_laws_markInt64S rfl)
noncomputable abbrev b_laws_markChan : Code := bodyOf Try.f13
noncomputable def F_laws_markChan (x1 : K.T (.int .i64)) (x2 : K.T (.int .i64)) (x3 : K.T (.int .i64)) (x4 : K.T (.int .i64)) (x5 : List (K.T (.int .i64))) (x6 : List (K.T (.int .i64))) (x7 : List (K.T (.int .i64))) : Option sq_laws_markChan.T :=
  (F_laws_markInt64S x4 x5).bind fun y1 =>
  (F_laws_markInt64S y1.1.1 x6).bind fun y2 =>
  (F_laws_markInt64S y2.1.1 x7).bind fun y3 =>
  some ((y3.1.1, ()), (), (y1.2.2.1, (y2.2.2.1, (y3.2.2.1, ()))))
noncomputable abbrev U_laws_markChan : sp_laws_markChan.T → Option sq_laws_markChan.T := fun x => F_laws_markChan x.1.1.1 x.1.1.2.1 x.1.1.2.2.1 x.1.2.1 x.2.2.1 x.2.2.2.1 x.2.2.2.2.1
theorem e_laws_markChan : ∀ x, evCode ty (gamOf g_laws_markChan) j_laws_markChan (lamOf []) b_laws_markChan (sp_laws_markChan.hd x) (finN ty sq_laws_markChan [.tmp 4]) = U_laws_markChan x := fun x => by kernel_rfl
theorem c_laws_markChan : FnS P 13 sp_laws_markChan sq_laws_markChan U_laws_markChan :=
  fnS_of_ev tyOk mixed gok_laws_markChan (fn := Try.f13) (by kernel_rfl) (c := b_laws_markChan) (by kernel_rfl) (by kernel_rfl) (by kernel_rfl) (lam_ok (tab := []) (by kernel_rfl) (fun p hp => by cases hp)) e_laws_markChan

/-! laws.markChanResult -/
abbrev sp_laws_markChanResult : Sp := ⟨10, [(0, .mix true [.val (.int .i64), .val (.int .i64), .val (.int .i64), .val (.int .i64), .fix (.own 64000), .fix (.own 64001), .fix (.own 64002), .val (.int .i64), .val (.int .i64)]), (1, .val false (.int .i64))], [], [(64000, (.int .i64), true), (64001, (.int .i64), true), (64002, (.int .i64), true)]⟩
abbrev sq_laws_markChanResult : Sp := ⟨1, [(0, .val false (.int .i64))], [], [(64000, (.int .i64), true), (64001, (.int .i64), true), (64002, (.int .i64), true)]⟩
noncomputable def g_laws_markChanResult : List (FuncId × SumX) := [(13, xN sp_laws_markChan sq_laws_markChan U_laws_markChan)]
def j_laws_markChanResult : Nat → Option (List (Nat × SS)) := jOf []
theorem gok_laws_markChanResult : GOk P (gamOf g_laws_markChanResult) := gam_ok (tab := g_laws_markChanResult) (by
    intro p hp
    simp only [g_laws_markChanResult, List.mem_cons, List.not_mem_nil, or_false] at hp
    rcases hp with rfl
    · exact xN_ok c_laws_markChan rfl)
noncomputable abbrev b_laws_markChanResult : Code := bodyOf Try.f14
noncomputable def F_laws_markChanResult (x1 : K.T (.int .i64)) (x2 : K.T (.int .i64)) (x3 : K.T (.int .i64)) (x4 : K.T (.int .i64)) (x5 : K.T (.int .i64)) (x6 : K.T (.int .i64)) (x7 : K.T (.int .i64)) (x8 : List (K.T (.int .i64))) (x9 : List (K.T (.int .i64))) (x10 : List (K.T (.int .i64))) : Option sq_laws_markChanResult.T :=
  (F_laws_markChan x4 x5 x6 x7 x8 x9 x10).bind fun y1 =>
  some ((y1.1.1, ()), (), (y1.2.2.1, (y1.2.2.2.1, (y1.2.2.2.2.1, ()))))
noncomputable abbrev U_laws_markChanResult : sp_laws_markChanResult.T → Option sq_laws_markChanResult.T := fun x => F_laws_markChanResult x.1.1.1 x.1.1.2.1 x.1.1.2.2.1 x.1.1.2.2.2.1 x.1.1.2.2.2.2.1 x.1.1.2.2.2.2.2.1 x.1.2.1 x.2.2.1 x.2.2.2.1 x.2.2.2.2.1
theorem e_laws_markChanResult : ∀ x, evCode ty (gamOf g_laws_markChanResult) j_laws_markChanResult (lamOf []) b_laws_markChanResult (sp_laws_markChanResult.hd x) (finN ty sq_laws_markChanResult [.tmp 4]) = U_laws_markChanResult x := fun x => by kernel_rfl
theorem c_laws_markChanResult : FnS P 14 sp_laws_markChanResult sq_laws_markChanResult U_laws_markChanResult :=
  fnS_of_ev tyOk mixed gok_laws_markChanResult (fn := Try.f14) (by kernel_rfl) (c := b_laws_markChanResult) (by kernel_rfl) (by kernel_rfl) (by kernel_rfl) (lam_ok (tab := []) (by kernel_rfl) (fun p hp => by cases hp)) e_laws_markChanResult

/-! laws.heldInt64S -/
abbrev sp_laws_heldInt64S : Sp := ⟨21, [(0, .val false (.sl (.int .i64))), (1, .val false (.int .i64))], [], []⟩
abbrev sq_laws_heldInt64S : Sp := ⟨1, [(0, .val false (.int .i64))], [], []⟩
noncomputable def g_laws_heldInt64S : List (FuncId × SumX) := []
def j_laws_heldInt64S : Nat → Option (List (Nat × SS)) := jOf []
theorem gok_laws_heldInt64S : GOk P (gamOf g_laws_heldInt64S) := gam_ok (tab := g_laws_heldInt64S) (fun p hp => by cases hp)
noncomputable abbrev b_laws_heldInt64S : Code := bodyOf Try.f82
abbrev sp_laws_heldInt64S_l2 : Sp := ⟨21, [(0, .val false (.sl (.int .i64))), (1, .val false (.int .i64)), (5, .val false (.int .i64))], [], []⟩
abbrev xs_laws_heldInt64S_l2 : List (Ex × Sp) := [(.exit 0, ⟨21, [(1, .val false (.int .i64))], [], []⟩), (.ret, ⟨21, [(4, .val false (.int .i64))], [], []⟩)]
noncomputable def s_laws_heldInt64S_l2 : sp_laws_heldInt64S_l2.T → Option (sp_laws_heldInt64S_l2.T ⊕ XT xs_laws_heldInt64S_l2) := fun x =>
  bif (decide (x.1.2.2.1 < ((x.1.1).length : Int))) then
    (bif ib x.1.2.2.1 (x.1.1).length then
    bif (((x.1.1).getD (Int.toNat x.1.2.2.1) (K.zero (.int .i64))) != x.1.2.1) then
      (some (.inr (.inr (((-1 : Int), ()), (), ()))))
    else
    some (.inl ((x.1.1, ((IntKind.wrap .i64 (x.1.2.1 + (1 : Int))), ((IntKind.wrap .i64 (x.1.2.2.1 + (1 : Int))), ()))), (), ()))
    else none)
  else
  some (.inr (.inl ((x.1.2.1, ()), (), ())))
noncomputable def l_laws_heldInt64S_l2 : sp_laws_heldInt64S_l2.T → Option (XT xs_laws_heldInt64S_l2) := lim s_laws_heldInt64S_l2
theorem es_laws_heldInt64S_l2 : ∀ x, evCode ty (gamOf g_laws_heldInt64S) j_laws_heldInt64S (lamOf []) (loopAt b_laws_heldInt64S 2) (sp_laws_heldInt64S_l2.hd x) (rdK sp_laws_heldInt64S_l2 xs_laws_heldInt64S_l2) = s_laws_heldInt64S_l2 x := fun x => by kernel_rfl
theorem ls_laws_heldInt64S_l2 : LSumOk P (loopAt b_laws_heldInt64S 2) (loopL sp_laws_heldInt64S_l2 xs_laws_heldInt64S_l2 l_laws_heldInt64S_l2) := loop_ok tyOk mixed gok_laws_heldInt64S (by kernel_rfl) (by kernel_rfl) (lam_ok (tab := []) (by kernel_rfl) (fun p hp => by cases hp)) es_laws_heldInt64S_l2 lim_itr
noncomputable def F_laws_heldInt64S (x1 : K.T (.sl (.int .i64))) (x2 : K.T (.int .i64)) : Option sq_laws_heldInt64S.T :=
  (l_laws_heldInt64S_l2 ((x1, (x2, ((0 : Int), ()))), (), ())).bind fun y1 =>
  (match y1 with
  | .inl y2 => some ((y2.1.1, ()), (), ())
  | .inr z3 => some ((z3.1.1, ()), (), ()))
noncomputable abbrev U_laws_heldInt64S : sp_laws_heldInt64S.T → Option sq_laws_heldInt64S.T := fun x => F_laws_heldInt64S x.1.1 x.1.2.1
theorem e_laws_heldInt64S : ∀ x, evCode ty (gamOf g_laws_heldInt64S) j_laws_heldInt64S (lamOf [(2, loopL sp_laws_heldInt64S_l2 xs_laws_heldInt64S_l2 l_laws_heldInt64S_l2)]) b_laws_heldInt64S (sp_laws_heldInt64S.hd x) (finN ty sq_laws_heldInt64S [.tmp 4]) = U_laws_heldInt64S x := fun x => by kernel_rfl
theorem c_laws_heldInt64S : FnS P 82 sp_laws_heldInt64S sq_laws_heldInt64S U_laws_heldInt64S :=
  fnS_of_ev tyOk mixed gok_laws_heldInt64S (fn := Try.f82) (by kernel_rfl) (c := b_laws_heldInt64S) (by kernel_rfl) (by kernel_rfl) (by kernel_rfl) (lam_ok (tab := [(2, loopL sp_laws_heldInt64S_l2 xs_laws_heldInt64S_l2 l_laws_heldInt64S_l2)]) (by kernel_rfl) (by
    intro p hp
    simp only [List.mem_cons, List.not_mem_nil, or_false] at hp
    rcases hp with rfl
    · exact @ls_laws_heldInt64S_l2)) e_laws_heldInt64S

/-! laws.heldChan -/
abbrev sp_laws_heldChan : Sp := ⟨24, [(0, .val true k4), (1, .val false (.int .i64))], [], []⟩
abbrev sq_laws_heldChan : Sp := ⟨1, [(0, .val false (.int .i64))], [], []⟩
noncomputable def g_laws_heldChan : List (FuncId × SumX) := [(82, cN sp_laws_heldInt64S sq_laws_heldInt64S U_laws_heldInt64S)]
def j_laws_heldChan : Nat → Option (List (Nat × SS)) := jOf []
theorem gok_laws_heldChan : GOk P (gamOf g_laws_heldChan) := gam_ok (tab := g_laws_heldChan) (by
    intro p hp
    simp only [g_laws_heldChan, List.mem_cons, List.not_mem_nil, or_false] at hp
    rcases hp with rfl
    · exact cN_ok c_laws_heldInt64S rfl)
noncomputable abbrev b_laws_heldChan : Code := bodyOf Try.f42
noncomputable def F_laws_heldChan (x1 : K.T k4) (x2 : K.T (.int .i64)) : Option sq_laws_heldChan.T :=
  (F_laws_heldInt64S x1.2.1 x2).bind fun y1 =>
  bif (decide (y1.1.1 < (0 : Int))) then
    (some (((-1 : Int), ()), (), ()))
  else
  (F_laws_heldInt64S x1.2.2.1 y1.1.1).bind fun y2 =>
  bif (decide (y2.1.1 < (0 : Int))) then
    (some (((-1 : Int), ()), (), ()))
  else
  (F_laws_heldInt64S x1.2.2.2.1 y2.1.1).bind fun y3 =>
  bif (decide (y3.1.1 < (0 : Int))) then
    (some (((-1 : Int), ()), (), ()))
  else
  some ((y3.1.1, ()), (), ())
noncomputable abbrev U_laws_heldChan : sp_laws_heldChan.T → Option sq_laws_heldChan.T := fun x => F_laws_heldChan x.1.1 x.1.2.1
theorem e_laws_heldChan : ∀ x, evCode ty (gamOf g_laws_heldChan) j_laws_heldChan (lamOf []) b_laws_heldChan (sp_laws_heldChan.hd x) (finN ty sq_laws_heldChan [.tmp 4]) = U_laws_heldChan x := fun x => by kernel_rfl
theorem c_laws_heldChan : FnS P 42 sp_laws_heldChan sq_laws_heldChan U_laws_heldChan :=
  fnS_of_ev tyOk mixed gok_laws_heldChan (fn := Try.f42) (by kernel_rfl) (c := b_laws_heldChan) (by kernel_rfl) (by kernel_rfl) (by kernel_rfl) (lam_ok (tab := []) (by kernel_rfl) (fun p hp => by cases hp)) e_laws_heldChan

/-! laws.heldChanResult -/
abbrev sp_laws_heldChanResult : Sp := ⟨12, [(0, .val true k7), (1, .val false (.int .i64))], [], []⟩
abbrev sq_laws_heldChanResult : Sp := ⟨1, [(0, .val false (.int .i64))], [], []⟩
noncomputable def g_laws_heldChanResult : List (FuncId × SumX) := [(42, cN sp_laws_heldChan sq_laws_heldChan U_laws_heldChan)]
def j_laws_heldChanResult : Nat → Option (List (Nat × SS)) := jOf []
theorem gok_laws_heldChanResult : GOk P (gamOf g_laws_heldChanResult) := gam_ok (tab := g_laws_heldChanResult) (by
    intro p hp
    simp only [g_laws_heldChanResult, List.mem_cons, List.not_mem_nil, or_false] at hp
    rcases hp with rfl
    · exact cN_ok c_laws_heldChan rfl)
noncomputable abbrev b_laws_heldChanResult : Code := bodyOf Try.f15
noncomputable def F_laws_heldChanResult (x1 : K.T k7) (x2 : K.T (.int .i64)) : Option sq_laws_heldChanResult.T :=
  (F_laws_heldChan x1.2.2.2 x2).bind fun y1 =>
  bif (decide (y1.1.1 < (0 : Int))) then
    (some (((-1 : Int), ()), (), ()))
  else
  some ((y1.1.1, ()), (), ())
noncomputable abbrev U_laws_heldChanResult : sp_laws_heldChanResult.T → Option sq_laws_heldChanResult.T := fun x => F_laws_heldChanResult x.1.1 x.1.2.1
theorem e_laws_heldChanResult : ∀ x, evCode ty (gamOf g_laws_heldChanResult) j_laws_heldChanResult (lamOf []) b_laws_heldChanResult (sp_laws_heldChanResult.hd x) (finN ty sq_laws_heldChanResult [.tmp 4]) = U_laws_heldChanResult x := fun x => by kernel_rfl
theorem c_laws_heldChanResult : FnS P 15 sp_laws_heldChanResult sq_laws_heldChanResult U_laws_heldChanResult :=
  fnS_of_ev tyOk mixed gok_laws_heldChanResult (fn := Try.f15) (by kernel_rfl) (c := b_laws_heldChanResult) (by kernel_rfl) (by kernel_rfl) (by kernel_rfl) (lam_ok (tab := []) (by kernel_rfl) (fun p hp => by cases hp)) e_laws_heldChanResult

/-! laws.FnExactTestChan -/
abbrev sp_laws_FnExactTestChan : Sp := ⟨69, [(0, .val true k4)], [], []⟩
abbrev sq_laws_FnExactTestChan : Sp := ⟨1, [(0, .val false .bool)], [], []⟩
noncomputable def g_laws_FnExactTestChan : List (FuncId × SumX) := [(7, cN sp_laws_szChan sq_laws_szChan U_laws_szChan), (8, fN sp_spec_TestChan sq_spec_TestChan U_spec_TestChan), (9, fN sp_laws_toChan sq_laws_toChan U_laws_toChan), (10, fN sp_impl_TestChan sq_impl_TestChan U_impl_TestChan), (11, cN sp_laws_eqChanResult sq_laws_eqChanResult U_laws_eqChanResult), (12, cN sp_laws_eqChan sq_laws_eqChan U_laws_eqChan), (13, xN sp_laws_markChan sq_laws_markChan U_laws_markChan), (14, xN sp_laws_markChanResult sq_laws_markChanResult U_laws_markChanResult), (15, cN sp_laws_heldChanResult sq_laws_heldChanResult U_laws_heldChanResult)]
def j_laws_FnExactTestChan : Nat → Option (List (Nat × SS)) := jOf [(14, [(42, .val false .bool)])]
theorem gok_laws_FnExactTestChan : GOk P (gamOf g_laws_FnExactTestChan) := gam_ok (tab := g_laws_FnExactTestChan) (by
    intro p hp
    simp only [g_laws_FnExactTestChan, List.mem_cons, List.not_mem_nil, or_false] at hp
    rcases hp with rfl | rfl | rfl | rfl | rfl | rfl | rfl | rfl | rfl
    · exact cN_ok c_laws_szChan rfl
    · exact fN_ok c_spec_TestChan rfl
    · exact fN_ok c_laws_toChan rfl
    · exact fN_ok c_impl_TestChan rfl
    · exact cN_ok c_laws_eqChanResult rfl
    · exact cN_ok c_laws_eqChan rfl
    · exact xN_ok c_laws_markChan rfl
    · exact xN_ok c_laws_markChanResult rfl
    · exact cN_ok c_laws_heldChanResult rfl)
noncomputable abbrev b_laws_FnExactTestChan : Code := bodyOf Try.f3
noncomputable def F_laws_FnExactTestChan (x1 : K.T k4) : Option sq_laws_FnExactTestChan.T :=
  (F_laws_szChan x1 (1048576 : Int)).bind fun y1 =>
  bif (decide (y1.1.1 < (0 : Int))) then
    (some ((true, ()), (), ()))
  else
  (F_laws_toChan x1).bind fun y2 =>
  (F_spec_TestChan (y2.1.1.1, (y2.2.2.1, (y2.2.2.2.1, (y2.2.2.2.2.1, (y2.1.1.2.1, y2.1.1.2.2.1)))))).bind fun y3 =>
  (F_laws_toChan x1).bind fun y4 =>
  (F_impl_TestChan (y4.1.1.1, (y4.2.2.1, (y4.2.2.2.1, (y4.2.2.2.2.1, (y4.1.1.2.1, y4.1.1.2.2.1)))))).bind fun y5 =>
  (F_laws_eqChanResult (y5.1.1.1, (y5.1.1.2.1, (y5.1.1.2.2.1, (y5.1.1.2.2.2.1, (y5.2.2.1, (y5.2.2.2.1, (y5.2.2.2.2.1, (y5.1.1.2.2.2.2.1, y5.1.1.2.2.2.2.2.1)))))))) (y3.1.1.1, (y3.1.1.2.1, (y3.1.1.2.2.1, (y3.1.1.2.2.2.1, (y3.2.2.1, (y3.2.2.2.1, (y3.2.2.2.2.1, (y3.1.1.2.2.2.2.1, y3.1.1.2.2.2.2.2.1))))))))).bind fun y6 =>
  bif (!y6.1.1) then
    (some ((false, ()), (), ()))
  else
  (F_laws_toChan x1).bind fun y7 =>
  (F_laws_eqChan (y4.1.1.1, (y4.2.2.1, (y4.2.2.2.1, (y4.2.2.2.2.1, (y4.1.1.2.1, y4.1.1.2.2.1))))) (y7.1.1.1, (y7.2.2.1, (y7.2.2.2.1, (y7.2.2.2.2.1, (y7.1.1.2.1, y7.1.1.2.2.1)))))).bind fun y8 =>
  bif (!y8.1.1) then
    (some ((false, ()), (), ()))
  else
  (F_laws_markChan y4.1.1.1 y4.1.1.2.1 y4.1.1.2.2.1 (1 : Int) y4.2.2.1 y4.2.2.2.1 y4.2.2.2.2.1).bind fun y9 =>
  (bif (decide (y9.1.1 < (0 : Int))) then
      (some (true, ()))
    else
    (F_laws_eqChanResult (y5.1.1.1, (y5.1.1.2.1, (y5.1.1.2.2.1, (y5.1.1.2.2.2.1, (y5.2.2.1, (y5.2.2.2.1, (y5.2.2.2.2.1, (y5.1.1.2.2.2.2.1, y5.1.1.2.2.2.2.2.1)))))))) (y3.1.1.1, (y3.1.1.2.1, (y3.1.1.2.2.1, (y3.1.1.2.2.2.1, (y3.2.2.1, (y3.2.2.2.1, (y3.2.2.2.2.1, (y3.1.1.2.2.2.2.1, y3.1.1.2.2.2.2.2.1))))))))).bind fun y10 =>
    some ((!y10.1.1), ())).bind fun y11 =>
  bif y11.1 then
    (some ((false, ()), (), ()))
  else
  (F_laws_markChanResult y5.1.1.1 y5.1.1.2.1 y5.1.1.2.2.1 y5.1.1.2.2.2.1 y5.1.1.2.2.2.2.1 y5.1.1.2.2.2.2.2.1 (1 : Int) y5.2.2.1 y5.2.2.2.1 y5.2.2.2.2.1).bind fun y12 =>
  (F_laws_heldChanResult (y5.1.1.1, (y5.1.1.2.1, (y5.1.1.2.2.1, (y5.1.1.2.2.2.1, (y12.2.2.1, (y12.2.2.2.1, (y12.2.2.2.2.1, (y5.1.1.2.2.2.2.1, y5.1.1.2.2.2.2.2.1)))))))) (1 : Int)).bind fun y13 =>
  bif (decide (y13.1.1 < (0 : Int))) then
    (some ((false, ()), (), ()))
  else
  bif (y13.1.1 != y12.1.1) then
    (some ((false, ()), (), ()))
  else
  (F_laws_toChan x1).bind fun y14 =>
  (F_impl_TestChan (y14.1.1.1, (y14.2.2.1, (y14.2.2.2.1, (y14.2.2.2.2.1, (y14.1.1.2.1, y14.1.1.2.2.1)))))).bind fun y15 =>
  (F_laws_eqChanResult (y15.1.1.1, (y15.1.1.2.1, (y15.1.1.2.2.1, (y15.1.1.2.2.2.1, (y15.2.2.1, (y15.2.2.2.1, (y15.2.2.2.2.1, (y15.1.1.2.2.2.2.1, y15.1.1.2.2.2.2.2.1)))))))) (y3.1.1.1, (y3.1.1.2.1, (y3.1.1.2.2.1, (y3.1.1.2.2.2.1, (y3.2.2.1, (y3.2.2.2.1, (y3.2.2.2.2.1, (y3.1.1.2.2.2.2.1, y3.1.1.2.2.2.2.2.1))))))))).bind fun y16 =>
  bif (!y16.1.1) then
    (some ((false, ()), (), ()))
  else
  (F_laws_heldChanResult (y5.1.1.1, (y5.1.1.2.1, (y5.1.1.2.2.1, (y5.1.1.2.2.2.1, (y12.2.2.1, (y12.2.2.2.1, (y12.2.2.2.2.1, (y5.1.1.2.2.2.2.1, y5.1.1.2.2.2.2.2.1)))))))) (1 : Int)).bind fun y17 =>
  bif (decide (y17.1.1 < (0 : Int))) then
    (some ((false, ()), (), ()))
  else
  bif (y17.1.1 != y12.1.1) then
    (some ((false, ()), (), ()))
  else
  some ((true, ()), (), ())
noncomputable abbrev U_laws_FnExactTestChan : sp_laws_FnExactTestChan.T → Option sq_laws_FnExactTestChan.T := fun x => F_laws_FnExactTestChan x.1.1
theorem e_laws_FnExactTestChan : ∀ x, evCode ty (gamOf g_laws_FnExactTestChan) j_laws_FnExactTestChan (lamOf []) b_laws_FnExactTestChan (sp_laws_FnExactTestChan.hd x) (finN ty sq_laws_FnExactTestChan [.tmp 2]) = U_laws_FnExactTestChan x := fun x => by kernel_rfl
theorem c_laws_FnExactTestChan : FnS P 3 sp_laws_FnExactTestChan sq_laws_FnExactTestChan U_laws_FnExactTestChan :=
  fnS_of_ev tyOk mixed gok_laws_FnExactTestChan (fn := Try.f3) (by kernel_rfl) (c := b_laws_FnExactTestChan) (by kernel_rfl) (by kernel_rfl) (by kernel_rfl) (lam_ok (tab := []) (by kernel_rfl) (fun p hp => by cases hp)) e_laws_FnExactTestChan
end Go.Ev
