/- What is proved here: the contract of each function that FnExactScanChan reaches; no condition. -/
import Derived.Test.YtfglckpbconanaaGreatScanA
import Derived.KernelRfl
set_option linter.unusedVariables false
namespace Go.Ev
open Go.Proofs
/-! (*impl.StackMachine).do -/
abbrev sp_impl_StackMachine_do : Sp := ⟨258, [(0, .fix (.ptr 60000 0)), (1, .val false (.int .i64)), (2, .val false (.sl (.int .i64)))], [(60000, [.val (.int .i64), .val (.sl (.int .i64)), .fix (.own 63000), .val (.int .i64), .val (.int .i64), .val (.int .i64), .val .bool])], [(63000, (.int .i64), true)]⟩
abbrev sq_impl_StackMachine_do : Sp := ⟨1, [(0, .val false (.int .i64))], [(60000, [.val (.int .i64), .val (.sl (.int .i64)), .fix (.own 59000), .val (.int .i64), .val (.int .i64), .val (.int .i64), .val .bool])], [(59000, (.int .i64), true)]⟩
noncomputable def g_impl_StackMachine_do : List (FuncId × SumX) := [(72, fN sp_slices_Clone_int64 sq_slices_Clone_int64 U_slices_Clone_int64), (93, cN sp_impl_within sq_impl_within U_impl_within), (138, cN sp_impl_flag sq_impl_flag U_impl_flag), (180, xN sp_impl_StackMachine_do_f1 sq_impl_StackMachine_do_f1 U_impl_StackMachine_do_f1), (181, xN sp_impl_StackMachine_do_f2 sq_impl_StackMachine_do_f2 U_impl_StackMachine_do_f2), (182, cN sp_impl_SignedOf sq_impl_SignedOf U_impl_SignedOf), (183, cN sp_impl_BinaryOf sq_impl_BinaryOf U_impl_BinaryOf), (184, cN sp_impl_NegOf sq_impl_NegOf U_impl_NegOf), (185, cN sp_impl_NotOf sq_impl_NotOf U_impl_NotOf), (186, cN sp_impl_SignOf sq_impl_SignOf U_impl_SignOf)]
def j_impl_StackMachine_do : Nat → Option (List (Nat × SS)) := jOf []
theorem gok_impl_StackMachine_do : GOk P (gamOf g_impl_StackMachine_do) := gam_ok (tab := g_impl_StackMachine_do) (gm1 (fN_ok c_slices_Clone_int64 rfl) (gm1 (cN_ok c_impl_within rfl) (gm1 (cN_ok c_impl_flag rfl) (gm1 (xN_ok c_impl_StackMachine_do_f1 rfl) (gm1 (xN_ok c_impl_StackMachine_do_f2 rfl) (gm1 (cN_ok c_impl_SignedOf rfl) (gm1 (cN_ok c_impl_BinaryOf rfl) (gm1 (cN_ok c_impl_NegOf rfl) (gm1 (cN_ok c_impl_NotOf rfl) (gm1 (cN_ok c_impl_SignOf rfl) gm0))))))))))
noncomputable abbrev b_impl_StackMachine_do : Code := bodyOf Tryz.f161
noncomputable def F_impl_StackMachine_do (x1 : K.T (.int .i64)) (x2 : K.T (.sl (.int .i64))) (x3 : K.T (.int .i64)) (x4 : K.T (.sl (.int .i64))) (x5 : K.T (.int .i64)) (x6 : K.T (.int .i64)) (x7 : K.T (.int .i64)) (x8 : K.T .bool) (x9 : List (K.T (.int .i64))) : Option sq_impl_StackMachine_do.T :=
  bif ib x1 ([(0 : Int), (0 : Int), (0 : Int), (1 : Int), (1 : Int), (2 : Int), (2 : Int), (1 : Int), (1 : Int), (1 : Int), (0 : Int), (1 : Int), (0 : Int), (0 : Int)]).length then
  bif (decide ((IntKind.wrap .i64 (((x4).length : Int) - (([(0 : Int), (0 : Int), (0 : Int), (1 : Int), (1 : Int), (2 : Int), (2 : Int), (1 : Int), (1 : Int), (1 : Int), (0 : Int), (1 : Int), (0 : Int), (0 : Int)]).getD (Int.toNat x1) (K.zero (.int .i64))))) < (0 : Int))) then
    (some (((1 : Int), ()), ((x3, (x4, (x5, (x6, (x7, (x8, ())))))), ()), (x9, ())))
  else
  bif decide (0 ≤ (IntKind.wrap .i64 (((x4).length : Int) - (([(0 : Int), (0 : Int), (0 : Int), (1 : Int), (1 : Int), (2 : Int), (2 : Int), (1 : Int), (1 : Int), (1 : Int), (0 : Int), (1 : Int), (0 : Int), (0 : Int)]).getD (Int.toNat x1) (K.zero (.int .i64))))) ∧ (IntKind.wrap .i64 (((x4).length : Int) - (([(0 : Int), (0 : Int), (0 : Int), (1 : Int), (1 : Int), (2 : Int), (2 : Int), (1 : Int), (1 : Int), (1 : Int), (0 : Int), (1 : Int), (0 : Int), (0 : Int)]).getD (Int.toNat x1) (K.zero (.int .i64))))) ≤ ((x4).length : Int) ∧ ((x4).length : Int) ≤ ((x4).length : Int)) then
  (F_slices_Clone_int64 (((x4).take (Int.toNat ((x4).length : Int))).drop (Int.toNat (IntKind.wrap .i64 (((x4).length : Int) - (([(0 : Int), (0 : Int), (0 : Int), (1 : Int), (1 : Int), (2 : Int), (2 : Int), (1 : Int), (1 : Int), (1 : Int), (0 : Int), (1 : Int), (0 : Int), (0 : Int)]).getD (Int.toNat x1) (K.zero (.int .i64)))))))).bind fun y1 =>
  bif (x1 == (1 : Int)) then
    (bif (x1 == (2 : Int)) then
      (bif ib (0 : Int) (x2).length then
      (F_impl_StackMachine_do_f2 ((x2).getD (Int.toNat (0 : Int)) (K.zero (.int .i64))) x3 x4 x5 x6 x7 x8 x9).bind fun y2 =>
      bif (!y2.1.1) then
        (some (((1 : Int), ()), ((y2.2.1.2.1.1, (y2.2.1.2.1.2.1, (y2.2.1.2.1.2.2.1, (y2.2.1.2.1.2.2.2.1, (y2.2.1.2.1.2.2.2.2.1, (y2.2.1.2.1.2.2.2.2.2.1, ())))))), ()), (y2.2.2.1, ())))
      else
      bif ((IntKind.wrap .i64 (((x4).length : Int) - (([(0 : Int), (0 : Int), (0 : Int), (1 : Int), (1 : Int), (2 : Int), (2 : Int), (1 : Int), (1 : Int), (1 : Int), (0 : Int), (1 : Int), (0 : Int), (0 : Int)]).getD (Int.toNat x1) (K.zero (.int .i64))))) == (40 : Int)) then
        (some (((1 : Int), ()), ((y2.2.1.2.1.1, (y2.2.1.2.1.2.1, (y2.2.1.2.1.2.2.1, (y2.2.1.2.1.2.2.2.1, (y2.2.1.2.1.2.2.2.2.1, (y2.2.1.2.1.2.2.2.2.2.1, ())))))), ()), (y2.2.2.1, ())))
      else
      bif (x1 == (2 : Int)) then
        (bif ib (0 : Int) (x2).length then
        bif ib ((x2).getD (Int.toNat (0 : Int)) (K.zero (.int .i64))) (y2.2.2.1).length then
        (F_impl_StackMachine_do_f1 ((y2.2.2.1).getD (Int.toNat ((x2).getD (Int.toNat (0 : Int)) (K.zero (.int .i64)))) (K.zero (.int .i64))) (IntKind.wrap .i64 (((x4).length : Int) - (([(0 : Int), (0 : Int), (0 : Int), (1 : Int), (1 : Int), (2 : Int), (2 : Int), (1 : Int), (1 : Int), (1 : Int), (0 : Int), (1 : Int), (0 : Int), (0 : Int)]).getD (Int.toNat x1) (K.zero (.int .i64))))) y2.2.1.2.1.1 y2.2.1.2.1.2.1 y2.2.1.2.1.2.2.1 y2.2.1.2.1.2.2.2.1 y2.2.1.2.1.2.2.2.2.1 y2.2.1.2.1.2.2.2.2.2.1 y2.2.2.1).bind fun y3 =>
        some (((0 : Int), ()), ((y3.2.1.2.2.1.1, (y3.2.2.1, (y3.2.1.2.2.1.2.1, (y3.2.1.2.2.1.2.2.1, (y3.2.1.2.2.1.2.2.2.1, (y3.2.1.2.2.1.2.2.2.2.1, ())))))), ()), (y3.2.2.2.1, ()))
        else none
        else none)
      else
      bif ib (0 : Int) (x2).length then
      (F_impl_StackMachine_do_f1 ((x2).getD (Int.toNat (0 : Int)) (K.zero (.int .i64))) (IntKind.wrap .i64 (((x4).length : Int) - (([(0 : Int), (0 : Int), (0 : Int), (1 : Int), (1 : Int), (2 : Int), (2 : Int), (1 : Int), (1 : Int), (1 : Int), (0 : Int), (1 : Int), (0 : Int), (0 : Int)]).getD (Int.toNat x1) (K.zero (.int .i64))))) y2.2.1.2.1.1 y2.2.1.2.1.2.1 y2.2.1.2.1.2.2.1 y2.2.1.2.1.2.2.2.1 y2.2.1.2.1.2.2.2.2.1 y2.2.1.2.1.2.2.2.2.2.1 y2.2.2.1).bind fun y4 =>
      some (((0 : Int), ()), ((y4.2.1.2.2.1.1, (y4.2.2.1, (y4.2.1.2.2.1.2.1, (y4.2.1.2.2.1.2.2.1, (y4.2.1.2.2.1.2.2.2.1, (y4.2.1.2.2.1.2.2.2.2.1, ())))))), ()), (y4.2.2.2.1, ()))
      else none
      else none)
    else
    bif ((IntKind.wrap .i64 (((x4).length : Int) - (([(0 : Int), (0 : Int), (0 : Int), (1 : Int), (1 : Int), (2 : Int), (2 : Int), (1 : Int), (1 : Int), (1 : Int), (0 : Int), (1 : Int), (0 : Int), (0 : Int)]).getD (Int.toNat x1) (K.zero (.int .i64))))) == (40 : Int)) then
      (some (((1 : Int), ()), ((x3, (x4, (x5, (x6, (x7, (x8, ())))))), ()), (x9, ())))
    else
    bif (x1 == (2 : Int)) then
      (bif ib (0 : Int) (x2).length then
      bif ib ((x2).getD (Int.toNat (0 : Int)) (K.zero (.int .i64))) (x9).length then
      (F_impl_StackMachine_do_f1 ((x9).getD (Int.toNat ((x2).getD (Int.toNat (0 : Int)) (K.zero (.int .i64)))) (K.zero (.int .i64))) (IntKind.wrap .i64 (((x4).length : Int) - (([(0 : Int), (0 : Int), (0 : Int), (1 : Int), (1 : Int), (2 : Int), (2 : Int), (1 : Int), (1 : Int), (1 : Int), (0 : Int), (1 : Int), (0 : Int), (0 : Int)]).getD (Int.toNat x1) (K.zero (.int .i64))))) x3 x4 x5 x6 x7 x8 x9).bind fun y5 =>
      some (((0 : Int), ()), ((y5.2.1.2.2.1.1, (y5.2.2.1, (y5.2.1.2.2.1.2.1, (y5.2.1.2.2.1.2.2.1, (y5.2.1.2.2.1.2.2.2.1, (y5.2.1.2.2.1.2.2.2.2.1, ())))))), ()), (y5.2.2.2.1, ()))
      else none
      else none)
    else
    bif ib (0 : Int) (x2).length then
    (F_impl_StackMachine_do_f1 ((x2).getD (Int.toNat (0 : Int)) (K.zero (.int .i64))) (IntKind.wrap .i64 (((x4).length : Int) - (([(0 : Int), (0 : Int), (0 : Int), (1 : Int), (1 : Int), (2 : Int), (2 : Int), (1 : Int), (1 : Int), (1 : Int), (0 : Int), (1 : Int), (0 : Int), (0 : Int)]).getD (Int.toNat x1) (K.zero (.int .i64))))) x3 x4 x5 x6 x7 x8 x9).bind fun y6 =>
    some (((0 : Int), ()), ((y6.2.1.2.2.1.1, (y6.2.2.1, (y6.2.1.2.2.1.2.1, (y6.2.1.2.2.1.2.2.1, (y6.2.1.2.2.1.2.2.2.1, (y6.2.1.2.2.1.2.2.2.2.1, ())))))), ()), (y6.2.2.2.1, ()))
    else none)
  else
  bif (x1 == (2 : Int)) then
    (bif (x1 == (2 : Int)) then
      (bif ib (0 : Int) (x2).length then
      (F_impl_StackMachine_do_f2 ((x2).getD (Int.toNat (0 : Int)) (K.zero (.int .i64))) x3 x4 x5 x6 x7 x8 x9).bind fun y7 =>
      bif (!y7.1.1) then
        (some (((1 : Int), ()), ((y7.2.1.2.1.1, (y7.2.1.2.1.2.1, (y7.2.1.2.1.2.2.1, (y7.2.1.2.1.2.2.2.1, (y7.2.1.2.1.2.2.2.2.1, (y7.2.1.2.1.2.2.2.2.2.1, ())))))), ()), (y7.2.2.1, ())))
      else
      bif ((IntKind.wrap .i64 (((x4).length : Int) - (([(0 : Int), (0 : Int), (0 : Int), (1 : Int), (1 : Int), (2 : Int), (2 : Int), (1 : Int), (1 : Int), (1 : Int), (0 : Int), (1 : Int), (0 : Int), (0 : Int)]).getD (Int.toNat x1) (K.zero (.int .i64))))) == (40 : Int)) then
        (some (((1 : Int), ()), ((y7.2.1.2.1.1, (y7.2.1.2.1.2.1, (y7.2.1.2.1.2.2.1, (y7.2.1.2.1.2.2.2.1, (y7.2.1.2.1.2.2.2.2.1, (y7.2.1.2.1.2.2.2.2.2.1, ())))))), ()), (y7.2.2.1, ())))
      else
      bif (x1 == (2 : Int)) then
        (bif ib (0 : Int) (x2).length then
        bif ib ((x2).getD (Int.toNat (0 : Int)) (K.zero (.int .i64))) (y7.2.2.1).length then
        (F_impl_StackMachine_do_f1 ((y7.2.2.1).getD (Int.toNat ((x2).getD (Int.toNat (0 : Int)) (K.zero (.int .i64)))) (K.zero (.int .i64))) (IntKind.wrap .i64 (((x4).length : Int) - (([(0 : Int), (0 : Int), (0 : Int), (1 : Int), (1 : Int), (2 : Int), (2 : Int), (1 : Int), (1 : Int), (1 : Int), (0 : Int), (1 : Int), (0 : Int), (0 : Int)]).getD (Int.toNat x1) (K.zero (.int .i64))))) y7.2.1.2.1.1 y7.2.1.2.1.2.1 y7.2.1.2.1.2.2.1 y7.2.1.2.1.2.2.2.1 y7.2.1.2.1.2.2.2.2.1 y7.2.1.2.1.2.2.2.2.2.1 y7.2.2.1).bind fun y8 =>
        some (((0 : Int), ()), ((y8.2.1.2.2.1.1, (y8.2.2.1, (y8.2.1.2.2.1.2.1, (y8.2.1.2.2.1.2.2.1, (y8.2.1.2.2.1.2.2.2.1, (y8.2.1.2.2.1.2.2.2.2.1, ())))))), ()), (y8.2.2.2.1, ()))
        else none
        else none)
      else
      bif ib (0 : Int) (x2).length then
      (F_impl_StackMachine_do_f1 ((x2).getD (Int.toNat (0 : Int)) (K.zero (.int .i64))) (IntKind.wrap .i64 (((x4).length : Int) - (([(0 : Int), (0 : Int), (0 : Int), (1 : Int), (1 : Int), (2 : Int), (2 : Int), (1 : Int), (1 : Int), (1 : Int), (0 : Int), (1 : Int), (0 : Int), (0 : Int)]).getD (Int.toNat x1) (K.zero (.int .i64))))) y7.2.1.2.1.1 y7.2.1.2.1.2.1 y7.2.1.2.1.2.2.1 y7.2.1.2.1.2.2.2.1 y7.2.1.2.1.2.2.2.2.1 y7.2.1.2.1.2.2.2.2.2.1 y7.2.2.1).bind fun y9 =>
      some (((0 : Int), ()), ((y9.2.1.2.2.1.1, (y9.2.2.1, (y9.2.1.2.2.1.2.1, (y9.2.1.2.2.1.2.2.1, (y9.2.1.2.2.1.2.2.2.1, (y9.2.1.2.2.1.2.2.2.2.1, ())))))), ()), (y9.2.2.2.1, ()))
      else none
      else none)
    else
    bif ((IntKind.wrap .i64 (((x4).length : Int) - (([(0 : Int), (0 : Int), (0 : Int), (1 : Int), (1 : Int), (2 : Int), (2 : Int), (1 : Int), (1 : Int), (1 : Int), (0 : Int), (1 : Int), (0 : Int), (0 : Int)]).getD (Int.toNat x1) (K.zero (.int .i64))))) == (40 : Int)) then
      (some (((1 : Int), ()), ((x3, (x4, (x5, (x6, (x7, (x8, ())))))), ()), (x9, ())))
    else
    bif (x1 == (2 : Int)) then
      (bif ib (0 : Int) (x2).length then
      bif ib ((x2).getD (Int.toNat (0 : Int)) (K.zero (.int .i64))) (x9).length then
      (F_impl_StackMachine_do_f1 ((x9).getD (Int.toNat ((x2).getD (Int.toNat (0 : Int)) (K.zero (.int .i64)))) (K.zero (.int .i64))) (IntKind.wrap .i64 (((x4).length : Int) - (([(0 : Int), (0 : Int), (0 : Int), (1 : Int), (1 : Int), (2 : Int), (2 : Int), (1 : Int), (1 : Int), (1 : Int), (0 : Int), (1 : Int), (0 : Int), (0 : Int)]).getD (Int.toNat x1) (K.zero (.int .i64))))) x3 x4 x5 x6 x7 x8 x9).bind fun y10 =>
      some (((0 : Int), ()), ((y10.2.1.2.2.1.1, (y10.2.2.1, (y10.2.1.2.2.1.2.1, (y10.2.1.2.2.1.2.2.1, (y10.2.1.2.2.1.2.2.2.1, (y10.2.1.2.2.1.2.2.2.2.1, ())))))), ()), (y10.2.2.2.1, ()))
      else none
      else none)
    else
    bif ib (0 : Int) (x2).length then
    (F_impl_StackMachine_do_f1 ((x2).getD (Int.toNat (0 : Int)) (K.zero (.int .i64))) (IntKind.wrap .i64 (((x4).length : Int) - (([(0 : Int), (0 : Int), (0 : Int), (1 : Int), (1 : Int), (2 : Int), (2 : Int), (1 : Int), (1 : Int), (1 : Int), (0 : Int), (1 : Int), (0 : Int), (0 : Int)]).getD (Int.toNat x1) (K.zero (.int .i64))))) x3 x4 x5 x6 x7 x8 x9).bind fun y11 =>
    some (((0 : Int), ()), ((y11.2.1.2.2.1.1, (y11.2.2.1, (y11.2.1.2.2.1.2.1, (y11.2.1.2.2.1.2.2.1, (y11.2.1.2.2.1.2.2.2.1, (y11.2.1.2.2.1.2.2.2.2.1, ())))))), ()), (y11.2.2.2.1, ()))
    else none)
  else
  bif (x1 == (3 : Int)) then
    (bif ib (0 : Int) (x2).length then
    (F_impl_StackMachine_do_f2 ((x2).getD (Int.toNat (0 : Int)) (K.zero (.int .i64))) x3 x4 x5 x6 x7 x8 x9).bind fun y12 =>
    bif (!y12.1.1) then
      (some (((1 : Int), ()), ((y12.2.1.2.1.1, (y12.2.1.2.1.2.1, (y12.2.1.2.1.2.2.1, (y12.2.1.2.1.2.2.2.1, (y12.2.1.2.1.2.2.2.2.1, (y12.2.1.2.1.2.2.2.2.2.1, ())))))), ()), (y12.2.2.1, ())))
    else
    bif ib (0 : Int) (x2).length then
    bif ib (0 : Int) (y1.2.2.1).length then
    bif decide (0 ≤ (0 : Int) ∧ (0 : Int) ≤ (IntKind.wrap .i64 (((x4).length : Int) - (([(0 : Int), (0 : Int), (0 : Int), (1 : Int), (1 : Int), (2 : Int), (2 : Int), (1 : Int), (1 : Int), (1 : Int), (0 : Int), (1 : Int), (0 : Int), (0 : Int)]).getD (Int.toNat x1) (K.zero (.int .i64))))) ∧ (IntKind.wrap .i64 (((x4).length : Int) - (([(0 : Int), (0 : Int), (0 : Int), (1 : Int), (1 : Int), (2 : Int), (2 : Int), (1 : Int), (1 : Int), (1 : Int), (0 : Int), (1 : Int), (0 : Int), (0 : Int)]).getD (Int.toNat x1) (K.zero (.int .i64))))) ≤ ((y12.2.1.2.1.2.1).length : Int)) then
    bif ib ((x2).getD (Int.toNat (0 : Int)) (K.zero (.int .i64))) (y12.2.2.1).length then
    some (((0 : Int), ()), ((y12.2.1.2.1.1, (((y12.2.1.2.1.2.1).take (Int.toNat (IntKind.wrap .i64 (((x4).length : Int) - (([(0 : Int), (0 : Int), (0 : Int), (1 : Int), (1 : Int), (2 : Int), (2 : Int), (1 : Int), (1 : Int), (1 : Int), (0 : Int), (1 : Int), (0 : Int), (0 : Int)]).getD (Int.toNat x1) (K.zero (.int .i64))))))).drop (Int.toNat (0 : Int)), (y12.2.1.2.1.2.2.1, (y12.2.1.2.1.2.2.2.1, (y12.2.1.2.1.2.2.2.2.1, (y12.2.1.2.1.2.2.2.2.2.1, ())))))), ()), ((y12.2.2.1).set (Int.toNat ((x2).getD (Int.toNat (0 : Int)) (K.zero (.int .i64)))) ((y1.2.2.1).getD (Int.toNat (0 : Int)) (K.zero (.int .i64))), ()))
    else none
    else none
    else none
    else none
    else none)
  else
  bif (x1 == (4 : Int)) then
    (bif ib (0 : Int) (y1.2.2.1).length then
    (F_impl_SignedOf ((y1.2.2.1).getD (Int.toNat (0 : Int)) (K.zero (.int .i64)))).bind fun y13 =>
    bif ib (1 : Int) (x2).length then
    (F_impl_within y13.1.1 (0 : Int) (IntKind.wrap .i64 (((x2).getD (Int.toNat (1 : Int)) (K.zero (.int .i64))) - (1 : Int)))).bind fun y14 =>
    bif (!y14.1.1) then
      (some (((3 : Int), ()), ((x3, (x4, (x5, (x6, (x7, (x8, ())))))), ()), (x9, ())))
    else
    bif ib (0 : Int) (x2).length then
    (F_impl_StackMachine_do_f2 (IntKind.wrap .i64 (((x2).getD (Int.toNat (0 : Int)) (K.zero (.int .i64))) + y13.1.1)) x3 x4 x5 x6 x7 x8 x9).bind fun y15 =>
    bif (!y15.1.1) then
      (some (((1 : Int), ()), ((y15.2.1.2.1.1, (y15.2.1.2.1.2.1, (y15.2.1.2.1.2.2.1, (y15.2.1.2.1.2.2.2.1, (y15.2.1.2.1.2.2.2.2.1, (y15.2.1.2.1.2.2.2.2.2.1, ())))))), ()), (y15.2.2.1, ())))
    else
    bif (x1 == (4 : Int)) then
      (bif ib (0 : Int) (x2).length then
      bif ib (IntKind.wrap .i64 (((x2).getD (Int.toNat (0 : Int)) (K.zero (.int .i64))) + y13.1.1)) (y15.2.2.1).length then
      (F_impl_StackMachine_do_f1 ((y15.2.2.1).getD (Int.toNat (IntKind.wrap .i64 (((x2).getD (Int.toNat (0 : Int)) (K.zero (.int .i64))) + y13.1.1))) (K.zero (.int .i64))) (IntKind.wrap .i64 (((x4).length : Int) - (([(0 : Int), (0 : Int), (0 : Int), (1 : Int), (1 : Int), (2 : Int), (2 : Int), (1 : Int), (1 : Int), (1 : Int), (0 : Int), (1 : Int), (0 : Int), (0 : Int)]).getD (Int.toNat x1) (K.zero (.int .i64))))) y15.2.1.2.1.1 y15.2.1.2.1.2.1 y15.2.1.2.1.2.2.1 y15.2.1.2.1.2.2.2.1 y15.2.1.2.1.2.2.2.2.1 y15.2.1.2.1.2.2.2.2.2.1 y15.2.2.1).bind fun y16 =>
      some (((0 : Int), ()), ((y16.2.1.2.2.1.1, (y16.2.2.1, (y16.2.1.2.2.1.2.1, (y16.2.1.2.2.1.2.2.1, (y16.2.1.2.2.1.2.2.2.1, (y16.2.1.2.2.1.2.2.2.2.1, ())))))), ()), (y16.2.2.2.1, ()))
      else none
      else none)
    else
    bif ib (0 : Int) (x2).length then
    bif ib (1 : Int) (y1.2.2.1).length then
    bif decide (0 ≤ (0 : Int) ∧ (0 : Int) ≤ (IntKind.wrap .i64 (((x4).length : Int) - (([(0 : Int), (0 : Int), (0 : Int), (1 : Int), (1 : Int), (2 : Int), (2 : Int), (1 : Int), (1 : Int), (1 : Int), (0 : Int), (1 : Int), (0 : Int), (0 : Int)]).getD (Int.toNat x1) (K.zero (.int .i64))))) ∧ (IntKind.wrap .i64 (((x4).length : Int) - (([(0 : Int), (0 : Int), (0 : Int), (1 : Int), (1 : Int), (2 : Int), (2 : Int), (1 : Int), (1 : Int), (1 : Int), (0 : Int), (1 : Int), (0 : Int), (0 : Int)]).getD (Int.toNat x1) (K.zero (.int .i64))))) ≤ ((y15.2.1.2.1.2.1).length : Int)) then
    bif ib (IntKind.wrap .i64 (((x2).getD (Int.toNat (0 : Int)) (K.zero (.int .i64))) + y13.1.1)) (y15.2.2.1).length then
    some (((0 : Int), ()), ((y15.2.1.2.1.1, (((y15.2.1.2.1.2.1).take (Int.toNat (IntKind.wrap .i64 (((x4).length : Int) - (([(0 : Int), (0 : Int), (0 : Int), (1 : Int), (1 : Int), (2 : Int), (2 : Int), (1 : Int), (1 : Int), (1 : Int), (0 : Int), (1 : Int), (0 : Int), (0 : Int)]).getD (Int.toNat x1) (K.zero (.int .i64))))))).drop (Int.toNat (0 : Int)), (y15.2.1.2.1.2.2.1, (y15.2.1.2.1.2.2.2.1, (y15.2.1.2.1.2.2.2.2.1, (y15.2.1.2.1.2.2.2.2.2.1, ())))))), ()), ((y15.2.2.1).set (Int.toNat (IntKind.wrap .i64 (((x2).getD (Int.toNat (0 : Int)) (K.zero (.int .i64))) + y13.1.1))) ((y1.2.2.1).getD (Int.toNat (1 : Int)) (K.zero (.int .i64))), ()))
    else none
    else none
    else none
    else none
    else none
    else none
    else none)
  else
  bif (x1 == (5 : Int)) then
    (bif ib (0 : Int) (y1.2.2.1).length then
    (F_impl_SignedOf ((y1.2.2.1).getD (Int.toNat (0 : Int)) (K.zero (.int .i64)))).bind fun y17 =>
    bif ib (1 : Int) (x2).length then
    (F_impl_within y17.1.1 (0 : Int) (IntKind.wrap .i64 (((x2).getD (Int.toNat (1 : Int)) (K.zero (.int .i64))) - (1 : Int)))).bind fun y18 =>
    bif (!y18.1.1) then
      (some (((3 : Int), ()), ((x3, (x4, (x5, (x6, (x7, (x8, ())))))), ()), (x9, ())))
    else
    bif ib (0 : Int) (x2).length then
    (F_impl_StackMachine_do_f2 (IntKind.wrap .i64 (((x2).getD (Int.toNat (0 : Int)) (K.zero (.int .i64))) + y17.1.1)) x3 x4 x5 x6 x7 x8 x9).bind fun y19 =>
    bif (!y19.1.1) then
      (some (((1 : Int), ()), ((y19.2.1.2.1.1, (y19.2.1.2.1.2.1, (y19.2.1.2.1.2.2.1, (y19.2.1.2.1.2.2.2.1, (y19.2.1.2.1.2.2.2.2.1, (y19.2.1.2.1.2.2.2.2.2.1, ())))))), ()), (y19.2.2.1, ())))
    else
    bif (x1 == (4 : Int)) then
      (bif ib (0 : Int) (x2).length then
      bif ib (IntKind.wrap .i64 (((x2).getD (Int.toNat (0 : Int)) (K.zero (.int .i64))) + y17.1.1)) (y19.2.2.1).length then
      (F_impl_StackMachine_do_f1 ((y19.2.2.1).getD (Int.toNat (IntKind.wrap .i64 (((x2).getD (Int.toNat (0 : Int)) (K.zero (.int .i64))) + y17.1.1))) (K.zero (.int .i64))) (IntKind.wrap .i64 (((x4).length : Int) - (([(0 : Int), (0 : Int), (0 : Int), (1 : Int), (1 : Int), (2 : Int), (2 : Int), (1 : Int), (1 : Int), (1 : Int), (0 : Int), (1 : Int), (0 : Int), (0 : Int)]).getD (Int.toNat x1) (K.zero (.int .i64))))) y19.2.1.2.1.1 y19.2.1.2.1.2.1 y19.2.1.2.1.2.2.1 y19.2.1.2.1.2.2.2.1 y19.2.1.2.1.2.2.2.2.1 y19.2.1.2.1.2.2.2.2.2.1 y19.2.2.1).bind fun y20 =>
      some (((0 : Int), ()), ((y20.2.1.2.2.1.1, (y20.2.2.1, (y20.2.1.2.2.1.2.1, (y20.2.1.2.2.1.2.2.1, (y20.2.1.2.2.1.2.2.2.1, (y20.2.1.2.2.1.2.2.2.2.1, ())))))), ()), (y20.2.2.2.1, ()))
      else none
      else none)
    else
    bif ib (0 : Int) (x2).length then
    bif ib (1 : Int) (y1.2.2.1).length then
    bif decide (0 ≤ (0 : Int) ∧ (0 : Int) ≤ (IntKind.wrap .i64 (((x4).length : Int) - (([(0 : Int), (0 : Int), (0 : Int), (1 : Int), (1 : Int), (2 : Int), (2 : Int), (1 : Int), (1 : Int), (1 : Int), (0 : Int), (1 : Int), (0 : Int), (0 : Int)]).getD (Int.toNat x1) (K.zero (.int .i64))))) ∧ (IntKind.wrap .i64 (((x4).length : Int) - (([(0 : Int), (0 : Int), (0 : Int), (1 : Int), (1 : Int), (2 : Int), (2 : Int), (1 : Int), (1 : Int), (1 : Int), (0 : Int), (1 : Int), (0 : Int), (0 : Int)]).getD (Int.toNat x1) (K.zero (.int .i64))))) ≤ ((y19.2.1.2.1.2.1).length : Int)) then
    bif ib (IntKind.wrap .i64 (((x2).getD (Int.toNat (0 : Int)) (K.zero (.int .i64))) + y17.1.1)) (y19.2.2.1).length then
    some (((0 : Int), ()), ((y19.2.1.2.1.1, (((y19.2.1.2.1.2.1).take (Int.toNat (IntKind.wrap .i64 (((x4).length : Int) - (([(0 : Int), (0 : Int), (0 : Int), (1 : Int), (1 : Int), (2 : Int), (2 : Int), (1 : Int), (1 : Int), (1 : Int), (0 : Int), (1 : Int), (0 : Int), (0 : Int)]).getD (Int.toNat x1) (K.zero (.int .i64))))))).drop (Int.toNat (0 : Int)), (y19.2.1.2.1.2.2.1, (y19.2.1.2.1.2.2.2.1, (y19.2.1.2.1.2.2.2.2.1, (y19.2.1.2.1.2.2.2.2.2.1, ())))))), ()), ((y19.2.2.1).set (Int.toNat (IntKind.wrap .i64 (((x2).getD (Int.toNat (0 : Int)) (K.zero (.int .i64))) + y17.1.1))) ((y1.2.2.1).getD (Int.toNat (1 : Int)) (K.zero (.int .i64))), ()))
    else none
    else none
    else none
    else none
    else none
    else none
    else none)
  else
  bif (x1 == (6 : Int)) then
    (bif ib (0 : Int) (x2).length then
    bif ib (0 : Int) (y1.2.2.1).length then
    bif ib (1 : Int) (y1.2.2.1).length then
    (F_impl_BinaryOf ((x2).getD (Int.toNat (0 : Int)) (K.zero (.int .i64))) ((y1.2.2.1).getD (Int.toNat (0 : Int)) (K.zero (.int .i64))) ((y1.2.2.1).getD (Int.toNat (1 : Int)) (K.zero (.int .i64)))).bind fun y21 =>
    bif (y21.1.1.1 == (0 : Int)) then
      ((F_impl_StackMachine_do_f1 y21.1.1.2 (IntKind.wrap .i64 (((x4).length : Int) - (([(0 : Int), (0 : Int), (0 : Int), (1 : Int), (1 : Int), (2 : Int), (2 : Int), (1 : Int), (1 : Int), (1 : Int), (0 : Int), (1 : Int), (0 : Int), (0 : Int)]).getD (Int.toNat x1) (K.zero (.int .i64))))) x3 x4 x5 x6 x7 x8 x9).bind fun y22 =>
      some (((0 : Int), ()), ((y22.2.1.2.2.1.1, (y22.2.2.1, (y22.2.1.2.2.1.2.1, (y22.2.1.2.2.1.2.2.1, (y22.2.1.2.2.1.2.2.2.1, (y22.2.1.2.2.1.2.2.2.2.1, ())))))), ()), (y22.2.2.2.1, ())))
    else
    bif (y21.1.1.1 == (3 : Int)) then
      (some (((1 : Int), ()), ((x3, (x4, (x5, (x6, (x7, (x8, ())))))), ()), (x9, ())))
    else
    some ((y21.1.1.1, ()), ((x3, (x4, (x5, (x6, (x7, (x8, ())))))), ()), (x9, ()))
    else none
    else none
    else none)
  else
  bif (x1 == (7 : Int)) then
    (bif ib (0 : Int) (y1.2.2.1).length then
    (F_impl_NegOf ((y1.2.2.1).getD (Int.toNat (0 : Int)) (K.zero (.int .i64)))).bind fun y23 =>
    (F_impl_StackMachine_do_f1 y23.1.1 (IntKind.wrap .i64 (((x4).length : Int) - (([(0 : Int), (0 : Int), (0 : Int), (1 : Int), (1 : Int), (2 : Int), (2 : Int), (1 : Int), (1 : Int), (1 : Int), (0 : Int), (1 : Int), (0 : Int), (0 : Int)]).getD (Int.toNat x1) (K.zero (.int .i64))))) x3 x4 x5 x6 x7 x8 x9).bind fun y24 =>
    some (((0 : Int), ()), ((y24.2.1.2.2.1.1, (y24.2.2.1, (y24.2.1.2.2.1.2.1, (y24.2.1.2.2.1.2.2.1, (y24.2.1.2.2.1.2.2.2.1, (y24.2.1.2.2.1.2.2.2.2.1, ())))))), ()), (y24.2.2.2.1, ()))
    else none)
  else
  bif (x1 == (8 : Int)) then
    (bif ib (0 : Int) (y1.2.2.1).length then
    (F_impl_NotOf ((y1.2.2.1).getD (Int.toNat (0 : Int)) (K.zero (.int .i64)))).bind fun y25 =>
    (F_impl_StackMachine_do_f1 y25.1.1 (IntKind.wrap .i64 (((x4).length : Int) - (([(0 : Int), (0 : Int), (0 : Int), (1 : Int), (1 : Int), (2 : Int), (2 : Int), (1 : Int), (1 : Int), (1 : Int), (0 : Int), (1 : Int), (0 : Int), (0 : Int)]).getD (Int.toNat x1) (K.zero (.int .i64))))) x3 x4 x5 x6 x7 x8 x9).bind fun y26 =>
    some (((0 : Int), ()), ((y26.2.1.2.2.1.1, (y26.2.2.1, (y26.2.1.2.2.1.2.1, (y26.2.1.2.2.1.2.2.1, (y26.2.1.2.2.1.2.2.2.1, (y26.2.1.2.2.1.2.2.2.2.1, ())))))), ()), (y26.2.2.2.1, ()))
    else none)
  else
  bif (x1 == (9 : Int)) then
    (bif ib (0 : Int) (y1.2.2.1).length then
    (F_impl_flag (((y1.2.2.1).getD (Int.toNat (0 : Int)) (K.zero (.int .i64))) != (0 : Int))).bind fun y27 =>
    (F_impl_StackMachine_do_f1 y27.1.1 (IntKind.wrap .i64 (((x4).length : Int) - (([(0 : Int), (0 : Int), (0 : Int), (1 : Int), (1 : Int), (2 : Int), (2 : Int), (1 : Int), (1 : Int), (1 : Int), (0 : Int), (1 : Int), (0 : Int), (0 : Int)]).getD (Int.toNat x1) (K.zero (.int .i64))))) x3 x4 x5 x6 x7 x8 x9).bind fun y28 =>
    some (((0 : Int), ()), ((y28.2.1.2.2.1.1, (y28.2.2.1, (y28.2.1.2.2.1.2.1, (y28.2.1.2.2.1.2.2.1, (y28.2.1.2.2.1.2.2.2.1, (y28.2.1.2.2.1.2.2.2.2.1, ())))))), ()), (y28.2.2.2.1, ()))
    else none)
  else
  bif (x1 == (11 : Int)) then
    (bif decide (0 ≤ (0 : Int) ∧ (0 : Int) ≤ (IntKind.wrap .i64 (((x4).length : Int) - (([(0 : Int), (0 : Int), (0 : Int), (1 : Int), (1 : Int), (2 : Int), (2 : Int), (1 : Int), (1 : Int), (1 : Int), (0 : Int), (1 : Int), (0 : Int), (0 : Int)]).getD (Int.toNat x1) (K.zero (.int .i64))))) ∧ (IntKind.wrap .i64 (((x4).length : Int) - (([(0 : Int), (0 : Int), (0 : Int), (1 : Int), (1 : Int), (2 : Int), (2 : Int), (1 : Int), (1 : Int), (1 : Int), (0 : Int), (1 : Int), (0 : Int), (0 : Int)]).getD (Int.toNat x1) (K.zero (.int .i64))))) ≤ ((x4).length : Int)) then
    bif ib (0 : Int) (y1.2.2.1).length then
    bif (((y1.2.2.1).getD (Int.toNat (0 : Int)) (K.zero (.int .i64))) == (0 : Int)) then
      (bif ib (0 : Int) (x2).length then
      some (((0 : Int), ()), ((((x2).getD (Int.toNat (0 : Int)) (K.zero (.int .i64))), (((x4).take (Int.toNat (IntKind.wrap .i64 (((x4).length : Int) - (([(0 : Int), (0 : Int), (0 : Int), (1 : Int), (1 : Int), (2 : Int), (2 : Int), (1 : Int), (1 : Int), (1 : Int), (0 : Int), (1 : Int), (0 : Int), (0 : Int)]).getD (Int.toNat x1) (K.zero (.int .i64))))))).drop (Int.toNat (0 : Int)), (x5, (x6, (x7, (x8, ())))))), ()), (x9, ()))
      else none)
    else
    some (((0 : Int), ()), ((x3, (((x4).take (Int.toNat (IntKind.wrap .i64 (((x4).length : Int) - (([(0 : Int), (0 : Int), (0 : Int), (1 : Int), (1 : Int), (2 : Int), (2 : Int), (1 : Int), (1 : Int), (1 : Int), (0 : Int), (1 : Int), (0 : Int), (0 : Int)]).getD (Int.toNat x1) (K.zero (.int .i64))))))).drop (Int.toNat (0 : Int)), (x5, (x6, (x7, (x8, ())))))), ()), (x9, ()))
    else none
    else none)
  else
  bif (x1 == (10 : Int)) then
    (bif ib (0 : Int) (x2).length then
    some (((0 : Int), ()), ((((x2).getD (Int.toNat (0 : Int)) (K.zero (.int .i64))), (x4, (x5, (x6, (x7, (x8, ())))))), ()), (x9, ()))
    else none)
  else
  bif (x1 == (12 : Int)) then
    (bif ib (0 : Int) (x2).length then
    (F_impl_SignOf x5 ((x2).getD (Int.toNat (0 : Int)) (K.zero (.int .i64)))).bind fun y29 =>
    some (((0 : Int), ()), ((x3, (x4, (y29.1.1, (x6, (x7, (x8, ())))))), ()), (x9, ()))
    else none)
  else
  bif (x1 == (13 : Int)) then
    (some (((0 : Int), ()), ((x3, (x4, (x5, (x6, (x7, (true, ())))))), ()), (x9, ())))
  else
  some (((0 : Int), ()), ((x3, (x4, (x5, (x6, (x7, (x8, ())))))), ()), (x9, ()))
  else none
  else none
noncomputable abbrev U_impl_StackMachine_do : sp_impl_StackMachine_do.T → Option sq_impl_StackMachine_do.T := fun x => F_impl_StackMachine_do x.1.1 x.1.2.1 x.2.1.1.1 x.2.1.1.2.1 x.2.1.1.2.2.1 x.2.1.1.2.2.2.1 x.2.1.1.2.2.2.2.1 x.2.1.1.2.2.2.2.2.1 x.2.2.1
theorem e_impl_StackMachine_do : ∀ x, evCode ty (gamOf g_impl_StackMachine_do) j_impl_StackMachine_do (lamOf []) b_impl_StackMachine_do (sp_impl_StackMachine_do.hd x) (finN ty sq_impl_StackMachine_do [.tmp 6]) = U_impl_StackMachine_do x := fun x => by kernel_rfl
theorem c_impl_StackMachine_do : FnS P 161 sp_impl_StackMachine_do sq_impl_StackMachine_do U_impl_StackMachine_do :=
  fnS_of_ev tyOk mixed gok_impl_StackMachine_do (fn := Tryz.f161) (by kernel_rfl) (c := b_impl_StackMachine_do) (by kernel_rfl) (by kernel_rfl) (by kernel_rfl) (lam_ok (tab := []) (by kernel_rfl) lm0) e_impl_StackMachine_do

/-! (*impl.StackMachine).step -/
abbrev sp_impl_StackMachine_step : Sp := ⟨71, [(0, .fix (.ptr 60000 0)), (1, .val false (.sl (.int .i64)))], [(60000, [.val (.int .i64), .val (.sl (.int .i64)), .fix (.own 63000), .val (.int .i64), .val (.int .i64), .val (.int .i64), .val .bool])], [(63000, (.int .i64), true)]⟩
abbrev sq_impl_StackMachine_step : Sp := ⟨0, [], [(60000, [.val (.int .i64), .val (.sl (.int .i64)), .fix (.own 59000), .val (.int .i64), .val (.int .i64), .val (.int .i64), .val .bool])], [(59000, (.int .i64), true)]⟩
noncomputable def g_impl_StackMachine_step : List (FuncId × SumX) := [(159, cN sp_impl_instruction_sm sq_impl_instruction_sm U_impl_instruction_sm), (161, xN sp_impl_StackMachine_do sq_impl_StackMachine_do U_impl_StackMachine_do)]
def j_impl_StackMachine_step : Nat → Option (List (Nat × SS)) := jOf [(0, [(18, .val false .bool)])]
theorem gok_impl_StackMachine_step : GOk P (gamOf g_impl_StackMachine_step) := gam_ok (tab := g_impl_StackMachine_step) (gm1 (cN_ok c_impl_instruction_sm rfl) (gm1 (xN_ok c_impl_StackMachine_do rfl) gm0))
noncomputable abbrev b_impl_StackMachine_step : Code := bodyOf Tryz.f140
noncomputable def F_impl_StackMachine_step (x1 : K.T (.sl (.int .i64))) (x2 : K.T (.int .i64)) (x3 : K.T (.sl (.int .i64))) (x4 : K.T (.int .i64)) (x5 : K.T (.int .i64)) (x6 : K.T (.int .i64)) (x7 : K.T .bool) (x8 : List (K.T (.int .i64))) : Option sq_impl_StackMachine_step.T :=
  (bif x7 then
      (some (true, ()))
    else
    some ((x6 != (0 : Int)), ())).bind fun y1 =>
  bif y1.1 then
    (some ((), ((x2, (x3, (x4, (x5, (x6, (x7, ())))))), ()), (x8, ())))
  else
  (F_impl_instruction_sm x1 x2).bind fun y2 =>
  bif (!y2.1.2.2.1) then
    (some ((), ((x2, (x3, (x4, ((mn (IntKind.wrap .i64 (x5 + (1 : Int))) (1000000 : Int)), ((1 : Int), (x7, ())))))), ()), (x8, ())))
  else
  (F_impl_StackMachine_do y2.1.1 y2.1.2.1 (IntKind.wrap .i64 ((IntKind.wrap .i64 (x2 + (1 : Int))) + ((y2.1.2.1).length : Int))) x3 x4 (mn (IntKind.wrap .i64 (x5 + (1 : Int))) (1000000 : Int)) x6 x7 x8).bind fun y3 =>
  bif (y3.1.1 != (0 : Int)) then
    (some ((), ((x2, (y3.2.1.1.2.1, (y3.2.1.1.2.2.1, (y3.2.1.1.2.2.2.1, (y3.1.1, (y3.2.1.1.2.2.2.2.2.1, ())))))), ()), (y3.2.2.1, ())))
  else
  some ((), ((y3.2.1.1.1, (y3.2.1.1.2.1, (y3.2.1.1.2.2.1, (y3.2.1.1.2.2.2.1, (y3.1.1, (y3.2.1.1.2.2.2.2.2.1, ())))))), ()), (y3.2.2.1, ()))
noncomputable abbrev U_impl_StackMachine_step : sp_impl_StackMachine_step.T → Option sq_impl_StackMachine_step.T := fun x => F_impl_StackMachine_step x.1.1 x.2.1.1.1 x.2.1.1.2.1 x.2.1.1.2.2.1 x.2.1.1.2.2.2.1 x.2.1.1.2.2.2.2.1 x.2.1.1.2.2.2.2.2.1 x.2.2.1
theorem e_impl_StackMachine_step : ∀ x, evCode ty (gamOf g_impl_StackMachine_step) j_impl_StackMachine_step (lamOf []) b_impl_StackMachine_step (sp_impl_StackMachine_step.hd x) (finN ty sq_impl_StackMachine_step []) = U_impl_StackMachine_step x := fun x => by kernel_rfl
theorem c_impl_StackMachine_step : FnS P 140 sp_impl_StackMachine_step sq_impl_StackMachine_step U_impl_StackMachine_step :=
  fnS_of_ev tyOk mixed gok_impl_StackMachine_step (fn := Tryz.f140) (by kernel_rfl) (c := b_impl_StackMachine_step) (by kernel_rfl) (by kernel_rfl) (by kernel_rfl) (lam_ok (tab := []) (by kernel_rfl) lm0) e_impl_StackMachine_step

/-! impl.RunStack -/
abbrev sp_impl_RunStack : Sp := ⟨52, [(0, .val false (.sl (.int .i64))), (1, .val false (.sl (.int .i64))), (2, .val false (.int .i64))], [], []⟩
abbrev sq_impl_RunStack : Sp := ⟨1, [(0, .mix true [.val (.int .i64), .val (.int .i64), .val (.sl (.int .i64)), .fix (.own 59000), .val (.int .i64), .val (.int .i64), .val (.int .i64), .val .bool])], [], [(59000, (.int .i64), true)]⟩
noncomputable def g_impl_RunStack : List (FuncId × SumX) := [(93, cN sp_impl_within sq_impl_within U_impl_within), (98, cN sp_impl_WordsFault sq_impl_WordsFault U_impl_WordsFault), (139, fN sp_impl_StartStack sq_impl_StartStack U_impl_StartStack), (140, xN sp_impl_StackMachine_step sq_impl_StackMachine_step U_impl_StackMachine_step)]
def j_impl_RunStack : Nat → Option (List (Nat × SS)) := jOf [(10, [(38, .val false .bool)])]
theorem gok_impl_RunStack : GOk P (gamOf g_impl_RunStack) := gam_ok (tab := g_impl_RunStack) (gm1 (cN_ok c_impl_within rfl) (gm1 (cN_ok c_impl_WordsFault rfl) (gm1 (fN_ok c_impl_StartStack rfl) (gm1 (xN_ok c_impl_StackMachine_step rfl) gm0))))
noncomputable abbrev b_impl_RunStack : Code := bodyOf Tryz.f104
abbrev sp_impl_RunStack_l10 : Sp := ⟨52, [(0, .val false (.sl (.int .i64))), (2, .val false (.int .i64)), (6, .fix (.ptr 59000 0)), (8, .fix (.ptr 59001 0)), (9, .fix (.ptr 59001 1))], [(59000, [.val (.int .i64), .val (.int .i64), .fix .nil, .fix .nil, .val (.int .i64), .val (.int .i64), .val (.int .i64), .val .bool]), (59001, [.val (.int .i64), .val (.int .i64), .val (.sl (.int .i64)), .fix (.own 59000), .val (.int .i64), .val (.int .i64), .val (.int .i64), .val .bool])], [(59000, (.int .i64), true)]⟩
abbrev xs_impl_RunStack_l10 : List (Ex × Sp) := [(.exit 0, ⟨52, [(6, .fix (.ptr 59000 0)), (8, .fix (.ptr 59001 0))], [(59000, [.val (.int .i64), .val (.int .i64), .fix .nil, .fix .nil, .val (.int .i64), .val (.int .i64), .val (.int .i64), .val .bool]), (59001, [.val (.int .i64), .val (.int .i64), .val (.sl (.int .i64)), .fix (.own 59000), .val (.int .i64), .val (.int .i64), .val (.int .i64), .val .bool])], [(59000, (.int .i64), true)]⟩)]
noncomputable def s_impl_RunStack_l10 : sp_impl_RunStack_l10.T → Option (sp_impl_RunStack_l10.T ⊕ XT xs_impl_RunStack_l10) := fun x =>
  (bif (!x.2.1.2.1.2.2.2.2.2.2.1) then
      (some ((x.2.1.2.1.2.2.2.2.2.1 == (0 : Int)), ()))
    else
    some (false, ())).bind fun y4 =>
  bif y4.1 then
    (bif (x.2.1.2.1.2.2.2.2.1 == x.1.2.1) then
      (some (.inr ((), ((x.2.1.1.1, (x.2.1.1.2.1, (x.2.1.1.2.2.1, (x.2.1.1.2.2.2.1, (x.2.1.1.2.2.2.2.1, (x.2.1.1.2.2.2.2.2.1, ())))))), ((x.2.1.2.1.1, (x.2.1.2.1.2.1, (x.2.1.2.1.2.2.1, (x.2.1.2.1.2.2.2.1, (x.2.1.2.1.2.2.2.2.1, ((2 : Int), (x.2.1.2.1.2.2.2.2.2.2.1, ()))))))), ())), (x.2.2.1, ()))))
    else
    (F_impl_StackMachine_step x.1.1 x.2.1.2.1.2.1 x.2.1.2.1.2.2.1 x.2.1.2.1.2.2.2.1 x.2.1.2.1.2.2.2.2.1 x.2.1.2.1.2.2.2.2.2.1 x.2.1.2.1.2.2.2.2.2.2.1 x.2.2.1).bind fun y5 =>
    some (.inl ((x.1.1, (x.1.2.1, ())), ((x.2.1.1.1, (x.2.1.1.2.1, (x.2.1.1.2.2.1, (x.2.1.1.2.2.2.1, (x.2.1.1.2.2.2.2.1, (x.2.1.1.2.2.2.2.2.1, ())))))), ((x.2.1.2.1.1, (y5.2.1.1.1, (y5.2.1.1.2.1, (y5.2.1.1.2.2.1, (y5.2.1.1.2.2.2.1, (y5.2.1.1.2.2.2.2.1, (y5.2.1.1.2.2.2.2.2.1, ()))))))), ())), (y5.2.2.1, ()))))
  else
  some (.inr ((), ((x.2.1.1.1, (x.2.1.1.2.1, (x.2.1.1.2.2.1, (x.2.1.1.2.2.2.1, (x.2.1.1.2.2.2.2.1, (x.2.1.1.2.2.2.2.2.1, ())))))), ((x.2.1.2.1.1, (x.2.1.2.1.2.1, (x.2.1.2.1.2.2.1, (x.2.1.2.1.2.2.2.1, (x.2.1.2.1.2.2.2.2.1, (x.2.1.2.1.2.2.2.2.2.1, (x.2.1.2.1.2.2.2.2.2.2.1, ()))))))), ())), (x.2.2.1, ())))
noncomputable def l_impl_RunStack_l10 : sp_impl_RunStack_l10.T → Option (XT xs_impl_RunStack_l10) := lim s_impl_RunStack_l10
theorem es_impl_RunStack_l10 : ∀ x, evCode ty (gamOf g_impl_RunStack) j_impl_RunStack (lamOf []) (loopAt b_impl_RunStack 10) (sp_impl_RunStack_l10.hd x) (rdK sp_impl_RunStack_l10 xs_impl_RunStack_l10) = s_impl_RunStack_l10 x := fun x => by kernel_rfl
theorem ls_impl_RunStack_l10 : LSumOk P (loopAt b_impl_RunStack 10) (loopL sp_impl_RunStack_l10 xs_impl_RunStack_l10 l_impl_RunStack_l10) := loop_ok tyOk mixed gok_impl_RunStack (by kernel_rfl) (by kernel_rfl) (lam_ok (tab := []) (by kernel_rfl) lm0) es_impl_RunStack_l10 lim_itr
noncomputable def F_impl_RunStack (x1 : K.T (.sl (.int .i64))) (x2 : K.T (.sl (.int .i64))) (x3 : K.T (.int .i64)) : Option sq_impl_RunStack.T :=
  (F_impl_WordsFault x1).bind fun y1 =>
  bif (y1.1.1 != (0 : Int)) then
    (some (((y1.1.1, ((0 : Int), ([], ((0 : Int), ((0 : Int), ((0 : Int), (false, ()))))))), ()), (), ([], ())))
  else
  (F_impl_StartStack x2).bind fun y2 =>
  bif (y2.1.1.1 != (0 : Int)) then
    (some (((y2.1.1.1, (y2.1.1.2.1, ([], (y2.1.1.2.2.1, (y2.1.1.2.2.2.1, (y2.1.1.2.2.2.2.1, (y2.1.1.2.2.2.2.2.1, ()))))))), ()), (), (y2.2.2.1, ())))
  else
  (F_impl_within x3 (0 : Int) (20000 : Int)).bind fun y3 =>
  bif (!y3.1.1) then
    (some ((((3 : Int), ((0 : Int), ([], ((0 : Int), ((0 : Int), ((0 : Int), (false, ()))))))), ()), (), ([], ())))
  else
  (l_impl_RunStack_l10 ((x1, (x3, ())), (((0 : Int), ((0 : Int), ((0 : Int), ((0 : Int), ((0 : Int), (false, ())))))), ((y2.1.1.1, (y2.1.1.2.1, ([], (y2.1.1.2.2.1, (y2.1.1.2.2.2.1, (y2.1.1.2.2.2.2.1, (y2.1.1.2.2.2.2.2.1, ()))))))), ())), (y2.2.2.1, ()))).bind fun y6 =>
  some (((y6.2.1.2.1.1, (y6.2.1.2.1.2.1, (y6.2.1.2.1.2.2.1, (y6.2.1.2.1.2.2.2.1, (y6.2.1.2.1.2.2.2.2.1, (y6.2.1.2.1.2.2.2.2.2.1, (y6.2.1.2.1.2.2.2.2.2.2.1, ()))))))), ()), (), (y6.2.2.1, ()))
noncomputable abbrev U_impl_RunStack : sp_impl_RunStack.T → Option sq_impl_RunStack.T := fun x => F_impl_RunStack x.1.1 x.1.2.1 x.1.2.2.1
theorem e_impl_RunStack : ∀ x, evCode ty (gamOf g_impl_RunStack) j_impl_RunStack (lamOf [(10, loopL sp_impl_RunStack_l10 xs_impl_RunStack_l10 l_impl_RunStack_l10)]) b_impl_RunStack (sp_impl_RunStack.hd x) (finN ty sq_impl_RunStack [.cell 6 137]) = U_impl_RunStack x := fun x => by kernel_rfl
theorem c_impl_RunStack : FnS P 104 sp_impl_RunStack sq_impl_RunStack U_impl_RunStack :=
  fnS_of_ev tyOk mixed gok_impl_RunStack (fn := Tryz.f104) (by kernel_rfl) (c := b_impl_RunStack) (by kernel_rfl) (by kernel_rfl) (by kernel_rfl) (lam_ok (tab := [(10, loopL sp_impl_RunStack_l10 xs_impl_RunStack_l10 l_impl_RunStack_l10)]) (by kernel_rfl) (lm1 @ls_impl_RunStack_l10 lm0)) e_impl_RunStack

/-! impl.Complement -/
abbrev sp_impl_Complement : Sp := ⟨6, [(0, .val false (.int .i64))], [], []⟩
abbrev sq_impl_Complement : Sp := ⟨1, [(0, .val false (.int .i64))], [], []⟩
noncomputable def g_impl_Complement : List (FuncId × SumX) := [(162, cN sp_impl_WordOf sq_impl_WordOf U_impl_WordOf)]
def j_impl_Complement : Nat → Option (List (Nat × SS)) := jOf []
theorem gok_impl_Complement : GOk P (gamOf g_impl_Complement) := gam_ok (tab := g_impl_Complement) (gm1 (cN_ok c_impl_WordOf rfl) gm0)
noncomputable abbrev b_impl_Complement : Code := bodyOf Tryz.f141
noncomputable def F_impl_Complement (x1 : K.T (.int .i64)) : Option sq_impl_Complement.T :=
  (F_impl_WordOf x1).bind fun y1 =>
  some (((IntKind.wrap .i64 ((65535 : Int) - y1.1.1)), ()), (), ())
noncomputable abbrev U_impl_Complement : sp_impl_Complement.T → Option sq_impl_Complement.T := fun x => F_impl_Complement x.1.1
theorem e_impl_Complement : ∀ x, evCode ty (gamOf g_impl_Complement) j_impl_Complement (lamOf []) b_impl_Complement (sp_impl_Complement.hd x) (finN ty sq_impl_Complement [.tmp 2]) = U_impl_Complement x := fun x => by kernel_rfl
theorem c_impl_Complement : FnS P 141 sp_impl_Complement sq_impl_Complement U_impl_Complement :=
  fnS_of_ev tyOk mixed gok_impl_Complement (fn := Tryz.f141) (by kernel_rfl) (c := b_impl_Complement) (by kernel_rfl) (by kernel_rfl) (by kernel_rfl) (lam_ok (tab := []) (by kernel_rfl) lm0) e_impl_Complement

/-! impl.inverted -/
abbrev sp_impl_inverted : Sp := ⟨20, [(0, .val false (.sl (.int .i64)))], [], []⟩
abbrev sq_impl_inverted : Sp := ⟨1, [(0, .fix (.own 59000))], [], [(59000, (.int .i64), true)]⟩
noncomputable def g_impl_inverted : List (FuncId × SumX) := [(141, cN sp_impl_Complement sq_impl_Complement U_impl_Complement)]
def j_impl_inverted : Nat → Option (List (Nat × SS)) := jOf []
theorem gok_impl_inverted : GOk P (gamOf g_impl_inverted) := gam_ok (tab := g_impl_inverted) (gm1 (cN_ok c_impl_Complement rfl) gm0)
noncomputable abbrev b_impl_inverted : Code := bodyOf Tryz.f105
abbrev sp_impl_inverted_l3 : Sp := ⟨20, [(3, .fix (.own 59000)), (7, .val false (.sl (.int .i64))), (8, .val false (.int .i64)), (9, .val false (.int .i64))], [], [(59000, (.int .i64), true)]⟩
abbrev xs_impl_inverted_l3 : List (Ex × Sp) := [(.exit 0, ⟨20, [(3, .fix (.own 59000))], [], [(59000, (.int .i64), true)]⟩)]
noncomputable def s_impl_inverted_l3 : sp_impl_inverted_l3.T → Option (sp_impl_inverted_l3.T ⊕ XT xs_impl_inverted_l3) := fun x =>
  bif (decide (x.1.2.2.1 < x.1.2.1)) then
    (bif ib x.1.2.2.1 (x.1.1).length then
    (F_impl_Complement ((x.1.1).getD (Int.toNat x.1.2.2.1) (K.zero (.int .i64)))).bind fun y1 =>
    bif room (x.2.2.1 ++ [y1.1.1]).length 8 then
    some (.inl ((x.1.1, (x.1.2.1, ((IntKind.wrap .i64 (x.1.2.2.1 + (1 : Int))), ()))), (), ((x.2.2.1 ++ [y1.1.1]), ())))
    else none
    else none)
  else
  some (.inr ((), (), (x.2.2.1, ())))
noncomputable def l_impl_inverted_l3 : sp_impl_inverted_l3.T → Option (XT xs_impl_inverted_l3) := lim s_impl_inverted_l3
theorem es_impl_inverted_l3 : ∀ x, evCode ty (gamOf g_impl_inverted) j_impl_inverted (lamOf []) (loopAt b_impl_inverted 3) (sp_impl_inverted_l3.hd x) (rdK sp_impl_inverted_l3 xs_impl_inverted_l3) = s_impl_inverted_l3 x := fun x => by kernel_rfl
theorem ls_impl_inverted_l3 : LSumOk P (loopAt b_impl_inverted 3) (loopL sp_impl_inverted_l3 xs_impl_inverted_l3 l_impl_inverted_l3) := loop_ok tyOk mixed gok_impl_inverted (by kernel_rfl) (by kernel_rfl) (lam_ok (tab := []) (by kernel_rfl) lm0) es_impl_inverted_l3 lim_itr
noncomputable def F_impl_inverted (x1 : K.T (.sl (.int .i64))) : Option sq_impl_inverted.T :=
  (l_impl_inverted_l3 ((x1, (((x1).length : Int), ((0 : Int), ()))), (), ([], ()))).bind fun y2 =>
  some ((), (), (y2.2.2.1, ()))
noncomputable abbrev U_impl_inverted : sp_impl_inverted.T → Option sq_impl_inverted.T := fun x => F_impl_inverted x.1.1
theorem e_impl_inverted : ∀ x, evCode ty (gamOf g_impl_inverted) j_impl_inverted (lamOf [(3, loopL sp_impl_inverted_l3 xs_impl_inverted_l3 l_impl_inverted_l3)]) b_impl_inverted (sp_impl_inverted.hd x) (finN ty sq_impl_inverted [.tmp 2]) = U_impl_inverted x := fun x => by kernel_rfl
theorem c_impl_inverted : FnS P 105 sp_impl_inverted sq_impl_inverted U_impl_inverted :=
  fnS_of_ev tyOk mixed gok_impl_inverted (fn := Tryz.f105) (by kernel_rfl) (c := b_impl_inverted) (by kernel_rfl) (by kernel_rfl) (by kernel_rfl) (lam_ok (tab := [(3, loopL sp_impl_inverted_l3 xs_impl_inverted_l3 l_impl_inverted_l3)]) (by kernel_rfl) (lm1 @ls_impl_inverted_l3 lm0)) e_impl_inverted

/-! math/bits.Mul64 -/
abbrev sp_bits_Mul64 : Sp := ⟨51, [(0, .val false (.int .u64)), (1, .val false (.int .u64))], [], []⟩
abbrev sq_bits_Mul64 : Sp := ⟨2, [(0, .val false (.int .u64)), (1, .val false (.int .u64))], [], []⟩
noncomputable def g_bits_Mul64 : List (FuncId × SumX) := []
def j_bits_Mul64 : Nat → Option (List (Nat × SS)) := jOf []
theorem gok_bits_Mul64 : GOk P (gamOf g_bits_Mul64) := gam_ok (tab := g_bits_Mul64) gm0
noncomputable abbrev b_bits_Mul64 : Code := bodyOf Tryz.f195
noncomputable def F_bits_Mul64 (x1 : K.T (.int .u64)) (x2 : K.T (.int .u64)) : Option sq_bits_Mul64.T :=
  some (((IntKind.wrap .u64 ((IntKind.wrap .u64 ((IntKind.wrap .u64 ((Int.fdiv x1 (2 ^ min (Int.toNat (32 : Int)) (IntKind.bits .u64))) * (Int.fdiv x2 (2 ^ min (Int.toNat (32 : Int)) (IntKind.bits .u64))))) + (Int.fdiv (IntKind.wrap .u64 ((IntKind.wrap .u64 ((Int.fdiv x1 (2 ^ min (Int.toNat (32 : Int)) (IntKind.bits .u64))) * (IntKind.wrap .u64 (((BitVec.ofInt (IntKind.bits .u64) x2 &&& BitVec.ofInt (IntKind.bits .u64) (4294967295 : Int)).toNat : Int))))) + (Int.fdiv (IntKind.wrap .u64 ((IntKind.wrap .u64 (((BitVec.ofInt (IntKind.bits .u64) x1 &&& BitVec.ofInt (IntKind.bits .u64) (4294967295 : Int)).toNat : Int))) * (IntKind.wrap .u64 (((BitVec.ofInt (IntKind.bits .u64) x2 &&& BitVec.ofInt (IntKind.bits .u64) (4294967295 : Int)).toNat : Int))))) (2 ^ min (Int.toNat (32 : Int)) (IntKind.bits .u64))))) (2 ^ min (Int.toNat (32 : Int)) (IntKind.bits .u64))))) + (Int.fdiv (IntKind.wrap .u64 ((IntKind.wrap .u64 (((BitVec.ofInt (IntKind.bits .u64) (IntKind.wrap .u64 ((IntKind.wrap .u64 ((Int.fdiv x1 (2 ^ min (Int.toNat (32 : Int)) (IntKind.bits .u64))) * (IntKind.wrap .u64 (((BitVec.ofInt (IntKind.bits .u64) x2 &&& BitVec.ofInt (IntKind.bits .u64) (4294967295 : Int)).toNat : Int))))) + (Int.fdiv (IntKind.wrap .u64 ((IntKind.wrap .u64 (((BitVec.ofInt (IntKind.bits .u64) x1 &&& BitVec.ofInt (IntKind.bits .u64) (4294967295 : Int)).toNat : Int))) * (IntKind.wrap .u64 (((BitVec.ofInt (IntKind.bits .u64) x2 &&& BitVec.ofInt (IntKind.bits .u64) (4294967295 : Int)).toNat : Int))))) (2 ^ min (Int.toNat (32 : Int)) (IntKind.bits .u64))))) &&& BitVec.ofInt (IntKind.bits .u64) (4294967295 : Int)).toNat : Int))) + (IntKind.wrap .u64 ((IntKind.wrap .u64 (((BitVec.ofInt (IntKind.bits .u64) x1 &&& BitVec.ofInt (IntKind.bits .u64) (4294967295 : Int)).toNat : Int))) * (Int.fdiv x2 (2 ^ min (Int.toNat (32 : Int)) (IntKind.bits .u64))))))) (2 ^ min (Int.toNat (32 : Int)) (IntKind.bits .u64))))), ((IntKind.wrap .u64 (x1 * x2)), ())), (), ())
noncomputable abbrev U_bits_Mul64 : sp_bits_Mul64.T → Option sq_bits_Mul64.T := fun x => F_bits_Mul64 x.1.1 x.1.2.1
theorem e_bits_Mul64 : ∀ x, evCode ty (gamOf g_bits_Mul64) j_bits_Mul64 (lamOf []) b_bits_Mul64 (sp_bits_Mul64.hd x) (finN ty sq_bits_Mul64 [.tmp 4, .tmp 5]) = U_bits_Mul64 x := fun x => by kernel_rfl
theorem c_bits_Mul64 : FnS P 195 sp_bits_Mul64 sq_bits_Mul64 U_bits_Mul64 :=
  fnS_of_ev tyOk mixed gok_bits_Mul64 (fn := Tryz.f195) (by kernel_rfl) (c := b_bits_Mul64) (by kernel_rfl) (by kernel_rfl) (by kernel_rfl) (lam_ok (tab := []) (by kernel_rfl) lm0) e_bits_Mul64

/-! math/bits.Mul -/
abbrev sp_bits_Mul : Sp := ⟨30, [(0, .val false (.int .u64)), (1, .val false (.int .u64))], [], []⟩
abbrev sq_bits_Mul : Sp := ⟨2, [(0, .val false (.int .u64)), (1, .val false (.int .u64))], [], []⟩
noncomputable def g_bits_Mul : List (FuncId × SumX) := [(195, cN sp_bits_Mul64 sq_bits_Mul64 U_bits_Mul64)]
def j_bits_Mul : Nat → Option (List (Nat × SS)) := jOf []
theorem gok_bits_Mul : GOk P (gamOf g_bits_Mul) := gam_ok (tab := g_bits_Mul) (gm1 (cN_ok c_bits_Mul64 rfl) gm0)
noncomputable abbrev b_bits_Mul : Code := bodyOf Tryz.f187
noncomputable def F_bits_Mul (x1 : K.T (.int .u64)) (x2 : K.T (.int .u64)) : Option sq_bits_Mul.T :=
  (F_bits_Mul64 x1 x2).bind fun y1 =>
  some ((y1.1.1, (y1.1.2.1, ())), (), ())
noncomputable abbrev U_bits_Mul : sp_bits_Mul.T → Option sq_bits_Mul.T := fun x => F_bits_Mul x.1.1 x.1.2.1
theorem e_bits_Mul : ∀ x, evCode ty (gamOf g_bits_Mul) j_bits_Mul (lamOf []) b_bits_Mul (sp_bits_Mul.hd x) (finN ty sq_bits_Mul [.tmp 4, .tmp 5]) = U_bits_Mul x := fun x => by kernel_rfl
theorem c_bits_Mul : FnS P 187 sp_bits_Mul sq_bits_Mul U_bits_Mul :=
  fnS_of_ev tyOk mixed gok_bits_Mul (fn := Tryz.f187) (by kernel_rfl) (c := b_bits_Mul) (by kernel_rfl) (by kernel_rfl) (by kernel_rfl) (lam_ok (tab := []) (by kernel_rfl) lm0) e_bits_Mul

/-! slices.Repeat[[]int64,int64] -/
abbrev sp_slices_Repeat_int64 : Sp := ⟨48, [(0, .val false (.sl (.int .i64))), (1, .val false (.int .i64))], [], []⟩
abbrev sq_slices_Repeat_int64 : Sp := ⟨1, [(0, .fix (.own 59000))], [], [(59000, (.int .i64), true)]⟩
noncomputable def g_slices_Repeat_int64 : List (FuncId × SumX) := [(187, cN sp_bits_Mul sq_bits_Mul U_bits_Mul)]
def j_slices_Repeat_int64 : Nat → Option (List (Nat × SS)) := jOf [(4, [(26, .val false .bool)])]
theorem gok_slices_Repeat_int64 : GOk P (gamOf g_slices_Repeat_int64) := gam_ok (tab := g_slices_Repeat_int64) (gm1 (cN_ok c_bits_Mul rfl) gm0)
noncomputable abbrev b_slices_Repeat_int64 : Code := bodyOf Tryz.f163
abbrev sp_slices_Repeat_int64_l8 : Sp := ⟨48, [(7, .fix (.own 59000)), (8, .val false (.int .i64))], [], [(59000, (.int .i64), true)]⟩
abbrev xs_slices_Repeat_int64_l8 : List (Ex × Sp) := [(.exit 0, ⟨48, [(7, .fix (.own 59000))], [], [(59000, (.int .i64), true)]⟩)]
noncomputable def s_slices_Repeat_int64_l8 : sp_slices_Repeat_int64_l8.T → Option (sp_slices_Repeat_int64_l8.T ⊕ XT xs_slices_Repeat_int64_l8) := fun x =>
  bif (decide (x.1.1 < ((x.2.2.1).length : Int))) then
    (bif decide (0 ≤ x.1.1 ∧ x.1.1 ≤ ((x.2.2.1).length : Int) ∧ ((x.2.2.1).length : Int) ≤ ((x.2.2.1).length : Int)) then
    bif decide (0 ≤ (0 : Int) ∧ (0 : Int) ≤ x.1.1 ∧ x.1.1 ≤ ((x.2.2.1).length : Int)) then
    some (.inl (((IntKind.wrap .i64 (x.1.1 + ((Nat.min (((x.2.2.1).drop (Int.toNat (0 : Int))).take (Int.toNat x.1.1 - Int.toNat (0 : Int))).length (Int.toNat ((x.2.2.1).length : Int) - Int.toNat x.1.1) : Nat) : Int))), ()), (), ((splice x.2.2.1 (Int.toNat x.1.1) ((((x.2.2.1).drop (Int.toNat (0 : Int))).take (Int.toNat x.1.1 - Int.toNat (0 : Int))).take (Int.toNat ((x.2.2.1).length : Int) - Int.toNat x.1.1))), ())))
    else none
    else none)
  else
  some (.inr ((), (), (x.2.2.1, ())))
noncomputable def l_slices_Repeat_int64_l8 : sp_slices_Repeat_int64_l8.T → Option (XT xs_slices_Repeat_int64_l8) := lim s_slices_Repeat_int64_l8
theorem es_slices_Repeat_int64_l8 : ∀ x, evCode ty (gamOf g_slices_Repeat_int64) j_slices_Repeat_int64 (lamOf []) (loopAt b_slices_Repeat_int64 8) (sp_slices_Repeat_int64_l8.hd x) (rdK sp_slices_Repeat_int64_l8 xs_slices_Repeat_int64_l8) = s_slices_Repeat_int64_l8 x := fun x => by kernel_rfl
theorem ls_slices_Repeat_int64_l8 : LSumOk P (loopAt b_slices_Repeat_int64 8) (loopL sp_slices_Repeat_int64_l8 xs_slices_Repeat_int64_l8 l_slices_Repeat_int64_l8) := loop_ok tyOk mixed gok_slices_Repeat_int64 (by kernel_rfl) (by kernel_rfl) (lam_ok (tab := []) (by kernel_rfl) lm0) es_slices_Repeat_int64_l8 lim_itr
noncomputable def F_slices_Repeat_int64 (x1 : K.T (.sl (.int .i64))) (x2 : K.T (.int .i64)) : Option sq_slices_Repeat_int64.T :=
  bif (decide (x2 < (0 : Int))) then none else
  (F_bits_Mul (IntKind.wrap .u64 ((x1).length : Int)) (IntKind.wrap .u64 x2)).bind fun y1 =>
  (bif (decide (y1.1.1 > (0 : Int))) then
      (some (true, ()))
    else
    some ((decide (y1.1.2.1 > (9223372036854775807 : Int))), ())).bind fun y2 =>
  bif y2.1 then none else
  bif decide (0 ≤ (IntKind.wrap .i64 y1.1.2.1) ∧ (IntKind.wrap .i64 y1.1.2.1) ≤ (IntKind.wrap .i64 y1.1.2.1)) then
  bif room (Int.toNat (IntKind.wrap .i64 y1.1.2.1)) 8 then
  (l_slices_Repeat_int64_l8 ((((Nat.min (x1).length (((List.replicate (Int.toNat (IntKind.wrap .i64 y1.1.2.1)) (K.zero (.int .i64)))).length) : Nat) : Int), ()), (), ((splice (List.replicate (Int.toNat (IntKind.wrap .i64 y1.1.2.1)) (K.zero (.int .i64))) 0 ((x1).take (((List.replicate (Int.toNat (IntKind.wrap .i64 y1.1.2.1)) (K.zero (.int .i64)))).length))), ()))).bind fun y3 =>
  some ((), (), (y3.2.2.1, ()))
  else none
  else none
noncomputable abbrev U_slices_Repeat_int64 : sp_slices_Repeat_int64.T → Option sq_slices_Repeat_int64.T := fun x => F_slices_Repeat_int64 x.1.1 x.1.2.1
theorem e_slices_Repeat_int64 : ∀ x, evCode ty (gamOf g_slices_Repeat_int64) j_slices_Repeat_int64 (lamOf [(8, loopL sp_slices_Repeat_int64_l8 xs_slices_Repeat_int64_l8 l_slices_Repeat_int64_l8)]) b_slices_Repeat_int64 (sp_slices_Repeat_int64.hd x) (finN ty sq_slices_Repeat_int64 [.tmp 4]) = U_slices_Repeat_int64 x := fun x => by kernel_rfl
theorem c_slices_Repeat_int64 : FnS P 163 sp_slices_Repeat_int64 sq_slices_Repeat_int64 U_slices_Repeat_int64 :=
  fnS_of_ev tyOk mixed gok_slices_Repeat_int64 (fn := Tryz.f163) (by kernel_rfl) (c := b_slices_Repeat_int64) (by kernel_rfl) (by kernel_rfl) (by kernel_rfl) (lam_ok (tab := [(8, loopL sp_slices_Repeat_int64_l8 xs_slices_Repeat_int64_l8 l_slices_Repeat_int64_l8)]) (by kernel_rfl) (lm1 @ls_slices_Repeat_int64_l8 lm0)) e_slices_Repeat_int64

/-! impl.RegFault -/
abbrev sp_impl_RegFault : Sp := ⟨48, [(0, .val true k14)], [], []⟩
abbrev sq_impl_RegFault : Sp := ⟨1, [(0, .val false (.int .i64))], [], []⟩
noncomputable def g_impl_RegFault : List (FuncId × SumX) := [(50, cN sp_impl_areWords sq_impl_areWords U_impl_areWords), (93, cN sp_impl_within sq_impl_within U_impl_within), (101, cN sp_impl_isWord sq_impl_isWord U_impl_isWord)]
def j_impl_RegFault : Nat → Option (List (Nat × SS)) := jOf [(1, [(3, .val false .bool)])]
theorem gok_impl_RegFault : GOk P (gamOf g_impl_RegFault) := gam_ok (tab := g_impl_RegFault) (gm1 (cN_ok c_impl_areWords rfl) (gm1 (cN_ok c_impl_within rfl) (gm1 (cN_ok c_impl_isWord rfl) gm0)))
noncomputable abbrev b_impl_RegFault : Code := bodyOf Tryz.f164
noncomputable def F_impl_RegFault (x1 : K.T k14) : Option sq_impl_RegFault.T :=
  ((F_impl_isWord x1.1).bind fun y1 =>
    bif (!y1.1.1) then
      (some (true, ()))
    else
    (F_impl_isWord x1.2.2.2.1).bind fun y2 =>
    bif (!y2.1.1) then
      (some (true, ()))
    else
    (F_impl_areWords x1.2.1).bind fun y3 =>
    bif (!y3.1.1) then
      (some (true, ()))
    else
    (F_impl_areWords x1.2.2.1).bind fun y4 =>
    bif (!y4.1.1) then
      (some (true, ()))
    else
    (F_impl_within x1.2.2.2.2.1 (0 : Int) (1000000 : Int)).bind fun y5 =>
    bif (!y5.1.1) then
      (some (true, ()))
    else
    (F_impl_within x1.2.2.2.2.2.1 (0 : Int) (10 : Int)).bind fun y6 =>
    some ((!y6.1.1), ())).bind fun y7 =>
  bif y7.1 then
    (some (((3 : Int), ()), (), ()))
  else
  bif (((x1.2.1).length : Int) != (24 : Int)) then
    (some (((1 : Int), ()), (), ()))
  else
  bif (decide (((x1.2.2.1).length : Int) > (80 : Int))) then
    (some (((2 : Int), ()), (), ()))
  else
  some (((0 : Int), ()), (), ())
noncomputable abbrev U_impl_RegFault : sp_impl_RegFault.T → Option sq_impl_RegFault.T := fun x => F_impl_RegFault x.1.1
theorem e_impl_RegFault : ∀ x, evCode ty (gamOf g_impl_RegFault) j_impl_RegFault (lamOf []) b_impl_RegFault (sp_impl_RegFault.hd x) (finN ty sq_impl_RegFault [.tmp 2]) = U_impl_RegFault x := fun x => by kernel_rfl
theorem c_impl_RegFault : FnS P 164 sp_impl_RegFault sq_impl_RegFault U_impl_RegFault :=
  fnS_of_ev tyOk mixed gok_impl_RegFault (fn := Tryz.f164) (by kernel_rfl) (c := b_impl_RegFault) (by kernel_rfl) (by kernel_rfl) (by kernel_rfl) (lam_ok (tab := []) (by kernel_rfl) lm0) e_impl_RegFault

/-! impl.StartRegs -/
abbrev sp_impl_StartRegs : Sp := ⟨18, [(0, .val false (.sl (.int .i64)))], [], []⟩
abbrev sq_impl_StartRegs : Sp := ⟨1, [(0, .mix true [.val (.int .i64), .val (.int .i64), .fix (.own 59000), .fix (.own 59001), .val (.int .i64), .val (.int .i64), .val (.int .i64), .val .bool])], [], [(59000, (.int .i64), true), (59001, (.int .i64), true)]⟩
noncomputable def g_impl_StartRegs : List (FuncId × SumX) := [(72, fN sp_slices_Clone_int64 sq_slices_Clone_int64 U_slices_Clone_int64), (163, fN sp_slices_Repeat_int64 sq_slices_Repeat_int64 U_slices_Repeat_int64), (164, cN sp_impl_RegFault sq_impl_RegFault U_impl_RegFault)]
def j_impl_StartRegs : Nat → Option (List (Nat × SS)) := jOf []
theorem gok_impl_StartRegs : GOk P (gamOf g_impl_StartRegs) := gam_ok (tab := g_impl_StartRegs) (gm1 (fN_ok c_slices_Clone_int64 rfl) (gm1 (fN_ok c_slices_Repeat_int64 rfl) (gm1 (cN_ok c_impl_RegFault rfl) gm0)))
noncomputable abbrev b_impl_StartRegs : Code := bodyOf Tryz.f142
noncomputable def F_impl_StartRegs (x1 : K.T (.sl (.int .i64))) : Option sq_impl_StartRegs.T :=
  (F_slices_Clone_int64 x1).bind fun y1 =>
  (F_slices_Repeat_int64 [(65535 : Int)] (24 : Int)).bind fun y2 =>
  (F_impl_RegFault ((0 : Int), (y2.2.2.1, (y1.2.2.1, ((0 : Int), ((0 : Int), ((0 : Int), false))))))).bind fun y3 =>
  bif (y3.1.1 != (0 : Int)) then
    (some (((y3.1.1, ((0 : Int), ((0 : Int), ((0 : Int), ((0 : Int), (false, ())))))), ()), (), ([], ([], ()))))
  else
  some ((((0 : Int), ((0 : Int), ((0 : Int), ((0 : Int), ((0 : Int), (false, ())))))), ()), (), (y2.2.2.1, (y1.2.2.1, ())))
noncomputable abbrev U_impl_StartRegs : sp_impl_StartRegs.T → Option sq_impl_StartRegs.T := fun x => F_impl_StartRegs x.1.1
theorem e_impl_StartRegs : ∀ x, evCode ty (gamOf g_impl_StartRegs) j_impl_StartRegs (lamOf []) b_impl_StartRegs (sp_impl_StartRegs.hd x) (finN ty sq_impl_StartRegs [.cell 2 140]) = U_impl_StartRegs x := fun x => by kernel_rfl
theorem c_impl_StartRegs : FnS P 142 sp_impl_StartRegs sq_impl_StartRegs U_impl_StartRegs :=
  fnS_of_ev tyOk mixed gok_impl_StartRegs (fn := Tryz.f142) (by kernel_rfl) (c := b_impl_StartRegs) (by kernel_rfl) (by kernel_rfl) (by kernel_rfl) (lam_ok (tab := []) (by kernel_rfl) lm0) e_impl_StartRegs

/-! impl.ArgsOfRegs -/
abbrev sp_impl_ArgsOfRegs : Sp := ⟨12, [(0, .val false (.int .i64))], [], []⟩
abbrev sq_impl_ArgsOfRegs : Sp := ⟨1, [(0, .val true k1)], [], []⟩
noncomputable def g_impl_ArgsOfRegs : List (FuncId × SumX) := [(93, cN sp_impl_within sq_impl_within U_impl_within)]
def j_impl_ArgsOfRegs : Nat → Option (List (Nat × SS)) := jOf []
theorem gok_impl_ArgsOfRegs : GOk P (gamOf g_impl_ArgsOfRegs) := gam_ok (tab := g_impl_ArgsOfRegs) (gm1 (cN_ok c_impl_within rfl) gm0)
noncomputable abbrev b_impl_ArgsOfRegs : Code := bodyOf Tryz.f165
noncomputable def F_impl_ArgsOfRegs (x1 : K.T (.int .i64)) : Option sq_impl_ArgsOfRegs.T :=
  (F_impl_within x1 (1 : Int) (13 : Int)).bind fun y1 =>
  bif (!y1.1.1) then
    (some ((((3 : Int), (0 : Int)), ()), (), ()))
  else
  bif ib x1 ([(0 : Int), (2 : Int), (2 : Int), (2 : Int), (4 : Int), (4 : Int), (4 : Int), (2 : Int), (2 : Int), (1 : Int), (1 : Int), (2 : Int), (1 : Int), (0 : Int)]).length then
  some ((((0 : Int), (([(0 : Int), (2 : Int), (2 : Int), (2 : Int), (4 : Int), (4 : Int), (4 : Int), (2 : Int), (2 : Int), (1 : Int), (1 : Int), (2 : Int), (1 : Int), (0 : Int)]).getD (Int.toNat x1) (K.zero (.int .i64)))), ()), (), ())
  else none
noncomputable abbrev U_impl_ArgsOfRegs : sp_impl_ArgsOfRegs.T → Option sq_impl_ArgsOfRegs.T := fun x => F_impl_ArgsOfRegs x.1.1
theorem e_impl_ArgsOfRegs : ∀ x, evCode ty (gamOf g_impl_ArgsOfRegs) j_impl_ArgsOfRegs (lamOf []) b_impl_ArgsOfRegs (sp_impl_ArgsOfRegs.hd x) (finN ty sq_impl_ArgsOfRegs [.cell 2 199]) = U_impl_ArgsOfRegs x := fun x => by kernel_rfl
theorem c_impl_ArgsOfRegs : FnS P 165 sp_impl_ArgsOfRegs sq_impl_ArgsOfRegs U_impl_ArgsOfRegs :=
  fnS_of_ev tyOk mixed gok_impl_ArgsOfRegs (fn := Tryz.f165) (by kernel_rfl) (c := b_impl_ArgsOfRegs) (by kernel_rfl) (by kernel_rfl) (by kernel_rfl) (lam_ok (tab := []) (by kernel_rfl) lm0) e_impl_ArgsOfRegs

/-! impl.instruction -/
abbrev sp_impl_instruction_rm : Sp := ⟨45, [(0, .val false (.sl (.int .i64))), (1, .val false (.int .i64)), (2, .fix (.fn 165 []))], [], []⟩
abbrev sq_impl_instruction_rm : Sp := ⟨3, [(0, .val false (.int .i64)), (1, .val false (.sl (.int .i64))), (2, .val false .bool)], [], []⟩
noncomputable def g_impl_instruction_rm : List (FuncId × SumX) := [(165, cN sp_impl_ArgsOfRegs sq_impl_ArgsOfRegs U_impl_ArgsOfRegs)]
def j_impl_instruction_rm : Nat → Option (List (Nat × SS)) := jOf [(4, [(31, .val false .bool)])]
theorem gok_impl_instruction_rm : GOk P (gamOf g_impl_instruction_rm) := gam_ok (tab := g_impl_instruction_rm) (gm1 (cN_ok c_impl_ArgsOfRegs rfl) gm0)
noncomputable abbrev b_impl_instruction_rm : Code := bodyOf Tryz.f159
noncomputable def F_impl_instruction_rm (x1 : K.T (.sl (.int .i64))) (x2 : K.T (.int .i64)) : Option sq_impl_instruction_rm.T :=
  bif (decide (x2 ≥ ((x1).length : Int))) then
    (some (((0 : Int), ([], (false, ()))), (), ()))
  else
  bif ib x2 (x1).length then
  (F_impl_ArgsOfRegs ((x1).getD (Int.toNat x2) (K.zero (.int .i64)))).bind fun y1 =>
  (bif (y1.1.1.1 != (0 : Int)) then
      (some (true, ()))
    else
    some ((decide ((IntKind.wrap .i64 (x2 + y1.1.1.2)) ≥ ((x1).length : Int))), ())).bind fun y2 =>
  bif y2.1 then
    (some (((0 : Int), ([], (false, ()))), (), ()))
  else
  bif ib x2 (x1).length then
  bif decide (0 ≤ (IntKind.wrap .i64 (x2 + (1 : Int))) ∧ (IntKind.wrap .i64 (x2 + (1 : Int))) ≤ (IntKind.wrap .i64 ((IntKind.wrap .i64 (x2 + (1 : Int))) + y1.1.1.2)) ∧ (IntKind.wrap .i64 ((IntKind.wrap .i64 (x2 + (1 : Int))) + y1.1.1.2)) ≤ ((x1).length : Int)) then
  some ((((x1).getD (Int.toNat x2) (K.zero (.int .i64))), (((x1).take (Int.toNat (IntKind.wrap .i64 ((IntKind.wrap .i64 (x2 + (1 : Int))) + y1.1.1.2)))).drop (Int.toNat (IntKind.wrap .i64 (x2 + (1 : Int)))), (true, ()))), (), ())
  else none
  else none
  else none
noncomputable abbrev U_impl_instruction_rm : sp_impl_instruction_rm.T → Option sq_impl_instruction_rm.T := fun x => F_impl_instruction_rm x.1.1 x.1.2.1
theorem e_impl_instruction_rm : ∀ x, evCode ty (gamOf g_impl_instruction_rm) j_impl_instruction_rm (lamOf []) b_impl_instruction_rm (sp_impl_instruction_rm.hd x) (finN ty sq_impl_instruction_rm [.tmp 6, .tmp 7, .tmp 8]) = U_impl_instruction_rm x := fun x => by kernel_rfl
theorem c_impl_instruction_rm : FnS P 159 sp_impl_instruction_rm sq_impl_instruction_rm U_impl_instruction_rm :=
  fnS_of_ev tyOk mixed gok_impl_instruction_rm (fn := Tryz.f159) (by kernel_rfl) (c := b_impl_instruction_rm) (by kernel_rfl) (by kernel_rfl) (by kernel_rfl) (lam_ok (tab := []) (by kernel_rfl) lm0) e_impl_instruction_rm

/-! (*impl.RegMachine).do$1 -/
abbrev sp_impl_RegMachine_do_f1 : Sp := ⟨5, [(0, .val false (.int .i64))], [], []⟩
abbrev sq_impl_RegMachine_do_f1 : Sp := ⟨1, [(0, .val false .bool)], [], []⟩
noncomputable def g_impl_RegMachine_do_f1 : List (FuncId × SumX) := []
def j_impl_RegMachine_do_f1 : Nat → Option (List (Nat × SS)) := jOf []
theorem gok_impl_RegMachine_do_f1 : GOk P (gamOf g_impl_RegMachine_do_f1) := gam_ok (tab := g_impl_RegMachine_do_f1) gm0
noncomputable abbrev b_impl_RegMachine_do_f1 : Code := bodyOf Tryz.f189
noncomputable def F_impl_RegMachine_do_f1 (x1 : K.T (.int .i64)) : Option sq_impl_RegMachine_do_f1.T :=
  some (((decide (x1 ≥ (24 : Int))), ()), (), ())
noncomputable abbrev U_impl_RegMachine_do_f1 : sp_impl_RegMachine_do_f1.T → Option sq_impl_RegMachine_do_f1.T := fun x => F_impl_RegMachine_do_f1 x.1.1
theorem e_impl_RegMachine_do_f1 : ∀ x, evCode ty (gamOf g_impl_RegMachine_do_f1) j_impl_RegMachine_do_f1 (lamOf []) b_impl_RegMachine_do_f1 (sp_impl_RegMachine_do_f1.hd x) (finN ty sq_impl_RegMachine_do_f1 [.tmp 2]) = U_impl_RegMachine_do_f1 x := fun x => by kernel_rfl
theorem c_impl_RegMachine_do_f1 : FnS P 189 sp_impl_RegMachine_do_f1 sq_impl_RegMachine_do_f1 U_impl_RegMachine_do_f1 :=
  fnS_of_ev tyOk mixed gok_impl_RegMachine_do_f1 (fn := Tryz.f189) (by kernel_rfl) (c := b_impl_RegMachine_do_f1) (by kernel_rfl) (by kernel_rfl) (by kernel_rfl) (lam_ok (tab := []) (by kernel_rfl) lm0) e_impl_RegMachine_do_f1

/-! slices.IndexFunc[[]int64,int64] -/
abbrev sp_slices_IndexFunc_int64_rm : Sp := ⟨19, [(0, .val false (.sl (.int .i64))), (1, .fix (.fn 189 []))], [], []⟩
abbrev sq_slices_IndexFunc_int64_rm : Sp := ⟨1, [(0, .val false (.int .i64))], [], []⟩
noncomputable def g_slices_IndexFunc_int64_rm : List (FuncId × SumX) := [(189, cN sp_impl_RegMachine_do_f1 sq_impl_RegMachine_do_f1 U_impl_RegMachine_do_f1)]
def j_slices_IndexFunc_int64_rm : Nat → Option (List (Nat × SS)) := jOf []
theorem gok_slices_IndexFunc_int64_rm : GOk P (gamOf g_slices_IndexFunc_int64_rm) := gam_ok (tab := g_slices_IndexFunc_int64_rm) (gm1 (cN_ok c_impl_RegMachine_do_f1 rfl) gm0)
noncomputable abbrev b_slices_IndexFunc_int64_rm : Code := bodyOf Tryz.f135
abbrev sp_slices_IndexFunc_int64_rm_l2 : Sp := ⟨19, [(0, .val false (.sl (.int .i64))), (1, .fix (.fn 189 [])), (7, .val false (.int .i64)), (8, .val false (.int .i64))], [], []⟩
abbrev xs_slices_IndexFunc_int64_rm_l2 : List (Ex × Sp) := [(.exit 0, ⟨19, [], [], []⟩), (.ret, ⟨19, [(4, .val false (.int .i64))], [], []⟩)]
noncomputable def s_slices_IndexFunc_int64_rm_l2 : sp_slices_IndexFunc_int64_rm_l2.T → Option (sp_slices_IndexFunc_int64_rm_l2.T ⊕ XT xs_slices_IndexFunc_int64_rm_l2) := fun x =>
  bif (decide (x.1.2.2.1 < x.1.2.1)) then
    (bif ib x.1.2.2.1 (x.1.1).length then
    (F_impl_RegMachine_do_f1 ((x.1.1).getD (Int.toNat x.1.2.2.1) (K.zero (.int .i64)))).bind fun y1 =>
    bif y1.1.1 then
      (some (.inr (.inr ((x.1.2.2.1, ()), (), ()))))
    else
    some (.inl ((x.1.1, (x.1.2.1, ((IntKind.wrap .i64 (x.1.2.2.1 + (1 : Int))), ()))), (), ()))
    else none)
  else
  some (.inr (.inl ((), (), ())))
noncomputable def l_slices_IndexFunc_int64_rm_l2 : sp_slices_IndexFunc_int64_rm_l2.T → Option (XT xs_slices_IndexFunc_int64_rm_l2) := lim s_slices_IndexFunc_int64_rm_l2
theorem es_slices_IndexFunc_int64_rm_l2 : ∀ x, evCode ty (gamOf g_slices_IndexFunc_int64_rm) j_slices_IndexFunc_int64_rm (lamOf []) (loopAt b_slices_IndexFunc_int64_rm 2) (sp_slices_IndexFunc_int64_rm_l2.hd x) (rdK sp_slices_IndexFunc_int64_rm_l2 xs_slices_IndexFunc_int64_rm_l2) = s_slices_IndexFunc_int64_rm_l2 x := fun x => by kernel_rfl
theorem ls_slices_IndexFunc_int64_rm_l2 : LSumOk P (loopAt b_slices_IndexFunc_int64_rm 2) (loopL sp_slices_IndexFunc_int64_rm_l2 xs_slices_IndexFunc_int64_rm_l2 l_slices_IndexFunc_int64_rm_l2) := loop_ok tyOk mixed gok_slices_IndexFunc_int64_rm (by kernel_rfl) (by kernel_rfl) (lam_ok (tab := []) (by kernel_rfl) lm0) es_slices_IndexFunc_int64_rm_l2 lim_itr
noncomputable def F_slices_IndexFunc_int64_rm (x1 : K.T (.sl (.int .i64))) : Option sq_slices_IndexFunc_int64_rm.T :=
  (l_slices_IndexFunc_int64_rm_l2 ((x1, (((x1).length : Int), ((0 : Int), ()))), (), ())).bind fun y2 =>
  (match y2 with
  | .inl y3 => some (((-1 : Int), ()), (), ())
  | .inr z4 => some ((z4.1.1, ()), (), ()))
noncomputable abbrev U_slices_IndexFunc_int64_rm : sp_slices_IndexFunc_int64_rm.T → Option sq_slices_IndexFunc_int64_rm.T := fun x => F_slices_IndexFunc_int64_rm x.1.1
theorem e_slices_IndexFunc_int64_rm : ∀ x, evCode ty (gamOf g_slices_IndexFunc_int64_rm) j_slices_IndexFunc_int64_rm (lamOf [(2, loopL sp_slices_IndexFunc_int64_rm_l2 xs_slices_IndexFunc_int64_rm_l2 l_slices_IndexFunc_int64_rm_l2)]) b_slices_IndexFunc_int64_rm (sp_slices_IndexFunc_int64_rm.hd x) (finN ty sq_slices_IndexFunc_int64_rm [.tmp 4]) = U_slices_IndexFunc_int64_rm x := fun x => by kernel_rfl
theorem c_slices_IndexFunc_int64_rm : FnS P 135 sp_slices_IndexFunc_int64_rm sq_slices_IndexFunc_int64_rm U_slices_IndexFunc_int64_rm :=
  fnS_of_ev tyOk mixed gok_slices_IndexFunc_int64_rm (fn := Tryz.f135) (by kernel_rfl) (c := b_slices_IndexFunc_int64_rm) (by kernel_rfl) (by kernel_rfl) (by kernel_rfl) (lam_ok (tab := [(2, loopL sp_slices_IndexFunc_int64_rm_l2 xs_slices_IndexFunc_int64_rm_l2 l_slices_IndexFunc_int64_rm_l2)]) (by kernel_rfl) (lm1 @ls_slices_IndexFunc_int64_rm_l2 lm0)) e_slices_IndexFunc_int64_rm

/-! slices.ContainsFunc[[]int64,int64] -/
abbrev sp_slices_ContainsFunc_int64_rm : Sp := ⟨9, [(0, .val false (.sl (.int .i64))), (1, .fix (.fn 189 []))], [], []⟩
abbrev sq_slices_ContainsFunc_int64_rm : Sp := ⟨1, [(0, .val false .bool)], [], []⟩
noncomputable def g_slices_ContainsFunc_int64_rm : List (FuncId × SumX) := [(135, cN sp_slices_IndexFunc_int64_rm sq_slices_IndexFunc_int64_rm U_slices_IndexFunc_int64_rm)]
def j_slices_ContainsFunc_int64_rm : Nat → Option (List (Nat × SS)) := jOf []
theorem gok_slices_ContainsFunc_int64_rm : GOk P (gamOf g_slices_ContainsFunc_int64_rm) := gam_ok (tab := g_slices_ContainsFunc_int64_rm) (gm1 (cN_ok c_slices_IndexFunc_int64_rm rfl) gm0)
noncomputable abbrev b_slices_ContainsFunc_int64_rm : Code := bodyOf Tryz.f96
noncomputable def F_slices_ContainsFunc_int64_rm (x1 : K.T (.sl (.int .i64))) : Option sq_slices_ContainsFunc_int64_rm.T :=
  (F_slices_IndexFunc_int64_rm x1).bind fun y1 =>
  some (((decide (y1.1.1 ≥ (0 : Int))), ()), (), ())
noncomputable abbrev U_slices_ContainsFunc_int64_rm : sp_slices_ContainsFunc_int64_rm.T → Option sq_slices_ContainsFunc_int64_rm.T := fun x => F_slices_ContainsFunc_int64_rm x.1.1
theorem e_slices_ContainsFunc_int64_rm : ∀ x, evCode ty (gamOf g_slices_ContainsFunc_int64_rm) j_slices_ContainsFunc_int64_rm (lamOf []) b_slices_ContainsFunc_int64_rm (sp_slices_ContainsFunc_int64_rm.hd x) (finN ty sq_slices_ContainsFunc_int64_rm [.tmp 4]) = U_slices_ContainsFunc_int64_rm x := fun x => by kernel_rfl
theorem c_slices_ContainsFunc_int64_rm : FnS P 96 sp_slices_ContainsFunc_int64_rm sq_slices_ContainsFunc_int64_rm U_slices_ContainsFunc_int64_rm :=
  fnS_of_ev tyOk mixed gok_slices_ContainsFunc_int64_rm (fn := Tryz.f96) (by kernel_rfl) (c := b_slices_ContainsFunc_int64_rm) (by kernel_rfl) (by kernel_rfl) (by kernel_rfl) (lam_ok (tab := []) (by kernel_rfl) lm0) e_slices_ContainsFunc_int64_rm

/-! impl.regsOf -/
abbrev sp_impl_regsOf : Sp := ⟨28, [(0, .val false (.int .i64)), (1, .val false (.sl (.int .i64)))], [], []⟩
abbrev sq_impl_regsOf : Sp := ⟨1, [(0, .val false (.sl (.int .i64)))], [], []⟩
noncomputable def g_impl_regsOf : List (FuncId × SumX) := []
def j_impl_regsOf : Nat → Option (List (Nat × SS)) := jOf []
theorem gok_impl_regsOf : GOk P (gamOf g_impl_regsOf) := gam_ok (tab := g_impl_regsOf) gm0
noncomputable abbrev b_impl_regsOf : Code := bodyOf Tryz.f188
noncomputable def F_impl_regsOf (x1 : K.T (.int .i64)) (x2 : K.T (.sl (.int .i64))) : Option sq_impl_regsOf.T :=
  bif (x1 == (1 : Int)) then
    (bif decide (0 ≤ (0 : Int) ∧ (0 : Int) ≤ (1 : Int) ∧ (1 : Int) ≤ ((x2).length : Int)) then
    some ((((x2).take (Int.toNat (1 : Int))).drop (Int.toNat (0 : Int)), ()), (), ())
    else none)
  else
  bif (x1 == (2 : Int)) then
    (bif decide (0 ≤ (0 : Int) ∧ (0 : Int) ≤ (1 : Int) ∧ (1 : Int) ≤ ((x2).length : Int)) then
    some ((((x2).take (Int.toNat (1 : Int))).drop (Int.toNat (0 : Int)), ()), (), ())
    else none)
  else
  bif (x1 == (9 : Int)) then
    (bif decide (0 ≤ (0 : Int) ∧ (0 : Int) ≤ (1 : Int) ∧ (1 : Int) ≤ ((x2).length : Int)) then
    some ((((x2).take (Int.toNat (1 : Int))).drop (Int.toNat (0 : Int)), ()), (), ())
    else none)
  else
  bif (x1 == (11 : Int)) then
    (bif decide (0 ≤ (0 : Int) ∧ (0 : Int) ≤ (1 : Int) ∧ (1 : Int) ≤ ((x2).length : Int)) then
    some ((((x2).take (Int.toNat (1 : Int))).drop (Int.toNat (0 : Int)), ()), (), ())
    else none)
  else
  bif (x1 == (3 : Int)) then
    (bif decide (0 ≤ (1 : Int) ∧ (1 : Int) ≤ ((x2).length : Int) ∧ ((x2).length : Int) ≤ ((x2).length : Int)) then
    some ((((x2).take (Int.toNat ((x2).length : Int))).drop (Int.toNat (1 : Int)), ()), (), ())
    else none)
  else
  bif (x1 == (4 : Int)) then
    (bif decide (0 ≤ (0 : Int) ∧ (0 : Int) ≤ (2 : Int) ∧ (2 : Int) ≤ ((x2).length : Int)) then
    some ((((x2).take (Int.toNat (2 : Int))).drop (Int.toNat (0 : Int)), ()), (), ())
    else none)
  else
  bif (x1 == (5 : Int)) then
    (bif decide (0 ≤ (0 : Int) ∧ (0 : Int) ≤ (2 : Int) ∧ (2 : Int) ≤ ((x2).length : Int)) then
    some ((((x2).take (Int.toNat (2 : Int))).drop (Int.toNat (0 : Int)), ()), (), ())
    else none)
  else
  bif (x1 == (7 : Int)) then
    (bif decide (0 ≤ (0 : Int) ∧ (0 : Int) ≤ (2 : Int) ∧ (2 : Int) ≤ ((x2).length : Int)) then
    some ((((x2).take (Int.toNat (2 : Int))).drop (Int.toNat (0 : Int)), ()), (), ())
    else none)
  else
  bif (x1 == (8 : Int)) then
    (bif decide (0 ≤ (0 : Int) ∧ (0 : Int) ≤ (2 : Int) ∧ (2 : Int) ≤ ((x2).length : Int)) then
    some ((((x2).take (Int.toNat (2 : Int))).drop (Int.toNat (0 : Int)), ()), (), ())
    else none)
  else
  bif (x1 == (6 : Int)) then
    (bif decide (0 ≤ (0 : Int) ∧ (0 : Int) ≤ (3 : Int) ∧ (3 : Int) ≤ ((x2).length : Int)) then
    some ((((x2).take (Int.toNat (3 : Int))).drop (Int.toNat (0 : Int)), ()), (), ())
    else none)
  else
  some (([], ()), (), ())
noncomputable abbrev U_impl_regsOf : sp_impl_regsOf.T → Option sq_impl_regsOf.T := fun x => F_impl_regsOf x.1.1 x.1.2.1
theorem e_impl_regsOf : ∀ x, evCode ty (gamOf g_impl_regsOf) j_impl_regsOf (lamOf []) b_impl_regsOf (sp_impl_regsOf.hd x) (finN ty sq_impl_regsOf [.tmp 4]) = U_impl_regsOf x := fun x => by kernel_rfl
theorem c_impl_regsOf : FnS P 188 sp_impl_regsOf sq_impl_regsOf U_impl_regsOf :=
  fnS_of_ev tyOk mixed gok_impl_regsOf (fn := Tryz.f188) (by kernel_rfl) (c := b_impl_regsOf) (by kernel_rfl) (by kernel_rfl) (by kernel_rfl) (lam_ok (tab := []) (by kernel_rfl) lm0) e_impl_regsOf

/-! (*impl.RegMachine).do$2 -/
abbrev sp_impl_RegMachine_do_f2 : Sp := ⟨11, [(0, .val false (.int .i64)), (1, .fix (.ptr 60000 0))], [(60000, [.fix (.ptr 60001 0)]), (60001, [.val (.int .i64), .fix (.own 63000), .fix (.own 63001), .val (.int .i64), .val (.int .i64), .val (.int .i64), .val .bool])], [(63000, (.int .i64), true), (63001, (.int .i64), true)]⟩
abbrev sq_impl_RegMachine_do_f2 : Sp := ⟨1, [(0, .val false .bool)], [(60000, [.fix (.ptr 60001 0)]), (60001, [.val (.int .i64), .fix (.own 59000), .fix (.own 59001), .val (.int .i64), .val (.int .i64), .val (.int .i64), .val .bool])], [(59000, (.int .i64), true), (59001, (.int .i64), true)]⟩
noncomputable def g_impl_RegMachine_do_f2 : List (FuncId × SumX) := []
def j_impl_RegMachine_do_f2 : Nat → Option (List (Nat × SS)) := jOf []
theorem gok_impl_RegMachine_do_f2 : GOk P (gamOf g_impl_RegMachine_do_f2) := gam_ok (tab := g_impl_RegMachine_do_f2) gm0
noncomputable abbrev b_impl_RegMachine_do_f2 : Code := bodyOf Tryz.f190
noncomputable def F_impl_RegMachine_do_f2 (x1 : K.T (.int .i64)) (x2 : K.T (.int .i64)) (x3 : K.T (.int .i64)) (x4 : K.T (.int .i64)) (x5 : K.T (.int .i64)) (x6 : K.T .bool) (x7 : List (K.T (.int .i64))) (x8 : List (K.T (.int .i64))) : Option sq_impl_RegMachine_do_f2.T :=
  some (((decide (x1 < ((x8).length : Int))), ()), ((), ((x2, (x3, (x4, (x5, (x6, ()))))), ())), (x7, (x8, ())))
noncomputable abbrev U_impl_RegMachine_do_f2 : sp_impl_RegMachine_do_f2.T → Option sq_impl_RegMachine_do_f2.T := fun x => F_impl_RegMachine_do_f2 x.1.1 x.2.1.2.1.1 x.2.1.2.1.2.1 x.2.1.2.1.2.2.1 x.2.1.2.1.2.2.2.1 x.2.1.2.1.2.2.2.2.1 x.2.2.1 x.2.2.2.1
theorem e_impl_RegMachine_do_f2 : ∀ x, evCode ty (gamOf g_impl_RegMachine_do_f2) j_impl_RegMachine_do_f2 (lamOf []) b_impl_RegMachine_do_f2 (sp_impl_RegMachine_do_f2.hd x) (finN ty sq_impl_RegMachine_do_f2 [.tmp 3]) = U_impl_RegMachine_do_f2 x := fun x => by kernel_rfl
theorem c_impl_RegMachine_do_f2 : FnS P 190 sp_impl_RegMachine_do_f2 sq_impl_RegMachine_do_f2 U_impl_RegMachine_do_f2 :=
  fnS_of_ev tyOk mixed gok_impl_RegMachine_do_f2 (fn := Tryz.f190) (by kernel_rfl) (c := b_impl_RegMachine_do_f2) (by kernel_rfl) (by kernel_rfl) (by kernel_rfl) (lam_ok (tab := []) (by kernel_rfl) lm0) e_impl_RegMachine_do_f2

/-! impl.BinaryInv -/
abbrev sp_impl_BinaryInv : Sp := ⟨22, [(0, .val false (.int .i64)), (1, .val false (.int .i64)), (2, .val false (.int .i64))], [], []⟩
abbrev sq_impl_BinaryInv : Sp := ⟨1, [(0, .val true k1)], [], []⟩
noncomputable def g_impl_BinaryInv : List (FuncId × SumX) := [(141, cN sp_impl_Complement sq_impl_Complement U_impl_Complement), (183, cN sp_impl_BinaryOf sq_impl_BinaryOf U_impl_BinaryOf)]
def j_impl_BinaryInv : Nat → Option (List (Nat × SS)) := jOf []
theorem gok_impl_BinaryInv : GOk P (gamOf g_impl_BinaryInv) := gam_ok (tab := g_impl_BinaryInv) (gm1 (cN_ok c_impl_Complement rfl) (gm1 (cN_ok c_impl_BinaryOf rfl) gm0))
noncomputable abbrev b_impl_BinaryInv : Code := bodyOf Tryz.f191
noncomputable def F_impl_BinaryInv (x1 : K.T (.int .i64)) (x2 : K.T (.int .i64)) (x3 : K.T (.int .i64)) : Option sq_impl_BinaryInv.T :=
  (F_impl_Complement x2).bind fun y1 =>
  (F_impl_Complement x3).bind fun y2 =>
  (F_impl_BinaryOf x1 y1.1.1 y2.1.1).bind fun y3 =>
  bif (y3.1.1.1 == (0 : Int)) then
    ((F_impl_Complement y3.1.1.2).bind fun y4 =>
    some (((y3.1.1.1, y4.1.1), ()), (), ()))
  else
  some ((y3.1.1, ()), (), ())
noncomputable abbrev U_impl_BinaryInv : sp_impl_BinaryInv.T → Option sq_impl_BinaryInv.T := fun x => F_impl_BinaryInv x.1.1 x.1.2.1 x.1.2.2.1
theorem e_impl_BinaryInv : ∀ x, evCode ty (gamOf g_impl_BinaryInv) j_impl_BinaryInv (lamOf []) b_impl_BinaryInv (sp_impl_BinaryInv.hd x) (finN ty sq_impl_BinaryInv [.cell 6 199]) = U_impl_BinaryInv x := fun x => by kernel_rfl
theorem c_impl_BinaryInv : FnS P 191 sp_impl_BinaryInv sq_impl_BinaryInv U_impl_BinaryInv :=
  fnS_of_ev tyOk mixed gok_impl_BinaryInv (fn := Tryz.f191) (by kernel_rfl) (c := b_impl_BinaryInv) (by kernel_rfl) (by kernel_rfl) (by kernel_rfl) (lam_ok (tab := []) (by kernel_rfl) lm0) e_impl_BinaryInv

/-! (*impl.RegMachine).do -/
abbrev sp_impl_RegMachine_do : Sp := ⟨324, [(0, .fix (.ptr 60000 0)), (1, .val false (.int .i64)), (2, .val false (.sl (.int .i64)))], [(60000, [.val (.int .i64), .fix (.own 63000), .fix (.own 63001), .val (.int .i64), .val (.int .i64), .val (.int .i64), .val .bool])], [(63000, (.int .i64), true), (63001, (.int .i64), true)]⟩
abbrev sq_impl_RegMachine_do : Sp := ⟨1, [(0, .val false (.int .i64))], [(60000, [.val (.int .i64), .fix (.own 59000), .fix (.own 59001), .val (.int .i64), .val (.int .i64), .val (.int .i64), .val .bool])], [(59000, (.int .i64), true), (59001, (.int .i64), true)]⟩
noncomputable def g_impl_RegMachine_do : List (FuncId × SumX) := [(93, cN sp_impl_within sq_impl_within U_impl_within), (96, cN sp_slices_ContainsFunc_int64_rm sq_slices_ContainsFunc_int64_rm U_slices_ContainsFunc_int64_rm), (141, cN sp_impl_Complement sq_impl_Complement U_impl_Complement), (182, cN sp_impl_SignedOf sq_impl_SignedOf U_impl_SignedOf), (184, cN sp_impl_NegOf sq_impl_NegOf U_impl_NegOf), (185, cN sp_impl_NotOf sq_impl_NotOf U_impl_NotOf), (186, cN sp_impl_SignOf sq_impl_SignOf U_impl_SignOf), (188, cN sp_impl_regsOf sq_impl_regsOf U_impl_regsOf), (190, xN sp_impl_RegMachine_do_f2 sq_impl_RegMachine_do_f2 U_impl_RegMachine_do_f2), (191, cN sp_impl_BinaryInv sq_impl_BinaryInv U_impl_BinaryInv)]
def j_impl_RegMachine_do : Nat → Option (List (Nat × SS)) := jOf []
theorem gok_impl_RegMachine_do : GOk P (gamOf g_impl_RegMachine_do) := gam_ok (tab := g_impl_RegMachine_do) (gm1 (cN_ok c_impl_within rfl) (gm1 (cN_ok c_slices_ContainsFunc_int64_rm rfl) (gm1 (cN_ok c_impl_Complement rfl) (gm1 (cN_ok c_impl_SignedOf rfl) (gm1 (cN_ok c_impl_NegOf rfl) (gm1 (cN_ok c_impl_NotOf rfl) (gm1 (cN_ok c_impl_SignOf rfl) (gm1 (cN_ok c_impl_regsOf rfl) (gm1 (xN_ok c_impl_RegMachine_do_f2 rfl) (gm1 (cN_ok c_impl_BinaryInv rfl) gm0))))))))))
noncomputable abbrev b_impl_RegMachine_do : Code := bodyOf Tryz.f166
noncomputable def F_impl_RegMachine_do (x1 : K.T (.int .i64)) (x2 : K.T (.sl (.int .i64))) (x3 : K.T (.int .i64)) (x4 : K.T (.int .i64)) (x5 : K.T (.int .i64)) (x6 : K.T (.int .i64)) (x7 : K.T .bool) (x8 : List (K.T (.int .i64))) (x9 : List (K.T (.int .i64))) : Option sq_impl_RegMachine_do.T :=
  (F_impl_regsOf x1 x2).bind fun y1 =>
  (F_slices_ContainsFunc_int64_rm y1.1.1).bind fun y2 =>
  bif y2.1.1 then
    (some (((1 : Int), ()), ((x3, (x4, (x5, (x6, (x7, ()))))), ()), (x8, (x9, ()))))
  else
  bif (x1 == (2 : Int)) then
    (bif ib (1 : Int) (x2).length then
    (F_impl_RegMachine_do_f2 ((x2).getD (Int.toNat (1 : Int)) (K.zero (.int .i64))) x3 x4 x5 x6 x7 x8 x9).bind fun y3 =>
    bif (!y3.1.1) then
      (some (((1 : Int), ()), ((y3.2.1.2.1.1, (y3.2.1.2.1.2.1, (y3.2.1.2.1.2.2.1, (y3.2.1.2.1.2.2.2.1, (y3.2.1.2.1.2.2.2.2.1, ()))))), ()), (y3.2.2.1, (y3.2.2.2.1, ()))))
    else
    bif (x1 == (3 : Int)) then
      (bif ib (0 : Int) (x2).length then
      (F_impl_RegMachine_do_f2 ((x2).getD (Int.toNat (0 : Int)) (K.zero (.int .i64))) y3.2.1.2.1.1 y3.2.1.2.1.2.1 y3.2.1.2.1.2.2.1 y3.2.1.2.1.2.2.2.1 y3.2.1.2.1.2.2.2.2.1 y3.2.2.1 y3.2.2.2.1).bind fun y4 =>
      bif (!y4.1.1) then
        (some (((1 : Int), ()), ((y4.2.1.2.1.1, (y4.2.1.2.1.2.1, (y4.2.1.2.1.2.2.1, (y4.2.1.2.1.2.2.2.1, (y4.2.1.2.1.2.2.2.2.1, ()))))), ()), (y4.2.2.1, (y4.2.2.2.1, ()))))
      else
      bif (x1 == (1 : Int)) then
        (bif ib (0 : Int) (x2).length then
        bif ib (1 : Int) (x2).length then
        bif ib ((x2).getD (Int.toNat (0 : Int)) (K.zero (.int .i64))) (y4.2.2.1).length then
        some (((0 : Int), ()), ((y4.2.1.2.1.1, (y4.2.1.2.1.2.1, (y4.2.1.2.1.2.2.1, (y4.2.1.2.1.2.2.2.1, (y4.2.1.2.1.2.2.2.2.1, ()))))), ()), ((y4.2.2.1).set (Int.toNat ((x2).getD (Int.toNat (0 : Int)) (K.zero (.int .i64)))) ((x2).getD (Int.toNat (1 : Int)) (K.zero (.int .i64))), (y4.2.2.2.1, ())))
        else none
        else none
        else none)
      else
      bif (x1 == (2 : Int)) then
        (bif ib (0 : Int) (x2).length then
        bif ib (1 : Int) (x2).length then
        bif ib ((x2).getD (Int.toNat (1 : Int)) (K.zero (.int .i64))) (y4.2.2.2.1).length then
        bif ib ((x2).getD (Int.toNat (0 : Int)) (K.zero (.int .i64))) (y4.2.2.1).length then
        some (((0 : Int), ()), ((y4.2.1.2.1.1, (y4.2.1.2.1.2.1, (y4.2.1.2.1.2.2.1, (y4.2.1.2.1.2.2.2.1, (y4.2.1.2.1.2.2.2.2.1, ()))))), ()), ((y4.2.2.1).set (Int.toNat ((x2).getD (Int.toNat (0 : Int)) (K.zero (.int .i64)))) ((y4.2.2.2.1).getD (Int.toNat ((x2).getD (Int.toNat (1 : Int)) (K.zero (.int .i64)))) (K.zero (.int .i64))), (y4.2.2.2.1, ())))
        else none
        else none
        else none
        else none)
      else
      bif (x1 == (3 : Int)) then
        (bif ib (0 : Int) (x2).length then
        bif ib (1 : Int) (x2).length then
        bif ib ((x2).getD (Int.toNat (1 : Int)) (K.zero (.int .i64))) (y4.2.2.1).length then
        bif ib ((x2).getD (Int.toNat (0 : Int)) (K.zero (.int .i64))) (y4.2.2.2.1).length then
        some (((0 : Int), ()), ((y4.2.1.2.1.1, (y4.2.1.2.1.2.1, (y4.2.1.2.1.2.2.1, (y4.2.1.2.1.2.2.2.1, (y4.2.1.2.1.2.2.2.2.1, ()))))), ()), (y4.2.2.1, ((y4.2.2.2.1).set (Int.toNat ((x2).getD (Int.toNat (0 : Int)) (K.zero (.int .i64)))) ((y4.2.2.1).getD (Int.toNat ((x2).getD (Int.toNat (1 : Int)) (K.zero (.int .i64)))) (K.zero (.int .i64))), ())))
        else none
        else none
        else none
        else none)
      else
      bif (x1 == (4 : Int)) then
        (bif ib (1 : Int) (x2).length then
        bif ib ((x2).getD (Int.toNat (1 : Int)) (K.zero (.int .i64))) (y4.2.2.1).length then
        bif (x1 == (5 : Int)) then
          (bif ib (0 : Int) (x2).length then
          bif ib ((x2).getD (Int.toNat (0 : Int)) (K.zero (.int .i64))) (y4.2.2.1).length then
          (F_impl_Complement ((y4.2.2.1).getD (Int.toNat ((x2).getD (Int.toNat (0 : Int)) (K.zero (.int .i64)))) (K.zero (.int .i64)))).bind fun y5 =>
          (F_impl_SignedOf y5.1.1).bind fun y6 =>
          bif ib (3 : Int) (x2).length then
          (F_impl_within y6.1.1 (0 : Int) (IntKind.wrap .i64 (((x2).getD (Int.toNat (3 : Int)) (K.zero (.int .i64))) - (1 : Int)))).bind fun y7 =>
          bif (!y7.1.1) then
            (some (((3 : Int), ()), ((y4.2.1.2.1.1, (y4.2.1.2.1.2.1, (y4.2.1.2.1.2.2.1, (y4.2.1.2.1.2.2.2.1, (y4.2.1.2.1.2.2.2.2.1, ()))))), ()), (y4.2.2.1, (y4.2.2.2.1, ()))))
          else
          bif ib (2 : Int) (x2).length then
          (F_impl_RegMachine_do_f2 (IntKind.wrap .i64 (((x2).getD (Int.toNat (2 : Int)) (K.zero (.int .i64))) + y6.1.1)) y4.2.1.2.1.1 y4.2.1.2.1.2.1 y4.2.1.2.1.2.2.1 y4.2.1.2.1.2.2.2.1 y4.2.1.2.1.2.2.2.2.1 y4.2.2.1 y4.2.2.2.1).bind fun y8 =>
          bif (!y8.1.1) then
            (some (((1 : Int), ()), ((y8.2.1.2.1.1, (y8.2.1.2.1.2.1, (y8.2.1.2.1.2.2.1, (y8.2.1.2.1.2.2.2.1, (y8.2.1.2.1.2.2.2.2.1, ()))))), ()), (y8.2.2.1, (y8.2.2.2.1, ()))))
          else
          bif (x1 == (4 : Int)) then
            (bif ib (0 : Int) (x2).length then
            bif ib (2 : Int) (x2).length then
            bif ib (IntKind.wrap .i64 (((x2).getD (Int.toNat (2 : Int)) (K.zero (.int .i64))) + y6.1.1)) (y8.2.2.2.1).length then
            bif ib ((x2).getD (Int.toNat (0 : Int)) (K.zero (.int .i64))) (y8.2.2.1).length then
            some (((0 : Int), ()), ((y8.2.1.2.1.1, (y8.2.1.2.1.2.1, (y8.2.1.2.1.2.2.1, (y8.2.1.2.1.2.2.2.1, (y8.2.1.2.1.2.2.2.2.1, ()))))), ()), ((y8.2.2.1).set (Int.toNat ((x2).getD (Int.toNat (0 : Int)) (K.zero (.int .i64)))) ((y8.2.2.2.1).getD (Int.toNat (IntKind.wrap .i64 (((x2).getD (Int.toNat (2 : Int)) (K.zero (.int .i64))) + y6.1.1))) (K.zero (.int .i64))), (y8.2.2.2.1, ())))
            else none
            else none
            else none
            else none)
          else
          bif ib (2 : Int) (x2).length then
          bif ib (1 : Int) (x2).length then
          bif ib ((x2).getD (Int.toNat (1 : Int)) (K.zero (.int .i64))) (y8.2.2.1).length then
          bif ib (IntKind.wrap .i64 (((x2).getD (Int.toNat (2 : Int)) (K.zero (.int .i64))) + y6.1.1)) (y8.2.2.2.1).length then
          some (((0 : Int), ()), ((y8.2.1.2.1.1, (y8.2.1.2.1.2.1, (y8.2.1.2.1.2.2.1, (y8.2.1.2.1.2.2.2.1, (y8.2.1.2.1.2.2.2.2.1, ()))))), ()), (y8.2.2.1, ((y8.2.2.2.1).set (Int.toNat (IntKind.wrap .i64 (((x2).getD (Int.toNat (2 : Int)) (K.zero (.int .i64))) + y6.1.1))) ((y8.2.2.1).getD (Int.toNat ((x2).getD (Int.toNat (1 : Int)) (K.zero (.int .i64)))) (K.zero (.int .i64))), ())))
          else none
          else none
          else none
          else none
          else none
          else none
          else none
          else none)
        else
        (F_impl_Complement ((y4.2.2.1).getD (Int.toNat ((x2).getD (Int.toNat (1 : Int)) (K.zero (.int .i64)))) (K.zero (.int .i64)))).bind fun y9 =>
        (F_impl_SignedOf y9.1.1).bind fun y10 =>
        bif ib (3 : Int) (x2).length then
        (F_impl_within y10.1.1 (0 : Int) (IntKind.wrap .i64 (((x2).getD (Int.toNat (3 : Int)) (K.zero (.int .i64))) - (1 : Int)))).bind fun y11 =>
        bif (!y11.1.1) then
          (some (((3 : Int), ()), ((y4.2.1.2.1.1, (y4.2.1.2.1.2.1, (y4.2.1.2.1.2.2.1, (y4.2.1.2.1.2.2.2.1, (y4.2.1.2.1.2.2.2.2.1, ()))))), ()), (y4.2.2.1, (y4.2.2.2.1, ()))))
        else
        bif ib (2 : Int) (x2).length then
        (F_impl_RegMachine_do_f2 (IntKind.wrap .i64 (((x2).getD (Int.toNat (2 : Int)) (K.zero (.int .i64))) + y10.1.1)) y4.2.1.2.1.1 y4.2.1.2.1.2.1 y4.2.1.2.1.2.2.1 y4.2.1.2.1.2.2.2.1 y4.2.1.2.1.2.2.2.2.1 y4.2.2.1 y4.2.2.2.1).bind fun y12 =>
        bif (!y12.1.1) then
          (some (((1 : Int), ()), ((y12.2.1.2.1.1, (y12.2.1.2.1.2.1, (y12.2.1.2.1.2.2.1, (y12.2.1.2.1.2.2.2.1, (y12.2.1.2.1.2.2.2.2.1, ()))))), ()), (y12.2.2.1, (y12.2.2.2.1, ()))))
        else
        bif (x1 == (4 : Int)) then
          (bif ib (0 : Int) (x2).length then
          bif ib (2 : Int) (x2).length then
          bif ib (IntKind.wrap .i64 (((x2).getD (Int.toNat (2 : Int)) (K.zero (.int .i64))) + y10.1.1)) (y12.2.2.2.1).length then
          bif ib ((x2).getD (Int.toNat (0 : Int)) (K.zero (.int .i64))) (y12.2.2.1).length then
          some (((0 : Int), ()), ((y12.2.1.2.1.1, (y12.2.1.2.1.2.1, (y12.2.1.2.1.2.2.1, (y12.2.1.2.1.2.2.2.1, (y12.2.1.2.1.2.2.2.2.1, ()))))), ()), ((y12.2.2.1).set (Int.toNat ((x2).getD (Int.toNat (0 : Int)) (K.zero (.int .i64)))) ((y12.2.2.2.1).getD (Int.toNat (IntKind.wrap .i64 (((x2).getD (Int.toNat (2 : Int)) (K.zero (.int .i64))) + y10.1.1))) (K.zero (.int .i64))), (y12.2.2.2.1, ())))
          else none
          else none
          else none
          else none)
        else
        bif ib (2 : Int) (x2).length then
        bif ib (1 : Int) (x2).length then
        bif ib ((x2).getD (Int.toNat (1 : Int)) (K.zero (.int .i64))) (y12.2.2.1).length then
        bif ib (IntKind.wrap .i64 (((x2).getD (Int.toNat (2 : Int)) (K.zero (.int .i64))) + y10.1.1)) (y12.2.2.2.1).length then
        some (((0 : Int), ()), ((y12.2.1.2.1.1, (y12.2.1.2.1.2.1, (y12.2.1.2.1.2.2.1, (y12.2.1.2.1.2.2.2.1, (y12.2.1.2.1.2.2.2.2.1, ()))))), ()), (y12.2.2.1, ((y12.2.2.2.1).set (Int.toNat (IntKind.wrap .i64 (((x2).getD (Int.toNat (2 : Int)) (K.zero (.int .i64))) + y10.1.1))) ((y12.2.2.1).getD (Int.toNat ((x2).getD (Int.toNat (1 : Int)) (K.zero (.int .i64)))) (K.zero (.int .i64))), ())))
        else none
        else none
        else none
        else none
        else none
        else none
        else none
        else none)
      else
      bif (x1 == (5 : Int)) then
        (bif ib (1 : Int) (x2).length then
        bif ib ((x2).getD (Int.toNat (1 : Int)) (K.zero (.int .i64))) (y4.2.2.1).length then
        bif (x1 == (5 : Int)) then
          (bif ib (0 : Int) (x2).length then
          bif ib ((x2).getD (Int.toNat (0 : Int)) (K.zero (.int .i64))) (y4.2.2.1).length then
          (F_impl_Complement ((y4.2.2.1).getD (Int.toNat ((x2).getD (Int.toNat (0 : Int)) (K.zero (.int .i64)))) (K.zero (.int .i64)))).bind fun y13 =>
          (F_impl_SignedOf y13.1.1).bind fun y14 =>
          bif ib (3 : Int) (x2).length then
          (F_impl_within y14.1.1 (0 : Int) (IntKind.wrap .i64 (((x2).getD (Int.toNat (3 : Int)) (K.zero (.int .i64))) - (1 : Int)))).bind fun y15 =>
          bif (!y15.1.1) then
            (some (((3 : Int), ()), ((y4.2.1.2.1.1, (y4.2.1.2.1.2.1, (y4.2.1.2.1.2.2.1, (y4.2.1.2.1.2.2.2.1, (y4.2.1.2.1.2.2.2.2.1, ()))))), ()), (y4.2.2.1, (y4.2.2.2.1, ()))))
          else
          bif ib (2 : Int) (x2).length then
          (F_impl_RegMachine_do_f2 (IntKind.wrap .i64 (((x2).getD (Int.toNat (2 : Int)) (K.zero (.int .i64))) + y14.1.1)) y4.2.1.2.1.1 y4.2.1.2.1.2.1 y4.2.1.2.1.2.2.1 y4.2.1.2.1.2.2.2.1 y4.2.1.2.1.2.2.2.2.1 y4.2.2.1 y4.2.2.2.1).bind fun y16 =>
          bif (!y16.1.1) then
            (some (((1 : Int), ()), ((y16.2.1.2.1.1, (y16.2.1.2.1.2.1, (y16.2.1.2.1.2.2.1, (y16.2.1.2.1.2.2.2.1, (y16.2.1.2.1.2.2.2.2.1, ()))))), ()), (y16.2.2.1, (y16.2.2.2.1, ()))))
          else
          bif (x1 == (4 : Int)) then
            (bif ib (0 : Int) (x2).length then
            bif ib (2 : Int) (x2).length then
            bif ib (IntKind.wrap .i64 (((x2).getD (Int.toNat (2 : Int)) (K.zero (.int .i64))) + y14.1.1)) (y16.2.2.2.1).length then
            bif ib ((x2).getD (Int.toNat (0 : Int)) (K.zero (.int .i64))) (y16.2.2.1).length then
            some (((0 : Int), ()), ((y16.2.1.2.1.1, (y16.2.1.2.1.2.1, (y16.2.1.2.1.2.2.1, (y16.2.1.2.1.2.2.2.1, (y16.2.1.2.1.2.2.2.2.1, ()))))), ()), ((y16.2.2.1).set (Int.toNat ((x2).getD (Int.toNat (0 : Int)) (K.zero (.int .i64)))) ((y16.2.2.2.1).getD (Int.toNat (IntKind.wrap .i64 (((x2).getD (Int.toNat (2 : Int)) (K.zero (.int .i64))) + y14.1.1))) (K.zero (.int .i64))), (y16.2.2.2.1, ())))
            else none
            else none
            else none
            else none)
          else
          bif ib (2 : Int) (x2).length then
          bif ib (1 : Int) (x2).length then
          bif ib ((x2).getD (Int.toNat (1 : Int)) (K.zero (.int .i64))) (y16.2.2.1).length then
          bif ib (IntKind.wrap .i64 (((x2).getD (Int.toNat (2 : Int)) (K.zero (.int .i64))) + y14.1.1)) (y16.2.2.2.1).length then
          some (((0 : Int), ()), ((y16.2.1.2.1.1, (y16.2.1.2.1.2.1, (y16.2.1.2.1.2.2.1, (y16.2.1.2.1.2.2.2.1, (y16.2.1.2.1.2.2.2.2.1, ()))))), ()), (y16.2.2.1, ((y16.2.2.2.1).set (Int.toNat (IntKind.wrap .i64 (((x2).getD (Int.toNat (2 : Int)) (K.zero (.int .i64))) + y14.1.1))) ((y16.2.2.1).getD (Int.toNat ((x2).getD (Int.toNat (1 : Int)) (K.zero (.int .i64)))) (K.zero (.int .i64))), ())))
          else none
          else none
          else none
          else none
          else none
          else none
          else none
          else none)
        else
        (F_impl_Complement ((y4.2.2.1).getD (Int.toNat ((x2).getD (Int.toNat (1 : Int)) (K.zero (.int .i64)))) (K.zero (.int .i64)))).bind fun y17 =>
        (F_impl_SignedOf y17.1.1).bind fun y18 =>
        bif ib (3 : Int) (x2).length then
        (F_impl_within y18.1.1 (0 : Int) (IntKind.wrap .i64 (((x2).getD (Int.toNat (3 : Int)) (K.zero (.int .i64))) - (1 : Int)))).bind fun y19 =>
        bif (!y19.1.1) then
          (some (((3 : Int), ()), ((y4.2.1.2.1.1, (y4.2.1.2.1.2.1, (y4.2.1.2.1.2.2.1, (y4.2.1.2.1.2.2.2.1, (y4.2.1.2.1.2.2.2.2.1, ()))))), ()), (y4.2.2.1, (y4.2.2.2.1, ()))))
        else
        bif ib (2 : Int) (x2).length then
        (F_impl_RegMachine_do_f2 (IntKind.wrap .i64 (((x2).getD (Int.toNat (2 : Int)) (K.zero (.int .i64))) + y18.1.1)) y4.2.1.2.1.1 y4.2.1.2.1.2.1 y4.2.1.2.1.2.2.1 y4.2.1.2.1.2.2.2.1 y4.2.1.2.1.2.2.2.2.1 y4.2.2.1 y4.2.2.2.1).bind fun y20 =>
        bif (!y20.1.1) then
          (some (((1 : Int), ()), ((y20.2.1.2.1.1, (y20.2.1.2.1.2.1, (y20.2.1.2.1.2.2.1, (y20.2.1.2.1.2.2.2.1, (y20.2.1.2.1.2.2.2.2.1, ()))))), ()), (y20.2.2.1, (y20.2.2.2.1, ()))))
        else
        bif (x1 == (4 : Int)) then
          (bif ib (0 : Int) (x2).length then
          bif ib (2 : Int) (x2).length then
          bif ib (IntKind.wrap .i64 (((x2).getD (Int.toNat (2 : Int)) (K.zero (.int .i64))) + y18.1.1)) (y20.2.2.2.1).length then
          bif ib ((x2).getD (Int.toNat (0 : Int)) (K.zero (.int .i64))) (y20.2.2.1).length then
          some (((0 : Int), ()), ((y20.2.1.2.1.1, (y20.2.1.2.1.2.1, (y20.2.1.2.1.2.2.1, (y20.2.1.2.1.2.2.2.1, (y20.2.1.2.1.2.2.2.2.1, ()))))), ()), ((y20.2.2.1).set (Int.toNat ((x2).getD (Int.toNat (0 : Int)) (K.zero (.int .i64)))) ((y20.2.2.2.1).getD (Int.toNat (IntKind.wrap .i64 (((x2).getD (Int.toNat (2 : Int)) (K.zero (.int .i64))) + y18.1.1))) (K.zero (.int .i64))), (y20.2.2.2.1, ())))
          else none
          else none
          else none
          else none)
        else
        bif ib (2 : Int) (x2).length then
        bif ib (1 : Int) (x2).length then
        bif ib ((x2).getD (Int.toNat (1 : Int)) (K.zero (.int .i64))) (y20.2.2.1).length then
        bif ib (IntKind.wrap .i64 (((x2).getD (Int.toNat (2 : Int)) (K.zero (.int .i64))) + y18.1.1)) (y20.2.2.2.1).length then
        some (((0 : Int), ()), ((y20.2.1.2.1.1, (y20.2.1.2.1.2.1, (y20.2.1.2.1.2.2.1, (y20.2.1.2.1.2.2.2.1, (y20.2.1.2.1.2.2.2.2.1, ()))))), ()), (y20.2.2.1, ((y20.2.2.2.1).set (Int.toNat (IntKind.wrap .i64 (((x2).getD (Int.toNat (2 : Int)) (K.zero (.int .i64))) + y18.1.1))) ((y20.2.2.1).getD (Int.toNat ((x2).getD (Int.toNat (1 : Int)) (K.zero (.int .i64)))) (K.zero (.int .i64))), ())))
        else none
        else none
        else none
        else none
        else none
        else none
        else none
        else none)
      else
      bif (x1 == (6 : Int)) then
        (bif ib (3 : Int) (x2).length then
        bif ib (1 : Int) (x2).length then
        bif ib ((x2).getD (Int.toNat (1 : Int)) (K.zero (.int .i64))) (y4.2.2.1).length then
        bif ib (2 : Int) (x2).length then
        bif ib ((x2).getD (Int.toNat (2 : Int)) (K.zero (.int .i64))) (y4.2.2.1).length then
        (F_impl_BinaryInv ((x2).getD (Int.toNat (3 : Int)) (K.zero (.int .i64))) ((y4.2.2.1).getD (Int.toNat ((x2).getD (Int.toNat (1 : Int)) (K.zero (.int .i64)))) (K.zero (.int .i64))) ((y4.2.2.1).getD (Int.toNat ((x2).getD (Int.toNat (2 : Int)) (K.zero (.int .i64)))) (K.zero (.int .i64)))).bind fun y21 =>
        bif (y21.1.1.1 == (0 : Int)) then
          (bif ib (0 : Int) (x2).length then
          bif ib ((x2).getD (Int.toNat (0 : Int)) (K.zero (.int .i64))) (y4.2.2.1).length then
          some (((0 : Int), ()), ((y4.2.1.2.1.1, (y4.2.1.2.1.2.1, (y4.2.1.2.1.2.2.1, (y4.2.1.2.1.2.2.2.1, (y4.2.1.2.1.2.2.2.2.1, ()))))), ()), ((y4.2.2.1).set (Int.toNat ((x2).getD (Int.toNat (0 : Int)) (K.zero (.int .i64)))) y21.1.1.2, (y4.2.2.2.1, ())))
          else none
          else none)
        else
        bif (y21.1.1.1 == (3 : Int)) then
          (some (((1 : Int), ()), ((y4.2.1.2.1.1, (y4.2.1.2.1.2.1, (y4.2.1.2.1.2.2.1, (y4.2.1.2.1.2.2.2.1, (y4.2.1.2.1.2.2.2.2.1, ()))))), ()), (y4.2.2.1, (y4.2.2.2.1, ()))))
        else
        some ((y21.1.1.1, ()), ((y4.2.1.2.1.1, (y4.2.1.2.1.2.1, (y4.2.1.2.1.2.2.1, (y4.2.1.2.1.2.2.2.1, (y4.2.1.2.1.2.2.2.2.1, ()))))), ()), (y4.2.2.1, (y4.2.2.2.1, ())))
        else none
        else none
        else none
        else none
        else none)
      else
      bif (x1 == (7 : Int)) then
        (bif ib (0 : Int) (x2).length then
        bif ib (1 : Int) (x2).length then
        bif ib ((x2).getD (Int.toNat (1 : Int)) (K.zero (.int .i64))) (y4.2.2.1).length then
        (F_impl_Complement ((y4.2.2.1).getD (Int.toNat ((x2).getD (Int.toNat (1 : Int)) (K.zero (.int .i64)))) (K.zero (.int .i64)))).bind fun y22 =>
        (F_impl_NegOf y22.1.1).bind fun y23 =>
        (F_impl_Complement y23.1.1).bind fun y24 =>
        bif ib ((x2).getD (Int.toNat (0 : Int)) (K.zero (.int .i64))) (y4.2.2.1).length then
        some (((0 : Int), ()), ((y4.2.1.2.1.1, (y4.2.1.2.1.2.1, (y4.2.1.2.1.2.2.1, (y4.2.1.2.1.2.2.2.1, (y4.2.1.2.1.2.2.2.2.1, ()))))), ()), ((y4.2.2.1).set (Int.toNat ((x2).getD (Int.toNat (0 : Int)) (K.zero (.int .i64)))) y24.1.1, (y4.2.2.2.1, ())))
        else none
        else none
        else none
        else none)
      else
      bif (x1 == (8 : Int)) then
        (bif ib (0 : Int) (x2).length then
        bif ib (1 : Int) (x2).length then
        bif ib ((x2).getD (Int.toNat (1 : Int)) (K.zero (.int .i64))) (y4.2.2.1).length then
        (F_impl_Complement ((y4.2.2.1).getD (Int.toNat ((x2).getD (Int.toNat (1 : Int)) (K.zero (.int .i64)))) (K.zero (.int .i64)))).bind fun y25 =>
        (F_impl_NotOf y25.1.1).bind fun y26 =>
        (F_impl_Complement y26.1.1).bind fun y27 =>
        bif ib ((x2).getD (Int.toNat (0 : Int)) (K.zero (.int .i64))) (y4.2.2.1).length then
        some (((0 : Int), ()), ((y4.2.1.2.1.1, (y4.2.1.2.1.2.1, (y4.2.1.2.1.2.2.1, (y4.2.1.2.1.2.2.2.1, (y4.2.1.2.1.2.2.2.2.1, ()))))), ()), ((y4.2.2.1).set (Int.toNat ((x2).getD (Int.toNat (0 : Int)) (K.zero (.int .i64)))) y27.1.1, (y4.2.2.2.1, ())))
        else none
        else none
        else none
        else none)
      else
      bif (x1 == (9 : Int)) then
        (bif ib (0 : Int) (x2).length then
        bif ib ((x2).getD (Int.toNat (0 : Int)) (K.zero (.int .i64))) (y4.2.2.1).length then
        bif (((y4.2.2.1).getD (Int.toNat ((x2).getD (Int.toNat (0 : Int)) (K.zero (.int .i64)))) (K.zero (.int .i64))) != (65535 : Int)) then
          (bif ib (0 : Int) (x2).length then
          bif ib ((x2).getD (Int.toNat (0 : Int)) (K.zero (.int .i64))) (y4.2.2.1).length then
          some (((0 : Int), ()), ((y4.2.1.2.1.1, (y4.2.1.2.1.2.1, (y4.2.1.2.1.2.2.1, (y4.2.1.2.1.2.2.2.1, (y4.2.1.2.1.2.2.2.2.1, ()))))), ()), ((y4.2.2.1).set (Int.toNat ((x2).getD (Int.toNat (0 : Int)) (K.zero (.int .i64)))) (65534 : Int), (y4.2.2.2.1, ())))
          else none
          else none)
        else
        some (((0 : Int), ()), ((y4.2.1.2.1.1, (y4.2.1.2.1.2.1, (y4.2.1.2.1.2.2.1, (y4.2.1.2.1.2.2.2.1, (y4.2.1.2.1.2.2.2.2.1, ()))))), ()), (y4.2.2.1, (y4.2.2.2.1, ())))
        else none
        else none)
      else
      bif (x1 == (10 : Int)) then
        (bif ib (0 : Int) (x2).length then
        some (((0 : Int), ()), ((((x2).getD (Int.toNat (0 : Int)) (K.zero (.int .i64))), (y4.2.1.2.1.2.1, (y4.2.1.2.1.2.2.1, (y4.2.1.2.1.2.2.2.1, (y4.2.1.2.1.2.2.2.2.1, ()))))), ()), (y4.2.2.1, (y4.2.2.2.1, ())))
        else none)
      else
      bif (x1 == (11 : Int)) then
        (bif ib (0 : Int) (x2).length then
        bif ib ((x2).getD (Int.toNat (0 : Int)) (K.zero (.int .i64))) (y4.2.2.1).length then
        bif (((y4.2.2.1).getD (Int.toNat ((x2).getD (Int.toNat (0 : Int)) (K.zero (.int .i64)))) (K.zero (.int .i64))) == (65535 : Int)) then
          (bif ib (1 : Int) (x2).length then
          some (((0 : Int), ()), ((((x2).getD (Int.toNat (1 : Int)) (K.zero (.int .i64))), (y4.2.1.2.1.2.1, (y4.2.1.2.1.2.2.1, (y4.2.1.2.1.2.2.2.1, (y4.2.1.2.1.2.2.2.2.1, ()))))), ()), (y4.2.2.1, (y4.2.2.2.1, ())))
          else none)
        else
        some (((0 : Int), ()), ((y4.2.1.2.1.1, (y4.2.1.2.1.2.1, (y4.2.1.2.1.2.2.1, (y4.2.1.2.1.2.2.2.1, (y4.2.1.2.1.2.2.2.2.1, ()))))), ()), (y4.2.2.1, (y4.2.2.2.1, ())))
        else none
        else none)
      else
      bif (x1 == (12 : Int)) then
        (bif ib (0 : Int) (x2).length then
        (F_impl_SignOf y4.2.1.2.1.2.1 ((x2).getD (Int.toNat (0 : Int)) (K.zero (.int .i64)))).bind fun y28 =>
        some (((0 : Int), ()), ((y4.2.1.2.1.1, (y28.1.1, (y4.2.1.2.1.2.2.1, (y4.2.1.2.1.2.2.2.1, (y4.2.1.2.1.2.2.2.2.1, ()))))), ()), (y4.2.2.1, (y4.2.2.2.1, ())))
        else none)
      else
      bif (x1 == (13 : Int)) then
        (some (((0 : Int), ()), ((y4.2.1.2.1.1, (y4.2.1.2.1.2.1, (y4.2.1.2.1.2.2.1, (y4.2.1.2.1.2.2.2.1, (true, ()))))), ()), (y4.2.2.1, (y4.2.2.2.1, ()))))
      else
      some (((0 : Int), ()), ((y4.2.1.2.1.1, (y4.2.1.2.1.2.1, (y4.2.1.2.1.2.2.1, (y4.2.1.2.1.2.2.2.1, (y4.2.1.2.1.2.2.2.2.1, ()))))), ()), (y4.2.2.1, (y4.2.2.2.1, ())))
      else none)
    else
    bif (x1 == (1 : Int)) then
      (bif ib (0 : Int) (x2).length then
      bif ib (1 : Int) (x2).length then
      bif ib ((x2).getD (Int.toNat (0 : Int)) (K.zero (.int .i64))) (y3.2.2.1).length then
      some (((0 : Int), ()), ((y3.2.1.2.1.1, (y3.2.1.2.1.2.1, (y3.2.1.2.1.2.2.1, (y3.2.1.2.1.2.2.2.1, (y3.2.1.2.1.2.2.2.2.1, ()))))), ()), ((y3.2.2.1).set (Int.toNat ((x2).getD (Int.toNat (0 : Int)) (K.zero (.int .i64)))) ((x2).getD (Int.toNat (1 : Int)) (K.zero (.int .i64))), (y3.2.2.2.1, ())))
      else none
      else none
      else none)
    else
    bif (x1 == (2 : Int)) then
      (bif ib (0 : Int) (x2).length then
      bif ib (1 : Int) (x2).length then
      bif ib ((x2).getD (Int.toNat (1 : Int)) (K.zero (.int .i64))) (y3.2.2.2.1).length then
      bif ib ((x2).getD (Int.toNat (0 : Int)) (K.zero (.int .i64))) (y3.2.2.1).length then
      some (((0 : Int), ()), ((y3.2.1.2.1.1, (y3.2.1.2.1.2.1, (y3.2.1.2.1.2.2.1, (y3.2.1.2.1.2.2.2.1, (y3.2.1.2.1.2.2.2.2.1, ()))))), ()), ((y3.2.2.1).set (Int.toNat ((x2).getD (Int.toNat (0 : Int)) (K.zero (.int .i64)))) ((y3.2.2.2.1).getD (Int.toNat ((x2).getD (Int.toNat (1 : Int)) (K.zero (.int .i64)))) (K.zero (.int .i64))), (y3.2.2.2.1, ())))
      else none
      else none
      else none
      else none)
    else
    bif (x1 == (3 : Int)) then
      (bif ib (0 : Int) (x2).length then
      bif ib (1 : Int) (x2).length then
      bif ib ((x2).getD (Int.toNat (1 : Int)) (K.zero (.int .i64))) (y3.2.2.1).length then
      bif ib ((x2).getD (Int.toNat (0 : Int)) (K.zero (.int .i64))) (y3.2.2.2.1).length then
      some (((0 : Int), ()), ((y3.2.1.2.1.1, (y3.2.1.2.1.2.1, (y3.2.1.2.1.2.2.1, (y3.2.1.2.1.2.2.2.1, (y3.2.1.2.1.2.2.2.2.1, ()))))), ()), (y3.2.2.1, ((y3.2.2.2.1).set (Int.toNat ((x2).getD (Int.toNat (0 : Int)) (K.zero (.int .i64)))) ((y3.2.2.1).getD (Int.toNat ((x2).getD (Int.toNat (1 : Int)) (K.zero (.int .i64)))) (K.zero (.int .i64))), ())))
      else none
      else none
      else none
      else none)
    else
    bif (x1 == (4 : Int)) then
      (bif ib (1 : Int) (x2).length then
      bif ib ((x2).getD (Int.toNat (1 : Int)) (K.zero (.int .i64))) (y3.2.2.1).length then
      bif (x1 == (5 : Int)) then
        (bif ib (0 : Int) (x2).length then
        bif ib ((x2).getD (Int.toNat (0 : Int)) (K.zero (.int .i64))) (y3.2.2.1).length then
        (F_impl_Complement ((y3.2.2.1).getD (Int.toNat ((x2).getD (Int.toNat (0 : Int)) (K.zero (.int .i64)))) (K.zero (.int .i64)))).bind fun y29 =>
        (F_impl_SignedOf y29.1.1).bind fun y30 =>
        bif ib (3 : Int) (x2).length then
        (F_impl_within y30.1.1 (0 : Int) (IntKind.wrap .i64 (((x2).getD (Int.toNat (3 : Int)) (K.zero (.int .i64))) - (1 : Int)))).bind fun y31 =>
        bif (!y31.1.1) then
          (some (((3 : Int), ()), ((y3.2.1.2.1.1, (y3.2.1.2.1.2.1, (y3.2.1.2.1.2.2.1, (y3.2.1.2.1.2.2.2.1, (y3.2.1.2.1.2.2.2.2.1, ()))))), ()), (y3.2.2.1, (y3.2.2.2.1, ()))))
        else
        bif ib (2 : Int) (x2).length then
        (F_impl_RegMachine_do_f2 (IntKind.wrap .i64 (((x2).getD (Int.toNat (2 : Int)) (K.zero (.int .i64))) + y30.1.1)) y3.2.1.2.1.1 y3.2.1.2.1.2.1 y3.2.1.2.1.2.2.1 y3.2.1.2.1.2.2.2.1 y3.2.1.2.1.2.2.2.2.1 y3.2.2.1 y3.2.2.2.1).bind fun y32 =>
        bif (!y32.1.1) then
          (some (((1 : Int), ()), ((y32.2.1.2.1.1, (y32.2.1.2.1.2.1, (y32.2.1.2.1.2.2.1, (y32.2.1.2.1.2.2.2.1, (y32.2.1.2.1.2.2.2.2.1, ()))))), ()), (y32.2.2.1, (y32.2.2.2.1, ()))))
        else
        bif (x1 == (4 : Int)) then
          (bif ib (0 : Int) (x2).length then
          bif ib (2 : Int) (x2).length then
          bif ib (IntKind.wrap .i64 (((x2).getD (Int.toNat (2 : Int)) (K.zero (.int .i64))) + y30.1.1)) (y32.2.2.2.1).length then
          bif ib ((x2).getD (Int.toNat (0 : Int)) (K.zero (.int .i64))) (y32.2.2.1).length then
          some (((0 : Int), ()), ((y32.2.1.2.1.1, (y32.2.1.2.1.2.1, (y32.2.1.2.1.2.2.1, (y32.2.1.2.1.2.2.2.1, (y32.2.1.2.1.2.2.2.2.1, ()))))), ()), ((y32.2.2.1).set (Int.toNat ((x2).getD (Int.toNat (0 : Int)) (K.zero (.int .i64)))) ((y32.2.2.2.1).getD (Int.toNat (IntKind.wrap .i64 (((x2).getD (Int.toNat (2 : Int)) (K.zero (.int .i64))) + y30.1.1))) (K.zero (.int .i64))), (y32.2.2.2.1, ())))
          else none
          else none
          else none
          else none)
        else
        bif ib (2 : Int) (x2).length then
        bif ib (1 : Int) (x2).length then
        bif ib ((x2).getD (Int.toNat (1 : Int)) (K.zero (.int .i64))) (y32.2.2.1).length then
        bif ib (IntKind.wrap .i64 (((x2).getD (Int.toNat (2 : Int)) (K.zero (.int .i64))) + y30.1.1)) (y32.2.2.2.1).length then
        some (((0 : Int), ()), ((y32.2.1.2.1.1, (y32.2.1.2.1.2.1, (y32.2.1.2.1.2.2.1, (y32.2.1.2.1.2.2.2.1, (y32.2.1.2.1.2.2.2.2.1, ()))))), ()), (y32.2.2.1, ((y32.2.2.2.1).set (Int.toNat (IntKind.wrap .i64 (((x2).getD (Int.toNat (2 : Int)) (K.zero (.int .i64))) + y30.1.1))) ((y32.2.2.1).getD (Int.toNat ((x2).getD (Int.toNat (1 : Int)) (K.zero (.int .i64)))) (K.zero (.int .i64))), ())))
        else none
        else none
        else none
        else none
        else none
        else none
        else none
        else none)
      else
      (F_impl_Complement ((y3.2.2.1).getD (Int.toNat ((x2).getD (Int.toNat (1 : Int)) (K.zero (.int .i64)))) (K.zero (.int .i64)))).bind fun y33 =>
      (F_impl_SignedOf y33.1.1).bind fun y34 =>
      bif ib (3 : Int) (x2).length then
      (F_impl_within y34.1.1 (0 : Int) (IntKind.wrap .i64 (((x2).getD (Int.toNat (3 : Int)) (K.zero (.int .i64))) - (1 : Int)))).bind fun y35 =>
      bif (!y35.1.1) then
        (some (((3 : Int), ()), ((y3.2.1.2.1.1, (y3.2.1.2.1.2.1, (y3.2.1.2.1.2.2.1, (y3.2.1.2.1.2.2.2.1, (y3.2.1.2.1.2.2.2.2.1, ()))))), ()), (y3.2.2.1, (y3.2.2.2.1, ()))))
      else
      bif ib (2 : Int) (x2).length then
      (F_impl_RegMachine_do_f2 (IntKind.wrap .i64 (((x2).getD (Int.toNat (2 : Int)) (K.zero (.int .i64))) + y34.1.1)) y3.2.1.2.1.1 y3.2.1.2.1.2.1 y3.2.1.2.1.2.2.1 y3.2.1.2.1.2.2.2.1 y3.2.1.2.1.2.2.2.2.1 y3.2.2.1 y3.2.2.2.1).bind fun y36 =>
      bif (!y36.1.1) then
        (some (((1 : Int), ()), ((y36.2.1.2.1.1, (y36.2.1.2.1.2.1, (y36.2.1.2.1.2.2.1, (y36.2.1.2.1.2.2.2.1, (y36.2.1.2.1.2.2.2.2.1, ()))))), ()), (y36.2.2.1, (y36.2.2.2.1, ()))))
      else
      bif (x1 == (4 : Int)) then
        (bif ib (0 : Int) (x2).length then
        bif ib (2 : Int) (x2).length then
        bif ib (IntKind.wrap .i64 (((x2).getD (Int.toNat (2 : Int)) (K.zero (.int .i64))) + y34.1.1)) (y36.2.2.2.1).length then
        bif ib ((x2).getD (Int.toNat (0 : Int)) (K.zero (.int .i64))) (y36.2.2.1).length then
        some (((0 : Int), ()), ((y36.2.1.2.1.1, (y36.2.1.2.1.2.1, (y36.2.1.2.1.2.2.1, (y36.2.1.2.1.2.2.2.1, (y36.2.1.2.1.2.2.2.2.1, ()))))), ()), ((y36.2.2.1).set (Int.toNat ((x2).getD (Int.toNat (0 : Int)) (K.zero (.int .i64)))) ((y36.2.2.2.1).getD (Int.toNat (IntKind.wrap .i64 (((x2).getD (Int.toNat (2 : Int)) (K.zero (.int .i64))) + y34.1.1))) (K.zero (.int .i64))), (y36.2.2.2.1, ())))
        else none
        else none
        else none
        else none)
      else
      bif ib (2 : Int) (x2).length then
      bif ib (1 : Int) (x2).length then
      bif ib ((x2).getD (Int.toNat (1 : Int)) (K.zero (.int .i64))) (y36.2.2.1).length then
      bif ib (IntKind.wrap .i64 (((x2).getD (Int.toNat (2 : Int)) (K.zero (.int .i64))) + y34.1.1)) (y36.2.2.2.1).length then
      some (((0 : Int), ()), ((y36.2.1.2.1.1, (y36.2.1.2.1.2.1, (y36.2.1.2.1.2.2.1, (y36.2.1.2.1.2.2.2.1, (y36.2.1.2.1.2.2.2.2.1, ()))))), ()), (y36.2.2.1, ((y36.2.2.2.1).set (Int.toNat (IntKind.wrap .i64 (((x2).getD (Int.toNat (2 : Int)) (K.zero (.int .i64))) + y34.1.1))) ((y36.2.2.1).getD (Int.toNat ((x2).getD (Int.toNat (1 : Int)) (K.zero (.int .i64)))) (K.zero (.int .i64))), ())))
      else none
      else none
      else none
      else none
      else none
      else none
      else none
      else none)
    else
    bif (x1 == (5 : Int)) then
      (bif ib (1 : Int) (x2).length then
      bif ib ((x2).getD (Int.toNat (1 : Int)) (K.zero (.int .i64))) (y3.2.2.1).length then
      bif (x1 == (5 : Int)) then
        (bif ib (0 : Int) (x2).length then
        bif ib ((x2).getD (Int.toNat (0 : Int)) (K.zero (.int .i64))) (y3.2.2.1).length then
        (F_impl_Complement ((y3.2.2.1).getD (Int.toNat ((x2).getD (Int.toNat (0 : Int)) (K.zero (.int .i64)))) (K.zero (.int .i64)))).bind fun y37 =>
        (F_impl_SignedOf y37.1.1).bind fun y38 =>
        bif ib (3 : Int) (x2).length then
        (F_impl_within y38.1.1 (0 : Int) (IntKind.wrap .i64 (((x2).getD (Int.toNat (3 : Int)) (K.zero (.int .i64))) - (1 : Int)))).bind fun y39 =>
        bif (!y39.1.1) then
          (some (((3 : Int), ()), ((y3.2.1.2.1.1, (y3.2.1.2.1.2.1, (y3.2.1.2.1.2.2.1, (y3.2.1.2.1.2.2.2.1, (y3.2.1.2.1.2.2.2.2.1, ()))))), ()), (y3.2.2.1, (y3.2.2.2.1, ()))))
        else
        bif ib (2 : Int) (x2).length then
        (F_impl_RegMachine_do_f2 (IntKind.wrap .i64 (((x2).getD (Int.toNat (2 : Int)) (K.zero (.int .i64))) + y38.1.1)) y3.2.1.2.1.1 y3.2.1.2.1.2.1 y3.2.1.2.1.2.2.1 y3.2.1.2.1.2.2.2.1 y3.2.1.2.1.2.2.2.2.1 y3.2.2.1 y3.2.2.2.1).bind fun y40 =>
        bif (!y40.1.1) then
          (some (((1 : Int), ()), ((y40.2.1.2.1.1, (y40.2.1.2.1.2.1, (y40.2.1.2.1.2.2.1, (y40.2.1.2.1.2.2.2.1, (y40.2.1.2.1.2.2.2.2.1, ()))))), ()), (y40.2.2.1, (y40.2.2.2.1, ()))))
        else
        bif (x1 == (4 : Int)) then
          (bif ib (0 : Int) (x2).length then
          bif ib (2 : Int) (x2).length then
          bif ib (IntKind.wrap .i64 (((x2).getD (Int.toNat (2 : Int)) (K.zero (.int .i64))) + y38.1.1)) (y40.2.2.2.1).length then
          bif ib ((x2).getD (Int.toNat (0 : Int)) (K.zero (.int .i64))) (y40.2.2.1).length then
          some (((0 : Int), ()), ((y40.2.1.2.1.1, (y40.2.1.2.1.2.1, (y40.2.1.2.1.2.2.1, (y40.2.1.2.1.2.2.2.1, (y40.2.1.2.1.2.2.2.2.1, ()))))), ()), ((y40.2.2.1).set (Int.toNat ((x2).getD (Int.toNat (0 : Int)) (K.zero (.int .i64)))) ((y40.2.2.2.1).getD (Int.toNat (IntKind.wrap .i64 (((x2).getD (Int.toNat (2 : Int)) (K.zero (.int .i64))) + y38.1.1))) (K.zero (.int .i64))), (y40.2.2.2.1, ())))
          else none
          else none
          else none
          else none)
        else
        bif ib (2 : Int) (x2).length then
        bif ib (1 : Int) (x2).length then
        bif ib ((x2).getD (Int.toNat (1 : Int)) (K.zero (.int .i64))) (y40.2.2.1).length then
        bif ib (IntKind.wrap .i64 (((x2).getD (Int.toNat (2 : Int)) (K.zero (.int .i64))) + y38.1.1)) (y40.2.2.2.1).length then
        some (((0 : Int), ()), ((y40.2.1.2.1.1, (y40.2.1.2.1.2.1, (y40.2.1.2.1.2.2.1, (y40.2.1.2.1.2.2.2.1, (y40.2.1.2.1.2.2.2.2.1, ()))))), ()), (y40.2.2.1, ((y40.2.2.2.1).set (Int.toNat (IntKind.wrap .i64 (((x2).getD (Int.toNat (2 : Int)) (K.zero (.int .i64))) + y38.1.1))) ((y40.2.2.1).getD (Int.toNat ((x2).getD (Int.toNat (1 : Int)) (K.zero (.int .i64)))) (K.zero (.int .i64))), ())))
        else none
        else none
        else none
        else none
        else none
        else none
        else none
        else none)
      else
      (F_impl_Complement ((y3.2.2.1).getD (Int.toNat ((x2).getD (Int.toNat (1 : Int)) (K.zero (.int .i64)))) (K.zero (.int .i64)))).bind fun y41 =>
      (F_impl_SignedOf y41.1.1).bind fun y42 =>
      bif ib (3 : Int) (x2).length then
      (F_impl_within y42.1.1 (0 : Int) (IntKind.wrap .i64 (((x2).getD (Int.toNat (3 : Int)) (K.zero (.int .i64))) - (1 : Int)))).bind fun y43 =>
      bif (!y43.1.1) then
        (some (((3 : Int), ()), ((y3.2.1.2.1.1, (y3.2.1.2.1.2.1, (y3.2.1.2.1.2.2.1, (y3.2.1.2.1.2.2.2.1, (y3.2.1.2.1.2.2.2.2.1, ()))))), ()), (y3.2.2.1, (y3.2.2.2.1, ()))))
      else
      bif ib (2 : Int) (x2).length then
      (F_impl_RegMachine_do_f2 (IntKind.wrap .i64 (((x2).getD (Int.toNat (2 : Int)) (K.zero (.int .i64))) + y42.1.1)) y3.2.1.2.1.1 y3.2.1.2.1.2.1 y3.2.1.2.1.2.2.1 y3.2.1.2.1.2.2.2.1 y3.2.1.2.1.2.2.2.2.1 y3.2.2.1 y3.2.2.2.1).bind fun y44 =>
      bif (!y44.1.1) then
        (some (((1 : Int), ()), ((y44.2.1.2.1.1, (y44.2.1.2.1.2.1, (y44.2.1.2.1.2.2.1, (y44.2.1.2.1.2.2.2.1, (y44.2.1.2.1.2.2.2.2.1, ()))))), ()), (y44.2.2.1, (y44.2.2.2.1, ()))))
      else
      bif (x1 == (4 : Int)) then
        (bif ib (0 : Int) (x2).length then
        bif ib (2 : Int) (x2).length then
        bif ib (IntKind.wrap .i64 (((x2).getD (Int.toNat (2 : Int)) (K.zero (.int .i64))) + y42.1.1)) (y44.2.2.2.1).length then
        bif ib ((x2).getD (Int.toNat (0 : Int)) (K.zero (.int .i64))) (y44.2.2.1).length then
        some (((0 : Int), ()), ((y44.2.1.2.1.1, (y44.2.1.2.1.2.1, (y44.2.1.2.1.2.2.1, (y44.2.1.2.1.2.2.2.1, (y44.2.1.2.1.2.2.2.2.1, ()))))), ()), ((y44.2.2.1).set (Int.toNat ((x2).getD (Int.toNat (0 : Int)) (K.zero (.int .i64)))) ((y44.2.2.2.1).getD (Int.toNat (IntKind.wrap .i64 (((x2).getD (Int.toNat (2 : Int)) (K.zero (.int .i64))) + y42.1.1))) (K.zero (.int .i64))), (y44.2.2.2.1, ())))
        else none
        else none
        else none
        else none)
      else
      bif ib (2 : Int) (x2).length then
      bif ib (1 : Int) (x2).length then
      bif ib ((x2).getD (Int.toNat (1 : Int)) (K.zero (.int .i64))) (y44.2.2.1).length then
      bif ib (IntKind.wrap .i64 (((x2).getD (Int.toNat (2 : Int)) (K.zero (.int .i64))) + y42.1.1)) (y44.2.2.2.1).length then
      some (((0 : Int), ()), ((y44.2.1.2.1.1, (y44.2.1.2.1.2.1, (y44.2.1.2.1.2.2.1, (y44.2.1.2.1.2.2.2.1, (y44.2.1.2.1.2.2.2.2.1, ()))))), ()), (y44.2.2.1, ((y44.2.2.2.1).set (Int.toNat (IntKind.wrap .i64 (((x2).getD (Int.toNat (2 : Int)) (K.zero (.int .i64))) + y42.1.1))) ((y44.2.2.1).getD (Int.toNat ((x2).getD (Int.toNat (1 : Int)) (K.zero (.int .i64)))) (K.zero (.int .i64))), ())))
      else none
      else none
      else none
      else none
      else none
      else none
      else none
      else none)
    else
    bif (x1 == (6 : Int)) then
      (bif ib (3 : Int) (x2).length then
      bif ib (1 : Int) (x2).length then
      bif ib ((x2).getD (Int.toNat (1 : Int)) (K.zero (.int .i64))) (y3.2.2.1).length then
      bif ib (2 : Int) (x2).length then
      bif ib ((x2).getD (Int.toNat (2 : Int)) (K.zero (.int .i64))) (y3.2.2.1).length then
      (F_impl_BinaryInv ((x2).getD (Int.toNat (3 : Int)) (K.zero (.int .i64))) ((y3.2.2.1).getD (Int.toNat ((x2).getD (Int.toNat (1 : Int)) (K.zero (.int .i64)))) (K.zero (.int .i64))) ((y3.2.2.1).getD (Int.toNat ((x2).getD (Int.toNat (2 : Int)) (K.zero (.int .i64)))) (K.zero (.int .i64)))).bind fun y45 =>
      bif (y45.1.1.1 == (0 : Int)) then
        (bif ib (0 : Int) (x2).length then
        bif ib ((x2).getD (Int.toNat (0 : Int)) (K.zero (.int .i64))) (y3.2.2.1).length then
        some (((0 : Int), ()), ((y3.2.1.2.1.1, (y3.2.1.2.1.2.1, (y3.2.1.2.1.2.2.1, (y3.2.1.2.1.2.2.2.1, (y3.2.1.2.1.2.2.2.2.1, ()))))), ()), ((y3.2.2.1).set (Int.toNat ((x2).getD (Int.toNat (0 : Int)) (K.zero (.int .i64)))) y45.1.1.2, (y3.2.2.2.1, ())))
        else none
        else none)
      else
      bif (y45.1.1.1 == (3 : Int)) then
        (some (((1 : Int), ()), ((y3.2.1.2.1.1, (y3.2.1.2.1.2.1, (y3.2.1.2.1.2.2.1, (y3.2.1.2.1.2.2.2.1, (y3.2.1.2.1.2.2.2.2.1, ()))))), ()), (y3.2.2.1, (y3.2.2.2.1, ()))))
      else
      some ((y45.1.1.1, ()), ((y3.2.1.2.1.1, (y3.2.1.2.1.2.1, (y3.2.1.2.1.2.2.1, (y3.2.1.2.1.2.2.2.1, (y3.2.1.2.1.2.2.2.2.1, ()))))), ()), (y3.2.2.1, (y3.2.2.2.1, ())))
      else none
      else none
      else none
      else none
      else none)
    else
    bif (x1 == (7 : Int)) then
      (bif ib (0 : Int) (x2).length then
      bif ib (1 : Int) (x2).length then
      bif ib ((x2).getD (Int.toNat (1 : Int)) (K.zero (.int .i64))) (y3.2.2.1).length then
      (F_impl_Complement ((y3.2.2.1).getD (Int.toNat ((x2).getD (Int.toNat (1 : Int)) (K.zero (.int .i64)))) (K.zero (.int .i64)))).bind fun y46 =>
      (F_impl_NegOf y46.1.1).bind fun y47 =>
      (F_impl_Complement y47.1.1).bind fun y48 =>
      bif ib ((x2).getD (Int.toNat (0 : Int)) (K.zero (.int .i64))) (y3.2.2.1).length then
      some (((0 : Int), ()), ((y3.2.1.2.1.1, (y3.2.1.2.1.2.1, (y3.2.1.2.1.2.2.1, (y3.2.1.2.1.2.2.2.1, (y3.2.1.2.1.2.2.2.2.1, ()))))), ()), ((y3.2.2.1).set (Int.toNat ((x2).getD (Int.toNat (0 : Int)) (K.zero (.int .i64)))) y48.1.1, (y3.2.2.2.1, ())))
      else none
      else none
      else none
      else none)
    else
    bif (x1 == (8 : Int)) then
      (bif ib (0 : Int) (x2).length then
      bif ib (1 : Int) (x2).length then
      bif ib ((x2).getD (Int.toNat (1 : Int)) (K.zero (.int .i64))) (y3.2.2.1).length then
      (F_impl_Complement ((y3.2.2.1).getD (Int.toNat ((x2).getD (Int.toNat (1 : Int)) (K.zero (.int .i64)))) (K.zero (.int .i64)))).bind fun y49 =>
      (F_impl_NotOf y49.1.1).bind fun y50 =>
      (F_impl_Complement y50.1.1).bind fun y51 =>
      bif ib ((x2).getD (Int.toNat (0 : Int)) (K.zero (.int .i64))) (y3.2.2.1).length then
      some (((0 : Int), ()), ((y3.2.1.2.1.1, (y3.2.1.2.1.2.1, (y3.2.1.2.1.2.2.1, (y3.2.1.2.1.2.2.2.1, (y3.2.1.2.1.2.2.2.2.1, ()))))), ()), ((y3.2.2.1).set (Int.toNat ((x2).getD (Int.toNat (0 : Int)) (K.zero (.int .i64)))) y51.1.1, (y3.2.2.2.1, ())))
      else none
      else none
      else none
      else none)
    else
    bif (x1 == (9 : Int)) then
      (bif ib (0 : Int) (x2).length then
      bif ib ((x2).getD (Int.toNat (0 : Int)) (K.zero (.int .i64))) (y3.2.2.1).length then
      bif (((y3.2.2.1).getD (Int.toNat ((x2).getD (Int.toNat (0 : Int)) (K.zero (.int .i64)))) (K.zero (.int .i64))) != (65535 : Int)) then
        (bif ib (0 : Int) (x2).length then
        bif ib ((x2).getD (Int.toNat (0 : Int)) (K.zero (.int .i64))) (y3.2.2.1).length then
        some (((0 : Int), ()), ((y3.2.1.2.1.1, (y3.2.1.2.1.2.1, (y3.2.1.2.1.2.2.1, (y3.2.1.2.1.2.2.2.1, (y3.2.1.2.1.2.2.2.2.1, ()))))), ()), ((y3.2.2.1).set (Int.toNat ((x2).getD (Int.toNat (0 : Int)) (K.zero (.int .i64)))) (65534 : Int), (y3.2.2.2.1, ())))
        else none
        else none)
      else
      some (((0 : Int), ()), ((y3.2.1.2.1.1, (y3.2.1.2.1.2.1, (y3.2.1.2.1.2.2.1, (y3.2.1.2.1.2.2.2.1, (y3.2.1.2.1.2.2.2.2.1, ()))))), ()), (y3.2.2.1, (y3.2.2.2.1, ())))
      else none
      else none)
    else
    bif (x1 == (10 : Int)) then
      (bif ib (0 : Int) (x2).length then
      some (((0 : Int), ()), ((((x2).getD (Int.toNat (0 : Int)) (K.zero (.int .i64))), (y3.2.1.2.1.2.1, (y3.2.1.2.1.2.2.1, (y3.2.1.2.1.2.2.2.1, (y3.2.1.2.1.2.2.2.2.1, ()))))), ()), (y3.2.2.1, (y3.2.2.2.1, ())))
      else none)
    else
    bif (x1 == (11 : Int)) then
      (bif ib (0 : Int) (x2).length then
      bif ib ((x2).getD (Int.toNat (0 : Int)) (K.zero (.int .i64))) (y3.2.2.1).length then
      bif (((y3.2.2.1).getD (Int.toNat ((x2).getD (Int.toNat (0 : Int)) (K.zero (.int .i64)))) (K.zero (.int .i64))) == (65535 : Int)) then
        (bif ib (1 : Int) (x2).length then
        some (((0 : Int), ()), ((((x2).getD (Int.toNat (1 : Int)) (K.zero (.int .i64))), (y3.2.1.2.1.2.1, (y3.2.1.2.1.2.2.1, (y3.2.1.2.1.2.2.2.1, (y3.2.1.2.1.2.2.2.2.1, ()))))), ()), (y3.2.2.1, (y3.2.2.2.1, ())))
        else none)
      else
      some (((0 : Int), ()), ((y3.2.1.2.1.1, (y3.2.1.2.1.2.1, (y3.2.1.2.1.2.2.1, (y3.2.1.2.1.2.2.2.1, (y3.2.1.2.1.2.2.2.2.1, ()))))), ()), (y3.2.2.1, (y3.2.2.2.1, ())))
      else none
      else none)
    else
    bif (x1 == (12 : Int)) then
      (bif ib (0 : Int) (x2).length then
      (F_impl_SignOf y3.2.1.2.1.2.1 ((x2).getD (Int.toNat (0 : Int)) (K.zero (.int .i64)))).bind fun y52 =>
      some (((0 : Int), ()), ((y3.2.1.2.1.1, (y52.1.1, (y3.2.1.2.1.2.2.1, (y3.2.1.2.1.2.2.2.1, (y3.2.1.2.1.2.2.2.2.1, ()))))), ()), (y3.2.2.1, (y3.2.2.2.1, ())))
      else none)
    else
    bif (x1 == (13 : Int)) then
      (some (((0 : Int), ()), ((y3.2.1.2.1.1, (y3.2.1.2.1.2.1, (y3.2.1.2.1.2.2.1, (y3.2.1.2.1.2.2.2.1, (true, ()))))), ()), (y3.2.2.1, (y3.2.2.2.1, ()))))
    else
    some (((0 : Int), ()), ((y3.2.1.2.1.1, (y3.2.1.2.1.2.1, (y3.2.1.2.1.2.2.1, (y3.2.1.2.1.2.2.2.1, (y3.2.1.2.1.2.2.2.2.1, ()))))), ()), (y3.2.2.1, (y3.2.2.2.1, ())))
    else none)
  else
  bif (x1 == (3 : Int)) then
    (bif ib (0 : Int) (x2).length then
    (F_impl_RegMachine_do_f2 ((x2).getD (Int.toNat (0 : Int)) (K.zero (.int .i64))) x3 x4 x5 x6 x7 x8 x9).bind fun y53 =>
    bif (!y53.1.1) then
      (some (((1 : Int), ()), ((y53.2.1.2.1.1, (y53.2.1.2.1.2.1, (y53.2.1.2.1.2.2.1, (y53.2.1.2.1.2.2.2.1, (y53.2.1.2.1.2.2.2.2.1, ()))))), ()), (y53.2.2.1, (y53.2.2.2.1, ()))))
    else
    bif (x1 == (1 : Int)) then
      (bif ib (0 : Int) (x2).length then
      bif ib (1 : Int) (x2).length then
      bif ib ((x2).getD (Int.toNat (0 : Int)) (K.zero (.int .i64))) (y53.2.2.1).length then
      some (((0 : Int), ()), ((y53.2.1.2.1.1, (y53.2.1.2.1.2.1, (y53.2.1.2.1.2.2.1, (y53.2.1.2.1.2.2.2.1, (y53.2.1.2.1.2.2.2.2.1, ()))))), ()), ((y53.2.2.1).set (Int.toNat ((x2).getD (Int.toNat (0 : Int)) (K.zero (.int .i64)))) ((x2).getD (Int.toNat (1 : Int)) (K.zero (.int .i64))), (y53.2.2.2.1, ())))
      else none
      else none
      else none)
    else
    bif (x1 == (2 : Int)) then
      (bif ib (0 : Int) (x2).length then
      bif ib (1 : Int) (x2).length then
      bif ib ((x2).getD (Int.toNat (1 : Int)) (K.zero (.int .i64))) (y53.2.2.2.1).length then
      bif ib ((x2).getD (Int.toNat (0 : Int)) (K.zero (.int .i64))) (y53.2.2.1).length then
      some (((0 : Int), ()), ((y53.2.1.2.1.1, (y53.2.1.2.1.2.1, (y53.2.1.2.1.2.2.1, (y53.2.1.2.1.2.2.2.1, (y53.2.1.2.1.2.2.2.2.1, ()))))), ()), ((y53.2.2.1).set (Int.toNat ((x2).getD (Int.toNat (0 : Int)) (K.zero (.int .i64)))) ((y53.2.2.2.1).getD (Int.toNat ((x2).getD (Int.toNat (1 : Int)) (K.zero (.int .i64)))) (K.zero (.int .i64))), (y53.2.2.2.1, ())))
      else none
      else none
      else none
      else none)
    else
    bif (x1 == (3 : Int)) then
      (bif ib (0 : Int) (x2).length then
      bif ib (1 : Int) (x2).length then
      bif ib ((x2).getD (Int.toNat (1 : Int)) (K.zero (.int .i64))) (y53.2.2.1).length then
      bif ib ((x2).getD (Int.toNat (0 : Int)) (K.zero (.int .i64))) (y53.2.2.2.1).length then
      some (((0 : Int), ()), ((y53.2.1.2.1.1, (y53.2.1.2.1.2.1, (y53.2.1.2.1.2.2.1, (y53.2.1.2.1.2.2.2.1, (y53.2.1.2.1.2.2.2.2.1, ()))))), ()), (y53.2.2.1, ((y53.2.2.2.1).set (Int.toNat ((x2).getD (Int.toNat (0 : Int)) (K.zero (.int .i64)))) ((y53.2.2.1).getD (Int.toNat ((x2).getD (Int.toNat (1 : Int)) (K.zero (.int .i64)))) (K.zero (.int .i64))), ())))
      else none
      else none
      else none
      else none)
    else
    bif (x1 == (4 : Int)) then
      (bif ib (1 : Int) (x2).length then
      bif ib ((x2).getD (Int.toNat (1 : Int)) (K.zero (.int .i64))) (y53.2.2.1).length then
      bif (x1 == (5 : Int)) then
        (bif ib (0 : Int) (x2).length then
        bif ib ((x2).getD (Int.toNat (0 : Int)) (K.zero (.int .i64))) (y53.2.2.1).length then
        (F_impl_Complement ((y53.2.2.1).getD (Int.toNat ((x2).getD (Int.toNat (0 : Int)) (K.zero (.int .i64)))) (K.zero (.int .i64)))).bind fun y54 =>
        (F_impl_SignedOf y54.1.1).bind fun y55 =>
        bif ib (3 : Int) (x2).length then
        (F_impl_within y55.1.1 (0 : Int) (IntKind.wrap .i64 (((x2).getD (Int.toNat (3 : Int)) (K.zero (.int .i64))) - (1 : Int)))).bind fun y56 =>
        bif (!y56.1.1) then
          (some (((3 : Int), ()), ((y53.2.1.2.1.1, (y53.2.1.2.1.2.1, (y53.2.1.2.1.2.2.1, (y53.2.1.2.1.2.2.2.1, (y53.2.1.2.1.2.2.2.2.1, ()))))), ()), (y53.2.2.1, (y53.2.2.2.1, ()))))
        else
        bif ib (2 : Int) (x2).length then
        (F_impl_RegMachine_do_f2 (IntKind.wrap .i64 (((x2).getD (Int.toNat (2 : Int)) (K.zero (.int .i64))) + y55.1.1)) y53.2.1.2.1.1 y53.2.1.2.1.2.1 y53.2.1.2.1.2.2.1 y53.2.1.2.1.2.2.2.1 y53.2.1.2.1.2.2.2.2.1 y53.2.2.1 y53.2.2.2.1).bind fun y57 =>
        bif (!y57.1.1) then
          (some (((1 : Int), ()), ((y57.2.1.2.1.1, (y57.2.1.2.1.2.1, (y57.2.1.2.1.2.2.1, (y57.2.1.2.1.2.2.2.1, (y57.2.1.2.1.2.2.2.2.1, ()))))), ()), (y57.2.2.1, (y57.2.2.2.1, ()))))
        else
        bif (x1 == (4 : Int)) then
          (bif ib (0 : Int) (x2).length then
          bif ib (2 : Int) (x2).length then
          bif ib (IntKind.wrap .i64 (((x2).getD (Int.toNat (2 : Int)) (K.zero (.int .i64))) + y55.1.1)) (y57.2.2.2.1).length then
          bif ib ((x2).getD (Int.toNat (0 : Int)) (K.zero (.int .i64))) (y57.2.2.1).length then
          some (((0 : Int), ()), ((y57.2.1.2.1.1, (y57.2.1.2.1.2.1, (y57.2.1.2.1.2.2.1, (y57.2.1.2.1.2.2.2.1, (y57.2.1.2.1.2.2.2.2.1, ()))))), ()), ((y57.2.2.1).set (Int.toNat ((x2).getD (Int.toNat (0 : Int)) (K.zero (.int .i64)))) ((y57.2.2.2.1).getD (Int.toNat (IntKind.wrap .i64 (((x2).getD (Int.toNat (2 : Int)) (K.zero (.int .i64))) + y55.1.1))) (K.zero (.int .i64))), (y57.2.2.2.1, ())))
          else none
          else none
          else none
          else none)
        else
        bif ib (2 : Int) (x2).length then
        bif ib (1 : Int) (x2).length then
        bif ib ((x2).getD (Int.toNat (1 : Int)) (K.zero (.int .i64))) (y57.2.2.1).length then
        bif ib (IntKind.wrap .i64 (((x2).getD (Int.toNat (2 : Int)) (K.zero (.int .i64))) + y55.1.1)) (y57.2.2.2.1).length then
        some (((0 : Int), ()), ((y57.2.1.2.1.1, (y57.2.1.2.1.2.1, (y57.2.1.2.1.2.2.1, (y57.2.1.2.1.2.2.2.1, (y57.2.1.2.1.2.2.2.2.1, ()))))), ()), (y57.2.2.1, ((y57.2.2.2.1).set (Int.toNat (IntKind.wrap .i64 (((x2).getD (Int.toNat (2 : Int)) (K.zero (.int .i64))) + y55.1.1))) ((y57.2.2.1).getD (Int.toNat ((x2).getD (Int.toNat (1 : Int)) (K.zero (.int .i64)))) (K.zero (.int .i64))), ())))
        else none
        else none
        else none
        else none
        else none
        else none
        else none
        else none)
      else
      (F_impl_Complement ((y53.2.2.1).getD (Int.toNat ((x2).getD (Int.toNat (1 : Int)) (K.zero (.int .i64)))) (K.zero (.int .i64)))).bind fun y58 =>
      (F_impl_SignedOf y58.1.1).bind fun y59 =>
      bif ib (3 : Int) (x2).length then
      (F_impl_within y59.1.1 (0 : Int) (IntKind.wrap .i64 (((x2).getD (Int.toNat (3 : Int)) (K.zero (.int .i64))) - (1 : Int)))).bind fun y60 =>
      bif (!y60.1.1) then
        (some (((3 : Int), ()), ((y53.2.1.2.1.1, (y53.2.1.2.1.2.1, (y53.2.1.2.1.2.2.1, (y53.2.1.2.1.2.2.2.1, (y53.2.1.2.1.2.2.2.2.1, ()))))), ()), (y53.2.2.1, (y53.2.2.2.1, ()))))
      else
      bif ib (2 : Int) (x2).length then
      (F_impl_RegMachine_do_f2 (IntKind.wrap .i64 (((x2).getD (Int.toNat (2 : Int)) (K.zero (.int .i64))) + y59.1.1)) y53.2.1.2.1.1 y53.2.1.2.1.2.1 y53.2.1.2.1.2.2.1 y53.2.1.2.1.2.2.2.1 y53.2.1.2.1.2.2.2.2.1 y53.2.2.1 y53.2.2.2.1).bind fun y61 =>
      bif (!y61.1.1) then
        (some (((1 : Int), ()), ((y61.2.1.2.1.1, (y61.2.1.2.1.2.1, (y61.2.1.2.1.2.2.1, (y61.2.1.2.1.2.2.2.1, (y61.2.1.2.1.2.2.2.2.1, ()))))), ()), (y61.2.2.1, (y61.2.2.2.1, ()))))
      else
      bif (x1 == (4 : Int)) then
        (bif ib (0 : Int) (x2).length then
        bif ib (2 : Int) (x2).length then
        bif ib (IntKind.wrap .i64 (((x2).getD (Int.toNat (2 : Int)) (K.zero (.int .i64))) + y59.1.1)) (y61.2.2.2.1).length then
        bif ib ((x2).getD (Int.toNat (0 : Int)) (K.zero (.int .i64))) (y61.2.2.1).length then
        some (((0 : Int), ()), ((y61.2.1.2.1.1, (y61.2.1.2.1.2.1, (y61.2.1.2.1.2.2.1, (y61.2.1.2.1.2.2.2.1, (y61.2.1.2.1.2.2.2.2.1, ()))))), ()), ((y61.2.2.1).set (Int.toNat ((x2).getD (Int.toNat (0 : Int)) (K.zero (.int .i64)))) ((y61.2.2.2.1).getD (Int.toNat (IntKind.wrap .i64 (((x2).getD (Int.toNat (2 : Int)) (K.zero (.int .i64))) + y59.1.1))) (K.zero (.int .i64))), (y61.2.2.2.1, ())))
        else none
        else none
        else none
        else none)
      else
      bif ib (2 : Int) (x2).length then
      bif ib (1 : Int) (x2).length then
      bif ib ((x2).getD (Int.toNat (1 : Int)) (K.zero (.int .i64))) (y61.2.2.1).length then
      bif ib (IntKind.wrap .i64 (((x2).getD (Int.toNat (2 : Int)) (K.zero (.int .i64))) + y59.1.1)) (y61.2.2.2.1).length then
      some (((0 : Int), ()), ((y61.2.1.2.1.1, (y61.2.1.2.1.2.1, (y61.2.1.2.1.2.2.1, (y61.2.1.2.1.2.2.2.1, (y61.2.1.2.1.2.2.2.2.1, ()))))), ()), (y61.2.2.1, ((y61.2.2.2.1).set (Int.toNat (IntKind.wrap .i64 (((x2).getD (Int.toNat (2 : Int)) (K.zero (.int .i64))) + y59.1.1))) ((y61.2.2.1).getD (Int.toNat ((x2).getD (Int.toNat (1 : Int)) (K.zero (.int .i64)))) (K.zero (.int .i64))), ())))
      else none
      else none
      else none
      else none
      else none
      else none
      else none
      else none)
    else
    bif (x1 == (5 : Int)) then
      (bif ib (1 : Int) (x2).length then
      bif ib ((x2).getD (Int.toNat (1 : Int)) (K.zero (.int .i64))) (y53.2.2.1).length then
      bif (x1 == (5 : Int)) then
        (bif ib (0 : Int) (x2).length then
        bif ib ((x2).getD (Int.toNat (0 : Int)) (K.zero (.int .i64))) (y53.2.2.1).length then
        (F_impl_Complement ((y53.2.2.1).getD (Int.toNat ((x2).getD (Int.toNat (0 : Int)) (K.zero (.int .i64)))) (K.zero (.int .i64)))).bind fun y62 =>
        (F_impl_SignedOf y62.1.1).bind fun y63 =>
        bif ib (3 : Int) (x2).length then
        (F_impl_within y63.1.1 (0 : Int) (IntKind.wrap .i64 (((x2).getD (Int.toNat (3 : Int)) (K.zero (.int .i64))) - (1 : Int)))).bind fun y64 =>
        bif (!y64.1.1) then
          (some (((3 : Int), ()), ((y53.2.1.2.1.1, (y53.2.1.2.1.2.1, (y53.2.1.2.1.2.2.1, (y53.2.1.2.1.2.2.2.1, (y53.2.1.2.1.2.2.2.2.1, ()))))), ()), (y53.2.2.1, (y53.2.2.2.1, ()))))
        else
        bif ib (2 : Int) (x2).length then
        (F_impl_RegMachine_do_f2 (IntKind.wrap .i64 (((x2).getD (Int.toNat (2 : Int)) (K.zero (.int .i64))) + y63.1.1)) y53.2.1.2.1.1 y53.2.1.2.1.2.1 y53.2.1.2.1.2.2.1 y53.2.1.2.1.2.2.2.1 y53.2.1.2.1.2.2.2.2.1 y53.2.2.1 y53.2.2.2.1).bind fun y65 =>
        bif (!y65.1.1) then
          (some (((1 : Int), ()), ((y65.2.1.2.1.1, (y65.2.1.2.1.2.1, (y65.2.1.2.1.2.2.1, (y65.2.1.2.1.2.2.2.1, (y65.2.1.2.1.2.2.2.2.1, ()))))), ()), (y65.2.2.1, (y65.2.2.2.1, ()))))
        else
        bif (x1 == (4 : Int)) then
          (bif ib (0 : Int) (x2).length then
          bif ib (2 : Int) (x2).length then
          bif ib (IntKind.wrap .i64 (((x2).getD (Int.toNat (2 : Int)) (K.zero (.int .i64))) + y63.1.1)) (y65.2.2.2.1).length then
          bif ib ((x2).getD (Int.toNat (0 : Int)) (K.zero (.int .i64))) (y65.2.2.1).length then
          some (((0 : Int), ()), ((y65.2.1.2.1.1, (y65.2.1.2.1.2.1, (y65.2.1.2.1.2.2.1, (y65.2.1.2.1.2.2.2.1, (y65.2.1.2.1.2.2.2.2.1, ()))))), ()), ((y65.2.2.1).set (Int.toNat ((x2).getD (Int.toNat (0 : Int)) (K.zero (.int .i64)))) ((y65.2.2.2.1).getD (Int.toNat (IntKind.wrap .i64 (((x2).getD (Int.toNat (2 : Int)) (K.zero (.int .i64))) + y63.1.1))) (K.zero (.int .i64))), (y65.2.2.2.1, ())))
          else none
          else none
          else none
          else none)
        else
        bif ib (2 : Int) (x2).length then
        bif ib (1 : Int) (x2).length then
        bif ib ((x2).getD (Int.toNat (1 : Int)) (K.zero (.int .i64))) (y65.2.2.1).length then
        bif ib (IntKind.wrap .i64 (((x2).getD (Int.toNat (2 : Int)) (K.zero (.int .i64))) + y63.1.1)) (y65.2.2.2.1).length then
        some (((0 : Int), ()), ((y65.2.1.2.1.1, (y65.2.1.2.1.2.1, (y65.2.1.2.1.2.2.1, (y65.2.1.2.1.2.2.2.1, (y65.2.1.2.1.2.2.2.2.1, ()))))), ()), (y65.2.2.1, ((y65.2.2.2.1).set (Int.toNat (IntKind.wrap .i64 (((x2).getD (Int.toNat (2 : Int)) (K.zero (.int .i64))) + y63.1.1))) ((y65.2.2.1).getD (Int.toNat ((x2).getD (Int.toNat (1 : Int)) (K.zero (.int .i64)))) (K.zero (.int .i64))), ())))
        else none
        else none
        else none
        else none
        else none
        else none
        else none
        else none)
      else
      (F_impl_Complement ((y53.2.2.1).getD (Int.toNat ((x2).getD (Int.toNat (1 : Int)) (K.zero (.int .i64)))) (K.zero (.int .i64)))).bind fun y66 =>
      (F_impl_SignedOf y66.1.1).bind fun y67 =>
      bif ib (3 : Int) (x2).length then
      (F_impl_within y67.1.1 (0 : Int) (IntKind.wrap .i64 (((x2).getD (Int.toNat (3 : Int)) (K.zero (.int .i64))) - (1 : Int)))).bind fun y68 =>
      bif (!y68.1.1) then
        (some (((3 : Int), ()), ((y53.2.1.2.1.1, (y53.2.1.2.1.2.1, (y53.2.1.2.1.2.2.1, (y53.2.1.2.1.2.2.2.1, (y53.2.1.2.1.2.2.2.2.1, ()))))), ()), (y53.2.2.1, (y53.2.2.2.1, ()))))
      else
      bif ib (2 : Int) (x2).length then
      (F_impl_RegMachine_do_f2 (IntKind.wrap .i64 (((x2).getD (Int.toNat (2 : Int)) (K.zero (.int .i64))) + y67.1.1)) y53.2.1.2.1.1 y53.2.1.2.1.2.1 y53.2.1.2.1.2.2.1 y53.2.1.2.1.2.2.2.1 y53.2.1.2.1.2.2.2.2.1 y53.2.2.1 y53.2.2.2.1).bind fun y69 =>
      bif (!y69.1.1) then
        (some (((1 : Int), ()), ((y69.2.1.2.1.1, (y69.2.1.2.1.2.1, (y69.2.1.2.1.2.2.1, (y69.2.1.2.1.2.2.2.1, (y69.2.1.2.1.2.2.2.2.1, ()))))), ()), (y69.2.2.1, (y69.2.2.2.1, ()))))
      else
      bif (x1 == (4 : Int)) then
        (bif ib (0 : Int) (x2).length then
        bif ib (2 : Int) (x2).length then
        bif ib (IntKind.wrap .i64 (((x2).getD (Int.toNat (2 : Int)) (K.zero (.int .i64))) + y67.1.1)) (y69.2.2.2.1).length then
        bif ib ((x2).getD (Int.toNat (0 : Int)) (K.zero (.int .i64))) (y69.2.2.1).length then
        some (((0 : Int), ()), ((y69.2.1.2.1.1, (y69.2.1.2.1.2.1, (y69.2.1.2.1.2.2.1, (y69.2.1.2.1.2.2.2.1, (y69.2.1.2.1.2.2.2.2.1, ()))))), ()), ((y69.2.2.1).set (Int.toNat ((x2).getD (Int.toNat (0 : Int)) (K.zero (.int .i64)))) ((y69.2.2.2.1).getD (Int.toNat (IntKind.wrap .i64 (((x2).getD (Int.toNat (2 : Int)) (K.zero (.int .i64))) + y67.1.1))) (K.zero (.int .i64))), (y69.2.2.2.1, ())))
        else none
        else none
        else none
        else none)
      else
      bif ib (2 : Int) (x2).length then
      bif ib (1 : Int) (x2).length then
      bif ib ((x2).getD (Int.toNat (1 : Int)) (K.zero (.int .i64))) (y69.2.2.1).length then
      bif ib (IntKind.wrap .i64 (((x2).getD (Int.toNat (2 : Int)) (K.zero (.int .i64))) + y67.1.1)) (y69.2.2.2.1).length then
      some (((0 : Int), ()), ((y69.2.1.2.1.1, (y69.2.1.2.1.2.1, (y69.2.1.2.1.2.2.1, (y69.2.1.2.1.2.2.2.1, (y69.2.1.2.1.2.2.2.2.1, ()))))), ()), (y69.2.2.1, ((y69.2.2.2.1).set (Int.toNat (IntKind.wrap .i64 (((x2).getD (Int.toNat (2 : Int)) (K.zero (.int .i64))) + y67.1.1))) ((y69.2.2.1).getD (Int.toNat ((x2).getD (Int.toNat (1 : Int)) (K.zero (.int .i64)))) (K.zero (.int .i64))), ())))
      else none
      else none
      else none
      else none
      else none
      else none
      else none
      else none)
    else
    bif (x1 == (6 : Int)) then
      (bif ib (3 : Int) (x2).length then
      bif ib (1 : Int) (x2).length then
      bif ib ((x2).getD (Int.toNat (1 : Int)) (K.zero (.int .i64))) (y53.2.2.1).length then
      bif ib (2 : Int) (x2).length then
      bif ib ((x2).getD (Int.toNat (2 : Int)) (K.zero (.int .i64))) (y53.2.2.1).length then
      (F_impl_BinaryInv ((x2).getD (Int.toNat (3 : Int)) (K.zero (.int .i64))) ((y53.2.2.1).getD (Int.toNat ((x2).getD (Int.toNat (1 : Int)) (K.zero (.int .i64)))) (K.zero (.int .i64))) ((y53.2.2.1).getD (Int.toNat ((x2).getD (Int.toNat (2 : Int)) (K.zero (.int .i64)))) (K.zero (.int .i64)))).bind fun y70 =>
      bif (y70.1.1.1 == (0 : Int)) then
        (bif ib (0 : Int) (x2).length then
        bif ib ((x2).getD (Int.toNat (0 : Int)) (K.zero (.int .i64))) (y53.2.2.1).length then
        some (((0 : Int), ()), ((y53.2.1.2.1.1, (y53.2.1.2.1.2.1, (y53.2.1.2.1.2.2.1, (y53.2.1.2.1.2.2.2.1, (y53.2.1.2.1.2.2.2.2.1, ()))))), ()), ((y53.2.2.1).set (Int.toNat ((x2).getD (Int.toNat (0 : Int)) (K.zero (.int .i64)))) y70.1.1.2, (y53.2.2.2.1, ())))
        else none
        else none)
      else
      bif (y70.1.1.1 == (3 : Int)) then
        (some (((1 : Int), ()), ((y53.2.1.2.1.1, (y53.2.1.2.1.2.1, (y53.2.1.2.1.2.2.1, (y53.2.1.2.1.2.2.2.1, (y53.2.1.2.1.2.2.2.2.1, ()))))), ()), (y53.2.2.1, (y53.2.2.2.1, ()))))
      else
      some ((y70.1.1.1, ()), ((y53.2.1.2.1.1, (y53.2.1.2.1.2.1, (y53.2.1.2.1.2.2.1, (y53.2.1.2.1.2.2.2.1, (y53.2.1.2.1.2.2.2.2.1, ()))))), ()), (y53.2.2.1, (y53.2.2.2.1, ())))
      else none
      else none
      else none
      else none
      else none)
    else
    bif (x1 == (7 : Int)) then
      (bif ib (0 : Int) (x2).length then
      bif ib (1 : Int) (x2).length then
      bif ib ((x2).getD (Int.toNat (1 : Int)) (K.zero (.int .i64))) (y53.2.2.1).length then
      (F_impl_Complement ((y53.2.2.1).getD (Int.toNat ((x2).getD (Int.toNat (1 : Int)) (K.zero (.int .i64)))) (K.zero (.int .i64)))).bind fun y71 =>
      (F_impl_NegOf y71.1.1).bind fun y72 =>
      (F_impl_Complement y72.1.1).bind fun y73 =>
      bif ib ((x2).getD (Int.toNat (0 : Int)) (K.zero (.int .i64))) (y53.2.2.1).length then
      some (((0 : Int), ()), ((y53.2.1.2.1.1, (y53.2.1.2.1.2.1, (y53.2.1.2.1.2.2.1, (y53.2.1.2.1.2.2.2.1, (y53.2.1.2.1.2.2.2.2.1, ()))))), ()), ((y53.2.2.1).set (Int.toNat ((x2).getD (Int.toNat (0 : Int)) (K.zero (.int .i64)))) y73.1.1, (y53.2.2.2.1, ())))
      else none
      else none
      else none
      else none)
    else
    bif (x1 == (8 : Int)) then
      (bif ib (0 : Int) (x2).length then
      bif ib (1 : Int) (x2).length then
      bif ib ((x2).getD (Int.toNat (1 : Int)) (K.zero (.int .i64))) (y53.2.2.1).length then
      (F_impl_Complement ((y53.2.2.1).getD (Int.toNat ((x2).getD (Int.toNat (1 : Int)) (K.zero (.int .i64)))) (K.zero (.int .i64)))).bind fun y74 =>
      (F_impl_NotOf y74.1.1).bind fun y75 =>
      (F_impl_Complement y75.1.1).bind fun y76 =>
      bif ib ((x2).getD (Int.toNat (0 : Int)) (K.zero (.int .i64))) (y53.2.2.1).length then
      some (((0 : Int), ()), ((y53.2.1.2.1.1, (y53.2.1.2.1.2.1, (y53.2.1.2.1.2.2.1, (y53.2.1.2.1.2.2.2.1, (y53.2.1.2.1.2.2.2.2.1, ()))))), ()), ((y53.2.2.1).set (Int.toNat ((x2).getD (Int.toNat (0 : Int)) (K.zero (.int .i64)))) y76.1.1, (y53.2.2.2.1, ())))
      else none
      else none
      else none
      else none)
    else
    bif (x1 == (9 : Int)) then
      (bif ib (0 : Int) (x2).length then
      bif ib ((x2).getD (Int.toNat (0 : Int)) (K.zero (.int .i64))) (y53.2.2.1).length then
      bif (((y53.2.2.1).getD (Int.toNat ((x2).getD (Int.toNat (0 : Int)) (K.zero (.int .i64)))) (K.zero (.int .i64))) != (65535 : Int)) then
        (bif ib (0 : Int) (x2).length then
        bif ib ((x2).getD (Int.toNat (0 : Int)) (K.zero (.int .i64))) (y53.2.2.1).length then
        some (((0 : Int), ()), ((y53.2.1.2.1.1, (y53.2.1.2.1.2.1, (y53.2.1.2.1.2.2.1, (y53.2.1.2.1.2.2.2.1, (y53.2.1.2.1.2.2.2.2.1, ()))))), ()), ((y53.2.2.1).set (Int.toNat ((x2).getD (Int.toNat (0 : Int)) (K.zero (.int .i64)))) (65534 : Int), (y53.2.2.2.1, ())))
        else none
        else none)
      else
      some (((0 : Int), ()), ((y53.2.1.2.1.1, (y53.2.1.2.1.2.1, (y53.2.1.2.1.2.2.1, (y53.2.1.2.1.2.2.2.1, (y53.2.1.2.1.2.2.2.2.1, ()))))), ()), (y53.2.2.1, (y53.2.2.2.1, ())))
      else none
      else none)
    else
    bif (x1 == (10 : Int)) then
      (bif ib (0 : Int) (x2).length then
      some (((0 : Int), ()), ((((x2).getD (Int.toNat (0 : Int)) (K.zero (.int .i64))), (y53.2.1.2.1.2.1, (y53.2.1.2.1.2.2.1, (y53.2.1.2.1.2.2.2.1, (y53.2.1.2.1.2.2.2.2.1, ()))))), ()), (y53.2.2.1, (y53.2.2.2.1, ())))
      else none)
    else
    bif (x1 == (11 : Int)) then
      (bif ib (0 : Int) (x2).length then
      bif ib ((x2).getD (Int.toNat (0 : Int)) (K.zero (.int .i64))) (y53.2.2.1).length then
      bif (((y53.2.2.1).getD (Int.toNat ((x2).getD (Int.toNat (0 : Int)) (K.zero (.int .i64)))) (K.zero (.int .i64))) == (65535 : Int)) then
        (bif ib (1 : Int) (x2).length then
        some (((0 : Int), ()), ((((x2).getD (Int.toNat (1 : Int)) (K.zero (.int .i64))), (y53.2.1.2.1.2.1, (y53.2.1.2.1.2.2.1, (y53.2.1.2.1.2.2.2.1, (y53.2.1.2.1.2.2.2.2.1, ()))))), ()), (y53.2.2.1, (y53.2.2.2.1, ())))
        else none)
      else
      some (((0 : Int), ()), ((y53.2.1.2.1.1, (y53.2.1.2.1.2.1, (y53.2.1.2.1.2.2.1, (y53.2.1.2.1.2.2.2.1, (y53.2.1.2.1.2.2.2.2.1, ()))))), ()), (y53.2.2.1, (y53.2.2.2.1, ())))
      else none
      else none)
    else
    bif (x1 == (12 : Int)) then
      (bif ib (0 : Int) (x2).length then
      (F_impl_SignOf y53.2.1.2.1.2.1 ((x2).getD (Int.toNat (0 : Int)) (K.zero (.int .i64)))).bind fun y77 =>
      some (((0 : Int), ()), ((y53.2.1.2.1.1, (y77.1.1, (y53.2.1.2.1.2.2.1, (y53.2.1.2.1.2.2.2.1, (y53.2.1.2.1.2.2.2.2.1, ()))))), ()), (y53.2.2.1, (y53.2.2.2.1, ())))
      else none)
    else
    bif (x1 == (13 : Int)) then
      (some (((0 : Int), ()), ((y53.2.1.2.1.1, (y53.2.1.2.1.2.1, (y53.2.1.2.1.2.2.1, (y53.2.1.2.1.2.2.2.1, (true, ()))))), ()), (y53.2.2.1, (y53.2.2.2.1, ()))))
    else
    some (((0 : Int), ()), ((y53.2.1.2.1.1, (y53.2.1.2.1.2.1, (y53.2.1.2.1.2.2.1, (y53.2.1.2.1.2.2.2.1, (y53.2.1.2.1.2.2.2.2.1, ()))))), ()), (y53.2.2.1, (y53.2.2.2.1, ())))
    else none)
  else
  bif (x1 == (1 : Int)) then
    (bif ib (0 : Int) (x2).length then
    bif ib (1 : Int) (x2).length then
    bif ib ((x2).getD (Int.toNat (0 : Int)) (K.zero (.int .i64))) (x8).length then
    some (((0 : Int), ()), ((x3, (x4, (x5, (x6, (x7, ()))))), ()), ((x8).set (Int.toNat ((x2).getD (Int.toNat (0 : Int)) (K.zero (.int .i64)))) ((x2).getD (Int.toNat (1 : Int)) (K.zero (.int .i64))), (x9, ())))
    else none
    else none
    else none)
  else
  bif (x1 == (2 : Int)) then
    (bif ib (0 : Int) (x2).length then
    bif ib (1 : Int) (x2).length then
    bif ib ((x2).getD (Int.toNat (1 : Int)) (K.zero (.int .i64))) (x9).length then
    bif ib ((x2).getD (Int.toNat (0 : Int)) (K.zero (.int .i64))) (x8).length then
    some (((0 : Int), ()), ((x3, (x4, (x5, (x6, (x7, ()))))), ()), ((x8).set (Int.toNat ((x2).getD (Int.toNat (0 : Int)) (K.zero (.int .i64)))) ((x9).getD (Int.toNat ((x2).getD (Int.toNat (1 : Int)) (K.zero (.int .i64)))) (K.zero (.int .i64))), (x9, ())))
    else none
    else none
    else none
    else none)
  else
  bif (x1 == (3 : Int)) then
    (bif ib (0 : Int) (x2).length then
    bif ib (1 : Int) (x2).length then
    bif ib ((x2).getD (Int.toNat (1 : Int)) (K.zero (.int .i64))) (x8).length then
    bif ib ((x2).getD (Int.toNat (0 : Int)) (K.zero (.int .i64))) (x9).length then
    some (((0 : Int), ()), ((x3, (x4, (x5, (x6, (x7, ()))))), ()), (x8, ((x9).set (Int.toNat ((x2).getD (Int.toNat (0 : Int)) (K.zero (.int .i64)))) ((x8).getD (Int.toNat ((x2).getD (Int.toNat (1 : Int)) (K.zero (.int .i64)))) (K.zero (.int .i64))), ())))
    else none
    else none
    else none
    else none)
  else
  bif (x1 == (4 : Int)) then
    (bif ib (1 : Int) (x2).length then
    bif ib ((x2).getD (Int.toNat (1 : Int)) (K.zero (.int .i64))) (x8).length then
    bif (x1 == (5 : Int)) then
      (bif ib (0 : Int) (x2).length then
      bif ib ((x2).getD (Int.toNat (0 : Int)) (K.zero (.int .i64))) (x8).length then
      (F_impl_Complement ((x8).getD (Int.toNat ((x2).getD (Int.toNat (0 : Int)) (K.zero (.int .i64)))) (K.zero (.int .i64)))).bind fun y78 =>
      (F_impl_SignedOf y78.1.1).bind fun y79 =>
      bif ib (3 : Int) (x2).length then
      (F_impl_within y79.1.1 (0 : Int) (IntKind.wrap .i64 (((x2).getD (Int.toNat (3 : Int)) (K.zero (.int .i64))) - (1 : Int)))).bind fun y80 =>
      bif (!y80.1.1) then
        (some (((3 : Int), ()), ((x3, (x4, (x5, (x6, (x7, ()))))), ()), (x8, (x9, ()))))
      else
      bif ib (2 : Int) (x2).length then
      (F_impl_RegMachine_do_f2 (IntKind.wrap .i64 (((x2).getD (Int.toNat (2 : Int)) (K.zero (.int .i64))) + y79.1.1)) x3 x4 x5 x6 x7 x8 x9).bind fun y81 =>
      bif (!y81.1.1) then
        (some (((1 : Int), ()), ((y81.2.1.2.1.1, (y81.2.1.2.1.2.1, (y81.2.1.2.1.2.2.1, (y81.2.1.2.1.2.2.2.1, (y81.2.1.2.1.2.2.2.2.1, ()))))), ()), (y81.2.2.1, (y81.2.2.2.1, ()))))
      else
      bif (x1 == (4 : Int)) then
        (bif ib (0 : Int) (x2).length then
        bif ib (2 : Int) (x2).length then
        bif ib (IntKind.wrap .i64 (((x2).getD (Int.toNat (2 : Int)) (K.zero (.int .i64))) + y79.1.1)) (y81.2.2.2.1).length then
        bif ib ((x2).getD (Int.toNat (0 : Int)) (K.zero (.int .i64))) (y81.2.2.1).length then
        some (((0 : Int), ()), ((y81.2.1.2.1.1, (y81.2.1.2.1.2.1, (y81.2.1.2.1.2.2.1, (y81.2.1.2.1.2.2.2.1, (y81.2.1.2.1.2.2.2.2.1, ()))))), ()), ((y81.2.2.1).set (Int.toNat ((x2).getD (Int.toNat (0 : Int)) (K.zero (.int .i64)))) ((y81.2.2.2.1).getD (Int.toNat (IntKind.wrap .i64 (((x2).getD (Int.toNat (2 : Int)) (K.zero (.int .i64))) + y79.1.1))) (K.zero (.int .i64))), (y81.2.2.2.1, ())))
        else none
        else none
        else none
        else none)
      else
      bif ib (2 : Int) (x2).length then
      bif ib (1 : Int) (x2).length then
      bif ib ((x2).getD (Int.toNat (1 : Int)) (K.zero (.int .i64))) (y81.2.2.1).length then
      bif ib (IntKind.wrap .i64 (((x2).getD (Int.toNat (2 : Int)) (K.zero (.int .i64))) + y79.1.1)) (y81.2.2.2.1).length then
      some (((0 : Int), ()), ((y81.2.1.2.1.1, (y81.2.1.2.1.2.1, (y81.2.1.2.1.2.2.1, (y81.2.1.2.1.2.2.2.1, (y81.2.1.2.1.2.2.2.2.1, ()))))), ()), (y81.2.2.1, ((y81.2.2.2.1).set (Int.toNat (IntKind.wrap .i64 (((x2).getD (Int.toNat (2 : Int)) (K.zero (.int .i64))) + y79.1.1))) ((y81.2.2.1).getD (Int.toNat ((x2).getD (Int.toNat (1 : Int)) (K.zero (.int .i64)))) (K.zero (.int .i64))), ())))
      else none
      else none
      else none
      else none
      else none
      else none
      else none
      else none)
    else
    (F_impl_Complement ((x8).getD (Int.toNat ((x2).getD (Int.toNat (1 : Int)) (K.zero (.int .i64)))) (K.zero (.int .i64)))).bind fun y82 =>
    (F_impl_SignedOf y82.1.1).bind fun y83 =>
    bif ib (3 : Int) (x2).length then
    (F_impl_within y83.1.1 (0 : Int) (IntKind.wrap .i64 (((x2).getD (Int.toNat (3 : Int)) (K.zero (.int .i64))) - (1 : Int)))).bind fun y84 =>
    bif (!y84.1.1) then
      (some (((3 : Int), ()), ((x3, (x4, (x5, (x6, (x7, ()))))), ()), (x8, (x9, ()))))
    else
    bif ib (2 : Int) (x2).length then
    (F_impl_RegMachine_do_f2 (IntKind.wrap .i64 (((x2).getD (Int.toNat (2 : Int)) (K.zero (.int .i64))) + y83.1.1)) x3 x4 x5 x6 x7 x8 x9).bind fun y85 =>
    bif (!y85.1.1) then
      (some (((1 : Int), ()), ((y85.2.1.2.1.1, (y85.2.1.2.1.2.1, (y85.2.1.2.1.2.2.1, (y85.2.1.2.1.2.2.2.1, (y85.2.1.2.1.2.2.2.2.1, ()))))), ()), (y85.2.2.1, (y85.2.2.2.1, ()))))
    else
    bif (x1 == (4 : Int)) then
      (bif ib (0 : Int) (x2).length then
      bif ib (2 : Int) (x2).length then
      bif ib (IntKind.wrap .i64 (((x2).getD (Int.toNat (2 : Int)) (K.zero (.int .i64))) + y83.1.1)) (y85.2.2.2.1).length then
      bif ib ((x2).getD (Int.toNat (0 : Int)) (K.zero (.int .i64))) (y85.2.2.1).length then
      some (((0 : Int), ()), ((y85.2.1.2.1.1, (y85.2.1.2.1.2.1, (y85.2.1.2.1.2.2.1, (y85.2.1.2.1.2.2.2.1, (y85.2.1.2.1.2.2.2.2.1, ()))))), ()), ((y85.2.2.1).set (Int.toNat ((x2).getD (Int.toNat (0 : Int)) (K.zero (.int .i64)))) ((y85.2.2.2.1).getD (Int.toNat (IntKind.wrap .i64 (((x2).getD (Int.toNat (2 : Int)) (K.zero (.int .i64))) + y83.1.1))) (K.zero (.int .i64))), (y85.2.2.2.1, ())))
      else none
      else none
      else none
      else none)
    else
    bif ib (2 : Int) (x2).length then
    bif ib (1 : Int) (x2).length then
    bif ib ((x2).getD (Int.toNat (1 : Int)) (K.zero (.int .i64))) (y85.2.2.1).length then
    bif ib (IntKind.wrap .i64 (((x2).getD (Int.toNat (2 : Int)) (K.zero (.int .i64))) + y83.1.1)) (y85.2.2.2.1).length then
    some (((0 : Int), ()), ((y85.2.1.2.1.1, (y85.2.1.2.1.2.1, (y85.2.1.2.1.2.2.1, (y85.2.1.2.1.2.2.2.1, (y85.2.1.2.1.2.2.2.2.1, ()))))), ()), (y85.2.2.1, ((y85.2.2.2.1).set (Int.toNat (IntKind.wrap .i64 (((x2).getD (Int.toNat (2 : Int)) (K.zero (.int .i64))) + y83.1.1))) ((y85.2.2.1).getD (Int.toNat ((x2).getD (Int.toNat (1 : Int)) (K.zero (.int .i64)))) (K.zero (.int .i64))), ())))
    else none
    else none
    else none
    else none
    else none
    else none
    else none
    else none)
  else
  bif (x1 == (5 : Int)) then
    (bif ib (1 : Int) (x2).length then
    bif ib ((x2).getD (Int.toNat (1 : Int)) (K.zero (.int .i64))) (x8).length then
    bif (x1 == (5 : Int)) then
      (bif ib (0 : Int) (x2).length then
      bif ib ((x2).getD (Int.toNat (0 : Int)) (K.zero (.int .i64))) (x8).length then
      (F_impl_Complement ((x8).getD (Int.toNat ((x2).getD (Int.toNat (0 : Int)) (K.zero (.int .i64)))) (K.zero (.int .i64)))).bind fun y86 =>
      (F_impl_SignedOf y86.1.1).bind fun y87 =>
      bif ib (3 : Int) (x2).length then
      (F_impl_within y87.1.1 (0 : Int) (IntKind.wrap .i64 (((x2).getD (Int.toNat (3 : Int)) (K.zero (.int .i64))) - (1 : Int)))).bind fun y88 =>
      bif (!y88.1.1) then
        (some (((3 : Int), ()), ((x3, (x4, (x5, (x6, (x7, ()))))), ()), (x8, (x9, ()))))
      else
      bif ib (2 : Int) (x2).length then
      (F_impl_RegMachine_do_f2 (IntKind.wrap .i64 (((x2).getD (Int.toNat (2 : Int)) (K.zero (.int .i64))) + y87.1.1)) x3 x4 x5 x6 x7 x8 x9).bind fun y89 =>
      bif (!y89.1.1) then
        (some (((1 : Int), ()), ((y89.2.1.2.1.1, (y89.2.1.2.1.2.1, (y89.2.1.2.1.2.2.1, (y89.2.1.2.1.2.2.2.1, (y89.2.1.2.1.2.2.2.2.1, ()))))), ()), (y89.2.2.1, (y89.2.2.2.1, ()))))
      else
      bif (x1 == (4 : Int)) then
        (bif ib (0 : Int) (x2).length then
        bif ib (2 : Int) (x2).length then
        bif ib (IntKind.wrap .i64 (((x2).getD (Int.toNat (2 : Int)) (K.zero (.int .i64))) + y87.1.1)) (y89.2.2.2.1).length then
        bif ib ((x2).getD (Int.toNat (0 : Int)) (K.zero (.int .i64))) (y89.2.2.1).length then
        some (((0 : Int), ()), ((y89.2.1.2.1.1, (y89.2.1.2.1.2.1, (y89.2.1.2.1.2.2.1, (y89.2.1.2.1.2.2.2.1, (y89.2.1.2.1.2.2.2.2.1, ()))))), ()), ((y89.2.2.1).set (Int.toNat ((x2).getD (Int.toNat (0 : Int)) (K.zero (.int .i64)))) ((y89.2.2.2.1).getD (Int.toNat (IntKind.wrap .i64 (((x2).getD (Int.toNat (2 : Int)) (K.zero (.int .i64))) + y87.1.1))) (K.zero (.int .i64))), (y89.2.2.2.1, ())))
        else none
        else none
        else none
        else none)
      else
      bif ib (2 : Int) (x2).length then
      bif ib (1 : Int) (x2).length then
      bif ib ((x2).getD (Int.toNat (1 : Int)) (K.zero (.int .i64))) (y89.2.2.1).length then
      bif ib (IntKind.wrap .i64 (((x2).getD (Int.toNat (2 : Int)) (K.zero (.int .i64))) + y87.1.1)) (y89.2.2.2.1).length then
      some (((0 : Int), ()), ((y89.2.1.2.1.1, (y89.2.1.2.1.2.1, (y89.2.1.2.1.2.2.1, (y89.2.1.2.1.2.2.2.1, (y89.2.1.2.1.2.2.2.2.1, ()))))), ()), (y89.2.2.1, ((y89.2.2.2.1).set (Int.toNat (IntKind.wrap .i64 (((x2).getD (Int.toNat (2 : Int)) (K.zero (.int .i64))) + y87.1.1))) ((y89.2.2.1).getD (Int.toNat ((x2).getD (Int.toNat (1 : Int)) (K.zero (.int .i64)))) (K.zero (.int .i64))), ())))
      else none
      else none
      else none
      else none
      else none
      else none
      else none
      else none)
    else
    (F_impl_Complement ((x8).getD (Int.toNat ((x2).getD (Int.toNat (1 : Int)) (K.zero (.int .i64)))) (K.zero (.int .i64)))).bind fun y90 =>
    (F_impl_SignedOf y90.1.1).bind fun y91 =>
    bif ib (3 : Int) (x2).length then
    (F_impl_within y91.1.1 (0 : Int) (IntKind.wrap .i64 (((x2).getD (Int.toNat (3 : Int)) (K.zero (.int .i64))) - (1 : Int)))).bind fun y92 =>
    bif (!y92.1.1) then
      (some (((3 : Int), ()), ((x3, (x4, (x5, (x6, (x7, ()))))), ()), (x8, (x9, ()))))
    else
    bif ib (2 : Int) (x2).length then
    (F_impl_RegMachine_do_f2 (IntKind.wrap .i64 (((x2).getD (Int.toNat (2 : Int)) (K.zero (.int .i64))) + y91.1.1)) x3 x4 x5 x6 x7 x8 x9).bind fun y93 =>
    bif (!y93.1.1) then
      (some (((1 : Int), ()), ((y93.2.1.2.1.1, (y93.2.1.2.1.2.1, (y93.2.1.2.1.2.2.1, (y93.2.1.2.1.2.2.2.1, (y93.2.1.2.1.2.2.2.2.1, ()))))), ()), (y93.2.2.1, (y93.2.2.2.1, ()))))
    else
    bif (x1 == (4 : Int)) then
      (bif ib (0 : Int) (x2).length then
      bif ib (2 : Int) (x2).length then
      bif ib (IntKind.wrap .i64 (((x2).getD (Int.toNat (2 : Int)) (K.zero (.int .i64))) + y91.1.1)) (y93.2.2.2.1).length then
      bif ib ((x2).getD (Int.toNat (0 : Int)) (K.zero (.int .i64))) (y93.2.2.1).length then
      some (((0 : Int), ()), ((y93.2.1.2.1.1, (y93.2.1.2.1.2.1, (y93.2.1.2.1.2.2.1, (y93.2.1.2.1.2.2.2.1, (y93.2.1.2.1.2.2.2.2.1, ()))))), ()), ((y93.2.2.1).set (Int.toNat ((x2).getD (Int.toNat (0 : Int)) (K.zero (.int .i64)))) ((y93.2.2.2.1).getD (Int.toNat (IntKind.wrap .i64 (((x2).getD (Int.toNat (2 : Int)) (K.zero (.int .i64))) + y91.1.1))) (K.zero (.int .i64))), (y93.2.2.2.1, ())))
      else none
      else none
      else none
      else none)
    else
    bif ib (2 : Int) (x2).length then
    bif ib (1 : Int) (x2).length then
    bif ib ((x2).getD (Int.toNat (1 : Int)) (K.zero (.int .i64))) (y93.2.2.1).length then
    bif ib (IntKind.wrap .i64 (((x2).getD (Int.toNat (2 : Int)) (K.zero (.int .i64))) + y91.1.1)) (y93.2.2.2.1).length then
    some (((0 : Int), ()), ((y93.2.1.2.1.1, (y93.2.1.2.1.2.1, (y93.2.1.2.1.2.2.1, (y93.2.1.2.1.2.2.2.1, (y93.2.1.2.1.2.2.2.2.1, ()))))), ()), (y93.2.2.1, ((y93.2.2.2.1).set (Int.toNat (IntKind.wrap .i64 (((x2).getD (Int.toNat (2 : Int)) (K.zero (.int .i64))) + y91.1.1))) ((y93.2.2.1).getD (Int.toNat ((x2).getD (Int.toNat (1 : Int)) (K.zero (.int .i64)))) (K.zero (.int .i64))), ())))
    else none
    else none
    else none
    else none
    else none
    else none
    else none
    else none)
  else
  bif (x1 == (6 : Int)) then
    (bif ib (3 : Int) (x2).length then
    bif ib (1 : Int) (x2).length then
    bif ib ((x2).getD (Int.toNat (1 : Int)) (K.zero (.int .i64))) (x8).length then
    bif ib (2 : Int) (x2).length then
    bif ib ((x2).getD (Int.toNat (2 : Int)) (K.zero (.int .i64))) (x8).length then
    (F_impl_BinaryInv ((x2).getD (Int.toNat (3 : Int)) (K.zero (.int .i64))) ((x8).getD (Int.toNat ((x2).getD (Int.toNat (1 : Int)) (K.zero (.int .i64)))) (K.zero (.int .i64))) ((x8).getD (Int.toNat ((x2).getD (Int.toNat (2 : Int)) (K.zero (.int .i64)))) (K.zero (.int .i64)))).bind fun y94 =>
    bif (y94.1.1.1 == (0 : Int)) then
      (bif ib (0 : Int) (x2).length then
      bif ib ((x2).getD (Int.toNat (0 : Int)) (K.zero (.int .i64))) (x8).length then
      some (((0 : Int), ()), ((x3, (x4, (x5, (x6, (x7, ()))))), ()), ((x8).set (Int.toNat ((x2).getD (Int.toNat (0 : Int)) (K.zero (.int .i64)))) y94.1.1.2, (x9, ())))
      else none
      else none)
    else
    bif (y94.1.1.1 == (3 : Int)) then
      (some (((1 : Int), ()), ((x3, (x4, (x5, (x6, (x7, ()))))), ()), (x8, (x9, ()))))
    else
    some ((y94.1.1.1, ()), ((x3, (x4, (x5, (x6, (x7, ()))))), ()), (x8, (x9, ())))
    else none
    else none
    else none
    else none
    else none)
  else
  bif (x1 == (7 : Int)) then
    (bif ib (0 : Int) (x2).length then
    bif ib (1 : Int) (x2).length then
    bif ib ((x2).getD (Int.toNat (1 : Int)) (K.zero (.int .i64))) (x8).length then
    (F_impl_Complement ((x8).getD (Int.toNat ((x2).getD (Int.toNat (1 : Int)) (K.zero (.int .i64)))) (K.zero (.int .i64)))).bind fun y95 =>
    (F_impl_NegOf y95.1.1).bind fun y96 =>
    (F_impl_Complement y96.1.1).bind fun y97 =>
    bif ib ((x2).getD (Int.toNat (0 : Int)) (K.zero (.int .i64))) (x8).length then
    some (((0 : Int), ()), ((x3, (x4, (x5, (x6, (x7, ()))))), ()), ((x8).set (Int.toNat ((x2).getD (Int.toNat (0 : Int)) (K.zero (.int .i64)))) y97.1.1, (x9, ())))
    else none
    else none
    else none
    else none)
  else
  bif (x1 == (8 : Int)) then
    (bif ib (0 : Int) (x2).length then
    bif ib (1 : Int) (x2).length then
    bif ib ((x2).getD (Int.toNat (1 : Int)) (K.zero (.int .i64))) (x8).length then
    (F_impl_Complement ((x8).getD (Int.toNat ((x2).getD (Int.toNat (1 : Int)) (K.zero (.int .i64)))) (K.zero (.int .i64)))).bind fun y98 =>
    (F_impl_NotOf y98.1.1).bind fun y99 =>
    (F_impl_Complement y99.1.1).bind fun y100 =>
    bif ib ((x2).getD (Int.toNat (0 : Int)) (K.zero (.int .i64))) (x8).length then
    some (((0 : Int), ()), ((x3, (x4, (x5, (x6, (x7, ()))))), ()), ((x8).set (Int.toNat ((x2).getD (Int.toNat (0 : Int)) (K.zero (.int .i64)))) y100.1.1, (x9, ())))
    else none
    else none
    else none
    else none)
  else
  bif (x1 == (9 : Int)) then
    (bif ib (0 : Int) (x2).length then
    bif ib ((x2).getD (Int.toNat (0 : Int)) (K.zero (.int .i64))) (x8).length then
    bif (((x8).getD (Int.toNat ((x2).getD (Int.toNat (0 : Int)) (K.zero (.int .i64)))) (K.zero (.int .i64))) != (65535 : Int)) then
      (bif ib (0 : Int) (x2).length then
      bif ib ((x2).getD (Int.toNat (0 : Int)) (K.zero (.int .i64))) (x8).length then
      some (((0 : Int), ()), ((x3, (x4, (x5, (x6, (x7, ()))))), ()), ((x8).set (Int.toNat ((x2).getD (Int.toNat (0 : Int)) (K.zero (.int .i64)))) (65534 : Int), (x9, ())))
      else none
      else none)
    else
    some (((0 : Int), ()), ((x3, (x4, (x5, (x6, (x7, ()))))), ()), (x8, (x9, ())))
    else none
    else none)
  else
  bif (x1 == (10 : Int)) then
    (bif ib (0 : Int) (x2).length then
    some (((0 : Int), ()), ((((x2).getD (Int.toNat (0 : Int)) (K.zero (.int .i64))), (x4, (x5, (x6, (x7, ()))))), ()), (x8, (x9, ())))
    else none)
  else
  bif (x1 == (11 : Int)) then
    (bif ib (0 : Int) (x2).length then
    bif ib ((x2).getD (Int.toNat (0 : Int)) (K.zero (.int .i64))) (x8).length then
    bif (((x8).getD (Int.toNat ((x2).getD (Int.toNat (0 : Int)) (K.zero (.int .i64)))) (K.zero (.int .i64))) == (65535 : Int)) then
      (bif ib (1 : Int) (x2).length then
      some (((0 : Int), ()), ((((x2).getD (Int.toNat (1 : Int)) (K.zero (.int .i64))), (x4, (x5, (x6, (x7, ()))))), ()), (x8, (x9, ())))
      else none)
    else
    some (((0 : Int), ()), ((x3, (x4, (x5, (x6, (x7, ()))))), ()), (x8, (x9, ())))
    else none
    else none)
  else
  bif (x1 == (12 : Int)) then
    (bif ib (0 : Int) (x2).length then
    (F_impl_SignOf x4 ((x2).getD (Int.toNat (0 : Int)) (K.zero (.int .i64)))).bind fun y101 =>
    some (((0 : Int), ()), ((x3, (y101.1.1, (x5, (x6, (x7, ()))))), ()), (x8, (x9, ())))
    else none)
  else
  bif (x1 == (13 : Int)) then
    (some (((0 : Int), ()), ((x3, (x4, (x5, (x6, (true, ()))))), ()), (x8, (x9, ()))))
  else
  some (((0 : Int), ()), ((x3, (x4, (x5, (x6, (x7, ()))))), ()), (x8, (x9, ())))
noncomputable abbrev U_impl_RegMachine_do : sp_impl_RegMachine_do.T → Option sq_impl_RegMachine_do.T := fun x => F_impl_RegMachine_do x.1.1 x.1.2.1 x.2.1.1.1 x.2.1.1.2.1 x.2.1.1.2.2.1 x.2.1.1.2.2.2.1 x.2.1.1.2.2.2.2.1 x.2.2.1 x.2.2.2.1
theorem e_impl_RegMachine_do : ∀ x, evCode ty (gamOf g_impl_RegMachine_do) j_impl_RegMachine_do (lamOf []) b_impl_RegMachine_do (sp_impl_RegMachine_do.hd x) (finN ty sq_impl_RegMachine_do [.tmp 6]) = U_impl_RegMachine_do x := fun x => by kernel_rfl
theorem c_impl_RegMachine_do : FnS P 166 sp_impl_RegMachine_do sq_impl_RegMachine_do U_impl_RegMachine_do :=
  fnS_of_ev tyOk mixed gok_impl_RegMachine_do (fn := Tryz.f166) (by kernel_rfl) (c := b_impl_RegMachine_do) (by kernel_rfl) (by kernel_rfl) (by kernel_rfl) (lam_ok (tab := []) (by kernel_rfl) lm0) e_impl_RegMachine_do

/-! (*impl.RegMachine).step -/
abbrev sp_impl_RegMachine_step : Sp := ⟨71, [(0, .fix (.ptr 60000 0)), (1, .val false (.sl (.int .i64)))], [(60000, [.val (.int .i64), .fix (.own 63000), .fix (.own 63001), .val (.int .i64), .val (.int .i64), .val (.int .i64), .val .bool])], [(63000, (.int .i64), true), (63001, (.int .i64), true)]⟩
abbrev sq_impl_RegMachine_step : Sp := ⟨0, [], [(60000, [.val (.int .i64), .fix (.own 59000), .fix (.own 59001), .val (.int .i64), .val (.int .i64), .val (.int .i64), .val .bool])], [(59000, (.int .i64), true), (59001, (.int .i64), true)]⟩
noncomputable def g_impl_RegMachine_step : List (FuncId × SumX) := [(159, cN sp_impl_instruction_rm sq_impl_instruction_rm U_impl_instruction_rm), (166, xN sp_impl_RegMachine_do sq_impl_RegMachine_do U_impl_RegMachine_do)]
def j_impl_RegMachine_step : Nat → Option (List (Nat × SS)) := jOf [(0, [(18, .val false .bool)])]
theorem gok_impl_RegMachine_step : GOk P (gamOf g_impl_RegMachine_step) := gam_ok (tab := g_impl_RegMachine_step) (gm1 (cN_ok c_impl_instruction_rm rfl) (gm1 (xN_ok c_impl_RegMachine_do rfl) gm0))
noncomputable abbrev b_impl_RegMachine_step : Code := bodyOf Tryz.f143
noncomputable def F_impl_RegMachine_step (x1 : K.T (.sl (.int .i64))) (x2 : K.T (.int .i64)) (x3 : K.T (.int .i64)) (x4 : K.T (.int .i64)) (x5 : K.T (.int .i64)) (x6 : K.T .bool) (x7 : List (K.T (.int .i64))) (x8 : List (K.T (.int .i64))) : Option sq_impl_RegMachine_step.T :=
  (bif x6 then
      (some (true, ()))
    else
    some ((x5 != (0 : Int)), ())).bind fun y1 =>
  bif y1.1 then
    (some ((), ((x2, (x3, (x4, (x5, (x6, ()))))), ()), (x7, (x8, ()))))
  else
  (F_impl_instruction_rm x1 x2).bind fun y2 =>
  bif (!y2.1.2.2.1) then
    (some ((), ((x2, (x3, ((mn (IntKind.wrap .i64 (x4 + (1 : Int))) (1000000 : Int)), ((1 : Int), (x6, ()))))), ()), (x7, (x8, ()))))
  else
  (F_impl_RegMachine_do y2.1.1 y2.1.2.1 (IntKind.wrap .i64 ((IntKind.wrap .i64 (x2 + (1 : Int))) + ((y2.1.2.1).length : Int))) x3 (mn (IntKind.wrap .i64 (x4 + (1 : Int))) (1000000 : Int)) x5 x6 x7 x8).bind fun y3 =>
  bif (y3.1.1 != (0 : Int)) then
    (some ((), ((x2, (y3.2.1.1.2.1, (y3.2.1.1.2.2.1, (y3.1.1, (y3.2.1.1.2.2.2.2.1, ()))))), ()), (y3.2.2.1, (y3.2.2.2.1, ()))))
  else
  some ((), ((y3.2.1.1.1, (y3.2.1.1.2.1, (y3.2.1.1.2.2.1, (y3.1.1, (y3.2.1.1.2.2.2.2.1, ()))))), ()), (y3.2.2.1, (y3.2.2.2.1, ())))
noncomputable abbrev U_impl_RegMachine_step : sp_impl_RegMachine_step.T → Option sq_impl_RegMachine_step.T := fun x => F_impl_RegMachine_step x.1.1 x.2.1.1.1 x.2.1.1.2.1 x.2.1.1.2.2.1 x.2.1.1.2.2.2.1 x.2.1.1.2.2.2.2.1 x.2.2.1 x.2.2.2.1
theorem e_impl_RegMachine_step : ∀ x, evCode ty (gamOf g_impl_RegMachine_step) j_impl_RegMachine_step (lamOf []) b_impl_RegMachine_step (sp_impl_RegMachine_step.hd x) (finN ty sq_impl_RegMachine_step []) = U_impl_RegMachine_step x := fun x => by kernel_rfl
theorem c_impl_RegMachine_step : FnS P 143 sp_impl_RegMachine_step sq_impl_RegMachine_step U_impl_RegMachine_step :=
  fnS_of_ev tyOk mixed gok_impl_RegMachine_step (fn := Tryz.f143) (by kernel_rfl) (c := b_impl_RegMachine_step) (by kernel_rfl) (by kernel_rfl) (by kernel_rfl) (lam_ok (tab := []) (by kernel_rfl) lm0) e_impl_RegMachine_step

/-! impl.RunRegs -/
abbrev sp_impl_RunRegs : Sp := ⟨52, [(0, .val false (.sl (.int .i64))), (1, .val false (.sl (.int .i64))), (2, .val false (.int .i64))], [], []⟩
abbrev sq_impl_RunRegs : Sp := ⟨1, [(0, .mix true [.val (.int .i64), .val (.int .i64), .fix (.own 59000), .fix (.own 59001), .val (.int .i64), .val (.int .i64), .val (.int .i64), .val .bool])], [], [(59000, (.int .i64), true), (59001, (.int .i64), true)]⟩
noncomputable def g_impl_RunRegs : List (FuncId × SumX) := [(93, cN sp_impl_within sq_impl_within U_impl_within), (98, cN sp_impl_WordsFault sq_impl_WordsFault U_impl_WordsFault), (142, fN sp_impl_StartRegs sq_impl_StartRegs U_impl_StartRegs), (143, xN sp_impl_RegMachine_step sq_impl_RegMachine_step U_impl_RegMachine_step)]
def j_impl_RunRegs : Nat → Option (List (Nat × SS)) := jOf [(10, [(38, .val false .bool)])]
theorem gok_impl_RunRegs : GOk P (gamOf g_impl_RunRegs) := gam_ok (tab := g_impl_RunRegs) (gm1 (cN_ok c_impl_within rfl) (gm1 (cN_ok c_impl_WordsFault rfl) (gm1 (fN_ok c_impl_StartRegs rfl) (gm1 (xN_ok c_impl_RegMachine_step rfl) gm0))))
noncomputable abbrev b_impl_RunRegs : Code := bodyOf Tryz.f106
abbrev sp_impl_RunRegs_l10 : Sp := ⟨52, [(0, .val false (.sl (.int .i64))), (2, .val false (.int .i64)), (6, .fix (.ptr 59000 0)), (8, .fix (.ptr 59001 0)), (9, .fix (.ptr 59001 1))], [(59000, [.val (.int .i64), .val (.int .i64), .fix .nil, .fix .nil, .val (.int .i64), .val (.int .i64), .val (.int .i64), .val .bool]), (59001, [.val (.int .i64), .val (.int .i64), .fix (.own 59000), .fix (.own 59001), .val (.int .i64), .val (.int .i64), .val (.int .i64), .val .bool])], [(59000, (.int .i64), true), (59001, (.int .i64), true)]⟩
abbrev xs_impl_RunRegs_l10 : List (Ex × Sp) := [(.exit 0, ⟨52, [(6, .fix (.ptr 59000 0)), (8, .fix (.ptr 59001 0))], [(59000, [.val (.int .i64), .val (.int .i64), .fix .nil, .fix .nil, .val (.int .i64), .val (.int .i64), .val (.int .i64), .val .bool]), (59001, [.val (.int .i64), .val (.int .i64), .fix (.own 59000), .fix (.own 59001), .val (.int .i64), .val (.int .i64), .val (.int .i64), .val .bool])], [(59000, (.int .i64), true), (59001, (.int .i64), true)]⟩)]
noncomputable def s_impl_RunRegs_l10 : sp_impl_RunRegs_l10.T → Option (sp_impl_RunRegs_l10.T ⊕ XT xs_impl_RunRegs_l10) := fun x =>
  (bif (!x.2.1.2.1.2.2.2.2.2.1) then
      (some ((x.2.1.2.1.2.2.2.2.1 == (0 : Int)), ()))
    else
    some (false, ())).bind fun y4 =>
  bif y4.1 then
    (bif (x.2.1.2.1.2.2.2.1 == x.1.2.1) then
      (some (.inr ((), ((x.2.1.1.1, (x.2.1.1.2.1, (x.2.1.1.2.2.1, (x.2.1.1.2.2.2.1, (x.2.1.1.2.2.2.2.1, (x.2.1.1.2.2.2.2.2.1, ())))))), ((x.2.1.2.1.1, (x.2.1.2.1.2.1, (x.2.1.2.1.2.2.1, (x.2.1.2.1.2.2.2.1, ((2 : Int), (x.2.1.2.1.2.2.2.2.2.1, ())))))), ())), (x.2.2.1, (x.2.2.2.1, ())))))
    else
    (F_impl_RegMachine_step x.1.1 x.2.1.2.1.2.1 x.2.1.2.1.2.2.1 x.2.1.2.1.2.2.2.1 x.2.1.2.1.2.2.2.2.1 x.2.1.2.1.2.2.2.2.2.1 x.2.2.1 x.2.2.2.1).bind fun y5 =>
    some (.inl ((x.1.1, (x.1.2.1, ())), ((x.2.1.1.1, (x.2.1.1.2.1, (x.2.1.1.2.2.1, (x.2.1.1.2.2.2.1, (x.2.1.1.2.2.2.2.1, (x.2.1.1.2.2.2.2.2.1, ())))))), ((x.2.1.2.1.1, (y5.2.1.1.1, (y5.2.1.1.2.1, (y5.2.1.1.2.2.1, (y5.2.1.1.2.2.2.1, (y5.2.1.1.2.2.2.2.1, ())))))), ())), (y5.2.2.1, (y5.2.2.2.1, ())))))
  else
  some (.inr ((), ((x.2.1.1.1, (x.2.1.1.2.1, (x.2.1.1.2.2.1, (x.2.1.1.2.2.2.1, (x.2.1.1.2.2.2.2.1, (x.2.1.1.2.2.2.2.2.1, ())))))), ((x.2.1.2.1.1, (x.2.1.2.1.2.1, (x.2.1.2.1.2.2.1, (x.2.1.2.1.2.2.2.1, (x.2.1.2.1.2.2.2.2.1, (x.2.1.2.1.2.2.2.2.2.1, ())))))), ())), (x.2.2.1, (x.2.2.2.1, ()))))
noncomputable def l_impl_RunRegs_l10 : sp_impl_RunRegs_l10.T → Option (XT xs_impl_RunRegs_l10) := lim s_impl_RunRegs_l10
theorem es_impl_RunRegs_l10 : ∀ x, evCode ty (gamOf g_impl_RunRegs) j_impl_RunRegs (lamOf []) (loopAt b_impl_RunRegs 10) (sp_impl_RunRegs_l10.hd x) (rdK sp_impl_RunRegs_l10 xs_impl_RunRegs_l10) = s_impl_RunRegs_l10 x := fun x => by kernel_rfl
theorem ls_impl_RunRegs_l10 : LSumOk P (loopAt b_impl_RunRegs 10) (loopL sp_impl_RunRegs_l10 xs_impl_RunRegs_l10 l_impl_RunRegs_l10) := loop_ok tyOk mixed gok_impl_RunRegs (by kernel_rfl) (by kernel_rfl) (lam_ok (tab := []) (by kernel_rfl) lm0) es_impl_RunRegs_l10 lim_itr
noncomputable def F_impl_RunRegs (x1 : K.T (.sl (.int .i64))) (x2 : K.T (.sl (.int .i64))) (x3 : K.T (.int .i64)) : Option sq_impl_RunRegs.T :=
  (F_impl_WordsFault x1).bind fun y1 =>
  bif (y1.1.1 != (0 : Int)) then
    (some (((y1.1.1, ((0 : Int), ((0 : Int), ((0 : Int), ((0 : Int), (false, ())))))), ()), (), ([], ([], ()))))
  else
  (F_impl_StartRegs x2).bind fun y2 =>
  bif (y2.1.1.1 != (0 : Int)) then
    (some (((y2.1.1.1, (y2.1.1.2.1, (y2.1.1.2.2.1, (y2.1.1.2.2.2.1, (y2.1.1.2.2.2.2.1, (y2.1.1.2.2.2.2.2.1, ())))))), ()), (), (y2.2.2.1, (y2.2.2.2.1, ()))))
  else
  (F_impl_within x3 (0 : Int) (20000 : Int)).bind fun y3 =>
  bif (!y3.1.1) then
    (some ((((3 : Int), ((0 : Int), ((0 : Int), ((0 : Int), ((0 : Int), (false, ())))))), ()), (), ([], ([], ()))))
  else
  (l_impl_RunRegs_l10 ((x1, (x3, ())), (((0 : Int), ((0 : Int), ((0 : Int), ((0 : Int), ((0 : Int), (false, ())))))), ((y2.1.1.1, (y2.1.1.2.1, (y2.1.1.2.2.1, (y2.1.1.2.2.2.1, (y2.1.1.2.2.2.2.1, (y2.1.1.2.2.2.2.2.1, ())))))), ())), (y2.2.2.1, (y2.2.2.2.1, ())))).bind fun y6 =>
  some (((y6.2.1.2.1.1, (y6.2.1.2.1.2.1, (y6.2.1.2.1.2.2.1, (y6.2.1.2.1.2.2.2.1, (y6.2.1.2.1.2.2.2.2.1, (y6.2.1.2.1.2.2.2.2.2.1, ())))))), ()), (), (y6.2.2.1, (y6.2.2.2.1, ())))
noncomputable abbrev U_impl_RunRegs : sp_impl_RunRegs.T → Option sq_impl_RunRegs.T := fun x => F_impl_RunRegs x.1.1 x.1.2.1 x.1.2.2.1
theorem e_impl_RunRegs : ∀ x, evCode ty (gamOf g_impl_RunRegs) j_impl_RunRegs (lamOf [(10, loopL sp_impl_RunRegs_l10 xs_impl_RunRegs_l10 l_impl_RunRegs_l10)]) b_impl_RunRegs (sp_impl_RunRegs.hd x) (finN ty sq_impl_RunRegs [.cell 6 140]) = U_impl_RunRegs x := fun x => by kernel_rfl
theorem c_impl_RunRegs : FnS P 106 sp_impl_RunRegs sq_impl_RunRegs U_impl_RunRegs :=
  fnS_of_ev tyOk mixed gok_impl_RunRegs (fn := Tryz.f106) (by kernel_rfl) (c := b_impl_RunRegs) (by kernel_rfl) (by kernel_rfl) (by kernel_rfl) (lam_ok (tab := [(10, loopL sp_impl_RunRegs_l10 xs_impl_RunRegs_l10 l_impl_RunRegs_l10)]) (by kernel_rfl) (lm1 @ls_impl_RunRegs_l10 lm0)) e_impl_RunRegs

/-! (impl.Chan).scan -/
abbrev sp_impl_Chan_scan : Sp := ⟨77, [(0, .val true k9), (1, .val true k8), (2, .val false (.sl (.int .i64)))], [], []⟩
abbrev sq_impl_Chan_scan : Sp := ⟨1, [(0, .mix true [.val (.int .i64), .val (.int .i64), .val (.int .i64), .val (.int .i64), .fix (.own 59000), .fix (.own 59001), .fix (.own 59002), .val (.int .i64), .val (.int .i64)])], [], [(59000, (.int .i64), true), (59001, (.int .i64), true), (59002, (.int .i64), true)]⟩
noncomputable def g_impl_Chan_scan : List (FuncId × SumX) := [(102, fN sp_impl_Chan_copied sq_impl_Chan_copied U_impl_Chan_copied), (103, fN sp_impl_latch sq_impl_latch U_impl_latch), (104, xN sp_impl_RunStack sq_impl_RunStack U_impl_RunStack), (105, fN sp_impl_inverted sq_impl_inverted U_impl_inverted), (106, fN sp_impl_RunRegs sq_impl_RunRegs U_impl_RunRegs)]
def j_impl_Chan_scan : Nat → Option (List (Nat × SS)) := jOf []
theorem gok_impl_Chan_scan : GOk P (gamOf g_impl_Chan_scan) := gam_ok (tab := g_impl_Chan_scan) (gm1 (fN_ok c_impl_Chan_copied rfl) (gm1 (fN_ok c_impl_latch rfl) (gm1 (xN_ok c_impl_RunStack rfl) (gm1 (fN_ok c_impl_inverted rfl) (gm1 (fN_ok c_impl_RunRegs rfl) gm0)))))
noncomputable abbrev b_impl_Chan_scan : Code := bodyOf Tryz.f51
noncomputable def F_impl_Chan_scan (x1 : K.T k9) (x2 : K.T k8) (x3 : K.T (.sl (.int .i64))) : Option sq_impl_Chan_scan.T :=
  (F_impl_Chan_copied x1).bind fun y1 =>
  bif (x1.1 == (1 : Int)) then
    ((F_impl_latch x2.2.1 x1.2.2.2.1 x3).bind fun y2 =>
    (F_impl_RunStack x1.2.1 y2.2.2.1 x2.2.2.2.2.2.2.2.1).bind fun y3 =>
    some ((((0 : Int), (y3.1.1.2.2.2.2.2.1, (y3.1.1.2.2.2.2.1, (y1.1.1.1, (y1.1.1.2.1, (y3.1.1.2.2.2.1, ())))))), ()), (), (y1.2.2.1, (y1.2.2.2.1, (y3.2.2.1, ())))))
  else
  (F_impl_inverted x1.2.2.2.1).bind fun y4 =>
  (F_impl_latch x2.2.1 y4.2.2.1 x3).bind fun y5 =>
  (F_impl_inverted y5.2.2.1).bind fun y6 =>
  (F_impl_RunRegs x1.2.1 y6.2.2.1 x2.2.2.2.2.2.2.2.2).bind fun y7 =>
  some ((((0 : Int), (y7.1.1.2.2.2.2.1, (y7.1.1.2.2.2.1, (y1.1.1.1, (y1.1.1.2.1, (y7.1.1.2.2.1, ())))))), ()), (), (y1.2.2.1, (y1.2.2.2.1, (y7.2.2.2.1, ()))))
noncomputable abbrev U_impl_Chan_scan : sp_impl_Chan_scan.T → Option sq_impl_Chan_scan.T := fun x => F_impl_Chan_scan x.1.1 x.1.2.1 x.1.2.2.1
theorem e_impl_Chan_scan : ∀ x, evCode ty (gamOf g_impl_Chan_scan) j_impl_Chan_scan (lamOf []) b_impl_Chan_scan (sp_impl_Chan_scan.hd x) (finN ty sq_impl_Chan_scan [.cell 6 32]) = U_impl_Chan_scan x := fun x => by kernel_rfl
theorem c_impl_Chan_scan : FnS P 51 sp_impl_Chan_scan sq_impl_Chan_scan U_impl_Chan_scan :=
  fnS_of_ev tyOk mixed gok_impl_Chan_scan (fn := Tryz.f51) (by kernel_rfl) (c := b_impl_Chan_scan) (by kernel_rfl) (by kernel_rfl) (by kernel_rfl) (lam_ok (tab := []) (by kernel_rfl) lm0) e_impl_Chan_scan

/-! impl.ScanChan -/
abbrev sp_impl_ScanChan : Sp := ⟨45, [(0, .val true k8), (1, .val true k9), (2, .val false (.sl (.int .i64)))], [], []⟩
abbrev sq_impl_ScanChan : Sp := ⟨1, [(0, .mix true [.val (.int .i64), .val (.int .i64), .val (.int .i64), .val (.int .i64), .fix (.own 59000), .fix (.own 59001), .fix (.own 59002), .val (.int .i64), .val (.int .i64)])], [], [(59000, (.int .i64), true), (59001, (.int .i64), true), (59002, (.int .i64), true)]⟩
noncomputable def g_impl_ScanChan : List (FuncId × SumX) := [(48, cN sp_impl_BuildFault sq_impl_BuildFault U_impl_BuildFault), (49, cN sp_impl_ChanFault sq_impl_ChanFault U_impl_ChanFault), (50, cN sp_impl_areWords sq_impl_areWords U_impl_areWords), (51, fN sp_impl_Chan_scan sq_impl_Chan_scan U_impl_Chan_scan)]
def j_impl_ScanChan : Nat → Option (List (Nat × SS)) := jOf [(4, [(36, .val false .bool)])]
theorem gok_impl_ScanChan : GOk P (gamOf g_impl_ScanChan) := gam_ok (tab := g_impl_ScanChan) (gm1 (cN_ok c_impl_BuildFault rfl) (gm1 (cN_ok c_impl_ChanFault rfl) (gm1 (cN_ok c_impl_areWords rfl) (gm1 (fN_ok c_impl_Chan_scan rfl) gm0))))
noncomputable abbrev b_impl_ScanChan : Code := bodyOf Tryz.f12
noncomputable def F_impl_ScanChan (x1 : K.T k8) (x2 : K.T k9) (x3 : K.T (.sl (.int .i64))) : Option sq_impl_ScanChan.T :=
  (F_impl_BuildFault x1).bind fun y1 =>
  bif (y1.1.1 == (0 : Int)) then
    ((F_impl_ChanFault x2).bind fun y2 =>
    (bif (y2.1.1 == (0 : Int)) then
        (bif (((x3).length : Int) != ((x1.2.1).length : Int)) then
          (some (true, ()))
        else
        (F_impl_areWords x3).bind fun y3 =>
        bif (!y3.1.1) then
          (some (true, ()))
        else
        some ((((x2.2.2.2.1).length : Int) != x1.1), ()))
      else
      some (false, ())).bind fun y4 =>
    bif y4.1 then
      (some ((((1 : Int), ((0 : Int), ((0 : Int), ((0 : Int), ((0 : Int), ((0 : Int), ())))))), ()), (), ([], ([], ([], ())))))
    else
    bif (y2.1.1 != (0 : Int)) then
      (some (((y2.1.1, ((0 : Int), ((0 : Int), ((0 : Int), ((0 : Int), ((0 : Int), ())))))), ()), (), ([], ([], ([], ())))))
    else
    (F_impl_Chan_scan x2 x1 x3).bind fun y5 =>
    some (((y5.1.1.1, (y5.1.1.2.1, (y5.1.1.2.2.1, (y5.1.1.2.2.2.1, (y5.1.1.2.2.2.2.1, (y5.1.1.2.2.2.2.2.1, ())))))), ()), (), (y5.2.2.1, (y5.2.2.2.1, (y5.2.2.2.2.1, ())))))
  else
  (bif (y1.1.1 == (0 : Int)) then
      (bif (((x3).length : Int) != ((x1.2.1).length : Int)) then
        (some (true, ()))
      else
      (F_impl_areWords x3).bind fun y6 =>
      bif (!y6.1.1) then
        (some (true, ()))
      else
      some ((((x2.2.2.2.1).length : Int) != x1.1), ()))
    else
    some (false, ())).bind fun y7 =>
  bif y7.1 then
    (some ((((1 : Int), ((0 : Int), ((0 : Int), ((0 : Int), ((0 : Int), ((0 : Int), ())))))), ()), (), ([], ([], ([], ())))))
  else
  bif (y1.1.1 != (0 : Int)) then
    (some (((y1.1.1, ((0 : Int), ((0 : Int), ((0 : Int), ((0 : Int), ((0 : Int), ())))))), ()), (), ([], ([], ([], ())))))
  else
  (F_impl_Chan_scan x2 x1 x3).bind fun y8 =>
  some (((y8.1.1.1, (y8.1.1.2.1, (y8.1.1.2.2.1, (y8.1.1.2.2.2.1, (y8.1.1.2.2.2.2.1, (y8.1.1.2.2.2.2.2.1, ())))))), ()), (), (y8.2.2.1, (y8.2.2.2.1, (y8.2.2.2.2.1, ()))))
noncomputable abbrev U_impl_ScanChan : sp_impl_ScanChan.T → Option sq_impl_ScanChan.T := fun x => F_impl_ScanChan x.1.1 x.1.2.1 x.1.2.2.1
theorem e_impl_ScanChan : ∀ x, evCode ty (gamOf g_impl_ScanChan) j_impl_ScanChan (lamOf []) b_impl_ScanChan (sp_impl_ScanChan.hd x) (finN ty sq_impl_ScanChan [.cell 6 32]) = U_impl_ScanChan x := fun x => by kernel_rfl
theorem c_impl_ScanChan : FnS P 12 sp_impl_ScanChan sq_impl_ScanChan U_impl_ScanChan :=
  fnS_of_ev tyOk mixed gok_impl_ScanChan (fn := Tryz.f12) (by kernel_rfl) (c := b_impl_ScanChan) (by kernel_rfl) (by kernel_rfl) (by kernel_rfl) (lam_ok (tab := []) (by kernel_rfl) lm0) e_impl_ScanChan

/-! laws.eqInt64S -/
abbrev sp_laws_eqInt64S : Sp := ⟨26, [(0, .val false (.sl (.int .i64))), (1, .val false (.sl (.int .i64)))], [], []⟩
abbrev sq_laws_eqInt64S : Sp := ⟨1, [(0, .val false .bool)], [], []⟩
noncomputable def g_laws_eqInt64S : List (FuncId × SumX) := []
def j_laws_eqInt64S : Nat → Option (List (Nat × SS)) := jOf []
theorem gok_laws_eqInt64S : GOk P (gamOf g_laws_eqInt64S) := gam_ok (tab := g_laws_eqInt64S) gm0
noncomputable abbrev b_laws_eqInt64S : Code := bodyOf Tryz.f16
abbrev sp_laws_eqInt64S_l4 : Sp := ⟨26, [(0, .val false (.sl (.int .i64))), (1, .val false (.sl (.int .i64))), (5, .val false (.int .i64))], [], []⟩
abbrev xs_laws_eqInt64S_l4 : List (Ex × Sp) := [(.exit 0, ⟨26, [], [], []⟩), (.ret, ⟨26, [(4, .val false .bool)], [], []⟩)]
noncomputable def s_laws_eqInt64S_l4 : sp_laws_eqInt64S_l4.T → Option (sp_laws_eqInt64S_l4.T ⊕ XT xs_laws_eqInt64S_l4) := fun x =>
  bif (decide (x.1.2.2.1 < ((x.1.1).length : Int))) then
    (bif ib x.1.2.2.1 (x.1.1).length then
    bif ib x.1.2.2.1 (x.1.2.1).length then
    bif (((x.1.1).getD (Int.toNat x.1.2.2.1) (K.zero (.int .i64))) != ((x.1.2.1).getD (Int.toNat x.1.2.2.1) (K.zero (.int .i64)))) then
      (some (.inr (.inr ((false, ()), (), ()))))
    else
    some (.inl ((x.1.1, (x.1.2.1, ((IntKind.wrap .i64 (x.1.2.2.1 + (1 : Int))), ()))), (), ()))
    else none
    else none)
  else
  some (.inr (.inl ((), (), ())))
noncomputable def l_laws_eqInt64S_l4 : sp_laws_eqInt64S_l4.T → Option (XT xs_laws_eqInt64S_l4) := lim s_laws_eqInt64S_l4
theorem es_laws_eqInt64S_l4 : ∀ x, evCode ty (gamOf g_laws_eqInt64S) j_laws_eqInt64S (lamOf []) (loopAt b_laws_eqInt64S 4) (sp_laws_eqInt64S_l4.hd x) (rdK sp_laws_eqInt64S_l4 xs_laws_eqInt64S_l4) = s_laws_eqInt64S_l4 x := fun x => by kernel_rfl
theorem ls_laws_eqInt64S_l4 : LSumOk P (loopAt b_laws_eqInt64S 4) (loopL sp_laws_eqInt64S_l4 xs_laws_eqInt64S_l4 l_laws_eqInt64S_l4) := loop_ok tyOk mixed gok_laws_eqInt64S (by kernel_rfl) (by kernel_rfl) (lam_ok (tab := []) (by kernel_rfl) lm0) es_laws_eqInt64S_l4 lim_itr
noncomputable def F_laws_eqInt64S (x1 : K.T (.sl (.int .i64))) (x2 : K.T (.sl (.int .i64))) : Option sq_laws_eqInt64S.T :=
  bif (((x1).length : Int) != ((x2).length : Int)) then
    (some ((false, ()), (), ()))
  else
  (l_laws_eqInt64S_l4 ((x1, (x2, ((0 : Int), ()))), (), ())).bind fun y1 =>
  (match y1 with
  | .inl y2 => some ((true, ()), (), ())
  | .inr z3 => some ((z3.1.1, ()), (), ()))
noncomputable abbrev U_laws_eqInt64S : sp_laws_eqInt64S.T → Option sq_laws_eqInt64S.T := fun x => F_laws_eqInt64S x.1.1 x.1.2.1
theorem e_laws_eqInt64S : ∀ x, evCode ty (gamOf g_laws_eqInt64S) j_laws_eqInt64S (lamOf [(4, loopL sp_laws_eqInt64S_l4 xs_laws_eqInt64S_l4 l_laws_eqInt64S_l4)]) b_laws_eqInt64S (sp_laws_eqInt64S.hd x) (finN ty sq_laws_eqInt64S [.tmp 4]) = U_laws_eqInt64S x := fun x => by kernel_rfl
theorem c_laws_eqInt64S : FnS P 16 sp_laws_eqInt64S sq_laws_eqInt64S U_laws_eqInt64S :=
  fnS_of_ev tyOk mixed gok_laws_eqInt64S (fn := Tryz.f16) (by kernel_rfl) (c := b_laws_eqInt64S) (by kernel_rfl) (by kernel_rfl) (by kernel_rfl) (lam_ok (tab := [(4, loopL sp_laws_eqInt64S_l4 xs_laws_eqInt64S_l4 l_laws_eqInt64S_l4)]) (by kernel_rfl) (lm1 @ls_laws_eqInt64S_l4 lm0)) e_laws_eqInt64S

/-! laws.eqChan -/
abbrev sp_laws_eqChan : Sp := ⟨38, [(0, .val true k9), (1, .val true k9)], [], []⟩
abbrev sq_laws_eqChan : Sp := ⟨1, [(0, .val false .bool)], [], []⟩
noncomputable def g_laws_eqChan : List (FuncId × SumX) := [(16, cN sp_laws_eqInt64S sq_laws_eqInt64S U_laws_eqInt64S)]
def j_laws_eqChan : Nat → Option (List (Nat × SS)) := jOf []
theorem gok_laws_eqChan : GOk P (gamOf g_laws_eqChan) := gam_ok (tab := g_laws_eqChan) (gm1 (cN_ok c_laws_eqInt64S rfl) gm0)
noncomputable abbrev b_laws_eqChan : Code := bodyOf Tryz.f15
noncomputable def F_laws_eqChan (x1 : K.T k9) (x2 : K.T k9) : Option sq_laws_eqChan.T :=
  bif (x1.1 != x2.1) then
    (some ((false, ()), (), ()))
  else
  (F_laws_eqInt64S x1.2.1 x2.2.1).bind fun y1 =>
  bif (!y1.1.1) then
    (some ((false, ()), (), ()))
  else
  (F_laws_eqInt64S x1.2.2.1 x2.2.2.1).bind fun y2 =>
  bif (!y2.1.1) then
    (some ((false, ()), (), ()))
  else
  (F_laws_eqInt64S x1.2.2.2.1 x2.2.2.2.1).bind fun y3 =>
  bif (!y3.1.1) then
    (some ((false, ()), (), ()))
  else
  bif (x1.2.2.2.2.1 != x2.2.2.2.2.1) then
    (some ((false, ()), (), ()))
  else
  bif (x1.2.2.2.2.2 != x2.2.2.2.2.2) then
    (some ((false, ()), (), ()))
  else
  some ((true, ()), (), ())
noncomputable abbrev U_laws_eqChan : sp_laws_eqChan.T → Option sq_laws_eqChan.T := fun x => F_laws_eqChan x.1.1 x.1.2.1
theorem e_laws_eqChan : ∀ x, evCode ty (gamOf g_laws_eqChan) j_laws_eqChan (lamOf []) b_laws_eqChan (sp_laws_eqChan.hd x) (finN ty sq_laws_eqChan [.tmp 4]) = U_laws_eqChan x := fun x => by kernel_rfl
theorem c_laws_eqChan : FnS P 15 sp_laws_eqChan sq_laws_eqChan U_laws_eqChan :=
  fnS_of_ev tyOk mixed gok_laws_eqChan (fn := Tryz.f15) (by kernel_rfl) (c := b_laws_eqChan) (by kernel_rfl) (by kernel_rfl) (by kernel_rfl) (lam_ok (tab := []) (by kernel_rfl) lm0) e_laws_eqChan

/-! laws.eqChanResult -/
abbrev sp_laws_eqChanResult : Sp := ⟨26, [(0, .val true k17), (1, .val true k17)], [], []⟩
abbrev sq_laws_eqChanResult : Sp := ⟨1, [(0, .val false .bool)], [], []⟩
noncomputable def g_laws_eqChanResult : List (FuncId × SumX) := [(15, cN sp_laws_eqChan sq_laws_eqChan U_laws_eqChan)]
def j_laws_eqChanResult : Nat → Option (List (Nat × SS)) := jOf []
theorem gok_laws_eqChanResult : GOk P (gamOf g_laws_eqChanResult) := gam_ok (tab := g_laws_eqChanResult) (gm1 (cN_ok c_laws_eqChan rfl) gm0)
noncomputable abbrev b_laws_eqChanResult : Code := bodyOf Tryz.f13
noncomputable def F_laws_eqChanResult (x1 : K.T k17) (x2 : K.T k17) : Option sq_laws_eqChanResult.T :=
  bif (x1.1 != x2.1) then
    (some ((false, ()), (), ()))
  else
  bif (x1.2.1 != x2.2.1) then
    (some ((false, ()), (), ()))
  else
  bif (x1.2.2.1 != x2.2.2.1) then
    (some ((false, ()), (), ()))
  else
  (F_laws_eqChan x1.2.2.2 x2.2.2.2).bind fun y1 =>
  bif (!y1.1.1) then
    (some ((false, ()), (), ()))
  else
  some ((true, ()), (), ())
noncomputable abbrev U_laws_eqChanResult : sp_laws_eqChanResult.T → Option sq_laws_eqChanResult.T := fun x => F_laws_eqChanResult x.1.1 x.1.2.1
theorem e_laws_eqChanResult : ∀ x, evCode ty (gamOf g_laws_eqChanResult) j_laws_eqChanResult (lamOf []) b_laws_eqChanResult (sp_laws_eqChanResult.hd x) (finN ty sq_laws_eqChanResult [.tmp 4]) = U_laws_eqChanResult x := fun x => by kernel_rfl
theorem c_laws_eqChanResult : FnS P 13 sp_laws_eqChanResult sq_laws_eqChanResult U_laws_eqChanResult :=
  fnS_of_ev tyOk mixed gok_laws_eqChanResult (fn := Tryz.f13) (by kernel_rfl) (c := b_laws_eqChanResult) (by kernel_rfl) (by kernel_rfl) (by kernel_rfl) (lam_ok (tab := []) (by kernel_rfl) lm0) e_laws_eqChanResult

/-! laws.eqPort -/
abbrev sp_laws_eqPort : Sp := ⟨15, [(0, .val true k0), (1, .val true k0)], [], []⟩
abbrev sq_laws_eqPort : Sp := ⟨1, [(0, .val false .bool)], [], []⟩
noncomputable def g_laws_eqPort : List (FuncId × SumX) := []
def j_laws_eqPort : Nat → Option (List (Nat × SS)) := jOf []
theorem gok_laws_eqPort : GOk P (gamOf g_laws_eqPort) := gam_ok (tab := g_laws_eqPort) gm0
noncomputable abbrev b_laws_eqPort : Code := bodyOf Tryz.f107
noncomputable def F_laws_eqPort (x1 : K.T k0) (x2 : K.T k0) : Option sq_laws_eqPort.T :=
  bif (x1.1 != x2.1) then
    (some ((false, ()), (), ()))
  else
  bif (!(x1.2 == x2.2)) then
    (some ((false, ()), (), ()))
  else
  some ((true, ()), (), ())
noncomputable abbrev U_laws_eqPort : sp_laws_eqPort.T → Option sq_laws_eqPort.T := fun x => F_laws_eqPort x.1.1 x.1.2.1
theorem e_laws_eqPort : ∀ x, evCode ty (gamOf g_laws_eqPort) j_laws_eqPort (lamOf []) b_laws_eqPort (sp_laws_eqPort.hd x) (finN ty sq_laws_eqPort [.tmp 4]) = U_laws_eqPort x := fun x => by kernel_rfl
theorem c_laws_eqPort : FnS P 107 sp_laws_eqPort sq_laws_eqPort U_laws_eqPort :=
  fnS_of_ev tyOk mixed gok_laws_eqPort (fn := Tryz.f107) (by kernel_rfl) (c := b_laws_eqPort) (by kernel_rfl) (by kernel_rfl) (by kernel_rfl) (lam_ok (tab := []) (by kernel_rfl) lm0) e_laws_eqPort

/-! laws.eqPortS -/
abbrev sp_laws_eqPortS : Sp := ⟨27, [(0, .val false (.sl k0)), (1, .val false (.sl k0))], [], []⟩
abbrev sq_laws_eqPortS : Sp := ⟨1, [(0, .val false .bool)], [], []⟩
noncomputable def g_laws_eqPortS : List (FuncId × SumX) := [(107, cN sp_laws_eqPort sq_laws_eqPort U_laws_eqPort)]
def j_laws_eqPortS : Nat → Option (List (Nat × SS)) := jOf []
theorem gok_laws_eqPortS : GOk P (gamOf g_laws_eqPortS) := gam_ok (tab := g_laws_eqPortS) (gm1 (cN_ok c_laws_eqPort rfl) gm0)
noncomputable abbrev b_laws_eqPortS : Code := bodyOf Tryz.f52
abbrev sp_laws_eqPortS_l4 : Sp := ⟨27, [(0, .val false (.sl k0)), (1, .val false (.sl k0)), (5, .val false (.int .i64))], [], []⟩
abbrev xs_laws_eqPortS_l4 : List (Ex × Sp) := [(.exit 0, ⟨27, [], [], []⟩), (.ret, ⟨27, [(4, .val false .bool)], [], []⟩)]
noncomputable def s_laws_eqPortS_l4 : sp_laws_eqPortS_l4.T → Option (sp_laws_eqPortS_l4.T ⊕ XT xs_laws_eqPortS_l4) := fun x =>
  bif (decide (x.1.2.2.1 < ((x.1.1).length : Int))) then
    (bif ib x.1.2.2.1 (x.1.1).length then
    bif ib x.1.2.2.1 (x.1.2.1).length then
    (F_laws_eqPort ((x.1.1).getD (Int.toNat x.1.2.2.1) (K.zero k0)) ((x.1.2.1).getD (Int.toNat x.1.2.2.1) (K.zero k0))).bind fun y1 =>
    bif (!y1.1.1) then
      (some (.inr (.inr ((false, ()), (), ()))))
    else
    some (.inl ((x.1.1, (x.1.2.1, ((IntKind.wrap .i64 (x.1.2.2.1 + (1 : Int))), ()))), (), ()))
    else none
    else none)
  else
  some (.inr (.inl ((), (), ())))
noncomputable def l_laws_eqPortS_l4 : sp_laws_eqPortS_l4.T → Option (XT xs_laws_eqPortS_l4) := lim s_laws_eqPortS_l4
theorem es_laws_eqPortS_l4 : ∀ x, evCode ty (gamOf g_laws_eqPortS) j_laws_eqPortS (lamOf []) (loopAt b_laws_eqPortS 4) (sp_laws_eqPortS_l4.hd x) (rdK sp_laws_eqPortS_l4 xs_laws_eqPortS_l4) = s_laws_eqPortS_l4 x := fun x => by kernel_rfl
theorem ls_laws_eqPortS_l4 : LSumOk P (loopAt b_laws_eqPortS 4) (loopL sp_laws_eqPortS_l4 xs_laws_eqPortS_l4 l_laws_eqPortS_l4) := loop_ok tyOk mixed gok_laws_eqPortS (by kernel_rfl) (by kernel_rfl) (lam_ok (tab := []) (by kernel_rfl) lm0) es_laws_eqPortS_l4 lim_itr
noncomputable def F_laws_eqPortS (x1 : K.T (.sl k0)) (x2 : K.T (.sl k0)) : Option sq_laws_eqPortS.T :=
  bif (((x1).length : Int) != ((x2).length : Int)) then
    (some ((false, ()), (), ()))
  else
  (l_laws_eqPortS_l4 ((x1, (x2, ((0 : Int), ()))), (), ())).bind fun y2 =>
  (match y2 with
  | .inl y3 => some ((true, ()), (), ())
  | .inr z4 => some ((z4.1.1, ()), (), ()))
noncomputable abbrev U_laws_eqPortS : sp_laws_eqPortS.T → Option sq_laws_eqPortS.T := fun x => F_laws_eqPortS x.1.1 x.1.2.1
theorem e_laws_eqPortS : ∀ x, evCode ty (gamOf g_laws_eqPortS) j_laws_eqPortS (lamOf [(4, loopL sp_laws_eqPortS_l4 xs_laws_eqPortS_l4 l_laws_eqPortS_l4)]) b_laws_eqPortS (sp_laws_eqPortS.hd x) (finN ty sq_laws_eqPortS [.tmp 4]) = U_laws_eqPortS x := fun x => by kernel_rfl
theorem c_laws_eqPortS : FnS P 52 sp_laws_eqPortS sq_laws_eqPortS U_laws_eqPortS :=
  fnS_of_ev tyOk mixed gok_laws_eqPortS (fn := Tryz.f52) (by kernel_rfl) (c := b_laws_eqPortS) (by kernel_rfl) (by kernel_rfl) (by kernel_rfl) (lam_ok (tab := [(4, loopL sp_laws_eqPortS_l4 xs_laws_eqPortS_l4 l_laws_eqPortS_l4)]) (by kernel_rfl) (lm1 @ls_laws_eqPortS_l4 lm0)) e_laws_eqPortS

/-! laws.eqBuild -/
abbrev sp_laws_eqBuild : Sp := ⟨56, [(0, .val true k8), (1, .val true k8)], [], []⟩
abbrev sq_laws_eqBuild : Sp := ⟨1, [(0, .val false .bool)], [], []⟩
noncomputable def g_laws_eqBuild : List (FuncId × SumX) := [(16, cN sp_laws_eqInt64S sq_laws_eqInt64S U_laws_eqInt64S), (52, cN sp_laws_eqPortS sq_laws_eqPortS U_laws_eqPortS)]
def j_laws_eqBuild : Nat → Option (List (Nat × SS)) := jOf []
theorem gok_laws_eqBuild : GOk P (gamOf g_laws_eqBuild) := gam_ok (tab := g_laws_eqBuild) (gm1 (cN_ok c_laws_eqInt64S rfl) (gm1 (cN_ok c_laws_eqPortS rfl) gm0))
noncomputable abbrev b_laws_eqBuild : Code := bodyOf Tryz.f14
noncomputable def F_laws_eqBuild (x1 : K.T k8) (x2 : K.T k8) : Option sq_laws_eqBuild.T :=
  bif (x1.1 != x2.1) then
    (some ((false, ()), (), ()))
  else
  (F_laws_eqPortS x1.2.1 x2.2.1).bind fun y1 =>
  bif (!y1.1.1) then
    (some ((false, ()), (), ()))
  else
  (F_laws_eqInt64S x1.2.2.1 x2.2.2.1).bind fun y2 =>
  bif (!y2.1.1) then
    (some ((false, ()), (), ()))
  else
  (F_laws_eqInt64S x1.2.2.2.1 x2.2.2.2.1).bind fun y3 =>
  bif (!y3.1.1) then
    (some ((false, ()), (), ()))
  else
  (F_laws_eqInt64S x1.2.2.2.2.1 x2.2.2.2.2.1).bind fun y4 =>
  bif (!y4.1.1) then
    (some ((false, ()), (), ()))
  else
  (F_laws_eqInt64S x1.2.2.2.2.2.1 x2.2.2.2.2.2.1).bind fun y5 =>
  bif (!y5.1.1) then
    (some ((false, ()), (), ()))
  else
  (F_laws_eqInt64S x1.2.2.2.2.2.2.1 x2.2.2.2.2.2.2.1).bind fun y6 =>
  bif (!y6.1.1) then
    (some ((false, ()), (), ()))
  else
  bif (x1.2.2.2.2.2.2.2.1 != x2.2.2.2.2.2.2.2.1) then
    (some ((false, ()), (), ()))
  else
  bif (x1.2.2.2.2.2.2.2.2 != x2.2.2.2.2.2.2.2.2) then
    (some ((false, ()), (), ()))
  else
  some ((true, ()), (), ())
noncomputable abbrev U_laws_eqBuild : sp_laws_eqBuild.T → Option sq_laws_eqBuild.T := fun x => F_laws_eqBuild x.1.1 x.1.2.1
theorem e_laws_eqBuild : ∀ x, evCode ty (gamOf g_laws_eqBuild) j_laws_eqBuild (lamOf []) b_laws_eqBuild (sp_laws_eqBuild.hd x) (finN ty sq_laws_eqBuild [.tmp 4]) = U_laws_eqBuild x := fun x => by kernel_rfl
theorem c_laws_eqBuild : FnS P 14 sp_laws_eqBuild sq_laws_eqBuild U_laws_eqBuild :=
  fnS_of_ev tyOk mixed gok_laws_eqBuild (fn := Tryz.f14) (by kernel_rfl) (c := b_laws_eqBuild) (by kernel_rfl) (by kernel_rfl) (by kernel_rfl) (lam_ok (tab := []) (by kernel_rfl) lm0) e_laws_eqBuild

/-! laws.markInt64S -/
abbrev sp_laws_markInt64S : Sp := ⟨19, [(0, .fix (.own 64000)), (1, .val false (.int .i64))], [], [(64000, (.int .i64), true)]⟩
abbrev sq_laws_markInt64S : Sp := ⟨1, [(0, .val false (.int .i64))], [], [(64000, (.int .i64), true)]⟩
noncomputable def g_laws_markInt64S : List (FuncId × SumX) := []
def j_laws_markInt64S : Nat → Option (List (Nat × SS)) := jOf []
theorem gok_laws_markInt64S : GOk P (gamOf g_laws_markInt64S) := gam_ok (tab := g_laws_markInt64S) gm0
noncomputable abbrev b_laws_markInt64S : Code := bodyOf Tryz.f19
abbrev sp_laws_markInt64S_l2 : Sp := ⟨19, [(0, .fix (.own 64000)), (1, .val false (.int .i64)), (5, .val false (.int .i64))], [], [(64000, (.int .i64), true)]⟩
abbrev xs_laws_markInt64S_l2 : List (Ex × Sp) := [(.exit 0, ⟨19, [(1, .val false (.int .i64))], [], [(64000, (.int .i64), true)]⟩)]
noncomputable def s_laws_markInt64S_l2 : sp_laws_markInt64S_l2.T → Option (sp_laws_markInt64S_l2.T ⊕ XT xs_laws_markInt64S_l2) := fun x =>
  bif (decide (x.1.2.1 < ((x.2.2.1).length : Int))) then
    (bif ib x.1.2.1 (x.2.2.1).length then
    some (.inl (((IntKind.wrap .i64 (x.1.1 + (1 : Int))), ((IntKind.wrap .i64 (x.1.2.1 + (1 : Int))), ())), (), ((x.2.2.1).set (Int.toNat x.1.2.1) x.1.1, ())))
    else none)
  else
  some (.inr ((x.1.1, ()), (), (x.2.2.1, ())))
noncomputable def l_laws_markInt64S_l2 : sp_laws_markInt64S_l2.T → Option (XT xs_laws_markInt64S_l2) := lim s_laws_markInt64S_l2
theorem es_laws_markInt64S_l2 : ∀ x, evCode ty (gamOf g_laws_markInt64S) j_laws_markInt64S (lamOf []) (loopAt b_laws_markInt64S 2) (sp_laws_markInt64S_l2.hd x) (rdK sp_laws_markInt64S_l2 xs_laws_markInt64S_l2) = s_laws_markInt64S_l2 x := fun x => by kernel_rfl
theorem ls_laws_markInt64S_l2 : LSumOk P (loopAt b_laws_markInt64S 2) (loopL sp_laws_markInt64S_l2 xs_laws_markInt64S_l2 l_laws_markInt64S_l2) := loop_ok tyOk mixed gok_laws_markInt64S (by kernel_rfl) (by kernel_rfl) (lam_ok (tab := []) (by kernel_rfl) lm0) es_laws_markInt64S_l2 lim_itr
noncomputable def F_laws_markInt64S (x1 : K.T (.int .i64)) (x2 : List (K.T (.int .i64))) : Option sq_laws_markInt64S.T :=
  (l_laws_markInt64S_l2 ((x1, ((0 : Int), ())), (), (x2, ()))).bind fun y1 =>
  some ((y1.1.1, ()), (), (y1.2.2.1, ()))
noncomputable abbrev U_laws_markInt64S : sp_laws_markInt64S.T → Option sq_laws_markInt64S.T := fun x => F_laws_markInt64S x.1.1 x.2.2.1
theorem e_laws_markInt64S : ∀ x, evCode ty (gamOf g_laws_markInt64S) j_laws_markInt64S (lamOf [(2, loopL sp_laws_markInt64S_l2 xs_laws_markInt64S_l2 l_laws_markInt64S_l2)]) b_laws_markInt64S (sp_laws_markInt64S.hd x) (finN ty sq_laws_markInt64S [.tmp 4]) = U_laws_markInt64S x := fun x => by kernel_rfl
theorem c_laws_markInt64S : FnS P 19 sp_laws_markInt64S sq_laws_markInt64S U_laws_markInt64S :=
  fnS_of_ev tyOk mixed gok_laws_markInt64S (fn := Tryz.f19) (by kernel_rfl) (c := b_laws_markInt64S) (by kernel_rfl) (by kernel_rfl) (by kernel_rfl) (lam_ok (tab := [(2, loopL sp_laws_markInt64S_l2 xs_laws_markInt64S_l2 l_laws_markInt64S_l2)]) (by kernel_rfl) (lm1 @ls_laws_markInt64S_l2 lm0)) e_laws_markInt64S

/-! laws.markPortS -/
abbrev sp_laws_markPortS : Sp := ⟨29, [(0, .fix (.own 64000)), (1, .val false (.int .i64))], [], [(64000, k0, true)]⟩
abbrev sq_laws_markPortS : Sp := ⟨1, [(0, .val false (.int .i64))], [], [(64000, k0, true)]⟩
noncomputable def g_laws_markPortS : List (FuncId × SumX) := []
def j_laws_markPortS : Nat → Option (List (Nat × SS)) := jOf []
theorem gok_laws_markPortS : GOk P (gamOf g_laws_markPortS) := gam_ok (tab := g_laws_markPortS) gm0
noncomputable abbrev b_laws_markPortS : Code := bodyOf Tryz.f53
abbrev sp_laws_markPortS_l2 : Sp := ⟨29, [(0, .fix (.own 64000)), (1, .val false (.int .i64)), (5, .val false (.int .i64))], [], [(64000, k0, true)]⟩
abbrev xs_laws_markPortS_l2 : List (Ex × Sp) := [(.exit 0, ⟨29, [(1, .val false (.int .i64))], [], [(64000, k0, true)]⟩)]
noncomputable def s_laws_markPortS_l2 : sp_laws_markPortS_l2.T → Option (sp_laws_markPortS_l2.T ⊕ XT xs_laws_markPortS_l2) := fun x =>
  bif (decide (x.1.2.1 < ((x.2.2.1).length : Int))) then
    (bif ib x.1.2.1 (x.2.2.1).length then
    bif ib x.1.2.1 ((x.2.2.1).set (Int.toNat x.1.2.1) (x.1.1, ((x.2.2.1).getD (Int.toNat x.1.2.1) (K.zero k0)).2)).length then
    some (.inl (((IntKind.wrap .i64 ((IntKind.wrap .i64 (x.1.1 + (1 : Int))) + (1 : Int))), ((IntKind.wrap .i64 (x.1.2.1 + (1 : Int))), ())), (), (((x.2.2.1).set (Int.toNat x.1.2.1) (x.1.1, ((x.2.2.1).getD (Int.toNat x.1.2.1) (K.zero k0)).2)).set (Int.toNat x.1.2.1) ((((x.2.2.1).set (Int.toNat x.1.2.1) (x.1.1, ((x.2.2.1).getD (Int.toNat x.1.2.1) (K.zero k0)).2)).getD (Int.toNat x.1.2.1) (K.zero k0)).1, ((Int.tmod (IntKind.wrap .i64 (x.1.1 + (1 : Int))) (3 : Int)) == (0 : Int))), ())))
    else none
    else none)
  else
  some (.inr ((x.1.1, ()), (), (x.2.2.1, ())))
noncomputable def l_laws_markPortS_l2 : sp_laws_markPortS_l2.T → Option (XT xs_laws_markPortS_l2) := lim s_laws_markPortS_l2
theorem es_laws_markPortS_l2 : ∀ x, evCode ty (gamOf g_laws_markPortS) j_laws_markPortS (lamOf []) (loopAt b_laws_markPortS 2) (sp_laws_markPortS_l2.hd x) (rdK sp_laws_markPortS_l2 xs_laws_markPortS_l2) = s_laws_markPortS_l2 x := fun x => by kernel_rfl
theorem ls_laws_markPortS_l2 : LSumOk P (loopAt b_laws_markPortS 2) (loopL sp_laws_markPortS_l2 xs_laws_markPortS_l2 l_laws_markPortS_l2) := loop_ok tyOk mixed gok_laws_markPortS (by kernel_rfl) (by kernel_rfl) (lam_ok (tab := []) (by kernel_rfl) lm0) es_laws_markPortS_l2 lim_itr
noncomputable def F_laws_markPortS (x1 : K.T (.int .i64)) (x2 : List (K.T k0)) : Option sq_laws_markPortS.T :=
  (l_laws_markPortS_l2 ((x1, ((0 : Int), ())), (), (x2, ()))).bind fun y1 =>
  some ((y1.1.1, ()), (), (y1.2.2.1, ()))
noncomputable abbrev U_laws_markPortS : sp_laws_markPortS.T → Option sq_laws_markPortS.T := fun x => F_laws_markPortS x.1.1 x.2.2.1
theorem e_laws_markPortS : ∀ x, evCode ty (gamOf g_laws_markPortS) j_laws_markPortS (lamOf [(2, loopL sp_laws_markPortS_l2 xs_laws_markPortS_l2 l_laws_markPortS_l2)]) b_laws_markPortS (sp_laws_markPortS.hd x) (finN ty sq_laws_markPortS [.tmp 4]) = U_laws_markPortS x := fun x => by kernel_rfl
theorem c_laws_markPortS : FnS P 53 sp_laws_markPortS sq_laws_markPortS U_laws_markPortS :=
  fnS_of_ev tyOk mixed gok_laws_markPortS (fn := Tryz.f53) (by kernel_rfl) (c := b_laws_markPortS) (by kernel_rfl) (by kernel_rfl) (by kernel_rfl) (lam_ok (tab := [(2, loopL sp_laws_markPortS_l2 xs_laws_markPortS_l2 l_laws_markPortS_l2)]) (by kernel_rfl) (lm1 @ls_laws_markPortS_l2 lm0)) e_laws_markPortS

/-! laws.markBuild -/
abbrev sp_laws_markBuild : Sp := ⟨30, [(0, .mix true [.val (.int .i64), .fix (.own 64000), .fix (.own 64001), .fix (.own 64002), .fix (.own 64003), .fix (.own 64004), .fix (.own 64005), .val (.int .i64), .val (.int .i64)]), (1, .val false (.int .i64))], [], [(64000, k0, true), (64001, (.int .i64), true), (64002, (.int .i64), true), (64003, (.int .i64), true), (64004, (.int .i64), true), (64005, (.int .i64), true)]⟩
abbrev sq_laws_markBuild : Sp := ⟨1, [(0, .val false (.int .i64))], [], [(64000, k0, true), (64001, (.int .i64), true), (64002, (.int .i64), true), (64003, (.int .i64), true), (64004, (.int .i64), true), (64005, (.int .i64), true)]⟩
noncomputable def g_laws_markBuild : List (FuncId × SumX) := [(19, xN sp_laws_markInt64S sq_laws_markInt64S U_laws_markInt64S), (53, xN sp_laws_markPortS sq_laws_markPortS U_laws_markPortS)]
def j_laws_markBuild : Nat → Option (List (Nat × SS)) := jOf []
theorem gok_laws_markBuild : GOk P (gamOf g_laws_markBuild) := gam_ok (tab := g_laws_markBuild) (gm1 (xN_ok c_laws_markInt64S rfl) (gm1 (xN_ok c_laws_markPortS rfl) gm0))
noncomputable abbrev b_laws_markBuild : Code := bodyOf Tryz.f17
noncomputable def F_laws_markBuild (x1 : K.T (.int .i64)) (x2 : K.T (.int .i64)) (x3 : K.T (.int .i64)) (x4 : K.T (.int .i64)) (x5 : List (K.T k0)) (x6 : List (K.T (.int .i64))) (x7 : List (K.T (.int .i64))) (x8 : List (K.T (.int .i64))) (x9 : List (K.T (.int .i64))) (x10 : List (K.T (.int .i64))) : Option sq_laws_markBuild.T :=
  (F_laws_markPortS x4 x5).bind fun y1 =>
  (F_laws_markInt64S y1.1.1 x6).bind fun y2 =>
  (F_laws_markInt64S y2.1.1 x7).bind fun y3 =>
  (F_laws_markInt64S y3.1.1 x8).bind fun y4 =>
  (F_laws_markInt64S y4.1.1 x9).bind fun y5 =>
  (F_laws_markInt64S y5.1.1 x10).bind fun y6 =>
  some ((y6.1.1, ()), (), (y1.2.2.1, (y2.2.2.1, (y3.2.2.1, (y4.2.2.1, (y5.2.2.1, (y6.2.2.1, ())))))))
noncomputable abbrev U_laws_markBuild : sp_laws_markBuild.T → Option sq_laws_markBuild.T := fun x => F_laws_markBuild x.1.1.1 x.1.1.2.1 x.1.1.2.2.1 x.1.2.1 x.2.2.1 x.2.2.2.1 x.2.2.2.2.1 x.2.2.2.2.2.1 x.2.2.2.2.2.2.1 x.2.2.2.2.2.2.2.1
theorem e_laws_markBuild : ∀ x, evCode ty (gamOf g_laws_markBuild) j_laws_markBuild (lamOf []) b_laws_markBuild (sp_laws_markBuild.hd x) (finN ty sq_laws_markBuild [.tmp 4]) = U_laws_markBuild x := fun x => by kernel_rfl
theorem c_laws_markBuild : FnS P 17 sp_laws_markBuild sq_laws_markBuild U_laws_markBuild :=
  fnS_of_ev tyOk mixed gok_laws_markBuild (fn := Tryz.f17) (by kernel_rfl) (c := b_laws_markBuild) (by kernel_rfl) (by kernel_rfl) (by kernel_rfl) (lam_ok (tab := []) (by kernel_rfl) lm0) e_laws_markBuild

/-! laws.markChan -/
abbrev sp_laws_markChan : Sp := ⟨18, [(0, .mix true [.val (.int .i64), .fix (.own 64000), .fix (.own 64001), .fix (.own 64002), .val (.int .i64), .val (.int .i64)]), (1, .val false (.int .i64))], [], [(64000, (.int .i64), true), (64001, (.int .i64), true), (64002, (.int .i64), true)]⟩
abbrev sq_laws_markChan : Sp := ⟨1, [(0, .val false (.int .i64))], [], [(64000, (.int .i64), true), (64001, (.int .i64), true), (64002, (.int .i64), true)]⟩
noncomputable def g_laws_markChan : List (FuncId × SumX) := [(19, xN sp_laws_markInt64S sq_laws_markInt64S U_laws_markInt64S)]
def j_laws_markChan : Nat → Option (List (Nat × SS)) := jOf []
theorem gok_laws_markChan : GOk P (gamOf g_laws_markChan) := gam_ok (tab := g_laws_markChan) (gm1 (xN_ok c_laws_markInt64S rfl) gm0)
noncomputable abbrev b_laws_markChan : Code := bodyOf Tryz.f18
noncomputable def F_laws_markChan (x1 : K.T (.int .i64)) (x2 : K.T (.int .i64)) (x3 : K.T (.int .i64)) (x4 : K.T (.int .i64)) (x5 : List (K.T (.int .i64))) (x6 : List (K.T (.int .i64))) (x7 : List (K.T (.int .i64))) : Option sq_laws_markChan.T :=
  (F_laws_markInt64S x4 x5).bind fun y1 =>
  (F_laws_markInt64S y1.1.1 x6).bind fun y2 =>
  (F_laws_markInt64S y2.1.1 x7).bind fun y3 =>
  some ((y3.1.1, ()), (), (y1.2.2.1, (y2.2.2.1, (y3.2.2.1, ()))))
noncomputable abbrev U_laws_markChan : sp_laws_markChan.T → Option sq_laws_markChan.T := fun x => F_laws_markChan x.1.1.1 x.1.1.2.1 x.1.1.2.2.1 x.1.2.1 x.2.2.1 x.2.2.2.1 x.2.2.2.2.1
theorem e_laws_markChan : ∀ x, evCode ty (gamOf g_laws_markChan) j_laws_markChan (lamOf []) b_laws_markChan (sp_laws_markChan.hd x) (finN ty sq_laws_markChan [.tmp 4]) = U_laws_markChan x := fun x => by kernel_rfl
theorem c_laws_markChan : FnS P 18 sp_laws_markChan sq_laws_markChan U_laws_markChan :=
  fnS_of_ev tyOk mixed gok_laws_markChan (fn := Tryz.f18) (by kernel_rfl) (c := b_laws_markChan) (by kernel_rfl) (by kernel_rfl) (by kernel_rfl) (lam_ok (tab := []) (by kernel_rfl) lm0) e_laws_markChan

/-! laws.markChanResult -/
abbrev sp_laws_markChanResult : Sp := ⟨10, [(0, .mix true [.val (.int .i64), .val (.int .i64), .val (.int .i64), .val (.int .i64), .fix (.own 64000), .fix (.own 64001), .fix (.own 64002), .val (.int .i64), .val (.int .i64)]), (1, .val false (.int .i64))], [], [(64000, (.int .i64), true), (64001, (.int .i64), true), (64002, (.int .i64), true)]⟩
abbrev sq_laws_markChanResult : Sp := ⟨1, [(0, .val false (.int .i64))], [], [(64000, (.int .i64), true), (64001, (.int .i64), true), (64002, (.int .i64), true)]⟩
noncomputable def g_laws_markChanResult : List (FuncId × SumX) := [(18, xN sp_laws_markChan sq_laws_markChan U_laws_markChan)]
def j_laws_markChanResult : Nat → Option (List (Nat × SS)) := jOf []
theorem gok_laws_markChanResult : GOk P (gamOf g_laws_markChanResult) := gam_ok (tab := g_laws_markChanResult) (gm1 (xN_ok c_laws_markChan rfl) gm0)
noncomputable abbrev b_laws_markChanResult : Code := bodyOf Tryz.f20
noncomputable def F_laws_markChanResult (x1 : K.T (.int .i64)) (x2 : K.T (.int .i64)) (x3 : K.T (.int .i64)) (x4 : K.T (.int .i64)) (x5 : K.T (.int .i64)) (x6 : K.T (.int .i64)) (x7 : K.T (.int .i64)) (x8 : List (K.T (.int .i64))) (x9 : List (K.T (.int .i64))) (x10 : List (K.T (.int .i64))) : Option sq_laws_markChanResult.T :=
  (F_laws_markChan x4 x5 x6 x7 x8 x9 x10).bind fun y1 =>
  some ((y1.1.1, ()), (), (y1.2.2.1, (y1.2.2.2.1, (y1.2.2.2.2.1, ()))))
noncomputable abbrev U_laws_markChanResult : sp_laws_markChanResult.T → Option sq_laws_markChanResult.T := fun x => F_laws_markChanResult x.1.1.1 x.1.1.2.1 x.1.1.2.2.1 x.1.1.2.2.2.1 x.1.1.2.2.2.2.1 x.1.1.2.2.2.2.2.1 x.1.2.1 x.2.2.1 x.2.2.2.1 x.2.2.2.2.1
theorem e_laws_markChanResult : ∀ x, evCode ty (gamOf g_laws_markChanResult) j_laws_markChanResult (lamOf []) b_laws_markChanResult (sp_laws_markChanResult.hd x) (finN ty sq_laws_markChanResult [.tmp 4]) = U_laws_markChanResult x := fun x => by kernel_rfl
theorem c_laws_markChanResult : FnS P 20 sp_laws_markChanResult sq_laws_markChanResult U_laws_markChanResult :=
  fnS_of_ev tyOk mixed gok_laws_markChanResult (fn := Tryz.f20) (by kernel_rfl) (c := b_laws_markChanResult) (by kernel_rfl) (by kernel_rfl) (by kernel_rfl) (lam_ok (tab := []) (by kernel_rfl) lm0) e_laws_markChanResult

/-! laws.heldInt64S -/
abbrev sp_laws_heldInt64S : Sp := ⟨21, [(0, .val false (.sl (.int .i64))), (1, .val false (.int .i64))], [], []⟩
abbrev sq_laws_heldInt64S : Sp := ⟨1, [(0, .val false (.int .i64))], [], []⟩
noncomputable def g_laws_heldInt64S : List (FuncId × SumX) := []
def j_laws_heldInt64S : Nat → Option (List (Nat × SS)) := jOf []
theorem gok_laws_heldInt64S : GOk P (gamOf g_laws_heldInt64S) := gam_ok (tab := g_laws_heldInt64S) gm0
noncomputable abbrev b_laws_heldInt64S : Code := bodyOf Tryz.f108
abbrev sp_laws_heldInt64S_l2 : Sp := ⟨21, [(0, .val false (.sl (.int .i64))), (1, .val false (.int .i64)), (5, .val false (.int .i64))], [], []⟩
abbrev xs_laws_heldInt64S_l2 : List (Ex × Sp) := [(.exit 0, ⟨21, [(1, .val false (.int .i64))], [], []⟩), (.ret, ⟨21, [(4, .val false (.int .i64))], [], []⟩)]
noncomputable def s_laws_heldInt64S_l2 : sp_laws_heldInt64S_l2.T → Option (sp_laws_heldInt64S_l2.T ⊕ XT xs_laws_heldInt64S_l2) := fun x =>
  bif (decide (x.1.2.2.1 < ((x.1.1).length : Int))) then
    (bif ib x.1.2.2.1 (x.1.1).length then
    bif (((x.1.1).getD (Int.toNat x.1.2.2.1) (K.zero (.int .i64))) != x.1.2.1) then
      (some (.inr (.inr (((-1 : Int), ()), (), ()))))
    else
    some (.inl ((x.1.1, ((IntKind.wrap .i64 (x.1.2.1 + (1 : Int))), ((IntKind.wrap .i64 (x.1.2.2.1 + (1 : Int))), ()))), (), ()))
    else none)
  else
  some (.inr (.inl ((x.1.2.1, ()), (), ())))
noncomputable def l_laws_heldInt64S_l2 : sp_laws_heldInt64S_l2.T → Option (XT xs_laws_heldInt64S_l2) := lim s_laws_heldInt64S_l2
theorem es_laws_heldInt64S_l2 : ∀ x, evCode ty (gamOf g_laws_heldInt64S) j_laws_heldInt64S (lamOf []) (loopAt b_laws_heldInt64S 2) (sp_laws_heldInt64S_l2.hd x) (rdK sp_laws_heldInt64S_l2 xs_laws_heldInt64S_l2) = s_laws_heldInt64S_l2 x := fun x => by kernel_rfl
theorem ls_laws_heldInt64S_l2 : LSumOk P (loopAt b_laws_heldInt64S 2) (loopL sp_laws_heldInt64S_l2 xs_laws_heldInt64S_l2 l_laws_heldInt64S_l2) := loop_ok tyOk mixed gok_laws_heldInt64S (by kernel_rfl) (by kernel_rfl) (lam_ok (tab := []) (by kernel_rfl) lm0) es_laws_heldInt64S_l2 lim_itr
noncomputable def F_laws_heldInt64S (x1 : K.T (.sl (.int .i64))) (x2 : K.T (.int .i64)) : Option sq_laws_heldInt64S.T :=
  (l_laws_heldInt64S_l2 ((x1, (x2, ((0 : Int), ()))), (), ())).bind fun y1 =>
  (match y1 with
  | .inl y2 => some ((y2.1.1, ()), (), ())
  | .inr z3 => some ((z3.1.1, ()), (), ()))
noncomputable abbrev U_laws_heldInt64S : sp_laws_heldInt64S.T → Option sq_laws_heldInt64S.T := fun x => F_laws_heldInt64S x.1.1 x.1.2.1
theorem e_laws_heldInt64S : ∀ x, evCode ty (gamOf g_laws_heldInt64S) j_laws_heldInt64S (lamOf [(2, loopL sp_laws_heldInt64S_l2 xs_laws_heldInt64S_l2 l_laws_heldInt64S_l2)]) b_laws_heldInt64S (sp_laws_heldInt64S.hd x) (finN ty sq_laws_heldInt64S [.tmp 4]) = U_laws_heldInt64S x := fun x => by kernel_rfl
theorem c_laws_heldInt64S : FnS P 108 sp_laws_heldInt64S sq_laws_heldInt64S U_laws_heldInt64S :=
  fnS_of_ev tyOk mixed gok_laws_heldInt64S (fn := Tryz.f108) (by kernel_rfl) (c := b_laws_heldInt64S) (by kernel_rfl) (by kernel_rfl) (by kernel_rfl) (lam_ok (tab := [(2, loopL sp_laws_heldInt64S_l2 xs_laws_heldInt64S_l2 l_laws_heldInt64S_l2)]) (by kernel_rfl) (lm1 @ls_laws_heldInt64S_l2 lm0)) e_laws_heldInt64S

/-! laws.heldChan -/
abbrev sp_laws_heldChan : Sp := ⟨24, [(0, .val true k9), (1, .val false (.int .i64))], [], []⟩
abbrev sq_laws_heldChan : Sp := ⟨1, [(0, .val false (.int .i64))], [], []⟩
noncomputable def g_laws_heldChan : List (FuncId × SumX) := [(108, cN sp_laws_heldInt64S sq_laws_heldInt64S U_laws_heldInt64S)]
def j_laws_heldChan : Nat → Option (List (Nat × SS)) := jOf []
theorem gok_laws_heldChan : GOk P (gamOf g_laws_heldChan) := gam_ok (tab := g_laws_heldChan) (gm1 (cN_ok c_laws_heldInt64S rfl) gm0)
noncomputable abbrev b_laws_heldChan : Code := bodyOf Tryz.f54
noncomputable def F_laws_heldChan (x1 : K.T k9) (x2 : K.T (.int .i64)) : Option sq_laws_heldChan.T :=
  (F_laws_heldInt64S x1.2.1 x2).bind fun y1 =>
  bif (decide (y1.1.1 < (0 : Int))) then
    (some (((-1 : Int), ()), (), ()))
  else
  (F_laws_heldInt64S x1.2.2.1 y1.1.1).bind fun y2 =>
  bif (decide (y2.1.1 < (0 : Int))) then
    (some (((-1 : Int), ()), (), ()))
  else
  (F_laws_heldInt64S x1.2.2.2.1 y2.1.1).bind fun y3 =>
  bif (decide (y3.1.1 < (0 : Int))) then
    (some (((-1 : Int), ()), (), ()))
  else
  some ((y3.1.1, ()), (), ())
noncomputable abbrev U_laws_heldChan : sp_laws_heldChan.T → Option sq_laws_heldChan.T := fun x => F_laws_heldChan x.1.1 x.1.2.1
theorem e_laws_heldChan : ∀ x, evCode ty (gamOf g_laws_heldChan) j_laws_heldChan (lamOf []) b_laws_heldChan (sp_laws_heldChan.hd x) (finN ty sq_laws_heldChan [.tmp 4]) = U_laws_heldChan x := fun x => by kernel_rfl
theorem c_laws_heldChan : FnS P 54 sp_laws_heldChan sq_laws_heldChan U_laws_heldChan :=
  fnS_of_ev tyOk mixed gok_laws_heldChan (fn := Tryz.f54) (by kernel_rfl) (c := b_laws_heldChan) (by kernel_rfl) (by kernel_rfl) (by kernel_rfl) (lam_ok (tab := []) (by kernel_rfl) lm0) e_laws_heldChan

/-! laws.heldChanResult -/
abbrev sp_laws_heldChanResult : Sp := ⟨12, [(0, .val true k17), (1, .val false (.int .i64))], [], []⟩
abbrev sq_laws_heldChanResult : Sp := ⟨1, [(0, .val false (.int .i64))], [], []⟩
noncomputable def g_laws_heldChanResult : List (FuncId × SumX) := [(54, cN sp_laws_heldChan sq_laws_heldChan U_laws_heldChan)]
def j_laws_heldChanResult : Nat → Option (List (Nat × SS)) := jOf []
theorem gok_laws_heldChanResult : GOk P (gamOf g_laws_heldChanResult) := gam_ok (tab := g_laws_heldChanResult) (gm1 (cN_ok c_laws_heldChan rfl) gm0)
noncomputable abbrev b_laws_heldChanResult : Code := bodyOf Tryz.f21
noncomputable def F_laws_heldChanResult (x1 : K.T k17) (x2 : K.T (.int .i64)) : Option sq_laws_heldChanResult.T :=
  (F_laws_heldChan x1.2.2.2 x2).bind fun y1 =>
  bif (decide (y1.1.1 < (0 : Int))) then
    (some (((-1 : Int), ()), (), ()))
  else
  some ((y1.1.1, ()), (), ())
noncomputable abbrev U_laws_heldChanResult : sp_laws_heldChanResult.T → Option sq_laws_heldChanResult.T := fun x => F_laws_heldChanResult x.1.1 x.1.2.1
theorem e_laws_heldChanResult : ∀ x, evCode ty (gamOf g_laws_heldChanResult) j_laws_heldChanResult (lamOf []) b_laws_heldChanResult (sp_laws_heldChanResult.hd x) (finN ty sq_laws_heldChanResult [.tmp 4]) = U_laws_heldChanResult x := fun x => by kernel_rfl
theorem c_laws_heldChanResult : FnS P 21 sp_laws_heldChanResult sq_laws_heldChanResult U_laws_heldChanResult :=
  fnS_of_ev tyOk mixed gok_laws_heldChanResult (fn := Tryz.f21) (by kernel_rfl) (c := b_laws_heldChanResult) (by kernel_rfl) (by kernel_rfl) (by kernel_rfl) (lam_ok (tab := []) (by kernel_rfl) lm0) e_laws_heldChanResult

/-! laws.FnExactScanChan -/
abbrev sp_laws_FnExactScanChan : Sp := ⟨113, [(0, .val true k8), (1, .val true k9), (2, .val false (.sl (.int .i64)))], [], []⟩
abbrev sq_laws_FnExactScanChan : Sp := ⟨1, [(0, .val false .bool)], [], []⟩
noncomputable def g_laws_FnExactScanChan : List (FuncId × SumX) := [(6, cN sp_laws_szBuild sq_laws_szBuild U_laws_szBuild), (7, cN sp_laws_szChan sq_laws_szChan U_laws_szChan), (8, fN sp_spec_ScanChan sq_spec_ScanChan U_spec_ScanChan), (9, fN sp_laws_toBuild sq_laws_toBuild U_laws_toBuild), (10, fN sp_laws_toChan sq_laws_toChan U_laws_toChan), (11, fN sp_laws_toInt64S sq_laws_toInt64S U_laws_toInt64S), (12, fN sp_impl_ScanChan sq_impl_ScanChan U_impl_ScanChan), (13, cN sp_laws_eqChanResult sq_laws_eqChanResult U_laws_eqChanResult), (14, cN sp_laws_eqBuild sq_laws_eqBuild U_laws_eqBuild), (15, cN sp_laws_eqChan sq_laws_eqChan U_laws_eqChan), (16, cN sp_laws_eqInt64S sq_laws_eqInt64S U_laws_eqInt64S), (17, xN sp_laws_markBuild sq_laws_markBuild U_laws_markBuild), (18, xN sp_laws_markChan sq_laws_markChan U_laws_markChan), (19, xN sp_laws_markInt64S sq_laws_markInt64S U_laws_markInt64S), (20, xN sp_laws_markChanResult sq_laws_markChanResult U_laws_markChanResult), (21, cN sp_laws_heldChanResult sq_laws_heldChanResult U_laws_heldChanResult)]
def j_laws_FnExactScanChan : Nat → Option (List (Nat × SS)) := jOf [(27, [(82, .val false .bool)])]
theorem gok_laws_FnExactScanChan : GOk P (gamOf g_laws_FnExactScanChan) := gam_ok (tab := g_laws_FnExactScanChan) (gm1 (cN_ok c_laws_szBuild rfl) (gm1 (cN_ok c_laws_szChan rfl) (gm1 (fN_ok c_spec_ScanChan rfl) (gm1 (fN_ok c_laws_toBuild rfl) (gm1 (fN_ok c_laws_toChan rfl) (gm1 (fN_ok c_laws_toInt64S rfl) (gm1 (fN_ok c_impl_ScanChan rfl) (gm1 (cN_ok c_laws_eqChanResult rfl) (gm1 (cN_ok c_laws_eqBuild rfl) (gm1 (cN_ok c_laws_eqChan rfl) (gm1 (cN_ok c_laws_eqInt64S rfl) (gm1 (xN_ok c_laws_markBuild rfl) (gm1 (xN_ok c_laws_markChan rfl) (gm1 (xN_ok c_laws_markInt64S rfl) (gm1 (xN_ok c_laws_markChanResult rfl) (gm1 (cN_ok c_laws_heldChanResult rfl) gm0))))))))))))))))
noncomputable abbrev b_laws_FnExactScanChan : Code := bodyOf Tryz.f3
noncomputable def F_laws_FnExactScanChan (x1 : K.T k8) (x2 : K.T k9) (x3 : K.T (.sl (.int .i64))) : Option sq_laws_FnExactScanChan.T :=
  bif (decide (((x3).length : Int) > (1048576 : Int))) then
    (some ((true, ()), (), ()))
  else
  (F_laws_szBuild x1 (1048576 : Int)).bind fun y1 =>
  bif (decide (y1.1.1 < (0 : Int))) then
    (some ((true, ()), (), ()))
  else
  (F_laws_szChan x2 y1.1.1).bind fun y2 =>
  bif (decide (y2.1.1 < (0 : Int))) then
    (some ((true, ()), (), ()))
  else
  (F_laws_toBuild x1).bind fun y3 =>
  (F_laws_toChan x2).bind fun y4 =>
  (F_laws_toInt64S x3).bind fun y5 =>
  (F_spec_ScanChan (y3.1.1.1, (y3.2.2.1, (y3.2.2.2.1, (y3.2.2.2.2.1, (y3.2.2.2.2.2.1, (y3.2.2.2.2.2.2.1, (y3.2.2.2.2.2.2.2.1, (y3.1.1.2.1, y3.1.1.2.2.1)))))))) (y4.1.1.1, (y4.2.2.1, (y4.2.2.2.1, (y4.2.2.2.2.1, (y4.1.1.2.1, y4.1.1.2.2.1))))) y5.2.2.1).bind fun y6 =>
  (F_laws_toBuild x1).bind fun y7 =>
  (F_laws_toChan x2).bind fun y8 =>
  (F_laws_toInt64S x3).bind fun y9 =>
  (F_impl_ScanChan (y7.1.1.1, (y7.2.2.1, (y7.2.2.2.1, (y7.2.2.2.2.1, (y7.2.2.2.2.2.1, (y7.2.2.2.2.2.2.1, (y7.2.2.2.2.2.2.2.1, (y7.1.1.2.1, y7.1.1.2.2.1)))))))) (y8.1.1.1, (y8.2.2.1, (y8.2.2.2.1, (y8.2.2.2.2.1, (y8.1.1.2.1, y8.1.1.2.2.1))))) y9.2.2.1).bind fun y10 =>
  (F_laws_eqChanResult (y10.1.1.1, (y10.1.1.2.1, (y10.1.1.2.2.1, (y10.1.1.2.2.2.1, (y10.2.2.1, (y10.2.2.2.1, (y10.2.2.2.2.1, (y10.1.1.2.2.2.2.1, y10.1.1.2.2.2.2.2.1)))))))) (y6.1.1.1, (y6.1.1.2.1, (y6.1.1.2.2.1, (y6.1.1.2.2.2.1, (y6.2.2.1, (y6.2.2.2.1, (y6.2.2.2.2.1, (y6.1.1.2.2.2.2.1, y6.1.1.2.2.2.2.2.1))))))))).bind fun y11 =>
  bif (!y11.1.1) then
    (some ((false, ()), (), ()))
  else
  (F_laws_toBuild x1).bind fun y12 =>
  (F_laws_eqBuild (y7.1.1.1, (y7.2.2.1, (y7.2.2.2.1, (y7.2.2.2.2.1, (y7.2.2.2.2.2.1, (y7.2.2.2.2.2.2.1, (y7.2.2.2.2.2.2.2.1, (y7.1.1.2.1, y7.1.1.2.2.1)))))))) (y12.1.1.1, (y12.2.2.1, (y12.2.2.2.1, (y12.2.2.2.2.1, (y12.2.2.2.2.2.1, (y12.2.2.2.2.2.2.1, (y12.2.2.2.2.2.2.2.1, (y12.1.1.2.1, y12.1.1.2.2.1))))))))).bind fun y13 =>
  bif (!y13.1.1) then
    (some ((false, ()), (), ()))
  else
  (F_laws_toChan x2).bind fun y14 =>
  (F_laws_eqChan (y8.1.1.1, (y8.2.2.1, (y8.2.2.2.1, (y8.2.2.2.2.1, (y8.1.1.2.1, y8.1.1.2.2.1))))) (y14.1.1.1, (y14.2.2.1, (y14.2.2.2.1, (y14.2.2.2.2.1, (y14.1.1.2.1, y14.1.1.2.2.1)))))).bind fun y15 =>
  bif (!y15.1.1) then
    (some ((false, ()), (), ()))
  else
  (F_laws_toInt64S x3).bind fun y16 =>
  (F_laws_eqInt64S y9.2.2.1 y16.2.2.1).bind fun y17 =>
  bif (!y17.1.1) then
    (some ((false, ()), (), ()))
  else
  (F_laws_markBuild y7.1.1.1 y7.1.1.2.1 y7.1.1.2.2.1 (1 : Int) y7.2.2.1 y7.2.2.2.1 y7.2.2.2.2.1 y7.2.2.2.2.2.1 y7.2.2.2.2.2.2.1 y7.2.2.2.2.2.2.2.1).bind fun y18 =>
  (F_laws_markChan y8.1.1.1 y8.1.1.2.1 y8.1.1.2.2.1 y18.1.1 y8.2.2.1 y8.2.2.2.1 y8.2.2.2.2.1).bind fun y19 =>
  (F_laws_markInt64S y19.1.1 y9.2.2.1).bind fun y20 =>
  (bif (decide (y20.1.1 < (0 : Int))) then
      (some (true, ()))
    else
    (F_laws_eqChanResult (y10.1.1.1, (y10.1.1.2.1, (y10.1.1.2.2.1, (y10.1.1.2.2.2.1, (y10.2.2.1, (y10.2.2.2.1, (y10.2.2.2.2.1, (y10.1.1.2.2.2.2.1, y10.1.1.2.2.2.2.2.1)))))))) (y6.1.1.1, (y6.1.1.2.1, (y6.1.1.2.2.1, (y6.1.1.2.2.2.1, (y6.2.2.1, (y6.2.2.2.1, (y6.2.2.2.2.1, (y6.1.1.2.2.2.2.1, y6.1.1.2.2.2.2.2.1))))))))).bind fun y21 =>
    some ((!y21.1.1), ())).bind fun y22 =>
  bif y22.1 then
    (some ((false, ()), (), ()))
  else
  (F_laws_markChanResult y10.1.1.1 y10.1.1.2.1 y10.1.1.2.2.1 y10.1.1.2.2.2.1 y10.1.1.2.2.2.2.1 y10.1.1.2.2.2.2.2.1 (1 : Int) y10.2.2.1 y10.2.2.2.1 y10.2.2.2.2.1).bind fun y23 =>
  (F_laws_heldChanResult (y10.1.1.1, (y10.1.1.2.1, (y10.1.1.2.2.1, (y10.1.1.2.2.2.1, (y23.2.2.1, (y23.2.2.2.1, (y23.2.2.2.2.1, (y10.1.1.2.2.2.2.1, y10.1.1.2.2.2.2.2.1)))))))) (1 : Int)).bind fun y24 =>
  bif (decide (y24.1.1 < (0 : Int))) then
    (some ((false, ()), (), ()))
  else
  bif (y24.1.1 != y23.1.1) then
    (some ((false, ()), (), ()))
  else
  (F_laws_toBuild x1).bind fun y25 =>
  (F_laws_toChan x2).bind fun y26 =>
  (F_laws_toInt64S x3).bind fun y27 =>
  (F_impl_ScanChan (y25.1.1.1, (y25.2.2.1, (y25.2.2.2.1, (y25.2.2.2.2.1, (y25.2.2.2.2.2.1, (y25.2.2.2.2.2.2.1, (y25.2.2.2.2.2.2.2.1, (y25.1.1.2.1, y25.1.1.2.2.1)))))))) (y26.1.1.1, (y26.2.2.1, (y26.2.2.2.1, (y26.2.2.2.2.1, (y26.1.1.2.1, y26.1.1.2.2.1))))) y27.2.2.1).bind fun y28 =>
  (F_laws_eqChanResult (y28.1.1.1, (y28.1.1.2.1, (y28.1.1.2.2.1, (y28.1.1.2.2.2.1, (y28.2.2.1, (y28.2.2.2.1, (y28.2.2.2.2.1, (y28.1.1.2.2.2.2.1, y28.1.1.2.2.2.2.2.1)))))))) (y6.1.1.1, (y6.1.1.2.1, (y6.1.1.2.2.1, (y6.1.1.2.2.2.1, (y6.2.2.1, (y6.2.2.2.1, (y6.2.2.2.2.1, (y6.1.1.2.2.2.2.1, y6.1.1.2.2.2.2.2.1))))))))).bind fun y29 =>
  bif (!y29.1.1) then
    (some ((false, ()), (), ()))
  else
  (F_laws_heldChanResult (y10.1.1.1, (y10.1.1.2.1, (y10.1.1.2.2.1, (y10.1.1.2.2.2.1, (y23.2.2.1, (y23.2.2.2.1, (y23.2.2.2.2.1, (y10.1.1.2.2.2.2.1, y10.1.1.2.2.2.2.2.1)))))))) (1 : Int)).bind fun y30 =>
  bif (decide (y30.1.1 < (0 : Int))) then
    (some ((false, ()), (), ()))
  else
  bif (y30.1.1 != y23.1.1) then
    (some ((false, ()), (), ()))
  else
  some ((true, ()), (), ())
noncomputable abbrev U_laws_FnExactScanChan : sp_laws_FnExactScanChan.T → Option sq_laws_FnExactScanChan.T := fun x => F_laws_FnExactScanChan x.1.1 x.1.2.1 x.1.2.2.1
theorem e_laws_FnExactScanChan : ∀ x, evCode ty (gamOf g_laws_FnExactScanChan) j_laws_FnExactScanChan (lamOf []) b_laws_FnExactScanChan (sp_laws_FnExactScanChan.hd x) (finN ty sq_laws_FnExactScanChan [.tmp 6]) = U_laws_FnExactScanChan x := fun x => by kernel_rfl
theorem c_laws_FnExactScanChan : FnS P 3 sp_laws_FnExactScanChan sq_laws_FnExactScanChan U_laws_FnExactScanChan :=
  fnS_of_ev tyOk mixed gok_laws_FnExactScanChan (fn := Tryz.f3) (by kernel_rfl) (c := b_laws_FnExactScanChan) (by kernel_rfl) (by kernel_rfl) (by kernel_rfl) (lam_ok (tab := []) (by kernel_rfl) lm0) e_laws_FnExactScanChan

end Go.Ev
