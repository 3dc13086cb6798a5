/- What is proved here: for each input the program's TestChan returns what the reference's returns; no condition. -/
import Derived.Test.YtfglckpbconanaaRows
import Derived.Test.YtfglckpbconanaaLs
import Derived.Test.YtfglckpbconanaaTestB
import Derived.WalkKit
import Derived.ProofKit
import Derived.OpenShut
import Derived.ShutString
import Derived.ChangeOld
import Derived.Below
import Derived.Carry
import Derived.SizedLaws
namespace Go.Proofs.Ytfglckpbconanaa.fnExactTestChan
open Go.ChangeShapes Go.WideShapes Go.ChangeAt Go.RowKit
open Go.ChangeMaps (open_string shut_string)
set_option linter.unusedVariables false
theorem own : ownKnob Try.prog.godebug = none := by kernel_rfl
theorem laidOut : laidOutB Try.prog = true := by kernel_rfl
theorem und4 : Program.underlying Try.prog 4 = some (.bool) := by kernel_rfl
theorem und24 : ∃ fs, Program.underlying Try.prog 24 = some (.struct fs) := ⟨(match Program.underlying Try.prog 24 with | some (.struct fs) => fs | _ => #[]), by kernel_rfl⟩
theorem params : Try.f3.params = #[24] := by kernel_rfl
theorem func : Try.prog.funcs[3]? = some Try.f3 := by kernel_rfl
set_option maxRecDepth 100000 in
theorem lifted (os : Os) (started : os.Started) (H : Type) (enc : TypeId × Value → H) :
    ReturnsInHanded {} Try.checked os 3 .any (Rows.fnExactTestChanSpec.pre6 enc Try.prog Try.f3 Rows.fnExactTestChanRow.domain false) (Rows.fnExactTestChanSpec.post enc Try.prog Try.f3 false true false false) := by
  refine returnsInHanded_of_change_sized (C := Try.checked) own started (by kernel_rfl) func
    (ChangeSpec.witness6 (enc := enc) (C := Try.checked) false ⟨#[], #[.agg #[.int .i64 0, .slice none 0 0, .slice none 0 0, .slice none 0 0, .int .i64 0, .int .i64 0]], []⟩ 8 (by kernel_rfl) (by kernel_rfl) (by kernel_rfl) (by kernel_rfl)) ?_
  intro W base args ds gs before hval0 hW hcnd hsz0 _
  have hval : ∀ (j : Nat) t v, Try.f3.params[j]? = some t → args[j]? = some v → Value.okWide Try.prog W .any base t v := hval0
  have hW' := hW
  obtain ⟨p, q, hA0, hV, rfl, hfz, hnd⟩ := hW
  have hA : DataW.TrodAll enc Try.prog W 0 (fun _ => true) true Try.f3.params.toList args.toList ds p := hA0
  rw [params] at hA hval
  obtain ⟨v0, vs0, d0, ds0, p0, q0, hargs, rfl, rfl, h0, r0⟩ := trodAll_cons hA
  obtain ⟨rfl, rfl, rfl⟩ := trodAll_nil r0
  obtain rfl : args = #[v0] := by cases args; simp_all
  obtain ⟨rfl, rfl⟩ := trodVars_none hV
  obtain ⟨fs0, hu0⟩ := und24
  obtain ⟨cs0, rfl, _⟩ := okWide_struct hu0 (hval 0 24 v0 rfl rfl)
  have k0 := h0
  have lt0 : ∀ x ∈ p0, x.block < W.heap.size := by obtain ⟨m, hm⟩ := k0; exact DataW.trod_lt m _ _ _ hm
  obtain ⟨y0, rep0, wf0⟩ : ∃ y : Ev.K.T (Ev.k4), Ev.RepV W (fun _ => True) true (Ev.k4) y (.agg cs0) ∧ Ev.Wf (Ev.k4) y := by
    obtain ⟨fuel, hf⟩ := h0
    obtain ⟨y, g1, g2⟩ := Ev.open_kind 30 (k := (Ev.k4)) (by kernel_rfl) hf
    exact ⟨y, ⟨_, g1, .inl ⟨rfl, by simp [Value.cells]⟩⟩, g2⟩
  refine (Ev.law_callsN Ev.c_laws_FnExactTestChan (x := (y0, ())) (Ev.p_laws_FnExactTestChan y0 wf0) (vals := [_]) ⟨rep0, trivial⟩).mono fun e W' ⟨he, bel⟩ => ?_
  subst he
  exact ⟨_, rfl, _, _, _, [], _, [], hW', trodAll_mk1 (shut_bool und4 _), (trodAll_cons_mk (Below.trod laidOut (by kernel_rfl) (of_decide_eq_true (by kernel_rfl)) k0 bel lt0) trodAll_mk0), rfl, bel.frame _, fun h => by cases h⟩
theorem closed : joinedFacts Try.prog 3 Try.f3 Rows.fnExactTestChanSpec Rows.fnExactTestChanRow = true := by
  unfold joinedFacts
  rw [show Try.prog.mayEnter = true from seatMayEnter, show (Rows.fnExactTestChanRow.lifted == Try.prog.liftsFinal) = true from seatLifts, show (Try.prog.make == some Rows.fnExactTestChanRow.make) = true from seatMake]
  kernel_rfl
theorem over : Rows.fnExactTestChanRow.holds Try.pinned (OpenSpec.ofChange Rows.fnExactTestChanSpec) :=
  OpenClaim.holds_of_wide 3 Try.f3 rfl rfl rfl rfl rfl rfl rfl ⟨rfl, rfl, rfl, rfl, rfl⟩ rfl rfl rfl rfl rfl (by kernel_rfl) func closed
    (of_decide_eq_true (by kernel_rfl)) (by unfold Func.isWrapper; first | (rw [if_pos (by decide +kernel)]; kernel_rfl) | (rw [if_neg (by decide +kernel)]; exact ⟨rfl, rfl⟩))
    (fun os started H enc _ => lifted os started H enc)
theorem proved : Rows.FnExactTestChanSaid := over
#print axioms proved
end Go.Proofs.Ytfglckpbconanaa.fnExactTestChan
namespace Go.Proofs.Ytfglckpbconanaa
/-- The row, under a short name, for the claim. -/
theorem fnExactTestChan_holds : Rows.FnExactTestChanSaid := fnExactTestChan.proved
end Go.Proofs.Ytfglckpbconanaa
