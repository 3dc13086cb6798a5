/- What is proved here: for each input the program's HurtsOf returns what the reference's returns; no condition. -/
import Derived.Test.YtiipbidabcjnjaaRows
import Derived.Test.YtiipbidabcjnjaaHuB
import Derived.WalkKit
import Derived.ProofKit
import Derived.OpenShut
import Derived.ShutString
import Derived.ChangeOld
import Derived.Below
import Derived.Carry
import Derived.SizedLaws
namespace Go.Proofs.Ytiipbidabcjnjaa.fnExactHurtsOf
open Go.ChangeShapes Go.WideShapes Go.ChangeAt Go.RowKit
open Go.ChangeMaps (open_string shut_string)
set_option linter.unusedVariables false
theorem own : ownKnob Try.prog.godebug = none := by kernel_rfl
theorem laidOut : laidOutB Try.prog = true := by kernel_rfl
theorem und4 : Program.underlying Try.prog 4 = some (.bool) := by kernel_rfl
theorem und22 : Program.underlying Try.prog 22 = some (.slice 81) := by kernel_rfl
theorem params : Try.f5.params = #[22] := by kernel_rfl
theorem func : Try.prog.funcs[5]? = some Try.f5 := by kernel_rfl
set_option maxRecDepth 100000 in
theorem lifted (os : Os) (started : os.Started) (H : Type) (enc : TypeId × Value → H) :
    ReturnsInHanded {} Try.checked os 5 .any (Rows.fnExactHurtsOfSpec.pre6 enc Try.prog Try.f5 Rows.fnExactHurtsOfRow.domain false) (Rows.fnExactHurtsOfSpec.post enc Try.prog Try.f5 false true false false) := by
  refine returnsInHanded_of_change_sized (C := Try.checked) own started (by kernel_rfl) func
    (ChangeSpec.witness6 (enc := enc) (C := Try.checked) false ⟨#[], #[.slice none 0 0], []⟩ 8 (by kernel_rfl) (by kernel_rfl) (by kernel_rfl) (by kernel_rfl)) ?_
  intro W base args ds gs before hval0 hW hcnd hsz0 _
  have hval : ∀ (j : Nat) t v, Try.f5.params[j]? = some t → args[j]? = some v → Value.okWide Try.prog W .any base t v := hval0
  have hW' := hW
  obtain ⟨p, q, hA0, hV, rfl, hfz, hnd⟩ := hW
  have hA : DataW.TrodAll enc Try.prog W 0 (fun _ => true) true Try.f5.params.toList args.toList ds p := hA0
  rw [params] at hA hval
  obtain ⟨v0, vs0, d0, ds0, p0, q0, hargs, rfl, rfl, h0, r0⟩ := trodAll_cons hA
  obtain ⟨rfl, rfl, rfl⟩ := trodAll_nil r0
  obtain rfl : args = #[v0] := by cases args; simp_all
  obtain ⟨rfl, rfl⟩ := trodVars_none hV
  obtain ⟨a0, len0, cap0, rfl⟩ := okWide_slice und22 (hval 0 22 v0 rfl rfl)
  have k0 := h0
  have lt0 : ∀ x ∈ p0, x.block < W.heap.size := by obtain ⟨m, hm⟩ := k0; exact DataW.trod_lt m _ _ _ hm
  obtain ⟨y0, rep0, wf0⟩ : ∃ y : Ev.K.T (.sl Ev.k4), Ev.RepV W (fun _ => True) false (.sl Ev.k4) y (.slice a0 len0 cap0) ∧ Ev.Wf (.sl Ev.k4) y := by
    obtain ⟨fuel, hf⟩ := h0
    obtain ⟨y, g1, g2⟩ := Ev.open_kind 30 (k := (.sl Ev.k4)) (by kernel_rfl) hf
    exact ⟨y, ⟨_, g1, .inr ⟨rfl, by simp [Value.cells]⟩⟩, g2⟩
  refine (Ev.law_calls Ev.c5 (x := (y0, ())) (Ev.pure5 y0 wf0) (vals := [_]) ⟨rep0, trivial⟩).mono fun e W' ⟨he, bel⟩ => ?_
  subst he
  exact ⟨_, rfl, _, _, _, [], _, [], hW', trodAll_mk1 (shut_bool und4 _), (trodAll_cons_mk (Below.trod laidOut (by kernel_rfl) (of_decide_eq_true (by kernel_rfl)) k0 bel lt0) trodAll_mk0), rfl, bel.frame _, fun h => by cases h⟩
theorem over : Rows.fnExactHurtsOfRow.holds Try.pinned (OpenSpec.ofChange Rows.fnExactHurtsOfSpec) :=
  OpenClaim.holds_of_wide 5 Try.f5 rfl rfl rfl rfl rfl rfl rfl ⟨rfl, rfl, rfl, rfl, rfl⟩ rfl rfl rfl rfl rfl (by kernel_rfl) func (by kernel_rfl)
    (of_decide_eq_true (by kernel_rfl)) (by unfold Func.isWrapper; first | (rw [if_pos (by decide +kernel)]; kernel_rfl) | (rw [if_neg (by decide +kernel)]; exact ⟨rfl, rfl⟩))
    (fun os started H enc _ => lifted os started H enc)
theorem proved : Rows.FnExactHurtsOfSaid := over
#print axioms proved
end Go.Proofs.Ytiipbidabcjnjaa.fnExactHurtsOf
namespace Go.Proofs.Ytiipbidabcjnjaa
/-- The row, under a short name, for the claim. -/
theorem fnExactHurtsOf_holds : Rows.FnExactHurtsOfSaid := fnExactHurtsOf.proved
end Go.Proofs.Ytiipbidabcjnjaa
