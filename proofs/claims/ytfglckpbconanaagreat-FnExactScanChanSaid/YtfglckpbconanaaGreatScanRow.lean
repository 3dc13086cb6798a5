/- What is proved here: for each input the program's ScanChan returns what the reference's returns; no condition. -/
import Derived.Test.YtfglckpbconanaaGreatRows
import Derived.Test.YtfglckpbconanaaGreatLs
import Derived.Test.YtfglckpbconanaaGreatScanB
import Derived.WalkKit
import Derived.ProofKit
import Derived.OpenShut
import Derived.ShutString
import Derived.ChangeOld
import Derived.Below
import Derived.Carry
import Derived.SizedLaws
namespace Go.Proofs.YtfglckpbconanaaGreat.fnExactScanChan
open Go.ChangeShapes Go.WideShapes Go.ChangeAt Go.RowKit
open Go.ChangeMaps (open_string shut_string)
set_option linter.unusedVariables false
theorem own : ownKnob Tryz.prog.godebug = none := by kernel_rfl
theorem laidOut : laidOutB Tryz.prog = true := by kernel_rfl
theorem und4 : Program.underlying Tryz.prog 4 = some (.bool) := by kernel_rfl
theorem und23 : Program.underlying Tryz.prog 23 = some (.slice 2) := by kernel_rfl
theorem und25 : ∃ fs, Program.underlying Tryz.prog 25 = some (.struct fs) := ⟨(match Program.underlying Tryz.prog 25 with | some (.struct fs) => fs | _ => #[]), by kernel_rfl⟩
theorem und27 : ∃ fs, Program.underlying Tryz.prog 27 = some (.struct fs) := ⟨(match Program.underlying Tryz.prog 27 with | some (.struct fs) => fs | _ => #[]), by kernel_rfl⟩
theorem params : Tryz.f3.params = #[25, 27, 23] := by kernel_rfl
theorem func : Tryz.prog.funcs[3]? = some Tryz.f3 := by kernel_rfl
set_option maxRecDepth 100000 in
theorem lifted (os : Os) (started : os.Started) (H : Type) (enc : TypeId × Value → H) :
    ReturnsInHanded {} Tryz.checked os 3 .any (Rows.fnExactScanChanSpec.pre6 enc Tryz.prog Tryz.f3 Rows.fnExactScanChanRow.domain false) (Rows.fnExactScanChanSpec.post enc Tryz.prog Tryz.f3 false true false false) := by
  refine returnsInHanded_of_change_sized (C := Tryz.checked) own started (by kernel_rfl) func
    (ChangeSpec.witness6 (enc := enc) (C := Tryz.checked) false ⟨#[], #[.agg #[.int .i64 0, .slice none 0 0, .slice none 0 0, .slice none 0 0, .slice none 0 0, .slice none 0 0, .slice none 0 0, .int .i64 0, .int .i64 0], .agg #[.int .i64 0, .slice none 0 0, .slice none 0 0, .slice none 0 0, .int .i64 0, .int .i64 0], .slice none 0 0], []⟩ 8 (by kernel_rfl) (by kernel_rfl) (by kernel_rfl) (by kernel_rfl)) ?_
  intro W base args ds gs before hval0 hW hcnd hsz0 _
  have hval : ∀ (j : Nat) t v, Tryz.f3.params[j]? = some t → args[j]? = some v → Value.okWide Tryz.prog W .any base t v := hval0
  have hW' := hW
  obtain ⟨p, q, hA0, hV, rfl, hfz, hnd⟩ := hW
  have hA : DataW.TrodAll enc Tryz.prog W 0 (fun _ => true) true Tryz.f3.params.toList args.toList ds p := hA0
  rw [params] at hA hval
  obtain ⟨v0, vs0, d0, ds0, p0, q0, hargs, rfl, rfl, h0, r0⟩ := trodAll_cons hA
  obtain ⟨v1, vs1, d1, ds1, p1, q1, rfl, rfl, rfl, h1, r1⟩ := trodAll_cons r0
  obtain ⟨v2, vs2, d2, ds2, p2, q2, rfl, rfl, rfl, h2, r2⟩ := trodAll_cons r1
  obtain ⟨rfl, rfl, rfl⟩ := trodAll_nil r2
  obtain rfl : args = #[v0, v1, v2] := by cases args; simp_all
  obtain ⟨rfl, rfl⟩ := trodVars_none hV
  obtain ⟨fs0, hu0⟩ := und25
  obtain ⟨cs0, rfl, _⟩ := okWide_struct hu0 (hval 0 25 v0 rfl rfl)
  have k0 := h0
  have lt0 : ∀ x ∈ p0, x.block < W.heap.size := by obtain ⟨m, hm⟩ := k0; exact DataW.trod_lt m _ _ _ hm
  obtain ⟨y0, rep0, wf0⟩ : ∃ y : Ev.K.T (Ev.k8), Ev.RepV W (fun _ => True) true (Ev.k8) y (.agg cs0) ∧ Ev.Wf (Ev.k8) y := by
    obtain ⟨fuel, hf⟩ := h0
    obtain ⟨y, g1, g2⟩ := Ev.open_kind 30 (k := (Ev.k8)) (by kernel_rfl) hf
    exact ⟨y, ⟨_, g1, .inl ⟨rfl, by simp [Value.cells]⟩⟩, g2⟩
  obtain ⟨fs1, hu1⟩ := und27
  obtain ⟨cs1, rfl, _⟩ := okWide_struct hu1 (hval 1 27 v1 rfl rfl)
  have k1 := h1
  have lt1 : ∀ x ∈ p1, x.block < W.heap.size := by obtain ⟨m, hm⟩ := k1; exact DataW.trod_lt m _ _ _ hm
  obtain ⟨y1, rep1, wf1⟩ : ∃ y : Ev.K.T (Ev.k9), Ev.RepV W (fun _ => True) true (Ev.k9) y (.agg cs1) ∧ Ev.Wf (Ev.k9) y := by
    obtain ⟨fuel, hf⟩ := h1
    obtain ⟨y, g1, g2⟩ := Ev.open_kind 30 (k := (Ev.k9)) (by kernel_rfl) hf
    exact ⟨y, ⟨_, g1, .inl ⟨rfl, by simp [Value.cells]⟩⟩, g2⟩
  obtain ⟨a2, len2, cap2, rfl⟩ := okWide_slice und23 (hval 2 23 v2 rfl rfl)
  have k2 := h2
  have lt2 : ∀ x ∈ p2, x.block < W.heap.size := by obtain ⟨m, hm⟩ := k2; exact DataW.trod_lt m _ _ _ hm
  obtain ⟨y2, rep2, wf2⟩ : ∃ y : Ev.K.T (.sl (.int .i64)), Ev.RepV W (fun _ => True) false (.sl (.int .i64)) y (.slice a2 len2 cap2) ∧ Ev.Wf (.sl (.int .i64)) y := by
    obtain ⟨fuel, hf⟩ := h2
    obtain ⟨y, g1, g2⟩ := Ev.open_kind 30 (k := (.sl (.int .i64))) (by kernel_rfl) hf
    exact ⟨y, ⟨_, g1, .inr ⟨rfl, by simp [Value.cells]⟩⟩, g2⟩
  refine (Ev.law_callsN Ev.c_laws_FnExactScanChan (x := (y0, (y1, (y2, ())))) (Ev.p_laws_FnExactScanChan y0 y1 y2 wf0 wf1 wf2) (vals := [_, _, _]) ⟨rep0, ⟨rep1, ⟨rep2, trivial⟩⟩⟩).mono fun e W' ⟨he, bel⟩ => ?_
  subst he
  exact ⟨_, rfl, _, _, _, [], _, [], hW', trodAll_mk1 (shut_bool und4 _), (trodAll_cons_mk (Below.trod laidOut (by kernel_rfl) (of_decide_eq_true (by kernel_rfl)) k0 bel lt0) (trodAll_cons_mk (Below.trod laidOut (by kernel_rfl) (of_decide_eq_true (by kernel_rfl)) k1 bel lt1) (trodAll_cons_mk (Below.trod laidOut (by kernel_rfl) (of_decide_eq_true (by kernel_rfl)) k2 bel lt2) trodAll_mk0))), rfl, bel.frame _, fun h => by cases h⟩
theorem closed : joinedFacts Tryz.prog 3 Tryz.f3 Rows.fnExactScanChanSpec Rows.fnExactScanChanRow = true := by
  unfold joinedFacts
  rw [show Tryz.prog.mayEnter = true from seatMayEnter, show (Rows.fnExactScanChanRow.lifted == Tryz.prog.liftsFinal) = true from seatLifts, show (Tryz.prog.make == some Rows.fnExactScanChanRow.make) = true from seatMake]
  kernel_rfl
theorem over : Rows.fnExactScanChanRow.holds Tryz.pinned (OpenSpec.ofChange Rows.fnExactScanChanSpec) :=
  OpenClaim.holds_of_wide 3 Tryz.f3 rfl rfl rfl rfl rfl rfl rfl ⟨rfl, rfl, rfl, rfl, rfl⟩ rfl rfl rfl rfl rfl (by kernel_rfl) func closed
    (of_decide_eq_true (by kernel_rfl)) (by unfold Func.isWrapper; first | (rw [if_pos (by decide +kernel)]; kernel_rfl) | (rw [if_neg (by decide +kernel)]; exact ⟨rfl, rfl⟩))
    (fun os started H enc _ => lifted os started H enc)
theorem proved : Rows.FnExactScanChanSaid := over
#print axioms proved
end Go.Proofs.YtfglckpbconanaaGreat.fnExactScanChan
namespace Go.Proofs.YtfglckpbconanaaGreat
/-- The row, under a short name, for the claim. -/
theorem fnExactScanChan_holds : Rows.FnExactScanChanSaid := fnExactScanChan.proved
end Go.Proofs.YtfglckpbconanaaGreat
