/- What is proved here: for each input the program's HurtPlant returns what the reference's returns; no condition. -/
import Derived.Test.YtdgnmaelfhiedaaRows
import Derived.Test.YtdgnmaelfhiedaaLs
import Derived.Test.YtdgnmaelfhiedaaHpB
import Derived.WalkKit
import Derived.ProofKit
import Derived.OpenShut
import Derived.ShutString
import Derived.ChangeOld
import Derived.Below
import Derived.Carry
import Derived.SizedLaws
namespace Go.Proofs.Ytdgnmaelfhiedaa.fnExactHurtPlant
open Go.ChangeShapes Go.WideShapes Go.ChangeAt Go.RowKit
open Go.ChangeMaps (open_string shut_string)
set_option linter.unusedVariables false
theorem own : ownKnob Try.prog.godebug = none := by kernel_rfl
theorem laidOut : laidOutB Try.prog = true := by kernel_rfl
theorem und2 : Program.underlying Try.prog 2 = some (.int .i64) := by kernel_rfl
theorem und4 : Program.underlying Try.prog 4 = some (.bool) := by kernel_rfl
theorem und68 : ∃ fs, Program.underlying Try.prog 68 = some (.struct fs) := ⟨(match Program.underlying Try.prog 68 with | some (.struct fs) => fs | _ => #[]), by kernel_rfl⟩
theorem params : Try.f15.params = #[68, 2, 2, 2, 2] := by kernel_rfl
theorem func : Try.prog.funcs[15]? = some Try.f15 := by kernel_rfl
set_option maxRecDepth 100000 in
theorem lifted (os : Os) (started : os.Started) (H : Type) (enc : TypeId × Value → H) :
    ReturnsInHanded {} Try.checked os 15 .any (Rows.fnExactHurtPlantSpec.pre6 enc Try.prog Try.f15 Rows.fnExactHurtPlantRow.domain false) (Rows.fnExactHurtPlantSpec.post enc Try.prog Try.f15 false true false false) := by
  refine returnsInHanded_of_change_sized (C := Try.checked) own started (by kernel_rfl) func
    (ChangeSpec.witness6 (enc := enc) (C := Try.checked) false ⟨#[], #[.agg #[.int .i64 0, .slice none 0 0, .slice none 0 0, .slice none 0 0, .slice none 0 0, .slice none 0 0, .slice none 0 0, .int .i64 0, .int .i64 0, .int .i64 0, .slice none 0 0, .slice none 0 0, .slice none 0 0, .int .i64 0, .int .i64 0, .int .i64 0, .slice none 0 0, .slice none 0 0, .slice none 0 0, .int .i64 0, .int .i64 0, .bool false, .int .i64 0, .int .i64 0, .slice none 0 0, .int .i64 0], .int .i64 0, .int .i64 0, .int .i64 0, .int .i64 0], []⟩ 8 (by kernel_rfl) (by kernel_rfl) (by kernel_rfl) (by kernel_rfl)) ?_
  intro W base args ds gs before hval0 hW hcnd hsz0 _
  have hval : ∀ (j : Nat) t v, Try.f15.params[j]? = some t → args[j]? = some v → Value.okWide Try.prog W .any base t v := hval0
  have hW' := hW
  obtain ⟨p, q, hA0, hV, rfl, hfz, hnd⟩ := hW
  have hA : DataW.TrodAll enc Try.prog W 0 (fun _ => true) true Try.f15.params.toList args.toList ds p := hA0
  rw [params] at hA hval
  obtain ⟨v0, vs0, d0, ds0, p0, q0, hargs, rfl, rfl, h0, r0⟩ := trodAll_cons hA
  obtain ⟨v1, vs1, d1, ds1, p1, q1, rfl, rfl, rfl, h1, r1⟩ := trodAll_cons r0
  obtain ⟨v2, vs2, d2, ds2, p2, q2, rfl, rfl, rfl, h2, r2⟩ := trodAll_cons r1
  obtain ⟨v3, vs3, d3, ds3, p3, q3, rfl, rfl, rfl, h3, r3⟩ := trodAll_cons r2
  obtain ⟨v4, vs4, d4, ds4, p4, q4, rfl, rfl, rfl, h4, r4⟩ := trodAll_cons r3
  obtain ⟨rfl, rfl, rfl⟩ := trodAll_nil r4
  obtain rfl : args = #[v0, v1, v2, v3, v4] := by cases args; simp_all
  obtain ⟨rfl, rfl⟩ := trodVars_none hV
  obtain ⟨fs0, hu0⟩ := und68
  obtain ⟨cs0, rfl, _⟩ := okWide_struct hu0 (hval 0 68 v0 rfl rfl)
  have k0 := h0
  have lt0 : ∀ x ∈ p0, x.block < W.heap.size := by obtain ⟨m, hm⟩ := k0; exact DataW.trod_lt m _ _ _ hm
  obtain ⟨y0, rep0, wf0⟩ : ∃ y : Ev.K.T (Ev.k16), Ev.RepV W (fun _ => True) true (Ev.k16) y (.agg cs0) ∧ Ev.Wf (Ev.k16) y := by
    obtain ⟨fuel, hf⟩ := h0
    obtain ⟨y, g1, g2⟩ := Ev.open_kind 30 (k := (Ev.k16)) (by kernel_rfl) hf
    exact ⟨y, ⟨_, g1, .inl ⟨rfl, by simp [Value.cells]⟩⟩, g2⟩
  obtain ⟨a1, rfl⟩ := okWide_int und2 (hval 1 2 v1 rfl rfl)
  have k1 := h1
  have lt1 : ∀ x ∈ p1, x.block < W.heap.size := by obtain ⟨m, hm⟩ := k1; exact DataW.trod_lt m _ _ _ hm
  obtain ⟨y1, rep1, wf1⟩ : ∃ y : Ev.K.T (.int .i64), Ev.RepV W (fun _ => True) false (.int .i64) y (.int .i64 a1) ∧ Ev.Wf (.int .i64) y := by
    obtain ⟨fuel, hf⟩ := h1
    obtain ⟨y, g1, g2⟩ := Ev.open_kind 30 (k := (.int .i64)) (by kernel_rfl) hf
    exact ⟨y, ⟨_, g1, .inr ⟨rfl, by simp [Value.cells]⟩⟩, g2⟩
  obtain ⟨a2, rfl⟩ := okWide_int und2 (hval 2 2 v2 rfl rfl)
  have k2 := h2
  have lt2 : ∀ x ∈ p2, x.block < W.heap.size := by obtain ⟨m, hm⟩ := k2; exact DataW.trod_lt m _ _ _ hm
  obtain ⟨y2, rep2, wf2⟩ : ∃ y : Ev.K.T (.int .i64), Ev.RepV W (fun _ => True) false (.int .i64) y (.int .i64 a2) ∧ Ev.Wf (.int .i64) y := by
    obtain ⟨fuel, hf⟩ := h2
    obtain ⟨y, g1, g2⟩ := Ev.open_kind 30 (k := (.int .i64)) (by kernel_rfl) hf
    exact ⟨y, ⟨_, g1, .inr ⟨rfl, by simp [Value.cells]⟩⟩, g2⟩
  obtain ⟨a3, rfl⟩ := okWide_int und2 (hval 3 2 v3 rfl rfl)
  have k3 := h3
  have lt3 : ∀ x ∈ p3, x.block < W.heap.size := by obtain ⟨m, hm⟩ := k3; exact DataW.trod_lt m _ _ _ hm
  obtain ⟨y3, rep3, wf3⟩ : ∃ y : Ev.K.T (.int .i64), Ev.RepV W (fun _ => True) false (.int .i64) y (.int .i64 a3) ∧ Ev.Wf (.int .i64) y := by
    obtain ⟨fuel, hf⟩ := h3
    obtain ⟨y, g1, g2⟩ := Ev.open_kind 30 (k := (.int .i64)) (by kernel_rfl) hf
    exact ⟨y, ⟨_, g1, .inr ⟨rfl, by simp [Value.cells]⟩⟩, g2⟩
  obtain ⟨a4, rfl⟩ := okWide_int und2 (hval 4 2 v4 rfl rfl)
  have k4 := h4
  have lt4 : ∀ x ∈ p4, x.block < W.heap.size := by obtain ⟨m, hm⟩ := k4; exact DataW.trod_lt m _ _ _ hm
  obtain ⟨y4, rep4, wf4⟩ : ∃ y : Ev.K.T (.int .i64), Ev.RepV W (fun _ => True) false (.int .i64) y (.int .i64 a4) ∧ Ev.Wf (.int .i64) y := by
    obtain ⟨fuel, hf⟩ := h4
    obtain ⟨y, g1, g2⟩ := Ev.open_kind 30 (k := (.int .i64)) (by kernel_rfl) hf
    exact ⟨y, ⟨_, g1, .inr ⟨rfl, by simp [Value.cells]⟩⟩, g2⟩
  refine (Ev.law_callsN Ev.c_laws_FnExactHurtPlant (x := (y0, (y1, (y2, (y3, (y4, ())))))) (Ev.p_laws_FnExactHurtPlant y0 y1 y2 y3 y4 wf0) (vals := [_, _, _, _, _]) ⟨rep0, ⟨rep1, ⟨rep2, ⟨rep3, ⟨rep4, trivial⟩⟩⟩⟩⟩).mono fun e W' ⟨he, bel⟩ => ?_
  subst he
  exact ⟨_, rfl, _, _, _, [], _, [], hW', trodAll_mk1 (shut_bool und4 _), (trodAll_cons_mk (Below.trod laidOut (by kernel_rfl) (of_decide_eq_true (by kernel_rfl)) k0 bel lt0) (trodAll_cons_mk (Below.trod laidOut (by kernel_rfl) (of_decide_eq_true (by kernel_rfl)) k1 bel lt1) (trodAll_cons_mk (Below.trod laidOut (by kernel_rfl) (of_decide_eq_true (by kernel_rfl)) k2 bel lt2) (trodAll_cons_mk (Below.trod laidOut (by kernel_rfl) (of_decide_eq_true (by kernel_rfl)) k3 bel lt3) (trodAll_cons_mk (Below.trod laidOut (by kernel_rfl) (of_decide_eq_true (by kernel_rfl)) k4 bel lt4) trodAll_mk0))))), rfl, bel.frame _, fun h => by cases h⟩
theorem closed : joinedFacts Try.prog 15 Try.f15 Rows.fnExactHurtPlantSpec Rows.fnExactHurtPlantRow = true := by
  unfold joinedFacts
  rw [show Try.prog.mayEnter = true from seatMayEnter, show (Rows.fnExactHurtPlantRow.lifted == Try.prog.liftsFinal) = true from seatLifts, show (Try.prog.make == some Rows.fnExactHurtPlantRow.make) = true from seatMake]
  kernel_rfl
theorem over : Rows.fnExactHurtPlantRow.holds Try.pinned (OpenSpec.ofChange Rows.fnExactHurtPlantSpec) :=
  OpenClaim.holds_of_wide 15 Try.f15 rfl rfl rfl rfl rfl rfl rfl ⟨rfl, rfl, rfl, rfl, rfl⟩ rfl rfl rfl rfl rfl (by kernel_rfl) func closed
    (of_decide_eq_true (by kernel_rfl)) (by unfold Func.isWrapper; first | (rw [if_pos (by decide +kernel)]; kernel_rfl) | (rw [if_neg (by decide +kernel)]; exact ⟨rfl, rfl⟩))
    (fun os started H enc _ => lifted os started H enc)
theorem proved : Rows.FnExactHurtPlantSaid := over
#print axioms proved
end Go.Proofs.Ytdgnmaelfhiedaa.fnExactHurtPlant
namespace Go.Proofs.Ytdgnmaelfhiedaa
/-- The row, under a short name, for the claim. -/
theorem fnExactHurtPlant_holds : Rows.FnExactHurtPlantSaid := fnExactHurtPlant.proved
end Go.Proofs.Ytdgnmaelfhiedaa
