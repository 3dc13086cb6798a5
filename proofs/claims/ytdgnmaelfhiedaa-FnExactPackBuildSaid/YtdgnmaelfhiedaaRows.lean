/-
  No cell of these rows narrows 'for every input' (looked for: loops, veiled, ifaces, maps, wideKeys, modest, calm, conditions, laid).
  DERIVED. THE GIVEN ROWS OF THIS SEAT. 14 by the template 'for every input the law returns true; each argument reads behind the call as it read before'; 0 by the template 'total and deterministic' (their statements: YtdgnmaelfhiedaaTotals.lean).
  GIVEN WITH THE SEED: the statements are not yours to turn. If you find one false, say at which input.
  Laid BY PROGRAM, IN A SANDBOX (cutbox-rows.mjs): the forced cells as the released guide's own fill.sh prints them over the translation 5855d38598b45fb4… (all of the seat's roots in one cut). By AI agents, Wed Nov 11 2026. No macro, syntax, notation, axiom, sorry.
-/
import Derived.Test.YtdgnmaelfhiedaaChecked
import GoSem.Claim
import GoSem.ClaimJoined
import GoSem.ClaimMapViews
import Derived.JoinedTies
import Derived.KernelRfl
namespace Go.Proofs.Ytdgnmaelfhiedaa
/- THE CELL 'sum', in the pinned program and in every row, IS THE sha256 OF THE DUMP (.gsa) THAT YtdgnmaelfhiedaaProg.lean LOADS. Nothing in Lean hashes anything: it is a label: what it is worth is what the hold of that sum in a sandbox is worth. -/
noncomputable def Try.pinned : Pinned := { name := "ytdgnmaelfhiedaa", sum := "5855d38598b45fb4a4d6fc353afacb6fee61236aaab002af83051c78e824f752", checked := Try.checked }
namespace Rows
def none {H : Type} : Left H := { results := [], args := [] }

/-- 'laws.FnExactTrueCells': WHATEVER THE INPUT: true; the input reads as it did. -/
def fnExactTrueCellsSpec : ChangeSpec := { name := "fnExactTrueCells", fn := fun _ => fun
  | [d] => { results := [.lit (.bool true)], args := [d] }
  | _ => none }
def fnExactTrueCellsRow : OpenClaim := { program := "ytdgnmaelfhiedaa", sum := "5855d38598b45fb4a4d6fc353afacb6fee61236aaab002af83051c78e824f752", func := "loop.example/g00251/laws.FnExactTrueCells", spec := "fnExactTrueCells", apart := false }
def FnExactTrueCellsSaid : Prop := fnExactTrueCellsRow.holds Try.pinned (OpenSpec.ofChange fnExactTrueCellsSpec)

/-- ITS FALSE NEIGHBOUR: 'it returns false'. Refute it at one input. -/
def fnExactTrueCellsWrong : ChangeSpec := { name := "fnExactTrueCells", fn := fun _ => fun
  | [d] => { results := [.lit (.bool false)], args := [d] }
  | _ => none }
def FnExactTrueCellsWrongFalsely : Prop := fnExactTrueCellsRow.holds Try.pinned (OpenSpec.ofChange fnExactTrueCellsWrong)

/-- 'laws.FnExactHurtChan': WHATEVER THE INPUT: true; the input reads as it did. -/
def fnExactHurtChanSpec : ChangeSpec := { name := "fnExactHurtChan", fn := fun _ => fun
  | [d1, d2, d3, d4] => { results := [.lit (.bool true)], args := [d1, d2, d3, d4] }
  | _ => none }
def fnExactHurtChanRow : OpenClaim := { program := "ytdgnmaelfhiedaa", sum := "5855d38598b45fb4a4d6fc353afacb6fee61236aaab002af83051c78e824f752", func := "loop.example/g00251/laws.FnExactHurtChan", spec := "fnExactHurtChan", apart := false }
def FnExactHurtChanSaid : Prop := fnExactHurtChanRow.holds Try.pinned (OpenSpec.ofChange fnExactHurtChanSpec)

/-- ITS FALSE NEIGHBOUR: 'it returns false'. Refute it at one input. -/
def fnExactHurtChanWrong : ChangeSpec := { name := "fnExactHurtChan", fn := fun _ => fun
  | [d1, d2, d3, d4] => { results := [.lit (.bool false)], args := [d1, d2, d3, d4] }
  | _ => none }
def FnExactHurtChanWrongFalsely : Prop := fnExactHurtChanRow.holds Try.pinned (OpenSpec.ofChange fnExactHurtChanWrong)

/-- 'laws.FnExactBuildFault': WHATEVER THE INPUT: true; the input reads as it did. -/
def fnExactBuildFaultSpec : ChangeSpec := { name := "fnExactBuildFault", fn := fun _ => fun
  | [d] => { results := [.lit (.bool true)], args := [d] }
  | _ => none }
def fnExactBuildFaultRow : OpenClaim := { program := "ytdgnmaelfhiedaa", sum := "5855d38598b45fb4a4d6fc353afacb6fee61236aaab002af83051c78e824f752", func := "loop.example/g00251/laws.FnExactBuildFault", spec := "fnExactBuildFault", unfollowed := true, recurses := true, apart := false }
def FnExactBuildFaultSaid : Prop := fnExactBuildFaultRow.holds Try.pinned (OpenSpec.ofChange fnExactBuildFaultSpec)

/-- ITS FALSE NEIGHBOUR: 'it returns false'. Refute it at one input. -/
def fnExactBuildFaultWrong : ChangeSpec := { name := "fnExactBuildFault", fn := fun _ => fun
  | [d] => { results := [.lit (.bool false)], args := [d] }
  | _ => none }
def FnExactBuildFaultWrongFalsely : Prop := fnExactBuildFaultRow.holds Try.pinned (OpenSpec.ofChange fnExactBuildFaultWrong)

/-- 'laws.FnExactTestChan': WHATEVER THE INPUT: true; the input reads as it did. -/
def fnExactTestChanSpec : ChangeSpec := { name := "fnExactTestChan", fn := fun _ => fun
  | [d] => { results := [.lit (.bool true)], args := [d] }
  | _ => none }
def fnExactTestChanRow : OpenClaim := { program := "ytdgnmaelfhiedaa", sum := "5855d38598b45fb4a4d6fc353afacb6fee61236aaab002af83051c78e824f752", func := "loop.example/g00251/laws.FnExactTestChan", spec := "fnExactTestChan", apart := false }
def FnExactTestChanSaid : Prop := fnExactTestChanRow.holds Try.pinned (OpenSpec.ofChange fnExactTestChanSpec)

/-- ITS FALSE NEIGHBOUR: 'it returns false'. Refute it at one input. -/
def fnExactTestChanWrong : ChangeSpec := { name := "fnExactTestChan", fn := fun _ => fun
  | [d] => { results := [.lit (.bool false)], args := [d] }
  | _ => none }
def FnExactTestChanWrongFalsely : Prop := fnExactTestChanRow.holds Try.pinned (OpenSpec.ofChange fnExactTestChanWrong)

/-- 'laws.FnExactPackBuild': WHATEVER THE INPUT: true; the input reads as it did. -/
def fnExactPackBuildSpec : ChangeSpec := { name := "fnExactPackBuild", fn := fun _ => fun
  | [d] => { results := [.lit (.bool true)], args := [d] }
  | _ => none }
def fnExactPackBuildRow : OpenClaim := { program := "ytdgnmaelfhiedaa", sum := "5855d38598b45fb4a4d6fc353afacb6fee61236aaab002af83051c78e824f752", func := "loop.example/g00251/laws.FnExactPackBuild", spec := "fnExactPackBuild", unfollowed := true, recurses := true, apart := false }
def FnExactPackBuildSaid : Prop := fnExactPackBuildRow.holds Try.pinned (OpenSpec.ofChange fnExactPackBuildSpec)

/-- ITS FALSE NEIGHBOUR: 'it returns false'. Refute it at one input. -/
def fnExactPackBuildWrong : ChangeSpec := { name := "fnExactPackBuild", fn := fun _ => fun
  | [d] => { results := [.lit (.bool false)], args := [d] }
  | _ => none }
def FnExactPackBuildWrongFalsely : Prop := fnExactPackBuildRow.holds Try.pinned (OpenSpec.ofChange fnExactPackBuildWrong)

/-- 'laws.FnExactStartChan': WHATEVER THE INPUT: true; the input reads as it did. -/
def fnExactStartChanSpec : ChangeSpec := { name := "fnExactStartChan", fn := fun _ => fun
  | [d1, d2] => { results := [.lit (.bool true)], args := [d1, d2] }
  | _ => none }
def fnExactStartChanRow : OpenClaim := { program := "ytdgnmaelfhiedaa", sum := "5855d38598b45fb4a4d6fc353afacb6fee61236aaab002af83051c78e824f752", func := "loop.example/g00251/laws.FnExactStartChan", spec := "fnExactStartChan", unfollowed := true, recurses := true, apart := false }
def FnExactStartChanSaid : Prop := fnExactStartChanRow.holds Try.pinned (OpenSpec.ofChange fnExactStartChanSpec)

/-- ITS FALSE NEIGHBOUR: 'it returns false'. Refute it at one input. -/
def fnExactStartChanWrong : ChangeSpec := { name := "fnExactStartChan", fn := fun _ => fun
  | [d1, d2] => { results := [.lit (.bool false)], args := [d1, d2] }
  | _ => none }
def FnExactStartChanWrongFalsely : Prop := fnExactStartChanRow.holds Try.pinned (OpenSpec.ofChange fnExactStartChanWrong)

/-- 'laws.FnExactUnpackBuild': WHATEVER THE INPUT: true; the input reads as it did. -/
def fnExactUnpackBuildSpec : ChangeSpec := { name := "fnExactUnpackBuild", fn := fun _ => fun
  | [d] => { results := [.lit (.bool true)], args := [d] }
  | _ => none }
def fnExactUnpackBuildRow : OpenClaim := { program := "ytdgnmaelfhiedaa", sum := "5855d38598b45fb4a4d6fc353afacb6fee61236aaab002af83051c78e824f752", func := "loop.example/g00251/laws.FnExactUnpackBuild", spec := "fnExactUnpackBuild", unfollowed := true, recurses := true, apart := false }
def FnExactUnpackBuildSaid : Prop := fnExactUnpackBuildRow.holds Try.pinned (OpenSpec.ofChange fnExactUnpackBuildSpec)

/-- ITS FALSE NEIGHBOUR: 'it returns false'. Refute it at one input. -/
def fnExactUnpackBuildWrong : ChangeSpec := { name := "fnExactUnpackBuild", fn := fun _ => fun
  | [d] => { results := [.lit (.bool false)], args := [d] }
  | _ => none }
def FnExactUnpackBuildWrongFalsely : Prop := fnExactUnpackBuildRow.holds Try.pinned (OpenSpec.ofChange fnExactUnpackBuildWrong)

/-- 'laws.FnExactPlantFault': WHATEVER THE INPUT: true; the input reads as it did. -/
def fnExactPlantFaultSpec : ChangeSpec := { name := "fnExactPlantFault", fn := fun _ => fun
  | [d] => { results := [.lit (.bool true)], args := [d] }
  | _ => none }
def fnExactPlantFaultRow : OpenClaim := { program := "ytdgnmaelfhiedaa", sum := "5855d38598b45fb4a4d6fc353afacb6fee61236aaab002af83051c78e824f752", func := "loop.example/g00251/laws.FnExactPlantFault", spec := "fnExactPlantFault", unfollowed := true, recurses := true, apart := false }
def FnExactPlantFaultSaid : Prop := fnExactPlantFaultRow.holds Try.pinned (OpenSpec.ofChange fnExactPlantFaultSpec)

/-- ITS FALSE NEIGHBOUR: 'it returns false'. Refute it at one input. -/
def fnExactPlantFaultWrong : ChangeSpec := { name := "fnExactPlantFault", fn := fun _ => fun
  | [d] => { results := [.lit (.bool false)], args := [d] }
  | _ => none }
def FnExactPlantFaultWrongFalsely : Prop := fnExactPlantFaultRow.holds Try.pinned (OpenSpec.ofChange fnExactPlantFaultWrong)

/-- 'laws.FnExactAgreeOf': WHATEVER THE INPUT: true; the input reads as it did. -/
def fnExactAgreeOfSpec : ChangeSpec := { name := "fnExactAgreeOf", fn := fun _ => fun
  | [d] => { results := [.lit (.bool true)], args := [d] }
  | _ => none }
def fnExactAgreeOfRow : OpenClaim := { program := "ytdgnmaelfhiedaa", sum := "5855d38598b45fb4a4d6fc353afacb6fee61236aaab002af83051c78e824f752", func := "loop.example/g00251/laws.FnExactAgreeOf", spec := "fnExactAgreeOf", unfollowed := true, recurses := true, apart := false }
def FnExactAgreeOfSaid : Prop := fnExactAgreeOfRow.holds Try.pinned (OpenSpec.ofChange fnExactAgreeOfSpec)

/-- ITS FALSE NEIGHBOUR: 'it returns false'. Refute it at one input. -/
def fnExactAgreeOfWrong : ChangeSpec := { name := "fnExactAgreeOf", fn := fun _ => fun
  | [d] => { results := [.lit (.bool false)], args := [d] }
  | _ => none }
def FnExactAgreeOfWrongFalsely : Prop := fnExactAgreeOfRow.holds Try.pinned (OpenSpec.ofChange fnExactAgreeOfWrong)

/-- 'laws.FnExactStartPlant': WHATEVER THE INPUT: true; the input reads as it did. -/
def fnExactStartPlantSpec : ChangeSpec := { name := "fnExactStartPlant", fn := fun _ => fun
  | [d] => { results := [.lit (.bool true)], args := [d] }
  | _ => none }
def fnExactStartPlantRow : OpenClaim := { program := "ytdgnmaelfhiedaa", sum := "5855d38598b45fb4a4d6fc353afacb6fee61236aaab002af83051c78e824f752", func := "loop.example/g00251/laws.FnExactStartPlant", spec := "fnExactStartPlant", unfollowed := true, recurses := true, apart := false }
def FnExactStartPlantSaid : Prop := fnExactStartPlantRow.holds Try.pinned (OpenSpec.ofChange fnExactStartPlantSpec)

/-- ITS FALSE NEIGHBOUR: 'it returns false'. Refute it at one input. -/
def fnExactStartPlantWrong : ChangeSpec := { name := "fnExactStartPlant", fn := fun _ => fun
  | [d] => { results := [.lit (.bool false)], args := [d] }
  | _ => none }
def FnExactStartPlantWrongFalsely : Prop := fnExactStartPlantRow.holds Try.pinned (OpenSpec.ofChange fnExactStartPlantWrong)

/-- 'laws.FnExactRunRegs': WHATEVER THE INPUT: true; the input reads as it did. -/
def fnExactRunRegsSpec : ChangeSpec := { name := "fnExactRunRegs", fn := fun _ => fun
  | [d1, d2, d3] => { results := [.lit (.bool true)], args := [d1, d2, d3] }
  | _ => none }
def fnExactRunRegsRow : OpenClaim := { program := "ytdgnmaelfhiedaa", sum := "5855d38598b45fb4a4d6fc353afacb6fee61236aaab002af83051c78e824f752", func := "loop.example/g00251/laws.FnExactRunRegs", spec := "fnExactRunRegs", unfollowed := true, recurses := true, apart := false }
def FnExactRunRegsSaid : Prop := fnExactRunRegsRow.holds Try.pinned (OpenSpec.ofChange fnExactRunRegsSpec)

/-- ITS FALSE NEIGHBOUR: 'it returns false'. Refute it at one input. -/
def fnExactRunRegsWrong : ChangeSpec := { name := "fnExactRunRegs", fn := fun _ => fun
  | [d1, d2, d3] => { results := [.lit (.bool false)], args := [d1, d2, d3] }
  | _ => none }
def FnExactRunRegsWrongFalsely : Prop := fnExactRunRegsRow.holds Try.pinned (OpenSpec.ofChange fnExactRunRegsWrong)

/-- 'laws.FnExactResetPlant': WHATEVER THE INPUT: true; the input reads as it did. -/
def fnExactResetPlantSpec : ChangeSpec := { name := "fnExactResetPlant", fn := fun _ => fun
  | [d] => { results := [.lit (.bool true)], args := [d] }
  | _ => none }
def fnExactResetPlantRow : OpenClaim := { program := "ytdgnmaelfhiedaa", sum := "5855d38598b45fb4a4d6fc353afacb6fee61236aaab002af83051c78e824f752", func := "loop.example/g00251/laws.FnExactResetPlant", spec := "fnExactResetPlant", unfollowed := true, recurses := true, apart := false }
def FnExactResetPlantSaid : Prop := fnExactResetPlantRow.holds Try.pinned (OpenSpec.ofChange fnExactResetPlantSpec)

/-- ITS FALSE NEIGHBOUR: 'it returns false'. Refute it at one input. -/
def fnExactResetPlantWrong : ChangeSpec := { name := "fnExactResetPlant", fn := fun _ => fun
  | [d] => { results := [.lit (.bool false)], args := [d] }
  | _ => none }
def FnExactResetPlantWrongFalsely : Prop := fnExactResetPlantRow.holds Try.pinned (OpenSpec.ofChange fnExactResetPlantWrong)

/-- 'laws.FnExactHurtPlant': WHATEVER THE INPUT: true; the input reads as it did. -/
def fnExactHurtPlantSpec : ChangeSpec := { name := "fnExactHurtPlant", fn := fun _ => fun
  | [d1, d2, d3, d4, d5] => { results := [.lit (.bool true)], args := [d1, d2, d3, d4, d5] }
  | _ => none }
def fnExactHurtPlantRow : OpenClaim := { program := "ytdgnmaelfhiedaa", sum := "5855d38598b45fb4a4d6fc353afacb6fee61236aaab002af83051c78e824f752", func := "loop.example/g00251/laws.FnExactHurtPlant", spec := "fnExactHurtPlant", unfollowed := true, recurses := true, apart := false }
def FnExactHurtPlantSaid : Prop := fnExactHurtPlantRow.holds Try.pinned (OpenSpec.ofChange fnExactHurtPlantSpec)

/-- ITS FALSE NEIGHBOUR: 'it returns false'. Refute it at one input. -/
def fnExactHurtPlantWrong : ChangeSpec := { name := "fnExactHurtPlant", fn := fun _ => fun
  | [d1, d2, d3, d4, d5] => { results := [.lit (.bool false)], args := [d1, d2, d3, d4, d5] }
  | _ => none }
def FnExactHurtPlantWrongFalsely : Prop := fnExactHurtPlantRow.holds Try.pinned (OpenSpec.ofChange fnExactHurtPlantWrong)

/-- 'laws.FnRegisters': WHATEVER THE INPUT: true; the input reads as it did. -/
def fnRegistersSpec : ChangeSpec := { name := "fnRegisters", fn := fun _ => fun
  | [d] => { results := [.lit (.bool true)], args := [d] }
  | _ => none }
def fnRegistersRow : OpenClaim := { program := "ytdgnmaelfhiedaa", sum := "5855d38598b45fb4a4d6fc353afacb6fee61236aaab002af83051c78e824f752", func := "loop.example/g00251/laws.FnRegisters", spec := "fnRegisters", unfollowed := true, recurses := true, apart := false }
def FnRegistersSaid : Prop := fnRegistersRow.holds Try.pinned (OpenSpec.ofChange fnRegistersSpec)

/-- ITS FALSE NEIGHBOUR: 'it returns false'. Refute it at one input. -/
def fnRegistersWrong : ChangeSpec := { name := "fnRegisters", fn := fun _ => fun
  | [d] => { results := [.lit (.bool false)], args := [d] }
  | _ => none }
def FnRegistersWrongFalsely : Prop := fnRegistersRow.holds Try.pinned (OpenSpec.ofChange fnRegistersWrong)

/- THE SECOND FORM. 'bulk': how many values and letters a reading holds, each counted each time it is reached (what is shared counts as often as it is met; a slice's spare places count too). A statement '..UptoSaid' is the law's where the arguments, and the package variables that the reading takes, are together of bulk at most 1048576: NARROWER than '..Said'. Prove '..Said' where nothing that the law and all that it calls make is longer than what came in: it says more and counts as full. Else prove '..UptoSaid'. A law counts once. -/
mutual
def uptoBulk {H : Type} : DataW H → Nat
  | .lit (.string bytes) => bytes.length + 1
  | .lit _ => 1
  | .nil => 1
  | .ptr d => uptoBulk d + 1
  | .slice elems spare => uptoBulkAll elems + uptoBulkAll spare + 1
  | .agg parts => uptoBulkAll parts + 1
  | .iface _ d => uptoBulk d + 1
  | .map entries => uptoBulkEntries entries + 1
  | .held _ => 1
def uptoBulkAll {H : Type} : List (DataW H) → Nat
  | [] => 0
  | d :: r => uptoBulk d + uptoBulkAll r
def uptoBulkEntries {H : Type} : List (Lit × DataW H) → Nat
  | [] => 0
  | x :: r => uptoBulkEntry x + uptoBulkEntries r
def uptoBulkEntry {H : Type} : Lit × DataW H → Nat
  | (.string bytes, d) => bytes.length + uptoBulk d + 1
  | (_, d) => uptoBulk d + 1
 end
def uptoSmall : (H : Type) → List (DataW H) → Bool := fun _ ds => decide (uptoBulkAll ds ≤ 1048576)
def OpenSpec.upto (s : _root_.Go.ChangeSpec) : _root_.Go.OpenSpec := { _root_.Go.OpenSpec.ofChange s with cond := some uptoSmall }

/-- 'laws.FnExactTrueCells', WHERE WHAT IT READS IS OF BULK AT MOST 1048576: true; the input reads as it did. -/
def fnExactTrueCellsUptoRow : OpenClaim := { program := "ytdgnmaelfhiedaa", sum := "5855d38598b45fb4a4d6fc353afacb6fee61236aaab002af83051c78e824f752", func := "loop.example/g00251/laws.FnExactTrueCells", spec := "fnExactTrueCells", apart := false, narrowed := true }
def FnExactTrueCellsUptoSaid : Prop := fnExactTrueCellsUptoRow.holds Try.pinned (OpenSpec.upto fnExactTrueCellsSpec)

/-- 'laws.FnExactHurtChan', WHERE WHAT IT READS IS OF BULK AT MOST 1048576: true; the input reads as it did. -/
def fnExactHurtChanUptoRow : OpenClaim := { program := "ytdgnmaelfhiedaa", sum := "5855d38598b45fb4a4d6fc353afacb6fee61236aaab002af83051c78e824f752", func := "loop.example/g00251/laws.FnExactHurtChan", spec := "fnExactHurtChan", apart := false, narrowed := true }
def FnExactHurtChanUptoSaid : Prop := fnExactHurtChanUptoRow.holds Try.pinned (OpenSpec.upto fnExactHurtChanSpec)

/-- 'laws.FnExactBuildFault', WHERE WHAT IT READS IS OF BULK AT MOST 1048576: true; the input reads as it did. -/
def fnExactBuildFaultUptoRow : OpenClaim := { program := "ytdgnmaelfhiedaa", sum := "5855d38598b45fb4a4d6fc353afacb6fee61236aaab002af83051c78e824f752", func := "loop.example/g00251/laws.FnExactBuildFault", spec := "fnExactBuildFault", unfollowed := true, recurses := true, apart := false, narrowed := true }
def FnExactBuildFaultUptoSaid : Prop := fnExactBuildFaultUptoRow.holds Try.pinned (OpenSpec.upto fnExactBuildFaultSpec)

/-- 'laws.FnExactTestChan', WHERE WHAT IT READS IS OF BULK AT MOST 1048576: true; the input reads as it did. -/
def fnExactTestChanUptoRow : OpenClaim := { program := "ytdgnmaelfhiedaa", sum := "5855d38598b45fb4a4d6fc353afacb6fee61236aaab002af83051c78e824f752", func := "loop.example/g00251/laws.FnExactTestChan", spec := "fnExactTestChan", apart := false, narrowed := true }
def FnExactTestChanUptoSaid : Prop := fnExactTestChanUptoRow.holds Try.pinned (OpenSpec.upto fnExactTestChanSpec)

/-- 'laws.FnExactPackBuild', WHERE WHAT IT READS IS OF BULK AT MOST 1048576: true; the input reads as it did. -/
def fnExactPackBuildUptoRow : OpenClaim := { program := "ytdgnmaelfhiedaa", sum := "5855d38598b45fb4a4d6fc353afacb6fee61236aaab002af83051c78e824f752", func := "loop.example/g00251/laws.FnExactPackBuild", spec := "fnExactPackBuild", unfollowed := true, recurses := true, apart := false, narrowed := true }
def FnExactPackBuildUptoSaid : Prop := fnExactPackBuildUptoRow.holds Try.pinned (OpenSpec.upto fnExactPackBuildSpec)

/-- 'laws.FnExactStartChan', WHERE WHAT IT READS IS OF BULK AT MOST 1048576: true; the input reads as it did. -/
def fnExactStartChanUptoRow : OpenClaim := { program := "ytdgnmaelfhiedaa", sum := "5855d38598b45fb4a4d6fc353afacb6fee61236aaab002af83051c78e824f752", func := "loop.example/g00251/laws.FnExactStartChan", spec := "fnExactStartChan", unfollowed := true, recurses := true, apart := false, narrowed := true }
def FnExactStartChanUptoSaid : Prop := fnExactStartChanUptoRow.holds Try.pinned (OpenSpec.upto fnExactStartChanSpec)

/-- 'laws.FnExactUnpackBuild', WHERE WHAT IT READS IS OF BULK AT MOST 1048576: true; the input reads as it did. -/
def fnExactUnpackBuildUptoRow : OpenClaim := { program := "ytdgnmaelfhiedaa", sum := "5855d38598b45fb4a4d6fc353afacb6fee61236aaab002af83051c78e824f752", func := "loop.example/g00251/laws.FnExactUnpackBuild", spec := "fnExactUnpackBuild", unfollowed := true, recurses := true, apart := false, narrowed := true }
def FnExactUnpackBuildUptoSaid : Prop := fnExactUnpackBuildUptoRow.holds Try.pinned (OpenSpec.upto fnExactUnpackBuildSpec)

/-- 'laws.FnExactPlantFault', WHERE WHAT IT READS IS OF BULK AT MOST 1048576: true; the input reads as it did. -/
def fnExactPlantFaultUptoRow : OpenClaim := { program := "ytdgnmaelfhiedaa", sum := "5855d38598b45fb4a4d6fc353afacb6fee61236aaab002af83051c78e824f752", func := "loop.example/g00251/laws.FnExactPlantFault", spec := "fnExactPlantFault", unfollowed := true, recurses := true, apart := false, narrowed := true }
def FnExactPlantFaultUptoSaid : Prop := fnExactPlantFaultUptoRow.holds Try.pinned (OpenSpec.upto fnExactPlantFaultSpec)

/-- 'laws.FnExactAgreeOf', WHERE WHAT IT READS IS OF BULK AT MOST 1048576: true; the input reads as it did. -/
def fnExactAgreeOfUptoRow : OpenClaim := { program := "ytdgnmaelfhiedaa", sum := "5855d38598b45fb4a4d6fc353afacb6fee61236aaab002af83051c78e824f752", func := "loop.example/g00251/laws.FnExactAgreeOf", spec := "fnExactAgreeOf", unfollowed := true, recurses := true, apart := false, narrowed := true }
def FnExactAgreeOfUptoSaid : Prop := fnExactAgreeOfUptoRow.holds Try.pinned (OpenSpec.upto fnExactAgreeOfSpec)

/-- 'laws.FnExactStartPlant', WHERE WHAT IT READS IS OF BULK AT MOST 1048576: true; the input reads as it did. -/
def fnExactStartPlantUptoRow : OpenClaim := { program := "ytdgnmaelfhiedaa", sum := "5855d38598b45fb4a4d6fc353afacb6fee61236aaab002af83051c78e824f752", func := "loop.example/g00251/laws.FnExactStartPlant", spec := "fnExactStartPlant", unfollowed := true, recurses := true, apart := false, narrowed := true }
def FnExactStartPlantUptoSaid : Prop := fnExactStartPlantUptoRow.holds Try.pinned (OpenSpec.upto fnExactStartPlantSpec)

/-- 'laws.FnExactRunRegs', WHERE WHAT IT READS IS OF BULK AT MOST 1048576: true; the input reads as it did. -/
def fnExactRunRegsUptoRow : OpenClaim := { program := "ytdgnmaelfhiedaa", sum := "5855d38598b45fb4a4d6fc353afacb6fee61236aaab002af83051c78e824f752", func := "loop.example/g00251/laws.FnExactRunRegs", spec := "fnExactRunRegs", unfollowed := true, recurses := true, apart := false, narrowed := true }
def FnExactRunRegsUptoSaid : Prop := fnExactRunRegsUptoRow.holds Try.pinned (OpenSpec.upto fnExactRunRegsSpec)

/-- 'laws.FnExactResetPlant', WHERE WHAT IT READS IS OF BULK AT MOST 1048576: true; the input reads as it did. -/
def fnExactResetPlantUptoRow : OpenClaim := { program := "ytdgnmaelfhiedaa", sum := "5855d38598b45fb4a4d6fc353afacb6fee61236aaab002af83051c78e824f752", func := "loop.example/g00251/laws.FnExactResetPlant", spec := "fnExactResetPlant", unfollowed := true, recurses := true, apart := false, narrowed := true }
def FnExactResetPlantUptoSaid : Prop := fnExactResetPlantUptoRow.holds Try.pinned (OpenSpec.upto fnExactResetPlantSpec)

/-- 'laws.FnExactHurtPlant', WHERE WHAT IT READS IS OF BULK AT MOST 1048576: true; the input reads as it did. -/
def fnExactHurtPlantUptoRow : OpenClaim := { program := "ytdgnmaelfhiedaa", sum := "5855d38598b45fb4a4d6fc353afacb6fee61236aaab002af83051c78e824f752", func := "loop.example/g00251/laws.FnExactHurtPlant", spec := "fnExactHurtPlant", unfollowed := true, recurses := true, apart := false, narrowed := true }
def FnExactHurtPlantUptoSaid : Prop := fnExactHurtPlantUptoRow.holds Try.pinned (OpenSpec.upto fnExactHurtPlantSpec)

/-- 'laws.FnRegisters', WHERE WHAT IT READS IS OF BULK AT MOST 1048576: true; the input reads as it did. -/
def fnRegistersUptoRow : OpenClaim := { program := "ytdgnmaelfhiedaa", sum := "5855d38598b45fb4a4d6fc353afacb6fee61236aaab002af83051c78e824f752", func := "loop.example/g00251/laws.FnRegisters", spec := "fnRegisters", unfollowed := true, recurses := true, apart := false, narrowed := true }
def FnRegistersUptoSaid : Prop := fnRegistersUptoRow.holds Try.pinned (OpenSpec.upto fnRegistersSpec)

end Rows
end Go.Proofs.Ytdgnmaelfhiedaa
