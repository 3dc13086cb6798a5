/-
  No cell of these rows narrows 'for every input' (looked for: loops, veiled, ifaces, maps, wideKeys, modest, calm, conditions, laid).
  DERIVED. THE GIVEN ROWS OF THIS SEAT. 4 by the template 'for every input the law returns true; each argument reads behind the call as it read before'; 0 by the template 'total and deterministic' (their statements: YtfglckpbconanaaTotals.lean).
  GIVEN WITH THE SEED: the statements are not yours to turn. If you find one false, say at which input.
  Laid BY PROGRAM, IN A SANDBOX (cutbox-rows.mjs): the forced cells as the released guide's own fill.sh prints them over the translation 024c0920bcaafd3b… (all of the seat's roots in one cut). By AI agents, Wed Nov 11 2026. No macro, syntax, notation, axiom, sorry.
-/
import Derived.Test.YtfglckpbconanaaChecked
import GoSem.Claim
import GoSem.ClaimJoined
import GoSem.ClaimMapViews
import Derived.JoinedTies
import Derived.KernelRfl
namespace Go.Proofs.Ytfglckpbconanaa
/- THE CELL 'sum', in the pinned program and in every row, IS THE sha256 OF THE DUMP (.gsa) THAT YtfglckpbconanaaProg.lean LOADS. Nothing in Lean hashes anything: it is a label: what it is worth is what the hold of that sum in a sandbox is worth. -/
noncomputable def Try.pinned : Pinned := { name := "ytfglckpbconanaa", sum := "024c0920bcaafd3b72b383202405ebc00a30042f9e398e3ed4e4cfcb2572dfd3", checked := Try.checked }
namespace Rows
def none {H : Type} : Left H := { results := [], args := [] }

/-- 'laws.FnExactTestChan': WHATEVER THE INPUT: true; the input reads as it did. -/
def fnExactTestChanSpec : ChangeSpec := { name := "fnExactTestChan", fn := fun _ => fun
  | [d] => { results := [.lit (.bool true)], args := [d] }
  | _ => none }
def fnExactTestChanRow : OpenClaim := { program := "ytfglckpbconanaa", sum := "024c0920bcaafd3b72b383202405ebc00a30042f9e398e3ed4e4cfcb2572dfd3", func := "loop.example/g00251/laws.FnExactTestChan", spec := "fnExactTestChan", apart := false }
def FnExactTestChanSaid : Prop := fnExactTestChanRow.holds Try.pinned (OpenSpec.ofChange fnExactTestChanSpec)

/-- ITS FALSE NEIGHBOUR: 'it returns false'. Refute it at one input. -/
def fnExactTestChanWrong : ChangeSpec := { name := "fnExactTestChan", fn := fun _ => fun
  | [d] => { results := [.lit (.bool false)], args := [d] }
  | _ => none }
def FnExactTestChanWrongFalsely : Prop := fnExactTestChanRow.holds Try.pinned (OpenSpec.ofChange fnExactTestChanWrong)

/-- 'laws.FnExactUnpackBuild': WHATEVER THE INPUT: true; the input reads as it did. -/
def fnExactUnpackBuildSpec : ChangeSpec := { name := "fnExactUnpackBuild", fn := fun _ => fun
  | [d] => { results := [.lit (.bool true)], args := [d] }
  | _ => none }
def fnExactUnpackBuildRow : OpenClaim := { program := "ytfglckpbconanaa", sum := "024c0920bcaafd3b72b383202405ebc00a30042f9e398e3ed4e4cfcb2572dfd3", func := "loop.example/g00251/laws.FnExactUnpackBuild", spec := "fnExactUnpackBuild", unfollowed := true, recurses := true, apart := false }
def FnExactUnpackBuildSaid : Prop := fnExactUnpackBuildRow.holds Try.pinned (OpenSpec.ofChange fnExactUnpackBuildSpec)

/-- ITS FALSE NEIGHBOUR: 'it returns false'. Refute it at one input. -/
def fnExactUnpackBuildWrong : ChangeSpec := { name := "fnExactUnpackBuild", fn := fun _ => fun
  | [d] => { results := [.lit (.bool false)], args := [d] }
  | _ => none }
def FnExactUnpackBuildWrongFalsely : Prop := fnExactUnpackBuildRow.holds Try.pinned (OpenSpec.ofChange fnExactUnpackBuildWrong)

/-- 'laws.FnExactRunRegs': WHATEVER THE INPUT: true; the input reads as it did. -/
def fnExactRunRegsSpec : ChangeSpec := { name := "fnExactRunRegs", fn := fun _ => fun
  | [d1, d2, d3] => { results := [.lit (.bool true)], args := [d1, d2, d3] }
  | _ => none }
def fnExactRunRegsRow : OpenClaim := { program := "ytfglckpbconanaa", sum := "024c0920bcaafd3b72b383202405ebc00a30042f9e398e3ed4e4cfcb2572dfd3", func := "loop.example/g00251/laws.FnExactRunRegs", spec := "fnExactRunRegs", unfollowed := true, recurses := true, apart := false }
def FnExactRunRegsSaid : Prop := fnExactRunRegsRow.holds Try.pinned (OpenSpec.ofChange fnExactRunRegsSpec)

/-- ITS FALSE NEIGHBOUR: 'it returns false'. Refute it at one input. -/
def fnExactRunRegsWrong : ChangeSpec := { name := "fnExactRunRegs", fn := fun _ => fun
  | [d1, d2, d3] => { results := [.lit (.bool false)], args := [d1, d2, d3] }
  | _ => none }
def FnExactRunRegsWrongFalsely : Prop := fnExactRunRegsRow.holds Try.pinned (OpenSpec.ofChange fnExactRunRegsWrong)

/-- 'laws.FnRegisters': WHATEVER THE INPUT: true; the input reads as it did. -/
def fnRegistersSpec : ChangeSpec := { name := "fnRegisters", fn := fun _ => fun
  | [d] => { results := [.lit (.bool true)], args := [d] }
  | _ => none }
def fnRegistersRow : OpenClaim := { program := "ytfglckpbconanaa", sum := "024c0920bcaafd3b72b383202405ebc00a30042f9e398e3ed4e4cfcb2572dfd3", func := "loop.example/g00251/laws.FnRegisters", spec := "fnRegisters", unfollowed := true, recurses := true, apart := false }
def FnRegistersSaid : Prop := fnRegistersRow.holds Try.pinned (OpenSpec.ofChange fnRegistersSpec)

/-- ITS FALSE NEIGHBOUR: 'it returns false'. Refute it at one input. -/
def fnRegistersWrong : ChangeSpec := { name := "fnRegisters", fn := fun _ => fun
  | [d] => { results := [.lit (.bool false)], args := [d] }
  | _ => none }
def FnRegistersWrongFalsely : Prop := fnRegistersRow.holds Try.pinned (OpenSpec.ofChange fnRegistersWrong)

/- THE SECOND FORM. 'bulk': how many values and letters a reading holds, each counted each time it is reached (what is shared counts as often as it is met; a slice's spare places count too). A statement '..UptoSaid' is the law's where the arguments, and the package variables that the reading takes, are together of bulk at most 1048576: NARROWER than '..Said'. Prove '..Said' where nothing that the law and all that it calls make is longer than what came in: it says more and counts as full. Else prove '..UptoSaid'. A law counts once. -/
mutual
def uptoBulk {H : Type} : DataW H → Nat
  | .lit (.string bytes) => bytes.length + 1
  | .lit _ => 1
  | .nil => 1
  | .ptr d => uptoBulk d + 1
  | .slice elems spare => uptoBulkAll elems + uptoBulkAll spare + 1
  | .agg parts => uptoBulkAll parts + 1
  | .iface _ d => uptoBulk d + 1
  | .map entries => uptoBulkEntries entries + 1
  | .held _ => 1
def uptoBulkAll {H : Type} : List (DataW H) → Nat
  | [] => 0
  | d :: r => uptoBulk d + uptoBulkAll r
def uptoBulkEntries {H : Type} : List (Lit × DataW H) → Nat
  | [] => 0
  | x :: r => uptoBulkEntry x + uptoBulkEntries r
def uptoBulkEntry {H : Type} : Lit × DataW H → Nat
  | (.string bytes, d) => bytes.length + uptoBulk d + 1
  | (_, d) => uptoBulk d + 1
 end
def uptoSmall : (H : Type) → List (DataW H) → Bool := fun _ ds => decide (uptoBulkAll ds ≤ 1048576)
def OpenSpec.upto (s : _root_.Go.ChangeSpec) : _root_.Go.OpenSpec := { _root_.Go.OpenSpec.ofChange s with cond := some uptoSmall }

/-- 'laws.FnExactTestChan', WHERE WHAT IT READS IS OF BULK AT MOST 1048576: true; the input reads as it did. -/
def fnExactTestChanUptoRow : OpenClaim := { program := "ytfglckpbconanaa", sum := "024c0920bcaafd3b72b383202405ebc00a30042f9e398e3ed4e4cfcb2572dfd3", func := "loop.example/g00251/laws.FnExactTestChan", spec := "fnExactTestChan", apart := false, narrowed := true }
def FnExactTestChanUptoSaid : Prop := fnExactTestChanUptoRow.holds Try.pinned (OpenSpec.upto fnExactTestChanSpec)

/-- 'laws.FnExactUnpackBuild', WHERE WHAT IT READS IS OF BULK AT MOST 1048576: true; the input reads as it did. -/
def fnExactUnpackBuildUptoRow : OpenClaim := { program := "ytfglckpbconanaa", sum := "024c0920bcaafd3b72b383202405ebc00a30042f9e398e3ed4e4cfcb2572dfd3", func := "loop.example/g00251/laws.FnExactUnpackBuild", spec := "fnExactUnpackBuild", unfollowed := true, recurses := true, apart := false, narrowed := true }
def FnExactUnpackBuildUptoSaid : Prop := fnExactUnpackBuildUptoRow.holds Try.pinned (OpenSpec.upto fnExactUnpackBuildSpec)

/-- 'laws.FnExactRunRegs', WHERE WHAT IT READS IS OF BULK AT MOST 1048576: true; the input reads as it did. -/
def fnExactRunRegsUptoRow : OpenClaim := { program := "ytfglckpbconanaa", sum := "024c0920bcaafd3b72b383202405ebc00a30042f9e398e3ed4e4cfcb2572dfd3", func := "loop.example/g00251/laws.FnExactRunRegs", spec := "fnExactRunRegs", unfollowed := true, recurses := true, apart := false, narrowed := true }
def FnExactRunRegsUptoSaid : Prop := fnExactRunRegsUptoRow.holds Try.pinned (OpenSpec.upto fnExactRunRegsSpec)

/-- 'laws.FnRegisters', WHERE WHAT IT READS IS OF BULK AT MOST 1048576: true; the input reads as it did. -/
def fnRegistersUptoRow : OpenClaim := { program := "ytfglckpbconanaa", sum := "024c0920bcaafd3b72b383202405ebc00a30042f9e398e3ed4e4cfcb2572dfd3", func := "loop.example/g00251/laws.FnRegisters", spec := "fnRegisters", unfollowed := true, recurses := true, apart := false, narrowed := true }
def FnRegistersUptoSaid : Prop := fnRegistersUptoRow.holds Try.pinned (OpenSpec.upto fnRegistersSpec)

end Rows
end Go.Proofs.Ytfglckpbconanaa
