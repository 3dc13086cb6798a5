/-
  No cell of these rows narrows 'for every input' (looked for: loops, veiled, ifaces, maps, wideKeys, modest, calm, conditions, laid).
  DERIVED. THE GIVEN ROWS OF THIS SEAT. 10 by the template 'for every input the law returns true; each argument reads behind the call as it read before'; 0 by the template 'total and deterministic' (their statements: YtiipbidabcjnjaaTotals.lean).
  GIVEN WITH THE SEED: the statements are not yours to turn. If you find one false, say at which input.
  Laid BY PROGRAM, IN A SANDBOX (cutbox-rows.mjs): the forced cells as the released guide's own fill.sh prints them over the translation c5aa7f9c9e045990… (all of the seat's roots in one cut). By AI agents, Wed Nov 11 2026. No macro, syntax, notation, axiom, sorry.
-/
import Derived.Test.YtiipbidabcjnjaaChecked
import GoSem.Claim
import GoSem.ClaimJoined
import GoSem.ClaimMapViews
import Derived.JoinedTies
import Derived.KernelRfl
namespace Go.Proofs.Ytiipbidabcjnjaa
/- THE CELL 'sum', in the pinned program and in every row, IS THE sha256 OF THE DUMP (.gsa) THAT YtiipbidabcjnjaaProg.lean LOADS. Nothing in Lean hashes anything: it is a label: what it is worth is what the hold of that sum in a sandbox is worth. -/
noncomputable def Try.pinned : Pinned := { name := "ytiipbidabcjnjaa", sum := "c5aa7f9c9e0459905ca4373958e47b339a4eaadcfb8555358772c8de52d26733", checked := Try.checked }
namespace Rows
def none {H : Type} : Left H := { results := [], args := [] }

/-- 'laws.FnExactDoingsFault': WHATEVER THE INPUT: true; the input reads as it did. -/
def fnExactDoingsFaultSpec : ChangeSpec := { name := "fnExactDoingsFault", fn := fun _ => fun
  | [d] => { results := [.lit (.bool true)], args := [d] }
  | _ => none }
def fnExactDoingsFaultRow : OpenClaim := { program := "ytiipbidabcjnjaa", sum := "c5aa7f9c9e0459905ca4373958e47b339a4eaadcfb8555358772c8de52d26733", func := "loop.example/g00251/laws.FnExactDoingsFault", spec := "fnExactDoingsFault", unfollowed := true, recurses := true, apart := false }
def FnExactDoingsFaultSaid : Prop := fnExactDoingsFaultRow.holds Try.pinned (OpenSpec.ofChange fnExactDoingsFaultSpec)

/-- ITS FALSE NEIGHBOUR: 'it returns false'. Refute it at one input. -/
def fnExactDoingsFaultWrong : ChangeSpec := { name := "fnExactDoingsFault", fn := fun _ => fun
  | [d] => { results := [.lit (.bool false)], args := [d] }
  | _ => none }
def FnExactDoingsFaultWrongFalsely : Prop := fnExactDoingsFaultRow.holds Try.pinned (OpenSpec.ofChange fnExactDoingsFaultWrong)

/-- 'laws.FnExactChanFault': WHATEVER THE INPUT: true; the input reads as it did. -/
def fnExactChanFaultSpec : ChangeSpec := { name := "fnExactChanFault", fn := fun _ => fun
  | [d] => { results := [.lit (.bool true)], args := [d] }
  | _ => none }
def fnExactChanFaultRow : OpenClaim := { program := "ytiipbidabcjnjaa", sum := "c5aa7f9c9e0459905ca4373958e47b339a4eaadcfb8555358772c8de52d26733", func := "loop.example/g00251/laws.FnExactChanFault", spec := "fnExactChanFault", apart := false }
def FnExactChanFaultSaid : Prop := fnExactChanFaultRow.holds Try.pinned (OpenSpec.ofChange fnExactChanFaultSpec)

/-- ITS FALSE NEIGHBOUR: 'it returns false'. Refute it at one input. -/
def fnExactChanFaultWrong : ChangeSpec := { name := "fnExactChanFault", fn := fun _ => fun
  | [d] => { results := [.lit (.bool false)], args := [d] }
  | _ => none }
def FnExactChanFaultWrongFalsely : Prop := fnExactChanFaultRow.holds Try.pinned (OpenSpec.ofChange fnExactChanFaultWrong)

/-- 'laws.FnExactHurtsOf': WHATEVER THE INPUT: true; the input reads as it did. -/
def fnExactHurtsOfSpec : ChangeSpec := { name := "fnExactHurtsOf", fn := fun _ => fun
  | [d] => { results := [.lit (.bool true)], args := [d] }
  | _ => none }
def fnExactHurtsOfRow : OpenClaim := { program := "ytiipbidabcjnjaa", sum := "c5aa7f9c9e0459905ca4373958e47b339a4eaadcfb8555358772c8de52d26733", func := "loop.example/g00251/laws.FnExactHurtsOf", spec := "fnExactHurtsOf", unfollowed := true, recurses := true, apart := false }
def FnExactHurtsOfSaid : Prop := fnExactHurtsOfRow.holds Try.pinned (OpenSpec.ofChange fnExactHurtsOfSpec)

/-- ITS FALSE NEIGHBOUR: 'it returns false'. Refute it at one input. -/
def fnExactHurtsOfWrong : ChangeSpec := { name := "fnExactHurtsOf", fn := fun _ => fun
  | [d] => { results := [.lit (.bool false)], args := [d] }
  | _ => none }
def FnExactHurtsOfWrongFalsely : Prop := fnExactHurtsOfRow.holds Try.pinned (OpenSpec.ofChange fnExactHurtsOfWrong)

/-- 'laws.FnExactTrueCells': WHATEVER THE INPUT: true; the input reads as it did. -/
def fnExactTrueCellsSpec : ChangeSpec := { name := "fnExactTrueCells", fn := fun _ => fun
  | [d] => { results := [.lit (.bool true)], args := [d] }
  | _ => none }
def fnExactTrueCellsRow : OpenClaim := { program := "ytiipbidabcjnjaa", sum := "c5aa7f9c9e0459905ca4373958e47b339a4eaadcfb8555358772c8de52d26733", func := "loop.example/g00251/laws.FnExactTrueCells", spec := "fnExactTrueCells", apart := false }
def FnExactTrueCellsSaid : Prop := fnExactTrueCellsRow.holds Try.pinned (OpenSpec.ofChange fnExactTrueCellsSpec)

/-- ITS FALSE NEIGHBOUR: 'it returns false'. Refute it at one input. -/
def fnExactTrueCellsWrong : ChangeSpec := { name := "fnExactTrueCells", fn := fun _ => fun
  | [d] => { results := [.lit (.bool false)], args := [d] }
  | _ => none }
def FnExactTrueCellsWrongFalsely : Prop := fnExactTrueCellsRow.holds Try.pinned (OpenSpec.ofChange fnExactTrueCellsWrong)

/-- 'laws.FnExactHurtChan': WHATEVER THE INPUT: true; the input reads as it did. -/
def fnExactHurtChanSpec : ChangeSpec := { name := "fnExactHurtChan", fn := fun _ => fun
  | [d1, d2, d3, d4] => { results := [.lit (.bool true)], args := [d1, d2, d3, d4] }
  | _ => none }
def fnExactHurtChanRow : OpenClaim := { program := "ytiipbidabcjnjaa", sum := "c5aa7f9c9e0459905ca4373958e47b339a4eaadcfb8555358772c8de52d26733", func := "loop.example/g00251/laws.FnExactHurtChan", spec := "fnExactHurtChan", apart := false }
def FnExactHurtChanSaid : Prop := fnExactHurtChanRow.holds Try.pinned (OpenSpec.ofChange fnExactHurtChanSpec)

/-- ITS FALSE NEIGHBOUR: 'it returns false'. Refute it at one input. -/
def fnExactHurtChanWrong : ChangeSpec := { name := "fnExactHurtChan", fn := fun _ => fun
  | [d1, d2, d3, d4] => { results := [.lit (.bool false)], args := [d1, d2, d3, d4] }
  | _ => none }
def FnExactHurtChanWrongFalsely : Prop := fnExactHurtChanRow.holds Try.pinned (OpenSpec.ofChange fnExactHurtChanWrong)

/-- 'laws.FnExactBuildFault': WHATEVER THE INPUT: true; the input reads as it did. -/
def fnExactBuildFaultSpec : ChangeSpec := { name := "fnExactBuildFault", fn := fun _ => fun
  | [d] => { results := [.lit (.bool true)], args := [d] }
  | _ => none }
def fnExactBuildFaultRow : OpenClaim := { program := "ytiipbidabcjnjaa", sum := "c5aa7f9c9e0459905ca4373958e47b339a4eaadcfb8555358772c8de52d26733", func := "loop.example/g00251/laws.FnExactBuildFault", spec := "fnExactBuildFault", unfollowed := true, recurses := true, apart := false }
def FnExactBuildFaultSaid : Prop := fnExactBuildFaultRow.holds Try.pinned (OpenSpec.ofChange fnExactBuildFaultSpec)

/-- ITS FALSE NEIGHBOUR: 'it returns false'. Refute it at one input. -/
def fnExactBuildFaultWrong : ChangeSpec := { name := "fnExactBuildFault", fn := fun _ => fun
  | [d] => { results := [.lit (.bool false)], args := [d] }
  | _ => none }
def FnExactBuildFaultWrongFalsely : Prop := fnExactBuildFaultRow.holds Try.pinned (OpenSpec.ofChange fnExactBuildFaultWrong)

/-- 'laws.FnExactTestChan': WHATEVER THE INPUT: true; the input reads as it did. -/
def fnExactTestChanSpec : ChangeSpec := { name := "fnExactTestChan", fn := fun _ => fun
  | [d] => { results := [.lit (.bool true)], args := [d] }
  | _ => none }
def fnExactTestChanRow : OpenClaim := { program := "ytiipbidabcjnjaa", sum := "c5aa7f9c9e0459905ca4373958e47b339a4eaadcfb8555358772c8de52d26733", func := "loop.example/g00251/laws.FnExactTestChan", spec := "fnExactTestChan", apart := false }
def FnExactTestChanSaid : Prop := fnExactTestChanRow.holds Try.pinned (OpenSpec.ofChange fnExactTestChanSpec)

/-- ITS FALSE NEIGHBOUR: 'it returns false'. Refute it at one input. -/
def fnExactTestChanWrong : ChangeSpec := { name := "fnExactTestChan", fn := fun _ => fun
  | [d] => { results := [.lit (.bool false)], args := [d] }
  | _ => none }
def FnExactTestChanWrongFalsely : Prop := fnExactTestChanRow.holds Try.pinned (OpenSpec.ofChange fnExactTestChanWrong)

/-- 'laws.FnExactPackBuild': WHATEVER THE INPUT: true; the input reads as it did. -/
def fnExactPackBuildSpec : ChangeSpec := { name := "fnExactPackBuild", fn := fun _ => fun
  | [d] => { results := [.lit (.bool true)], args := [d] }
  | _ => none }
def fnExactPackBuildRow : OpenClaim := { program := "ytiipbidabcjnjaa", sum := "c5aa7f9c9e0459905ca4373958e47b339a4eaadcfb8555358772c8de52d26733", func := "loop.example/g00251/laws.FnExactPackBuild", spec := "fnExactPackBuild", unfollowed := true, recurses := true, apart := false }
def FnExactPackBuildSaid : Prop := fnExactPackBuildRow.holds Try.pinned (OpenSpec.ofChange fnExactPackBuildSpec)

/-- ITS FALSE NEIGHBOUR: 'it returns false'. Refute it at one input. -/
def fnExactPackBuildWrong : ChangeSpec := { name := "fnExactPackBuild", fn := fun _ => fun
  | [d] => { results := [.lit (.bool false)], args := [d] }
  | _ => none }
def FnExactPackBuildWrongFalsely : Prop := fnExactPackBuildRow.holds Try.pinned (OpenSpec.ofChange fnExactPackBuildWrong)

/-- 'laws.FnExactStartChan': WHATEVER THE INPUT: true; the input reads as it did. -/
def fnExactStartChanSpec : ChangeSpec := { name := "fnExactStartChan", fn := fun _ => fun
  | [d1, d2] => { results := [.lit (.bool true)], args := [d1, d2] }
  | _ => none }
def fnExactStartChanRow : OpenClaim := { program := "ytiipbidabcjnjaa", sum := "c5aa7f9c9e0459905ca4373958e47b339a4eaadcfb8555358772c8de52d26733", func := "loop.example/g00251/laws.FnExactStartChan", spec := "fnExactStartChan", unfollowed := true, recurses := true, apart := false }
def FnExactStartChanSaid : Prop := fnExactStartChanRow.holds Try.pinned (OpenSpec.ofChange fnExactStartChanSpec)

/-- ITS FALSE NEIGHBOUR: 'it returns false'. Refute it at one input. -/
def fnExactStartChanWrong : ChangeSpec := { name := "fnExactStartChan", fn := fun _ => fun
  | [d1, d2] => { results := [.lit (.bool false)], args := [d1, d2] }
  | _ => none }
def FnExactStartChanWrongFalsely : Prop := fnExactStartChanRow.holds Try.pinned (OpenSpec.ofChange fnExactStartChanWrong)

/-- 'laws.FnExactUnpackBuild': WHATEVER THE INPUT: true; the input reads as it did. -/
def fnExactUnpackBuildSpec : ChangeSpec := { name := "fnExactUnpackBuild", fn := fun _ => fun
  | [d] => { results := [.lit (.bool true)], args := [d] }
  | _ => none }
def fnExactUnpackBuildRow : OpenClaim := { program := "ytiipbidabcjnjaa", sum := "c5aa7f9c9e0459905ca4373958e47b339a4eaadcfb8555358772c8de52d26733", func := "loop.example/g00251/laws.FnExactUnpackBuild", spec := "fnExactUnpackBuild", unfollowed := true, recurses := true, apart := false }
def FnExactUnpackBuildSaid : Prop := fnExactUnpackBuildRow.holds Try.pinned (OpenSpec.ofChange fnExactUnpackBuildSpec)

/-- ITS FALSE NEIGHBOUR: 'it returns false'. Refute it at one input. -/
def fnExactUnpackBuildWrong : ChangeSpec := { name := "fnExactUnpackBuild", fn := fun _ => fun
  | [d] => { results := [.lit (.bool false)], args := [d] }
  | _ => none }
def FnExactUnpackBuildWrongFalsely : Prop := fnExactUnpackBuildRow.holds Try.pinned (OpenSpec.ofChange fnExactUnpackBuildWrong)

/- THE SECOND FORM. 'bulk': how many values and letters a reading holds, each counted each time it is reached (what is shared counts as often as it is met; a slice's spare places count too). A statement '..UptoSaid' is the law's where the arguments, and the package variables that the reading takes, are together of bulk at most 1048576: NARROWER than '..Said'. Prove '..Said' where nothing that the law and all that it calls make is longer than what came in: it says more and counts as full. Else prove '..UptoSaid'. A law counts once. -/
mutual
def uptoBulk {H : Type} : DataW H → Nat
  | .lit (.string bytes) => bytes.length + 1
  | .lit _ => 1
  | .nil => 1
  | .ptr d => uptoBulk d + 1
  | .slice elems spare => uptoBulkAll elems + uptoBulkAll spare + 1
  | .agg parts => uptoBulkAll parts + 1
  | .iface _ d => uptoBulk d + 1
  | .map entries => uptoBulkEntries entries + 1
  | .held _ => 1
def uptoBulkAll {H : Type} : List (DataW H) → Nat
  | [] => 0
  | d :: r => uptoBulk d + uptoBulkAll r
def uptoBulkEntries {H : Type} : List (Lit × DataW H) → Nat
  | [] => 0
  | x :: r => uptoBulkEntry x + uptoBulkEntries r
def uptoBulkEntry {H : Type} : Lit × DataW H → Nat
  | (.string bytes, d) => bytes.length + uptoBulk d + 1
  | (_, d) => uptoBulk d + 1
 end
def uptoSmall : (H : Type) → List (DataW H) → Bool := fun _ ds => decide (uptoBulkAll ds ≤ 1048576)
def OpenSpec.upto (s : _root_.Go.ChangeSpec) : _root_.Go.OpenSpec := { _root_.Go.OpenSpec.ofChange s with cond := some uptoSmall }

/-- 'laws.FnExactDoingsFault', WHERE WHAT IT READS IS OF BULK AT MOST 1048576: true; the input reads as it did. -/
def fnExactDoingsFaultUptoRow : OpenClaim := { program := "ytiipbidabcjnjaa", sum := "c5aa7f9c9e0459905ca4373958e47b339a4eaadcfb8555358772c8de52d26733", func := "loop.example/g00251/laws.FnExactDoingsFault", spec := "fnExactDoingsFault", unfollowed := true, recurses := true, apart := false, narrowed := true }
def FnExactDoingsFaultUptoSaid : Prop := fnExactDoingsFaultUptoRow.holds Try.pinned (OpenSpec.upto fnExactDoingsFaultSpec)

/-- 'laws.FnExactChanFault', WHERE WHAT IT READS IS OF BULK AT MOST 1048576: true; the input reads as it did. -/
def fnExactChanFaultUptoRow : OpenClaim := { program := "ytiipbidabcjnjaa", sum := "c5aa7f9c9e0459905ca4373958e47b339a4eaadcfb8555358772c8de52d26733", func := "loop.example/g00251/laws.FnExactChanFault", spec := "fnExactChanFault", apart := false, narrowed := true }
def FnExactChanFaultUptoSaid : Prop := fnExactChanFaultUptoRow.holds Try.pinned (OpenSpec.upto fnExactChanFaultSpec)

/-- 'laws.FnExactHurtsOf', WHERE WHAT IT READS IS OF BULK AT MOST 1048576: true; the input reads as it did. -/
def fnExactHurtsOfUptoRow : OpenClaim := { program := "ytiipbidabcjnjaa", sum := "c5aa7f9c9e0459905ca4373958e47b339a4eaadcfb8555358772c8de52d26733", func := "loop.example/g00251/laws.FnExactHurtsOf", spec := "fnExactHurtsOf", unfollowed := true, recurses := true, apart := false, narrowed := true }
def FnExactHurtsOfUptoSaid : Prop := fnExactHurtsOfUptoRow.holds Try.pinned (OpenSpec.upto fnExactHurtsOfSpec)

/-- 'laws.FnExactTrueCells', WHERE WHAT IT READS IS OF BULK AT MOST 1048576: true; the input reads as it did. -/
def fnExactTrueCellsUptoRow : OpenClaim := { program := "ytiipbidabcjnjaa", sum := "c5aa7f9c9e0459905ca4373958e47b339a4eaadcfb8555358772c8de52d26733", func := "loop.example/g00251/laws.FnExactTrueCells", spec := "fnExactTrueCells", apart := false, narrowed := true }
def FnExactTrueCellsUptoSaid : Prop := fnExactTrueCellsUptoRow.holds Try.pinned (OpenSpec.upto fnExactTrueCellsSpec)

/-- 'laws.FnExactHurtChan', WHERE WHAT IT READS IS OF BULK AT MOST 1048576: true; the input reads as it did. -/
def fnExactHurtChanUptoRow : OpenClaim := { program := "ytiipbidabcjnjaa", sum := "c5aa7f9c9e0459905ca4373958e47b339a4eaadcfb8555358772c8de52d26733", func := "loop.example/g00251/laws.FnExactHurtChan", spec := "fnExactHurtChan", apart := false, narrowed := true }
def FnExactHurtChanUptoSaid : Prop := fnExactHurtChanUptoRow.holds Try.pinned (OpenSpec.upto fnExactHurtChanSpec)

/-- 'laws.FnExactBuildFault', WHERE WHAT IT READS IS OF BULK AT MOST 1048576: true; the input reads as it did. -/
def fnExactBuildFaultUptoRow : OpenClaim := { program := "ytiipbidabcjnjaa", sum := "c5aa7f9c9e0459905ca4373958e47b339a4eaadcfb8555358772c8de52d26733", func := "loop.example/g00251/laws.FnExactBuildFault", spec := "fnExactBuildFault", unfollowed := true, recurses := true, apart := false, narrowed := true }
def FnExactBuildFaultUptoSaid : Prop := fnExactBuildFaultUptoRow.holds Try.pinned (OpenSpec.upto fnExactBuildFaultSpec)

/-- 'laws.FnExactTestChan', WHERE WHAT IT READS IS OF BULK AT MOST 1048576: true; the input reads as it did. -/
def fnExactTestChanUptoRow : OpenClaim := { program := "ytiipbidabcjnjaa", sum := "c5aa7f9c9e0459905ca4373958e47b339a4eaadcfb8555358772c8de52d26733", func := "loop.example/g00251/laws.FnExactTestChan", spec := "fnExactTestChan", apart := false, narrowed := true }
def FnExactTestChanUptoSaid : Prop := fnExactTestChanUptoRow.holds Try.pinned (OpenSpec.upto fnExactTestChanSpec)

/-- 'laws.FnExactPackBuild', WHERE WHAT IT READS IS OF BULK AT MOST 1048576: true; the input reads as it did. -/
def fnExactPackBuildUptoRow : OpenClaim := { program := "ytiipbidabcjnjaa", sum := "c5aa7f9c9e0459905ca4373958e47b339a4eaadcfb8555358772c8de52d26733", func := "loop.example/g00251/laws.FnExactPackBuild", spec := "fnExactPackBuild", unfollowed := true, recurses := true, apart := false, narrowed := true }
def FnExactPackBuildUptoSaid : Prop := fnExactPackBuildUptoRow.holds Try.pinned (OpenSpec.upto fnExactPackBuildSpec)

/-- 'laws.FnExactStartChan', WHERE WHAT IT READS IS OF BULK AT MOST 1048576: true; the input reads as it did. -/
def fnExactStartChanUptoRow : OpenClaim := { program := "ytiipbidabcjnjaa", sum := "c5aa7f9c9e0459905ca4373958e47b339a4eaadcfb8555358772c8de52d26733", func := "loop.example/g00251/laws.FnExactStartChan", spec := "fnExactStartChan", unfollowed := true, recurses := true, apart := false, narrowed := true }
def FnExactStartChanUptoSaid : Prop := fnExactStartChanUptoRow.holds Try.pinned (OpenSpec.upto fnExactStartChanSpec)

/-- 'laws.FnExactUnpackBuild', WHERE WHAT IT READS IS OF BULK AT MOST 1048576: true; the input reads as it did. -/
def fnExactUnpackBuildUptoRow : OpenClaim := { program := "ytiipbidabcjnjaa", sum := "c5aa7f9c9e0459905ca4373958e47b339a4eaadcfb8555358772c8de52d26733", func := "loop.example/g00251/laws.FnExactUnpackBuild", spec := "fnExactUnpackBuild", unfollowed := true, recurses := true, apart := false, narrowed := true }
def FnExactUnpackBuildUptoSaid : Prop := fnExactUnpackBuildUptoRow.holds Try.pinned (OpenSpec.upto fnExactUnpackBuildSpec)

end Rows
end Go.Proofs.Ytiipbidabcjnjaa
