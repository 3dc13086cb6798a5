/-
  No cell of these rows narrows 'for every input' (looked for: loops, veiled, ifaces, maps, wideKeys, modest, calm, conditions, laid).
  DERIVED. THE GIVEN ROWS OF THIS SEAT. 3 by the template 'for every input the law returns true; each argument reads behind the call as it read before'; 0 by the template 'total and deterministic' (their statements: YtfglckpbconanaaGreatTotals.lean).
  GIVEN WITH THE SEED: the statements are not yours to turn. If you find one false, say at which input.
  Laid BY PROGRAM, IN A SANDBOX (cutbox-rows.mjs): the forced cells as the released guide's own fill.sh prints them over the translation 4942793e3f806cf4… (all of the seat's roots in one cut). By AI agents, Wed Nov 11 2026. No macro, syntax, notation, axiom, sorry.
-/
import Derived.Test.YtfglckpbconanaaGreatChecked
import GoSem.Claim
import GoSem.ClaimJoined
import GoSem.ClaimMapViews
import Derived.JoinedTies
import Derived.KernelRfl
namespace Go.Proofs.YtfglckpbconanaaGreat
/- THE CELL 'sum', in the pinned program and in every row, IS THE sha256 OF THE DUMP (.gsa) THAT YtfglckpbconanaaGreatProg.lean LOADS. Nothing in Lean hashes anything: it is a label: what it is worth is what the hold of that sum in a sandbox is worth. -/
noncomputable def Tryz.pinned : Pinned := { name := "ytfglckpbconanaagreat", sum := "4942793e3f806cf41427617cecd6de34ec10542eed1f17fefc6e467e33d22a30", checked := Tryz.checked }
namespace Rows
def none {H : Type} : Left H := { results := [], args := [] }

/-- 'laws.FnExactScanChan': WHATEVER THE INPUT: true; the input reads as it did. -/
def fnExactScanChanSpec : ChangeSpec := { name := "fnExactScanChan", fn := fun _ => fun
  | [d1, d2, d3] => { results := [.lit (.bool true)], args := [d1, d2, d3] }
  | _ => none }
def fnExactScanChanRow : OpenClaim := { program := "ytfglckpbconanaagreat", sum := "4942793e3f806cf41427617cecd6de34ec10542eed1f17fefc6e467e33d22a30", func := "loop.example/g00251/laws.FnExactScanChan", spec := "fnExactScanChan", unfollowed := true, recurses := true, apart := false }
def FnExactScanChanSaid : Prop := fnExactScanChanRow.holds Tryz.pinned (OpenSpec.ofChange fnExactScanChanSpec)

/-- ITS FALSE NEIGHBOUR: 'it returns false'. Refute it at one input. -/
def fnExactScanChanWrong : ChangeSpec := { name := "fnExactScanChan", fn := fun _ => fun
  | [d1, d2, d3] => { results := [.lit (.bool false)], args := [d1, d2, d3] }
  | _ => none }
def FnExactScanChanWrongFalsely : Prop := fnExactScanChanRow.holds Tryz.pinned (OpenSpec.ofChange fnExactScanChanWrong)

/-- 'laws.FnExactScanPlant': WHATEVER THE INPUT: true; the input reads as it did. -/
def fnExactScanPlantSpec : ChangeSpec := { name := "fnExactScanPlant", fn := fun _ => fun
  | [d1, d2] => { results := [.lit (.bool true)], args := [d1, d2] }
  | _ => none }
def fnExactScanPlantRow : OpenClaim := { program := "ytfglckpbconanaagreat", sum := "4942793e3f806cf41427617cecd6de34ec10542eed1f17fefc6e467e33d22a30", func := "loop.example/g00251/laws.FnExactScanPlant", spec := "fnExactScanPlant", unfollowed := true, recurses := true, apart := false }
def FnExactScanPlantSaid : Prop := fnExactScanPlantRow.holds Tryz.pinned (OpenSpec.ofChange fnExactScanPlantSpec)

/-- ITS FALSE NEIGHBOUR: 'it returns false'. Refute it at one input. -/
def fnExactScanPlantWrong : ChangeSpec := { name := "fnExactScanPlant", fn := fun _ => fun
  | [d1, d2] => { results := [.lit (.bool false)], args := [d1, d2] }
  | _ => none }
def FnExactScanPlantWrongFalsely : Prop := fnExactScanPlantRow.holds Tryz.pinned (OpenSpec.ofChange fnExactScanPlantWrong)

/-- 'laws.FnExactRunPlant': WHATEVER THE INPUT: true; the input reads as it did. -/
def fnExactRunPlantSpec : ChangeSpec := { name := "fnExactRunPlant", fn := fun _ => fun
  | [d1, d2] => { results := [.lit (.bool true)], args := [d1, d2] }
  | _ => none }
def fnExactRunPlantRow : OpenClaim := { program := "ytfglckpbconanaagreat", sum := "4942793e3f806cf41427617cecd6de34ec10542eed1f17fefc6e467e33d22a30", func := "loop.example/g00251/laws.FnExactRunPlant", spec := "fnExactRunPlant", unfollowed := true, recurses := true, apart := false }
def FnExactRunPlantSaid : Prop := fnExactRunPlantRow.holds Tryz.pinned (OpenSpec.ofChange fnExactRunPlantSpec)

/-- ITS FALSE NEIGHBOUR: 'it returns false'. Refute it at one input. -/
def fnExactRunPlantWrong : ChangeSpec := { name := "fnExactRunPlant", fn := fun _ => fun
  | [d1, d2] => { results := [.lit (.bool false)], args := [d1, d2] }
  | _ => none }
def FnExactRunPlantWrongFalsely : Prop := fnExactRunPlantRow.holds Tryz.pinned (OpenSpec.ofChange fnExactRunPlantWrong)

/- THE SECOND FORM. 'bulk': how many values and letters a reading holds, each counted each time it is reached (what is shared counts as often as it is met; a slice's spare places count too). A statement '..UptoSaid' is the law's where the arguments, and the package variables that the reading takes, are together of bulk at most 1048576: NARROWER than '..Said'. Prove '..Said' where nothing that the law and all that it calls make is longer than what came in: it says more and counts as full. Else prove '..UptoSaid'. A law counts once. -/
mutual
def uptoBulk {H : Type} : DataW H → Nat
  | .lit (.string bytes) => bytes.length + 1
  | .lit _ => 1
  | .nil => 1
  | .ptr d => uptoBulk d + 1
  | .slice elems spare => uptoBulkAll elems + uptoBulkAll spare + 1
  | .agg parts => uptoBulkAll parts + 1
  | .iface _ d => uptoBulk d + 1
  | .map entries => uptoBulkEntries entries + 1
  | .held _ => 1
def uptoBulkAll {H : Type} : List (DataW H) → Nat
  | [] => 0
  | d :: r => uptoBulk d + uptoBulkAll r
def uptoBulkEntries {H : Type} : List (Lit × DataW H) → Nat
  | [] => 0
  | x :: r => uptoBulkEntry x + uptoBulkEntries r
def uptoBulkEntry {H : Type} : Lit × DataW H → Nat
  | (.string bytes, d) => bytes.length + uptoBulk d + 1
  | (_, d) => uptoBulk d + 1
 end
def uptoSmall : (H : Type) → List (DataW H) → Bool := fun _ ds => decide (uptoBulkAll ds ≤ 1048576)
def OpenSpec.upto (s : _root_.Go.ChangeSpec) : _root_.Go.OpenSpec := { _root_.Go.OpenSpec.ofChange s with cond := some uptoSmall }

/-- 'laws.FnExactScanChan', WHERE WHAT IT READS IS OF BULK AT MOST 1048576: true; the input reads as it did. -/
def fnExactScanChanUptoRow : OpenClaim := { program := "ytfglckpbconanaagreat", sum := "4942793e3f806cf41427617cecd6de34ec10542eed1f17fefc6e467e33d22a30", func := "loop.example/g00251/laws.FnExactScanChan", spec := "fnExactScanChan", unfollowed := true, recurses := true, apart := false, narrowed := true }
def FnExactScanChanUptoSaid : Prop := fnExactScanChanUptoRow.holds Tryz.pinned (OpenSpec.upto fnExactScanChanSpec)

/-- 'laws.FnExactScanPlant', WHERE WHAT IT READS IS OF BULK AT MOST 1048576: true; the input reads as it did. -/
def fnExactScanPlantUptoRow : OpenClaim := { program := "ytfglckpbconanaagreat", sum := "4942793e3f806cf41427617cecd6de34ec10542eed1f17fefc6e467e33d22a30", func := "loop.example/g00251/laws.FnExactScanPlant", spec := "fnExactScanPlant", unfollowed := true, recurses := true, apart := false, narrowed := true }
def FnExactScanPlantUptoSaid : Prop := fnExactScanPlantUptoRow.holds Tryz.pinned (OpenSpec.upto fnExactScanPlantSpec)

/-- 'laws.FnExactRunPlant', WHERE WHAT IT READS IS OF BULK AT MOST 1048576: true; the input reads as it did. -/
def fnExactRunPlantUptoRow : OpenClaim := { program := "ytfglckpbconanaagreat", sum := "4942793e3f806cf41427617cecd6de34ec10542eed1f17fefc6e467e33d22a30", func := "loop.example/g00251/laws.FnExactRunPlant", spec := "fnExactRunPlant", unfollowed := true, recurses := true, apart := false, narrowed := true }
def FnExactRunPlantUptoSaid : Prop := fnExactRunPlantUptoRow.holds Tryz.pinned (OpenSpec.upto fnExactRunPlantSpec)

end Rows
end Go.Proofs.YtfglckpbconanaaGreat
