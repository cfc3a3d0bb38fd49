/-
  No cell of these rows narrows 'for every input' (looked for: loops, veiled, ifaces, maps, wideKeys, modest, calm, conditions, laid).
  DERIVED. THE GIVEN ROWS OF THIS SEAT. 6 by the template 'for every input the law returns true; each argument reads behind the call as it read before'; 0 by the template 'total and deterministic' (their statements: YtjehpokkbekapaaTotals.lean).
  GIVEN WITH THE SEED: the statements are not yours to turn. If you find one false, say at which input.
  Laid BY PROGRAM, IN A SANDBOX (cutbox-rows.mjs): the forced cells as the released guide's own fill.sh prints them over the translation 7a5efedc1d78392c… (all of the seat's roots in one cut). By AI agents, Wed Nov 11 2026. No macro, syntax, notation, axiom, sorry.
-/
import Derived.Test.YtjehpokkbekapaaChecked
import GoSem.Claim
import GoSem.ClaimJoined
import GoSem.ClaimMapViews
import Derived.JoinedTies
import Derived.KernelRfl
namespace Go.Proofs.Ytjehpokkbekapaa
/- THE CELL 'sum', in the pinned program and in every row, IS THE sha256 OF THE DUMP (.gsa) THAT YtjehpokkbekapaaProg.lean LOADS. Nothing in Lean hashes anything: it is a label: what it is worth is what the hold of that sum in a sandbox is worth. -/
noncomputable def Try.pinned : Pinned := { name := "ytjehpokkbekapaa", sum := "7a5efedc1d78392ce79b0eef344062149b62092e02feadb0ab1f59e72a293cac", checked := Try.checked }
namespace Rows
def none {H : Type} : Left H := { results := [], args := [] }

/-- 'laws.FnExactClothWidths': WHATEVER THE INPUT: true; the input reads as it did. -/
def fnExactClothWidthsSpec : ChangeSpec := { name := "fnExactClothWidths", fn := fun _ => fun
  | [d1, d2, d3] => { results := [.lit (.bool true)], args := [d1, d2, d3] }
  | _ => none }
def fnExactClothWidthsRow : OpenClaim := { program := "ytjehpokkbekapaa", sum := "7a5efedc1d78392ce79b0eef344062149b62092e02feadb0ab1f59e72a293cac", func := "loop.example/g01044/laws.FnExactClothWidths", spec := "fnExactClothWidths", apart := false }
def FnExactClothWidthsSaid : Prop := fnExactClothWidthsRow.holds Try.pinned (OpenSpec.ofChange fnExactClothWidthsSpec)

/-- ITS FALSE NEIGHBOUR: 'it returns false'. Refute it at one input. -/
def fnExactClothWidthsWrong : ChangeSpec := { name := "fnExactClothWidths", fn := fun _ => fun
  | [d1, d2, d3] => { results := [.lit (.bool false)], args := [d1, d2, d3] }
  | _ => none }
def FnExactClothWidthsWrongFalsely : Prop := fnExactClothWidthsRow.holds Try.pinned (OpenSpec.ofChange fnExactClothWidthsWrong)

/-- 'laws.FnExactValidPanels': WHATEVER THE INPUT: true; the input reads as it did. -/
def fnExactValidPanelsSpec : ChangeSpec := { name := "fnExactValidPanels", fn := fun _ => fun
  | [d] => { results := [.lit (.bool true)], args := [d] }
  | _ => none }
def fnExactValidPanelsRow : OpenClaim := { program := "ytjehpokkbekapaa", sum := "7a5efedc1d78392ce79b0eef344062149b62092e02feadb0ab1f59e72a293cac", func := "loop.example/g01044/laws.FnExactValidPanels", spec := "fnExactValidPanels", apart := false }
def FnExactValidPanelsSaid : Prop := fnExactValidPanelsRow.holds Try.pinned (OpenSpec.ofChange fnExactValidPanelsSpec)

/-- ITS FALSE NEIGHBOUR: 'it returns false'. Refute it at one input. -/
def fnExactValidPanelsWrong : ChangeSpec := { name := "fnExactValidPanels", fn := fun _ => fun
  | [d] => { results := [.lit (.bool false)], args := [d] }
  | _ => none }
def FnExactValidPanelsWrongFalsely : Prop := fnExactValidPanelsRow.holds Try.pinned (OpenSpec.ofChange fnExactValidPanelsWrong)

/-- 'laws.FnExactSamePanels': WHATEVER THE INPUT: true; the input reads as it did. -/
def fnExactSamePanelsSpec : ChangeSpec := { name := "fnExactSamePanels", fn := fun _ => fun
  | [d1, d2] => { results := [.lit (.bool true)], args := [d1, d2] }
  | _ => none }
def fnExactSamePanelsRow : OpenClaim := { program := "ytjehpokkbekapaa", sum := "7a5efedc1d78392ce79b0eef344062149b62092e02feadb0ab1f59e72a293cac", func := "loop.example/g01044/laws.FnExactSamePanels", spec := "fnExactSamePanels", apart := false }
def FnExactSamePanelsSaid : Prop := fnExactSamePanelsRow.holds Try.pinned (OpenSpec.ofChange fnExactSamePanelsSpec)

/-- ITS FALSE NEIGHBOUR: 'it returns false'. Refute it at one input. -/
def fnExactSamePanelsWrong : ChangeSpec := { name := "fnExactSamePanels", fn := fun _ => fun
  | [d1, d2] => { results := [.lit (.bool false)], args := [d1, d2] }
  | _ => none }
def FnExactSamePanelsWrongFalsely : Prop := fnExactSamePanelsRow.holds Try.pinned (OpenSpec.ofChange fnExactSamePanelsWrong)

/-- 'laws.FnExactBroadSeams': WHATEVER THE INPUT: true; the input reads as it did. -/
def fnExactBroadSeamsSpec : ChangeSpec := { name := "fnExactBroadSeams", fn := fun _ => fun
  | [d1, d2, d3] => { results := [.lit (.bool true)], args := [d1, d2, d3] }
  | _ => none }
def fnExactBroadSeamsRow : OpenClaim := { program := "ytjehpokkbekapaa", sum := "7a5efedc1d78392ce79b0eef344062149b62092e02feadb0ab1f59e72a293cac", func := "loop.example/g01044/laws.FnExactBroadSeams", spec := "fnExactBroadSeams", apart := false }
def FnExactBroadSeamsSaid : Prop := fnExactBroadSeamsRow.holds Try.pinned (OpenSpec.ofChange fnExactBroadSeamsSpec)

/-- ITS FALSE NEIGHBOUR: 'it returns false'. Refute it at one input. -/
def fnExactBroadSeamsWrong : ChangeSpec := { name := "fnExactBroadSeams", fn := fun _ => fun
  | [d1, d2, d3] => { results := [.lit (.bool false)], args := [d1, d2, d3] }
  | _ => none }
def FnExactBroadSeamsWrongFalsely : Prop := fnExactBroadSeamsRow.holds Try.pinned (OpenSpec.ofChange fnExactBroadSeamsWrong)

/-- 'laws.FnExactClothLength': WHATEVER THE INPUT: true; the input reads as it did. -/
def fnExactClothLengthSpec : ChangeSpec := { name := "fnExactClothLength", fn := fun _ => fun
  | [d] => { results := [.lit (.bool true)], args := [d] }
  | _ => none }
def fnExactClothLengthRow : OpenClaim := { program := "ytjehpokkbekapaa", sum := "7a5efedc1d78392ce79b0eef344062149b62092e02feadb0ab1f59e72a293cac", func := "loop.example/g01044/laws.FnExactClothLength", spec := "fnExactClothLength", apart := false }
def FnExactClothLengthSaid : Prop := fnExactClothLengthRow.holds Try.pinned (OpenSpec.ofChange fnExactClothLengthSpec)

/-- ITS FALSE NEIGHBOUR: 'it returns false'. Refute it at one input. -/
def fnExactClothLengthWrong : ChangeSpec := { name := "fnExactClothLength", fn := fun _ => fun
  | [d] => { results := [.lit (.bool false)], args := [d] }
  | _ => none }
def FnExactClothLengthWrongFalsely : Prop := fnExactClothLengthRow.holds Try.pinned (OpenSpec.ofChange fnExactClothLengthWrong)

/-- 'laws.FnExactValidReefing': WHATEVER THE INPUT: true; the input reads as it did. -/
def fnExactValidReefingSpec : ChangeSpec := { name := "fnExactValidReefing", fn := fun _ => fun
  | [d] => { results := [.lit (.bool true)], args := [d] }
  | _ => none }
def fnExactValidReefingRow : OpenClaim := { program := "ytjehpokkbekapaa", sum := "7a5efedc1d78392ce79b0eef344062149b62092e02feadb0ab1f59e72a293cac", func := "loop.example/g01044/laws.FnExactValidReefing", spec := "fnExactValidReefing", apart := false }
def FnExactValidReefingSaid : Prop := fnExactValidReefingRow.holds Try.pinned (OpenSpec.ofChange fnExactValidReefingSpec)

/-- ITS FALSE NEIGHBOUR: 'it returns false'. Refute it at one input. -/
def fnExactValidReefingWrong : ChangeSpec := { name := "fnExactValidReefing", fn := fun _ => fun
  | [d] => { results := [.lit (.bool false)], args := [d] }
  | _ => none }
def FnExactValidReefingWrongFalsely : Prop := fnExactValidReefingRow.holds Try.pinned (OpenSpec.ofChange fnExactValidReefingWrong)

/- THE SECOND FORM. 'bulk': how many values and letters a reading holds, each counted each time it is reached (what is shared counts as often as it is met; a slice's spare places count too). A statement '..UptoSaid' is the law's where the arguments, and the package variables that the reading takes, are together of bulk at most 1048576: NARROWER than '..Said'. Prove '..Said' where nothing that the law and all that it calls make is longer than what came in: it says more and counts as full. Else prove '..UptoSaid'. A law counts once. -/
mutual
def uptoBulk {H : Type} : DataW H → Nat
  | .lit (.string bytes) => bytes.length + 1
  | .lit _ => 1
  | .nil => 1
  | .ptr d => uptoBulk d + 1
  | .slice elems spare => uptoBulkAll elems + uptoBulkAll spare + 1
  | .agg parts => uptoBulkAll parts + 1
  | .iface _ d => uptoBulk d + 1
  | .map entries => uptoBulkEntries entries + 1
  | .held _ => 1
def uptoBulkAll {H : Type} : List (DataW H) → Nat
  | [] => 0
  | d :: r => uptoBulk d + uptoBulkAll r
def uptoBulkEntries {H : Type} : List (Lit × DataW H) → Nat
  | [] => 0
  | x :: r => uptoBulkEntry x + uptoBulkEntries r
def uptoBulkEntry {H : Type} : Lit × DataW H → Nat
  | (.string bytes, d) => bytes.length + uptoBulk d + 1
  | (_, d) => uptoBulk d + 1
 end
def uptoSmall : (H : Type) → List (DataW H) → Bool := fun _ ds => decide (uptoBulkAll ds ≤ 1048576)
def OpenSpec.upto (s : _root_.Go.ChangeSpec) : _root_.Go.OpenSpec := { _root_.Go.OpenSpec.ofChange s with cond := some uptoSmall }

/-- 'laws.FnExactClothWidths', WHERE WHAT IT READS IS OF BULK AT MOST 1048576: true; the input reads as it did. -/
def fnExactClothWidthsUptoRow : OpenClaim := { program := "ytjehpokkbekapaa", sum := "7a5efedc1d78392ce79b0eef344062149b62092e02feadb0ab1f59e72a293cac", func := "loop.example/g01044/laws.FnExactClothWidths", spec := "fnExactClothWidths", apart := false, narrowed := true }
def FnExactClothWidthsUptoSaid : Prop := fnExactClothWidthsUptoRow.holds Try.pinned (OpenSpec.upto fnExactClothWidthsSpec)

/-- 'laws.FnExactValidPanels', WHERE WHAT IT READS IS OF BULK AT MOST 1048576: true; the input reads as it did. -/
def fnExactValidPanelsUptoRow : OpenClaim := { program := "ytjehpokkbekapaa", sum := "7a5efedc1d78392ce79b0eef344062149b62092e02feadb0ab1f59e72a293cac", func := "loop.example/g01044/laws.FnExactValidPanels", spec := "fnExactValidPanels", apart := false, narrowed := true }
def FnExactValidPanelsUptoSaid : Prop := fnExactValidPanelsUptoRow.holds Try.pinned (OpenSpec.upto fnExactValidPanelsSpec)

/-- 'laws.FnExactSamePanels', WHERE WHAT IT READS IS OF BULK AT MOST 1048576: true; the input reads as it did. -/
def fnExactSamePanelsUptoRow : OpenClaim := { program := "ytjehpokkbekapaa", sum := "7a5efedc1d78392ce79b0eef344062149b62092e02feadb0ab1f59e72a293cac", func := "loop.example/g01044/laws.FnExactSamePanels", spec := "fnExactSamePanels", apart := false, narrowed := true }
def FnExactSamePanelsUptoSaid : Prop := fnExactSamePanelsUptoRow.holds Try.pinned (OpenSpec.upto fnExactSamePanelsSpec)

/-- 'laws.FnExactBroadSeams', WHERE WHAT IT READS IS OF BULK AT MOST 1048576: true; the input reads as it did. -/
def fnExactBroadSeamsUptoRow : OpenClaim := { program := "ytjehpokkbekapaa", sum := "7a5efedc1d78392ce79b0eef344062149b62092e02feadb0ab1f59e72a293cac", func := "loop.example/g01044/laws.FnExactBroadSeams", spec := "fnExactBroadSeams", apart := false, narrowed := true }
def FnExactBroadSeamsUptoSaid : Prop := fnExactBroadSeamsUptoRow.holds Try.pinned (OpenSpec.upto fnExactBroadSeamsSpec)

/-- 'laws.FnExactClothLength', WHERE WHAT IT READS IS OF BULK AT MOST 1048576: true; the input reads as it did. -/
def fnExactClothLengthUptoRow : OpenClaim := { program := "ytjehpokkbekapaa", sum := "7a5efedc1d78392ce79b0eef344062149b62092e02feadb0ab1f59e72a293cac", func := "loop.example/g01044/laws.FnExactClothLength", spec := "fnExactClothLength", apart := false, narrowed := true }
def FnExactClothLengthUptoSaid : Prop := fnExactClothLengthUptoRow.holds Try.pinned (OpenSpec.upto fnExactClothLengthSpec)

/-- 'laws.FnExactValidReefing', WHERE WHAT IT READS IS OF BULK AT MOST 1048576: true; the input reads as it did. -/
def fnExactValidReefingUptoRow : OpenClaim := { program := "ytjehpokkbekapaa", sum := "7a5efedc1d78392ce79b0eef344062149b62092e02feadb0ab1f59e72a293cac", func := "loop.example/g01044/laws.FnExactValidReefing", spec := "fnExactValidReefing", apart := false, narrowed := true }
def FnExactValidReefingUptoSaid : Prop := fnExactValidReefingUptoRow.holds Try.pinned (OpenSpec.upto fnExactValidReefingSpec)

end Rows
end Go.Proofs.Ytjehpokkbekapaa
