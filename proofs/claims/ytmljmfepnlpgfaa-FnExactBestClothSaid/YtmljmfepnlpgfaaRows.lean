/-
  No cell of these rows narrows 'for every input' (looked for: loops, veiled, ifaces, maps, wideKeys, modest, calm, conditions, laid).
  DERIVED. THE GIVEN ROWS OF THIS SEAT. 5 by the template 'for every input the law returns true; each argument reads behind the call as it read before'; 0 by the template 'total and deterministic' (their statements: YtmljmfepnlpgfaaTotals.lean).
  GIVEN WITH THE SEED: the statements are not yours to turn. If you find one false, say at which input.
  Laid BY PROGRAM, IN A SANDBOX (cutbox-rows.mjs): the forced cells as the released guide's own fill.sh prints them over the translation aff623c93b340765… (all of the seat's roots in one cut). By AI agents, Wed Nov 11 2026. No macro, syntax, notation, axiom, sorry.
-/
import Derived.Test.YtmljmfepnlpgfaaChecked
import GoSem.Claim
import GoSem.ClaimJoined
import GoSem.ClaimMapViews
import Derived.JoinedTies
import Derived.KernelRfl
namespace Go.Proofs.Ytmljmfepnlpgfaa
/- THE CELL 'sum', in the pinned program and in every row, IS THE sha256 OF THE DUMP (.gsa) THAT YtmljmfepnlpgfaaProg.lean LOADS. Nothing in Lean hashes anything: it is a label: what it is worth is what the hold of that sum in a sandbox is worth. -/
noncomputable def Try.pinned : Pinned := { name := "ytmljmfepnlpgfaa", sum := "aff623c93b340765f35ea5eeec2a254c7dd7249075cc01401077edc0409cd11f", checked := Try.checked }
namespace Rows
def none {H : Type} : Left H := { results := [], args := [] }

/-- 'laws.FnExactCountPanels': WHATEVER THE INPUT: true; the input reads as it did. -/
def fnExactCountPanelsSpec : ChangeSpec := { name := "fnExactCountPanels", fn := fun _ => fun
  | [d1, d2] => { results := [.lit (.bool true)], args := [d1, d2] }
  | _ => none }
def fnExactCountPanelsRow : OpenClaim := { program := "ytmljmfepnlpgfaa", sum := "aff623c93b340765f35ea5eeec2a254c7dd7249075cc01401077edc0409cd11f", func := "loop.example/g01044/laws.FnExactCountPanels", spec := "fnExactCountPanels", apart := false }
def FnExactCountPanelsSaid : Prop := fnExactCountPanelsRow.holds Try.pinned (OpenSpec.ofChange fnExactCountPanelsSpec)

/-- ITS FALSE NEIGHBOUR: 'it returns false'. Refute it at one input. -/
def fnExactCountPanelsWrong : ChangeSpec := { name := "fnExactCountPanels", fn := fun _ => fun
  | [d1, d2] => { results := [.lit (.bool false)], args := [d1, d2] }
  | _ => none }
def FnExactCountPanelsWrongFalsely : Prop := fnExactCountPanelsRow.holds Try.pinned (OpenSpec.ofChange fnExactCountPanelsWrong)

/-- 'laws.FnExactPanelEdges': WHATEVER THE INPUT: true; the input reads as it did. -/
def fnExactPanelEdgesSpec : ChangeSpec := { name := "fnExactPanelEdges", fn := fun _ => fun
  | [d1, d2] => { results := [.lit (.bool true)], args := [d1, d2] }
  | _ => none }
def fnExactPanelEdgesRow : OpenClaim := { program := "ytmljmfepnlpgfaa", sum := "aff623c93b340765f35ea5eeec2a254c7dd7249075cc01401077edc0409cd11f", func := "loop.example/g01044/laws.FnExactPanelEdges", spec := "fnExactPanelEdges", apart := false }
def FnExactPanelEdgesSaid : Prop := fnExactPanelEdgesRow.holds Try.pinned (OpenSpec.ofChange fnExactPanelEdgesSpec)

/-- ITS FALSE NEIGHBOUR: 'it returns false'. Refute it at one input. -/
def fnExactPanelEdgesWrong : ChangeSpec := { name := "fnExactPanelEdges", fn := fun _ => fun
  | [d1, d2] => { results := [.lit (.bool false)], args := [d1, d2] }
  | _ => none }
def FnExactPanelEdgesWrongFalsely : Prop := fnExactPanelEdgesRow.holds Try.pinned (OpenSpec.ofChange fnExactPanelEdgesWrong)

/-- 'laws.FnExactWasteOfPanels': WHATEVER THE INPUT: true; the input reads as it did. -/
def fnExactWasteOfPanelsSpec : ChangeSpec := { name := "fnExactWasteOfPanels", fn := fun _ => fun
  | [d1, d2] => { results := [.lit (.bool true)], args := [d1, d2] }
  | _ => none }
def fnExactWasteOfPanelsRow : OpenClaim := { program := "ytmljmfepnlpgfaa", sum := "aff623c93b340765f35ea5eeec2a254c7dd7249075cc01401077edc0409cd11f", func := "loop.example/g01044/laws.FnExactWasteOfPanels", spec := "fnExactWasteOfPanels", unfollowed := true, recurses := true, apart := false }
def FnExactWasteOfPanelsSaid : Prop := fnExactWasteOfPanelsRow.holds Try.pinned (OpenSpec.ofChange fnExactWasteOfPanelsSpec)

/-- ITS FALSE NEIGHBOUR: 'it returns false'. Refute it at one input. -/
def fnExactWasteOfPanelsWrong : ChangeSpec := { name := "fnExactWasteOfPanels", fn := fun _ => fun
  | [d1, d2] => { results := [.lit (.bool false)], args := [d1, d2] }
  | _ => none }
def FnExactWasteOfPanelsWrongFalsely : Prop := fnExactWasteOfPanelsRow.holds Try.pinned (OpenSpec.ofChange fnExactWasteOfPanelsWrong)

/-- 'laws.FnExactPanelsOf': WHATEVER THE INPUT: true; the input reads as it did. -/
def fnExactPanelsOfSpec : ChangeSpec := { name := "fnExactPanelsOf", fn := fun _ => fun
  | [d1, d2] => { results := [.lit (.bool true)], args := [d1, d2] }
  | _ => none }
def fnExactPanelsOfRow : OpenClaim := { program := "ytmljmfepnlpgfaa", sum := "aff623c93b340765f35ea5eeec2a254c7dd7249075cc01401077edc0409cd11f", func := "loop.example/g01044/laws.FnExactPanelsOf", spec := "fnExactPanelsOf", unfollowed := true, recurses := true, apart := false }
def FnExactPanelsOfSaid : Prop := fnExactPanelsOfRow.holds Try.pinned (OpenSpec.ofChange fnExactPanelsOfSpec)

/-- ITS FALSE NEIGHBOUR: 'it returns false'. Refute it at one input. -/
def fnExactPanelsOfWrong : ChangeSpec := { name := "fnExactPanelsOf", fn := fun _ => fun
  | [d1, d2] => { results := [.lit (.bool false)], args := [d1, d2] }
  | _ => none }
def FnExactPanelsOfWrongFalsely : Prop := fnExactPanelsOfRow.holds Try.pinned (OpenSpec.ofChange fnExactPanelsOfWrong)

/-- 'laws.FnExactBestCloth': WHATEVER THE INPUT: true; the input reads as it did. -/
def fnExactBestClothSpec : ChangeSpec := { name := "fnExactBestCloth", fn := fun _ => fun
  | [d1, d2, d3] => { results := [.lit (.bool true)], args := [d1, d2, d3] }
  | _ => none }
def fnExactBestClothRow : OpenClaim := { program := "ytmljmfepnlpgfaa", sum := "aff623c93b340765f35ea5eeec2a254c7dd7249075cc01401077edc0409cd11f", func := "loop.example/g01044/laws.FnExactBestCloth", spec := "fnExactBestCloth", unfollowed := true, recurses := true, apart := false }
def FnExactBestClothSaid : Prop := fnExactBestClothRow.holds Try.pinned (OpenSpec.ofChange fnExactBestClothSpec)

/-- ITS FALSE NEIGHBOUR: 'it returns false'. Refute it at one input. -/
def fnExactBestClothWrong : ChangeSpec := { name := "fnExactBestCloth", fn := fun _ => fun
  | [d1, d2, d3] => { results := [.lit (.bool false)], args := [d1, d2, d3] }
  | _ => none }
def FnExactBestClothWrongFalsely : Prop := fnExactBestClothRow.holds Try.pinned (OpenSpec.ofChange fnExactBestClothWrong)

/- THE SECOND FORM. 'bulk': how many values and letters a reading holds, each counted each time it is reached (what is shared counts as often as it is met; a slice's spare places count too). A statement '..UptoSaid' is the law's where the arguments, and the package variables that the reading takes, are together of bulk at most 1048576: NARROWER than '..Said'. Prove '..Said' where nothing that the law and all that it calls make is longer than what came in: it says more and counts as full. Else prove '..UptoSaid'. A law counts once. -/
mutual
def uptoBulk {H : Type} : DataW H → Nat
  | .lit (.string bytes) => bytes.length + 1
  | .lit _ => 1
  | .nil => 1
  | .ptr d => uptoBulk d + 1
  | .slice elems spare => uptoBulkAll elems + uptoBulkAll spare + 1
  | .agg parts => uptoBulkAll parts + 1
  | .iface _ d => uptoBulk d + 1
  | .map entries => uptoBulkEntries entries + 1
  | .held _ => 1
def uptoBulkAll {H : Type} : List (DataW H) → Nat
  | [] => 0
  | d :: r => uptoBulk d + uptoBulkAll r
def uptoBulkEntries {H : Type} : List (Lit × DataW H) → Nat
  | [] => 0
  | x :: r => uptoBulkEntry x + uptoBulkEntries r
def uptoBulkEntry {H : Type} : Lit × DataW H → Nat
  | (.string bytes, d) => bytes.length + uptoBulk d + 1
  | (_, d) => uptoBulk d + 1
 end
def uptoSmall : (H : Type) → List (DataW H) → Bool := fun _ ds => decide (uptoBulkAll ds ≤ 1048576)
def OpenSpec.upto (s : _root_.Go.ChangeSpec) : _root_.Go.OpenSpec := { _root_.Go.OpenSpec.ofChange s with cond := some uptoSmall }

/-- 'laws.FnExactCountPanels', WHERE WHAT IT READS IS OF BULK AT MOST 1048576: true; the input reads as it did. -/
def fnExactCountPanelsUptoRow : OpenClaim := { program := "ytmljmfepnlpgfaa", sum := "aff623c93b340765f35ea5eeec2a254c7dd7249075cc01401077edc0409cd11f", func := "loop.example/g01044/laws.FnExactCountPanels", spec := "fnExactCountPanels", apart := false, narrowed := true }
def FnExactCountPanelsUptoSaid : Prop := fnExactCountPanelsUptoRow.holds Try.pinned (OpenSpec.upto fnExactCountPanelsSpec)

/-- 'laws.FnExactPanelEdges', WHERE WHAT IT READS IS OF BULK AT MOST 1048576: true; the input reads as it did. -/
def fnExactPanelEdgesUptoRow : OpenClaim := { program := "ytmljmfepnlpgfaa", sum := "aff623c93b340765f35ea5eeec2a254c7dd7249075cc01401077edc0409cd11f", func := "loop.example/g01044/laws.FnExactPanelEdges", spec := "fnExactPanelEdges", apart := false, narrowed := true }
def FnExactPanelEdgesUptoSaid : Prop := fnExactPanelEdgesUptoRow.holds Try.pinned (OpenSpec.upto fnExactPanelEdgesSpec)

/-- 'laws.FnExactWasteOfPanels', WHERE WHAT IT READS IS OF BULK AT MOST 1048576: true; the input reads as it did. -/
def fnExactWasteOfPanelsUptoRow : OpenClaim := { program := "ytmljmfepnlpgfaa", sum := "aff623c93b340765f35ea5eeec2a254c7dd7249075cc01401077edc0409cd11f", func := "loop.example/g01044/laws.FnExactWasteOfPanels", spec := "fnExactWasteOfPanels", unfollowed := true, recurses := true, apart := false, narrowed := true }
def FnExactWasteOfPanelsUptoSaid : Prop := fnExactWasteOfPanelsUptoRow.holds Try.pinned (OpenSpec.upto fnExactWasteOfPanelsSpec)

/-- 'laws.FnExactPanelsOf', WHERE WHAT IT READS IS OF BULK AT MOST 1048576: true; the input reads as it did. -/
def fnExactPanelsOfUptoRow : OpenClaim := { program := "ytmljmfepnlpgfaa", sum := "aff623c93b340765f35ea5eeec2a254c7dd7249075cc01401077edc0409cd11f", func := "loop.example/g01044/laws.FnExactPanelsOf", spec := "fnExactPanelsOf", unfollowed := true, recurses := true, apart := false, narrowed := true }
def FnExactPanelsOfUptoSaid : Prop := fnExactPanelsOfUptoRow.holds Try.pinned (OpenSpec.upto fnExactPanelsOfSpec)

/-- 'laws.FnExactBestCloth', WHERE WHAT IT READS IS OF BULK AT MOST 1048576: true; the input reads as it did. -/
def fnExactBestClothUptoRow : OpenClaim := { program := "ytmljmfepnlpgfaa", sum := "aff623c93b340765f35ea5eeec2a254c7dd7249075cc01401077edc0409cd11f", func := "loop.example/g01044/laws.FnExactBestCloth", spec := "fnExactBestCloth", unfollowed := true, recurses := true, apart := false, narrowed := true }
def FnExactBestClothUptoSaid : Prop := fnExactBestClothUptoRow.holds Try.pinned (OpenSpec.upto fnExactBestClothSpec)

end Rows
end Go.Proofs.Ytmljmfepnlpgfaa
