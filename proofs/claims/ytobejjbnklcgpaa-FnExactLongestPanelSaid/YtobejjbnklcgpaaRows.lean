/-
  No cell of these rows narrows 'for every input' (looked for: loops, veiled, ifaces, maps, wideKeys, modest, calm, conditions, laid).
  DERIVED. THE GIVEN ROWS OF THIS SEAT. 12 by the template 'for every input the law returns true; each argument reads behind the call as it read before'; 0 by the template 'total and deterministic' (their statements: YtobejjbnklcgpaaTotals.lean).
  GIVEN WITH THE SEED: the statements are not yours to turn. If you find one false, say at which input.
  Laid BY PROGRAM, IN A SANDBOX (cutbox-rows.mjs): the forced cells as the released guide's own fill.sh prints them over the translation c40b38b87dbc5287… (all of the seat's roots in one cut). By AI agents, Wed Nov 11 2026. No macro, syntax, notation, axiom, sorry.
-/
import Derived.Test.YtobejjbnklcgpaaChecked
import GoSem.Claim
import GoSem.ClaimJoined
import GoSem.ClaimMapViews
import Derived.JoinedTies
import Derived.KernelRfl
namespace Go.Proofs.Ytobejjbnklcgpaa
/- THE CELL 'sum', in the pinned program and in every row, IS THE sha256 OF THE DUMP (.gsa) THAT YtobejjbnklcgpaaProg.lean LOADS. Nothing in Lean hashes anything: it is a label: what it is worth is what the hold of that sum in a sandbox is worth. -/
noncomputable def Try.pinned : Pinned := { name := "ytobejjbnklcgpaa", sum := "c40b38b87dbc5287cf6a929909326e73f8f81120fb18ffde4bde9750222baa58", checked := Try.checked }
namespace Rows
def none {H : Type} : Left H := { results := [], args := [] }

/-- 'laws.FnExactTurnPanels': WHATEVER THE INPUT: true; the input reads as it did. -/
def fnExactTurnPanelsSpec : ChangeSpec := { name := "fnExactTurnPanels", fn := fun _ => fun
  | [d] => { results := [.lit (.bool true)], args := [d] }
  | _ => none }
def fnExactTurnPanelsRow : OpenClaim := { program := "ytobejjbnklcgpaa", sum := "c40b38b87dbc5287cf6a929909326e73f8f81120fb18ffde4bde9750222baa58", func := "loop.example/g01044/laws.FnExactTurnPanels", spec := "fnExactTurnPanels", apart := false }
def FnExactTurnPanelsSaid : Prop := fnExactTurnPanelsRow.holds Try.pinned (OpenSpec.ofChange fnExactTurnPanelsSpec)

/-- ITS FALSE NEIGHBOUR: 'it returns false'. Refute it at one input. -/
def fnExactTurnPanelsWrong : ChangeSpec := { name := "fnExactTurnPanels", fn := fun _ => fun
  | [d] => { results := [.lit (.bool false)], args := [d] }
  | _ => none }
def FnExactTurnPanelsWrongFalsely : Prop := fnExactTurnPanelsRow.holds Try.pinned (OpenSpec.ofChange fnExactTurnPanelsWrong)

/-- 'laws.FnExactValidBolts': WHATEVER THE INPUT: true; the input reads as it did. -/
def fnExactValidBoltsSpec : ChangeSpec := { name := "fnExactValidBolts", fn := fun _ => fun
  | [d] => { results := [.lit (.bool true)], args := [d] }
  | _ => none }
def fnExactValidBoltsRow : OpenClaim := { program := "ytobejjbnklcgpaa", sum := "c40b38b87dbc5287cf6a929909326e73f8f81120fb18ffde4bde9750222baa58", func := "loop.example/g01044/laws.FnExactValidBolts", spec := "fnExactValidBolts", apart := false }
def FnExactValidBoltsSaid : Prop := fnExactValidBoltsRow.holds Try.pinned (OpenSpec.ofChange fnExactValidBoltsSpec)

/-- ITS FALSE NEIGHBOUR: 'it returns false'. Refute it at one input. -/
def fnExactValidBoltsWrong : ChangeSpec := { name := "fnExactValidBolts", fn := fun _ => fun
  | [d] => { results := [.lit (.bool false)], args := [d] }
  | _ => none }
def FnExactValidBoltsWrongFalsely : Prop := fnExactValidBoltsRow.holds Try.pinned (OpenSpec.ofChange fnExactValidBoltsWrong)

/-- 'laws.FnExactEvenReefing': WHATEVER THE INPUT: true; the input reads as it did. -/
def fnExactEvenReefingSpec : ChangeSpec := { name := "fnExactEvenReefing", fn := fun _ => fun
  | [d1, d2] => { results := [.lit (.bool true)], args := [d1, d2] }
  | _ => none }
def fnExactEvenReefingRow : OpenClaim := { program := "ytobejjbnklcgpaa", sum := "c40b38b87dbc5287cf6a929909326e73f8f81120fb18ffde4bde9750222baa58", func := "loop.example/g01044/laws.FnExactEvenReefing", spec := "fnExactEvenReefing", apart := false }
def FnExactEvenReefingSaid : Prop := fnExactEvenReefingRow.holds Try.pinned (OpenSpec.ofChange fnExactEvenReefingSpec)

/-- ITS FALSE NEIGHBOUR: 'it returns false'. Refute it at one input. -/
def fnExactEvenReefingWrong : ChangeSpec := { name := "fnExactEvenReefing", fn := fun _ => fun
  | [d1, d2] => { results := [.lit (.bool false)], args := [d1, d2] }
  | _ => none }
def FnExactEvenReefingWrongFalsely : Prop := fnExactEvenReefingRow.holds Try.pinned (OpenSpec.ofChange fnExactEvenReefingWrong)

/-- 'laws.FnBroadSeams': WHATEVER THE INPUT: true; the input reads as it did. -/
def fnBroadSeamsSpec : ChangeSpec := { name := "fnBroadSeams", fn := fun _ => fun
  | [d] => { results := [.lit (.bool true)], args := [d] }
  | _ => none }
def fnBroadSeamsRow : OpenClaim := { program := "ytobejjbnklcgpaa", sum := "c40b38b87dbc5287cf6a929909326e73f8f81120fb18ffde4bde9750222baa58", func := "loop.example/g01044/laws.FnBroadSeams", spec := "fnBroadSeams", apart := false }
def FnBroadSeamsSaid : Prop := fnBroadSeamsRow.holds Try.pinned (OpenSpec.ofChange fnBroadSeamsSpec)

/-- ITS FALSE NEIGHBOUR: 'it returns false'. Refute it at one input. -/
def fnBroadSeamsWrong : ChangeSpec := { name := "fnBroadSeams", fn := fun _ => fun
  | [d] => { results := [.lit (.bool false)], args := [d] }
  | _ => none }
def FnBroadSeamsWrongFalsely : Prop := fnBroadSeamsRow.holds Try.pinned (OpenSpec.ofChange fnBroadSeamsWrong)

/-- 'laws.FnExactSoundParts': WHATEVER THE INPUT: true; the input reads as it did. -/
def fnExactSoundPartsSpec : ChangeSpec := { name := "fnExactSoundParts", fn := fun _ => fun
  | [d] => { results := [.lit (.bool true)], args := [d] }
  | _ => none }
def fnExactSoundPartsRow : OpenClaim := { program := "ytobejjbnklcgpaa", sum := "c40b38b87dbc5287cf6a929909326e73f8f81120fb18ffde4bde9750222baa58", func := "loop.example/g01044/laws.FnExactSoundParts", spec := "fnExactSoundParts", apart := false }
def FnExactSoundPartsSaid : Prop := fnExactSoundPartsRow.holds Try.pinned (OpenSpec.ofChange fnExactSoundPartsSpec)

/-- ITS FALSE NEIGHBOUR: 'it returns false'. Refute it at one input. -/
def fnExactSoundPartsWrong : ChangeSpec := { name := "fnExactSoundParts", fn := fun _ => fun
  | [d] => { results := [.lit (.bool false)], args := [d] }
  | _ => none }
def FnExactSoundPartsWrongFalsely : Prop := fnExactSoundPartsRow.holds Try.pinned (OpenSpec.ofChange fnExactSoundPartsWrong)

/-- 'laws.FnExactNeededReefs': WHATEVER THE INPUT: true; the input reads as it did. -/
def fnExactNeededReefsSpec : ChangeSpec := { name := "fnExactNeededReefs", fn := fun _ => fun
  | [d1, d2] => { results := [.lit (.bool true)], args := [d1, d2] }
  | _ => none }
def fnExactNeededReefsRow : OpenClaim := { program := "ytobejjbnklcgpaa", sum := "c40b38b87dbc5287cf6a929909326e73f8f81120fb18ffde4bde9750222baa58", func := "loop.example/g01044/laws.FnExactNeededReefs", spec := "fnExactNeededReefs", apart := false }
def FnExactNeededReefsSaid : Prop := fnExactNeededReefsRow.holds Try.pinned (OpenSpec.ofChange fnExactNeededReefsSpec)

/-- ITS FALSE NEIGHBOUR: 'it returns false'. Refute it at one input. -/
def fnExactNeededReefsWrong : ChangeSpec := { name := "fnExactNeededReefs", fn := fun _ => fun
  | [d1, d2] => { results := [.lit (.bool false)], args := [d1, d2] }
  | _ => none }
def FnExactNeededReefsWrongFalsely : Prop := fnExactNeededReefsRow.holds Try.pinned (OpenSpec.ofChange fnExactNeededReefsWrong)

/-- 'laws.FnExactNextReef': WHATEVER THE INPUT: true; the input reads as it did. -/
def fnExactNextReefSpec : ChangeSpec := { name := "fnExactNextReef", fn := fun _ => fun
  | [d1, d2, d3] => { results := [.lit (.bool true)], args := [d1, d2, d3] }
  | _ => none }
def fnExactNextReefRow : OpenClaim := { program := "ytobejjbnklcgpaa", sum := "c40b38b87dbc5287cf6a929909326e73f8f81120fb18ffde4bde9750222baa58", func := "loop.example/g01044/laws.FnExactNextReef", spec := "fnExactNextReef", apart := false }
def FnExactNextReefSaid : Prop := fnExactNextReefRow.holds Try.pinned (OpenSpec.ofChange fnExactNextReefSpec)

/-- ITS FALSE NEIGHBOUR: 'it returns false'. Refute it at one input. -/
def fnExactNextReefWrong : ChangeSpec := { name := "fnExactNextReef", fn := fun _ => fun
  | [d1, d2, d3] => { results := [.lit (.bool false)], args := [d1, d2, d3] }
  | _ => none }
def FnExactNextReefWrongFalsely : Prop := fnExactNextReefRow.holds Try.pinned (OpenSpec.ofChange fnExactNextReefWrong)

/-- 'laws.FnExactSamePlan': WHATEVER THE INPUT: true; the input reads as it did. -/
def fnExactSamePlanSpec : ChangeSpec := { name := "fnExactSamePlan", fn := fun _ => fun
  | [d1, d2] => { results := [.lit (.bool true)], args := [d1, d2] }
  | _ => none }
def fnExactSamePlanRow : OpenClaim := { program := "ytobejjbnklcgpaa", sum := "c40b38b87dbc5287cf6a929909326e73f8f81120fb18ffde4bde9750222baa58", func := "loop.example/g01044/laws.FnExactSamePlan", spec := "fnExactSamePlan", apart := false }
def FnExactSamePlanSaid : Prop := fnExactSamePlanRow.holds Try.pinned (OpenSpec.ofChange fnExactSamePlanSpec)

/-- ITS FALSE NEIGHBOUR: 'it returns false'. Refute it at one input. -/
def fnExactSamePlanWrong : ChangeSpec := { name := "fnExactSamePlan", fn := fun _ => fun
  | [d1, d2] => { results := [.lit (.bool false)], args := [d1, d2] }
  | _ => none }
def FnExactSamePlanWrongFalsely : Prop := fnExactSamePlanRow.holds Try.pinned (OpenSpec.ofChange fnExactSamePlanWrong)

/-- 'laws.FnExactLeastGap': WHATEVER THE INPUT: true; the input reads as it did. -/
def fnExactLeastGapSpec : ChangeSpec := { name := "fnExactLeastGap", fn := fun _ => fun
  | [d1, d2, d3, d4] => { results := [.lit (.bool true)], args := [d1, d2, d3, d4] }
  | _ => none }
def fnExactLeastGapRow : OpenClaim := { program := "ytobejjbnklcgpaa", sum := "c40b38b87dbc5287cf6a929909326e73f8f81120fb18ffde4bde9750222baa58", func := "loop.example/g01044/laws.FnExactLeastGap", spec := "fnExactLeastGap", apart := false }
def FnExactLeastGapSaid : Prop := fnExactLeastGapRow.holds Try.pinned (OpenSpec.ofChange fnExactLeastGapSpec)

/-- ITS FALSE NEIGHBOUR: 'it returns false'. Refute it at one input. -/
def fnExactLeastGapWrong : ChangeSpec := { name := "fnExactLeastGap", fn := fun _ => fun
  | [d1, d2, d3, d4] => { results := [.lit (.bool false)], args := [d1, d2, d3, d4] }
  | _ => none }
def FnExactLeastGapWrongFalsely : Prop := fnExactLeastGapRow.holds Try.pinned (OpenSpec.ofChange fnExactLeastGapWrong)

/-- 'laws.FnExactRunReefs': WHATEVER THE INPUT: true; the input reads as it did. -/
def fnExactRunReefsSpec : ChangeSpec := { name := "fnExactRunReefs", fn := fun _ => fun
  | [d1, d2, d3] => { results := [.lit (.bool true)], args := [d1, d2, d3] }
  | _ => none }
def fnExactRunReefsRow : OpenClaim := { program := "ytobejjbnklcgpaa", sum := "c40b38b87dbc5287cf6a929909326e73f8f81120fb18ffde4bde9750222baa58", func := "loop.example/g01044/laws.FnExactRunReefs", spec := "fnExactRunReefs", apart := false }
def FnExactRunReefsSaid : Prop := fnExactRunReefsRow.holds Try.pinned (OpenSpec.ofChange fnExactRunReefsSpec)

/-- ITS FALSE NEIGHBOUR: 'it returns false'. Refute it at one input. -/
def fnExactRunReefsWrong : ChangeSpec := { name := "fnExactRunReefs", fn := fun _ => fun
  | [d1, d2, d3] => { results := [.lit (.bool false)], args := [d1, d2, d3] }
  | _ => none }
def FnExactRunReefsWrongFalsely : Prop := fnExactRunReefsRow.holds Try.pinned (OpenSpec.ofChange fnExactRunReefsWrong)

/-- 'laws.FnExactLongestPanel': WHATEVER THE INPUT: true; the input reads as it did. -/
def fnExactLongestPanelSpec : ChangeSpec := { name := "fnExactLongestPanel", fn := fun _ => fun
  | [d] => { results := [.lit (.bool true)], args := [d] }
  | _ => none }
def fnExactLongestPanelRow : OpenClaim := { program := "ytobejjbnklcgpaa", sum := "c40b38b87dbc5287cf6a929909326e73f8f81120fb18ffde4bde9750222baa58", func := "loop.example/g01044/laws.FnExactLongestPanel", spec := "fnExactLongestPanel", apart := false }
def FnExactLongestPanelSaid : Prop := fnExactLongestPanelRow.holds Try.pinned (OpenSpec.ofChange fnExactLongestPanelSpec)

/-- ITS FALSE NEIGHBOUR: 'it returns false'. Refute it at one input. -/
def fnExactLongestPanelWrong : ChangeSpec := { name := "fnExactLongestPanel", fn := fun _ => fun
  | [d] => { results := [.lit (.bool false)], args := [d] }
  | _ => none }
def FnExactLongestPanelWrongFalsely : Prop := fnExactLongestPanelRow.holds Try.pinned (OpenSpec.ofChange fnExactLongestPanelWrong)

/-- 'laws.FnExactCountChanges': WHATEVER THE INPUT: true; the input reads as it did. -/
def fnExactCountChangesSpec : ChangeSpec := { name := "fnExactCountChanges", fn := fun _ => fun
  | [d1, d2, d3] => { results := [.lit (.bool true)], args := [d1, d2, d3] }
  | _ => none }
def fnExactCountChangesRow : OpenClaim := { program := "ytobejjbnklcgpaa", sum := "c40b38b87dbc5287cf6a929909326e73f8f81120fb18ffde4bde9750222baa58", func := "loop.example/g01044/laws.FnExactCountChanges", spec := "fnExactCountChanges", apart := false }
def FnExactCountChangesSaid : Prop := fnExactCountChangesRow.holds Try.pinned (OpenSpec.ofChange fnExactCountChangesSpec)

/-- ITS FALSE NEIGHBOUR: 'it returns false'. Refute it at one input. -/
def fnExactCountChangesWrong : ChangeSpec := { name := "fnExactCountChanges", fn := fun _ => fun
  | [d1, d2, d3] => { results := [.lit (.bool false)], args := [d1, d2, d3] }
  | _ => none }
def FnExactCountChangesWrongFalsely : Prop := fnExactCountChangesRow.holds Try.pinned (OpenSpec.ofChange fnExactCountChangesWrong)

/- THE SECOND FORM. 'bulk': how many values and letters a reading holds, each counted each time it is reached (what is shared counts as often as it is met; a slice's spare places count too). A statement '..UptoSaid' is the law's where the arguments, and the package variables that the reading takes, are together of bulk at most 1048576: NARROWER than '..Said'. Prove '..Said' where nothing that the law and all that it calls make is longer than what came in: it says more and counts as full. Else prove '..UptoSaid'. A law counts once. -/
mutual
def uptoBulk {H : Type} : DataW H → Nat
  | .lit (.string bytes) => bytes.length + 1
  | .lit _ => 1
  | .nil => 1
  | .ptr d => uptoBulk d + 1
  | .slice elems spare => uptoBulkAll elems + uptoBulkAll spare + 1
  | .agg parts => uptoBulkAll parts + 1
  | .iface _ d => uptoBulk d + 1
  | .map entries => uptoBulkEntries entries + 1
  | .held _ => 1
def uptoBulkAll {H : Type} : List (DataW H) → Nat
  | [] => 0
  | d :: r => uptoBulk d + uptoBulkAll r
def uptoBulkEntries {H : Type} : List (Lit × DataW H) → Nat
  | [] => 0
  | x :: r => uptoBulkEntry x + uptoBulkEntries r
def uptoBulkEntry {H : Type} : Lit × DataW H → Nat
  | (.string bytes, d) => bytes.length + uptoBulk d + 1
  | (_, d) => uptoBulk d + 1
 end
def uptoSmall : (H : Type) → List (DataW H) → Bool := fun _ ds => decide (uptoBulkAll ds ≤ 1048576)
def OpenSpec.upto (s : _root_.Go.ChangeSpec) : _root_.Go.OpenSpec := { _root_.Go.OpenSpec.ofChange s with cond := some uptoSmall }

/-- 'laws.FnExactTurnPanels', WHERE WHAT IT READS IS OF BULK AT MOST 1048576: true; the input reads as it did. -/
def fnExactTurnPanelsUptoRow : OpenClaim := { program := "ytobejjbnklcgpaa", sum := "c40b38b87dbc5287cf6a929909326e73f8f81120fb18ffde4bde9750222baa58", func := "loop.example/g01044/laws.FnExactTurnPanels", spec := "fnExactTurnPanels", apart := false, narrowed := true }
def FnExactTurnPanelsUptoSaid : Prop := fnExactTurnPanelsUptoRow.holds Try.pinned (OpenSpec.upto fnExactTurnPanelsSpec)

/-- 'laws.FnExactValidBolts', WHERE WHAT IT READS IS OF BULK AT MOST 1048576: true; the input reads as it did. -/
def fnExactValidBoltsUptoRow : OpenClaim := { program := "ytobejjbnklcgpaa", sum := "c40b38b87dbc5287cf6a929909326e73f8f81120fb18ffde4bde9750222baa58", func := "loop.example/g01044/laws.FnExactValidBolts", spec := "fnExactValidBolts", apart := false, narrowed := true }
def FnExactValidBoltsUptoSaid : Prop := fnExactValidBoltsUptoRow.holds Try.pinned (OpenSpec.upto fnExactValidBoltsSpec)

/-- 'laws.FnExactEvenReefing', WHERE WHAT IT READS IS OF BULK AT MOST 1048576: true; the input reads as it did. -/
def fnExactEvenReefingUptoRow : OpenClaim := { program := "ytobejjbnklcgpaa", sum := "c40b38b87dbc5287cf6a929909326e73f8f81120fb18ffde4bde9750222baa58", func := "loop.example/g01044/laws.FnExactEvenReefing", spec := "fnExactEvenReefing", apart := false, narrowed := true }
def FnExactEvenReefingUptoSaid : Prop := fnExactEvenReefingUptoRow.holds Try.pinned (OpenSpec.upto fnExactEvenReefingSpec)

/-- 'laws.FnBroadSeams', WHERE WHAT IT READS IS OF BULK AT MOST 1048576: true; the input reads as it did. -/
def fnBroadSeamsUptoRow : OpenClaim := { program := "ytobejjbnklcgpaa", sum := "c40b38b87dbc5287cf6a929909326e73f8f81120fb18ffde4bde9750222baa58", func := "loop.example/g01044/laws.FnBroadSeams", spec := "fnBroadSeams", apart := false, narrowed := true }
def FnBroadSeamsUptoSaid : Prop := fnBroadSeamsUptoRow.holds Try.pinned (OpenSpec.upto fnBroadSeamsSpec)

/-- 'laws.FnExactSoundParts', WHERE WHAT IT READS IS OF BULK AT MOST 1048576: true; the input reads as it did. -/
def fnExactSoundPartsUptoRow : OpenClaim := { program := "ytobejjbnklcgpaa", sum := "c40b38b87dbc5287cf6a929909326e73f8f81120fb18ffde4bde9750222baa58", func := "loop.example/g01044/laws.FnExactSoundParts", spec := "fnExactSoundParts", apart := false, narrowed := true }
def FnExactSoundPartsUptoSaid : Prop := fnExactSoundPartsUptoRow.holds Try.pinned (OpenSpec.upto fnExactSoundPartsSpec)

/-- 'laws.FnExactNeededReefs', WHERE WHAT IT READS IS OF BULK AT MOST 1048576: true; the input reads as it did. -/
def fnExactNeededReefsUptoRow : OpenClaim := { program := "ytobejjbnklcgpaa", sum := "c40b38b87dbc5287cf6a929909326e73f8f81120fb18ffde4bde9750222baa58", func := "loop.example/g01044/laws.FnExactNeededReefs", spec := "fnExactNeededReefs", apart := false, narrowed := true }
def FnExactNeededReefsUptoSaid : Prop := fnExactNeededReefsUptoRow.holds Try.pinned (OpenSpec.upto fnExactNeededReefsSpec)

/-- 'laws.FnExactNextReef', WHERE WHAT IT READS IS OF BULK AT MOST 1048576: true; the input reads as it did. -/
def fnExactNextReefUptoRow : OpenClaim := { program := "ytobejjbnklcgpaa", sum := "c40b38b87dbc5287cf6a929909326e73f8f81120fb18ffde4bde9750222baa58", func := "loop.example/g01044/laws.FnExactNextReef", spec := "fnExactNextReef", apart := false, narrowed := true }
def FnExactNextReefUptoSaid : Prop := fnExactNextReefUptoRow.holds Try.pinned (OpenSpec.upto fnExactNextReefSpec)

/-- 'laws.FnExactSamePlan', WHERE WHAT IT READS IS OF BULK AT MOST 1048576: true; the input reads as it did. -/
def fnExactSamePlanUptoRow : OpenClaim := { program := "ytobejjbnklcgpaa", sum := "c40b38b87dbc5287cf6a929909326e73f8f81120fb18ffde4bde9750222baa58", func := "loop.example/g01044/laws.FnExactSamePlan", spec := "fnExactSamePlan", apart := false, narrowed := true }
def FnExactSamePlanUptoSaid : Prop := fnExactSamePlanUptoRow.holds Try.pinned (OpenSpec.upto fnExactSamePlanSpec)

/-- 'laws.FnExactLeastGap', WHERE WHAT IT READS IS OF BULK AT MOST 1048576: true; the input reads as it did. -/
def fnExactLeastGapUptoRow : OpenClaim := { program := "ytobejjbnklcgpaa", sum := "c40b38b87dbc5287cf6a929909326e73f8f81120fb18ffde4bde9750222baa58", func := "loop.example/g01044/laws.FnExactLeastGap", spec := "fnExactLeastGap", apart := false, narrowed := true }
def FnExactLeastGapUptoSaid : Prop := fnExactLeastGapUptoRow.holds Try.pinned (OpenSpec.upto fnExactLeastGapSpec)

/-- 'laws.FnExactRunReefs', WHERE WHAT IT READS IS OF BULK AT MOST 1048576: true; the input reads as it did. -/
def fnExactRunReefsUptoRow : OpenClaim := { program := "ytobejjbnklcgpaa", sum := "c40b38b87dbc5287cf6a929909326e73f8f81120fb18ffde4bde9750222baa58", func := "loop.example/g01044/laws.FnExactRunReefs", spec := "fnExactRunReefs", apart := false, narrowed := true }
def FnExactRunReefsUptoSaid : Prop := fnExactRunReefsUptoRow.holds Try.pinned (OpenSpec.upto fnExactRunReefsSpec)

/-- 'laws.FnExactLongestPanel', WHERE WHAT IT READS IS OF BULK AT MOST 1048576: true; the input reads as it did. -/
def fnExactLongestPanelUptoRow : OpenClaim := { program := "ytobejjbnklcgpaa", sum := "c40b38b87dbc5287cf6a929909326e73f8f81120fb18ffde4bde9750222baa58", func := "loop.example/g01044/laws.FnExactLongestPanel", spec := "fnExactLongestPanel", apart := false, narrowed := true }
def FnExactLongestPanelUptoSaid : Prop := fnExactLongestPanelUptoRow.holds Try.pinned (OpenSpec.upto fnExactLongestPanelSpec)

/-- 'laws.FnExactCountChanges', WHERE WHAT IT READS IS OF BULK AT MOST 1048576: true; the input reads as it did. -/
def fnExactCountChangesUptoRow : OpenClaim := { program := "ytobejjbnklcgpaa", sum := "c40b38b87dbc5287cf6a929909326e73f8f81120fb18ffde4bde9750222baa58", func := "loop.example/g01044/laws.FnExactCountChanges", spec := "fnExactCountChanges", apart := false, narrowed := true }
def FnExactCountChangesUptoSaid : Prop := fnExactCountChangesUptoRow.holds Try.pinned (OpenSpec.upto fnExactCountChangesSpec)

end Rows
end Go.Proofs.Ytobejjbnklcgpaa
