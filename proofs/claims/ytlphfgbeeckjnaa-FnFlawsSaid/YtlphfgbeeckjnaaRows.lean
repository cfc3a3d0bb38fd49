/-
  No cell of these rows narrows 'for every input' (looked for: loops, veiled, ifaces, maps, wideKeys, modest, calm, conditions, laid).
  DERIVED. THE GIVEN ROWS OF THIS SEAT. 8 by the template 'for every input the law returns true; each argument reads behind the call as it read before'; 0 by the template 'total and deterministic' (their statements: YtlphfgbeeckjnaaTotals.lean).
  GIVEN WITH THE SEED: the statements are not yours to turn. If you find one false, say at which input.
  Laid BY PROGRAM, IN A SANDBOX (cutbox-rows.mjs): the forced cells as the released guide's own fill.sh prints them over the translation a46752e973982ed2… (all of the seat's roots in one cut). By AI agents, Wed Nov 11 2026. No macro, syntax, notation, axiom, sorry.
-/
import Derived.Test.YtlphfgbeeckjnaaChecked
import GoSem.Claim
import GoSem.ClaimJoined
import GoSem.ClaimMapViews
import Derived.JoinedTies
import Derived.KernelRfl
namespace Go.Proofs.Ytlphfgbeeckjnaa
/- THE CELL 'sum', in the pinned program and in every row, IS THE sha256 OF THE DUMP (.gsa) THAT YtlphfgbeeckjnaaProg.lean LOADS. Nothing in Lean hashes anything: it is a label: what it is worth is what the hold of that sum in a sandbox is worth. -/
noncomputable def Try.pinned : Pinned := { name := "ytlphfgbeeckjnaa", sum := "a46752e973982ed286e526cd322324c64d95ac1b545a7dd0d91ac08606e1aa72", checked := Try.checked }
namespace Rows
def none {H : Type} : Left H := { results := [], args := [] }

/-- 'laws.FnExactSoundParts': WHATEVER THE INPUT: true; the input reads as it did. -/
def fnExactSoundPartsSpec : ChangeSpec := { name := "fnExactSoundParts", fn := fun _ => fun
  | [d] => { results := [.lit (.bool true)], args := [d] }
  | _ => none }
def fnExactSoundPartsRow : OpenClaim := { program := "ytlphfgbeeckjnaa", sum := "a46752e973982ed286e526cd322324c64d95ac1b545a7dd0d91ac08606e1aa72", func := "loop.example/g01044/laws.FnExactSoundParts", spec := "fnExactSoundParts", apart := false }
def FnExactSoundPartsSaid : Prop := fnExactSoundPartsRow.holds Try.pinned (OpenSpec.ofChange fnExactSoundPartsSpec)

/-- ITS FALSE NEIGHBOUR: 'it returns false'. Refute it at one input. -/
def fnExactSoundPartsWrong : ChangeSpec := { name := "fnExactSoundParts", fn := fun _ => fun
  | [d] => { results := [.lit (.bool false)], args := [d] }
  | _ => none }
def FnExactSoundPartsWrongFalsely : Prop := fnExactSoundPartsRow.holds Try.pinned (OpenSpec.ofChange fnExactSoundPartsWrong)

/-- 'laws.FnExactFirstPlaces': WHATEVER THE INPUT: true; the input reads as it did. -/
def fnExactFirstPlacesSpec : ChangeSpec := { name := "fnExactFirstPlaces", fn := fun _ => fun
  | [d1, d2] => { results := [.lit (.bool true)], args := [d1, d2] }
  | _ => none }
def fnExactFirstPlacesRow : OpenClaim := { program := "ytlphfgbeeckjnaa", sum := "a46752e973982ed286e526cd322324c64d95ac1b545a7dd0d91ac08606e1aa72", func := "loop.example/g01044/laws.FnExactFirstPlaces", spec := "fnExactFirstPlaces", unfollowed := true, recurses := true, apart := false }
def FnExactFirstPlacesSaid : Prop := fnExactFirstPlacesRow.holds Try.pinned (OpenSpec.ofChange fnExactFirstPlacesSpec)

/-- ITS FALSE NEIGHBOUR: 'it returns false'. Refute it at one input. -/
def fnExactFirstPlacesWrong : ChangeSpec := { name := "fnExactFirstPlaces", fn := fun _ => fun
  | [d1, d2] => { results := [.lit (.bool false)], args := [d1, d2] }
  | _ => none }
def FnExactFirstPlacesWrongFalsely : Prop := fnExactFirstPlacesRow.holds Try.pinned (OpenSpec.ofChange fnExactFirstPlacesWrong)

/-- 'laws.FnExactClothLeft': WHATEVER THE INPUT: true; the input reads as it did. -/
def fnExactClothLeftSpec : ChangeSpec := { name := "fnExactClothLeft", fn := fun _ => fun
  | [d1, d2, d3] => { results := [.lit (.bool true)], args := [d1, d2, d3] }
  | _ => none }
def fnExactClothLeftRow : OpenClaim := { program := "ytlphfgbeeckjnaa", sum := "a46752e973982ed286e526cd322324c64d95ac1b545a7dd0d91ac08606e1aa72", func := "loop.example/g01044/laws.FnExactClothLeft", spec := "fnExactClothLeft", apart := false }
def FnExactClothLeftSaid : Prop := fnExactClothLeftRow.holds Try.pinned (OpenSpec.ofChange fnExactClothLeftSpec)

/-- ITS FALSE NEIGHBOUR: 'it returns false'. Refute it at one input. -/
def fnExactClothLeftWrong : ChangeSpec := { name := "fnExactClothLeft", fn := fun _ => fun
  | [d1, d2, d3] => { results := [.lit (.bool false)], args := [d1, d2, d3] }
  | _ => none }
def FnExactClothLeftWrongFalsely : Prop := fnExactClothLeftRow.holds Try.pinned (OpenSpec.ofChange fnExactClothLeftWrong)

/-- 'laws.FnExactOverlapsOf': WHATEVER THE INPUT: true; the input reads as it did. -/
def fnExactOverlapsOfSpec : ChangeSpec := { name := "fnExactOverlapsOf", fn := fun _ => fun
  | [d] => { results := [.lit (.bool true)], args := [d] }
  | _ => none }
def fnExactOverlapsOfRow : OpenClaim := { program := "ytlphfgbeeckjnaa", sum := "a46752e973982ed286e526cd322324c64d95ac1b545a7dd0d91ac08606e1aa72", func := "loop.example/g01044/laws.FnExactOverlapsOf", spec := "fnExactOverlapsOf", unfollowed := true, recurses := true, apart := false }
def FnExactOverlapsOfSaid : Prop := fnExactOverlapsOfRow.holds Try.pinned (OpenSpec.ofChange fnExactOverlapsOfSpec)

/-- ITS FALSE NEIGHBOUR: 'it returns false'. Refute it at one input. -/
def fnExactOverlapsOfWrong : ChangeSpec := { name := "fnExactOverlapsOf", fn := fun _ => fun
  | [d] => { results := [.lit (.bool false)], args := [d] }
  | _ => none }
def FnExactOverlapsOfWrongFalsely : Prop := fnExactOverlapsOfRow.holds Try.pinned (OpenSpec.ofChange fnExactOverlapsOfWrong)

/-- 'laws.FnExactSetSail': WHATEVER THE INPUT: true; the input reads as it did. -/
def fnExactSetSailSpec : ChangeSpec := { name := "fnExactSetSail", fn := fun _ => fun
  | [d1, d2, d3] => { results := [.lit (.bool true)], args := [d1, d2, d3] }
  | _ => none }
def fnExactSetSailRow : OpenClaim := { program := "ytlphfgbeeckjnaa", sum := "a46752e973982ed286e526cd322324c64d95ac1b545a7dd0d91ac08606e1aa72", func := "loop.example/g01044/laws.FnExactSetSail", spec := "fnExactSetSail", unfollowed := true, recurses := true, apart := false }
def FnExactSetSailSaid : Prop := fnExactSetSailRow.holds Try.pinned (OpenSpec.ofChange fnExactSetSailSpec)

/-- ITS FALSE NEIGHBOUR: 'it returns false'. Refute it at one input. -/
def fnExactSetSailWrong : ChangeSpec := { name := "fnExactSetSail", fn := fun _ => fun
  | [d1, d2, d3] => { results := [.lit (.bool false)], args := [d1, d2, d3] }
  | _ => none }
def FnExactSetSailWrongFalsely : Prop := fnExactSetSailRow.holds Try.pinned (OpenSpec.ofChange fnExactSetSailWrong)

/-- 'laws.FnExactAddSail': WHATEVER THE INPUT: true; the input reads as it did. -/
def fnExactAddSailSpec : ChangeSpec := { name := "fnExactAddSail", fn := fun _ => fun
  | [d1, d2] => { results := [.lit (.bool true)], args := [d1, d2] }
  | _ => none }
def fnExactAddSailRow : OpenClaim := { program := "ytlphfgbeeckjnaa", sum := "a46752e973982ed286e526cd322324c64d95ac1b545a7dd0d91ac08606e1aa72", func := "loop.example/g01044/laws.FnExactAddSail", spec := "fnExactAddSail", unfollowed := true, recurses := true, apart := false }
def FnExactAddSailSaid : Prop := fnExactAddSailRow.holds Try.pinned (OpenSpec.ofChange fnExactAddSailSpec)

/-- ITS FALSE NEIGHBOUR: 'it returns false'. Refute it at one input. -/
def fnExactAddSailWrong : ChangeSpec := { name := "fnExactAddSail", fn := fun _ => fun
  | [d1, d2] => { results := [.lit (.bool false)], args := [d1, d2] }
  | _ => none }
def FnExactAddSailWrongFalsely : Prop := fnExactAddSailRow.holds Try.pinned (OpenSpec.ofChange fnExactAddSailWrong)

/-- 'laws.FnExactBestSails': WHATEVER THE INPUT: true; the input reads as it did. -/
def fnExactBestSailsSpec : ChangeSpec := { name := "fnExactBestSails", fn := fun _ => fun
  | [d1, d2, d3, d4] => { results := [.lit (.bool true)], args := [d1, d2, d3, d4] }
  | _ => none }
def fnExactBestSailsRow : OpenClaim := { program := "ytlphfgbeeckjnaa", sum := "a46752e973982ed286e526cd322324c64d95ac1b545a7dd0d91ac08606e1aa72", func := "loop.example/g01044/laws.FnExactBestSails", spec := "fnExactBestSails", unfollowed := true, recurses := true, apart := false }
def FnExactBestSailsSaid : Prop := fnExactBestSailsRow.holds Try.pinned (OpenSpec.ofChange fnExactBestSailsSpec)

/-- ITS FALSE NEIGHBOUR: 'it returns false'. Refute it at one input. -/
def fnExactBestSailsWrong : ChangeSpec := { name := "fnExactBestSails", fn := fun _ => fun
  | [d1, d2, d3, d4] => { results := [.lit (.bool false)], args := [d1, d2, d3, d4] }
  | _ => none }
def FnExactBestSailsWrongFalsely : Prop := fnExactBestSailsRow.holds Try.pinned (OpenSpec.ofChange fnExactBestSailsWrong)

/-- 'laws.FnFlaws': WHATEVER THE INPUT: true; the input reads as it did. -/
def fnFlawsSpec : ChangeSpec := { name := "fnFlaws", fn := fun _ => fun
  | [d1, d2] => { results := [.lit (.bool true)], args := [d1, d2] }
  | _ => none }
def fnFlawsRow : OpenClaim := { program := "ytlphfgbeeckjnaa", sum := "a46752e973982ed286e526cd322324c64d95ac1b545a7dd0d91ac08606e1aa72", func := "loop.example/g01044/laws.FnFlaws", spec := "fnFlaws", recurses := true, apart := false }
def FnFlawsSaid : Prop := fnFlawsRow.holds Try.pinned (OpenSpec.ofChange fnFlawsSpec)

/-- ITS FALSE NEIGHBOUR: 'it returns false'. Refute it at one input. -/
def fnFlawsWrong : ChangeSpec := { name := "fnFlaws", fn := fun _ => fun
  | [d1, d2] => { results := [.lit (.bool false)], args := [d1, d2] }
  | _ => none }
def FnFlawsWrongFalsely : Prop := fnFlawsRow.holds Try.pinned (OpenSpec.ofChange fnFlawsWrong)

/- THE SECOND FORM. 'bulk': how many values and letters a reading holds, each counted each time it is reached (what is shared counts as often as it is met; a slice's spare places count too). A statement '..UptoSaid' is the law's where the arguments, and the package variables that the reading takes, are together of bulk at most 1048576: NARROWER than '..Said'. Prove '..Said' where nothing that the law and all that it calls make is longer than what came in: it says more and counts as full. Else prove '..UptoSaid'. A law counts once. -/
mutual
def uptoBulk {H : Type} : DataW H → Nat
  | .lit (.string bytes) => bytes.length + 1
  | .lit _ => 1
  | .nil => 1
  | .ptr d => uptoBulk d + 1
  | .slice elems spare => uptoBulkAll elems + uptoBulkAll spare + 1
  | .agg parts => uptoBulkAll parts + 1
  | .iface _ d => uptoBulk d + 1
  | .map entries => uptoBulkEntries entries + 1
  | .held _ => 1
def uptoBulkAll {H : Type} : List (DataW H) → Nat
  | [] => 0
  | d :: r => uptoBulk d + uptoBulkAll r
def uptoBulkEntries {H : Type} : List (Lit × DataW H) → Nat
  | [] => 0
  | x :: r => uptoBulkEntry x + uptoBulkEntries r
def uptoBulkEntry {H : Type} : Lit × DataW H → Nat
  | (.string bytes, d) => bytes.length + uptoBulk d + 1
  | (_, d) => uptoBulk d + 1
 end
def uptoSmall : (H : Type) → List (DataW H) → Bool := fun _ ds => decide (uptoBulkAll ds ≤ 1048576)
def OpenSpec.upto (s : _root_.Go.ChangeSpec) : _root_.Go.OpenSpec := { _root_.Go.OpenSpec.ofChange s with cond := some uptoSmall }

/-- 'laws.FnExactSoundParts', WHERE WHAT IT READS IS OF BULK AT MOST 1048576: true; the input reads as it did. -/
def fnExactSoundPartsUptoRow : OpenClaim := { program := "ytlphfgbeeckjnaa", sum := "a46752e973982ed286e526cd322324c64d95ac1b545a7dd0d91ac08606e1aa72", func := "loop.example/g01044/laws.FnExactSoundParts", spec := "fnExactSoundParts", apart := false, narrowed := true }
def FnExactSoundPartsUptoSaid : Prop := fnExactSoundPartsUptoRow.holds Try.pinned (OpenSpec.upto fnExactSoundPartsSpec)

/-- 'laws.FnExactFirstPlaces', WHERE WHAT IT READS IS OF BULK AT MOST 1048576: true; the input reads as it did. -/
def fnExactFirstPlacesUptoRow : OpenClaim := { program := "ytlphfgbeeckjnaa", sum := "a46752e973982ed286e526cd322324c64d95ac1b545a7dd0d91ac08606e1aa72", func := "loop.example/g01044/laws.FnExactFirstPlaces", spec := "fnExactFirstPlaces", unfollowed := true, recurses := true, apart := false, narrowed := true }
def FnExactFirstPlacesUptoSaid : Prop := fnExactFirstPlacesUptoRow.holds Try.pinned (OpenSpec.upto fnExactFirstPlacesSpec)

/-- 'laws.FnExactClothLeft', WHERE WHAT IT READS IS OF BULK AT MOST 1048576: true; the input reads as it did. -/
def fnExactClothLeftUptoRow : OpenClaim := { program := "ytlphfgbeeckjnaa", sum := "a46752e973982ed286e526cd322324c64d95ac1b545a7dd0d91ac08606e1aa72", func := "loop.example/g01044/laws.FnExactClothLeft", spec := "fnExactClothLeft", apart := false, narrowed := true }
def FnExactClothLeftUptoSaid : Prop := fnExactClothLeftUptoRow.holds Try.pinned (OpenSpec.upto fnExactClothLeftSpec)

/-- 'laws.FnExactOverlapsOf', WHERE WHAT IT READS IS OF BULK AT MOST 1048576: true; the input reads as it did. -/
def fnExactOverlapsOfUptoRow : OpenClaim := { program := "ytlphfgbeeckjnaa", sum := "a46752e973982ed286e526cd322324c64d95ac1b545a7dd0d91ac08606e1aa72", func := "loop.example/g01044/laws.FnExactOverlapsOf", spec := "fnExactOverlapsOf", unfollowed := true, recurses := true, apart := false, narrowed := true }
def FnExactOverlapsOfUptoSaid : Prop := fnExactOverlapsOfUptoRow.holds Try.pinned (OpenSpec.upto fnExactOverlapsOfSpec)

/-- 'laws.FnExactSetSail', WHERE WHAT IT READS IS OF BULK AT MOST 1048576: true; the input reads as it did. -/
def fnExactSetSailUptoRow : OpenClaim := { program := "ytlphfgbeeckjnaa", sum := "a46752e973982ed286e526cd322324c64d95ac1b545a7dd0d91ac08606e1aa72", func := "loop.example/g01044/laws.FnExactSetSail", spec := "fnExactSetSail", unfollowed := true, recurses := true, apart := false, narrowed := true }
def FnExactSetSailUptoSaid : Prop := fnExactSetSailUptoRow.holds Try.pinned (OpenSpec.upto fnExactSetSailSpec)

/-- 'laws.FnExactAddSail', WHERE WHAT IT READS IS OF BULK AT MOST 1048576: true; the input reads as it did. -/
def fnExactAddSailUptoRow : OpenClaim := { program := "ytlphfgbeeckjnaa", sum := "a46752e973982ed286e526cd322324c64d95ac1b545a7dd0d91ac08606e1aa72", func := "loop.example/g01044/laws.FnExactAddSail", spec := "fnExactAddSail", unfollowed := true, recurses := true, apart := false, narrowed := true }
def FnExactAddSailUptoSaid : Prop := fnExactAddSailUptoRow.holds Try.pinned (OpenSpec.upto fnExactAddSailSpec)

/-- 'laws.FnExactBestSails', WHERE WHAT IT READS IS OF BULK AT MOST 1048576: true; the input reads as it did. -/
def fnExactBestSailsUptoRow : OpenClaim := { program := "ytlphfgbeeckjnaa", sum := "a46752e973982ed286e526cd322324c64d95ac1b545a7dd0d91ac08606e1aa72", func := "loop.example/g01044/laws.FnExactBestSails", spec := "fnExactBestSails", unfollowed := true, recurses := true, apart := false, narrowed := true }
def FnExactBestSailsUptoSaid : Prop := fnExactBestSailsUptoRow.holds Try.pinned (OpenSpec.upto fnExactBestSailsSpec)

/-- 'laws.FnFlaws', WHERE WHAT IT READS IS OF BULK AT MOST 1048576: true; the input reads as it did. -/
def fnFlawsUptoRow : OpenClaim := { program := "ytlphfgbeeckjnaa", sum := "a46752e973982ed286e526cd322324c64d95ac1b545a7dd0d91ac08606e1aa72", func := "loop.example/g01044/laws.FnFlaws", spec := "fnFlaws", recurses := true, apart := false, narrowed := true }
def FnFlawsUptoSaid : Prop := fnFlawsUptoRow.holds Try.pinned (OpenSpec.upto fnFlawsSpec)

end Rows
end Go.Proofs.Ytlphfgbeeckjnaa
