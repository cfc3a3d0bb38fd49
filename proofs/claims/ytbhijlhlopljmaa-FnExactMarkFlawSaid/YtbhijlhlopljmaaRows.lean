/-
  No cell of these rows narrows 'for every input' (looked for: loops, veiled, ifaces, maps, wideKeys, modest, calm, conditions, laid).
  DERIVED. THE GIVEN ROWS OF THIS SEAT. 8 by the template 'for every input the law returns true; each argument reads behind the call as it read before'; 0 by the template 'total and deterministic' (their statements: YtbhijlhlopljmaaTotals.lean).
  GIVEN WITH THE SEED: the statements are not yours to turn. If you find one false, say at which input.
  Laid BY PROGRAM, IN A SANDBOX (cutbox-rows.mjs): the forced cells as the released guide's own fill.sh prints them over the translation 65d9e2b5b3ab7e41… (all of the seat's roots in one cut). By AI agents, Wed Nov 11 2026. No macro, syntax, notation, axiom, sorry.
-/
import Derived.Test.YtbhijlhlopljmaaChecked
import GoSem.Claim
import GoSem.ClaimJoined
import GoSem.ClaimMapViews
import Derived.JoinedTies
import Derived.KernelRfl
namespace Go.Proofs.Ytbhijlhlopljmaa
/- THE CELL 'sum', in the pinned program and in every row, IS THE sha256 OF THE DUMP (.gsa) THAT YtbhijlhlopljmaaProg.lean LOADS. Nothing in Lean hashes anything: it is a label: what it is worth is what the hold of that sum in a sandbox is worth. -/
noncomputable def Try.pinned : Pinned := { name := "ytbhijlhlopljmaa", sum := "65d9e2b5b3ab7e4110af8f6b3b7a6dc4ac3bc588875900ab41c5a27af533fe80", checked := Try.checked }
namespace Rows
def none {H : Type} : Left H := { results := [], args := [] }

/-- 'laws.FnExactTooManyReefs': WHATEVER THE INPUT: true; the input reads as it did. -/
def fnExactTooManyReefsSpec : ChangeSpec := { name := "fnExactTooManyReefs", fn := fun _ => fun
  | [d1, d2, d3] => { results := [.lit (.bool true)], args := [d1, d2, d3] }
  | _ => none }
def fnExactTooManyReefsRow : OpenClaim := { program := "ytbhijlhlopljmaa", sum := "65d9e2b5b3ab7e4110af8f6b3b7a6dc4ac3bc588875900ab41c5a27af533fe80", func := "loop.example/g01044/laws.FnExactTooManyReefs", spec := "fnExactTooManyReefs", apart := false }
def FnExactTooManyReefsSaid : Prop := fnExactTooManyReefsRow.holds Try.pinned (OpenSpec.ofChange fnExactTooManyReefsSpec)

/-- ITS FALSE NEIGHBOUR: 'it returns false'. Refute it at one input. -/
def fnExactTooManyReefsWrong : ChangeSpec := { name := "fnExactTooManyReefs", fn := fun _ => fun
  | [d1, d2, d3] => { results := [.lit (.bool false)], args := [d1, d2, d3] }
  | _ => none }
def FnExactTooManyReefsWrongFalsely : Prop := fnExactTooManyReefsRow.holds Try.pinned (OpenSpec.ofChange fnExactTooManyReefsWrong)

/-- 'laws.FnExactSameRig': WHATEVER THE INPUT: true; the input reads as it did. -/
def fnExactSameRigSpec : ChangeSpec := { name := "fnExactSameRig", fn := fun _ => fun
  | [d1, d2] => { results := [.lit (.bool true)], args := [d1, d2] }
  | _ => none }
def fnExactSameRigRow : OpenClaim := { program := "ytbhijlhlopljmaa", sum := "65d9e2b5b3ab7e4110af8f6b3b7a6dc4ac3bc588875900ab41c5a27af533fe80", func := "loop.example/g01044/laws.FnExactSameRig", spec := "fnExactSameRig", apart := false }
def FnExactSameRigSaid : Prop := fnExactSameRigRow.holds Try.pinned (OpenSpec.ofChange fnExactSameRigSpec)

/-- ITS FALSE NEIGHBOUR: 'it returns false'. Refute it at one input. -/
def fnExactSameRigWrong : ChangeSpec := { name := "fnExactSameRig", fn := fun _ => fun
  | [d1, d2] => { results := [.lit (.bool false)], args := [d1, d2] }
  | _ => none }
def FnExactSameRigWrongFalsely : Prop := fnExactSameRigRow.holds Try.pinned (OpenSpec.ofChange fnExactSameRigWrong)

/-- 'laws.FnReefGaps': WHATEVER THE INPUT: true; the input reads as it did. -/
def fnReefGapsSpec : ChangeSpec := { name := "fnReefGaps", fn := fun _ => fun
  | [d1, d2] => { results := [.lit (.bool true)], args := [d1, d2] }
  | _ => none }
def fnReefGapsRow : OpenClaim := { program := "ytbhijlhlopljmaa", sum := "65d9e2b5b3ab7e4110af8f6b3b7a6dc4ac3bc588875900ab41c5a27af533fe80", func := "loop.example/g01044/laws.FnReefGaps", spec := "fnReefGaps", apart := false }
def FnReefGapsSaid : Prop := fnReefGapsRow.holds Try.pinned (OpenSpec.ofChange fnReefGapsSpec)

/-- ITS FALSE NEIGHBOUR: 'it returns false'. Refute it at one input. -/
def fnReefGapsWrong : ChangeSpec := { name := "fnReefGaps", fn := fun _ => fun
  | [d1, d2] => { results := [.lit (.bool false)], args := [d1, d2] }
  | _ => none }
def FnReefGapsWrongFalsely : Prop := fnReefGapsRow.holds Try.pinned (OpenSpec.ofChange fnReefGapsWrong)

/-- 'laws.FnExactPieceFault': WHATEVER THE INPUT: true; the input reads as it did. -/
def fnExactPieceFaultSpec : ChangeSpec := { name := "fnExactPieceFault", fn := fun _ => fun
  | [d1, d2, d3] => { results := [.lit (.bool true)], args := [d1, d2, d3] }
  | _ => none }
def fnExactPieceFaultRow : OpenClaim := { program := "ytbhijlhlopljmaa", sum := "65d9e2b5b3ab7e4110af8f6b3b7a6dc4ac3bc588875900ab41c5a27af533fe80", func := "loop.example/g01044/laws.FnExactPieceFault", spec := "fnExactPieceFault", apart := false }
def FnExactPieceFaultSaid : Prop := fnExactPieceFaultRow.holds Try.pinned (OpenSpec.ofChange fnExactPieceFaultSpec)

/-- ITS FALSE NEIGHBOUR: 'it returns false'. Refute it at one input. -/
def fnExactPieceFaultWrong : ChangeSpec := { name := "fnExactPieceFault", fn := fun _ => fun
  | [d1, d2, d3] => { results := [.lit (.bool false)], args := [d1, d2, d3] }
  | _ => none }
def FnExactPieceFaultWrongFalsely : Prop := fnExactPieceFaultRow.holds Try.pinned (OpenSpec.ofChange fnExactPieceFaultWrong)

/-- 'laws.FnExactFirstPlaces': WHATEVER THE INPUT: true; the input reads as it did. -/
def fnExactFirstPlacesSpec : ChangeSpec := { name := "fnExactFirstPlaces", fn := fun _ => fun
  | [d1, d2] => { results := [.lit (.bool true)], args := [d1, d2] }
  | _ => none }
def fnExactFirstPlacesRow : OpenClaim := { program := "ytbhijlhlopljmaa", sum := "65d9e2b5b3ab7e4110af8f6b3b7a6dc4ac3bc588875900ab41c5a27af533fe80", func := "loop.example/g01044/laws.FnExactFirstPlaces", spec := "fnExactFirstPlaces", unfollowed := true, recurses := true, apart := false }
def FnExactFirstPlacesSaid : Prop := fnExactFirstPlacesRow.holds Try.pinned (OpenSpec.ofChange fnExactFirstPlacesSpec)

/-- ITS FALSE NEIGHBOUR: 'it returns false'. Refute it at one input. -/
def fnExactFirstPlacesWrong : ChangeSpec := { name := "fnExactFirstPlaces", fn := fun _ => fun
  | [d1, d2] => { results := [.lit (.bool false)], args := [d1, d2] }
  | _ => none }
def FnExactFirstPlacesWrongFalsely : Prop := fnExactFirstPlacesRow.holds Try.pinned (OpenSpec.ofChange fnExactFirstPlacesWrong)

/-- 'laws.FnExactClothLeft': WHATEVER THE INPUT: true; the input reads as it did. -/
def fnExactClothLeftSpec : ChangeSpec := { name := "fnExactClothLeft", fn := fun _ => fun
  | [d1, d2, d3] => { results := [.lit (.bool true)], args := [d1, d2, d3] }
  | _ => none }
def fnExactClothLeftRow : OpenClaim := { program := "ytbhijlhlopljmaa", sum := "65d9e2b5b3ab7e4110af8f6b3b7a6dc4ac3bc588875900ab41c5a27af533fe80", func := "loop.example/g01044/laws.FnExactClothLeft", spec := "fnExactClothLeft", apart := false }
def FnExactClothLeftSaid : Prop := fnExactClothLeftRow.holds Try.pinned (OpenSpec.ofChange fnExactClothLeftSpec)

/-- ITS FALSE NEIGHBOUR: 'it returns false'. Refute it at one input. -/
def fnExactClothLeftWrong : ChangeSpec := { name := "fnExactClothLeft", fn := fun _ => fun
  | [d1, d2, d3] => { results := [.lit (.bool false)], args := [d1, d2, d3] }
  | _ => none }
def FnExactClothLeftWrongFalsely : Prop := fnExactClothLeftRow.holds Try.pinned (OpenSpec.ofChange fnExactClothLeftWrong)

/-- 'laws.FnExactMarkFlaw': WHATEVER THE INPUT: true; the input reads as it did. -/
def fnExactMarkFlawSpec : ChangeSpec := { name := "fnExactMarkFlaw", fn := fun _ => fun
  | [d1, d2] => { results := [.lit (.bool true)], args := [d1, d2] }
  | _ => none }
def fnExactMarkFlawRow : OpenClaim := { program := "ytbhijlhlopljmaa", sum := "65d9e2b5b3ab7e4110af8f6b3b7a6dc4ac3bc588875900ab41c5a27af533fe80", func := "loop.example/g01044/laws.FnExactMarkFlaw", spec := "fnExactMarkFlaw", recurses := true, apart := false }
def FnExactMarkFlawSaid : Prop := fnExactMarkFlawRow.holds Try.pinned (OpenSpec.ofChange fnExactMarkFlawSpec)

/-- ITS FALSE NEIGHBOUR: 'it returns false'. Refute it at one input. -/
def fnExactMarkFlawWrong : ChangeSpec := { name := "fnExactMarkFlaw", fn := fun _ => fun
  | [d1, d2] => { results := [.lit (.bool false)], args := [d1, d2] }
  | _ => none }
def FnExactMarkFlawWrongFalsely : Prop := fnExactMarkFlawRow.holds Try.pinned (OpenSpec.ofChange fnExactMarkFlawWrong)

/-- 'laws.FnFlaws': WHATEVER THE INPUT: true; the input reads as it did. -/
def fnFlawsSpec : ChangeSpec := { name := "fnFlaws", fn := fun _ => fun
  | [d1, d2] => { results := [.lit (.bool true)], args := [d1, d2] }
  | _ => none }
def fnFlawsRow : OpenClaim := { program := "ytbhijlhlopljmaa", sum := "65d9e2b5b3ab7e4110af8f6b3b7a6dc4ac3bc588875900ab41c5a27af533fe80", func := "loop.example/g01044/laws.FnFlaws", spec := "fnFlaws", recurses := true, apart := false }
def FnFlawsSaid : Prop := fnFlawsRow.holds Try.pinned (OpenSpec.ofChange fnFlawsSpec)

/-- ITS FALSE NEIGHBOUR: 'it returns false'. Refute it at one input. -/
def fnFlawsWrong : ChangeSpec := { name := "fnFlaws", fn := fun _ => fun
  | [d1, d2] => { results := [.lit (.bool false)], args := [d1, d2] }
  | _ => none }
def FnFlawsWrongFalsely : Prop := fnFlawsRow.holds Try.pinned (OpenSpec.ofChange fnFlawsWrong)

/- THE SECOND FORM. 'bulk': how many values and letters a reading holds, each counted each time it is reached (what is shared counts as often as it is met; a slice's spare places count too). A statement '..UptoSaid' is the law's where the arguments, and the package variables that the reading takes, are together of bulk at most 1048576: NARROWER than '..Said'. Prove '..Said' where nothing that the law and all that it calls make is longer than what came in: it says more and counts as full. Else prove '..UptoSaid'. A law counts once. -/
mutual
def uptoBulk {H : Type} : DataW H → Nat
  | .lit (.string bytes) => bytes.length + 1
  | .lit _ => 1
  | .nil => 1
  | .ptr d => uptoBulk d + 1
  | .slice elems spare => uptoBulkAll elems + uptoBulkAll spare + 1
  | .agg parts => uptoBulkAll parts + 1
  | .iface _ d => uptoBulk d + 1
  | .map entries => uptoBulkEntries entries + 1
  | .held _ => 1
def uptoBulkAll {H : Type} : List (DataW H) → Nat
  | [] => 0
  | d :: r => uptoBulk d + uptoBulkAll r
def uptoBulkEntries {H : Type} : List (Lit × DataW H) → Nat
  | [] => 0
  | x :: r => uptoBulkEntry x + uptoBulkEntries r
def uptoBulkEntry {H : Type} : Lit × DataW H → Nat
  | (.string bytes, d) => bytes.length + uptoBulk d + 1
  | (_, d) => uptoBulk d + 1
 end
def uptoSmall : (H : Type) → List (DataW H) → Bool := fun _ ds => decide (uptoBulkAll ds ≤ 1048576)
def OpenSpec.upto (s : _root_.Go.ChangeSpec) : _root_.Go.OpenSpec := { _root_.Go.OpenSpec.ofChange s with cond := some uptoSmall }

/-- 'laws.FnExactTooManyReefs', WHERE WHAT IT READS IS OF BULK AT MOST 1048576: true; the input reads as it did. -/
def fnExactTooManyReefsUptoRow : OpenClaim := { program := "ytbhijlhlopljmaa", sum := "65d9e2b5b3ab7e4110af8f6b3b7a6dc4ac3bc588875900ab41c5a27af533fe80", func := "loop.example/g01044/laws.FnExactTooManyReefs", spec := "fnExactTooManyReefs", apart := false, narrowed := true }
def FnExactTooManyReefsUptoSaid : Prop := fnExactTooManyReefsUptoRow.holds Try.pinned (OpenSpec.upto fnExactTooManyReefsSpec)

/-- 'laws.FnExactSameRig', WHERE WHAT IT READS IS OF BULK AT MOST 1048576: true; the input reads as it did. -/
def fnExactSameRigUptoRow : OpenClaim := { program := "ytbhijlhlopljmaa", sum := "65d9e2b5b3ab7e4110af8f6b3b7a6dc4ac3bc588875900ab41c5a27af533fe80", func := "loop.example/g01044/laws.FnExactSameRig", spec := "fnExactSameRig", apart := false, narrowed := true }
def FnExactSameRigUptoSaid : Prop := fnExactSameRigUptoRow.holds Try.pinned (OpenSpec.upto fnExactSameRigSpec)

/-- 'laws.FnReefGaps', WHERE WHAT IT READS IS OF BULK AT MOST 1048576: true; the input reads as it did. -/
def fnReefGapsUptoRow : OpenClaim := { program := "ytbhijlhlopljmaa", sum := "65d9e2b5b3ab7e4110af8f6b3b7a6dc4ac3bc588875900ab41c5a27af533fe80", func := "loop.example/g01044/laws.FnReefGaps", spec := "fnReefGaps", apart := false, narrowed := true }
def FnReefGapsUptoSaid : Prop := fnReefGapsUptoRow.holds Try.pinned (OpenSpec.upto fnReefGapsSpec)

/-- 'laws.FnExactPieceFault', WHERE WHAT IT READS IS OF BULK AT MOST 1048576: true; the input reads as it did. -/
def fnExactPieceFaultUptoRow : OpenClaim := { program := "ytbhijlhlopljmaa", sum := "65d9e2b5b3ab7e4110af8f6b3b7a6dc4ac3bc588875900ab41c5a27af533fe80", func := "loop.example/g01044/laws.FnExactPieceFault", spec := "fnExactPieceFault", apart := false, narrowed := true }
def FnExactPieceFaultUptoSaid : Prop := fnExactPieceFaultUptoRow.holds Try.pinned (OpenSpec.upto fnExactPieceFaultSpec)

/-- 'laws.FnExactFirstPlaces', WHERE WHAT IT READS IS OF BULK AT MOST 1048576: true; the input reads as it did. -/
def fnExactFirstPlacesUptoRow : OpenClaim := { program := "ytbhijlhlopljmaa", sum := "65d9e2b5b3ab7e4110af8f6b3b7a6dc4ac3bc588875900ab41c5a27af533fe80", func := "loop.example/g01044/laws.FnExactFirstPlaces", spec := "fnExactFirstPlaces", unfollowed := true, recurses := true, apart := false, narrowed := true }
def FnExactFirstPlacesUptoSaid : Prop := fnExactFirstPlacesUptoRow.holds Try.pinned (OpenSpec.upto fnExactFirstPlacesSpec)

/-- 'laws.FnExactClothLeft', WHERE WHAT IT READS IS OF BULK AT MOST 1048576: true; the input reads as it did. -/
def fnExactClothLeftUptoRow : OpenClaim := { program := "ytbhijlhlopljmaa", sum := "65d9e2b5b3ab7e4110af8f6b3b7a6dc4ac3bc588875900ab41c5a27af533fe80", func := "loop.example/g01044/laws.FnExactClothLeft", spec := "fnExactClothLeft", apart := false, narrowed := true }
def FnExactClothLeftUptoSaid : Prop := fnExactClothLeftUptoRow.holds Try.pinned (OpenSpec.upto fnExactClothLeftSpec)

/-- 'laws.FnExactMarkFlaw', WHERE WHAT IT READS IS OF BULK AT MOST 1048576: true; the input reads as it did. -/
def fnExactMarkFlawUptoRow : OpenClaim := { program := "ytbhijlhlopljmaa", sum := "65d9e2b5b3ab7e4110af8f6b3b7a6dc4ac3bc588875900ab41c5a27af533fe80", func := "loop.example/g01044/laws.FnExactMarkFlaw", spec := "fnExactMarkFlaw", recurses := true, apart := false, narrowed := true }
def FnExactMarkFlawUptoSaid : Prop := fnExactMarkFlawUptoRow.holds Try.pinned (OpenSpec.upto fnExactMarkFlawSpec)

/-- 'laws.FnFlaws', WHERE WHAT IT READS IS OF BULK AT MOST 1048576: true; the input reads as it did. -/
def fnFlawsUptoRow : OpenClaim := { program := "ytbhijlhlopljmaa", sum := "65d9e2b5b3ab7e4110af8f6b3b7a6dc4ac3bc588875900ab41c5a27af533fe80", func := "loop.example/g01044/laws.FnFlaws", spec := "fnFlaws", recurses := true, apart := false, narrowed := true }
def FnFlawsUptoSaid : Prop := fnFlawsUptoRow.holds Try.pinned (OpenSpec.upto fnFlawsSpec)

end Rows
end Go.Proofs.Ytbhijlhlopljmaa
