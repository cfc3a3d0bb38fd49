/-
  No cell of these rows narrows 'for every input' (looked for: loops, veiled, ifaces, maps, wideKeys, modest, calm, conditions, laid).
  DERIVED. THE GIVEN ROWS OF THIS SEAT. 7 by the template 'for every input the law returns true; each argument reads behind the call as it read before'; 0 by the template 'total and deterministic' (their statements: YtpngklefeaolfaaTotals.lean).
  GIVEN WITH THE SEED: the statements are not yours to turn. If you find one false, say at which input.
  Laid BY PROGRAM, IN A SANDBOX (cutbox-rows.mjs): the forced cells as the released guide's own fill.sh prints them over the translation 42f819a7fd5fc480… (all of the seat's roots in one cut). By AI agents, Wed Nov 11 2026. No macro, syntax, notation, axiom, sorry.
-/
import Derived.Test.YtpngklefeaolfaaChecked
import GoSem.Claim
import GoSem.ClaimJoined
import GoSem.ClaimMapViews
import Derived.JoinedTies
import Derived.KernelRfl
namespace Go.Proofs.Ytpngklefeaolfaa
/- THE CELL 'sum', in the pinned program and in every row, IS THE sha256 OF THE DUMP (.gsa) THAT YtpngklefeaolfaaProg.lean LOADS. Nothing in Lean hashes anything: it is a label: what it is worth is what the hold of that sum in a sandbox is worth. -/
noncomputable def Try.pinned : Pinned := { name := "ytpngklefeaolfaa", sum := "42f819a7fd5fc4801fa78d27b0373e7d94903f11c7371d1f998f445e81c604b0", checked := Try.checked }
namespace Rows
def none {H : Type} : Left H := { results := [], args := [] }

/-- 'laws.FnExactValidRig': WHATEVER THE INPUT: true; the input reads as it did. -/
def fnExactValidRigSpec : ChangeSpec := { name := "fnExactValidRig", fn := fun _ => fun
  | [d] => { results := [.lit (.bool true)], args := [d] }
  | _ => none }
def fnExactValidRigRow : OpenClaim := { program := "ytpngklefeaolfaa", sum := "42f819a7fd5fc4801fa78d27b0373e7d94903f11c7371d1f998f445e81c604b0", func := "loop.example/g01044/laws.FnExactValidRig", spec := "fnExactValidRig", unfollowed := true, recurses := true, apart := false }
def FnExactValidRigSaid : Prop := fnExactValidRigRow.holds Try.pinned (OpenSpec.ofChange fnExactValidRigSpec)

/-- ITS FALSE NEIGHBOUR: 'it returns false'. Refute it at one input. -/
def fnExactValidRigWrong : ChangeSpec := { name := "fnExactValidRig", fn := fun _ => fun
  | [d] => { results := [.lit (.bool false)], args := [d] }
  | _ => none }
def FnExactValidRigWrongFalsely : Prop := fnExactValidRigRow.holds Try.pinned (OpenSpec.ofChange fnExactValidRigWrong)

/-- 'laws.FnExactLineAt': WHATEVER THE INPUT: true; the input reads as it did. -/
def fnExactLineAtSpec : ChangeSpec := { name := "fnExactLineAt", fn := fun _ => fun
  | [d1, d2, d3] => { results := [.lit (.bool true)], args := [d1, d2, d3] }
  | _ => none }
def fnExactLineAtRow : OpenClaim := { program := "ytpngklefeaolfaa", sum := "42f819a7fd5fc4801fa78d27b0373e7d94903f11c7371d1f998f445e81c604b0", func := "loop.example/g01044/laws.FnExactLineAt", spec := "fnExactLineAt", unfollowed := true, recurses := true, apart := false }
def FnExactLineAtSaid : Prop := fnExactLineAtRow.holds Try.pinned (OpenSpec.ofChange fnExactLineAtSpec)

/-- ITS FALSE NEIGHBOUR: 'it returns false'. Refute it at one input. -/
def fnExactLineAtWrong : ChangeSpec := { name := "fnExactLineAt", fn := fun _ => fun
  | [d1, d2, d3] => { results := [.lit (.bool false)], args := [d1, d2, d3] }
  | _ => none }
def FnExactLineAtWrongFalsely : Prop := fnExactLineAtRow.holds Try.pinned (OpenSpec.ofChange fnExactLineAtWrong)

/-- 'laws.FnExactPinOf': WHATEVER THE INPUT: true; the input reads as it did. -/
def fnExactPinOfSpec : ChangeSpec := { name := "fnExactPinOf", fn := fun _ => fun
  | [d1, d2] => { results := [.lit (.bool true)], args := [d1, d2] }
  | _ => none }
def fnExactPinOfRow : OpenClaim := { program := "ytpngklefeaolfaa", sum := "42f819a7fd5fc4801fa78d27b0373e7d94903f11c7371d1f998f445e81c604b0", func := "loop.example/g01044/laws.FnExactPinOf", spec := "fnExactPinOf", unfollowed := true, recurses := true, apart := false }
def FnExactPinOfSaid : Prop := fnExactPinOfRow.holds Try.pinned (OpenSpec.ofChange fnExactPinOfSpec)

/-- ITS FALSE NEIGHBOUR: 'it returns false'. Refute it at one input. -/
def fnExactPinOfWrong : ChangeSpec := { name := "fnExactPinOf", fn := fun _ => fun
  | [d1, d2] => { results := [.lit (.bool false)], args := [d1, d2] }
  | _ => none }
def FnExactPinOfWrongFalsely : Prop := fnExactPinOfRow.holds Try.pinned (OpenSpec.ofChange fnExactPinOfWrong)

/-- 'laws.FnExactLooseLines': WHATEVER THE INPUT: true; the input reads as it did. -/
def fnExactLooseLinesSpec : ChangeSpec := { name := "fnExactLooseLines", fn := fun _ => fun
  | [d] => { results := [.lit (.bool true)], args := [d] }
  | _ => none }
def fnExactLooseLinesRow : OpenClaim := { program := "ytpngklefeaolfaa", sum := "42f819a7fd5fc4801fa78d27b0373e7d94903f11c7371d1f998f445e81c604b0", func := "loop.example/g01044/laws.FnExactLooseLines", spec := "fnExactLooseLines", unfollowed := true, recurses := true, apart := false }
def FnExactLooseLinesSaid : Prop := fnExactLooseLinesRow.holds Try.pinned (OpenSpec.ofChange fnExactLooseLinesSpec)

/-- ITS FALSE NEIGHBOUR: 'it returns false'. Refute it at one input. -/
def fnExactLooseLinesWrong : ChangeSpec := { name := "fnExactLooseLines", fn := fun _ => fun
  | [d] => { results := [.lit (.bool false)], args := [d] }
  | _ => none }
def FnExactLooseLinesWrongFalsely : Prop := fnExactLooseLinesRow.holds Try.pinned (OpenSpec.ofChange fnExactLooseLinesWrong)

/-- 'laws.FnExactWrongSides': WHATEVER THE INPUT: true; the input reads as it did. -/
def fnExactWrongSidesSpec : ChangeSpec := { name := "fnExactWrongSides", fn := fun _ => fun
  | [d] => { results := [.lit (.bool true)], args := [d] }
  | _ => none }
def fnExactWrongSidesRow : OpenClaim := { program := "ytpngklefeaolfaa", sum := "42f819a7fd5fc4801fa78d27b0373e7d94903f11c7371d1f998f445e81c604b0", func := "loop.example/g01044/laws.FnExactWrongSides", spec := "fnExactWrongSides", unfollowed := true, recurses := true, apart := false }
def FnExactWrongSidesSaid : Prop := fnExactWrongSidesRow.holds Try.pinned (OpenSpec.ofChange fnExactWrongSidesSpec)

/-- ITS FALSE NEIGHBOUR: 'it returns false'. Refute it at one input. -/
def fnExactWrongSidesWrong : ChangeSpec := { name := "fnExactWrongSides", fn := fun _ => fun
  | [d] => { results := [.lit (.bool false)], args := [d] }
  | _ => none }
def FnExactWrongSidesWrongFalsely : Prop := fnExactWrongSidesRow.holds Try.pinned (OpenSpec.ofChange fnExactWrongSidesWrong)

/-- 'laws.FnExactFreePins': WHATEVER THE INPUT: true; the input reads as it did. -/
def fnExactFreePinsSpec : ChangeSpec := { name := "fnExactFreePins", fn := fun _ => fun
  | [d1, d2] => { results := [.lit (.bool true)], args := [d1, d2] }
  | _ => none }
def fnExactFreePinsRow : OpenClaim := { program := "ytpngklefeaolfaa", sum := "42f819a7fd5fc4801fa78d27b0373e7d94903f11c7371d1f998f445e81c604b0", func := "loop.example/g01044/laws.FnExactFreePins", spec := "fnExactFreePins", unfollowed := true, recurses := true, apart := false }
def FnExactFreePinsSaid : Prop := fnExactFreePinsRow.holds Try.pinned (OpenSpec.ofChange fnExactFreePinsSpec)

/-- ITS FALSE NEIGHBOUR: 'it returns false'. Refute it at one input. -/
def fnExactFreePinsWrong : ChangeSpec := { name := "fnExactFreePins", fn := fun _ => fun
  | [d1, d2] => { results := [.lit (.bool false)], args := [d1, d2] }
  | _ => none }
def FnExactFreePinsWrongFalsely : Prop := fnExactFreePinsRow.holds Try.pinned (OpenSpec.ofChange fnExactFreePinsWrong)

/-- 'laws.FnExactMoveLine': WHATEVER THE INPUT: true; the input reads as it did. -/
def fnExactMoveLineSpec : ChangeSpec := { name := "fnExactMoveLine", fn := fun _ => fun
  | [d1, d2] => { results := [.lit (.bool true)], args := [d1, d2] }
  | _ => none }
def fnExactMoveLineRow : OpenClaim := { program := "ytpngklefeaolfaa", sum := "42f819a7fd5fc4801fa78d27b0373e7d94903f11c7371d1f998f445e81c604b0", func := "loop.example/g01044/laws.FnExactMoveLine", spec := "fnExactMoveLine", unfollowed := true, recurses := true, apart := false }
def FnExactMoveLineSaid : Prop := fnExactMoveLineRow.holds Try.pinned (OpenSpec.ofChange fnExactMoveLineSpec)

/-- ITS FALSE NEIGHBOUR: 'it returns false'. Refute it at one input. -/
def fnExactMoveLineWrong : ChangeSpec := { name := "fnExactMoveLine", fn := fun _ => fun
  | [d1, d2] => { results := [.lit (.bool false)], args := [d1, d2] }
  | _ => none }
def FnExactMoveLineWrongFalsely : Prop := fnExactMoveLineRow.holds Try.pinned (OpenSpec.ofChange fnExactMoveLineWrong)

/- THE SECOND FORM. 'bulk': how many values and letters a reading holds, each counted each time it is reached (what is shared counts as often as it is met; a slice's spare places count too). A statement '..UptoSaid' is the law's where the arguments, and the package variables that the reading takes, are together of bulk at most 1048576: NARROWER than '..Said'. Prove '..Said' where nothing that the law and all that it calls make is longer than what came in: it says more and counts as full. Else prove '..UptoSaid'. A law counts once. -/
mutual
def uptoBulk {H : Type} : DataW H → Nat
  | .lit (.string bytes) => bytes.length + 1
  | .lit _ => 1
  | .nil => 1
  | .ptr d => uptoBulk d + 1
  | .slice elems spare => uptoBulkAll elems + uptoBulkAll spare + 1
  | .agg parts => uptoBulkAll parts + 1
  | .iface _ d => uptoBulk d + 1
  | .map entries => uptoBulkEntries entries + 1
  | .held _ => 1
def uptoBulkAll {H : Type} : List (DataW H) → Nat
  | [] => 0
  | d :: r => uptoBulk d + uptoBulkAll r
def uptoBulkEntries {H : Type} : List (Lit × DataW H) → Nat
  | [] => 0
  | x :: r => uptoBulkEntry x + uptoBulkEntries r
def uptoBulkEntry {H : Type} : Lit × DataW H → Nat
  | (.string bytes, d) => bytes.length + uptoBulk d + 1
  | (_, d) => uptoBulk d + 1
 end
def uptoSmall : (H : Type) → List (DataW H) → Bool := fun _ ds => decide (uptoBulkAll ds ≤ 1048576)
def OpenSpec.upto (s : _root_.Go.ChangeSpec) : _root_.Go.OpenSpec := { _root_.Go.OpenSpec.ofChange s with cond := some uptoSmall }

/-- 'laws.FnExactValidRig', WHERE WHAT IT READS IS OF BULK AT MOST 1048576: true; the input reads as it did. -/
def fnExactValidRigUptoRow : OpenClaim := { program := "ytpngklefeaolfaa", sum := "42f819a7fd5fc4801fa78d27b0373e7d94903f11c7371d1f998f445e81c604b0", func := "loop.example/g01044/laws.FnExactValidRig", spec := "fnExactValidRig", unfollowed := true, recurses := true, apart := false, narrowed := true }
def FnExactValidRigUptoSaid : Prop := fnExactValidRigUptoRow.holds Try.pinned (OpenSpec.upto fnExactValidRigSpec)

/-- 'laws.FnExactLineAt', WHERE WHAT IT READS IS OF BULK AT MOST 1048576: true; the input reads as it did. -/
def fnExactLineAtUptoRow : OpenClaim := { program := "ytpngklefeaolfaa", sum := "42f819a7fd5fc4801fa78d27b0373e7d94903f11c7371d1f998f445e81c604b0", func := "loop.example/g01044/laws.FnExactLineAt", spec := "fnExactLineAt", unfollowed := true, recurses := true, apart := false, narrowed := true }
def FnExactLineAtUptoSaid : Prop := fnExactLineAtUptoRow.holds Try.pinned (OpenSpec.upto fnExactLineAtSpec)

/-- 'laws.FnExactPinOf', WHERE WHAT IT READS IS OF BULK AT MOST 1048576: true; the input reads as it did. -/
def fnExactPinOfUptoRow : OpenClaim := { program := "ytpngklefeaolfaa", sum := "42f819a7fd5fc4801fa78d27b0373e7d94903f11c7371d1f998f445e81c604b0", func := "loop.example/g01044/laws.FnExactPinOf", spec := "fnExactPinOf", unfollowed := true, recurses := true, apart := false, narrowed := true }
def FnExactPinOfUptoSaid : Prop := fnExactPinOfUptoRow.holds Try.pinned (OpenSpec.upto fnExactPinOfSpec)

/-- 'laws.FnExactLooseLines', WHERE WHAT IT READS IS OF BULK AT MOST 1048576: true; the input reads as it did. -/
def fnExactLooseLinesUptoRow : OpenClaim := { program := "ytpngklefeaolfaa", sum := "42f819a7fd5fc4801fa78d27b0373e7d94903f11c7371d1f998f445e81c604b0", func := "loop.example/g01044/laws.FnExactLooseLines", spec := "fnExactLooseLines", unfollowed := true, recurses := true, apart := false, narrowed := true }
def FnExactLooseLinesUptoSaid : Prop := fnExactLooseLinesUptoRow.holds Try.pinned (OpenSpec.upto fnExactLooseLinesSpec)

/-- 'laws.FnExactWrongSides', WHERE WHAT IT READS IS OF BULK AT MOST 1048576: true; the input reads as it did. -/
def fnExactWrongSidesUptoRow : OpenClaim := { program := "ytpngklefeaolfaa", sum := "42f819a7fd5fc4801fa78d27b0373e7d94903f11c7371d1f998f445e81c604b0", func := "loop.example/g01044/laws.FnExactWrongSides", spec := "fnExactWrongSides", unfollowed := true, recurses := true, apart := false, narrowed := true }
def FnExactWrongSidesUptoSaid : Prop := fnExactWrongSidesUptoRow.holds Try.pinned (OpenSpec.upto fnExactWrongSidesSpec)

/-- 'laws.FnExactFreePins', WHERE WHAT IT READS IS OF BULK AT MOST 1048576: true; the input reads as it did. -/
def fnExactFreePinsUptoRow : OpenClaim := { program := "ytpngklefeaolfaa", sum := "42f819a7fd5fc4801fa78d27b0373e7d94903f11c7371d1f998f445e81c604b0", func := "loop.example/g01044/laws.FnExactFreePins", spec := "fnExactFreePins", unfollowed := true, recurses := true, apart := false, narrowed := true }
def FnExactFreePinsUptoSaid : Prop := fnExactFreePinsUptoRow.holds Try.pinned (OpenSpec.upto fnExactFreePinsSpec)

/-- 'laws.FnExactMoveLine', WHERE WHAT IT READS IS OF BULK AT MOST 1048576: true; the input reads as it did. -/
def fnExactMoveLineUptoRow : OpenClaim := { program := "ytpngklefeaolfaa", sum := "42f819a7fd5fc4801fa78d27b0373e7d94903f11c7371d1f998f445e81c604b0", func := "loop.example/g01044/laws.FnExactMoveLine", spec := "fnExactMoveLine", unfollowed := true, recurses := true, apart := false, narrowed := true }
def FnExactMoveLineUptoSaid : Prop := fnExactMoveLineUptoRow.holds Try.pinned (OpenSpec.upto fnExactMoveLineSpec)

end Rows
end Go.Proofs.Ytpngklefeaolfaa
