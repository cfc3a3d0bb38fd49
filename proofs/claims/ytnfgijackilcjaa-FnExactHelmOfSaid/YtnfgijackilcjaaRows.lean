/-
  No cell of these rows narrows 'for every input' (looked for: loops, veiled, ifaces, maps, wideKeys, modest, calm, conditions, laid).
  DERIVED. THE GIVEN ROWS OF THIS SEAT. 6 by the template 'for every input the law returns true; each argument reads behind the call as it read before'; 0 by the template 'total and deterministic' (their statements: YtnfgijackilcjaaTotals.lean).
  GIVEN WITH THE SEED: the statements are not yours to turn. If you find one false, say at which input.
  Laid BY PROGRAM, IN A SANDBOX (cutbox-rows.mjs): the forced cells as the released guide's own fill.sh prints them over the translation 0fd58e14af08218f… (all of the seat's roots in one cut). By AI agents, Wed Nov 11 2026. No macro, syntax, notation, axiom, sorry.
-/
import Derived.Test.YtnfgijackilcjaaChecked
import GoSem.Claim
import GoSem.ClaimJoined
import GoSem.ClaimMapViews
import Derived.JoinedTies
import Derived.KernelRfl
namespace Go.Proofs.Ytnfgijackilcjaa
/- THE CELL 'sum', in the pinned program and in every row, IS THE sha256 OF THE DUMP (.gsa) THAT YtnfgijackilcjaaProg.lean LOADS. Nothing in Lean hashes anything: it is a label: what it is worth is what the hold of that sum in a sandbox is worth. -/
noncomputable def Try.pinned : Pinned := { name := "ytnfgijackilcjaa", sum := "0fd58e14af08218fec1a24aab1efe4a29c4fb19d4d475b169f5759ec2d56fd9f", checked := Try.checked }
namespace Rows
def none {H : Type} : Left H := { results := [], args := [] }

/-- 'laws.FnExactValidPlan': WHATEVER THE INPUT: true; the input reads as it did. -/
def fnExactValidPlanSpec : ChangeSpec := { name := "fnExactValidPlan", fn := fun _ => fun
  | [d] => { results := [.lit (.bool true)], args := [d] }
  | _ => none }
def fnExactValidPlanRow : OpenClaim := { program := "ytnfgijackilcjaa", sum := "0fd58e14af08218fec1a24aab1efe4a29c4fb19d4d475b169f5759ec2d56fd9f", func := "loop.example/g01044/laws.FnExactValidPlan", spec := "fnExactValidPlan", unfollowed := true, recurses := true, apart := false }
def FnExactValidPlanSaid : Prop := fnExactValidPlanRow.holds Try.pinned (OpenSpec.ofChange fnExactValidPlanSpec)

/-- ITS FALSE NEIGHBOUR: 'it returns false'. Refute it at one input. -/
def fnExactValidPlanWrong : ChangeSpec := { name := "fnExactValidPlan", fn := fun _ => fun
  | [d] => { results := [.lit (.bool false)], args := [d] }
  | _ => none }
def FnExactValidPlanWrongFalsely : Prop := fnExactValidPlanRow.holds Try.pinned (OpenSpec.ofChange fnExactValidPlanWrong)

/-- 'laws.FnExactPlanArea': WHATEVER THE INPUT: true; the input reads as it did. -/
def fnExactPlanAreaSpec : ChangeSpec := { name := "fnExactPlanArea", fn := fun _ => fun
  | [d] => { results := [.lit (.bool true)], args := [d] }
  | _ => none }
def fnExactPlanAreaRow : OpenClaim := { program := "ytnfgijackilcjaa", sum := "0fd58e14af08218fec1a24aab1efe4a29c4fb19d4d475b169f5759ec2d56fd9f", func := "loop.example/g01044/laws.FnExactPlanArea", spec := "fnExactPlanArea", unfollowed := true, recurses := true, apart := false }
def FnExactPlanAreaSaid : Prop := fnExactPlanAreaRow.holds Try.pinned (OpenSpec.ofChange fnExactPlanAreaSpec)

/-- ITS FALSE NEIGHBOUR: 'it returns false'. Refute it at one input. -/
def fnExactPlanAreaWrong : ChangeSpec := { name := "fnExactPlanArea", fn := fun _ => fun
  | [d] => { results := [.lit (.bool false)], args := [d] }
  | _ => none }
def FnExactPlanAreaWrongFalsely : Prop := fnExactPlanAreaRow.holds Try.pinned (OpenSpec.ofChange fnExactPlanAreaWrong)

/-- 'laws.FnExactHeelOf': WHATEVER THE INPUT: true; the input reads as it did. -/
def fnExactHeelOfSpec : ChangeSpec := { name := "fnExactHeelOf", fn := fun _ => fun
  | [d1, d2] => { results := [.lit (.bool true)], args := [d1, d2] }
  | _ => none }
def fnExactHeelOfRow : OpenClaim := { program := "ytnfgijackilcjaa", sum := "0fd58e14af08218fec1a24aab1efe4a29c4fb19d4d475b169f5759ec2d56fd9f", func := "loop.example/g01044/laws.FnExactHeelOf", spec := "fnExactHeelOf", unfollowed := true, recurses := true, apart := false }
def FnExactHeelOfSaid : Prop := fnExactHeelOfRow.holds Try.pinned (OpenSpec.ofChange fnExactHeelOfSpec)

/-- ITS FALSE NEIGHBOUR: 'it returns false'. Refute it at one input. -/
def fnExactHeelOfWrong : ChangeSpec := { name := "fnExactHeelOf", fn := fun _ => fun
  | [d1, d2] => { results := [.lit (.bool false)], args := [d1, d2] }
  | _ => none }
def FnExactHeelOfWrongFalsely : Prop := fnExactHeelOfRow.holds Try.pinned (OpenSpec.ofChange fnExactHeelOfWrong)

/-- 'laws.FnExactPlanCentre': WHATEVER THE INPUT: true; the input reads as it did. -/
def fnExactPlanCentreSpec : ChangeSpec := { name := "fnExactPlanCentre", fn := fun _ => fun
  | [d] => { results := [.lit (.bool true)], args := [d] }
  | _ => none }
def fnExactPlanCentreRow : OpenClaim := { program := "ytnfgijackilcjaa", sum := "0fd58e14af08218fec1a24aab1efe4a29c4fb19d4d475b169f5759ec2d56fd9f", func := "loop.example/g01044/laws.FnExactPlanCentre", spec := "fnExactPlanCentre", unfollowed := true, recurses := true, apart := false }
def FnExactPlanCentreSaid : Prop := fnExactPlanCentreRow.holds Try.pinned (OpenSpec.ofChange fnExactPlanCentreSpec)

/-- ITS FALSE NEIGHBOUR: 'it returns false'. Refute it at one input. -/
def fnExactPlanCentreWrong : ChangeSpec := { name := "fnExactPlanCentre", fn := fun _ => fun
  | [d] => { results := [.lit (.bool false)], args := [d] }
  | _ => none }
def FnExactPlanCentreWrongFalsely : Prop := fnExactPlanCentreRow.holds Try.pinned (OpenSpec.ofChange fnExactPlanCentreWrong)

/-- 'laws.FnExactLeadOf': WHATEVER THE INPUT: true; the input reads as it did. -/
def fnExactLeadOfSpec : ChangeSpec := { name := "fnExactLeadOf", fn := fun _ => fun
  | [d] => { results := [.lit (.bool true)], args := [d] }
  | _ => none }
def fnExactLeadOfRow : OpenClaim := { program := "ytnfgijackilcjaa", sum := "0fd58e14af08218fec1a24aab1efe4a29c4fb19d4d475b169f5759ec2d56fd9f", func := "loop.example/g01044/laws.FnExactLeadOf", spec := "fnExactLeadOf", unfollowed := true, recurses := true, apart := false }
def FnExactLeadOfSaid : Prop := fnExactLeadOfRow.holds Try.pinned (OpenSpec.ofChange fnExactLeadOfSpec)

/-- ITS FALSE NEIGHBOUR: 'it returns false'. Refute it at one input. -/
def fnExactLeadOfWrong : ChangeSpec := { name := "fnExactLeadOf", fn := fun _ => fun
  | [d] => { results := [.lit (.bool false)], args := [d] }
  | _ => none }
def FnExactLeadOfWrongFalsely : Prop := fnExactLeadOfRow.holds Try.pinned (OpenSpec.ofChange fnExactLeadOfWrong)

/-- 'laws.FnExactHelmOf': WHATEVER THE INPUT: true; the input reads as it did. -/
def fnExactHelmOfSpec : ChangeSpec := { name := "fnExactHelmOf", fn := fun _ => fun
  | [d1, d2, d3] => { results := [.lit (.bool true)], args := [d1, d2, d3] }
  | _ => none }
def fnExactHelmOfRow : OpenClaim := { program := "ytnfgijackilcjaa", sum := "0fd58e14af08218fec1a24aab1efe4a29c4fb19d4d475b169f5759ec2d56fd9f", func := "loop.example/g01044/laws.FnExactHelmOf", spec := "fnExactHelmOf", unfollowed := true, recurses := true, apart := false }
def FnExactHelmOfSaid : Prop := fnExactHelmOfRow.holds Try.pinned (OpenSpec.ofChange fnExactHelmOfSpec)

/-- ITS FALSE NEIGHBOUR: 'it returns false'. Refute it at one input. -/
def fnExactHelmOfWrong : ChangeSpec := { name := "fnExactHelmOf", fn := fun _ => fun
  | [d1, d2, d3] => { results := [.lit (.bool false)], args := [d1, d2, d3] }
  | _ => none }
def FnExactHelmOfWrongFalsely : Prop := fnExactHelmOfRow.holds Try.pinned (OpenSpec.ofChange fnExactHelmOfWrong)

/- THE SECOND FORM. 'bulk': how many values and letters a reading holds, each counted each time it is reached (what is shared counts as often as it is met; a slice's spare places count too). A statement '..UptoSaid' is the law's where the arguments, and the package variables that the reading takes, are together of bulk at most 1048576: NARROWER than '..Said'. Prove '..Said' where nothing that the law and all that it calls make is longer than what came in: it says more and counts as full. Else prove '..UptoSaid'. A law counts once. -/
mutual
def uptoBulk {H : Type} : DataW H → Nat
  | .lit (.string bytes) => bytes.length + 1
  | .lit _ => 1
  | .nil => 1
  | .ptr d => uptoBulk d + 1
  | .slice elems spare => uptoBulkAll elems + uptoBulkAll spare + 1
  | .agg parts => uptoBulkAll parts + 1
  | .iface _ d => uptoBulk d + 1
  | .map entries => uptoBulkEntries entries + 1
  | .held _ => 1
def uptoBulkAll {H : Type} : List (DataW H) → Nat
  | [] => 0
  | d :: r => uptoBulk d + uptoBulkAll r
def uptoBulkEntries {H : Type} : List (Lit × DataW H) → Nat
  | [] => 0
  | x :: r => uptoBulkEntry x + uptoBulkEntries r
def uptoBulkEntry {H : Type} : Lit × DataW H → Nat
  | (.string bytes, d) => bytes.length + uptoBulk d + 1
  | (_, d) => uptoBulk d + 1
 end
def uptoSmall : (H : Type) → List (DataW H) → Bool := fun _ ds => decide (uptoBulkAll ds ≤ 1048576)
def OpenSpec.upto (s : _root_.Go.ChangeSpec) : _root_.Go.OpenSpec := { _root_.Go.OpenSpec.ofChange s with cond := some uptoSmall }

/-- 'laws.FnExactValidPlan', WHERE WHAT IT READS IS OF BULK AT MOST 1048576: true; the input reads as it did. -/
def fnExactValidPlanUptoRow : OpenClaim := { program := "ytnfgijackilcjaa", sum := "0fd58e14af08218fec1a24aab1efe4a29c4fb19d4d475b169f5759ec2d56fd9f", func := "loop.example/g01044/laws.FnExactValidPlan", spec := "fnExactValidPlan", unfollowed := true, recurses := true, apart := false, narrowed := true }
def FnExactValidPlanUptoSaid : Prop := fnExactValidPlanUptoRow.holds Try.pinned (OpenSpec.upto fnExactValidPlanSpec)

/-- 'laws.FnExactPlanArea', WHERE WHAT IT READS IS OF BULK AT MOST 1048576: true; the input reads as it did. -/
def fnExactPlanAreaUptoRow : OpenClaim := { program := "ytnfgijackilcjaa", sum := "0fd58e14af08218fec1a24aab1efe4a29c4fb19d4d475b169f5759ec2d56fd9f", func := "loop.example/g01044/laws.FnExactPlanArea", spec := "fnExactPlanArea", unfollowed := true, recurses := true, apart := false, narrowed := true }
def FnExactPlanAreaUptoSaid : Prop := fnExactPlanAreaUptoRow.holds Try.pinned (OpenSpec.upto fnExactPlanAreaSpec)

/-- 'laws.FnExactHeelOf', WHERE WHAT IT READS IS OF BULK AT MOST 1048576: true; the input reads as it did. -/
def fnExactHeelOfUptoRow : OpenClaim := { program := "ytnfgijackilcjaa", sum := "0fd58e14af08218fec1a24aab1efe4a29c4fb19d4d475b169f5759ec2d56fd9f", func := "loop.example/g01044/laws.FnExactHeelOf", spec := "fnExactHeelOf", unfollowed := true, recurses := true, apart := false, narrowed := true }
def FnExactHeelOfUptoSaid : Prop := fnExactHeelOfUptoRow.holds Try.pinned (OpenSpec.upto fnExactHeelOfSpec)

/-- 'laws.FnExactPlanCentre', WHERE WHAT IT READS IS OF BULK AT MOST 1048576: true; the input reads as it did. -/
def fnExactPlanCentreUptoRow : OpenClaim := { program := "ytnfgijackilcjaa", sum := "0fd58e14af08218fec1a24aab1efe4a29c4fb19d4d475b169f5759ec2d56fd9f", func := "loop.example/g01044/laws.FnExactPlanCentre", spec := "fnExactPlanCentre", unfollowed := true, recurses := true, apart := false, narrowed := true }
def FnExactPlanCentreUptoSaid : Prop := fnExactPlanCentreUptoRow.holds Try.pinned (OpenSpec.upto fnExactPlanCentreSpec)

/-- 'laws.FnExactLeadOf', WHERE WHAT IT READS IS OF BULK AT MOST 1048576: true; the input reads as it did. -/
def fnExactLeadOfUptoRow : OpenClaim := { program := "ytnfgijackilcjaa", sum := "0fd58e14af08218fec1a24aab1efe4a29c4fb19d4d475b169f5759ec2d56fd9f", func := "loop.example/g01044/laws.FnExactLeadOf", spec := "fnExactLeadOf", unfollowed := true, recurses := true, apart := false, narrowed := true }
def FnExactLeadOfUptoSaid : Prop := fnExactLeadOfUptoRow.holds Try.pinned (OpenSpec.upto fnExactLeadOfSpec)

/-- 'laws.FnExactHelmOf', WHERE WHAT IT READS IS OF BULK AT MOST 1048576: true; the input reads as it did. -/
def fnExactHelmOfUptoRow : OpenClaim := { program := "ytnfgijackilcjaa", sum := "0fd58e14af08218fec1a24aab1efe4a29c4fb19d4d475b169f5759ec2d56fd9f", func := "loop.example/g01044/laws.FnExactHelmOf", spec := "fnExactHelmOf", unfollowed := true, recurses := true, apart := false, narrowed := true }
def FnExactHelmOfUptoSaid : Prop := fnExactHelmOfUptoRow.holds Try.pinned (OpenSpec.upto fnExactHelmOfSpec)

end Rows
end Go.Proofs.Ytnfgijackilcjaa
