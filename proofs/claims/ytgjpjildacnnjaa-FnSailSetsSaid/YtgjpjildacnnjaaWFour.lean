-- Pruned by a program of this session (wip/tools/prune.py) out of what the kit's print wrote for this seat.
import Derived.Test.YtgjpjildacnnjaaWTab
/-! ### 56. Four, five, six operations that may come up next, in any order -/
namespace Go.Proofs.YtgjpjildacnnjaaW.PrintLast
section
variable {P : Program} {ops : Array Oper} {Q : Exit → Act → World → Prop} {md : Region.Mode} {S : World → Prop} {ds : List Nat} {T : Bool × List (List Nat × List Nat)}
end
end Go.Proofs.YtgjpjildacnnjaaW.PrintLast
