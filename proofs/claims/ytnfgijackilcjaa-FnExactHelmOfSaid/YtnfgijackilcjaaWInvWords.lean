-- Pruned by a program of this session (wip/tools/prune.py) out of what the kit's print wrote for this seat.
import Derived.Test.YtnfgijackilcjaaWInv
import Derived.Test.YtnfgijackilcjaaWFootNe
namespace Go.Proofs.YtnfgijackilcjaaW.PrintWords
open Go.RowKit
end Go.Proofs.YtnfgijackilcjaaW.PrintWords
namespace Go.Proofs.YtnfgijackilcjaaW.PrintLast
section
variable {ops : Array Oper} {a : Act} {o og : Oper} {g : Nat} {t : Tmp} {u : Bool}
end
end Go.Proofs.YtnfgijackilcjaaW.PrintLast
