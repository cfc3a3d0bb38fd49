-- Pruned by a program of this session (wip/tools/prune.py) out of what the kit's print wrote for this seat.
import Derived.Test.YtgjpjildacnnjaaWInv
import Derived.Test.YtgjpjildacnnjaaWFootNe
namespace Go.Proofs.YtgjpjildacnnjaaW.PrintWords
open Go.RowKit
end Go.Proofs.YtgjpjildacnnjaaW.PrintWords
namespace Go.Proofs.YtgjpjildacnnjaaW.PrintLast
section
variable {ops : Array Oper} {a : Act} {o og : Oper} {g : Nat} {t : Tmp} {u : Bool}
end
end Go.Proofs.YtgjpjildacnnjaaW.PrintLast
