-- Pruned by a program of this session (wip/tools/prune.py) out of what the kit's print wrote for this seat.
import Derived.Test.YtlphfgbeeckjnaaWInv
import Derived.Test.YtlphfgbeeckjnaaWFootNe
namespace Go.Proofs.YtlphfgbeeckjnaaW.PrintWords
open Go.RowKit
end Go.Proofs.YtlphfgbeeckjnaaW.PrintWords
namespace Go.Proofs.YtlphfgbeeckjnaaW.PrintLast
section
variable {ops : Array Oper} {a : Act} {o og : Oper} {g : Nat} {t : Tmp} {u : Bool}
end
end Go.Proofs.YtlphfgbeeckjnaaW.PrintLast
