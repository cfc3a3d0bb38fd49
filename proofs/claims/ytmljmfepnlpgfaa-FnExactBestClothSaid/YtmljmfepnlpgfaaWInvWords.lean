-- Pruned by a program of this session (wip/tools/prune.py) out of what the kit's print wrote for this seat.
import Derived.Test.YtmljmfepnlpgfaaWInv
import Derived.Test.YtmljmfepnlpgfaaWFootNe
namespace Go.Proofs.YtmljmfepnlpgfaaW.PrintWords
open Go.RowKit
end Go.Proofs.YtmljmfepnlpgfaaW.PrintWords
namespace Go.Proofs.YtmljmfepnlpgfaaW.PrintLast
section
variable {ops : Array Oper} {a : Act} {o og : Oper} {g : Nat} {t : Tmp} {u : Bool}
end
end Go.Proofs.YtmljmfepnlpgfaaW.PrintLast
