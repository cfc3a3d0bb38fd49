-- Pruned by a program of this session (wip/tools/prune.py) out of what the kit's print wrote for this seat.
import Derived.Test.YtpngklefeaolfaaWInv
import Derived.Test.YtpngklefeaolfaaWFootNe
namespace Go.Proofs.YtpngklefeaolfaaW.PrintWords
open Go.RowKit
end Go.Proofs.YtpngklefeaolfaaW.PrintWords
namespace Go.Proofs.YtpngklefeaolfaaW.PrintLast
section
variable {ops : Array Oper} {a : Act} {o og : Oper} {g : Nat} {t : Tmp} {u : Bool}
end
end Go.Proofs.YtpngklefeaolfaaW.PrintLast
