-- Pruned by a program of this session (wip/tools/prune.py) out of what the kit's print wrote for this seat.
import Derived.Test.YtpngklefeaolfaaWWords
/-! ### 58. A guarded operation whose guard is known to want it: the same goal without the guard -/
namespace Go.Proofs.YtpngklefeaolfaaW.PrintWords
open Go.RowKit
section
variable {P : Program} {ops : Array Oper} {rest : List Oper} {o : Oper} {a : Act} {Q : Exit → Act → World → Prop} {W : World}
end
end Go.Proofs.YtpngklefeaolfaaW.PrintWords
