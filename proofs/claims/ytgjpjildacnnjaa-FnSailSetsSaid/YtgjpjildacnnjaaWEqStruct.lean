-- Pruned by a program of this session (wip/tools/prune.py) out of what the kit's print wrote for this seat.
import Derived.Test.YtgjpjildacnnjaaWWords
import Derived.Laws.StructEq
/-! ### 53. '==' of structs as_ one Bool -/
namespace Go.Proofs.YtgjpjildacnnjaaW.PrintWords
open Go.RowKit
section
variable {P : Program} {d : Nat} {xs ys : Array Value} {f : Field} {fs : List Field} {a b : Value} {r s : Bool} {w : World}
end
end Go.Proofs.YtgjpjildacnnjaaW.PrintWords
