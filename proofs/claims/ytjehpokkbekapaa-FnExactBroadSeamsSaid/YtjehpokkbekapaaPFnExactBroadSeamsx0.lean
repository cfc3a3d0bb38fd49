-- Written by a program of this session (wip/tools/pp.sh).
import Derived.Test.YtjehpokkbekapaaProg
import Derived.Below
import Derived.Deep.Draws
import Derived.Deep.AppendLies
import Derived.Maps.AppendAt
import Derived.OwnWalk
import Derived.Laws.BytesArg
import Derived.Laws.MakeOwn
import Derived.Laws.OwnMore
import Derived.Deep.OwnRows
import Derived.Tactics
import Derived.Lib.ConvBytes
import Derived.Laws.Slices
import Derived.WalkKit
import Derived.KernelRfl
import Derived.RowKit3
import Derived.Deep.LoopGhost
import Derived.Deep.QuietTactic
import Derived.BigQuiet
import Derived.WideLaws
import Derived.Deep.DeepCutAuto
import Derived.Deep.CutBlock
import Derived.Deep.RegionHeld3
import Derived.Laws.Rows
import Derived.Lib.AppendStr
import Derived.ArgAppend
import Derived.Laws.IdiomCopy
import Derived.OrdersHeld
import Derived.Laws.BitsLemmas
import Derived.RowKit
import Derived.Test.YtjehpokkbekapaaWWords
import Derived.Test.YtjehpokkbekapaaWLast
import Derived.Test.YtjehpokkbekapaaWTab
import Derived.Test.YtjehpokkbekapaaWFour
import Derived.Test.YtjehpokkbekapaaWQPut
import Derived.Test.YtjehpokkbekapaaWApart
import Derived.Test.YtjehpokkbekapaaWArr
import Derived.Test.YtjehpokkbekapaaWZeros
import Derived.Test.YtjehpokkbekapaaWFoot
import Derived.Test.YtjehpokkbekapaaWKept
import Derived.Test.YtjehpokkbekapaaWShare
import Derived.Test.YtjehpokkbekapaaWN
import Derived.Test.YtjehpokkbekapaaWFootNe
import Derived.Test.YtjehpokkbekapaaWAt
import Derived.Test.YtjehpokkbekapaaWEqStruct
import Derived.Test.YtjehpokkbekapaaWRepsOne
import Derived.Test.YtjehpokkbekapaaWInv
import Derived.Test.YtjehpokkbekapaaWInvWords
import Derived.Test.YtjehpokkbekapaaWGuard
import Derived.Test.YtjehpokkbekapaaWNEv
import Derived.Test.YtjehpokkbekapaaWMore
namespace Go.Proofs.Ytjehpokkbekapaa.PFnExactBroadSeams
open Go.RowKit Go.Proofs.YtjehpokkbekapaaW.PrintWords Go.Proofs.YtjehpokkbekapaaW.PrintLast Go.Proofs.YtjehpokkbekapaaW.PrintMore
attribute [local go_sem] max2_int min2_int max_two min_two max_three min_three max_four min_four   -- for this text's walks alone
set_option linter.unusedVariables false
set_option linter.unusedSimpArgs false



def errW : Option Int → Value
  | none => .nilIface
  | some c => .iface 0 (.int .i64 c)
theorem errW_none : errW none = .nilIface := rfl
theorem errW_some (c : Int) : errW (some c) = .iface 0 (.int .i64 c) := rfl

theorem info2 : (Try.prog.info? 2).map (fun i => (i.zero, i.size, i.bytes)) = some (some (.int .i64 0), 1, 8) := by kernel_rfl
-- the values' own types

theorem ro_elem {α : Type} {d : Kd α} {w : World} {A : Option Addr} {n : Nat} {xs : List α} (sz : Nat) (hs : d.sz = sz) (h : d.C w A n xs) (z : α) (i : Int) (h0 : 0 ≤ i) (h1 : i < n) : ∃ ad, A = some ad ∧ d.C w (some (ad.add (i.toNat * sz))) 1 [xs.getD i.toNat z] := by
  subst hs
  obtain ⟨ad, c, e, hc, hK, hx⟩ := Kd.C_get h z i h0 h1
  refine ⟨ad, e, rfl, by omega, fun _ => ⟨_, rfl, fun j p hj => ?_⟩⟩
  cases j with
  | zero =>
    obtain rfl : xs.getD i.toNat z = p := by simpa using hj
    exact ⟨c, hc, hK, fun k u hu => by rw [add_add, Nat.zero_mul, Nat.zero_add]; exact hx k u hu⟩
  | succ j => simp at hj
theorem ro_box {α : Type} {d : Kd α} {w : World} {g : Nat} {cs : List Value} {t : TypeId} {x : α} (hb : w.heap[g]? = some (.cells cs.toArray t (0, 0))) (hK : d.K w x cs) (hn : cs.length = d.sz) : d.C w (some ⟨g, 0, none⟩) 1 [x] := by
  refine ⟨rfl, by omega, fun _ => ⟨_, rfl, fun j p hj => ?_⟩⟩
  cases j with
  | zero =>
    obtain rfl : x = p := by simpa using hj
    exact ⟨cs, hn, hK, fun k u hu => by rw [Nat.zero_mul, add_plain, blk_cell hb, Nat.zero_add, List.getElem?_toArray]; exact hu⟩
  | succ j => simp at hj

end Go.Proofs.Ytjehpokkbekapaa.PFnExactBroadSeams
