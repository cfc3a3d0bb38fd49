-- Written by a program of this session (wip/tools/pp.sh).
import Derived.Test.YtdlckliobloodaaDoorProg
import Derived.Below
import Derived.Deep.Draws
import Derived.Deep.AppendLies
import Derived.Maps.AppendAt
import Derived.OwnWalk
import Derived.Laws.BytesArg
import Derived.Laws.MakeOwn
import Derived.Laws.OwnMore
import Derived.Deep.OwnRows
import Derived.Tactics
import Derived.Lib.ConvBytes
import Derived.Laws.Slices
import Derived.WalkKit
import Derived.KernelRfl
import Derived.RowKit3
import Derived.Deep.LoopGhost
import Derived.Deep.QuietTactic
import Derived.BigQuiet
import Derived.WideLaws
import Derived.Deep.DeepCutAuto
import Derived.Deep.CutBlock
import Derived.Deep.RegionHeld3
import Derived.Laws.Rows
import Derived.Lib.AppendStr
import Derived.ArgAppend
import Derived.Laws.IdiomCopy
import Derived.OrdersHeld
import Derived.Laws.BitsLemmas
import Derived.RowKit
import Derived.Test.YtdlckliobloodaaDoorShelf
import Derived.Test.YtdlckliobloodaaDoorShelfJ
import Derived.Test.YtdlckliobloodaaDoorShelfS
import Derived.Test.YtdlckliobloodaaDoorWWords
import Derived.Test.YtdlckliobloodaaDoorWLast
import Derived.Test.YtdlckliobloodaaDoorWTab
import Derived.Test.YtdlckliobloodaaDoorWFour
import Derived.Test.YtdlckliobloodaaDoorWQPut
import Derived.Test.YtdlckliobloodaaDoorWApart
import Derived.Test.YtdlckliobloodaaDoorWArr
import Derived.Test.YtdlckliobloodaaDoorWZeros
import Derived.Test.YtdlckliobloodaaDoorWFoot
import Derived.Test.YtdlckliobloodaaDoorWKept
import Derived.Test.YtdlckliobloodaaDoorWShare
import Derived.Test.YtdlckliobloodaaDoorWN
import Derived.Test.YtdlckliobloodaaDoorWFootNe
import Derived.Test.YtdlckliobloodaaDoorWAt
import Derived.Test.YtdlckliobloodaaDoorWEqStruct
import Derived.Test.YtdlckliobloodaaDoorWRepsOne
import Derived.Test.YtdlckliobloodaaDoorWInv
import Derived.Test.YtdlckliobloodaaDoorWInvWords
import Derived.Test.YtdlckliobloodaaDoorWGuard
import Derived.Test.YtdlckliobloodaaDoorWNEv
import Derived.Test.YtdlckliobloodaaDoorWMore
import Derived.Test.YtdlckliobloodaaDoorSmall
namespace Go.Proofs.YtdlckliobloodaaDoor.PFnReefRuns
open Go.RowKit Go.Proofs.YtdlckliobloodaaDoorW.PrintWords Go.Proofs.YtdlckliobloodaaDoorW.PrintLast Go.Proofs.YtdlckliobloodaaDoorW.PrintMore Go.Proofs.YtdlckliobloodaaDoor.Small
open Bool renaming true → T, false → F
attribute [local go_sem] max2_int min2_int max_two min_two max_three min_three max_four min_four   -- for this text's walks alone
set_option linter.unusedVariables false
set_option linter.unusedSimpArgs false



def errW : Option Int → Value
 | none => .nilIface
 | some c => .iface 0 (.int .i64 c)
theorem errW_none : errW none = .nilIface := rfl
theorem errW_some (c : Int) : errW (some c) = .iface 0 (.int .i64 c) := rfl

theorem info2 : (Tryd.prog.info? 2).map (fun i => (i.zero, i.size, i.bytes)) = some (some (.int .i64 0), 1, 8) := by kernel_rfl
theorem info9 : (Tryd.prog.info? 9).map (fun i => (i.zero, i.size, i.bytes)) = some (some (.string ⟨#[]⟩), 1, 16) := by kernel_rfl
-- the values' own types
def rd_L3 (xs : List (List Int)) (i : Int) : (List Int) := xs.getD i.toNat ([] : List Int)
theorem at_L3 {w : World} {A : Option Addr} {n : Nat} {xs : List (List Int)} (h : Kd.C (Kd.slice 5 (Kd.int .u8)) w A n xs) (i : Int) (h0 : 0 ≤ i) (h1 : i < n) : ∃ ad A0 c0, A = some ad ∧ w.cell? (ad.add i.toNat) = some (.slice A0 (rd_L3 xs i).length c0) ∧ (rd_L3 xs i).length ≤ c0 ∧ (Kd.int .u8).C w A0 (rd_L3 xs i).length (rd_L3 xs i) := by
 obtain ⟨ad, c, e, _, hK, hc0⟩ := Kd.C_get h ([] : List Int) i h0 h1; have hc : ∀ j u, c[j]? = some u → w.cell? (ad.add (i.toNat * 1 + j)) = some u := hc0; obtain ⟨A0, c0, rfl, l0, g0⟩ := hK; exact ⟨ad, A0, c0, e, by have hq := hc 0 _ rfl; rwa [Nat.mul_one, Nat.add_zero] at hq, l0, g0⟩

theorem ro_elem {α : Type} {d : Kd α} {w : World} {A : Option Addr} {n : Nat} {xs : List α} (sz : Nat) (hs : d.sz = sz) (h : d.C w A n xs) (z : α) (i : Int) (h0 : 0 ≤ i) (h1 : i < n) : ∃ ad, A = some ad ∧ d.C w (some (ad.add (i.toNat * sz))) 1 [xs.getD i.toNat z] := by
 subst hs; obtain ⟨ad, c, e, hc, hK, hx⟩ := Kd.C_get h z i h0 h1; refine ⟨ad, e, rfl, by omega, fun _ => ⟨_, rfl, fun j p hj => ?_⟩⟩
 cases j with
 | zero =>
  (obtain rfl : xs.getD i.toNat z = p := by simpa using hj); exact ⟨c, hc, hK, fun k u hu => by rw [add_add, Nat.zero_mul, Nat.zero_add]; exact hx k u hu⟩
 | succ j => simp at hj
theorem ro_box {α : Type} {d : Kd α} {w : World} {g : Nat} {cs : List Value} {t : TypeId} {x : α} (hb : w.heap[g]? = some (.cells cs.toArray t (0, 0))) (hK : d.K w x cs) (hn : cs.length = d.sz) : d.C w (some ⟨g, 0, none⟩) 1 [x] := by
 refine ⟨rfl, by omega, fun _ => ⟨_, rfl, fun j p hj => ?_⟩⟩
 cases j with
 | zero =>
  (obtain rfl : x = p := by simpa using hj); exact ⟨cs, hn, hK, fun k u hu => by rw [Nat.zero_mul, add_plain, blk_cell hb, Nat.zero_add, List.getElem?_toArray]; exact hu⟩
 | succ j => simp at hj

end Go.Proofs.YtdlckliobloodaaDoor.PFnReefRuns
