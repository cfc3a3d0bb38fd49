/-
  Written by a program of this session (wip/tools/lims.py): the printed functions without their bound on rounds.
-/
import Derived.Test.YtobejjbnklcgpaaPFnExactRunReefsx1
import Derived.Test.YtobejjbnklcgpaaPFnExactRunReefsx2
import Derived.Test.YtobejjbnklcgpaaPFnExactRunReefsx3
import Derived.Test.YtobejjbnklcgpaaPFnExactRunReefsx4
import Derived.Test.YtobejjbnklcgpaaPFnExactRunReefsx5
import Derived.Test.YtobejjbnklcgpaaPFnExactRunReefsx6
import Derived.Test.YtobejjbnklcgpaaKit
set_option linter.unusedVariables false
set_option linter.unusedSimpArgs false
namespace Go.Proofs.Ytobejjbnklcgpaa.PFnExactRunReefs
open Go.RowKit Go.Proofs.Ytobejjbnklcgpaa.Kit Go.Proofs.YtobejjbnklcgpaaW.PrintWords Go.Proofs.YtobejjbnklcgpaaW.PrintLast Go.Proofs.YtobejjbnklcgpaaW.PrintMore

noncomputable def laws_toInt64S.L0 (x0 : List Int) (x3 : List Int) (x4 : Int) : Option (List Int) := lim (fun k => laws_toInt64S.l0 k x0 x3 x4)
noncomputable def laws_toInt64S.F (l0 : List Int) : Option (List Int) := lim (fun k => laws_toInt64S.f k l0)
theorem laws_toInt64S.L0_eq (x0 : List Int) (x3 : List Int) (x4 : Int) : laws_toInt64S.L0 x0 x3 x4 = if x4 < (x0.length : Int) then (if 0 ≤ x4 then (if x4 < (x3.length : Int) then (laws_toInt64S.L0 x0 (x3.set (x4 : Int).toNat (rd x0 x4)) (wrap64 (x4 + 1))) else (none)) else (none)) else (some x3) := by
  refine Lim.step (f := fun k => if x4 < (x0.length : Int) then (if 0 ≤ x4 then (if x4 < (x3.length : Int) then (laws_toInt64S.l0 k x0 (x3.set (x4 : Int).toNat (rd x0 x4)) (wrap64 (x4 + 1))) else (none)) else (none)) else (some x3)) (fun k => (laws_toInt64S.mono_l k) x0 x3 x4) (fun k => by simp only [laws_toInt64S.l0]) ?_
  repeat' first
    | exact Lim.const _
    | with_reducible exact Lim.of (fun k => (laws_toInt64S.mono_l k) _ _ _)
    | with_reducible refine Lim.ite ?_ ?_
    | with_reducible refine Lim.bind ?_ (fun _ => ?_)
    | exact Lim.of (fun k => (laws_toInt64S.mono_l k) _ _ _)
theorem laws_toInt64S.F_eq (l0 : List Int) : laws_toInt64S.F l0 = if 0 ≤ (l0.length : Int) then (if ((l0.length : Int) : Int).toNat ≤ 35184372088832 then (laws_toInt64S.L0 l0 (List.replicate ((l0.length : Int) : Int).toNat 0) 0) else (none)) else (none) := by
  refine Lim.eq (g := fun k => laws_toInt64S.f k l0) ?_
  unfold laws_toInt64S.f
  repeat' first
    | exact Lim.const _
    | with_reducible exact Lim.of (fun k => (laws_toInt64S.mono_l k) _ _ _)
    | with_reducible refine Lim.ite ?_ ?_
    | with_reducible refine Lim.bind ?_ (fun _ => ?_)
    | exact Lim.of (fun k => (laws_toInt64S.mono_l k) _ _ _)

noncomputable def laws_eqInt64S.L0 (x0 : List Int) (x1 : List Int) (x5 : Int) : Option (Bool) := lim (fun k => laws_eqInt64S.l0 k x0 x1 x5)
noncomputable def laws_eqInt64S.F (l0 : List Int) (l1 : List Int) : Option (Bool) := lim (fun k => laws_eqInt64S.f k l0 l1)
theorem laws_eqInt64S.L0_eq (x0 : List Int) (x1 : List Int) (x5 : Int) : laws_eqInt64S.L0 x0 x1 x5 = if x5 < (x0.length : Int) then (if 0 ≤ x5 then (if x5 < (x1.length : Int) then (if (rd x0 x5) = (rd x1 x5) then (laws_eqInt64S.L0 x0 x1 (wrap64 (x5 + 1))) else (some false)) else (none)) else (none)) else (some true) := by
  refine Lim.step (f := fun k => if x5 < (x0.length : Int) then (if 0 ≤ x5 then (if x5 < (x1.length : Int) then (if (rd x0 x5) = (rd x1 x5) then (laws_eqInt64S.l0 k x0 x1 (wrap64 (x5 + 1))) else (some false)) else (none)) else (none)) else (some true)) (fun k => (laws_eqInt64S.mono_l k) x0 x1 x5) (fun k => by simp only [laws_eqInt64S.l0]) ?_
  repeat' first
    | exact Lim.const _
    | with_reducible exact Lim.of (fun k => (laws_eqInt64S.mono_l k) _ _ _)
    | with_reducible refine Lim.ite ?_ ?_
    | with_reducible refine Lim.bind ?_ (fun _ => ?_)
    | exact Lim.of (fun k => (laws_eqInt64S.mono_l k) _ _ _)
theorem laws_eqInt64S.F_eq (l0 : List Int) (l1 : List Int) : laws_eqInt64S.F l0 l1 = if (l0.length : Int) = (l1.length : Int) then (laws_eqInt64S.L0 l0 l1 0) else (some false) := by
  refine Lim.eq (g := fun k => laws_eqInt64S.f k l0 l1) ?_
  unfold laws_eqInt64S.f
  repeat' first
    | exact Lim.const _
    | with_reducible exact Lim.of (fun k => (laws_eqInt64S.mono_l k) _ _ _)
    | with_reducible refine Lim.ite ?_ ?_
    | with_reducible refine Lim.bind ?_ (fun _ => ?_)
    | exact Lim.of (fun k => (laws_eqInt64S.mono_l k) _ _ _)

noncomputable def laws_eqReefing.F (l0_0 : List Int) (l0_1 : List Int) (l1_0 : List Int) (l1_1 : List Int) : Option (Bool) := lim (fun k => laws_eqReefing.f k l0_0 l0_1 l1_0 l1_1)
theorem laws_eqReefing.F_eq (l0_0 : List Int) (l0_1 : List Int) (l1_0 : List Int) (l1_1 : List Int) : laws_eqReefing.F l0_0 l0_1 l1_0 l1_1 = (laws_eqInt64S.F l0_0 l1_0).bind fun t110 => (if t110 = true then ((laws_eqInt64S.F l0_1 l1_1).bind fun t111 => (if t111 = true then (some true) else (some false))) else (some false)) := by
  refine Lim.eq (g := fun k => laws_eqReefing.f k l0_0 l0_1 l1_0 l1_1) ?_
  unfold laws_eqReefing.f
  repeat' first
    | exact Lim.const _
    | with_reducible exact Lim.of (fun k => laws_eqInt64S.mono _ _ k)
    | with_reducible refine Lim.ite ?_ ?_
    | with_reducible refine Lim.bind ?_ (fun _ => ?_)
    | exact Lim.of (fun k => laws_eqInt64S.mono _ _ k)

noncomputable def laws_markInt64S.L0 (x0 : List Int) (x1 : Int) (x5 : Int) : Option (Int × List Int) := lim (fun k => laws_markInt64S.l0 k x0 x1 x5)
noncomputable def laws_markInt64S.F (l0 : List Int) (a1 : Int) : Option (Int × List Int) := lim (fun k => laws_markInt64S.f k l0 a1)
theorem laws_markInt64S.L0_eq (x0 : List Int) (x1 : Int) (x5 : Int) : laws_markInt64S.L0 x0 x1 x5 = if x5 < (x0.length : Int) then (if 0 ≤ x5 then (laws_markInt64S.L0 (x0.set (x5 : Int).toNat x1) (wrap64 (x1 + 1)) (wrap64 (x5 + 1))) else (none)) else (some (x1, x0)) := by
  refine Lim.step (f := fun k => if x5 < (x0.length : Int) then (if 0 ≤ x5 then (laws_markInt64S.l0 k (x0.set (x5 : Int).toNat x1) (wrap64 (x1 + 1)) (wrap64 (x5 + 1))) else (none)) else (some (x1, x0))) (fun k => (laws_markInt64S.mono_l k) x0 x1 x5) (fun k => by simp only [laws_markInt64S.l0]) ?_
  repeat' first
    | exact Lim.const _
    | with_reducible exact Lim.of (fun k => (laws_markInt64S.mono_l k) _ _ _)
    | with_reducible refine Lim.ite ?_ ?_
    | with_reducible refine Lim.bind ?_ (fun _ => ?_)
    | exact Lim.of (fun k => (laws_markInt64S.mono_l k) _ _ _)
theorem laws_markInt64S.F_eq (l0 : List Int) (a1 : Int) : laws_markInt64S.F l0 a1 = laws_markInt64S.L0 l0 a1 0 := by
  refine Lim.eq (g := fun k => laws_markInt64S.f k l0 a1) ?_
  unfold laws_markInt64S.f
  repeat' first
    | exact Lim.const _
    | with_reducible exact Lim.of (fun k => (laws_markInt64S.mono_l k) _ _ _)
    | with_reducible refine Lim.ite ?_ ?_
    | with_reducible refine Lim.bind ?_ (fun _ => ?_)
    | exact Lim.of (fun k => (laws_markInt64S.mono_l k) _ _ _)

noncomputable def laws_markReefing.F (l0_0 : List Int) (l0_1 : List Int) (a1 : Int) : Option (Int × List Int × List Int) := lim (fun k => laws_markReefing.f k l0_0 l0_1 a1)
theorem laws_markReefing.F_eq (l0_0 : List Int) (l0_1 : List Int) (a1 : Int) : laws_markReefing.F l0_0 l0_1 a1 = (laws_markInt64S.F l0_0 a1).bind fun bt114 => ((laws_markInt64S.F l0_1 bt114.1).bind fun bt116 => (some (bt116.1, bt114.2, bt116.2))) := by
  refine Lim.eq (g := fun k => laws_markReefing.f k l0_0 l0_1 a1) ?_
  unfold laws_markReefing.f
  repeat' first
    | exact Lim.const _
    | with_reducible exact Lim.of (fun k => laws_markInt64S.mono _ _ k)
    | with_reducible refine Lim.ite ?_ ?_
    | with_reducible refine Lim.bind ?_ (fun _ => ?_)
    | exact Lim.of (fun k => laws_markInt64S.mono _ _ k)

noncomputable def laws_toReefing.F (l0_0 : List Int) (l0_1 : List Int) : Option (List Int × List Int) := lim (fun k => laws_toReefing.f k l0_0 l0_1)
theorem laws_toReefing.F_eq (l0_0 : List Int) (l0_1 : List Int) : laws_toReefing.F l0_0 l0_1 = (laws_toInt64S.F l0_0).bind fun t124 => ((laws_toInt64S.F l0_1).bind fun t127 => (some (t124, t127))) := by
  refine Lim.eq (g := fun k => laws_toReefing.f k l0_0 l0_1) ?_
  unfold laws_toReefing.f
  repeat' first
    | exact Lim.const _
    | with_reducible exact Lim.of (fun k => laws_toInt64S.mono _ k)
    | with_reducible refine Lim.ite ?_ ?_
    | with_reducible refine Lim.bind ?_ (fun _ => ?_)
    | exact Lim.of (fun k => laws_toInt64S.mono _ k)

noncomputable def spec_l18Winds.L0 (x0 : List Int) (x3 : Int) : Option (Bool) := lim (fun k => spec_l18Winds.l0 k x0 x3)
noncomputable def spec_l18Winds.F (l0 : List Int) : Option (Bool) := lim (fun k => spec_l18Winds.f k l0)
theorem spec_l18Winds.L0_eq (x0 : List Int) (x3 : Int) : spec_l18Winds.L0 x0 x3 = if x3 < (x0.length : Int) then (if 0 ≤ x3 then ((spec_l18Wind.f (rd x0 x3)).bind fun t132 => (if t132 = true then (spec_l18Winds.L0 x0 (wrap64 (x3 + 1))) else (some false))) else (none)) else (some (decide ((x0.length : Int) ≤ 60))) := by
  refine Lim.step (f := fun k => if x3 < (x0.length : Int) then (if 0 ≤ x3 then ((spec_l18Wind.f (rd x0 x3)).bind fun t132 => (if t132 = true then (spec_l18Winds.l0 k x0 (wrap64 (x3 + 1))) else (some false))) else (none)) else (some (decide ((x0.length : Int) ≤ 60)))) (fun k => (spec_l18Winds.mono_l k) x0 x3) (fun k => by simp only [spec_l18Winds.l0]) ?_
  repeat' first
    | exact Lim.const _
    | with_reducible exact Lim.of (fun k => (spec_l18Winds.mono_l k) _ _)
    | with_reducible refine Lim.ite ?_ ?_
    | with_reducible refine Lim.bind ?_ (fun _ => ?_)
    | exact Lim.of (fun k => (spec_l18Winds.mono_l k) _ _)
theorem spec_l18Winds.F_eq (l0 : List Int) : spec_l18Winds.F l0 = spec_l18Winds.L0 l0 0 := by
  refine Lim.eq (g := fun k => spec_l18Winds.f k l0) ?_
  unfold spec_l18Winds.f
  repeat' first
    | exact Lim.const _
    | with_reducible exact Lim.of (fun k => (spec_l18Winds.mono_l k) _ _)
    | with_reducible refine Lim.ite ?_ ?_
    | with_reducible refine Lim.bind ?_ (fun _ => ?_)
    | exact Lim.of (fun k => (spec_l18Winds.mono_l k) _ _)

noncomputable def spec_l00Rises.L0 (x0 : List Int) (x1 : Int) (x2 : Int) (x7 : Int) : Option (Bool) := lim (fun k => spec_l00Rises.l0 k x0 x1 x2 x7)
noncomputable def spec_l00Rises.F (l0 : List Int) (a1 : Int) (a2 : Int) : Option (Bool) := lim (fun k => spec_l00Rises.f k l0 a1 a2)
theorem spec_l00Rises.L0_eq (x0 : List Int) (x1 : Int) (x2 : Int) (x7 : Int) : spec_l00Rises.L0 x0 x1 x2 x7 = if x7 < (x0.length : Int) then (if 0 ≤ x7 then ((spec_l00In.f (rd x0 x7) x1 x2).bind fun t134 => (if t134 = true then (if x7 > 0 then (if 0 ≤ (wrap64 (x7 - 1)) then (if (wrap64 (x7 - 1)) < (x0.length : Int) then (if (rd x0 (wrap64 (x7 - 1))) ≥ (rd x0 x7) then (some false) else (spec_l00Rises.L0 x0 x1 x2 (wrap64 (x7 + 1)))) else (none)) else (none)) else (spec_l00Rises.L0 x0 x1 x2 (wrap64 (x7 + 1)))) else (some false))) else (none)) else (some true) := by
  refine Lim.step (f := fun k => if x7 < (x0.length : Int) then (if 0 ≤ x7 then ((spec_l00In.f (rd x0 x7) x1 x2).bind fun t134 => (if t134 = true then (if x7 > 0 then (if 0 ≤ (wrap64 (x7 - 1)) then (if (wrap64 (x7 - 1)) < (x0.length : Int) then (if (rd x0 (wrap64 (x7 - 1))) ≥ (rd x0 x7) then (some false) else (spec_l00Rises.l0 k x0 x1 x2 (wrap64 (x7 + 1)))) else (none)) else (none)) else (spec_l00Rises.l0 k x0 x1 x2 (wrap64 (x7 + 1)))) else (some false))) else (none)) else (some true)) (fun k => (spec_l00Rises.mono_l k) x0 x1 x2 x7) (fun k => by simp only [spec_l00Rises.l0]) ?_
  repeat' first
    | exact Lim.const _
    | with_reducible exact Lim.of (fun k => (spec_l00Rises.mono_l k) _ _ _ _)
    | with_reducible refine Lim.ite ?_ ?_
    | with_reducible refine Lim.bind ?_ (fun _ => ?_)
    | exact Lim.of (fun k => (spec_l00Rises.mono_l k) _ _ _ _)
theorem spec_l00Rises.F_eq (l0 : List Int) (a1 : Int) (a2 : Int) : spec_l00Rises.F l0 a1 a2 = spec_l00Rises.L0 l0 a1 a2 0 := by
  refine Lim.eq (g := fun k => spec_l00Rises.f k l0 a1 a2) ?_
  unfold spec_l00Rises.f
  repeat' first
    | exact Lim.const _
    | with_reducible exact Lim.of (fun k => (spec_l00Rises.mono_l k) _ _ _ _)
    | with_reducible refine Lim.ite ?_ ?_
    | with_reducible refine Lim.bind ?_ (fun _ => ?_)
    | exact Lim.of (fun k => (spec_l00Rises.mono_l k) _ _ _ _)

noncomputable def spec_l18Ok.J0 (x0 : List (S40)) (x3 : Int) (x36 : Bool) : Option (Bool) := lim (fun k => spec_l18Ok.j0 k x0 x3 x36)
noncomputable def spec_l18Ok.L0 (x0 : List (S40)) (x3 : Int) (x4 : Int) : Option (Bool) := lim (fun k => spec_l18Ok.l0 k x0 x3 x4)
noncomputable def spec_l18Ok.F (l0 : List (S40)) : Option (Bool) := lim (fun k => spec_l18Ok.f k l0)
theorem spec_l18Ok.J0_eq (x0 : List (S40)) (x3 : Int) (x36 : Bool) : spec_l18Ok.J0 x0 x3 x36 = if x36 = true then (some false) else (spec_l18Ok.L0 x0 x3 0) := by
  refine Lim.step (f := fun k => if x36 = true then (some false) else (spec_l18Ok.l0 k x0 x3 0)) (fun k => (spec_l18Ok.mono_l k).1 x0 x3 x36) (fun k => by simp only [spec_l18Ok.j0]) ?_
  repeat' first
    | exact Lim.const _
    | with_reducible exact Lim.of (fun k => (spec_l18Ok.mono_l k).2 _ _ _)
    | with_reducible refine Lim.ite ?_ ?_
    | with_reducible refine Lim.bind ?_ (fun _ => ?_)
    | exact Lim.of (fun k => (spec_l18Ok.mono_l k).2 _ _ _)
theorem spec_l18Ok.L0_eq (x0 : List (S40)) (x3 : Int) (x4 : Int) : spec_l18Ok.L0 x0 x3 x4 = if x4 < x3 then (if 0 ≤ x4 then (if x4 < (((rd_T40 x0 0).f1).length : Int) then (if x4 < (((rd_T40 x0 0).f0).length : Int) then (if (rd ((rd_T40 x0 0).f1) x4) > (rd ((rd_T40 x0 0).f0) x4) then (some false) else (spec_l18Ok.L0 x0 x3 (wrap64 (x4 + 1)))) else (none)) else (none)) else (none)) else (some true) := by
  refine Lim.step (f := fun k => if x4 < x3 then (if 0 ≤ x4 then (if x4 < (((rd_T40 x0 0).f1).length : Int) then (if x4 < (((rd_T40 x0 0).f0).length : Int) then (if (rd ((rd_T40 x0 0).f1) x4) > (rd ((rd_T40 x0 0).f0) x4) then (some false) else (spec_l18Ok.l0 k x0 x3 (wrap64 (x4 + 1)))) else (none)) else (none)) else (none)) else (some true)) (fun k => (spec_l18Ok.mono_l k).2 x0 x3 x4) (fun k => by simp only [spec_l18Ok.l0]) ?_
  repeat' first
    | exact Lim.const _
    | with_reducible exact Lim.of (fun k => (spec_l18Ok.mono_l k).2 _ _ _)
    | with_reducible refine Lim.ite ?_ ?_
    | with_reducible refine Lim.bind ?_ (fun _ => ?_)
    | exact Lim.of (fun k => (spec_l18Ok.mono_l k).2 _ _ _)
theorem spec_l18Ok.F_eq (l0 : List (S40)) : spec_l18Ok.F l0 = if 0 < (l0.length : Int) then (if (((rd_T40 l0 0).f1).length : Int) = (((rd_T40 l0 0).f0).length : Int) then (if (((rd_T40 l0 0).f0).length : Int) > 6 then (spec_l18Ok.J0 l0 (((rd_T40 l0 0).f0).length : Int) true) else ((spec_l00Rises.F ((rd_T40 l0 0).f0) 1 600).bind fun t141 => (if t141 = true then ((spec_l00Rises.F ((rd_T40 l0 0).f1) 0 600).bind fun t143 => (spec_l18Ok.J0 l0 (((rd_T40 l0 0).f0).length : Int) (!t143))) else (spec_l18Ok.J0 l0 (((rd_T40 l0 0).f0).length : Int) true)))) else (spec_l18Ok.J0 l0 (((rd_T40 l0 0).f0).length : Int) true)) else (none) := by
  refine Lim.eq (g := fun k => spec_l18Ok.f k l0) ?_
  unfold spec_l18Ok.f
  repeat' first
    | exact Lim.const _
    | with_reducible exact Lim.of (fun k => spec_l00Rises.mono _ _ _ k)
    | with_reducible exact Lim.of (fun k => (spec_l18Ok.mono_l k).1 _ _ _)
    | with_reducible refine Lim.ite ?_ ?_
    | with_reducible refine Lim.bind ?_ (fun _ => ?_)
    | exact Lim.of (fun k => spec_l00Rises.mono _ _ _ k)
    | exact Lim.of (fun k => (spec_l18Ok.mono_l k).1 _ _ _)

noncomputable def spec_l18Code.F (l0 : List (S40)) (a1 : Int) (l2 : List Int) : Option (Int) := lim (fun k => spec_l18Code.f k l0 a1 l2)
theorem spec_l18Code.F_eq (l0 : List (S40)) (a1 : Int) (l2 : List Int) : spec_l18Code.F l0 a1 l2 = if 0 < (l0.length : Int) then ((spec_l18Ok.F l0).bind fun t149 => (if t149 = true then ((spec_l00In.f a1 0 (((rd_T40 l0 0).f0).length : Int)).bind fun t151 => (if t151 = true then ((spec_l18Winds.F l2).bind fun t152 => (if t152 = true then (some 0) else (some 2))) else (some 2))) else (some 1))) else (none) := by
  refine Lim.eq (g := fun k => spec_l18Code.f k l0 a1 l2) ?_
  unfold spec_l18Code.f
  repeat' first
    | exact Lim.const _
    | with_reducible exact Lim.of (fun k => spec_l18Ok.mono _ k)
    | with_reducible exact Lim.of (fun k => spec_l18Winds.mono _ k)
    | with_reducible refine Lim.ite ?_ ?_
    | with_reducible refine Lim.bind ?_ (fun _ => ?_)
    | exact Lim.of (fun k => spec_l18Ok.mono _ k)
    | exact Lim.of (fun k => spec_l18Winds.mono _ k)

noncomputable def spec_l18Next.J1 (x0 : List (S40)) (x1 : Int) (x2 : Int) : Option (Int) := lim (fun k => spec_l18Next.j1 k x0 x1 x2)
noncomputable def spec_l18Next.L1 (x0 : List (S40)) (x1 : Int) (x2 : Int) : Option (Int) := lim (fun k => spec_l18Next.l1 k x0 x1 x2)
noncomputable def spec_l18Next.L0 (x0 : List (S40)) (x1 : Int) (x2 : Int) : Option (Int) := lim (fun k => spec_l18Next.l0 k x0 x1 x2)
noncomputable def spec_l18Next.F (l0 : List (S40)) (a1 : Int) (a2 : Int) : Option (Int) := lim (fun k => spec_l18Next.f k l0 a1 a2)
theorem spec_l18Next.J1_eq (x0 : List (S40)) (x1 : Int) (x2 : Int) : spec_l18Next.J1 x0 x1 x2 = spec_l18Next.L1 x0 x1 x2 := by
  refine Lim.step (f := fun k => spec_l18Next.l1 k x0 x1 x2) (fun k => (spec_l18Next.mono_l k).1 x0 x1 x2) (fun k => by simp only [spec_l18Next.j1]) ?_
  repeat' first
    | exact Lim.const _
    | with_reducible exact Lim.of (fun k => (spec_l18Next.mono_l k).2.1 _ _ _)
    | with_reducible refine Lim.ite ?_ ?_
    | with_reducible refine Lim.bind ?_ (fun _ => ?_)
    | exact Lim.of (fun k => (spec_l18Next.mono_l k).2.1 _ _ _)
theorem spec_l18Next.L1_eq (x0 : List (S40)) (x1 : Int) (x2 : Int) : spec_l18Next.L1 x0 x1 x2 = if x1 > 0 then (if 0 ≤ (wrap64 (x1 - 1)) then (if (wrap64 (x1 - 1)) < (((rd_T40 x0 0).f1).length : Int) then (if x2 < (rd ((rd_T40 x0 0).f1) (wrap64 (x1 - 1))) then (spec_l18Next.L1 x0 (wrap64 (x1 - 1)) x2) else (some x1)) else (none)) else (none)) else (some x1) := by
  refine Lim.step (f := fun k => if x1 > 0 then (if 0 ≤ (wrap64 (x1 - 1)) then (if (wrap64 (x1 - 1)) < (((rd_T40 x0 0).f1).length : Int) then (if x2 < (rd ((rd_T40 x0 0).f1) (wrap64 (x1 - 1))) then (spec_l18Next.l1 k x0 (wrap64 (x1 - 1)) x2) else (some x1)) else (none)) else (none)) else (some x1)) (fun k => (spec_l18Next.mono_l k).2.1 x0 x1 x2) (fun k => by simp only [spec_l18Next.l1]) ?_
  repeat' first
    | exact Lim.const _
    | with_reducible exact Lim.of (fun k => (spec_l18Next.mono_l k).2.1 _ _ _)
    | with_reducible refine Lim.ite ?_ ?_
    | with_reducible refine Lim.bind ?_ (fun _ => ?_)
    | exact Lim.of (fun k => (spec_l18Next.mono_l k).2.1 _ _ _)
theorem spec_l18Next.L0_eq (x0 : List (S40)) (x1 : Int) (x2 : Int) : spec_l18Next.L0 x0 x1 x2 = if x1 < (((rd_T40 x0 0).f0).length : Int) then (if 0 ≤ x1 then (if x2 ≥ (rd ((rd_T40 x0 0).f0) x1) then (spec_l18Next.L0 x0 (wrap64 (x1 + 1)) x2) else (spec_l18Next.J1 x0 x1 x2)) else (none)) else (spec_l18Next.J1 x0 x1 x2) := by
  refine Lim.step (f := fun k => if x1 < (((rd_T40 x0 0).f0).length : Int) then (if 0 ≤ x1 then (if x2 ≥ (rd ((rd_T40 x0 0).f0) x1) then (spec_l18Next.l0 k x0 (wrap64 (x1 + 1)) x2) else (spec_l18Next.j1 k x0 x1 x2)) else (none)) else (spec_l18Next.j1 k x0 x1 x2)) (fun k => (spec_l18Next.mono_l k).2.2 x0 x1 x2) (fun k => by simp only [spec_l18Next.l0]) ?_
  repeat' first
    | exact Lim.const _
    | with_reducible exact Lim.of (fun k => (spec_l18Next.mono_l k).1 _ _ _)
    | with_reducible exact Lim.of (fun k => (spec_l18Next.mono_l k).2.2 _ _ _)
    | with_reducible refine Lim.ite ?_ ?_
    | with_reducible refine Lim.bind ?_ (fun _ => ?_)
    | exact Lim.of (fun k => (spec_l18Next.mono_l k).1 _ _ _)
    | exact Lim.of (fun k => (spec_l18Next.mono_l k).2.2 _ _ _)
theorem spec_l18Next.F_eq (l0 : List (S40)) (a1 : Int) (a2 : Int) : spec_l18Next.F l0 a1 a2 = if 0 < (l0.length : Int) then (spec_l18Next.L0 l0 a1 a2) else (none) := by
  refine Lim.eq (g := fun k => spec_l18Next.f k l0 a1 a2) ?_
  unfold spec_l18Next.f
  repeat' first
    | exact Lim.const _
    | with_reducible exact Lim.of (fun k => (spec_l18Next.mono_l k).2.2 _ _ _)
    | with_reducible refine Lim.ite ?_ ?_
    | with_reducible refine Lim.bind ?_ (fun _ => ?_)
    | exact Lim.of (fun k => (spec_l18Next.mono_l k).2.2 _ _ _)

noncomputable def spec_l18Run.L0 (x0 : List (S40)) (x1 : Int) (x2 : List Int) (x7 : List Int) (x8 : Int) : Option (List Int) := lim (fun k => spec_l18Run.l0 k x0 x1 x2 x7 x8)
noncomputable def spec_l18Run.F (l0 : List (S40)) (a1 : Int) (l2 : List Int) : Option (List Int) := lim (fun k => spec_l18Run.f k l0 a1 l2)
theorem spec_l18Run.L0_eq (x0 : List (S40)) (x1 : Int) (x2 : List Int) (x7 : List Int) (x8 : Int) : spec_l18Run.L0 x0 x1 x2 x7 x8 = if x8 < (x2.length : Int) then (if 0 ≤ x8 then ((spec_l18Next.F x0 x1 (rd x2 x8)).bind fun t164 => (if x7.length < 17592186044416 then (spec_l18Run.L0 x0 t164 x2 (x7 ++ [t164]) (wrap64 (x8 + 1))) else (none))) else (none)) else (some x7) := by
  refine Lim.step (f := fun k => if x8 < (x2.length : Int) then (if 0 ≤ x8 then ((spec_l18Next.f k x0 x1 (rd x2 x8)).bind fun t164 => (if x7.length < 17592186044416 then (spec_l18Run.l0 k x0 t164 x2 (x7 ++ [t164]) (wrap64 (x8 + 1))) else (none))) else (none)) else (some x7)) (fun k => (spec_l18Run.mono_l k) x0 x1 x2 x7 x8) (fun k => by simp only [spec_l18Run.l0]) ?_
  repeat' first
    | exact Lim.const _
    | with_reducible exact Lim.of (fun k => spec_l18Next.mono _ _ _ k)
    | with_reducible exact Lim.of (fun k => (spec_l18Run.mono_l k) _ _ _ _ _)
    | with_reducible refine Lim.ite ?_ ?_
    | with_reducible refine Lim.bind ?_ (fun _ => ?_)
    | exact Lim.of (fun k => spec_l18Next.mono _ _ _ k)
    | exact Lim.of (fun k => (spec_l18Run.mono_l k) _ _ _ _ _)
theorem spec_l18Run.F_eq (l0 : List (S40)) (a1 : Int) (l2 : List Int) : spec_l18Run.F l0 a1 l2 = if 0 < (l0.length : Int) then (spec_l18Run.L0 l0 a1 l2 (([] : List Int)) 0) else (none) := by
  refine Lim.eq (g := fun k => spec_l18Run.f k l0 a1 l2) ?_
  unfold spec_l18Run.f
  repeat' first
    | exact Lim.const _
    | with_reducible exact Lim.of (fun k => (spec_l18Run.mono_l k) _ _ _ _ _)
    | with_reducible refine Lim.ite ?_ ?_
    | with_reducible refine Lim.bind ?_ (fun _ => ?_)
    | exact Lim.of (fun k => (spec_l18Run.mono_l k) _ _ _ _ _)

noncomputable def spec_RunReefs.F (l0_0 : List Int) (l0_1 : List Int) (a1 : Int) (l2 : List Int) : Option (List Int × Int) := lim (fun k => spec_RunReefs.f k l0_0 l0_1 a1 l2)
theorem spec_RunReefs.F_eq (l0_0 : List Int) (l0_1 : List Int) (a1 : Int) (l2 : List Int) : spec_RunReefs.F l0_0 l0_1 a1 l2 = (spec_l18Code.F [(⟨l0_0, l0_1⟩ : S40)] a1 l2).bind fun t170 => (if t170 = 0 then ((spec_l18Run.F [(⟨l0_0, l0_1⟩ : S40)] a1 l2).bind fun t172 => (some (t172, 0))) else (some (([] : List Int), t170))) := by
  refine Lim.eq (g := fun k => spec_RunReefs.f k l0_0 l0_1 a1 l2) ?_
  unfold spec_RunReefs.f
  repeat' first
    | exact Lim.const _
    | with_reducible exact Lim.of (fun k => spec_l18Code.mono _ _ _ k)
    | with_reducible exact Lim.of (fun k => spec_l18Run.mono _ _ _ k)
    | with_reducible refine Lim.ite ?_ ?_
    | with_reducible refine Lim.bind ?_ (fun _ => ?_)
    | exact Lim.of (fun k => spec_l18Code.mono _ _ _ k)
    | exact Lim.of (fun k => spec_l18Run.mono _ _ _ k)

noncomputable def impl_ValidReefing.J0 (x17 : Bool) (x176000 : List Int) (x176001 : List Int) : Option (Bool) := lim (fun k => impl_ValidReefing.j0 k x17 x176000 x176001)
noncomputable def impl_ValidReefing.L0 (x19 : List Int) (x20 : Int) (x21 : Int) (x176000 : List Int) (x176001 : List Int) : Option (Bool) := lim (fun k => impl_ValidReefing.l0 k x19 x20 x21 x176000 x176001)
noncomputable def impl_ValidReefing.F (l0_0 : List Int) (l0_1 : List Int) : Option (Bool) := lim (fun k => impl_ValidReefing.f k l0_0 l0_1)
theorem impl_ValidReefing.J0_eq (x17 : Bool) (x176000 : List Int) (x176001 : List Int) : impl_ValidReefing.J0 x17 x176000 x176001 = if x17 = true then (some false) else (impl_ValidReefing.L0 x176000 (x176000.length : Int) 0 x176000 x176001) := by
  refine Lim.step (f := fun k => if x17 = true then (some false) else (impl_ValidReefing.l0 k x176000 (x176000.length : Int) 0 x176000 x176001)) (fun k => (impl_ValidReefing.mono_l k).1 x17 x176000 x176001) (fun k => by simp only [impl_ValidReefing.j0]) ?_
  repeat' first
    | exact Lim.const _
    | with_reducible exact Lim.of (fun k => (impl_ValidReefing.mono_l k).2 _ _ _ _ _)
    | with_reducible refine Lim.ite ?_ ?_
    | with_reducible refine Lim.bind ?_ (fun _ => ?_)
    | exact Lim.of (fun k => (impl_ValidReefing.mono_l k).2 _ _ _ _ _)
theorem impl_ValidReefing.L0_eq (x19 : List Int) (x20 : Int) (x21 : Int) (x176000 : List Int) (x176001 : List Int) : impl_ValidReefing.L0 x19 x20 x21 x176000 x176001 = if x21 < x20 then (if 0 ≤ x21 then (if x21 < (x19.length : Int) then ((impl_within.f (rd x19 x21) 1 600).bind fun t177 => (if t177 = true then (if x21 < (x176001.length : Int) then ((impl_within.f (rd x176001 x21) 0 (rd x19 x21)).bind fun t179 => (if t179 = true then (if x21 > 0 then (if 0 ≤ (wrap64 (x21 - 1)) then (if (wrap64 (x21 - 1)) < (x176000.length : Int) then (if (rd x19 x21) ≤ (rd x176000 (wrap64 (x21 - 1))) then (some false) else (if (wrap64 (x21 - 1)) < (x176001.length : Int) then (if (rd x176001 x21) ≤ (rd x176001 (wrap64 (x21 - 1))) then (some false) else (impl_ValidReefing.L0 x19 x20 (wrap64 (x21 + 1)) x176000 x176001)) else (none))) else (none)) else (none)) else (impl_ValidReefing.L0 x19 x20 (wrap64 (x21 + 1)) x176000 x176001)) else (some false))) else (none)) else (some false))) else (none)) else (none)) else (some true) := by
  refine Lim.step (f := fun k => if x21 < x20 then (if 0 ≤ x21 then (if x21 < (x19.length : Int) then ((impl_within.f (rd x19 x21) 1 600).bind fun t177 => (if t177 = true then (if x21 < (x176001.length : Int) then ((impl_within.f (rd x176001 x21) 0 (rd x19 x21)).bind fun t179 => (if t179 = true then (if x21 > 0 then (if 0 ≤ (wrap64 (x21 - 1)) then (if (wrap64 (x21 - 1)) < (x176000.length : Int) then (if (rd x19 x21) ≤ (rd x176000 (wrap64 (x21 - 1))) then (some false) else (if (wrap64 (x21 - 1)) < (x176001.length : Int) then (if (rd x176001 x21) ≤ (rd x176001 (wrap64 (x21 - 1))) then (some false) else (impl_ValidReefing.l0 k x19 x20 (wrap64 (x21 + 1)) x176000 x176001)) else (none))) else (none)) else (none)) else (impl_ValidReefing.l0 k x19 x20 (wrap64 (x21 + 1)) x176000 x176001)) else (some false))) else (none)) else (some false))) else (none)) else (none)) else (some true)) (fun k => (impl_ValidReefing.mono_l k).2 x19 x20 x21 x176000 x176001) (fun k => by simp only [impl_ValidReefing.l0]) ?_
  repeat' first
    | exact Lim.const _
    | with_reducible exact Lim.of (fun k => (impl_ValidReefing.mono_l k).2 _ _ _ _ _)
    | with_reducible refine Lim.ite ?_ ?_
    | with_reducible refine Lim.bind ?_ (fun _ => ?_)
    | exact Lim.of (fun k => (impl_ValidReefing.mono_l k).2 _ _ _ _ _)
theorem impl_ValidReefing.F_eq (l0_0 : List Int) (l0_1 : List Int) : impl_ValidReefing.F l0_0 l0_1 = if (l0_0.length : Int) > 6 then (impl_ValidReefing.J0 true l0_0 l0_1) else (impl_ValidReefing.J0 ((l0_1.length : Int) != (l0_0.length : Int)) l0_0 l0_1) := by
  refine Lim.eq (g := fun k => impl_ValidReefing.f k l0_0 l0_1) ?_
  unfold impl_ValidReefing.f
  repeat' first
    | exact Lim.const _
    | with_reducible exact Lim.of (fun k => (impl_ValidReefing.mono_l k).1 _ _ _)
    | with_reducible refine Lim.ite ?_ ?_
    | with_reducible refine Lim.bind ?_ (fun _ => ?_)
    | exact Lim.of (fun k => (impl_ValidReefing.mono_l k).1 _ _ _)

noncomputable def impl_areIn.L0 (x2 : Int) (x3 : Int) (x15 : List Int) (x16 : Int) (x17 : Int) : Option (Bool) := lim (fun k => impl_areIn.l0 k x2 x3 x15 x16 x17)
noncomputable def impl_areIn.F (l0 : List Int) (a1 : Int) (a2 : Int) (a3 : Int) : Option (Bool) := lim (fun k => impl_areIn.f k l0 a1 a2 a3)
theorem impl_areIn.L0_eq (x2 : Int) (x3 : Int) (x15 : List Int) (x16 : Int) (x17 : Int) : impl_areIn.L0 x2 x3 x15 x16 x17 = if x17 < x16 then (if 0 ≤ x17 then (if x17 < (x15.length : Int) then ((impl_within.f (rd x15 x17) x2 x3).bind fun t184 => (if t184 = true then (impl_areIn.L0 x2 x3 x15 x16 (wrap64 (x17 + 1))) else (some false))) else (none)) else (none)) else (some true) := by
  refine Lim.step (f := fun k => if x17 < x16 then (if 0 ≤ x17 then (if x17 < (x15.length : Int) then ((impl_within.f (rd x15 x17) x2 x3).bind fun t184 => (if t184 = true then (impl_areIn.l0 k x2 x3 x15 x16 (wrap64 (x17 + 1))) else (some false))) else (none)) else (none)) else (some true)) (fun k => (impl_areIn.mono_l k) x2 x3 x15 x16 x17) (fun k => by simp only [impl_areIn.l0]) ?_
  repeat' first
    | exact Lim.const _
    | with_reducible exact Lim.of (fun k => (impl_areIn.mono_l k) _ _ _ _ _)
    | with_reducible refine Lim.ite ?_ ?_
    | with_reducible refine Lim.bind ?_ (fun _ => ?_)
    | exact Lim.of (fun k => (impl_areIn.mono_l k) _ _ _ _ _)
theorem impl_areIn.F_eq (l0 : List Int) (a1 : Int) (a2 : Int) (a3 : Int) : impl_areIn.F l0 a1 a2 a3 = if (l0.length : Int) = a1 then (impl_areIn.L0 a2 a3 l0 (l0.length : Int) 0) else (some false) := by
  refine Lim.eq (g := fun k => impl_areIn.f k l0 a1 a2 a3) ?_
  unfold impl_areIn.f
  repeat' first
    | exact Lim.const _
    | with_reducible exact Lim.of (fun k => (impl_areIn.mono_l k) _ _ _ _ _)
    | with_reducible refine Lim.ite ?_ ?_
    | with_reducible refine Lim.bind ?_ (fun _ => ?_)
    | exact Lim.of (fun k => (impl_areIn.mono_l k) _ _ _ _ _)

noncomputable def impl_reefCode.F (l0_0 : List Int) (l0_1 : List Int) (a1 : Int) (l2 : List Int) : Option (Int) := lim (fun k => impl_reefCode.f k l0_0 l0_1 a1 l2)
theorem impl_reefCode.F_eq (l0_0 : List Int) (l0_1 : List Int) (a1 : Int) (l2 : List Int) : impl_reefCode.F l0_0 l0_1 a1 l2 = (impl_ValidReefing.F l0_0 l0_1).bind fun t186 => (if t186 = true then ((impl_within.f a1 0 (l0_0.length : Int)).bind fun t187 => (if t187 = true then (if (l2.length : Int) > 60 then (some 2) else ((impl_areIn.F l2 (l2.length : Int) 0 600).bind fun t188 => (if t188 = true then (some 0) else (some 2)))) else (some 2))) else (some 1)) := by
  refine Lim.eq (g := fun k => impl_reefCode.f k l0_0 l0_1 a1 l2) ?_
  unfold impl_reefCode.f
  repeat' first
    | exact Lim.const _
    | with_reducible exact Lim.of (fun k => impl_ValidReefing.mono _ _ k)
    | with_reducible exact Lim.of (fun k => impl_areIn.mono _ _ _ _ k)
    | with_reducible refine Lim.ite ?_ ?_
    | with_reducible refine Lim.bind ?_ (fun _ => ?_)
    | exact Lim.of (fun k => impl_ValidReefing.mono _ _ k)
    | exact Lim.of (fun k => impl_areIn.mono _ _ _ _ k)

noncomputable def impl_nextReef.J1 (x1 : Int) (x2 : Int) (x190000 : List Int) (x190001 : List Int) : Option (Int) := lim (fun k => impl_nextReef.j1 k x1 x2 x190000 x190001)
noncomputable def impl_nextReef.L1 (x1 : Int) (x2 : Int) (x190000 : List Int) (x190001 : List Int) : Option (Int) := lim (fun k => impl_nextReef.l1 k x1 x2 x190000 x190001)
noncomputable def impl_nextReef.L0 (x1 : Int) (x2 : Int) (x190000 : List Int) (x190001 : List Int) : Option (Int) := lim (fun k => impl_nextReef.l0 k x1 x2 x190000 x190001)
noncomputable def impl_nextReef.F (l0_0 : List Int) (l0_1 : List Int) (a1 : Int) (a2 : Int) : Option (Int) := lim (fun k => impl_nextReef.f k l0_0 l0_1 a1 a2)
theorem impl_nextReef.J1_eq (x1 : Int) (x2 : Int) (x190000 : List Int) (x190001 : List Int) : impl_nextReef.J1 x1 x2 x190000 x190001 = impl_nextReef.L1 x1 x2 x190000 x190001 := by
  refine Lim.step (f := fun k => impl_nextReef.l1 k x1 x2 x190000 x190001) (fun k => (impl_nextReef.mono_l k).1 x1 x2 x190000 x190001) (fun k => by simp only [impl_nextReef.j1]) ?_
  repeat' first
    | exact Lim.const _
    | with_reducible exact Lim.of (fun k => (impl_nextReef.mono_l k).2.1 _ _ _ _)
    | with_reducible refine Lim.ite ?_ ?_
    | with_reducible refine Lim.bind ?_ (fun _ => ?_)
    | exact Lim.of (fun k => (impl_nextReef.mono_l k).2.1 _ _ _ _)
theorem impl_nextReef.L1_eq (x1 : Int) (x2 : Int) (x190000 : List Int) (x190001 : List Int) : impl_nextReef.L1 x1 x2 x190000 x190001 = if x1 > 0 then (if 0 ≤ (wrap64 (x1 - 1)) then (if (wrap64 (x1 - 1)) < (x190001.length : Int) then (if x2 < (rd x190001 (wrap64 (x1 - 1))) then (impl_nextReef.L1 (wrap64 (x1 - 1)) x2 x190000 x190001) else (some x1)) else (none)) else (none)) else (some x1) := by
  refine Lim.step (f := fun k => if x1 > 0 then (if 0 ≤ (wrap64 (x1 - 1)) then (if (wrap64 (x1 - 1)) < (x190001.length : Int) then (if x2 < (rd x190001 (wrap64 (x1 - 1))) then (impl_nextReef.l1 k (wrap64 (x1 - 1)) x2 x190000 x190001) else (some x1)) else (none)) else (none)) else (some x1)) (fun k => (impl_nextReef.mono_l k).2.1 x1 x2 x190000 x190001) (fun k => by simp only [impl_nextReef.l1]) ?_
  repeat' first
    | exact Lim.const _
    | with_reducible exact Lim.of (fun k => (impl_nextReef.mono_l k).2.1 _ _ _ _)
    | with_reducible refine Lim.ite ?_ ?_
    | with_reducible refine Lim.bind ?_ (fun _ => ?_)
    | exact Lim.of (fun k => (impl_nextReef.mono_l k).2.1 _ _ _ _)
theorem impl_nextReef.L0_eq (x1 : Int) (x2 : Int) (x190000 : List Int) (x190001 : List Int) : impl_nextReef.L0 x1 x2 x190000 x190001 = if x1 < (x190000.length : Int) then (if 0 ≤ x1 then (if x2 ≥ (rd x190000 x1) then (impl_nextReef.L0 (wrap64 (x1 + 1)) x2 x190000 x190001) else (impl_nextReef.J1 x1 x2 x190000 x190001)) else (none)) else (impl_nextReef.J1 x1 x2 x190000 x190001) := by
  refine Lim.step (f := fun k => if x1 < (x190000.length : Int) then (if 0 ≤ x1 then (if x2 ≥ (rd x190000 x1) then (impl_nextReef.l0 k (wrap64 (x1 + 1)) x2 x190000 x190001) else (impl_nextReef.j1 k x1 x2 x190000 x190001)) else (none)) else (impl_nextReef.j1 k x1 x2 x190000 x190001)) (fun k => (impl_nextReef.mono_l k).2.2 x1 x2 x190000 x190001) (fun k => by simp only [impl_nextReef.l0]) ?_
  repeat' first
    | exact Lim.const _
    | with_reducible exact Lim.of (fun k => (impl_nextReef.mono_l k).1 _ _ _ _)
    | with_reducible exact Lim.of (fun k => (impl_nextReef.mono_l k).2.2 _ _ _ _)
    | with_reducible refine Lim.ite ?_ ?_
    | with_reducible refine Lim.bind ?_ (fun _ => ?_)
    | exact Lim.of (fun k => (impl_nextReef.mono_l k).1 _ _ _ _)
    | exact Lim.of (fun k => (impl_nextReef.mono_l k).2.2 _ _ _ _)
theorem impl_nextReef.F_eq (l0_0 : List Int) (l0_1 : List Int) (a1 : Int) (a2 : Int) : impl_nextReef.F l0_0 l0_1 a1 a2 = impl_nextReef.L0 a1 a2 l0_0 l0_1 := by
  refine Lim.eq (g := fun k => impl_nextReef.f k l0_0 l0_1 a1 a2) ?_
  unfold impl_nextReef.f
  repeat' first
    | exact Lim.const _
    | with_reducible exact Lim.of (fun k => (impl_nextReef.mono_l k).2.2 _ _ _ _)
    | with_reducible refine Lim.ite ?_ ?_
    | with_reducible refine Lim.bind ?_ (fun _ => ?_)
    | exact Lim.of (fun k => (impl_nextReef.mono_l k).2.2 _ _ _ _)

noncomputable def impl_runReefs.L0 (x1 : Int) (x7 : List Int) (x11 : List Int) (x12 : Int) (x13 : Int) (x193000 : List Int) (x193001 : List Int) : Option (List Int) := lim (fun k => impl_runReefs.l0 k x1 x7 x11 x12 x13 x193000 x193001)
noncomputable def impl_runReefs.F (l0_0 : List Int) (l0_1 : List Int) (a1 : Int) (l2 : List Int) : Option (List Int) := lim (fun k => impl_runReefs.f k l0_0 l0_1 a1 l2)
theorem impl_runReefs.L0_eq (x1 : Int) (x7 : List Int) (x11 : List Int) (x12 : Int) (x13 : Int) (x193000 : List Int) (x193001 : List Int) : impl_runReefs.L0 x1 x7 x11 x12 x13 x193000 x193001 = if x13 < x12 then (if 0 ≤ x13 then (if x13 < (x11.length : Int) then ((impl_nextReef.F x193000 x193001 x1 (rd x11 x13)).bind fun t197 => (if x7.length < 17592186044416 then (impl_runReefs.L0 t197 (x7 ++ [t197]) x11 x12 (wrap64 (x13 + 1)) x193000 x193001) else (none))) else (none)) else (none)) else (some x7) := by
  refine Lim.step (f := fun k => if x13 < x12 then (if 0 ≤ x13 then (if x13 < (x11.length : Int) then ((impl_nextReef.f k x193000 x193001 x1 (rd x11 x13)).bind fun t197 => (if x7.length < 17592186044416 then (impl_runReefs.l0 k t197 (x7 ++ [t197]) x11 x12 (wrap64 (x13 + 1)) x193000 x193001) else (none))) else (none)) else (none)) else (some x7)) (fun k => (impl_runReefs.mono_l k) x1 x7 x11 x12 x13 x193000 x193001) (fun k => by simp only [impl_runReefs.l0]) ?_
  repeat' first
    | exact Lim.const _
    | with_reducible exact Lim.of (fun k => impl_nextReef.mono _ _ _ _ k)
    | with_reducible exact Lim.of (fun k => (impl_runReefs.mono_l k) _ _ _ _ _ _ _)
    | with_reducible refine Lim.ite ?_ ?_
    | with_reducible refine Lim.bind ?_ (fun _ => ?_)
    | exact Lim.of (fun k => impl_nextReef.mono _ _ _ _ k)
    | exact Lim.of (fun k => (impl_runReefs.mono_l k) _ _ _ _ _ _ _)
theorem impl_runReefs.F_eq (l0_0 : List Int) (l0_1 : List Int) (a1 : Int) (l2 : List Int) : impl_runReefs.F l0_0 l0_1 a1 l2 = impl_runReefs.L0 a1 (([] : List Int)) l2 (l2.length : Int) 0 l0_0 l0_1 := by
  refine Lim.eq (g := fun k => impl_runReefs.f k l0_0 l0_1 a1 l2) ?_
  unfold impl_runReefs.f
  repeat' first
    | exact Lim.const _
    | with_reducible exact Lim.of (fun k => (impl_runReefs.mono_l k) _ _ _ _ _ _ _)
    | with_reducible refine Lim.ite ?_ ?_
    | with_reducible refine Lim.bind ?_ (fun _ => ?_)
    | exact Lim.of (fun k => (impl_runReefs.mono_l k) _ _ _ _ _ _ _)

noncomputable def impl_RunReefs.F (l0_0 : List Int) (l0_1 : List Int) (a1 : Int) (l2 : List Int) : Option (List Int × Int) := lim (fun k => impl_RunReefs.f k l0_0 l0_1 a1 l2)
theorem impl_RunReefs.F_eq (l0_0 : List Int) (l0_1 : List Int) (a1 : Int) (l2 : List Int) : impl_RunReefs.F l0_0 l0_1 a1 l2 = (impl_reefCode.F l0_0 l0_1 a1 l2).bind fun t202 => (if t202 = 0 then ((impl_runReefs.F l0_0 l0_1 a1 l2).bind fun t203 => (some (t203, 0))) else (some (([] : List Int), t202))) := by
  refine Lim.eq (g := fun k => impl_RunReefs.f k l0_0 l0_1 a1 l2) ?_
  unfold impl_RunReefs.f
  repeat' first
    | exact Lim.const _
    | with_reducible exact Lim.of (fun k => impl_reefCode.mono _ _ _ _ k)
    | with_reducible exact Lim.of (fun k => impl_runReefs.mono _ _ _ _ k)
    | with_reducible refine Lim.ite ?_ ?_
    | with_reducible refine Lim.bind ?_ (fun _ => ?_)
    | exact Lim.of (fun k => impl_reefCode.mono _ _ _ _ k)
    | exact Lim.of (fun k => impl_runReefs.mono _ _ _ _ k)

noncomputable def laws_heldInt64S.L0 (x0 : List Int) (x1 : Int) (x5 : Int) : Option (Int) := lim (fun k => laws_heldInt64S.l0 k x0 x1 x5)
noncomputable def laws_heldInt64S.F (l0 : List Int) (a1 : Int) : Option (Int) := lim (fun k => laws_heldInt64S.f k l0 a1)
theorem laws_heldInt64S.L0_eq (x0 : List Int) (x1 : Int) (x5 : Int) : laws_heldInt64S.L0 x0 x1 x5 = if x5 < (x0.length : Int) then (if 0 ≤ x5 then (if (rd x0 x5) = x1 then (laws_heldInt64S.L0 x0 (wrap64 (x1 + 1)) (wrap64 (x5 + 1))) else (some (-1))) else (none)) else (some x1) := by
  refine Lim.step (f := fun k => if x5 < (x0.length : Int) then (if 0 ≤ x5 then (if (rd x0 x5) = x1 then (laws_heldInt64S.l0 k x0 (wrap64 (x1 + 1)) (wrap64 (x5 + 1))) else (some (-1))) else (none)) else (some x1)) (fun k => (laws_heldInt64S.mono_l k) x0 x1 x5) (fun k => by simp only [laws_heldInt64S.l0]) ?_
  repeat' first
    | exact Lim.const _
    | with_reducible exact Lim.of (fun k => (laws_heldInt64S.mono_l k) _ _ _)
    | with_reducible refine Lim.ite ?_ ?_
    | with_reducible refine Lim.bind ?_ (fun _ => ?_)
    | exact Lim.of (fun k => (laws_heldInt64S.mono_l k) _ _ _)
theorem laws_heldInt64S.F_eq (l0 : List Int) (a1 : Int) : laws_heldInt64S.F l0 a1 = laws_heldInt64S.L0 l0 a1 0 := by
  refine Lim.eq (g := fun k => laws_heldInt64S.f k l0 a1) ?_
  unfold laws_heldInt64S.f
  repeat' first
    | exact Lim.const _
    | with_reducible exact Lim.of (fun k => (laws_heldInt64S.mono_l k) _ _ _)
    | with_reducible refine Lim.ite ?_ ?_
    | with_reducible refine Lim.bind ?_ (fun _ => ?_)
    | exact Lim.of (fun k => (laws_heldInt64S.mono_l k) _ _ _)

noncomputable def laws_FnExactRunReefs.J0 (x1 : Int) (x2 : List Int) (x8 : List Int) (x9 : Int) (x11 : List Int) (x12 : List Int) (x13 : Int) (x55 : Bool) (x208000 : List Int) (x208001 : List Int) (x229000 : List Int) (x229001 : List Int) : Option (Bool) := lim (fun k => laws_FnExactRunReefs.j0 k x1 x2 x8 x9 x11 x12 x13 x55 x208000 x208001 x229000 x229001)
noncomputable def laws_FnExactRunReefs.J1 (x1 : Int) (x2 : List Int) (x8 : List Int) (x9 : Int) (x12 : List Int) (x84 : Bool) (x208000 : List Int) (x208001 : List Int) : Option (Bool) := lim (fun k => laws_FnExactRunReefs.j1 k x1 x2 x8 x9 x12 x84 x208000 x208001)
noncomputable def laws_FnExactRunReefs.J2 (x12 : List Int) (x15 : Int) (x113 : Bool) : Option (Bool) := lim (fun k => laws_FnExactRunReefs.j2 k x12 x15 x113)
noncomputable def laws_FnExactRunReefs.F (l0_0 : List Int) (l0_1 : List Int) (a1 : Int) (l2 : List Int) : Option (Bool) := lim (fun k => laws_FnExactRunReefs.f k l0_0 l0_1 a1 l2)
theorem laws_FnExactRunReefs.J0_eq (x1 : Int) (x2 : List Int) (x8 : List Int) (x9 : Int) (x11 : List Int) (x12 : List Int) (x13 : Int) (x55 : Bool) (x208000 : List Int) (x208001 : List Int) (x229000 : List Int) (x229001 : List Int) : laws_FnExactRunReefs.J0 x1 x2 x8 x9 x11 x12 x13 x55 x208000 x208001 x229000 x229001 = if x55 = true then (some false) else ((laws_toReefing.F x208000 x208001).bind fun bt237 => ((laws_eqReefing.F x229000 x229001 bt237.1 bt237.2).bind fun t243 => (if t243 = true then ((laws_toInt64S.F x2).bind fun t244 => ((laws_eqInt64S.F x11 t244).bind fun t247 => (if t247 = true then ((laws_markReefing.F x229000 x229001 1).bind fun bt248 => ((laws_markInt64S.F x11 bt248.1).bind fun bt251 => (if bt251.1 < 0 then (laws_FnExactRunReefs.J1 x1 x2 x8 x9 x12 true x208000 x208001) else ((laws_eqInt64S.F x12 x8).bind fun t253 => (if t253 = true then (laws_FnExactRunReefs.J1 x1 x2 x8 x9 x12 (x13 != x9) x208000 x208001) else (laws_FnExactRunReefs.J1 x1 x2 x8 x9 x12 true x208000 x208001)))))) else (some false)))) else (some false)))) := by
  refine Lim.step (f := fun k => if x55 = true then (some false) else ((laws_toReefing.f k x208000 x208001).bind fun bt237 => ((laws_eqReefing.f k x229000 x229001 bt237.1 bt237.2).bind fun t243 => (if t243 = true then ((laws_toInt64S.f k x2).bind fun t244 => ((laws_eqInt64S.f k x11 t244).bind fun t247 => (if t247 = true then ((laws_markReefing.f k x229000 x229001 1).bind fun bt248 => ((laws_markInt64S.f k x11 bt248.1).bind fun bt251 => (if bt251.1 < 0 then (laws_FnExactRunReefs.j1 k x1 x2 x8 x9 x12 true x208000 x208001) else ((laws_eqInt64S.f k x12 x8).bind fun t253 => (if t253 = true then (laws_FnExactRunReefs.j1 k x1 x2 x8 x9 x12 (x13 != x9) x208000 x208001) else (laws_FnExactRunReefs.j1 k x1 x2 x8 x9 x12 true x208000 x208001)))))) else (some false)))) else (some false))))) (fun k => (laws_FnExactRunReefs.mono_l k).1 x1 x2 x8 x9 x11 x12 x13 x55 x208000 x208001 x229000 x229001) (fun k => by simp only [laws_FnExactRunReefs.j0]) ?_
  repeat' first
    | exact Lim.const _
    | with_reducible exact Lim.of (fun k => (laws_FnExactRunReefs.mono_l k).2.1 _ _ _ _ _ _ _ _)
    | with_reducible exact Lim.of (fun k => laws_eqInt64S.mono _ _ k)
    | with_reducible exact Lim.of (fun k => laws_eqReefing.mono _ _ _ _ k)
    | with_reducible exact Lim.of (fun k => laws_markInt64S.mono _ _ k)
    | with_reducible exact Lim.of (fun k => laws_markReefing.mono _ _ _ k)
    | with_reducible exact Lim.of (fun k => laws_toInt64S.mono _ k)
    | with_reducible exact Lim.of (fun k => laws_toReefing.mono _ _ k)
    | with_reducible refine Lim.ite ?_ ?_
    | with_reducible refine Lim.bind ?_ (fun _ => ?_)
    | exact Lim.of (fun k => (laws_FnExactRunReefs.mono_l k).2.1 _ _ _ _ _ _ _ _)
    | exact Lim.of (fun k => laws_eqInt64S.mono _ _ k)
    | exact Lim.of (fun k => laws_eqReefing.mono _ _ _ _ k)
    | exact Lim.of (fun k => laws_markInt64S.mono _ _ k)
    | exact Lim.of (fun k => laws_markReefing.mono _ _ _ k)
    | exact Lim.of (fun k => laws_toInt64S.mono _ k)
    | exact Lim.of (fun k => laws_toReefing.mono _ _ k)
theorem laws_FnExactRunReefs.J1_eq (x1 : Int) (x2 : List Int) (x8 : List Int) (x9 : Int) (x12 : List Int) (x84 : Bool) (x208000 : List Int) (x208001 : List Int) : laws_FnExactRunReefs.J1 x1 x2 x8 x9 x12 x84 x208000 x208001 = if x84 = true then (some false) else ((laws_markInt64S.F x12 1).bind fun bt254 => ((laws_heldInt64S.F bt254.2 1).bind fun t256 => (if t256 < 0 then (some false) else (if t256 = bt254.1 then ((laws_toReefing.F x208000 x208001).bind fun bt257 => ((laws_toInt64S.F x2).bind fun t263 => ((impl_RunReefs.F bt257.1 bt257.2 x1 t263).bind fun bt266 => ((laws_eqInt64S.F bt266.1 x8).bind fun t270 => (if t270 = true then (laws_FnExactRunReefs.J2 bt254.2 bt254.1 (bt266.2 != x9)) else (laws_FnExactRunReefs.J2 bt254.2 bt254.1 true)))))) else (some false))))) := by
  refine Lim.step (f := fun k => if x84 = true then (some false) else ((laws_markInt64S.f k x12 1).bind fun bt254 => ((laws_heldInt64S.f k bt254.2 1).bind fun t256 => (if t256 < 0 then (some false) else (if t256 = bt254.1 then ((laws_toReefing.f k x208000 x208001).bind fun bt257 => ((laws_toInt64S.f k x2).bind fun t263 => ((impl_RunReefs.f k bt257.1 bt257.2 x1 t263).bind fun bt266 => ((laws_eqInt64S.f k bt266.1 x8).bind fun t270 => (if t270 = true then (laws_FnExactRunReefs.j2 k bt254.2 bt254.1 (bt266.2 != x9)) else (laws_FnExactRunReefs.j2 k bt254.2 bt254.1 true)))))) else (some false)))))) (fun k => (laws_FnExactRunReefs.mono_l k).2.1 x1 x2 x8 x9 x12 x84 x208000 x208001) (fun k => by simp only [laws_FnExactRunReefs.j1]) ?_
  repeat' first
    | exact Lim.const _
    | with_reducible exact Lim.of (fun k => impl_RunReefs.mono _ _ _ _ k)
    | with_reducible exact Lim.of (fun k => (laws_FnExactRunReefs.mono_l k).2.2 _ _ _)
    | with_reducible exact Lim.of (fun k => laws_eqInt64S.mono _ _ k)
    | with_reducible exact Lim.of (fun k => laws_heldInt64S.mono _ _ k)
    | with_reducible exact Lim.of (fun k => laws_markInt64S.mono _ _ k)
    | with_reducible exact Lim.of (fun k => laws_toInt64S.mono _ k)
    | with_reducible exact Lim.of (fun k => laws_toReefing.mono _ _ k)
    | with_reducible refine Lim.ite ?_ ?_
    | with_reducible refine Lim.bind ?_ (fun _ => ?_)
    | exact Lim.of (fun k => impl_RunReefs.mono _ _ _ _ k)
    | exact Lim.of (fun k => (laws_FnExactRunReefs.mono_l k).2.2 _ _ _)
    | exact Lim.of (fun k => laws_eqInt64S.mono _ _ k)
    | exact Lim.of (fun k => laws_heldInt64S.mono _ _ k)
    | exact Lim.of (fun k => laws_markInt64S.mono _ _ k)
    | exact Lim.of (fun k => laws_toInt64S.mono _ k)
    | exact Lim.of (fun k => laws_toReefing.mono _ _ k)
theorem laws_FnExactRunReefs.J2_eq (x12 : List Int) (x15 : Int) (x113 : Bool) : laws_FnExactRunReefs.J2 x12 x15 x113 = if x113 = true then (some false) else ((laws_heldInt64S.F x12 1).bind fun t271 => (if t271 < 0 then (some false) else (if t271 = x15 then (some true) else (some false)))) := by
  refine Lim.step (f := fun k => if x113 = true then (some false) else ((laws_heldInt64S.f k x12 1).bind fun t271 => (if t271 < 0 then (some false) else (if t271 = x15 then (some true) else (some false))))) (fun k => (laws_FnExactRunReefs.mono_l k).2.2 x12 x15 x113) (fun k => by simp only [laws_FnExactRunReefs.j2]) ?_
  repeat' first
    | exact Lim.const _
    | with_reducible exact Lim.of (fun k => laws_heldInt64S.mono _ _ k)
    | with_reducible refine Lim.ite ?_ ?_
    | with_reducible refine Lim.bind ?_ (fun _ => ?_)
    | exact Lim.of (fun k => laws_heldInt64S.mono _ _ k)
theorem laws_FnExactRunReefs.F_eq (l0_0 : List Int) (l0_1 : List Int) (a1 : Int) (l2 : List Int) : laws_FnExactRunReefs.F l0_0 l0_1 a1 l2 = if (l2.length : Int) > 1048576 then (some true) else ((laws_szReefing.f l0_0 l0_1 1048576).bind fun t208 => (if t208 < 0 then (some true) else ((laws_toReefing.F l0_0 l0_1).bind fun bt209 => ((laws_toInt64S.F l2).bind fun t215 => ((spec_RunReefs.F bt209.1 bt209.2 a1 t215).bind fun bt218 => ((laws_toReefing.F l0_0 l0_1).bind fun bt222 => ((laws_toInt64S.F l2).bind fun t229 => ((impl_RunReefs.F bt222.1 bt222.2 a1 t229).bind fun bt232 => ((laws_eqInt64S.F bt232.1 bt218.1).bind fun t236 => (if t236 = true then (laws_FnExactRunReefs.J0 a1 l2 bt218.1 bt218.2 t229 bt232.1 bt232.2 (bt232.2 != bt218.2) l0_0 l0_1 bt222.1 bt222.2) else (laws_FnExactRunReefs.J0 a1 l2 bt218.1 bt218.2 t229 bt232.1 bt232.2 true l0_0 l0_1 bt222.1 bt222.2))))))))))) := by
  refine Lim.eq (g := fun k => laws_FnExactRunReefs.f k l0_0 l0_1 a1 l2) ?_
  unfold laws_FnExactRunReefs.f
  repeat' first
    | exact Lim.const _
    | with_reducible exact Lim.of (fun k => impl_RunReefs.mono _ _ _ _ k)
    | with_reducible exact Lim.of (fun k => (laws_FnExactRunReefs.mono_l k).1 _ _ _ _ _ _ _ _ _ _ _ _)
    | with_reducible exact Lim.of (fun k => laws_eqInt64S.mono _ _ k)
    | with_reducible exact Lim.of (fun k => laws_toInt64S.mono _ k)
    | with_reducible exact Lim.of (fun k => laws_toReefing.mono _ _ k)
    | with_reducible exact Lim.of (fun k => spec_RunReefs.mono _ _ _ _ k)
    | with_reducible refine Lim.ite ?_ ?_
    | with_reducible refine Lim.bind ?_ (fun _ => ?_)
    | exact Lim.of (fun k => impl_RunReefs.mono _ _ _ _ k)
    | exact Lim.of (fun k => (laws_FnExactRunReefs.mono_l k).1 _ _ _ _ _ _ _ _ _ _ _ _)
    | exact Lim.of (fun k => laws_eqInt64S.mono _ _ k)
    | exact Lim.of (fun k => laws_toInt64S.mono _ k)
    | exact Lim.of (fun k => laws_toReefing.mono _ _ k)
    | exact Lim.of (fun k => spec_RunReefs.mono _ _ _ _ k)

end Go.Proofs.Ytobejjbnklcgpaa.PFnExactRunReefs
