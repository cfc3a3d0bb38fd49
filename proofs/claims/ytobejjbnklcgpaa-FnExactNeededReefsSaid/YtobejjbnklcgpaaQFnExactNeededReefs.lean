/-
  Written by a program of this session (wip/tools/lims.py): the printed functions without their bound on rounds.
-/
import Derived.Test.YtobejjbnklcgpaaPFnExactNeededReefsx1
import Derived.Test.YtobejjbnklcgpaaPFnExactNeededReefsx2
import Derived.Test.YtobejjbnklcgpaaPFnExactNeededReefsx3
import Derived.Test.YtobejjbnklcgpaaPFnExactNeededReefsx4
import Derived.Test.YtobejjbnklcgpaaPFnExactNeededReefsx5
import Derived.Test.YtobejjbnklcgpaaPFnExactNeededReefsx6
import Derived.Test.YtobejjbnklcgpaaKit
set_option linter.unusedVariables false
set_option linter.unusedSimpArgs false
namespace Go.Proofs.Ytobejjbnklcgpaa.PFnExactNeededReefs
open Go.RowKit Go.Proofs.Ytobejjbnklcgpaa.Kit Go.Proofs.YtobejjbnklcgpaaW.PrintWords Go.Proofs.YtobejjbnklcgpaaW.PrintLast Go.Proofs.YtobejjbnklcgpaaW.PrintMore

noncomputable def laws_eqInt64S.L0 (x0 : List Int) (x1 : List Int) (x5 : Int) : Option (Bool) := lim (fun k => laws_eqInt64S.l0 k x0 x1 x5)
noncomputable def laws_eqInt64S.F (l0 : List Int) (l1 : List Int) : Option (Bool) := lim (fun k => laws_eqInt64S.f k l0 l1)
theorem laws_eqInt64S.L0_eq (x0 : List Int) (x1 : List Int) (x5 : Int) : laws_eqInt64S.L0 x0 x1 x5 = if x5 < (x0.length : Int) then (if 0 ≤ x5 then (if x5 < (x1.length : Int) then (if (rd x0 x5) = (rd x1 x5) then (laws_eqInt64S.L0 x0 x1 (wrap64 (x5 + 1))) else (some false)) else (none)) else (none)) else (some true) := by
  refine Lim.step (f := fun k => if x5 < (x0.length : Int) then (if 0 ≤ x5 then (if x5 < (x1.length : Int) then (if (rd x0 x5) = (rd x1 x5) then (laws_eqInt64S.l0 k x0 x1 (wrap64 (x5 + 1))) else (some false)) else (none)) else (none)) else (some true)) (fun k => (laws_eqInt64S.mono_l k) x0 x1 x5) (fun k => by simp only [laws_eqInt64S.l0]) ?_
  repeat' first
    | exact Lim.const _
    | with_reducible exact Lim.of (fun k => (laws_eqInt64S.mono_l k) _ _ _)
    | with_reducible refine Lim.ite ?_ ?_
    | with_reducible refine Lim.bind ?_ (fun _ => ?_)
    | exact Lim.of (fun k => (laws_eqInt64S.mono_l k) _ _ _)
theorem laws_eqInt64S.F_eq (l0 : List Int) (l1 : List Int) : laws_eqInt64S.F l0 l1 = if (l0.length : Int) = (l1.length : Int) then (laws_eqInt64S.L0 l0 l1 0) else (some false) := by
  refine Lim.eq (g := fun k => laws_eqInt64S.f k l0 l1) ?_
  unfold laws_eqInt64S.f
  repeat' first
    | exact Lim.const _
    | with_reducible exact Lim.of (fun k => (laws_eqInt64S.mono_l k) _ _ _)
    | with_reducible refine Lim.ite ?_ ?_
    | with_reducible refine Lim.bind ?_ (fun _ => ?_)
    | exact Lim.of (fun k => (laws_eqInt64S.mono_l k) _ _ _)

noncomputable def laws_eqReefing.F (l0_0 : List Int) (l0_1 : List Int) (l1_0 : List Int) (l1_1 : List Int) : Option (Bool) := lim (fun k => laws_eqReefing.f k l0_0 l0_1 l1_0 l1_1)
theorem laws_eqReefing.F_eq (l0_0 : List Int) (l0_1 : List Int) (l1_0 : List Int) (l1_1 : List Int) : laws_eqReefing.F l0_0 l0_1 l1_0 l1_1 = (laws_eqInt64S.F l0_0 l1_0).bind fun t105 => (if t105 = true then ((laws_eqInt64S.F l0_1 l1_1).bind fun t106 => (if t106 = true then (some true) else (some false))) else (some false)) := by
  refine Lim.eq (g := fun k => laws_eqReefing.f k l0_0 l0_1 l1_0 l1_1) ?_
  unfold laws_eqReefing.f
  repeat' first
    | exact Lim.const _
    | with_reducible exact Lim.of (fun k => laws_eqInt64S.mono _ _ k)
    | with_reducible refine Lim.ite ?_ ?_
    | with_reducible refine Lim.bind ?_ (fun _ => ?_)
    | exact Lim.of (fun k => laws_eqInt64S.mono _ _ k)

noncomputable def spec_l18Winds.L0 (x0 : List Int) (x3 : Int) : Option (Bool) := lim (fun k => spec_l18Winds.l0 k x0 x3)
noncomputable def spec_l18Winds.F (l0 : List Int) : Option (Bool) := lim (fun k => spec_l18Winds.f k l0)
theorem spec_l18Winds.L0_eq (x0 : List Int) (x3 : Int) : spec_l18Winds.L0 x0 x3 = if x3 < (x0.length : Int) then (if 0 ≤ x3 then ((spec_l18Wind.f (rd x0 x3)).bind fun t112 => (if t112 = true then (spec_l18Winds.L0 x0 (wrap64 (x3 + 1))) else (some false))) else (none)) else (some (decide ((x0.length : Int) ≤ 60))) := by
  refine Lim.step (f := fun k => if x3 < (x0.length : Int) then (if 0 ≤ x3 then ((spec_l18Wind.f (rd x0 x3)).bind fun t112 => (if t112 = true then (spec_l18Winds.l0 k x0 (wrap64 (x3 + 1))) else (some false))) else (none)) else (some (decide ((x0.length : Int) ≤ 60)))) (fun k => (spec_l18Winds.mono_l k) x0 x3) (fun k => by simp only [spec_l18Winds.l0]) ?_
  repeat' first
    | exact Lim.const _
    | with_reducible exact Lim.of (fun k => (spec_l18Winds.mono_l k) _ _)
    | with_reducible refine Lim.ite ?_ ?_
    | with_reducible refine Lim.bind ?_ (fun _ => ?_)
    | exact Lim.of (fun k => (spec_l18Winds.mono_l k) _ _)
theorem spec_l18Winds.F_eq (l0 : List Int) : spec_l18Winds.F l0 = spec_l18Winds.L0 l0 0 := by
  refine Lim.eq (g := fun k => spec_l18Winds.f k l0) ?_
  unfold spec_l18Winds.f
  repeat' first
    | exact Lim.const _
    | with_reducible exact Lim.of (fun k => (spec_l18Winds.mono_l k) _ _)
    | with_reducible refine Lim.ite ?_ ?_
    | with_reducible refine Lim.bind ?_ (fun _ => ?_)
    | exact Lim.of (fun k => (spec_l18Winds.mono_l k) _ _)

noncomputable def spec_l00Rises.L0 (x0 : List Int) (x1 : Int) (x2 : Int) (x7 : Int) : Option (Bool) := lim (fun k => spec_l00Rises.l0 k x0 x1 x2 x7)
noncomputable def spec_l00Rises.F (l0 : List Int) (a1 : Int) (a2 : Int) : Option (Bool) := lim (fun k => spec_l00Rises.f k l0 a1 a2)
theorem spec_l00Rises.L0_eq (x0 : List Int) (x1 : Int) (x2 : Int) (x7 : Int) : spec_l00Rises.L0 x0 x1 x2 x7 = if x7 < (x0.length : Int) then (if 0 ≤ x7 then ((spec_l00In.f (rd x0 x7) x1 x2).bind fun t114 => (if t114 = true then (if x7 > 0 then (if 0 ≤ (wrap64 (x7 - 1)) then (if (wrap64 (x7 - 1)) < (x0.length : Int) then (if (rd x0 (wrap64 (x7 - 1))) ≥ (rd x0 x7) then (some false) else (spec_l00Rises.L0 x0 x1 x2 (wrap64 (x7 + 1)))) else (none)) else (none)) else (spec_l00Rises.L0 x0 x1 x2 (wrap64 (x7 + 1)))) else (some false))) else (none)) else (some true) := by
  refine Lim.step (f := fun k => if x7 < (x0.length : Int) then (if 0 ≤ x7 then ((spec_l00In.f (rd x0 x7) x1 x2).bind fun t114 => (if t114 = true then (if x7 > 0 then (if 0 ≤ (wrap64 (x7 - 1)) then (if (wrap64 (x7 - 1)) < (x0.length : Int) then (if (rd x0 (wrap64 (x7 - 1))) ≥ (rd x0 x7) then (some false) else (spec_l00Rises.l0 k x0 x1 x2 (wrap64 (x7 + 1)))) else (none)) else (none)) else (spec_l00Rises.l0 k x0 x1 x2 (wrap64 (x7 + 1)))) else (some false))) else (none)) else (some true)) (fun k => (spec_l00Rises.mono_l k) x0 x1 x2 x7) (fun k => by simp only [spec_l00Rises.l0]) ?_
  repeat' first
    | exact Lim.const _
    | with_reducible exact Lim.of (fun k => (spec_l00Rises.mono_l k) _ _ _ _)
    | with_reducible refine Lim.ite ?_ ?_
    | with_reducible refine Lim.bind ?_ (fun _ => ?_)
    | exact Lim.of (fun k => (spec_l00Rises.mono_l k) _ _ _ _)
theorem spec_l00Rises.F_eq (l0 : List Int) (a1 : Int) (a2 : Int) : spec_l00Rises.F l0 a1 a2 = spec_l00Rises.L0 l0 a1 a2 0 := by
  refine Lim.eq (g := fun k => spec_l00Rises.f k l0 a1 a2) ?_
  unfold spec_l00Rises.f
  repeat' first
    | exact Lim.const _
    | with_reducible exact Lim.of (fun k => (spec_l00Rises.mono_l k) _ _ _ _)
    | with_reducible refine Lim.ite ?_ ?_
    | with_reducible refine Lim.bind ?_ (fun _ => ?_)
    | exact Lim.of (fun k => (spec_l00Rises.mono_l k) _ _ _ _)

noncomputable def spec_l18Ok.J0 (x0 : List (S40)) (x3 : Int) (x36 : Bool) : Option (Bool) := lim (fun k => spec_l18Ok.j0 k x0 x3 x36)
noncomputable def spec_l18Ok.L0 (x0 : List (S40)) (x3 : Int) (x4 : Int) : Option (Bool) := lim (fun k => spec_l18Ok.l0 k x0 x3 x4)
noncomputable def spec_l18Ok.F (l0 : List (S40)) : Option (Bool) := lim (fun k => spec_l18Ok.f k l0)
theorem spec_l18Ok.J0_eq (x0 : List (S40)) (x3 : Int) (x36 : Bool) : spec_l18Ok.J0 x0 x3 x36 = if x36 = true then (some false) else (spec_l18Ok.L0 x0 x3 0) := by
  refine Lim.step (f := fun k => if x36 = true then (some false) else (spec_l18Ok.l0 k x0 x3 0)) (fun k => (spec_l18Ok.mono_l k).1 x0 x3 x36) (fun k => by simp only [spec_l18Ok.j0]) ?_
  repeat' first
    | exact Lim.const _
    | with_reducible exact Lim.of (fun k => (spec_l18Ok.mono_l k).2 _ _ _)
    | with_reducible refine Lim.ite ?_ ?_
    | with_reducible refine Lim.bind ?_ (fun _ => ?_)
    | exact Lim.of (fun k => (spec_l18Ok.mono_l k).2 _ _ _)
theorem spec_l18Ok.L0_eq (x0 : List (S40)) (x3 : Int) (x4 : Int) : spec_l18Ok.L0 x0 x3 x4 = if x4 < x3 then (if 0 ≤ x4 then (if x4 < (((rd_T40 x0 0).f1).length : Int) then (if x4 < (((rd_T40 x0 0).f0).length : Int) then (if (rd ((rd_T40 x0 0).f1) x4) > (rd ((rd_T40 x0 0).f0) x4) then (some false) else (spec_l18Ok.L0 x0 x3 (wrap64 (x4 + 1)))) else (none)) else (none)) else (none)) else (some true) := by
  refine Lim.step (f := fun k => if x4 < x3 then (if 0 ≤ x4 then (if x4 < (((rd_T40 x0 0).f1).length : Int) then (if x4 < (((rd_T40 x0 0).f0).length : Int) then (if (rd ((rd_T40 x0 0).f1) x4) > (rd ((rd_T40 x0 0).f0) x4) then (some false) else (spec_l18Ok.l0 k x0 x3 (wrap64 (x4 + 1)))) else (none)) else (none)) else (none)) else (some true)) (fun k => (spec_l18Ok.mono_l k).2 x0 x3 x4) (fun k => by simp only [spec_l18Ok.l0]) ?_
  repeat' first
    | exact Lim.const _
    | with_reducible exact Lim.of (fun k => (spec_l18Ok.mono_l k).2 _ _ _)
    | with_reducible refine Lim.ite ?_ ?_
    | with_reducible refine Lim.bind ?_ (fun _ => ?_)
    | exact Lim.of (fun k => (spec_l18Ok.mono_l k).2 _ _ _)
theorem spec_l18Ok.F_eq (l0 : List (S40)) : spec_l18Ok.F l0 = if 0 < (l0.length : Int) then (if (((rd_T40 l0 0).f1).length : Int) = (((rd_T40 l0 0).f0).length : Int) then (if (((rd_T40 l0 0).f0).length : Int) > 6 then (spec_l18Ok.J0 l0 (((rd_T40 l0 0).f0).length : Int) true) else ((spec_l00Rises.F ((rd_T40 l0 0).f0) 1 600).bind fun t121 => (if t121 = true then ((spec_l00Rises.F ((rd_T40 l0 0).f1) 0 600).bind fun t123 => (spec_l18Ok.J0 l0 (((rd_T40 l0 0).f0).length : Int) (!t123))) else (spec_l18Ok.J0 l0 (((rd_T40 l0 0).f0).length : Int) true)))) else (spec_l18Ok.J0 l0 (((rd_T40 l0 0).f0).length : Int) true)) else (none) := by
  refine Lim.eq (g := fun k => spec_l18Ok.f k l0) ?_
  unfold spec_l18Ok.f
  repeat' first
    | exact Lim.const _
    | with_reducible exact Lim.of (fun k => spec_l00Rises.mono _ _ _ k)
    | with_reducible exact Lim.of (fun k => (spec_l18Ok.mono_l k).1 _ _ _)
    | with_reducible refine Lim.ite ?_ ?_
    | with_reducible refine Lim.bind ?_ (fun _ => ?_)
    | exact Lim.of (fun k => spec_l00Rises.mono _ _ _ k)
    | exact Lim.of (fun k => (spec_l18Ok.mono_l k).1 _ _ _)

noncomputable def spec_l18Code.F (l0 : List (S40)) (a1 : Int) (l2 : List Int) : Option (Int) := lim (fun k => spec_l18Code.f k l0 a1 l2)
theorem spec_l18Code.F_eq (l0 : List (S40)) (a1 : Int) (l2 : List Int) : spec_l18Code.F l0 a1 l2 = if 0 < (l0.length : Int) then ((spec_l18Ok.F l0).bind fun t129 => (if t129 = true then ((spec_l00In.f a1 0 (((rd_T40 l0 0).f0).length : Int)).bind fun t131 => (if t131 = true then ((spec_l18Winds.F l2).bind fun t132 => (if t132 = true then (some 0) else (some 2))) else (some 2))) else (some 1))) else (none) := by
  refine Lim.eq (g := fun k => spec_l18Code.f k l0 a1 l2) ?_
  unfold spec_l18Code.f
  repeat' first
    | exact Lim.const _
    | with_reducible exact Lim.of (fun k => spec_l18Ok.mono _ k)
    | with_reducible exact Lim.of (fun k => spec_l18Winds.mono _ k)
    | with_reducible refine Lim.ite ?_ ?_
    | with_reducible refine Lim.bind ?_ (fun _ => ?_)
    | exact Lim.of (fun k => spec_l18Ok.mono _ k)
    | exact Lim.of (fun k => spec_l18Winds.mono _ k)

noncomputable def spec_l18Needs.L0 (x0 : List (S40)) (x1 : Int) (x5 : Int) (x6 : Int) : Option (Int) := lim (fun k => spec_l18Needs.l0 k x0 x1 x5 x6)
noncomputable def spec_l18Needs.F (l0 : List (S40)) (a1 : Int) : Option (Int) := lim (fun k => spec_l18Needs.f k l0 a1)
theorem spec_l18Needs.L0_eq (x0 : List (S40)) (x1 : Int) (x5 : Int) (x6 : Int) : spec_l18Needs.L0 x0 x1 x5 x6 = if x6 < (((rd_T40 x0 0).f0).length : Int) then (if 0 ≤ x6 then (if (rd ((rd_T40 x0 0).f0) x6) ≤ x1 then (spec_l18Needs.L0 x0 x1 (wrap64 (x5 + 1)) (wrap64 (x6 + 1))) else (spec_l18Needs.L0 x0 x1 x5 (wrap64 (x6 + 1)))) else (none)) else (some x5) := by
  refine Lim.step (f := fun k => if x6 < (((rd_T40 x0 0).f0).length : Int) then (if 0 ≤ x6 then (if (rd ((rd_T40 x0 0).f0) x6) ≤ x1 then (spec_l18Needs.l0 k x0 x1 (wrap64 (x5 + 1)) (wrap64 (x6 + 1))) else (spec_l18Needs.l0 k x0 x1 x5 (wrap64 (x6 + 1)))) else (none)) else (some x5)) (fun k => (spec_l18Needs.mono_l k) x0 x1 x5 x6) (fun k => by simp only [spec_l18Needs.l0]) ?_
  repeat' first
    | exact Lim.const _
    | with_reducible exact Lim.of (fun k => (spec_l18Needs.mono_l k) _ _ _ _)
    | with_reducible refine Lim.ite ?_ ?_
    | with_reducible refine Lim.bind ?_ (fun _ => ?_)
    | exact Lim.of (fun k => (spec_l18Needs.mono_l k) _ _ _ _)
theorem spec_l18Needs.F_eq (l0 : List (S40)) (a1 : Int) : spec_l18Needs.F l0 a1 = if 0 < (l0.length : Int) then (spec_l18Needs.L0 l0 a1 0 0) else (none) := by
  refine Lim.eq (g := fun k => spec_l18Needs.f k l0 a1) ?_
  unfold spec_l18Needs.f
  repeat' first
    | exact Lim.const _
    | with_reducible exact Lim.of (fun k => (spec_l18Needs.mono_l k) _ _ _ _)
    | with_reducible refine Lim.ite ?_ ?_
    | with_reducible refine Lim.bind ?_ (fun _ => ?_)
    | exact Lim.of (fun k => (spec_l18Needs.mono_l k) _ _ _ _)

noncomputable def spec_NeededReefs.F (l0_0 : List Int) (l0_1 : List Int) (a1 : Int) : Option (Int × Int) := lim (fun k => spec_NeededReefs.f k l0_0 l0_1 a1)
theorem spec_NeededReefs.F_eq (l0_0 : List Int) (l0_1 : List Int) (a1 : Int) : spec_NeededReefs.F l0_0 l0_1 a1 = (spec_l18Code.F [(⟨l0_0, l0_1⟩ : S40)] 0 (([a1] : List Int))).bind fun t142 => (if t142 = 0 then ((spec_l18Needs.F [(⟨l0_0, l0_1⟩ : S40)] a1).bind fun t144 => (some (t144, 0))) else (some (0, t142))) := by
  refine Lim.eq (g := fun k => spec_NeededReefs.f k l0_0 l0_1 a1) ?_
  unfold spec_NeededReefs.f
  repeat' first
    | exact Lim.const _
    | with_reducible exact Lim.of (fun k => spec_l18Code.mono _ _ _ k)
    | with_reducible exact Lim.of (fun k => spec_l18Needs.mono _ _ k)
    | with_reducible refine Lim.ite ?_ ?_
    | with_reducible refine Lim.bind ?_ (fun _ => ?_)
    | exact Lim.of (fun k => spec_l18Code.mono _ _ _ k)
    | exact Lim.of (fun k => spec_l18Needs.mono _ _ k)

noncomputable def laws_toInt64S.L0 (x0 : List Int) (x3 : List Int) (x4 : Int) : Option (List Int) := lim (fun k => laws_toInt64S.l0 k x0 x3 x4)
noncomputable def laws_toInt64S.F (l0 : List Int) : Option (List Int) := lim (fun k => laws_toInt64S.f k l0)
theorem laws_toInt64S.L0_eq (x0 : List Int) (x3 : List Int) (x4 : Int) : laws_toInt64S.L0 x0 x3 x4 = if x4 < (x0.length : Int) then (if 0 ≤ x4 then (if x4 < (x3.length : Int) then (laws_toInt64S.L0 x0 (x3.set (x4 : Int).toNat (rd x0 x4)) (wrap64 (x4 + 1))) else (none)) else (none)) else (some x3) := by
  refine Lim.step (f := fun k => if x4 < (x0.length : Int) then (if 0 ≤ x4 then (if x4 < (x3.length : Int) then (laws_toInt64S.l0 k x0 (x3.set (x4 : Int).toNat (rd x0 x4)) (wrap64 (x4 + 1))) else (none)) else (none)) else (some x3)) (fun k => (laws_toInt64S.mono_l k) x0 x3 x4) (fun k => by simp only [laws_toInt64S.l0]) ?_
  repeat' first
    | exact Lim.const _
    | with_reducible exact Lim.of (fun k => (laws_toInt64S.mono_l k) _ _ _)
    | with_reducible refine Lim.ite ?_ ?_
    | with_reducible refine Lim.bind ?_ (fun _ => ?_)
    | exact Lim.of (fun k => (laws_toInt64S.mono_l k) _ _ _)
theorem laws_toInt64S.F_eq (l0 : List Int) : laws_toInt64S.F l0 = if 0 ≤ (l0.length : Int) then (if ((l0.length : Int) : Int).toNat ≤ 35184372088832 then (laws_toInt64S.L0 l0 (List.replicate ((l0.length : Int) : Int).toNat 0) 0) else (none)) else (none) := by
  refine Lim.eq (g := fun k => laws_toInt64S.f k l0) ?_
  unfold laws_toInt64S.f
  repeat' first
    | exact Lim.const _
    | with_reducible exact Lim.of (fun k => (laws_toInt64S.mono_l k) _ _ _)
    | with_reducible refine Lim.ite ?_ ?_
    | with_reducible refine Lim.bind ?_ (fun _ => ?_)
    | exact Lim.of (fun k => (laws_toInt64S.mono_l k) _ _ _)

noncomputable def laws_toReefing.F (l0_0 : List Int) (l0_1 : List Int) : Option (List Int × List Int) := lim (fun k => laws_toReefing.f k l0_0 l0_1)
theorem laws_toReefing.F_eq (l0_0 : List Int) (l0_1 : List Int) : laws_toReefing.F l0_0 l0_1 = (laws_toInt64S.F l0_0).bind fun t153 => ((laws_toInt64S.F l0_1).bind fun t156 => (some (t153, t156))) := by
  refine Lim.eq (g := fun k => laws_toReefing.f k l0_0 l0_1) ?_
  unfold laws_toReefing.f
  repeat' first
    | exact Lim.const _
    | with_reducible exact Lim.of (fun k => laws_toInt64S.mono _ k)
    | with_reducible refine Lim.ite ?_ ?_
    | with_reducible refine Lim.bind ?_ (fun _ => ?_)
    | exact Lim.of (fun k => laws_toInt64S.mono _ k)

noncomputable def impl_ValidReefing.J0 (x17 : Bool) (x160000 : List Int) (x160001 : List Int) : Option (Bool) := lim (fun k => impl_ValidReefing.j0 k x17 x160000 x160001)
noncomputable def impl_ValidReefing.L0 (x19 : List Int) (x20 : Int) (x21 : Int) (x160000 : List Int) (x160001 : List Int) : Option (Bool) := lim (fun k => impl_ValidReefing.l0 k x19 x20 x21 x160000 x160001)
noncomputable def impl_ValidReefing.F (l0_0 : List Int) (l0_1 : List Int) : Option (Bool) := lim (fun k => impl_ValidReefing.f k l0_0 l0_1)
theorem impl_ValidReefing.J0_eq (x17 : Bool) (x160000 : List Int) (x160001 : List Int) : impl_ValidReefing.J0 x17 x160000 x160001 = if x17 = true then (some false) else (impl_ValidReefing.L0 x160000 (x160000.length : Int) 0 x160000 x160001) := by
  refine Lim.step (f := fun k => if x17 = true then (some false) else (impl_ValidReefing.l0 k x160000 (x160000.length : Int) 0 x160000 x160001)) (fun k => (impl_ValidReefing.mono_l k).1 x17 x160000 x160001) (fun k => by simp only [impl_ValidReefing.j0]) ?_
  repeat' first
    | exact Lim.const _
    | with_reducible exact Lim.of (fun k => (impl_ValidReefing.mono_l k).2 _ _ _ _ _)
    | with_reducible refine Lim.ite ?_ ?_
    | with_reducible refine Lim.bind ?_ (fun _ => ?_)
    | exact Lim.of (fun k => (impl_ValidReefing.mono_l k).2 _ _ _ _ _)
theorem impl_ValidReefing.L0_eq (x19 : List Int) (x20 : Int) (x21 : Int) (x160000 : List Int) (x160001 : List Int) : impl_ValidReefing.L0 x19 x20 x21 x160000 x160001 = if x21 < x20 then (if 0 ≤ x21 then (if x21 < (x19.length : Int) then ((impl_within.f (rd x19 x21) 1 600).bind fun t161 => (if t161 = true then (if x21 < (x160001.length : Int) then ((impl_within.f (rd x160001 x21) 0 (rd x19 x21)).bind fun t163 => (if t163 = true then (if x21 > 0 then (if 0 ≤ (wrap64 (x21 - 1)) then (if (wrap64 (x21 - 1)) < (x160000.length : Int) then (if (rd x19 x21) ≤ (rd x160000 (wrap64 (x21 - 1))) then (some false) else (if (wrap64 (x21 - 1)) < (x160001.length : Int) then (if (rd x160001 x21) ≤ (rd x160001 (wrap64 (x21 - 1))) then (some false) else (impl_ValidReefing.L0 x19 x20 (wrap64 (x21 + 1)) x160000 x160001)) else (none))) else (none)) else (none)) else (impl_ValidReefing.L0 x19 x20 (wrap64 (x21 + 1)) x160000 x160001)) else (some false))) else (none)) else (some false))) else (none)) else (none)) else (some true) := by
  refine Lim.step (f := fun k => if x21 < x20 then (if 0 ≤ x21 then (if x21 < (x19.length : Int) then ((impl_within.f (rd x19 x21) 1 600).bind fun t161 => (if t161 = true then (if x21 < (x160001.length : Int) then ((impl_within.f (rd x160001 x21) 0 (rd x19 x21)).bind fun t163 => (if t163 = true then (if x21 > 0 then (if 0 ≤ (wrap64 (x21 - 1)) then (if (wrap64 (x21 - 1)) < (x160000.length : Int) then (if (rd x19 x21) ≤ (rd x160000 (wrap64 (x21 - 1))) then (some false) else (if (wrap64 (x21 - 1)) < (x160001.length : Int) then (if (rd x160001 x21) ≤ (rd x160001 (wrap64 (x21 - 1))) then (some false) else (impl_ValidReefing.l0 k x19 x20 (wrap64 (x21 + 1)) x160000 x160001)) else (none))) else (none)) else (none)) else (impl_ValidReefing.l0 k x19 x20 (wrap64 (x21 + 1)) x160000 x160001)) else (some false))) else (none)) else (some false))) else (none)) else (none)) else (some true)) (fun k => (impl_ValidReefing.mono_l k).2 x19 x20 x21 x160000 x160001) (fun k => by simp only [impl_ValidReefing.l0]) ?_
  repeat' first
    | exact Lim.const _
    | with_reducible exact Lim.of (fun k => (impl_ValidReefing.mono_l k).2 _ _ _ _ _)
    | with_reducible refine Lim.ite ?_ ?_
    | with_reducible refine Lim.bind ?_ (fun _ => ?_)
    | exact Lim.of (fun k => (impl_ValidReefing.mono_l k).2 _ _ _ _ _)
theorem impl_ValidReefing.F_eq (l0_0 : List Int) (l0_1 : List Int) : impl_ValidReefing.F l0_0 l0_1 = if (l0_0.length : Int) > 6 then (impl_ValidReefing.J0 true l0_0 l0_1) else (impl_ValidReefing.J0 ((l0_1.length : Int) != (l0_0.length : Int)) l0_0 l0_1) := by
  refine Lim.eq (g := fun k => impl_ValidReefing.f k l0_0 l0_1) ?_
  unfold impl_ValidReefing.f
  repeat' first
    | exact Lim.const _
    | with_reducible exact Lim.of (fun k => (impl_ValidReefing.mono_l k).1 _ _ _)
    | with_reducible refine Lim.ite ?_ ?_
    | with_reducible refine Lim.bind ?_ (fun _ => ?_)
    | exact Lim.of (fun k => (impl_ValidReefing.mono_l k).1 _ _ _)

noncomputable def impl_areIn.L0 (x2 : Int) (x3 : Int) (x15 : List Int) (x16 : Int) (x17 : Int) : Option (Bool) := lim (fun k => impl_areIn.l0 k x2 x3 x15 x16 x17)
noncomputable def impl_areIn.F (l0 : List Int) (a1 : Int) (a2 : Int) (a3 : Int) : Option (Bool) := lim (fun k => impl_areIn.f k l0 a1 a2 a3)
theorem impl_areIn.L0_eq (x2 : Int) (x3 : Int) (x15 : List Int) (x16 : Int) (x17 : Int) : impl_areIn.L0 x2 x3 x15 x16 x17 = if x17 < x16 then (if 0 ≤ x17 then (if x17 < (x15.length : Int) then ((impl_within.f (rd x15 x17) x2 x3).bind fun t168 => (if t168 = true then (impl_areIn.L0 x2 x3 x15 x16 (wrap64 (x17 + 1))) else (some false))) else (none)) else (none)) else (some true) := by
  refine Lim.step (f := fun k => if x17 < x16 then (if 0 ≤ x17 then (if x17 < (x15.length : Int) then ((impl_within.f (rd x15 x17) x2 x3).bind fun t168 => (if t168 = true then (impl_areIn.l0 k x2 x3 x15 x16 (wrap64 (x17 + 1))) else (some false))) else (none)) else (none)) else (some true)) (fun k => (impl_areIn.mono_l k) x2 x3 x15 x16 x17) (fun k => by simp only [impl_areIn.l0]) ?_
  repeat' first
    | exact Lim.const _
    | with_reducible exact Lim.of (fun k => (impl_areIn.mono_l k) _ _ _ _ _)
    | with_reducible refine Lim.ite ?_ ?_
    | with_reducible refine Lim.bind ?_ (fun _ => ?_)
    | exact Lim.of (fun k => (impl_areIn.mono_l k) _ _ _ _ _)
theorem impl_areIn.F_eq (l0 : List Int) (a1 : Int) (a2 : Int) (a3 : Int) : impl_areIn.F l0 a1 a2 a3 = if (l0.length : Int) = a1 then (impl_areIn.L0 a2 a3 l0 (l0.length : Int) 0) else (some false) := by
  refine Lim.eq (g := fun k => impl_areIn.f k l0 a1 a2 a3) ?_
  unfold impl_areIn.f
  repeat' first
    | exact Lim.const _
    | with_reducible exact Lim.of (fun k => (impl_areIn.mono_l k) _ _ _ _ _)
    | with_reducible refine Lim.ite ?_ ?_
    | with_reducible refine Lim.bind ?_ (fun _ => ?_)
    | exact Lim.of (fun k => (impl_areIn.mono_l k) _ _ _ _ _)

noncomputable def impl_reefCode.F (l0_0 : List Int) (l0_1 : List Int) (a1 : Int) (l2 : List Int) : Option (Int) := lim (fun k => impl_reefCode.f k l0_0 l0_1 a1 l2)
theorem impl_reefCode.F_eq (l0_0 : List Int) (l0_1 : List Int) (a1 : Int) (l2 : List Int) : impl_reefCode.F l0_0 l0_1 a1 l2 = (impl_ValidReefing.F l0_0 l0_1).bind fun t170 => (if t170 = true then ((impl_within.f a1 0 (l0_0.length : Int)).bind fun t171 => (if t171 = true then (if (l2.length : Int) > 60 then (some 2) else ((impl_areIn.F l2 (l2.length : Int) 0 600).bind fun t172 => (if t172 = true then (some 0) else (some 2)))) else (some 2))) else (some 1)) := by
  refine Lim.eq (g := fun k => impl_reefCode.f k l0_0 l0_1 a1 l2) ?_
  unfold impl_reefCode.f
  repeat' first
    | exact Lim.const _
    | with_reducible exact Lim.of (fun k => impl_ValidReefing.mono _ _ k)
    | with_reducible exact Lim.of (fun k => impl_areIn.mono _ _ _ _ k)
    | with_reducible refine Lim.ite ?_ ?_
    | with_reducible refine Lim.bind ?_ (fun _ => ?_)
    | exact Lim.of (fun k => impl_ValidReefing.mono _ _ k)
    | exact Lim.of (fun k => impl_areIn.mono _ _ _ _ k)

noncomputable def impl_neededReefs.L0 (x1 : Int) (x5 : Int) (x9 : List Int) (x10 : Int) (x11 : Int) : Option (Int) := lim (fun k => impl_neededReefs.l0 k x1 x5 x9 x10 x11)
noncomputable def impl_neededReefs.F (l0_0 : List Int) (l0_1 : List Int) (a1 : Int) : Option (Int) := lim (fun k => impl_neededReefs.f k l0_0 l0_1 a1)
theorem impl_neededReefs.L0_eq (x1 : Int) (x5 : Int) (x9 : List Int) (x10 : Int) (x11 : Int) : impl_neededReefs.L0 x1 x5 x9 x10 x11 = if x11 < x10 then (if 0 ≤ x11 then (if x11 < (x9.length : Int) then (if (rd x9 x11) ≤ x1 then (impl_neededReefs.L0 x1 (wrap64 (x5 + 1)) x9 x10 (wrap64 (x11 + 1))) else (impl_neededReefs.L0 x1 x5 x9 x10 (wrap64 (x11 + 1)))) else (none)) else (none)) else (some x5) := by
  refine Lim.step (f := fun k => if x11 < x10 then (if 0 ≤ x11 then (if x11 < (x9.length : Int) then (if (rd x9 x11) ≤ x1 then (impl_neededReefs.l0 k x1 (wrap64 (x5 + 1)) x9 x10 (wrap64 (x11 + 1))) else (impl_neededReefs.l0 k x1 x5 x9 x10 (wrap64 (x11 + 1)))) else (none)) else (none)) else (some x5)) (fun k => (impl_neededReefs.mono_l k) x1 x5 x9 x10 x11) (fun k => by simp only [impl_neededReefs.l0]) ?_
  repeat' first
    | exact Lim.const _
    | with_reducible exact Lim.of (fun k => (impl_neededReefs.mono_l k) _ _ _ _ _)
    | with_reducible refine Lim.ite ?_ ?_
    | with_reducible refine Lim.bind ?_ (fun _ => ?_)
    | exact Lim.of (fun k => (impl_neededReefs.mono_l k) _ _ _ _ _)
theorem impl_neededReefs.F_eq (l0_0 : List Int) (l0_1 : List Int) (a1 : Int) : impl_neededReefs.F l0_0 l0_1 a1 = impl_neededReefs.L0 a1 0 l0_0 (l0_0.length : Int) 0 := by
  refine Lim.eq (g := fun k => impl_neededReefs.f k l0_0 l0_1 a1) ?_
  unfold impl_neededReefs.f
  repeat' first
    | exact Lim.const _
    | with_reducible exact Lim.of (fun k => (impl_neededReefs.mono_l k) _ _ _ _ _)
    | with_reducible refine Lim.ite ?_ ?_
    | with_reducible refine Lim.bind ?_ (fun _ => ?_)
    | exact Lim.of (fun k => (impl_neededReefs.mono_l k) _ _ _ _ _)

noncomputable def impl_NeededReefs.F (l0_0 : List Int) (l0_1 : List Int) (a1 : Int) : Option (Int × Int) := lim (fun k => impl_NeededReefs.f k l0_0 l0_1 a1)
theorem impl_NeededReefs.F_eq (l0_0 : List Int) (l0_1 : List Int) (a1 : Int) : impl_NeededReefs.F l0_0 l0_1 a1 = (impl_reefCode.F l0_0 l0_1 0 (([a1] : List Int))).bind fun t179 => (if t179 = 0 then ((impl_neededReefs.F l0_0 l0_1 a1).bind fun t180 => (some (t180, 0))) else (some (0, t179))) := by
  refine Lim.eq (g := fun k => impl_NeededReefs.f k l0_0 l0_1 a1) ?_
  unfold impl_NeededReefs.f
  repeat' first
    | exact Lim.const _
    | with_reducible exact Lim.of (fun k => impl_neededReefs.mono _ _ _ k)
    | with_reducible exact Lim.of (fun k => impl_reefCode.mono _ _ _ _ k)
    | with_reducible refine Lim.ite ?_ ?_
    | with_reducible refine Lim.bind ?_ (fun _ => ?_)
    | exact Lim.of (fun k => impl_neededReefs.mono _ _ _ k)
    | exact Lim.of (fun k => impl_reefCode.mono _ _ _ _ k)

noncomputable def laws_FnExactNeededReefs.J0 (x38 : Bool) (x182000 : List Int) (x182001 : List Int) (x198000 : List Int) (x198001 : List Int) : Option (Bool) := lim (fun k => laws_FnExactNeededReefs.j0 k x38 x182000 x182001 x198000 x198001)
noncomputable def laws_FnExactNeededReefs.F (l0_0 : List Int) (l0_1 : List Int) (a1 : Int) : Option (Bool) := lim (fun k => laws_FnExactNeededReefs.f k l0_0 l0_1 a1)
theorem laws_FnExactNeededReefs.J0_eq (x38 : Bool) (x182000 : List Int) (x182001 : List Int) (x198000 : List Int) (x198001 : List Int) : laws_FnExactNeededReefs.J0 x38 x182000 x182001 x198000 x198001 = if x38 = true then (some false) else ((laws_toReefing.F x182000 x182001).bind fun bt200 => ((laws_eqReefing.F x198000 x198001 bt200.1 bt200.2).bind fun t206 => (if t206 = true then (some true) else (some false)))) := by
  refine Lim.step (f := fun k => if x38 = true then (some false) else ((laws_toReefing.f k x182000 x182001).bind fun bt200 => ((laws_eqReefing.f k x198000 x198001 bt200.1 bt200.2).bind fun t206 => (if t206 = true then (some true) else (some false))))) (fun k => (laws_FnExactNeededReefs.mono_l k) x38 x182000 x182001 x198000 x198001) (fun k => by simp only [laws_FnExactNeededReefs.j0]) ?_
  repeat' first
    | exact Lim.const _
    | with_reducible exact Lim.of (fun k => laws_eqReefing.mono _ _ _ _ k)
    | with_reducible exact Lim.of (fun k => laws_toReefing.mono _ _ k)
    | with_reducible refine Lim.ite ?_ ?_
    | with_reducible refine Lim.bind ?_ (fun _ => ?_)
    | exact Lim.of (fun k => laws_eqReefing.mono _ _ _ _ k)
    | exact Lim.of (fun k => laws_toReefing.mono _ _ k)
theorem laws_FnExactNeededReefs.F_eq (l0_0 : List Int) (l0_1 : List Int) (a1 : Int) : laws_FnExactNeededReefs.F l0_0 l0_1 a1 = (laws_szReefing.f l0_0 l0_1 1048576).bind fun t182 => (if t182 < 0 then (some true) else ((laws_toReefing.F l0_0 l0_1).bind fun bt183 => ((spec_NeededReefs.F bt183.1 bt183.2 a1).bind fun bt189 => ((laws_toReefing.F l0_0 l0_1).bind fun bt191 => ((impl_NeededReefs.F bt191.1 bt191.2 a1).bind fun bt198 => (if bt198.1 = bt189.1 then (laws_FnExactNeededReefs.J0 (bt198.2 != bt189.2) l0_0 l0_1 bt191.1 bt191.2) else (laws_FnExactNeededReefs.J0 true l0_0 l0_1 bt191.1 bt191.2))))))) := by
  refine Lim.eq (g := fun k => laws_FnExactNeededReefs.f k l0_0 l0_1 a1) ?_
  unfold laws_FnExactNeededReefs.f
  repeat' first
    | exact Lim.const _
    | with_reducible exact Lim.of (fun k => impl_NeededReefs.mono _ _ _ k)
    | with_reducible exact Lim.of (fun k => (laws_FnExactNeededReefs.mono_l k) _ _ _ _ _)
    | with_reducible exact Lim.of (fun k => laws_toReefing.mono _ _ k)
    | with_reducible exact Lim.of (fun k => spec_NeededReefs.mono _ _ _ k)
    | with_reducible refine Lim.ite ?_ ?_
    | with_reducible refine Lim.bind ?_ (fun _ => ?_)
    | exact Lim.of (fun k => impl_NeededReefs.mono _ _ _ k)
    | exact Lim.of (fun k => (laws_FnExactNeededReefs.mono_l k) _ _ _ _ _)
    | exact Lim.of (fun k => laws_toReefing.mono _ _ k)
    | exact Lim.of (fun k => spec_NeededReefs.mono _ _ _ k)

end Go.Proofs.Ytobejjbnklcgpaa.PFnExactNeededReefs
