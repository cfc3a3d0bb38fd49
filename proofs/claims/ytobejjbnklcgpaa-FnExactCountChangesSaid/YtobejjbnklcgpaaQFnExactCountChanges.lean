/-
  Written by a program of this session (wip/tools/lims.py): the printed functions without their bound on rounds.
-/
import Derived.Test.YtobejjbnklcgpaaPFnExactCountChangesx1
import Derived.Test.YtobejjbnklcgpaaPFnExactCountChangesx2
import Derived.Test.YtobejjbnklcgpaaPFnExactCountChangesx3
import Derived.Test.YtobejjbnklcgpaaPFnExactCountChangesx4
import Derived.Test.YtobejjbnklcgpaaPFnExactCountChangesx5
import Derived.Test.YtobejjbnklcgpaaPFnExactCountChangesx6
import Derived.Test.YtobejjbnklcgpaaKit
set_option linter.unusedVariables false
set_option linter.unusedSimpArgs false
namespace Go.Proofs.Ytobejjbnklcgpaa.PFnExactCountChanges
open Go.RowKit Go.Proofs.Ytobejjbnklcgpaa.Kit Go.Proofs.YtobejjbnklcgpaaW.PrintWords Go.Proofs.YtobejjbnklcgpaaW.PrintLast Go.Proofs.YtobejjbnklcgpaaW.PrintMore

noncomputable def laws_toInt64S.L0 (x0 : List Int) (x3 : List Int) (x4 : Int) : Option (List Int) := lim (fun k => laws_toInt64S.l0 k x0 x3 x4)
noncomputable def laws_toInt64S.F (l0 : List Int) : Option (List Int) := lim (fun k => laws_toInt64S.f k l0)
theorem laws_toInt64S.L0_eq (x0 : List Int) (x3 : List Int) (x4 : Int) : laws_toInt64S.L0 x0 x3 x4 = if x4 < (x0.length : Int) then (if 0 ≤ x4 then (if x4 < (x3.length : Int) then (laws_toInt64S.L0 x0 (x3.set (x4 : Int).toNat (rd x0 x4)) (wrap64 (x4 + 1))) else (none)) else (none)) else (some x3) := by
  refine Lim.step (f := fun k => if x4 < (x0.length : Int) then (if 0 ≤ x4 then (if x4 < (x3.length : Int) then (laws_toInt64S.l0 k x0 (x3.set (x4 : Int).toNat (rd x0 x4)) (wrap64 (x4 + 1))) else (none)) else (none)) else (some x3)) (fun k => (laws_toInt64S.mono_l k) x0 x3 x4) (fun k => by simp only [laws_toInt64S.l0]) ?_
  repeat' first
    | exact Lim.const _
    | with_reducible exact Lim.of (fun k => (laws_toInt64S.mono_l k) _ _ _)
    | with_reducible refine Lim.ite ?_ ?_
    | with_reducible refine Lim.bind ?_ (fun _ => ?_)
    | exact Lim.of (fun k => (laws_toInt64S.mono_l k) _ _ _)
theorem laws_toInt64S.F_eq (l0 : List Int) : laws_toInt64S.F l0 = if 0 ≤ (l0.length : Int) then (if ((l0.length : Int) : Int).toNat ≤ 35184372088832 then (laws_toInt64S.L0 l0 (List.replicate ((l0.length : Int) : Int).toNat 0) 0) else (none)) else (none) := by
  refine Lim.eq (g := fun k => laws_toInt64S.f k l0) ?_
  unfold laws_toInt64S.f
  repeat' first
    | exact Lim.const _
    | with_reducible exact Lim.of (fun k => (laws_toInt64S.mono_l k) _ _ _)
    | with_reducible refine Lim.ite ?_ ?_
    | with_reducible refine Lim.bind ?_ (fun _ => ?_)
    | exact Lim.of (fun k => (laws_toInt64S.mono_l k) _ _ _)

noncomputable def laws_eqInt64S.L0 (x0 : List Int) (x1 : List Int) (x5 : Int) : Option (Bool) := lim (fun k => laws_eqInt64S.l0 k x0 x1 x5)
noncomputable def laws_eqInt64S.F (l0 : List Int) (l1 : List Int) : Option (Bool) := lim (fun k => laws_eqInt64S.f k l0 l1)
theorem laws_eqInt64S.L0_eq (x0 : List Int) (x1 : List Int) (x5 : Int) : laws_eqInt64S.L0 x0 x1 x5 = if x5 < (x0.length : Int) then (if 0 ≤ x5 then (if x5 < (x1.length : Int) then (if (rd x0 x5) = (rd x1 x5) then (laws_eqInt64S.L0 x0 x1 (wrap64 (x5 + 1))) else (some false)) else (none)) else (none)) else (some true) := by
  refine Lim.step (f := fun k => if x5 < (x0.length : Int) then (if 0 ≤ x5 then (if x5 < (x1.length : Int) then (if (rd x0 x5) = (rd x1 x5) then (laws_eqInt64S.l0 k x0 x1 (wrap64 (x5 + 1))) else (some false)) else (none)) else (none)) else (some true)) (fun k => (laws_eqInt64S.mono_l k) x0 x1 x5) (fun k => by simp only [laws_eqInt64S.l0]) ?_
  repeat' first
    | exact Lim.const _
    | with_reducible exact Lim.of (fun k => (laws_eqInt64S.mono_l k) _ _ _)
    | with_reducible refine Lim.ite ?_ ?_
    | with_reducible refine Lim.bind ?_ (fun _ => ?_)
    | exact Lim.of (fun k => (laws_eqInt64S.mono_l k) _ _ _)
theorem laws_eqInt64S.F_eq (l0 : List Int) (l1 : List Int) : laws_eqInt64S.F l0 l1 = if (l0.length : Int) = (l1.length : Int) then (laws_eqInt64S.L0 l0 l1 0) else (some false) := by
  refine Lim.eq (g := fun k => laws_eqInt64S.f k l0 l1) ?_
  unfold laws_eqInt64S.f
  repeat' first
    | exact Lim.const _
    | with_reducible exact Lim.of (fun k => (laws_eqInt64S.mono_l k) _ _ _)
    | with_reducible refine Lim.ite ?_ ?_
    | with_reducible refine Lim.bind ?_ (fun _ => ?_)
    | exact Lim.of (fun k => (laws_eqInt64S.mono_l k) _ _ _)

noncomputable def laws_eqReefing.F (l0_0 : List Int) (l0_1 : List Int) (l1_0 : List Int) (l1_1 : List Int) : Option (Bool) := lim (fun k => laws_eqReefing.f k l0_0 l0_1 l1_0 l1_1)
theorem laws_eqReefing.F_eq (l0_0 : List Int) (l0_1 : List Int) (l1_0 : List Int) (l1_1 : List Int) : laws_eqReefing.F l0_0 l0_1 l1_0 l1_1 = (laws_eqInt64S.F l0_0 l1_0).bind fun t110 => (if t110 = true then ((laws_eqInt64S.F l0_1 l1_1).bind fun t111 => (if t111 = true then (some true) else (some false))) else (some false)) := by
  refine Lim.eq (g := fun k => laws_eqReefing.f k l0_0 l0_1 l1_0 l1_1) ?_
  unfold laws_eqReefing.f
  repeat' first
    | exact Lim.const _
    | with_reducible exact Lim.of (fun k => laws_eqInt64S.mono _ _ k)
    | with_reducible refine Lim.ite ?_ ?_
    | with_reducible refine Lim.bind ?_ (fun _ => ?_)
    | exact Lim.of (fun k => laws_eqInt64S.mono _ _ k)

noncomputable def laws_toReefing.F (l0_0 : List Int) (l0_1 : List Int) : Option (List Int × List Int) := lim (fun k => laws_toReefing.f k l0_0 l0_1)
theorem laws_toReefing.F_eq (l0_0 : List Int) (l0_1 : List Int) : laws_toReefing.F l0_0 l0_1 = (laws_toInt64S.F l0_0).bind fun t118 => ((laws_toInt64S.F l0_1).bind fun t121 => (some (t118, t121))) := by
  refine Lim.eq (g := fun k => laws_toReefing.f k l0_0 l0_1) ?_
  unfold laws_toReefing.f
  repeat' first
    | exact Lim.const _
    | with_reducible exact Lim.of (fun k => laws_toInt64S.mono _ k)
    | with_reducible refine Lim.ite ?_ ?_
    | with_reducible refine Lim.bind ?_ (fun _ => ?_)
    | exact Lim.of (fun k => laws_toInt64S.mono _ k)

noncomputable def spec_l18Winds.L0 (x0 : List Int) (x3 : Int) : Option (Bool) := lim (fun k => spec_l18Winds.l0 k x0 x3)
noncomputable def spec_l18Winds.F (l0 : List Int) : Option (Bool) := lim (fun k => spec_l18Winds.f k l0)
theorem spec_l18Winds.L0_eq (x0 : List Int) (x3 : Int) : spec_l18Winds.L0 x0 x3 = if x3 < (x0.length : Int) then (if 0 ≤ x3 then ((spec_l18Wind.f (rd x0 x3)).bind fun t126 => (if t126 = true then (spec_l18Winds.L0 x0 (wrap64 (x3 + 1))) else (some false))) else (none)) else (some (decide ((x0.length : Int) ≤ 60))) := by
  refine Lim.step (f := fun k => if x3 < (x0.length : Int) then (if 0 ≤ x3 then ((spec_l18Wind.f (rd x0 x3)).bind fun t126 => (if t126 = true then (spec_l18Winds.l0 k x0 (wrap64 (x3 + 1))) else (some false))) else (none)) else (some (decide ((x0.length : Int) ≤ 60)))) (fun k => (spec_l18Winds.mono_l k) x0 x3) (fun k => by simp only [spec_l18Winds.l0]) ?_
  repeat' first
    | exact Lim.const _
    | with_reducible exact Lim.of (fun k => (spec_l18Winds.mono_l k) _ _)
    | with_reducible refine Lim.ite ?_ ?_
    | with_reducible refine Lim.bind ?_ (fun _ => ?_)
    | exact Lim.of (fun k => (spec_l18Winds.mono_l k) _ _)
theorem spec_l18Winds.F_eq (l0 : List Int) : spec_l18Winds.F l0 = spec_l18Winds.L0 l0 0 := by
  refine Lim.eq (g := fun k => spec_l18Winds.f k l0) ?_
  unfold spec_l18Winds.f
  repeat' first
    | exact Lim.const _
    | with_reducible exact Lim.of (fun k => (spec_l18Winds.mono_l k) _ _)
    | with_reducible refine Lim.ite ?_ ?_
    | with_reducible refine Lim.bind ?_ (fun _ => ?_)
    | exact Lim.of (fun k => (spec_l18Winds.mono_l k) _ _)

noncomputable def spec_l00Rises.L0 (x0 : List Int) (x1 : Int) (x2 : Int) (x7 : Int) : Option (Bool) := lim (fun k => spec_l00Rises.l0 k x0 x1 x2 x7)
noncomputable def spec_l00Rises.F (l0 : List Int) (a1 : Int) (a2 : Int) : Option (Bool) := lim (fun k => spec_l00Rises.f k l0 a1 a2)
theorem spec_l00Rises.L0_eq (x0 : List Int) (x1 : Int) (x2 : Int) (x7 : Int) : spec_l00Rises.L0 x0 x1 x2 x7 = if x7 < (x0.length : Int) then (if 0 ≤ x7 then ((spec_l00In.f (rd x0 x7) x1 x2).bind fun t128 => (if t128 = true then (if x7 > 0 then (if 0 ≤ (wrap64 (x7 - 1)) then (if (wrap64 (x7 - 1)) < (x0.length : Int) then (if (rd x0 (wrap64 (x7 - 1))) ≥ (rd x0 x7) then (some false) else (spec_l00Rises.L0 x0 x1 x2 (wrap64 (x7 + 1)))) else (none)) else (none)) else (spec_l00Rises.L0 x0 x1 x2 (wrap64 (x7 + 1)))) else (some false))) else (none)) else (some true) := by
  refine Lim.step (f := fun k => if x7 < (x0.length : Int) then (if 0 ≤ x7 then ((spec_l00In.f (rd x0 x7) x1 x2).bind fun t128 => (if t128 = true then (if x7 > 0 then (if 0 ≤ (wrap64 (x7 - 1)) then (if (wrap64 (x7 - 1)) < (x0.length : Int) then (if (rd x0 (wrap64 (x7 - 1))) ≥ (rd x0 x7) then (some false) else (spec_l00Rises.l0 k x0 x1 x2 (wrap64 (x7 + 1)))) else (none)) else (none)) else (spec_l00Rises.l0 k x0 x1 x2 (wrap64 (x7 + 1)))) else (some false))) else (none)) else (some true)) (fun k => (spec_l00Rises.mono_l k) x0 x1 x2 x7) (fun k => by simp only [spec_l00Rises.l0]) ?_
  repeat' first
    | exact Lim.const _
    | with_reducible exact Lim.of (fun k => (spec_l00Rises.mono_l k) _ _ _ _)
    | with_reducible refine Lim.ite ?_ ?_
    | with_reducible refine Lim.bind ?_ (fun _ => ?_)
    | exact Lim.of (fun k => (spec_l00Rises.mono_l k) _ _ _ _)
theorem spec_l00Rises.F_eq (l0 : List Int) (a1 : Int) (a2 : Int) : spec_l00Rises.F l0 a1 a2 = spec_l00Rises.L0 l0 a1 a2 0 := by
  refine Lim.eq (g := fun k => spec_l00Rises.f k l0 a1 a2) ?_
  unfold spec_l00Rises.f
  repeat' first
    | exact Lim.const _
    | with_reducible exact Lim.of (fun k => (spec_l00Rises.mono_l k) _ _ _ _)
    | with_reducible refine Lim.ite ?_ ?_
    | with_reducible refine Lim.bind ?_ (fun _ => ?_)
    | exact Lim.of (fun k => (spec_l00Rises.mono_l k) _ _ _ _)

noncomputable def spec_l18Ok.J0 (x0 : List (S40)) (x3 : Int) (x36 : Bool) : Option (Bool) := lim (fun k => spec_l18Ok.j0 k x0 x3 x36)
noncomputable def spec_l18Ok.L0 (x0 : List (S40)) (x3 : Int) (x4 : Int) : Option (Bool) := lim (fun k => spec_l18Ok.l0 k x0 x3 x4)
noncomputable def spec_l18Ok.F (l0 : List (S40)) : Option (Bool) := lim (fun k => spec_l18Ok.f k l0)
theorem spec_l18Ok.J0_eq (x0 : List (S40)) (x3 : Int) (x36 : Bool) : spec_l18Ok.J0 x0 x3 x36 = if x36 = true then (some false) else (spec_l18Ok.L0 x0 x3 0) := by
  refine Lim.step (f := fun k => if x36 = true then (some false) else (spec_l18Ok.l0 k x0 x3 0)) (fun k => (spec_l18Ok.mono_l k).1 x0 x3 x36) (fun k => by simp only [spec_l18Ok.j0]) ?_
  repeat' first
    | exact Lim.const _
    | with_reducible exact Lim.of (fun k => (spec_l18Ok.mono_l k).2 _ _ _)
    | with_reducible refine Lim.ite ?_ ?_
    | with_reducible refine Lim.bind ?_ (fun _ => ?_)
    | exact Lim.of (fun k => (spec_l18Ok.mono_l k).2 _ _ _)
theorem spec_l18Ok.L0_eq (x0 : List (S40)) (x3 : Int) (x4 : Int) : spec_l18Ok.L0 x0 x3 x4 = if x4 < x3 then (if 0 ≤ x4 then (if x4 < (((rd_T40 x0 0).f1).length : Int) then (if x4 < (((rd_T40 x0 0).f0).length : Int) then (if (rd ((rd_T40 x0 0).f1) x4) > (rd ((rd_T40 x0 0).f0) x4) then (some false) else (spec_l18Ok.L0 x0 x3 (wrap64 (x4 + 1)))) else (none)) else (none)) else (none)) else (some true) := by
  refine Lim.step (f := fun k => if x4 < x3 then (if 0 ≤ x4 then (if x4 < (((rd_T40 x0 0).f1).length : Int) then (if x4 < (((rd_T40 x0 0).f0).length : Int) then (if (rd ((rd_T40 x0 0).f1) x4) > (rd ((rd_T40 x0 0).f0) x4) then (some false) else (spec_l18Ok.l0 k x0 x3 (wrap64 (x4 + 1)))) else (none)) else (none)) else (none)) else (some true)) (fun k => (spec_l18Ok.mono_l k).2 x0 x3 x4) (fun k => by simp only [spec_l18Ok.l0]) ?_
  repeat' first
    | exact Lim.const _
    | with_reducible exact Lim.of (fun k => (spec_l18Ok.mono_l k).2 _ _ _)
    | with_reducible refine Lim.ite ?_ ?_
    | with_reducible refine Lim.bind ?_ (fun _ => ?_)
    | exact Lim.of (fun k => (spec_l18Ok.mono_l k).2 _ _ _)
theorem spec_l18Ok.F_eq (l0 : List (S40)) : spec_l18Ok.F l0 = if 0 < (l0.length : Int) then (if (((rd_T40 l0 0).f1).length : Int) = (((rd_T40 l0 0).f0).length : Int) then (if (((rd_T40 l0 0).f0).length : Int) > 6 then (spec_l18Ok.J0 l0 (((rd_T40 l0 0).f0).length : Int) true) else ((spec_l00Rises.F ((rd_T40 l0 0).f0) 1 600).bind fun t135 => (if t135 = true then ((spec_l00Rises.F ((rd_T40 l0 0).f1) 0 600).bind fun t137 => (spec_l18Ok.J0 l0 (((rd_T40 l0 0).f0).length : Int) (!t137))) else (spec_l18Ok.J0 l0 (((rd_T40 l0 0).f0).length : Int) true)))) else (spec_l18Ok.J0 l0 (((rd_T40 l0 0).f0).length : Int) true)) else (none) := by
  refine Lim.eq (g := fun k => spec_l18Ok.f k l0) ?_
  unfold spec_l18Ok.f
  repeat' first
    | exact Lim.const _
    | with_reducible exact Lim.of (fun k => spec_l00Rises.mono _ _ _ k)
    | with_reducible exact Lim.of (fun k => (spec_l18Ok.mono_l k).1 _ _ _)
    | with_reducible refine Lim.ite ?_ ?_
    | with_reducible refine Lim.bind ?_ (fun _ => ?_)
    | exact Lim.of (fun k => spec_l00Rises.mono _ _ _ k)
    | exact Lim.of (fun k => (spec_l18Ok.mono_l k).1 _ _ _)

noncomputable def spec_l18Code.F (l0 : List (S40)) (a1 : Int) (l2 : List Int) : Option (Int) := lim (fun k => spec_l18Code.f k l0 a1 l2)
theorem spec_l18Code.F_eq (l0 : List (S40)) (a1 : Int) (l2 : List Int) : spec_l18Code.F l0 a1 l2 = if 0 < (l0.length : Int) then ((spec_l18Ok.F l0).bind fun t143 => (if t143 = true then ((spec_l00In.f a1 0 (((rd_T40 l0 0).f0).length : Int)).bind fun t145 => (if t145 = true then ((spec_l18Winds.F l2).bind fun t146 => (if t146 = true then (some 0) else (some 2))) else (some 2))) else (some 1))) else (none) := by
  refine Lim.eq (g := fun k => spec_l18Code.f k l0 a1 l2) ?_
  unfold spec_l18Code.f
  repeat' first
    | exact Lim.const _
    | with_reducible exact Lim.of (fun k => spec_l18Ok.mono _ k)
    | with_reducible exact Lim.of (fun k => spec_l18Winds.mono _ k)
    | with_reducible refine Lim.ite ?_ ?_
    | with_reducible refine Lim.bind ?_ (fun _ => ?_)
    | exact Lim.of (fun k => spec_l18Ok.mono _ k)
    | exact Lim.of (fun k => spec_l18Winds.mono _ k)

noncomputable def spec_l18Next.J1 (x0 : List (S40)) (x1 : Int) (x2 : Int) : Option (Int) := lim (fun k => spec_l18Next.j1 k x0 x1 x2)
noncomputable def spec_l18Next.L1 (x0 : List (S40)) (x1 : Int) (x2 : Int) : Option (Int) := lim (fun k => spec_l18Next.l1 k x0 x1 x2)
noncomputable def spec_l18Next.L0 (x0 : List (S40)) (x1 : Int) (x2 : Int) : Option (Int) := lim (fun k => spec_l18Next.l0 k x0 x1 x2)
noncomputable def spec_l18Next.F (l0 : List (S40)) (a1 : Int) (a2 : Int) : Option (Int) := lim (fun k => spec_l18Next.f k l0 a1 a2)
theorem spec_l18Next.J1_eq (x0 : List (S40)) (x1 : Int) (x2 : Int) : spec_l18Next.J1 x0 x1 x2 = spec_l18Next.L1 x0 x1 x2 := by
  refine Lim.step (f := fun k => spec_l18Next.l1 k x0 x1 x2) (fun k => (spec_l18Next.mono_l k).1 x0 x1 x2) (fun k => by simp only [spec_l18Next.j1]) ?_
  repeat' first
    | exact Lim.const _
    | with_reducible exact Lim.of (fun k => (spec_l18Next.mono_l k).2.1 _ _ _)
    | with_reducible refine Lim.ite ?_ ?_
    | with_reducible refine Lim.bind ?_ (fun _ => ?_)
    | exact Lim.of (fun k => (spec_l18Next.mono_l k).2.1 _ _ _)
theorem spec_l18Next.L1_eq (x0 : List (S40)) (x1 : Int) (x2 : Int) : spec_l18Next.L1 x0 x1 x2 = if x1 > 0 then (if 0 ≤ (wrap64 (x1 - 1)) then (if (wrap64 (x1 - 1)) < (((rd_T40 x0 0).f1).length : Int) then (if x2 < (rd ((rd_T40 x0 0).f1) (wrap64 (x1 - 1))) then (spec_l18Next.L1 x0 (wrap64 (x1 - 1)) x2) else (some x1)) else (none)) else (none)) else (some x1) := by
  refine Lim.step (f := fun k => if x1 > 0 then (if 0 ≤ (wrap64 (x1 - 1)) then (if (wrap64 (x1 - 1)) < (((rd_T40 x0 0).f1).length : Int) then (if x2 < (rd ((rd_T40 x0 0).f1) (wrap64 (x1 - 1))) then (spec_l18Next.l1 k x0 (wrap64 (x1 - 1)) x2) else (some x1)) else (none)) else (none)) else (some x1)) (fun k => (spec_l18Next.mono_l k).2.1 x0 x1 x2) (fun k => by simp only [spec_l18Next.l1]) ?_
  repeat' first
    | exact Lim.const _
    | with_reducible exact Lim.of (fun k => (spec_l18Next.mono_l k).2.1 _ _ _)
    | with_reducible refine Lim.ite ?_ ?_
    | with_reducible refine Lim.bind ?_ (fun _ => ?_)
    | exact Lim.of (fun k => (spec_l18Next.mono_l k).2.1 _ _ _)
theorem spec_l18Next.L0_eq (x0 : List (S40)) (x1 : Int) (x2 : Int) : spec_l18Next.L0 x0 x1 x2 = if x1 < (((rd_T40 x0 0).f0).length : Int) then (if 0 ≤ x1 then (if x2 ≥ (rd ((rd_T40 x0 0).f0) x1) then (spec_l18Next.L0 x0 (wrap64 (x1 + 1)) x2) else (spec_l18Next.J1 x0 x1 x2)) else (none)) else (spec_l18Next.J1 x0 x1 x2) := by
  refine Lim.step (f := fun k => if x1 < (((rd_T40 x0 0).f0).length : Int) then (if 0 ≤ x1 then (if x2 ≥ (rd ((rd_T40 x0 0).f0) x1) then (spec_l18Next.l0 k x0 (wrap64 (x1 + 1)) x2) else (spec_l18Next.j1 k x0 x1 x2)) else (none)) else (spec_l18Next.j1 k x0 x1 x2)) (fun k => (spec_l18Next.mono_l k).2.2 x0 x1 x2) (fun k => by simp only [spec_l18Next.l0]) ?_
  repeat' first
    | exact Lim.const _
    | with_reducible exact Lim.of (fun k => (spec_l18Next.mono_l k).1 _ _ _)
    | with_reducible exact Lim.of (fun k => (spec_l18Next.mono_l k).2.2 _ _ _)
    | with_reducible refine Lim.ite ?_ ?_
    | with_reducible refine Lim.bind ?_ (fun _ => ?_)
    | exact Lim.of (fun k => (spec_l18Next.mono_l k).1 _ _ _)
    | exact Lim.of (fun k => (spec_l18Next.mono_l k).2.2 _ _ _)
theorem spec_l18Next.F_eq (l0 : List (S40)) (a1 : Int) (a2 : Int) : spec_l18Next.F l0 a1 a2 = if 0 < (l0.length : Int) then (spec_l18Next.L0 l0 a1 a2) else (none) := by
  refine Lim.eq (g := fun k => spec_l18Next.f k l0 a1 a2) ?_
  unfold spec_l18Next.f
  repeat' first
    | exact Lim.const _
    | with_reducible exact Lim.of (fun k => (spec_l18Next.mono_l k).2.2 _ _ _)
    | with_reducible refine Lim.ite ?_ ?_
    | with_reducible refine Lim.bind ?_ (fun _ => ?_)
    | exact Lim.of (fun k => (spec_l18Next.mono_l k).2.2 _ _ _)

noncomputable def spec_l18Run.L0 (x0 : List (S40)) (x1 : Int) (x2 : List Int) (x7 : List Int) (x8 : Int) : Option (List Int) := lim (fun k => spec_l18Run.l0 k x0 x1 x2 x7 x8)
noncomputable def spec_l18Run.F (l0 : List (S40)) (a1 : Int) (l2 : List Int) : Option (List Int) := lim (fun k => spec_l18Run.f k l0 a1 l2)
theorem spec_l18Run.L0_eq (x0 : List (S40)) (x1 : Int) (x2 : List Int) (x7 : List Int) (x8 : Int) : spec_l18Run.L0 x0 x1 x2 x7 x8 = if x8 < (x2.length : Int) then (if 0 ≤ x8 then ((spec_l18Next.F x0 x1 (rd x2 x8)).bind fun t158 => (if x7.length < 17592186044416 then (spec_l18Run.L0 x0 t158 x2 (x7 ++ [t158]) (wrap64 (x8 + 1))) else (none))) else (none)) else (some x7) := by
  refine Lim.step (f := fun k => if x8 < (x2.length : Int) then (if 0 ≤ x8 then ((spec_l18Next.f k x0 x1 (rd x2 x8)).bind fun t158 => (if x7.length < 17592186044416 then (spec_l18Run.l0 k x0 t158 x2 (x7 ++ [t158]) (wrap64 (x8 + 1))) else (none))) else (none)) else (some x7)) (fun k => (spec_l18Run.mono_l k) x0 x1 x2 x7 x8) (fun k => by simp only [spec_l18Run.l0]) ?_
  repeat' first
    | exact Lim.const _
    | with_reducible exact Lim.of (fun k => spec_l18Next.mono _ _ _ k)
    | with_reducible exact Lim.of (fun k => (spec_l18Run.mono_l k) _ _ _ _ _)
    | with_reducible refine Lim.ite ?_ ?_
    | with_reducible refine Lim.bind ?_ (fun _ => ?_)
    | exact Lim.of (fun k => spec_l18Next.mono _ _ _ k)
    | exact Lim.of (fun k => (spec_l18Run.mono_l k) _ _ _ _ _)
theorem spec_l18Run.F_eq (l0 : List (S40)) (a1 : Int) (l2 : List Int) : spec_l18Run.F l0 a1 l2 = if 0 < (l0.length : Int) then (spec_l18Run.L0 l0 a1 l2 (([] : List Int)) 0) else (none) := by
  refine Lim.eq (g := fun k => spec_l18Run.f k l0 a1 l2) ?_
  unfold spec_l18Run.f
  repeat' first
    | exact Lim.const _
    | with_reducible exact Lim.of (fun k => (spec_l18Run.mono_l k) _ _ _ _ _)
    | with_reducible refine Lim.ite ?_ ?_
    | with_reducible refine Lim.bind ?_ (fun _ => ?_)
    | exact Lim.of (fun k => (spec_l18Run.mono_l k) _ _ _ _ _)

noncomputable def spec_l18Changes.L0 (x1 : Int) (x7 : List Int) (x8 : Int) (x9 : Int) : Option (Int) := lim (fun k => spec_l18Changes.l0 k x1 x7 x8 x9)
noncomputable def spec_l18Changes.F (l0 : List (S40)) (a1 : Int) (l2 : List Int) : Option (Int) := lim (fun k => spec_l18Changes.f k l0 a1 l2)
theorem spec_l18Changes.L0_eq (x1 : Int) (x7 : List Int) (x8 : Int) (x9 : Int) : spec_l18Changes.L0 x1 x7 x8 x9 = if x9 < (x7.length : Int) then (if 0 ≤ x9 then ((spec_l00Size.f (wrap64 ((rd x7 x9) - x1))).bind fun t167 => (spec_l18Changes.L0 (rd x7 x9) x7 (wrap64 (x8 + t167)) (wrap64 (x9 + 1)))) else (none)) else (some x8) := by
  refine Lim.step (f := fun k => if x9 < (x7.length : Int) then (if 0 ≤ x9 then ((spec_l00Size.f (wrap64 ((rd x7 x9) - x1))).bind fun t167 => (spec_l18Changes.l0 k (rd x7 x9) x7 (wrap64 (x8 + t167)) (wrap64 (x9 + 1)))) else (none)) else (some x8)) (fun k => (spec_l18Changes.mono_l k) x1 x7 x8 x9) (fun k => by simp only [spec_l18Changes.l0]) ?_
  repeat' first
    | exact Lim.const _
    | with_reducible exact Lim.of (fun k => (spec_l18Changes.mono_l k) _ _ _ _)
    | with_reducible refine Lim.ite ?_ ?_
    | with_reducible refine Lim.bind ?_ (fun _ => ?_)
    | exact Lim.of (fun k => (spec_l18Changes.mono_l k) _ _ _ _)
theorem spec_l18Changes.F_eq (l0 : List (S40)) (a1 : Int) (l2 : List Int) : spec_l18Changes.F l0 a1 l2 = if 0 < (l0.length : Int) then ((spec_l18Run.F l0 a1 l2).bind fun t163 => (spec_l18Changes.L0 a1 t163 0 0)) else (none) := by
  refine Lim.eq (g := fun k => spec_l18Changes.f k l0 a1 l2) ?_
  unfold spec_l18Changes.f
  repeat' first
    | exact Lim.const _
    | with_reducible exact Lim.of (fun k => (spec_l18Changes.mono_l k) _ _ _ _)
    | with_reducible exact Lim.of (fun k => spec_l18Run.mono _ _ _ k)
    | with_reducible refine Lim.ite ?_ ?_
    | with_reducible refine Lim.bind ?_ (fun _ => ?_)
    | exact Lim.of (fun k => (spec_l18Changes.mono_l k) _ _ _ _)
    | exact Lim.of (fun k => spec_l18Run.mono _ _ _ k)

noncomputable def spec_CountChanges.F (l0_0 : List Int) (l0_1 : List Int) (a1 : Int) (l2 : List Int) : Option (Int × Int) := lim (fun k => spec_CountChanges.f k l0_0 l0_1 a1 l2)
theorem spec_CountChanges.F_eq (l0_0 : List Int) (l0_1 : List Int) (a1 : Int) (l2 : List Int) : spec_CountChanges.F l0_0 l0_1 a1 l2 = (spec_l18Code.F [(⟨l0_0, l0_1⟩ : S40)] a1 l2).bind fun t171 => (if t171 = 0 then ((spec_l18Changes.F [(⟨l0_0, l0_1⟩ : S40)] a1 l2).bind fun t173 => (some (t173, 0))) else (some (0, t171))) := by
  refine Lim.eq (g := fun k => spec_CountChanges.f k l0_0 l0_1 a1 l2) ?_
  unfold spec_CountChanges.f
  repeat' first
    | exact Lim.const _
    | with_reducible exact Lim.of (fun k => spec_l18Changes.mono _ _ _ k)
    | with_reducible exact Lim.of (fun k => spec_l18Code.mono _ _ _ k)
    | with_reducible refine Lim.ite ?_ ?_
    | with_reducible refine Lim.bind ?_ (fun _ => ?_)
    | exact Lim.of (fun k => spec_l18Changes.mono _ _ _ k)
    | exact Lim.of (fun k => spec_l18Code.mono _ _ _ k)

noncomputable def impl_ValidReefing.J0 (x17 : Bool) (x175000 : List Int) (x175001 : List Int) : Option (Bool) := lim (fun k => impl_ValidReefing.j0 k x17 x175000 x175001)
noncomputable def impl_ValidReefing.L0 (x19 : List Int) (x20 : Int) (x21 : Int) (x175000 : List Int) (x175001 : List Int) : Option (Bool) := lim (fun k => impl_ValidReefing.l0 k x19 x20 x21 x175000 x175001)
noncomputable def impl_ValidReefing.F (l0_0 : List Int) (l0_1 : List Int) : Option (Bool) := lim (fun k => impl_ValidReefing.f k l0_0 l0_1)
theorem impl_ValidReefing.J0_eq (x17 : Bool) (x175000 : List Int) (x175001 : List Int) : impl_ValidReefing.J0 x17 x175000 x175001 = if x17 = true then (some false) else (impl_ValidReefing.L0 x175000 (x175000.length : Int) 0 x175000 x175001) := by
  refine Lim.step (f := fun k => if x17 = true then (some false) else (impl_ValidReefing.l0 k x175000 (x175000.length : Int) 0 x175000 x175001)) (fun k => (impl_ValidReefing.mono_l k).1 x17 x175000 x175001) (fun k => by simp only [impl_ValidReefing.j0]) ?_
  repeat' first
    | exact Lim.const _
    | with_reducible exact Lim.of (fun k => (impl_ValidReefing.mono_l k).2 _ _ _ _ _)
    | with_reducible refine Lim.ite ?_ ?_
    | with_reducible refine Lim.bind ?_ (fun _ => ?_)
    | exact Lim.of (fun k => (impl_ValidReefing.mono_l k).2 _ _ _ _ _)
theorem impl_ValidReefing.L0_eq (x19 : List Int) (x20 : Int) (x21 : Int) (x175000 : List Int) (x175001 : List Int) : impl_ValidReefing.L0 x19 x20 x21 x175000 x175001 = if x21 < x20 then (if 0 ≤ x21 then (if x21 < (x19.length : Int) then ((impl_within.f (rd x19 x21) 1 600).bind fun t176 => (if t176 = true then (if x21 < (x175001.length : Int) then ((impl_within.f (rd x175001 x21) 0 (rd x19 x21)).bind fun t178 => (if t178 = true then (if x21 > 0 then (if 0 ≤ (wrap64 (x21 - 1)) then (if (wrap64 (x21 - 1)) < (x175000.length : Int) then (if (rd x19 x21) ≤ (rd x175000 (wrap64 (x21 - 1))) then (some false) else (if (wrap64 (x21 - 1)) < (x175001.length : Int) then (if (rd x175001 x21) ≤ (rd x175001 (wrap64 (x21 - 1))) then (some false) else (impl_ValidReefing.L0 x19 x20 (wrap64 (x21 + 1)) x175000 x175001)) else (none))) else (none)) else (none)) else (impl_ValidReefing.L0 x19 x20 (wrap64 (x21 + 1)) x175000 x175001)) else (some false))) else (none)) else (some false))) else (none)) else (none)) else (some true) := by
  refine Lim.step (f := fun k => if x21 < x20 then (if 0 ≤ x21 then (if x21 < (x19.length : Int) then ((impl_within.f (rd x19 x21) 1 600).bind fun t176 => (if t176 = true then (if x21 < (x175001.length : Int) then ((impl_within.f (rd x175001 x21) 0 (rd x19 x21)).bind fun t178 => (if t178 = true then (if x21 > 0 then (if 0 ≤ (wrap64 (x21 - 1)) then (if (wrap64 (x21 - 1)) < (x175000.length : Int) then (if (rd x19 x21) ≤ (rd x175000 (wrap64 (x21 - 1))) then (some false) else (if (wrap64 (x21 - 1)) < (x175001.length : Int) then (if (rd x175001 x21) ≤ (rd x175001 (wrap64 (x21 - 1))) then (some false) else (impl_ValidReefing.l0 k x19 x20 (wrap64 (x21 + 1)) x175000 x175001)) else (none))) else (none)) else (none)) else (impl_ValidReefing.l0 k x19 x20 (wrap64 (x21 + 1)) x175000 x175001)) else (some false))) else (none)) else (some false))) else (none)) else (none)) else (some true)) (fun k => (impl_ValidReefing.mono_l k).2 x19 x20 x21 x175000 x175001) (fun k => by simp only [impl_ValidReefing.l0]) ?_
  repeat' first
    | exact Lim.const _
    | with_reducible exact Lim.of (fun k => (impl_ValidReefing.mono_l k).2 _ _ _ _ _)
    | with_reducible refine Lim.ite ?_ ?_
    | with_reducible refine Lim.bind ?_ (fun _ => ?_)
    | exact Lim.of (fun k => (impl_ValidReefing.mono_l k).2 _ _ _ _ _)
theorem impl_ValidReefing.F_eq (l0_0 : List Int) (l0_1 : List Int) : impl_ValidReefing.F l0_0 l0_1 = if (l0_0.length : Int) > 6 then (impl_ValidReefing.J0 true l0_0 l0_1) else (impl_ValidReefing.J0 ((l0_1.length : Int) != (l0_0.length : Int)) l0_0 l0_1) := by
  refine Lim.eq (g := fun k => impl_ValidReefing.f k l0_0 l0_1) ?_
  unfold impl_ValidReefing.f
  repeat' first
    | exact Lim.const _
    | with_reducible exact Lim.of (fun k => (impl_ValidReefing.mono_l k).1 _ _ _)
    | with_reducible refine Lim.ite ?_ ?_
    | with_reducible refine Lim.bind ?_ (fun _ => ?_)
    | exact Lim.of (fun k => (impl_ValidReefing.mono_l k).1 _ _ _)

noncomputable def impl_areIn.L0 (x2 : Int) (x3 : Int) (x15 : List Int) (x16 : Int) (x17 : Int) : Option (Bool) := lim (fun k => impl_areIn.l0 k x2 x3 x15 x16 x17)
noncomputable def impl_areIn.F (l0 : List Int) (a1 : Int) (a2 : Int) (a3 : Int) : Option (Bool) := lim (fun k => impl_areIn.f k l0 a1 a2 a3)
theorem impl_areIn.L0_eq (x2 : Int) (x3 : Int) (x15 : List Int) (x16 : Int) (x17 : Int) : impl_areIn.L0 x2 x3 x15 x16 x17 = if x17 < x16 then (if 0 ≤ x17 then (if x17 < (x15.length : Int) then ((impl_within.f (rd x15 x17) x2 x3).bind fun t183 => (if t183 = true then (impl_areIn.L0 x2 x3 x15 x16 (wrap64 (x17 + 1))) else (some false))) else (none)) else (none)) else (some true) := by
  refine Lim.step (f := fun k => if x17 < x16 then (if 0 ≤ x17 then (if x17 < (x15.length : Int) then ((impl_within.f (rd x15 x17) x2 x3).bind fun t183 => (if t183 = true then (impl_areIn.l0 k x2 x3 x15 x16 (wrap64 (x17 + 1))) else (some false))) else (none)) else (none)) else (some true)) (fun k => (impl_areIn.mono_l k) x2 x3 x15 x16 x17) (fun k => by simp only [impl_areIn.l0]) ?_
  repeat' first
    | exact Lim.const _
    | with_reducible exact Lim.of (fun k => (impl_areIn.mono_l k) _ _ _ _ _)
    | with_reducible refine Lim.ite ?_ ?_
    | with_reducible refine Lim.bind ?_ (fun _ => ?_)
    | exact Lim.of (fun k => (impl_areIn.mono_l k) _ _ _ _ _)
theorem impl_areIn.F_eq (l0 : List Int) (a1 : Int) (a2 : Int) (a3 : Int) : impl_areIn.F l0 a1 a2 a3 = if (l0.length : Int) = a1 then (impl_areIn.L0 a2 a3 l0 (l0.length : Int) 0) else (some false) := by
  refine Lim.eq (g := fun k => impl_areIn.f k l0 a1 a2 a3) ?_
  unfold impl_areIn.f
  repeat' first
    | exact Lim.const _
    | with_reducible exact Lim.of (fun k => (impl_areIn.mono_l k) _ _ _ _ _)
    | with_reducible refine Lim.ite ?_ ?_
    | with_reducible refine Lim.bind ?_ (fun _ => ?_)
    | exact Lim.of (fun k => (impl_areIn.mono_l k) _ _ _ _ _)

noncomputable def impl_reefCode.F (l0_0 : List Int) (l0_1 : List Int) (a1 : Int) (l2 : List Int) : Option (Int) := lim (fun k => impl_reefCode.f k l0_0 l0_1 a1 l2)
theorem impl_reefCode.F_eq (l0_0 : List Int) (l0_1 : List Int) (a1 : Int) (l2 : List Int) : impl_reefCode.F l0_0 l0_1 a1 l2 = (impl_ValidReefing.F l0_0 l0_1).bind fun t185 => (if t185 = true then ((impl_within.f a1 0 (l0_0.length : Int)).bind fun t186 => (if t186 = true then (if (l2.length : Int) > 60 then (some 2) else ((impl_areIn.F l2 (l2.length : Int) 0 600).bind fun t187 => (if t187 = true then (some 0) else (some 2)))) else (some 2))) else (some 1)) := by
  refine Lim.eq (g := fun k => impl_reefCode.f k l0_0 l0_1 a1 l2) ?_
  unfold impl_reefCode.f
  repeat' first
    | exact Lim.const _
    | with_reducible exact Lim.of (fun k => impl_ValidReefing.mono _ _ k)
    | with_reducible exact Lim.of (fun k => impl_areIn.mono _ _ _ _ k)
    | with_reducible refine Lim.ite ?_ ?_
    | with_reducible refine Lim.bind ?_ (fun _ => ?_)
    | exact Lim.of (fun k => impl_ValidReefing.mono _ _ k)
    | exact Lim.of (fun k => impl_areIn.mono _ _ _ _ k)

noncomputable def impl_nextReef.J1 (x1 : Int) (x2 : Int) (x189000 : List Int) (x189001 : List Int) : Option (Int) := lim (fun k => impl_nextReef.j1 k x1 x2 x189000 x189001)
noncomputable def impl_nextReef.L1 (x1 : Int) (x2 : Int) (x189000 : List Int) (x189001 : List Int) : Option (Int) := lim (fun k => impl_nextReef.l1 k x1 x2 x189000 x189001)
noncomputable def impl_nextReef.L0 (x1 : Int) (x2 : Int) (x189000 : List Int) (x189001 : List Int) : Option (Int) := lim (fun k => impl_nextReef.l0 k x1 x2 x189000 x189001)
noncomputable def impl_nextReef.F (l0_0 : List Int) (l0_1 : List Int) (a1 : Int) (a2 : Int) : Option (Int) := lim (fun k => impl_nextReef.f k l0_0 l0_1 a1 a2)
theorem impl_nextReef.J1_eq (x1 : Int) (x2 : Int) (x189000 : List Int) (x189001 : List Int) : impl_nextReef.J1 x1 x2 x189000 x189001 = impl_nextReef.L1 x1 x2 x189000 x189001 := by
  refine Lim.step (f := fun k => impl_nextReef.l1 k x1 x2 x189000 x189001) (fun k => (impl_nextReef.mono_l k).1 x1 x2 x189000 x189001) (fun k => by simp only [impl_nextReef.j1]) ?_
  repeat' first
    | exact Lim.const _
    | with_reducible exact Lim.of (fun k => (impl_nextReef.mono_l k).2.1 _ _ _ _)
    | with_reducible refine Lim.ite ?_ ?_
    | with_reducible refine Lim.bind ?_ (fun _ => ?_)
    | exact Lim.of (fun k => (impl_nextReef.mono_l k).2.1 _ _ _ _)
theorem impl_nextReef.L1_eq (x1 : Int) (x2 : Int) (x189000 : List Int) (x189001 : List Int) : impl_nextReef.L1 x1 x2 x189000 x189001 = if x1 > 0 then (if 0 ≤ (wrap64 (x1 - 1)) then (if (wrap64 (x1 - 1)) < (x189001.length : Int) then (if x2 < (rd x189001 (wrap64 (x1 - 1))) then (impl_nextReef.L1 (wrap64 (x1 - 1)) x2 x189000 x189001) else (some x1)) else (none)) else (none)) else (some x1) := by
  refine Lim.step (f := fun k => if x1 > 0 then (if 0 ≤ (wrap64 (x1 - 1)) then (if (wrap64 (x1 - 1)) < (x189001.length : Int) then (if x2 < (rd x189001 (wrap64 (x1 - 1))) then (impl_nextReef.l1 k (wrap64 (x1 - 1)) x2 x189000 x189001) else (some x1)) else (none)) else (none)) else (some x1)) (fun k => (impl_nextReef.mono_l k).2.1 x1 x2 x189000 x189001) (fun k => by simp only [impl_nextReef.l1]) ?_
  repeat' first
    | exact Lim.const _
    | with_reducible exact Lim.of (fun k => (impl_nextReef.mono_l k).2.1 _ _ _ _)
    | with_reducible refine Lim.ite ?_ ?_
    | with_reducible refine Lim.bind ?_ (fun _ => ?_)
    | exact Lim.of (fun k => (impl_nextReef.mono_l k).2.1 _ _ _ _)
theorem impl_nextReef.L0_eq (x1 : Int) (x2 : Int) (x189000 : List Int) (x189001 : List Int) : impl_nextReef.L0 x1 x2 x189000 x189001 = if x1 < (x189000.length : Int) then (if 0 ≤ x1 then (if x2 ≥ (rd x189000 x1) then (impl_nextReef.L0 (wrap64 (x1 + 1)) x2 x189000 x189001) else (impl_nextReef.J1 x1 x2 x189000 x189001)) else (none)) else (impl_nextReef.J1 x1 x2 x189000 x189001) := by
  refine Lim.step (f := fun k => if x1 < (x189000.length : Int) then (if 0 ≤ x1 then (if x2 ≥ (rd x189000 x1) then (impl_nextReef.l0 k (wrap64 (x1 + 1)) x2 x189000 x189001) else (impl_nextReef.j1 k x1 x2 x189000 x189001)) else (none)) else (impl_nextReef.j1 k x1 x2 x189000 x189001)) (fun k => (impl_nextReef.mono_l k).2.2 x1 x2 x189000 x189001) (fun k => by simp only [impl_nextReef.l0]) ?_
  repeat' first
    | exact Lim.const _
    | with_reducible exact Lim.of (fun k => (impl_nextReef.mono_l k).1 _ _ _ _)
    | with_reducible exact Lim.of (fun k => (impl_nextReef.mono_l k).2.2 _ _ _ _)
    | with_reducible refine Lim.ite ?_ ?_
    | with_reducible refine Lim.bind ?_ (fun _ => ?_)
    | exact Lim.of (fun k => (impl_nextReef.mono_l k).1 _ _ _ _)
    | exact Lim.of (fun k => (impl_nextReef.mono_l k).2.2 _ _ _ _)
theorem impl_nextReef.F_eq (l0_0 : List Int) (l0_1 : List Int) (a1 : Int) (a2 : Int) : impl_nextReef.F l0_0 l0_1 a1 a2 = impl_nextReef.L0 a1 a2 l0_0 l0_1 := by
  refine Lim.eq (g := fun k => impl_nextReef.f k l0_0 l0_1 a1 a2) ?_
  unfold impl_nextReef.f
  repeat' first
    | exact Lim.const _
    | with_reducible exact Lim.of (fun k => (impl_nextReef.mono_l k).2.2 _ _ _ _)
    | with_reducible refine Lim.ite ?_ ?_
    | with_reducible refine Lim.bind ?_ (fun _ => ?_)
    | exact Lim.of (fun k => (impl_nextReef.mono_l k).2.2 _ _ _ _)

noncomputable def impl_runReefs.L0 (x1 : Int) (x7 : List Int) (x11 : List Int) (x12 : Int) (x13 : Int) (x192000 : List Int) (x192001 : List Int) : Option (List Int) := lim (fun k => impl_runReefs.l0 k x1 x7 x11 x12 x13 x192000 x192001)
noncomputable def impl_runReefs.F (l0_0 : List Int) (l0_1 : List Int) (a1 : Int) (l2 : List Int) : Option (List Int) := lim (fun k => impl_runReefs.f k l0_0 l0_1 a1 l2)
theorem impl_runReefs.L0_eq (x1 : Int) (x7 : List Int) (x11 : List Int) (x12 : Int) (x13 : Int) (x192000 : List Int) (x192001 : List Int) : impl_runReefs.L0 x1 x7 x11 x12 x13 x192000 x192001 = if x13 < x12 then (if 0 ≤ x13 then (if x13 < (x11.length : Int) then ((impl_nextReef.F x192000 x192001 x1 (rd x11 x13)).bind fun t196 => (if x7.length < 17592186044416 then (impl_runReefs.L0 t196 (x7 ++ [t196]) x11 x12 (wrap64 (x13 + 1)) x192000 x192001) else (none))) else (none)) else (none)) else (some x7) := by
  refine Lim.step (f := fun k => if x13 < x12 then (if 0 ≤ x13 then (if x13 < (x11.length : Int) then ((impl_nextReef.f k x192000 x192001 x1 (rd x11 x13)).bind fun t196 => (if x7.length < 17592186044416 then (impl_runReefs.l0 k t196 (x7 ++ [t196]) x11 x12 (wrap64 (x13 + 1)) x192000 x192001) else (none))) else (none)) else (none)) else (some x7)) (fun k => (impl_runReefs.mono_l k) x1 x7 x11 x12 x13 x192000 x192001) (fun k => by simp only [impl_runReefs.l0]) ?_
  repeat' first
    | exact Lim.const _
    | with_reducible exact Lim.of (fun k => impl_nextReef.mono _ _ _ _ k)
    | with_reducible exact Lim.of (fun k => (impl_runReefs.mono_l k) _ _ _ _ _ _ _)
    | with_reducible refine Lim.ite ?_ ?_
    | with_reducible refine Lim.bind ?_ (fun _ => ?_)
    | exact Lim.of (fun k => impl_nextReef.mono _ _ _ _ k)
    | exact Lim.of (fun k => (impl_runReefs.mono_l k) _ _ _ _ _ _ _)
theorem impl_runReefs.F_eq (l0_0 : List Int) (l0_1 : List Int) (a1 : Int) (l2 : List Int) : impl_runReefs.F l0_0 l0_1 a1 l2 = impl_runReefs.L0 a1 (([] : List Int)) l2 (l2.length : Int) 0 l0_0 l0_1 := by
  refine Lim.eq (g := fun k => impl_runReefs.f k l0_0 l0_1 a1 l2) ?_
  unfold impl_runReefs.f
  repeat' first
    | exact Lim.const _
    | with_reducible exact Lim.of (fun k => (impl_runReefs.mono_l k) _ _ _ _ _ _ _)
    | with_reducible refine Lim.ite ?_ ?_
    | with_reducible refine Lim.bind ?_ (fun _ => ?_)
    | exact Lim.of (fun k => (impl_runReefs.mono_l k) _ _ _ _ _ _ _)

noncomputable def impl_countChanges.L0 (x1 : Int) (x7 : Int) (x13 : List Int) (x14 : Int) (x15 : Int) : Option (Int) := lim (fun k => impl_countChanges.l0 k x1 x7 x13 x14 x15)
noncomputable def impl_countChanges.F (l0_0 : List Int) (l0_1 : List Int) (a1 : Int) (l2 : List Int) : Option (Int) := lim (fun k => impl_countChanges.f k l0_0 l0_1 a1 l2)
theorem impl_countChanges.L0_eq (x1 : Int) (x7 : Int) (x13 : List Int) (x14 : Int) (x15 : Int) : impl_countChanges.L0 x1 x7 x13 x14 x15 = if x15 < x14 then (if 0 ≤ x15 then (if x15 < (x13.length : Int) then (impl_countChanges.L0 (rd x13 x15) (wrap64 (x7 + (mx (wrap64 ((rd x13 x15) - x1)) (wrap64 (x1 - (rd x13 x15)))))) x13 x14 (wrap64 (x15 + 1))) else (none)) else (none)) else (some x7) := by
  refine Lim.step (f := fun k => if x15 < x14 then (if 0 ≤ x15 then (if x15 < (x13.length : Int) then (impl_countChanges.l0 k (rd x13 x15) (wrap64 (x7 + (mx (wrap64 ((rd x13 x15) - x1)) (wrap64 (x1 - (rd x13 x15)))))) x13 x14 (wrap64 (x15 + 1))) else (none)) else (none)) else (some x7)) (fun k => (impl_countChanges.mono_l k) x1 x7 x13 x14 x15) (fun k => by simp only [impl_countChanges.l0]) ?_
  repeat' first
    | exact Lim.const _
    | with_reducible exact Lim.of (fun k => (impl_countChanges.mono_l k) _ _ _ _ _)
    | with_reducible refine Lim.ite ?_ ?_
    | with_reducible refine Lim.bind ?_ (fun _ => ?_)
    | exact Lim.of (fun k => (impl_countChanges.mono_l k) _ _ _ _ _)
theorem impl_countChanges.F_eq (l0_0 : List Int) (l0_1 : List Int) (a1 : Int) (l2 : List Int) : impl_countChanges.F l0_0 l0_1 a1 l2 = (impl_runReefs.F l0_0 l0_1 a1 l2).bind fun t201 => (impl_countChanges.L0 a1 0 t201 (t201.length : Int) 0) := by
  refine Lim.eq (g := fun k => impl_countChanges.f k l0_0 l0_1 a1 l2) ?_
  unfold impl_countChanges.f
  repeat' first
    | exact Lim.const _
    | with_reducible exact Lim.of (fun k => (impl_countChanges.mono_l k) _ _ _ _ _)
    | with_reducible exact Lim.of (fun k => impl_runReefs.mono _ _ _ _ k)
    | with_reducible refine Lim.ite ?_ ?_
    | with_reducible refine Lim.bind ?_ (fun _ => ?_)
    | exact Lim.of (fun k => (impl_countChanges.mono_l k) _ _ _ _ _)
    | exact Lim.of (fun k => impl_runReefs.mono _ _ _ _ k)

noncomputable def impl_CountChanges.F (l0_0 : List Int) (l0_1 : List Int) (a1 : Int) (l2 : List Int) : Option (Int × Int) := lim (fun k => impl_CountChanges.f k l0_0 l0_1 a1 l2)
theorem impl_CountChanges.F_eq (l0_0 : List Int) (l0_1 : List Int) (a1 : Int) (l2 : List Int) : impl_CountChanges.F l0_0 l0_1 a1 l2 = (impl_reefCode.F l0_0 l0_1 a1 l2).bind fun t206 => (if t206 = 0 then ((impl_countChanges.F l0_0 l0_1 a1 l2).bind fun t207 => (some (t207, 0))) else (some (0, t206))) := by
  refine Lim.eq (g := fun k => impl_CountChanges.f k l0_0 l0_1 a1 l2) ?_
  unfold impl_CountChanges.f
  repeat' first
    | exact Lim.const _
    | with_reducible exact Lim.of (fun k => impl_countChanges.mono _ _ _ _ k)
    | with_reducible exact Lim.of (fun k => impl_reefCode.mono _ _ _ _ k)
    | with_reducible refine Lim.ite ?_ ?_
    | with_reducible refine Lim.bind ?_ (fun _ => ?_)
    | exact Lim.of (fun k => impl_countChanges.mono _ _ _ _ k)
    | exact Lim.of (fun k => impl_reefCode.mono _ _ _ _ k)

noncomputable def laws_FnExactCountChanges.J0 (x2 : List Int) (x11 : List Int) (x49 : Bool) (x209000 : List Int) (x209001 : List Int) (x228000 : List Int) (x228001 : List Int) : Option (Bool) := lim (fun k => laws_FnExactCountChanges.j0 k x2 x11 x49 x209000 x209001 x228000 x228001)
noncomputable def laws_FnExactCountChanges.F (l0_0 : List Int) (l0_1 : List Int) (a1 : Int) (l2 : List Int) : Option (Bool) := lim (fun k => laws_FnExactCountChanges.f k l0_0 l0_1 a1 l2)
theorem laws_FnExactCountChanges.J0_eq (x2 : List Int) (x11 : List Int) (x49 : Bool) (x209000 : List Int) (x209001 : List Int) (x228000 : List Int) (x228001 : List Int) : laws_FnExactCountChanges.J0 x2 x11 x49 x209000 x209001 x228000 x228001 = if x49 = true then (some false) else ((laws_toReefing.F x209000 x209001).bind fun bt233 => ((laws_eqReefing.F x228000 x228001 bt233.1 bt233.2).bind fun t239 => (if t239 = true then ((laws_toInt64S.F x2).bind fun t240 => ((laws_eqInt64S.F x11 t240).bind fun t243 => (if t243 = true then (some true) else (some false)))) else (some false)))) := by
  refine Lim.step (f := fun k => if x49 = true then (some false) else ((laws_toReefing.f k x209000 x209001).bind fun bt233 => ((laws_eqReefing.f k x228000 x228001 bt233.1 bt233.2).bind fun t239 => (if t239 = true then ((laws_toInt64S.f k x2).bind fun t240 => ((laws_eqInt64S.f k x11 t240).bind fun t243 => (if t243 = true then (some true) else (some false)))) else (some false))))) (fun k => (laws_FnExactCountChanges.mono_l k) x2 x11 x49 x209000 x209001 x228000 x228001) (fun k => by simp only [laws_FnExactCountChanges.j0]) ?_
  repeat' first
    | exact Lim.const _
    | with_reducible exact Lim.of (fun k => laws_eqInt64S.mono _ _ k)
    | with_reducible exact Lim.of (fun k => laws_eqReefing.mono _ _ _ _ k)
    | with_reducible exact Lim.of (fun k => laws_toInt64S.mono _ k)
    | with_reducible exact Lim.of (fun k => laws_toReefing.mono _ _ k)
    | with_reducible refine Lim.ite ?_ ?_
    | with_reducible refine Lim.bind ?_ (fun _ => ?_)
    | exact Lim.of (fun k => laws_eqInt64S.mono _ _ k)
    | exact Lim.of (fun k => laws_eqReefing.mono _ _ _ _ k)
    | exact Lim.of (fun k => laws_toInt64S.mono _ k)
    | exact Lim.of (fun k => laws_toReefing.mono _ _ k)
theorem laws_FnExactCountChanges.F_eq (l0_0 : List Int) (l0_1 : List Int) (a1 : Int) (l2 : List Int) : laws_FnExactCountChanges.F l0_0 l0_1 a1 l2 = if (l2.length : Int) > 1048576 then (some true) else ((laws_szReefing.f l0_0 l0_1 1048576).bind fun t209 => (if t209 < 0 then (some true) else ((laws_toReefing.F l0_0 l0_1).bind fun bt210 => ((laws_toInt64S.F l2).bind fun t216 => ((spec_CountChanges.F bt210.1 bt210.2 a1 t216).bind fun bt219 => ((laws_toReefing.F l0_0 l0_1).bind fun bt221 => ((laws_toInt64S.F l2).bind fun t228 => ((impl_CountChanges.F bt221.1 bt221.2 a1 t228).bind fun bt231 => (if bt231.1 = bt219.1 then (laws_FnExactCountChanges.J0 l2 t228 (bt231.2 != bt219.2) l0_0 l0_1 bt221.1 bt221.2) else (laws_FnExactCountChanges.J0 l2 t228 true l0_0 l0_1 bt221.1 bt221.2)))))))))) := by
  refine Lim.eq (g := fun k => laws_FnExactCountChanges.f k l0_0 l0_1 a1 l2) ?_
  unfold laws_FnExactCountChanges.f
  repeat' first
    | exact Lim.const _
    | with_reducible exact Lim.of (fun k => impl_CountChanges.mono _ _ _ _ k)
    | with_reducible exact Lim.of (fun k => (laws_FnExactCountChanges.mono_l k) _ _ _ _ _ _ _)
    | with_reducible exact Lim.of (fun k => laws_toInt64S.mono _ k)
    | with_reducible exact Lim.of (fun k => laws_toReefing.mono _ _ k)
    | with_reducible exact Lim.of (fun k => spec_CountChanges.mono _ _ _ _ k)
    | with_reducible refine Lim.ite ?_ ?_
    | with_reducible refine Lim.bind ?_ (fun _ => ?_)
    | exact Lim.of (fun k => impl_CountChanges.mono _ _ _ _ k)
    | exact Lim.of (fun k => (laws_FnExactCountChanges.mono_l k) _ _ _ _ _ _ _)
    | exact Lim.of (fun k => laws_toInt64S.mono _ k)
    | exact Lim.of (fun k => laws_toReefing.mono _ _ k)
    | exact Lim.of (fun k => spec_CountChanges.mono _ _ _ _ k)

end Go.Proofs.Ytobejjbnklcgpaa.PFnExactCountChanges
