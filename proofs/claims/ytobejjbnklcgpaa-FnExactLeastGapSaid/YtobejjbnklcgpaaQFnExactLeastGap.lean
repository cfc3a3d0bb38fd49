/-
  Written by a program of this session (wip/tools/lims.py): the printed functions without their bound on rounds.
-/
import Derived.Test.YtobejjbnklcgpaaPFnExactLeastGapx1
import Derived.Test.YtobejjbnklcgpaaPFnExactLeastGapx2
import Derived.Test.YtobejjbnklcgpaaPFnExactLeastGapx3
import Derived.Test.YtobejjbnklcgpaaPFnExactLeastGapx4
import Derived.Test.YtobejjbnklcgpaaPFnExactLeastGapx5
import Derived.Test.YtobejjbnklcgpaaPFnExactLeastGapx6
import Derived.Test.YtobejjbnklcgpaaKit
set_option linter.unusedVariables false
set_option linter.unusedSimpArgs false
namespace Go.Proofs.Ytobejjbnklcgpaa.PFnExactLeastGap
open Go.RowKit Go.Proofs.Ytobejjbnklcgpaa.Kit Go.Proofs.YtobejjbnklcgpaaW.PrintWords Go.Proofs.YtobejjbnklcgpaaW.PrintLast Go.Proofs.YtobejjbnklcgpaaW.PrintMore

noncomputable def laws_toInt64S.L0 (x0 : List Int) (x3 : List Int) (x4 : Int) : Option (List Int) := lim (fun k => laws_toInt64S.l0 k x0 x3 x4)
noncomputable def laws_toInt64S.F (l0 : List Int) : Option (List Int) := lim (fun k => laws_toInt64S.f k l0)
theorem laws_toInt64S.L0_eq (x0 : List Int) (x3 : List Int) (x4 : Int) : laws_toInt64S.L0 x0 x3 x4 = if x4 < (x0.length : Int) then (if 0 ≤ x4 then (if x4 < (x3.length : Int) then (laws_toInt64S.L0 x0 (x3.set (x4 : Int).toNat (rd x0 x4)) (wrap64 (x4 + 1))) else (none)) else (none)) else (some x3) := by
  refine Lim.step (f := fun k => if x4 < (x0.length : Int) then (if 0 ≤ x4 then (if x4 < (x3.length : Int) then (laws_toInt64S.l0 k x0 (x3.set (x4 : Int).toNat (rd x0 x4)) (wrap64 (x4 + 1))) else (none)) else (none)) else (some x3)) (fun k => (laws_toInt64S.mono_l k) x0 x3 x4) (fun k => by simp only [laws_toInt64S.l0]) ?_
  repeat' first
    | exact Lim.const _
    | with_reducible exact Lim.of (fun k => (laws_toInt64S.mono_l k) _ _ _)
    | with_reducible refine Lim.ite ?_ ?_
    | with_reducible refine Lim.bind ?_ (fun _ => ?_)
    | exact Lim.of (fun k => (laws_toInt64S.mono_l k) _ _ _)
theorem laws_toInt64S.F_eq (l0 : List Int) : laws_toInt64S.F l0 = if 0 ≤ (l0.length : Int) then (if ((l0.length : Int) : Int).toNat ≤ 35184372088832 then (laws_toInt64S.L0 l0 (List.replicate ((l0.length : Int) : Int).toNat 0) 0) else (none)) else (none) := by
  refine Lim.eq (g := fun k => laws_toInt64S.f k l0) ?_
  unfold laws_toInt64S.f
  repeat' first
    | exact Lim.const _
    | with_reducible exact Lim.of (fun k => (laws_toInt64S.mono_l k) _ _ _)
    | with_reducible refine Lim.ite ?_ ?_
    | with_reducible refine Lim.bind ?_ (fun _ => ?_)
    | exact Lim.of (fun k => (laws_toInt64S.mono_l k) _ _ _)

noncomputable def laws_eqInt64S.L0 (x0 : List Int) (x1 : List Int) (x5 : Int) : Option (Bool) := lim (fun k => laws_eqInt64S.l0 k x0 x1 x5)
noncomputable def laws_eqInt64S.F (l0 : List Int) (l1 : List Int) : Option (Bool) := lim (fun k => laws_eqInt64S.f k l0 l1)
theorem laws_eqInt64S.L0_eq (x0 : List Int) (x1 : List Int) (x5 : Int) : laws_eqInt64S.L0 x0 x1 x5 = if x5 < (x0.length : Int) then (if 0 ≤ x5 then (if x5 < (x1.length : Int) then (if (rd x0 x5) = (rd x1 x5) then (laws_eqInt64S.L0 x0 x1 (wrap64 (x5 + 1))) else (some false)) else (none)) else (none)) else (some true) := by
  refine Lim.step (f := fun k => if x5 < (x0.length : Int) then (if 0 ≤ x5 then (if x5 < (x1.length : Int) then (if (rd x0 x5) = (rd x1 x5) then (laws_eqInt64S.l0 k x0 x1 (wrap64 (x5 + 1))) else (some false)) else (none)) else (none)) else (some true)) (fun k => (laws_eqInt64S.mono_l k) x0 x1 x5) (fun k => by simp only [laws_eqInt64S.l0]) ?_
  repeat' first
    | exact Lim.const _
    | with_reducible exact Lim.of (fun k => (laws_eqInt64S.mono_l k) _ _ _)
    | with_reducible refine Lim.ite ?_ ?_
    | with_reducible refine Lim.bind ?_ (fun _ => ?_)
    | exact Lim.of (fun k => (laws_eqInt64S.mono_l k) _ _ _)
theorem laws_eqInt64S.F_eq (l0 : List Int) (l1 : List Int) : laws_eqInt64S.F l0 l1 = if (l0.length : Int) = (l1.length : Int) then (laws_eqInt64S.L0 l0 l1 0) else (some false) := by
  refine Lim.eq (g := fun k => laws_eqInt64S.f k l0 l1) ?_
  unfold laws_eqInt64S.f
  repeat' first
    | exact Lim.const _
    | with_reducible exact Lim.of (fun k => (laws_eqInt64S.mono_l k) _ _ _)
    | with_reducible refine Lim.ite ?_ ?_
    | with_reducible refine Lim.bind ?_ (fun _ => ?_)
    | exact Lim.of (fun k => (laws_eqInt64S.mono_l k) _ _ _)

noncomputable def spec_l00Rises.L0 (x0 : List Int) (x1 : Int) (x2 : Int) (x7 : Int) : Option (Bool) := lim (fun k => spec_l00Rises.l0 k x0 x1 x2 x7)
noncomputable def spec_l00Rises.F (l0 : List Int) (a1 : Int) (a2 : Int) : Option (Bool) := lim (fun k => spec_l00Rises.f k l0 a1 a2)
theorem spec_l00Rises.L0_eq (x0 : List Int) (x1 : Int) (x2 : Int) (x7 : Int) : spec_l00Rises.L0 x0 x1 x2 x7 = if x7 < (x0.length : Int) then (if 0 ≤ x7 then ((spec_l00In.f (rd x0 x7) x1 x2).bind fun t109 => (if t109 = true then (if x7 > 0 then (if 0 ≤ (wrap64 (x7 - 1)) then (if (wrap64 (x7 - 1)) < (x0.length : Int) then (if (rd x0 (wrap64 (x7 - 1))) ≥ (rd x0 x7) then (some false) else (spec_l00Rises.L0 x0 x1 x2 (wrap64 (x7 + 1)))) else (none)) else (none)) else (spec_l00Rises.L0 x0 x1 x2 (wrap64 (x7 + 1)))) else (some false))) else (none)) else (some true) := by
  refine Lim.step (f := fun k => if x7 < (x0.length : Int) then (if 0 ≤ x7 then ((spec_l00In.f (rd x0 x7) x1 x2).bind fun t109 => (if t109 = true then (if x7 > 0 then (if 0 ≤ (wrap64 (x7 - 1)) then (if (wrap64 (x7 - 1)) < (x0.length : Int) then (if (rd x0 (wrap64 (x7 - 1))) ≥ (rd x0 x7) then (some false) else (spec_l00Rises.l0 k x0 x1 x2 (wrap64 (x7 + 1)))) else (none)) else (none)) else (spec_l00Rises.l0 k x0 x1 x2 (wrap64 (x7 + 1)))) else (some false))) else (none)) else (some true)) (fun k => (spec_l00Rises.mono_l k) x0 x1 x2 x7) (fun k => by simp only [spec_l00Rises.l0]) ?_
  repeat' first
    | exact Lim.const _
    | with_reducible exact Lim.of (fun k => (spec_l00Rises.mono_l k) _ _ _ _)
    | with_reducible refine Lim.ite ?_ ?_
    | with_reducible refine Lim.bind ?_ (fun _ => ?_)
    | exact Lim.of (fun k => (spec_l00Rises.mono_l k) _ _ _ _)
theorem spec_l00Rises.F_eq (l0 : List Int) (a1 : Int) (a2 : Int) : spec_l00Rises.F l0 a1 a2 = spec_l00Rises.L0 l0 a1 a2 0 := by
  refine Lim.eq (g := fun k => spec_l00Rises.f k l0 a1 a2) ?_
  unfold spec_l00Rises.f
  repeat' first
    | exact Lim.const _
    | with_reducible exact Lim.of (fun k => (spec_l00Rises.mono_l k) _ _ _ _)
    | with_reducible refine Lim.ite ?_ ?_
    | with_reducible refine Lim.bind ?_ (fun _ => ?_)
    | exact Lim.of (fun k => (spec_l00Rises.mono_l k) _ _ _ _)

noncomputable def spec_l18In.F (l0 : List Int) : Option (Bool) := lim (fun k => spec_l18In.f k l0)
theorem spec_l18In.F_eq (l0 : List Int) : spec_l18In.F l0 = if (l0.length : Int) ≤ 6 then ((spec_l00Rises.F l0 1 600).bind fun t112 => (some t112)) else (some false) := by
  refine Lim.eq (g := fun k => spec_l18In.f k l0) ?_
  unfold spec_l18In.f
  repeat' first
    | exact Lim.const _
    | with_reducible exact Lim.of (fun k => spec_l00Rises.mono _ _ _ k)
    | with_reducible refine Lim.ite ?_ ?_
    | with_reducible refine Lim.bind ?_ (fun _ => ?_)
    | exact Lim.of (fun k => spec_l00Rises.mono _ _ _ k)

noncomputable def spec_l18Even.L0 (x0 : List Int) (x1 : Int) (x7 : Int) (x127000 : List Int) (x127001 : List Int) : Option (List Int × List Int × Bool) := lim (fun k => spec_l18Even.l0 k x0 x1 x7 x127000 x127001)
noncomputable def spec_l18Even.F (l0 : List Int) (a1 : Int) : Option (List Int × List Int × Bool) := lim (fun k => spec_l18Even.f k l0 a1)
theorem spec_l18Even.L0_eq (x0 : List Int) (x1 : Int) (x7 : Int) (x127000 : List Int) (x127001 : List Int) : spec_l18Even.L0 x0 x1 x7 x127000 x127001 = if x7 < (x0.length : Int) then (if 0 ≤ x7 then (if (rd x0 x7) < x1 then (some (([] : List Int), ([] : List Int), false)) else (if x127001.length < 17592186044416 then (spec_l18Even.L0 x0 x1 (wrap64 (x7 + 1)) x127000 (x127001 ++ [wrap64 ((rd x0 x7) - x1)])) else (none))) else (none)) else (some (x127000, x127001, true)) := by
  refine Lim.step (f := fun k => if x7 < (x0.length : Int) then (if 0 ≤ x7 then (if (rd x0 x7) < x1 then (some (([] : List Int), ([] : List Int), false)) else (if x127001.length < 17592186044416 then (spec_l18Even.l0 k x0 x1 (wrap64 (x7 + 1)) x127000 (x127001 ++ [wrap64 ((rd x0 x7) - x1)])) else (none))) else (none)) else (some (x127000, x127001, true))) (fun k => (spec_l18Even.mono_l k) x0 x1 x7 x127000 x127001) (fun k => by simp only [spec_l18Even.l0]) ?_
  repeat' first
    | exact Lim.const _
    | with_reducible exact Lim.of (fun k => (spec_l18Even.mono_l k) _ _ _ _ _)
    | with_reducible refine Lim.ite ?_ ?_
    | with_reducible refine Lim.bind ?_ (fun _ => ?_)
    | exact Lim.of (fun k => (spec_l18Even.mono_l k) _ _ _ _ _)
theorem spec_l18Even.F_eq (l0 : List Int) (a1 : Int) : spec_l18Even.F l0 a1 = (spec_l00Own.f l0).bind fun t120 => (spec_l18Even.L0 l0 a1 0 t120 (([] : List Int))) := by
  refine Lim.eq (g := fun k => spec_l18Even.f k l0 a1) ?_
  unfold spec_l18Even.f
  repeat' first
    | exact Lim.const _
    | with_reducible exact Lim.of (fun k => (spec_l18Even.mono_l k) _ _ _ _ _)
    | with_reducible refine Lim.ite ?_ ?_
    | with_reducible refine Lim.bind ?_ (fun _ => ?_)
    | exact Lim.of (fun k => (spec_l18Even.mono_l k) _ _ _ _ _)

noncomputable def spec_l18Winds.L0 (x0 : List Int) (x3 : Int) : Option (Bool) := lim (fun k => spec_l18Winds.l0 k x0 x3)
noncomputable def spec_l18Winds.F (l0 : List Int) : Option (Bool) := lim (fun k => spec_l18Winds.f k l0)
theorem spec_l18Winds.L0_eq (x0 : List Int) (x3 : Int) : spec_l18Winds.L0 x0 x3 = if x3 < (x0.length : Int) then (if 0 ≤ x3 then ((spec_l18Wind.f (rd x0 x3)).bind fun t134 => (if t134 = true then (spec_l18Winds.L0 x0 (wrap64 (x3 + 1))) else (some false))) else (none)) else (some (decide ((x0.length : Int) ≤ 60))) := by
  refine Lim.step (f := fun k => if x3 < (x0.length : Int) then (if 0 ≤ x3 then ((spec_l18Wind.f (rd x0 x3)).bind fun t134 => (if t134 = true then (spec_l18Winds.l0 k x0 (wrap64 (x3 + 1))) else (some false))) else (none)) else (some (decide ((x0.length : Int) ≤ 60)))) (fun k => (spec_l18Winds.mono_l k) x0 x3) (fun k => by simp only [spec_l18Winds.l0]) ?_
  repeat' first
    | exact Lim.const _
    | with_reducible exact Lim.of (fun k => (spec_l18Winds.mono_l k) _ _)
    | with_reducible refine Lim.ite ?_ ?_
    | with_reducible refine Lim.bind ?_ (fun _ => ?_)
    | exact Lim.of (fun k => (spec_l18Winds.mono_l k) _ _)
theorem spec_l18Winds.F_eq (l0 : List Int) : spec_l18Winds.F l0 = spec_l18Winds.L0 l0 0 := by
  refine Lim.eq (g := fun k => spec_l18Winds.f k l0) ?_
  unfold spec_l18Winds.f
  repeat' first
    | exact Lim.const _
    | with_reducible exact Lim.of (fun k => (spec_l18Winds.mono_l k) _ _)
    | with_reducible refine Lim.ite ?_ ?_
    | with_reducible refine Lim.bind ?_ (fun _ => ?_)
    | exact Lim.of (fun k => (spec_l18Winds.mono_l k) _ _)

noncomputable def spec_l18Next.J1 (x0 : List (S40)) (x1 : Int) (x2 : Int) : Option (Int) := lim (fun k => spec_l18Next.j1 k x0 x1 x2)
noncomputable def spec_l18Next.L1 (x0 : List (S40)) (x1 : Int) (x2 : Int) : Option (Int) := lim (fun k => spec_l18Next.l1 k x0 x1 x2)
noncomputable def spec_l18Next.L0 (x0 : List (S40)) (x1 : Int) (x2 : Int) : Option (Int) := lim (fun k => spec_l18Next.l0 k x0 x1 x2)
noncomputable def spec_l18Next.F (l0 : List (S40)) (a1 : Int) (a2 : Int) : Option (Int) := lim (fun k => spec_l18Next.f k l0 a1 a2)
theorem spec_l18Next.J1_eq (x0 : List (S40)) (x1 : Int) (x2 : Int) : spec_l18Next.J1 x0 x1 x2 = spec_l18Next.L1 x0 x1 x2 := by
  refine Lim.step (f := fun k => spec_l18Next.l1 k x0 x1 x2) (fun k => (spec_l18Next.mono_l k).1 x0 x1 x2) (fun k => by simp only [spec_l18Next.j1]) ?_
  repeat' first
    | exact Lim.const _
    | with_reducible exact Lim.of (fun k => (spec_l18Next.mono_l k).2.1 _ _ _)
    | with_reducible refine Lim.ite ?_ ?_
    | with_reducible refine Lim.bind ?_ (fun _ => ?_)
    | exact Lim.of (fun k => (spec_l18Next.mono_l k).2.1 _ _ _)
theorem spec_l18Next.L1_eq (x0 : List (S40)) (x1 : Int) (x2 : Int) : spec_l18Next.L1 x0 x1 x2 = if x1 > 0 then (if 0 ≤ (wrap64 (x1 - 1)) then (if (wrap64 (x1 - 1)) < (((rd_T40 x0 0).f1).length : Int) then (if x2 < (rd ((rd_T40 x0 0).f1) (wrap64 (x1 - 1))) then (spec_l18Next.L1 x0 (wrap64 (x1 - 1)) x2) else (some x1)) else (none)) else (none)) else (some x1) := by
  refine Lim.step (f := fun k => if x1 > 0 then (if 0 ≤ (wrap64 (x1 - 1)) then (if (wrap64 (x1 - 1)) < (((rd_T40 x0 0).f1).length : Int) then (if x2 < (rd ((rd_T40 x0 0).f1) (wrap64 (x1 - 1))) then (spec_l18Next.l1 k x0 (wrap64 (x1 - 1)) x2) else (some x1)) else (none)) else (none)) else (some x1)) (fun k => (spec_l18Next.mono_l k).2.1 x0 x1 x2) (fun k => by simp only [spec_l18Next.l1]) ?_
  repeat' first
    | exact Lim.const _
    | with_reducible exact Lim.of (fun k => (spec_l18Next.mono_l k).2.1 _ _ _)
    | with_reducible refine Lim.ite ?_ ?_
    | with_reducible refine Lim.bind ?_ (fun _ => ?_)
    | exact Lim.of (fun k => (spec_l18Next.mono_l k).2.1 _ _ _)
theorem spec_l18Next.L0_eq (x0 : List (S40)) (x1 : Int) (x2 : Int) : spec_l18Next.L0 x0 x1 x2 = if x1 < (((rd_T40 x0 0).f0).length : Int) then (if 0 ≤ x1 then (if x2 ≥ (rd ((rd_T40 x0 0).f0) x1) then (spec_l18Next.L0 x0 (wrap64 (x1 + 1)) x2) else (spec_l18Next.J1 x0 x1 x2)) else (none)) else (spec_l18Next.J1 x0 x1 x2) := by
  refine Lim.step (f := fun k => if x1 < (((rd_T40 x0 0).f0).length : Int) then (if 0 ≤ x1 then (if x2 ≥ (rd ((rd_T40 x0 0).f0) x1) then (spec_l18Next.l0 k x0 (wrap64 (x1 + 1)) x2) else (spec_l18Next.j1 k x0 x1 x2)) else (none)) else (spec_l18Next.j1 k x0 x1 x2)) (fun k => (spec_l18Next.mono_l k).2.2 x0 x1 x2) (fun k => by simp only [spec_l18Next.l0]) ?_
  repeat' first
    | exact Lim.const _
    | with_reducible exact Lim.of (fun k => (spec_l18Next.mono_l k).1 _ _ _)
    | with_reducible exact Lim.of (fun k => (spec_l18Next.mono_l k).2.2 _ _ _)
    | with_reducible refine Lim.ite ?_ ?_
    | with_reducible refine Lim.bind ?_ (fun _ => ?_)
    | exact Lim.of (fun k => (spec_l18Next.mono_l k).1 _ _ _)
    | exact Lim.of (fun k => (spec_l18Next.mono_l k).2.2 _ _ _)
theorem spec_l18Next.F_eq (l0 : List (S40)) (a1 : Int) (a2 : Int) : spec_l18Next.F l0 a1 a2 = if 0 < (l0.length : Int) then (spec_l18Next.L0 l0 a1 a2) else (none) := by
  refine Lim.eq (g := fun k => spec_l18Next.f k l0 a1 a2) ?_
  unfold spec_l18Next.f
  repeat' first
    | exact Lim.const _
    | with_reducible exact Lim.of (fun k => (spec_l18Next.mono_l k).2.2 _ _ _)
    | with_reducible refine Lim.ite ?_ ?_
    | with_reducible refine Lim.bind ?_ (fun _ => ?_)
    | exact Lim.of (fun k => (spec_l18Next.mono_l k).2.2 _ _ _)

noncomputable def spec_l18Run.L0 (x0 : List (S40)) (x1 : Int) (x2 : List Int) (x7 : List Int) (x8 : Int) : Option (List Int) := lim (fun k => spec_l18Run.l0 k x0 x1 x2 x7 x8)
noncomputable def spec_l18Run.F (l0 : List (S40)) (a1 : Int) (l2 : List Int) : Option (List Int) := lim (fun k => spec_l18Run.f k l0 a1 l2)
theorem spec_l18Run.L0_eq (x0 : List (S40)) (x1 : Int) (x2 : List Int) (x7 : List Int) (x8 : Int) : spec_l18Run.L0 x0 x1 x2 x7 x8 = if x8 < (x2.length : Int) then (if 0 ≤ x8 then ((spec_l18Next.F x0 x1 (rd x2 x8)).bind fun t146 => (if x7.length < 17592186044416 then (spec_l18Run.L0 x0 t146 x2 (x7 ++ [t146]) (wrap64 (x8 + 1))) else (none))) else (none)) else (some x7) := by
  refine Lim.step (f := fun k => if x8 < (x2.length : Int) then (if 0 ≤ x8 then ((spec_l18Next.f k x0 x1 (rd x2 x8)).bind fun t146 => (if x7.length < 17592186044416 then (spec_l18Run.l0 k x0 t146 x2 (x7 ++ [t146]) (wrap64 (x8 + 1))) else (none))) else (none)) else (some x7)) (fun k => (spec_l18Run.mono_l k) x0 x1 x2 x7 x8) (fun k => by simp only [spec_l18Run.l0]) ?_
  repeat' first
    | exact Lim.const _
    | with_reducible exact Lim.of (fun k => spec_l18Next.mono _ _ _ k)
    | with_reducible exact Lim.of (fun k => (spec_l18Run.mono_l k) _ _ _ _ _)
    | with_reducible refine Lim.ite ?_ ?_
    | with_reducible refine Lim.bind ?_ (fun _ => ?_)
    | exact Lim.of (fun k => spec_l18Next.mono _ _ _ k)
    | exact Lim.of (fun k => (spec_l18Run.mono_l k) _ _ _ _ _)
theorem spec_l18Run.F_eq (l0 : List (S40)) (a1 : Int) (l2 : List Int) : spec_l18Run.F l0 a1 l2 = if 0 < (l0.length : Int) then (spec_l18Run.L0 l0 a1 l2 (([] : List Int)) 0) else (none) := by
  refine Lim.eq (g := fun k => spec_l18Run.f k l0 a1 l2) ?_
  unfold spec_l18Run.f
  repeat' first
    | exact Lim.const _
    | with_reducible exact Lim.of (fun k => (spec_l18Run.mono_l k) _ _ _ _ _)
    | with_reducible refine Lim.ite ?_ ?_
    | with_reducible refine Lim.bind ?_ (fun _ => ?_)
    | exact Lim.of (fun k => (spec_l18Run.mono_l k) _ _ _ _ _)

noncomputable def spec_l18Changes.L0 (x1 : Int) (x7 : List Int) (x8 : Int) (x9 : Int) : Option (Int) := lim (fun k => spec_l18Changes.l0 k x1 x7 x8 x9)
noncomputable def spec_l18Changes.F (l0 : List (S40)) (a1 : Int) (l2 : List Int) : Option (Int) := lim (fun k => spec_l18Changes.f k l0 a1 l2)
theorem spec_l18Changes.L0_eq (x1 : Int) (x7 : List Int) (x8 : Int) (x9 : Int) : spec_l18Changes.L0 x1 x7 x8 x9 = if x9 < (x7.length : Int) then (if 0 ≤ x9 then ((spec_l00Size.f (wrap64 ((rd x7 x9) - x1))).bind fun t155 => (spec_l18Changes.L0 (rd x7 x9) x7 (wrap64 (x8 + t155)) (wrap64 (x9 + 1)))) else (none)) else (some x8) := by
  refine Lim.step (f := fun k => if x9 < (x7.length : Int) then (if 0 ≤ x9 then ((spec_l00Size.f (wrap64 ((rd x7 x9) - x1))).bind fun t155 => (spec_l18Changes.l0 k (rd x7 x9) x7 (wrap64 (x8 + t155)) (wrap64 (x9 + 1)))) else (none)) else (some x8)) (fun k => (spec_l18Changes.mono_l k) x1 x7 x8 x9) (fun k => by simp only [spec_l18Changes.l0]) ?_
  repeat' first
    | exact Lim.const _
    | with_reducible exact Lim.of (fun k => (spec_l18Changes.mono_l k) _ _ _ _)
    | with_reducible refine Lim.ite ?_ ?_
    | with_reducible refine Lim.bind ?_ (fun _ => ?_)
    | exact Lim.of (fun k => (spec_l18Changes.mono_l k) _ _ _ _)
theorem spec_l18Changes.F_eq (l0 : List (S40)) (a1 : Int) (l2 : List Int) : spec_l18Changes.F l0 a1 l2 = if 0 < (l0.length : Int) then ((spec_l18Run.F l0 a1 l2).bind fun t151 => (spec_l18Changes.L0 a1 t151 0 0)) else (none) := by
  refine Lim.eq (g := fun k => spec_l18Changes.f k l0 a1 l2) ?_
  unfold spec_l18Changes.f
  repeat' first
    | exact Lim.const _
    | with_reducible exact Lim.of (fun k => (spec_l18Changes.mono_l k) _ _ _ _)
    | with_reducible exact Lim.of (fun k => spec_l18Run.mono _ _ _ k)
    | with_reducible refine Lim.ite ?_ ?_
    | with_reducible refine Lim.bind ?_ (fun _ => ?_)
    | exact Lim.of (fun k => (spec_l18Changes.mono_l k) _ _ _ _)
    | exact Lim.of (fun k => spec_l18Run.mono _ _ _ k)

noncomputable def spec_LeastGap.J0 (x0 : List Int) (x1 : Int) (x2 : List Int) (x3 : Int) (x30 : Bool) : Option (Int × Int) := lim (fun k => spec_LeastGap.j0 k x0 x1 x2 x3 x30)
noncomputable def spec_LeastGap.L0 (x0 : List Int) (x1 : Int) (x2 : List Int) (x3 : Int) (x10 : Int) : Option (Int × Int) := lim (fun k => spec_LeastGap.l0 k x0 x1 x2 x3 x10)
noncomputable def spec_LeastGap.F (l0 : List Int) (a1 : Int) (l2 : List Int) (a3 : Int) : Option (Int × Int) := lim (fun k => spec_LeastGap.f k l0 a1 l2 a3)
theorem spec_LeastGap.J0_eq (x0 : List Int) (x1 : Int) (x2 : List Int) (x3 : Int) (x30 : Bool) : spec_LeastGap.J0 x0 x1 x2 x3 x30 = if x30 = true then (some (0, 2)) else (spec_LeastGap.L0 x0 x1 x2 x3 0) := by
  refine Lim.step (f := fun k => if x30 = true then (some (0, 2)) else (spec_LeastGap.l0 k x0 x1 x2 x3 0)) (fun k => (spec_LeastGap.mono_l k).1 x0 x1 x2 x3 x30) (fun k => by simp only [spec_LeastGap.j0]) ?_
  repeat' first
    | exact Lim.const _
    | with_reducible exact Lim.of (fun k => (spec_LeastGap.mono_l k).2 _ _ _ _ _)
    | with_reducible refine Lim.ite ?_ ?_
    | with_reducible refine Lim.bind ?_ (fun _ => ?_)
    | exact Lim.of (fun k => (spec_LeastGap.mono_l k).2 _ _ _ _ _)
theorem spec_LeastGap.L0_eq (x0 : List Int) (x1 : Int) (x2 : List Int) (x3 : Int) (x10 : Int) : spec_LeastGap.L0 x0 x1 x2 x3 x10 = if x10 ≤ 600 then ((spec_l18Even.F x0 x10).bind fun bt161 => (if bt161.2.2 = true then ((spec_l18Changes.F [(⟨bt161.1, bt161.2.1⟩ : S40)] x1 x2).bind fun t170 => (if t170 ≤ x3 then (some (x10, 0)) else (spec_LeastGap.L0 x0 x1 x2 x3 (wrap64 (x10 + 1))))) else (some (0, 3)))) else (some (0, 3)) := by
  refine Lim.step (f := fun k => if x10 ≤ 600 then ((spec_l18Even.f k x0 x10).bind fun bt161 => (if bt161.2.2 = true then ((spec_l18Changes.f k [(⟨bt161.1, bt161.2.1⟩ : S40)] x1 x2).bind fun t170 => (if t170 ≤ x3 then (some (x10, 0)) else (spec_LeastGap.l0 k x0 x1 x2 x3 (wrap64 (x10 + 1))))) else (some (0, 3)))) else (some (0, 3))) (fun k => (spec_LeastGap.mono_l k).2 x0 x1 x2 x3 x10) (fun k => by simp only [spec_LeastGap.l0]) ?_
  repeat' first
    | exact Lim.const _
    | with_reducible exact Lim.of (fun k => (spec_LeastGap.mono_l k).2 _ _ _ _ _)
    | with_reducible exact Lim.of (fun k => spec_l18Changes.mono _ _ _ k)
    | with_reducible exact Lim.of (fun k => spec_l18Even.mono _ _ k)
    | with_reducible refine Lim.ite ?_ ?_
    | with_reducible refine Lim.bind ?_ (fun _ => ?_)
    | exact Lim.of (fun k => (spec_LeastGap.mono_l k).2 _ _ _ _ _)
    | exact Lim.of (fun k => spec_l18Changes.mono _ _ _ k)
    | exact Lim.of (fun k => spec_l18Even.mono _ _ k)
theorem spec_LeastGap.F_eq (l0 : List Int) (a1 : Int) (l2 : List Int) (a3 : Int) : spec_LeastGap.F l0 a1 l2 a3 = (spec_l18In.F l0).bind fun t157 => (if t157 = true then ((spec_l00In.f a1 0 (l0.length : Int)).bind fun t158 => (if t158 = true then ((spec_l18Winds.F l2).bind fun t159 => (if t159 = true then ((spec_l00In.f a3 0 360).bind fun t160 => (spec_LeastGap.J0 l0 a1 l2 a3 (!t160))) else (spec_LeastGap.J0 l0 a1 l2 a3 true))) else (spec_LeastGap.J0 l0 a1 l2 a3 true))) else (some (0, 1))) := by
  refine Lim.eq (g := fun k => spec_LeastGap.f k l0 a1 l2 a3) ?_
  unfold spec_LeastGap.f
  repeat' first
    | exact Lim.const _
    | with_reducible exact Lim.of (fun k => (spec_LeastGap.mono_l k).1 _ _ _ _ _)
    | with_reducible exact Lim.of (fun k => spec_l18In.mono _ k)
    | with_reducible exact Lim.of (fun k => spec_l18Winds.mono _ k)
    | with_reducible refine Lim.ite ?_ ?_
    | with_reducible refine Lim.bind ?_ (fun _ => ?_)
    | exact Lim.of (fun k => (spec_LeastGap.mono_l k).1 _ _ _ _ _)
    | exact Lim.of (fun k => spec_l18In.mono _ k)
    | exact Lim.of (fun k => spec_l18Winds.mono _ k)

noncomputable def impl_evenReefing.L0 (x1 : Int) (x13 : List Int) (x14 : Int) (x15 : Int) (x179000 : List Int) (x179001 : List Int) : Option (List Int × List Int × Bool) := lim (fun k => impl_evenReefing.l0 k x1 x13 x14 x15 x179000 x179001)
noncomputable def impl_evenReefing.F (l0 : List Int) (a1 : Int) : Option (List Int × List Int × Bool) := lim (fun k => impl_evenReefing.f k l0 a1)
theorem impl_evenReefing.L0_eq (x1 : Int) (x13 : List Int) (x14 : Int) (x15 : Int) (x179000 : List Int) (x179001 : List Int) : impl_evenReefing.L0 x1 x13 x14 x15 x179000 x179001 = if x15 < x14 then (if 0 ≤ x15 then (if x15 < (x13.length : Int) then (if (rd x13 x15) < x1 then (some (([] : List Int), ([] : List Int), false)) else (if x179001.length < 17592186044416 then (impl_evenReefing.L0 x1 x13 x14 (wrap64 (x15 + 1)) x179000 (x179001 ++ [wrap64 ((rd x13 x15) - x1)])) else (none))) else (none)) else (none)) else (some (x179000, x179001, true)) := by
  refine Lim.step (f := fun k => if x15 < x14 then (if 0 ≤ x15 then (if x15 < (x13.length : Int) then (if (rd x13 x15) < x1 then (some (([] : List Int), ([] : List Int), false)) else (if x179001.length < 17592186044416 then (impl_evenReefing.l0 k x1 x13 x14 (wrap64 (x15 + 1)) x179000 (x179001 ++ [wrap64 ((rd x13 x15) - x1)])) else (none))) else (none)) else (none)) else (some (x179000, x179001, true))) (fun k => (impl_evenReefing.mono_l k) x1 x13 x14 x15 x179000 x179001) (fun k => by simp only [impl_evenReefing.l0]) ?_
  repeat' first
    | exact Lim.const _
    | with_reducible exact Lim.of (fun k => (impl_evenReefing.mono_l k) _ _ _ _ _ _)
    | with_reducible refine Lim.ite ?_ ?_
    | with_reducible refine Lim.bind ?_ (fun _ => ?_)
    | exact Lim.of (fun k => (impl_evenReefing.mono_l k) _ _ _ _ _ _)
theorem impl_evenReefing.F_eq (l0 : List Int) (a1 : Int) : impl_evenReefing.F l0 a1 = (some (([] : List Int) : List Int)).bind fun y172 => (if y172.length + l0.length < 17592186044416 then (impl_evenReefing.L0 a1 l0 (l0.length : Int) 0 (y172 ++ l0) ([] : List Int)) else (none)) := by
  refine Lim.eq (g := fun k => impl_evenReefing.f k l0 a1) ?_
  unfold impl_evenReefing.f
  repeat' first
    | exact Lim.const _
    | with_reducible exact Lim.of (fun k => (impl_evenReefing.mono_l k) _ _ _ _ _ _)
    | with_reducible refine Lim.ite ?_ ?_
    | with_reducible refine Lim.bind ?_ (fun _ => ?_)
    | exact Lim.of (fun k => (impl_evenReefing.mono_l k) _ _ _ _ _ _)

noncomputable def impl_ValidReefing.J0 (x17 : Bool) (x184000 : List Int) (x184001 : List Int) : Option (Bool) := lim (fun k => impl_ValidReefing.j0 k x17 x184000 x184001)
noncomputable def impl_ValidReefing.L0 (x19 : List Int) (x20 : Int) (x21 : Int) (x184000 : List Int) (x184001 : List Int) : Option (Bool) := lim (fun k => impl_ValidReefing.l0 k x19 x20 x21 x184000 x184001)
noncomputable def impl_ValidReefing.F (l0_0 : List Int) (l0_1 : List Int) : Option (Bool) := lim (fun k => impl_ValidReefing.f k l0_0 l0_1)
theorem impl_ValidReefing.J0_eq (x17 : Bool) (x184000 : List Int) (x184001 : List Int) : impl_ValidReefing.J0 x17 x184000 x184001 = if x17 = true then (some false) else (impl_ValidReefing.L0 x184000 (x184000.length : Int) 0 x184000 x184001) := by
  refine Lim.step (f := fun k => if x17 = true then (some false) else (impl_ValidReefing.l0 k x184000 (x184000.length : Int) 0 x184000 x184001)) (fun k => (impl_ValidReefing.mono_l k).1 x17 x184000 x184001) (fun k => by simp only [impl_ValidReefing.j0]) ?_
  repeat' first
    | exact Lim.const _
    | with_reducible exact Lim.of (fun k => (impl_ValidReefing.mono_l k).2 _ _ _ _ _)
    | with_reducible refine Lim.ite ?_ ?_
    | with_reducible refine Lim.bind ?_ (fun _ => ?_)
    | exact Lim.of (fun k => (impl_ValidReefing.mono_l k).2 _ _ _ _ _)
theorem impl_ValidReefing.L0_eq (x19 : List Int) (x20 : Int) (x21 : Int) (x184000 : List Int) (x184001 : List Int) : impl_ValidReefing.L0 x19 x20 x21 x184000 x184001 = if x21 < x20 then (if 0 ≤ x21 then (if x21 < (x19.length : Int) then ((impl_within.f (rd x19 x21) 1 600).bind fun t185 => (if t185 = true then (if x21 < (x184001.length : Int) then ((impl_within.f (rd x184001 x21) 0 (rd x19 x21)).bind fun t187 => (if t187 = true then (if x21 > 0 then (if 0 ≤ (wrap64 (x21 - 1)) then (if (wrap64 (x21 - 1)) < (x184000.length : Int) then (if (rd x19 x21) ≤ (rd x184000 (wrap64 (x21 - 1))) then (some false) else (if (wrap64 (x21 - 1)) < (x184001.length : Int) then (if (rd x184001 x21) ≤ (rd x184001 (wrap64 (x21 - 1))) then (some false) else (impl_ValidReefing.L0 x19 x20 (wrap64 (x21 + 1)) x184000 x184001)) else (none))) else (none)) else (none)) else (impl_ValidReefing.L0 x19 x20 (wrap64 (x21 + 1)) x184000 x184001)) else (some false))) else (none)) else (some false))) else (none)) else (none)) else (some true) := by
  refine Lim.step (f := fun k => if x21 < x20 then (if 0 ≤ x21 then (if x21 < (x19.length : Int) then ((impl_within.f (rd x19 x21) 1 600).bind fun t185 => (if t185 = true then (if x21 < (x184001.length : Int) then ((impl_within.f (rd x184001 x21) 0 (rd x19 x21)).bind fun t187 => (if t187 = true then (if x21 > 0 then (if 0 ≤ (wrap64 (x21 - 1)) then (if (wrap64 (x21 - 1)) < (x184000.length : Int) then (if (rd x19 x21) ≤ (rd x184000 (wrap64 (x21 - 1))) then (some false) else (if (wrap64 (x21 - 1)) < (x184001.length : Int) then (if (rd x184001 x21) ≤ (rd x184001 (wrap64 (x21 - 1))) then (some false) else (impl_ValidReefing.l0 k x19 x20 (wrap64 (x21 + 1)) x184000 x184001)) else (none))) else (none)) else (none)) else (impl_ValidReefing.l0 k x19 x20 (wrap64 (x21 + 1)) x184000 x184001)) else (some false))) else (none)) else (some false))) else (none)) else (none)) else (some true)) (fun k => (impl_ValidReefing.mono_l k).2 x19 x20 x21 x184000 x184001) (fun k => by simp only [impl_ValidReefing.l0]) ?_
  repeat' first
    | exact Lim.const _
    | with_reducible exact Lim.of (fun k => (impl_ValidReefing.mono_l k).2 _ _ _ _ _)
    | with_reducible refine Lim.ite ?_ ?_
    | with_reducible refine Lim.bind ?_ (fun _ => ?_)
    | exact Lim.of (fun k => (impl_ValidReefing.mono_l k).2 _ _ _ _ _)
theorem impl_ValidReefing.F_eq (l0_0 : List Int) (l0_1 : List Int) : impl_ValidReefing.F l0_0 l0_1 = if (l0_0.length : Int) > 6 then (impl_ValidReefing.J0 true l0_0 l0_1) else (impl_ValidReefing.J0 ((l0_1.length : Int) != (l0_0.length : Int)) l0_0 l0_1) := by
  refine Lim.eq (g := fun k => impl_ValidReefing.f k l0_0 l0_1) ?_
  unfold impl_ValidReefing.f
  repeat' first
    | exact Lim.const _
    | with_reducible exact Lim.of (fun k => (impl_ValidReefing.mono_l k).1 _ _ _)
    | with_reducible refine Lim.ite ?_ ?_
    | with_reducible refine Lim.bind ?_ (fun _ => ?_)
    | exact Lim.of (fun k => (impl_ValidReefing.mono_l k).1 _ _ _)

noncomputable def impl_areIn.L0 (x2 : Int) (x3 : Int) (x15 : List Int) (x16 : Int) (x17 : Int) : Option (Bool) := lim (fun k => impl_areIn.l0 k x2 x3 x15 x16 x17)
noncomputable def impl_areIn.F (l0 : List Int) (a1 : Int) (a2 : Int) (a3 : Int) : Option (Bool) := lim (fun k => impl_areIn.f k l0 a1 a2 a3)
theorem impl_areIn.L0_eq (x2 : Int) (x3 : Int) (x15 : List Int) (x16 : Int) (x17 : Int) : impl_areIn.L0 x2 x3 x15 x16 x17 = if x17 < x16 then (if 0 ≤ x17 then (if x17 < (x15.length : Int) then ((impl_within.f (rd x15 x17) x2 x3).bind fun t192 => (if t192 = true then (impl_areIn.L0 x2 x3 x15 x16 (wrap64 (x17 + 1))) else (some false))) else (none)) else (none)) else (some true) := by
  refine Lim.step (f := fun k => if x17 < x16 then (if 0 ≤ x17 then (if x17 < (x15.length : Int) then ((impl_within.f (rd x15 x17) x2 x3).bind fun t192 => (if t192 = true then (impl_areIn.l0 k x2 x3 x15 x16 (wrap64 (x17 + 1))) else (some false))) else (none)) else (none)) else (some true)) (fun k => (impl_areIn.mono_l k) x2 x3 x15 x16 x17) (fun k => by simp only [impl_areIn.l0]) ?_
  repeat' first
    | exact Lim.const _
    | with_reducible exact Lim.of (fun k => (impl_areIn.mono_l k) _ _ _ _ _)
    | with_reducible refine Lim.ite ?_ ?_
    | with_reducible refine Lim.bind ?_ (fun _ => ?_)
    | exact Lim.of (fun k => (impl_areIn.mono_l k) _ _ _ _ _)
theorem impl_areIn.F_eq (l0 : List Int) (a1 : Int) (a2 : Int) (a3 : Int) : impl_areIn.F l0 a1 a2 a3 = if (l0.length : Int) = a1 then (impl_areIn.L0 a2 a3 l0 (l0.length : Int) 0) else (some false) := by
  refine Lim.eq (g := fun k => impl_areIn.f k l0 a1 a2 a3) ?_
  unfold impl_areIn.f
  repeat' first
    | exact Lim.const _
    | with_reducible exact Lim.of (fun k => (impl_areIn.mono_l k) _ _ _ _ _)
    | with_reducible refine Lim.ite ?_ ?_
    | with_reducible refine Lim.bind ?_ (fun _ => ?_)
    | exact Lim.of (fun k => (impl_areIn.mono_l k) _ _ _ _ _)

noncomputable def impl_reefCode.F (l0_0 : List Int) (l0_1 : List Int) (a1 : Int) (l2 : List Int) : Option (Int) := lim (fun k => impl_reefCode.f k l0_0 l0_1 a1 l2)
theorem impl_reefCode.F_eq (l0_0 : List Int) (l0_1 : List Int) (a1 : Int) (l2 : List Int) : impl_reefCode.F l0_0 l0_1 a1 l2 = (impl_ValidReefing.F l0_0 l0_1).bind fun t194 => (if t194 = true then ((impl_within.f a1 0 (l0_0.length : Int)).bind fun t195 => (if t195 = true then (if (l2.length : Int) > 60 then (some 2) else ((impl_areIn.F l2 (l2.length : Int) 0 600).bind fun t196 => (if t196 = true then (some 0) else (some 2)))) else (some 2))) else (some 1)) := by
  refine Lim.eq (g := fun k => impl_reefCode.f k l0_0 l0_1 a1 l2) ?_
  unfold impl_reefCode.f
  repeat' first
    | exact Lim.const _
    | with_reducible exact Lim.of (fun k => impl_ValidReefing.mono _ _ k)
    | with_reducible exact Lim.of (fun k => impl_areIn.mono _ _ _ _ k)
    | with_reducible refine Lim.ite ?_ ?_
    | with_reducible refine Lim.bind ?_ (fun _ => ?_)
    | exact Lim.of (fun k => impl_ValidReefing.mono _ _ k)
    | exact Lim.of (fun k => impl_areIn.mono _ _ _ _ k)

noncomputable def impl_nextReef.J1 (x1 : Int) (x2 : Int) (x198000 : List Int) (x198001 : List Int) : Option (Int) := lim (fun k => impl_nextReef.j1 k x1 x2 x198000 x198001)
noncomputable def impl_nextReef.L1 (x1 : Int) (x2 : Int) (x198000 : List Int) (x198001 : List Int) : Option (Int) := lim (fun k => impl_nextReef.l1 k x1 x2 x198000 x198001)
noncomputable def impl_nextReef.L0 (x1 : Int) (x2 : Int) (x198000 : List Int) (x198001 : List Int) : Option (Int) := lim (fun k => impl_nextReef.l0 k x1 x2 x198000 x198001)
noncomputable def impl_nextReef.F (l0_0 : List Int) (l0_1 : List Int) (a1 : Int) (a2 : Int) : Option (Int) := lim (fun k => impl_nextReef.f k l0_0 l0_1 a1 a2)
theorem impl_nextReef.J1_eq (x1 : Int) (x2 : Int) (x198000 : List Int) (x198001 : List Int) : impl_nextReef.J1 x1 x2 x198000 x198001 = impl_nextReef.L1 x1 x2 x198000 x198001 := by
  refine Lim.step (f := fun k => impl_nextReef.l1 k x1 x2 x198000 x198001) (fun k => (impl_nextReef.mono_l k).1 x1 x2 x198000 x198001) (fun k => by simp only [impl_nextReef.j1]) ?_
  repeat' first
    | exact Lim.const _
    | with_reducible exact Lim.of (fun k => (impl_nextReef.mono_l k).2.1 _ _ _ _)
    | with_reducible refine Lim.ite ?_ ?_
    | with_reducible refine Lim.bind ?_ (fun _ => ?_)
    | exact Lim.of (fun k => (impl_nextReef.mono_l k).2.1 _ _ _ _)
theorem impl_nextReef.L1_eq (x1 : Int) (x2 : Int) (x198000 : List Int) (x198001 : List Int) : impl_nextReef.L1 x1 x2 x198000 x198001 = if x1 > 0 then (if 0 ≤ (wrap64 (x1 - 1)) then (if (wrap64 (x1 - 1)) < (x198001.length : Int) then (if x2 < (rd x198001 (wrap64 (x1 - 1))) then (impl_nextReef.L1 (wrap64 (x1 - 1)) x2 x198000 x198001) else (some x1)) else (none)) else (none)) else (some x1) := by
  refine Lim.step (f := fun k => if x1 > 0 then (if 0 ≤ (wrap64 (x1 - 1)) then (if (wrap64 (x1 - 1)) < (x198001.length : Int) then (if x2 < (rd x198001 (wrap64 (x1 - 1))) then (impl_nextReef.l1 k (wrap64 (x1 - 1)) x2 x198000 x198001) else (some x1)) else (none)) else (none)) else (some x1)) (fun k => (impl_nextReef.mono_l k).2.1 x1 x2 x198000 x198001) (fun k => by simp only [impl_nextReef.l1]) ?_
  repeat' first
    | exact Lim.const _
    | with_reducible exact Lim.of (fun k => (impl_nextReef.mono_l k).2.1 _ _ _ _)
    | with_reducible refine Lim.ite ?_ ?_
    | with_reducible refine Lim.bind ?_ (fun _ => ?_)
    | exact Lim.of (fun k => (impl_nextReef.mono_l k).2.1 _ _ _ _)
theorem impl_nextReef.L0_eq (x1 : Int) (x2 : Int) (x198000 : List Int) (x198001 : List Int) : impl_nextReef.L0 x1 x2 x198000 x198001 = if x1 < (x198000.length : Int) then (if 0 ≤ x1 then (if x2 ≥ (rd x198000 x1) then (impl_nextReef.L0 (wrap64 (x1 + 1)) x2 x198000 x198001) else (impl_nextReef.J1 x1 x2 x198000 x198001)) else (none)) else (impl_nextReef.J1 x1 x2 x198000 x198001) := by
  refine Lim.step (f := fun k => if x1 < (x198000.length : Int) then (if 0 ≤ x1 then (if x2 ≥ (rd x198000 x1) then (impl_nextReef.l0 k (wrap64 (x1 + 1)) x2 x198000 x198001) else (impl_nextReef.j1 k x1 x2 x198000 x198001)) else (none)) else (impl_nextReef.j1 k x1 x2 x198000 x198001)) (fun k => (impl_nextReef.mono_l k).2.2 x1 x2 x198000 x198001) (fun k => by simp only [impl_nextReef.l0]) ?_
  repeat' first
    | exact Lim.const _
    | with_reducible exact Lim.of (fun k => (impl_nextReef.mono_l k).1 _ _ _ _)
    | with_reducible exact Lim.of (fun k => (impl_nextReef.mono_l k).2.2 _ _ _ _)
    | with_reducible refine Lim.ite ?_ ?_
    | with_reducible refine Lim.bind ?_ (fun _ => ?_)
    | exact Lim.of (fun k => (impl_nextReef.mono_l k).1 _ _ _ _)
    | exact Lim.of (fun k => (impl_nextReef.mono_l k).2.2 _ _ _ _)
theorem impl_nextReef.F_eq (l0_0 : List Int) (l0_1 : List Int) (a1 : Int) (a2 : Int) : impl_nextReef.F l0_0 l0_1 a1 a2 = impl_nextReef.L0 a1 a2 l0_0 l0_1 := by
  refine Lim.eq (g := fun k => impl_nextReef.f k l0_0 l0_1 a1 a2) ?_
  unfold impl_nextReef.f
  repeat' first
    | exact Lim.const _
    | with_reducible exact Lim.of (fun k => (impl_nextReef.mono_l k).2.2 _ _ _ _)
    | with_reducible refine Lim.ite ?_ ?_
    | with_reducible refine Lim.bind ?_ (fun _ => ?_)
    | exact Lim.of (fun k => (impl_nextReef.mono_l k).2.2 _ _ _ _)

noncomputable def impl_runReefs.L0 (x1 : Int) (x7 : List Int) (x11 : List Int) (x12 : Int) (x13 : Int) (x201000 : List Int) (x201001 : List Int) : Option (List Int) := lim (fun k => impl_runReefs.l0 k x1 x7 x11 x12 x13 x201000 x201001)
noncomputable def impl_runReefs.F (l0_0 : List Int) (l0_1 : List Int) (a1 : Int) (l2 : List Int) : Option (List Int) := lim (fun k => impl_runReefs.f k l0_0 l0_1 a1 l2)
theorem impl_runReefs.L0_eq (x1 : Int) (x7 : List Int) (x11 : List Int) (x12 : Int) (x13 : Int) (x201000 : List Int) (x201001 : List Int) : impl_runReefs.L0 x1 x7 x11 x12 x13 x201000 x201001 = if x13 < x12 then (if 0 ≤ x13 then (if x13 < (x11.length : Int) then ((impl_nextReef.F x201000 x201001 x1 (rd x11 x13)).bind fun t205 => (if x7.length < 17592186044416 then (impl_runReefs.L0 t205 (x7 ++ [t205]) x11 x12 (wrap64 (x13 + 1)) x201000 x201001) else (none))) else (none)) else (none)) else (some x7) := by
  refine Lim.step (f := fun k => if x13 < x12 then (if 0 ≤ x13 then (if x13 < (x11.length : Int) then ((impl_nextReef.f k x201000 x201001 x1 (rd x11 x13)).bind fun t205 => (if x7.length < 17592186044416 then (impl_runReefs.l0 k t205 (x7 ++ [t205]) x11 x12 (wrap64 (x13 + 1)) x201000 x201001) else (none))) else (none)) else (none)) else (some x7)) (fun k => (impl_runReefs.mono_l k) x1 x7 x11 x12 x13 x201000 x201001) (fun k => by simp only [impl_runReefs.l0]) ?_
  repeat' first
    | exact Lim.const _
    | with_reducible exact Lim.of (fun k => impl_nextReef.mono _ _ _ _ k)
    | with_reducible exact Lim.of (fun k => (impl_runReefs.mono_l k) _ _ _ _ _ _ _)
    | with_reducible refine Lim.ite ?_ ?_
    | with_reducible refine Lim.bind ?_ (fun _ => ?_)
    | exact Lim.of (fun k => impl_nextReef.mono _ _ _ _ k)
    | exact Lim.of (fun k => (impl_runReefs.mono_l k) _ _ _ _ _ _ _)
theorem impl_runReefs.F_eq (l0_0 : List Int) (l0_1 : List Int) (a1 : Int) (l2 : List Int) : impl_runReefs.F l0_0 l0_1 a1 l2 = impl_runReefs.L0 a1 (([] : List Int)) l2 (l2.length : Int) 0 l0_0 l0_1 := by
  refine Lim.eq (g := fun k => impl_runReefs.f k l0_0 l0_1 a1 l2) ?_
  unfold impl_runReefs.f
  repeat' first
    | exact Lim.const _
    | with_reducible exact Lim.of (fun k => (impl_runReefs.mono_l k) _ _ _ _ _ _ _)
    | with_reducible refine Lim.ite ?_ ?_
    | with_reducible refine Lim.bind ?_ (fun _ => ?_)
    | exact Lim.of (fun k => (impl_runReefs.mono_l k) _ _ _ _ _ _ _)

noncomputable def impl_countChanges.L0 (x1 : Int) (x7 : Int) (x13 : List Int) (x14 : Int) (x15 : Int) : Option (Int) := lim (fun k => impl_countChanges.l0 k x1 x7 x13 x14 x15)
noncomputable def impl_countChanges.F (l0_0 : List Int) (l0_1 : List Int) (a1 : Int) (l2 : List Int) : Option (Int) := lim (fun k => impl_countChanges.f k l0_0 l0_1 a1 l2)
theorem impl_countChanges.L0_eq (x1 : Int) (x7 : Int) (x13 : List Int) (x14 : Int) (x15 : Int) : impl_countChanges.L0 x1 x7 x13 x14 x15 = if x15 < x14 then (if 0 ≤ x15 then (if x15 < (x13.length : Int) then (impl_countChanges.L0 (rd x13 x15) (wrap64 (x7 + (mx (wrap64 ((rd x13 x15) - x1)) (wrap64 (x1 - (rd x13 x15)))))) x13 x14 (wrap64 (x15 + 1))) else (none)) else (none)) else (some x7) := by
  refine Lim.step (f := fun k => if x15 < x14 then (if 0 ≤ x15 then (if x15 < (x13.length : Int) then (impl_countChanges.l0 k (rd x13 x15) (wrap64 (x7 + (mx (wrap64 ((rd x13 x15) - x1)) (wrap64 (x1 - (rd x13 x15)))))) x13 x14 (wrap64 (x15 + 1))) else (none)) else (none)) else (some x7)) (fun k => (impl_countChanges.mono_l k) x1 x7 x13 x14 x15) (fun k => by simp only [impl_countChanges.l0]) ?_
  repeat' first
    | exact Lim.const _
    | with_reducible exact Lim.of (fun k => (impl_countChanges.mono_l k) _ _ _ _ _)
    | with_reducible refine Lim.ite ?_ ?_
    | with_reducible refine Lim.bind ?_ (fun _ => ?_)
    | exact Lim.of (fun k => (impl_countChanges.mono_l k) _ _ _ _ _)
theorem impl_countChanges.F_eq (l0_0 : List Int) (l0_1 : List Int) (a1 : Int) (l2 : List Int) : impl_countChanges.F l0_0 l0_1 a1 l2 = (impl_runReefs.F l0_0 l0_1 a1 l2).bind fun t210 => (impl_countChanges.L0 a1 0 t210 (t210.length : Int) 0) := by
  refine Lim.eq (g := fun k => impl_countChanges.f k l0_0 l0_1 a1 l2) ?_
  unfold impl_countChanges.f
  repeat' first
    | exact Lim.const _
    | with_reducible exact Lim.of (fun k => (impl_countChanges.mono_l k) _ _ _ _ _)
    | with_reducible exact Lim.of (fun k => impl_runReefs.mono _ _ _ _ k)
    | with_reducible refine Lim.ite ?_ ?_
    | with_reducible refine Lim.bind ?_ (fun _ => ?_)
    | exact Lim.of (fun k => (impl_countChanges.mono_l k) _ _ _ _ _)
    | exact Lim.of (fun k => impl_runReefs.mono _ _ _ _ k)

noncomputable def impl_LeastGap.L0 (x0 : List Int) (x1 : Int) (x2 : List Int) (x3 : Int) (x11 : Int) : Option (Int × Int) := lim (fun k => impl_LeastGap.l0 k x0 x1 x2 x3 x11)
noncomputable def impl_LeastGap.F (l0 : List Int) (a1 : Int) (l2 : List Int) (a3 : Int) : Option (Int × Int) := lim (fun k => impl_LeastGap.f k l0 a1 l2 a3)
theorem impl_LeastGap.L0_eq (x0 : List Int) (x1 : Int) (x2 : List Int) (x3 : Int) (x11 : Int) : impl_LeastGap.L0 x0 x1 x2 x3 x11 = if x11 ≤ 600 then ((impl_evenReefing.F x0 x11).bind fun bt216 => (if bt216.2.2 = true then ((impl_countChanges.F bt216.1 bt216.2.1 x1 x2).bind fun t224 => (if t224 ≤ x3 then (some (x11, 0)) else (impl_LeastGap.L0 x0 x1 x2 x3 (wrap64 (x11 + 1))))) else (impl_LeastGap.L0 x0 x1 x2 x3 (wrap64 (x11 + 1))))) else (some (0, 3)) := by
  refine Lim.step (f := fun k => if x11 ≤ 600 then ((impl_evenReefing.f k x0 x11).bind fun bt216 => (if bt216.2.2 = true then ((impl_countChanges.f k bt216.1 bt216.2.1 x1 x2).bind fun t224 => (if t224 ≤ x3 then (some (x11, 0)) else (impl_LeastGap.l0 k x0 x1 x2 x3 (wrap64 (x11 + 1))))) else (impl_LeastGap.l0 k x0 x1 x2 x3 (wrap64 (x11 + 1))))) else (some (0, 3))) (fun k => (impl_LeastGap.mono_l k) x0 x1 x2 x3 x11) (fun k => by simp only [impl_LeastGap.l0]) ?_
  repeat' first
    | exact Lim.const _
    | with_reducible exact Lim.of (fun k => (impl_LeastGap.mono_l k) _ _ _ _ _)
    | with_reducible exact Lim.of (fun k => impl_countChanges.mono _ _ _ _ k)
    | with_reducible exact Lim.of (fun k => impl_evenReefing.mono _ _ k)
    | with_reducible refine Lim.ite ?_ ?_
    | with_reducible refine Lim.bind ?_ (fun _ => ?_)
    | exact Lim.of (fun k => (impl_LeastGap.mono_l k) _ _ _ _ _)
    | exact Lim.of (fun k => impl_countChanges.mono _ _ _ _ k)
    | exact Lim.of (fun k => impl_evenReefing.mono _ _ k)
theorem impl_LeastGap.F_eq (l0 : List Int) (a1 : Int) (l2 : List Int) (a3 : Int) : impl_LeastGap.F l0 a1 l2 a3 = (impl_reefCode.F l0 l0 a1 l2).bind fun t214 => (if t214 = 0 then ((impl_within.f a3 0 360).bind fun t215 => (if t215 = true then (impl_LeastGap.L0 l0 a1 l2 a3 0) else (some (0, 2)))) else (some (0, t214))) := by
  refine Lim.eq (g := fun k => impl_LeastGap.f k l0 a1 l2 a3) ?_
  unfold impl_LeastGap.f
  repeat' first
    | exact Lim.const _
    | with_reducible exact Lim.of (fun k => (impl_LeastGap.mono_l k) _ _ _ _ _)
    | with_reducible exact Lim.of (fun k => impl_reefCode.mono _ _ _ _ k)
    | with_reducible refine Lim.ite ?_ ?_
    | with_reducible refine Lim.bind ?_ (fun _ => ?_)
    | exact Lim.of (fun k => (impl_LeastGap.mono_l k) _ _ _ _ _)
    | exact Lim.of (fun k => impl_reefCode.mono _ _ _ _ k)

noncomputable def laws_FnExactLeastGap.J0 (x0 : List Int) (x2 : List Int) (x11 : List Int) (x12 : List Int) (x50 : Bool) : Option (Bool) := lim (fun k => laws_FnExactLeastGap.j0 k x0 x2 x11 x12 x50)
noncomputable def laws_FnExactLeastGap.F (l0 : List Int) (a1 : Int) (l2 : List Int) (a3 : Int) : Option (Bool) := lim (fun k => laws_FnExactLeastGap.f k l0 a1 l2 a3)
theorem laws_FnExactLeastGap.J0_eq (x0 : List Int) (x2 : List Int) (x11 : List Int) (x12 : List Int) (x50 : Bool) : laws_FnExactLeastGap.J0 x0 x2 x11 x12 x50 = if x50 = true then (some false) else ((laws_toInt64S.F x0).bind fun t241 => ((laws_eqInt64S.F x11 t241).bind fun t244 => (if t244 = true then ((laws_toInt64S.F x2).bind fun t245 => ((laws_eqInt64S.F x12 t245).bind fun t248 => (if t248 = true then (some true) else (some false)))) else (some false)))) := by
  refine Lim.step (f := fun k => if x50 = true then (some false) else ((laws_toInt64S.f k x0).bind fun t241 => ((laws_eqInt64S.f k x11 t241).bind fun t244 => (if t244 = true then ((laws_toInt64S.f k x2).bind fun t245 => ((laws_eqInt64S.f k x12 t245).bind fun t248 => (if t248 = true then (some true) else (some false)))) else (some false))))) (fun k => (laws_FnExactLeastGap.mono_l k) x0 x2 x11 x12 x50) (fun k => by simp only [laws_FnExactLeastGap.j0]) ?_
  repeat' first
    | exact Lim.const _
    | with_reducible exact Lim.of (fun k => laws_eqInt64S.mono _ _ k)
    | with_reducible exact Lim.of (fun k => laws_toInt64S.mono _ k)
    | with_reducible refine Lim.ite ?_ ?_
    | with_reducible refine Lim.bind ?_ (fun _ => ?_)
    | exact Lim.of (fun k => laws_eqInt64S.mono _ _ k)
    | exact Lim.of (fun k => laws_toInt64S.mono _ k)
theorem laws_FnExactLeastGap.F_eq (l0 : List Int) (a1 : Int) (l2 : List Int) (a3 : Int) : laws_FnExactLeastGap.F l0 a1 l2 a3 = if (l0.length : Int) > 1048576 then (some true) else (if (l2.length : Int) > 1048576 then (some true) else ((laws_toInt64S.F l0).bind fun t225 => ((laws_toInt64S.F l2).bind fun t228 => ((spec_LeastGap.F t225 a1 t228 a3).bind fun bt231 => ((laws_toInt64S.F l0).bind fun t233 => ((laws_toInt64S.F l2).bind fun t236 => ((impl_LeastGap.F t233 a1 t236 a3).bind fun bt239 => (if bt239.1 = bt231.1 then (laws_FnExactLeastGap.J0 l0 l2 t233 t236 (bt239.2 != bt231.2)) else (laws_FnExactLeastGap.J0 l0 l2 t233 t236 true))))))))) := by
  refine Lim.eq (g := fun k => laws_FnExactLeastGap.f k l0 a1 l2 a3) ?_
  unfold laws_FnExactLeastGap.f
  repeat' first
    | exact Lim.const _
    | with_reducible exact Lim.of (fun k => impl_LeastGap.mono _ _ _ _ k)
    | with_reducible exact Lim.of (fun k => (laws_FnExactLeastGap.mono_l k) _ _ _ _ _)
    | with_reducible exact Lim.of (fun k => laws_toInt64S.mono _ k)
    | with_reducible exact Lim.of (fun k => spec_LeastGap.mono _ _ _ _ k)
    | with_reducible refine Lim.ite ?_ ?_
    | with_reducible refine Lim.bind ?_ (fun _ => ?_)
    | exact Lim.of (fun k => impl_LeastGap.mono _ _ _ _ k)
    | exact Lim.of (fun k => (laws_FnExactLeastGap.mono_l k) _ _ _ _ _)
    | exact Lim.of (fun k => laws_toInt64S.mono _ k)
    | exact Lim.of (fun k => spec_LeastGap.mono _ _ _ _ k)

end Go.Proofs.Ytobejjbnklcgpaa.PFnExactLeastGap
