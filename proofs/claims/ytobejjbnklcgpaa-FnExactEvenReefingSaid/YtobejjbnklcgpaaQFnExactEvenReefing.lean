/-
  Written by a program of this session (wip/tools/lims.py): the printed functions without their bound on rounds.
-/
import Derived.Test.YtobejjbnklcgpaaPFnExactEvenReefingx1
import Derived.Test.YtobejjbnklcgpaaPFnExactEvenReefingx2
import Derived.Test.YtobejjbnklcgpaaPFnExactEvenReefingx3
import Derived.Test.YtobejjbnklcgpaaPFnExactEvenReefingx4
import Derived.Test.YtobejjbnklcgpaaKit
set_option linter.unusedVariables false
set_option linter.unusedSimpArgs false
namespace Go.Proofs.Ytobejjbnklcgpaa.PFnExactEvenReefing
open Go.RowKit Go.Proofs.Ytobejjbnklcgpaa.Kit Go.Proofs.YtobejjbnklcgpaaW.PrintWords Go.Proofs.YtobejjbnklcgpaaW.PrintLast Go.Proofs.YtobejjbnklcgpaaW.PrintMore

noncomputable def spec_l00Rises.L0 (x0 : List Int) (x1 : Int) (x2 : Int) (x7 : Int) : Option (Bool) := lim (fun k => spec_l00Rises.l0 k x0 x1 x2 x7)
noncomputable def spec_l00Rises.F (l0 : List Int) (a1 : Int) (a2 : Int) : Option (Bool) := lim (fun k => spec_l00Rises.f k l0 a1 a2)
theorem spec_l00Rises.L0_eq (x0 : List Int) (x1 : Int) (x2 : Int) (x7 : Int) : spec_l00Rises.L0 x0 x1 x2 x7 = if x7 < (x0.length : Int) then (if 0 ≤ x7 then ((spec_l00In.f (rd x0 x7) x1 x2).bind fun t102 => (if t102 = true then (if x7 > 0 then (if 0 ≤ (wrap64 (x7 - 1)) then (if (wrap64 (x7 - 1)) < (x0.length : Int) then (if (rd x0 (wrap64 (x7 - 1))) ≥ (rd x0 x7) then (some false) else (spec_l00Rises.L0 x0 x1 x2 (wrap64 (x7 + 1)))) else (none)) else (none)) else (spec_l00Rises.L0 x0 x1 x2 (wrap64 (x7 + 1)))) else (some false))) else (none)) else (some true) := by
  refine Lim.step (f := fun k => if x7 < (x0.length : Int) then (if 0 ≤ x7 then ((spec_l00In.f (rd x0 x7) x1 x2).bind fun t102 => (if t102 = true then (if x7 > 0 then (if 0 ≤ (wrap64 (x7 - 1)) then (if (wrap64 (x7 - 1)) < (x0.length : Int) then (if (rd x0 (wrap64 (x7 - 1))) ≥ (rd x0 x7) then (some false) else (spec_l00Rises.l0 k x0 x1 x2 (wrap64 (x7 + 1)))) else (none)) else (none)) else (spec_l00Rises.l0 k x0 x1 x2 (wrap64 (x7 + 1)))) else (some false))) else (none)) else (some true)) (fun k => (spec_l00Rises.mono_l k) x0 x1 x2 x7) (fun k => by simp only [spec_l00Rises.l0]) ?_
  repeat' first
    | exact Lim.const _
    | with_reducible exact Lim.of (fun k => (spec_l00Rises.mono_l k) _ _ _ _)
    | with_reducible refine Lim.ite ?_ ?_
    | with_reducible refine Lim.bind ?_ (fun _ => ?_)
    | exact Lim.of (fun k => (spec_l00Rises.mono_l k) _ _ _ _)
theorem spec_l00Rises.F_eq (l0 : List Int) (a1 : Int) (a2 : Int) : spec_l00Rises.F l0 a1 a2 = spec_l00Rises.L0 l0 a1 a2 0 := by
  refine Lim.eq (g := fun k => spec_l00Rises.f k l0 a1 a2) ?_
  unfold spec_l00Rises.f
  repeat' first
    | exact Lim.const _
    | with_reducible exact Lim.of (fun k => (spec_l00Rises.mono_l k) _ _ _ _)
    | with_reducible refine Lim.ite ?_ ?_
    | with_reducible refine Lim.bind ?_ (fun _ => ?_)
    | exact Lim.of (fun k => (spec_l00Rises.mono_l k) _ _ _ _)

noncomputable def spec_l18In.F (l0 : List Int) : Option (Bool) := lim (fun k => spec_l18In.f k l0)
theorem spec_l18In.F_eq (l0 : List Int) : spec_l18In.F l0 = if (l0.length : Int) ≤ 6 then ((spec_l00Rises.F l0 1 600).bind fun t105 => (some t105)) else (some false) := by
  refine Lim.eq (g := fun k => spec_l18In.f k l0) ?_
  unfold spec_l18In.f
  repeat' first
    | exact Lim.const _
    | with_reducible exact Lim.of (fun k => spec_l00Rises.mono _ _ _ k)
    | with_reducible refine Lim.ite ?_ ?_
    | with_reducible refine Lim.bind ?_ (fun _ => ?_)
    | exact Lim.of (fun k => spec_l00Rises.mono _ _ _ k)

noncomputable def spec_l18Even.L0 (x0 : List Int) (x1 : Int) (x7 : Int) (x121000 : List Int) (x121001 : List Int) : Option (List Int × List Int × Bool) := lim (fun k => spec_l18Even.l0 k x0 x1 x7 x121000 x121001)
noncomputable def spec_l18Even.F (l0 : List Int) (a1 : Int) : Option (List Int × List Int × Bool) := lim (fun k => spec_l18Even.f k l0 a1)
theorem spec_l18Even.L0_eq (x0 : List Int) (x1 : Int) (x7 : Int) (x121000 : List Int) (x121001 : List Int) : spec_l18Even.L0 x0 x1 x7 x121000 x121001 = if x7 < (x0.length : Int) then (if 0 ≤ x7 then (if (rd x0 x7) < x1 then (some (([] : List Int), ([] : List Int), false)) else (if x121001.length < 17592186044416 then (spec_l18Even.L0 x0 x1 (wrap64 (x7 + 1)) x121000 (x121001 ++ [wrap64 ((rd x0 x7) - x1)])) else (none))) else (none)) else (some (x121000, x121001, true)) := by
  refine Lim.step (f := fun k => if x7 < (x0.length : Int) then (if 0 ≤ x7 then (if (rd x0 x7) < x1 then (some (([] : List Int), ([] : List Int), false)) else (if x121001.length < 17592186044416 then (spec_l18Even.l0 k x0 x1 (wrap64 (x7 + 1)) x121000 (x121001 ++ [wrap64 ((rd x0 x7) - x1)])) else (none))) else (none)) else (some (x121000, x121001, true))) (fun k => (spec_l18Even.mono_l k) x0 x1 x7 x121000 x121001) (fun k => by simp only [spec_l18Even.l0]) ?_
  repeat' first
    | exact Lim.const _
    | with_reducible exact Lim.of (fun k => (spec_l18Even.mono_l k) _ _ _ _ _)
    | with_reducible refine Lim.ite ?_ ?_
    | with_reducible refine Lim.bind ?_ (fun _ => ?_)
    | exact Lim.of (fun k => (spec_l18Even.mono_l k) _ _ _ _ _)
theorem spec_l18Even.F_eq (l0 : List Int) (a1 : Int) : spec_l18Even.F l0 a1 = (spec_l00Own.f l0).bind fun t114 => (spec_l18Even.L0 l0 a1 0 t114 (([] : List Int))) := by
  refine Lim.eq (g := fun k => spec_l18Even.f k l0 a1) ?_
  unfold spec_l18Even.f
  repeat' first
    | exact Lim.const _
    | with_reducible exact Lim.of (fun k => (spec_l18Even.mono_l k) _ _ _ _ _)
    | with_reducible refine Lim.ite ?_ ?_
    | with_reducible refine Lim.bind ?_ (fun _ => ?_)
    | exact Lim.of (fun k => (spec_l18Even.mono_l k) _ _ _ _ _)

noncomputable def spec_EvenReefing.F (l0 : List Int) (a1 : Int) : Option (List Int × List Int × Int) := lim (fun k => spec_EvenReefing.f k l0 a1)
theorem spec_EvenReefing.F_eq (l0 : List Int) (a1 : Int) : spec_EvenReefing.F l0 a1 = (spec_l18In.F l0).bind fun t127 => (if t127 = true then ((spec_l18Wind.f a1).bind fun t128 => (if t128 = true then ((spec_l18Even.F l0 a1).bind fun bt129 => (if bt129.2.2 = true then (some (bt129.1, bt129.2.1, 0)) else (some (([] : List Int), ([] : List Int), 6)))) else (some (([] : List Int), ([] : List Int), 2)))) else (some (([] : List Int), ([] : List Int), 1))) := by
  refine Lim.eq (g := fun k => spec_EvenReefing.f k l0 a1) ?_
  unfold spec_EvenReefing.f
  repeat' first
    | exact Lim.const _
    | with_reducible exact Lim.of (fun k => spec_l18Even.mono _ _ k)
    | with_reducible exact Lim.of (fun k => spec_l18In.mono _ k)
    | with_reducible refine Lim.ite ?_ ?_
    | with_reducible refine Lim.bind ?_ (fun _ => ?_)
    | exact Lim.of (fun k => spec_l18Even.mono _ _ k)
    | exact Lim.of (fun k => spec_l18In.mono _ k)

noncomputable def laws_toInt64S.L0 (x0 : List Int) (x3 : List Int) (x4 : Int) : Option (List Int) := lim (fun k => laws_toInt64S.l0 k x0 x3 x4)
noncomputable def laws_toInt64S.F (l0 : List Int) : Option (List Int) := lim (fun k => laws_toInt64S.f k l0)
theorem laws_toInt64S.L0_eq (x0 : List Int) (x3 : List Int) (x4 : Int) : laws_toInt64S.L0 x0 x3 x4 = if x4 < (x0.length : Int) then (if 0 ≤ x4 then (if x4 < (x3.length : Int) then (laws_toInt64S.L0 x0 (x3.set (x4 : Int).toNat (rd x0 x4)) (wrap64 (x4 + 1))) else (none)) else (none)) else (some x3) := by
  refine Lim.step (f := fun k => if x4 < (x0.length : Int) then (if 0 ≤ x4 then (if x4 < (x3.length : Int) then (laws_toInt64S.l0 k x0 (x3.set (x4 : Int).toNat (rd x0 x4)) (wrap64 (x4 + 1))) else (none)) else (none)) else (some x3)) (fun k => (laws_toInt64S.mono_l k) x0 x3 x4) (fun k => by simp only [laws_toInt64S.l0]) ?_
  repeat' first
    | exact Lim.const _
    | with_reducible exact Lim.of (fun k => (laws_toInt64S.mono_l k) _ _ _)
    | with_reducible refine Lim.ite ?_ ?_
    | with_reducible refine Lim.bind ?_ (fun _ => ?_)
    | exact Lim.of (fun k => (laws_toInt64S.mono_l k) _ _ _)
theorem laws_toInt64S.F_eq (l0 : List Int) : laws_toInt64S.F l0 = if 0 ≤ (l0.length : Int) then (if ((l0.length : Int) : Int).toNat ≤ 35184372088832 then (laws_toInt64S.L0 l0 (List.replicate ((l0.length : Int) : Int).toNat 0) 0) else (none)) else (none) := by
  refine Lim.eq (g := fun k => laws_toInt64S.f k l0) ?_
  unfold laws_toInt64S.f
  repeat' first
    | exact Lim.const _
    | with_reducible exact Lim.of (fun k => (laws_toInt64S.mono_l k) _ _ _)
    | with_reducible refine Lim.ite ?_ ?_
    | with_reducible refine Lim.bind ?_ (fun _ => ?_)
    | exact Lim.of (fun k => (laws_toInt64S.mono_l k) _ _ _)

noncomputable def impl_ValidReefing.J0 (x17 : Bool) (x143000 : List Int) (x143001 : List Int) : Option (Bool) := lim (fun k => impl_ValidReefing.j0 k x17 x143000 x143001)
noncomputable def impl_ValidReefing.L0 (x19 : List Int) (x20 : Int) (x21 : Int) (x143000 : List Int) (x143001 : List Int) : Option (Bool) := lim (fun k => impl_ValidReefing.l0 k x19 x20 x21 x143000 x143001)
noncomputable def impl_ValidReefing.F (l0_0 : List Int) (l0_1 : List Int) : Option (Bool) := lim (fun k => impl_ValidReefing.f k l0_0 l0_1)
theorem impl_ValidReefing.J0_eq (x17 : Bool) (x143000 : List Int) (x143001 : List Int) : impl_ValidReefing.J0 x17 x143000 x143001 = if x17 = true then (some false) else (impl_ValidReefing.L0 x143000 (x143000.length : Int) 0 x143000 x143001) := by
  refine Lim.step (f := fun k => if x17 = true then (some false) else (impl_ValidReefing.l0 k x143000 (x143000.length : Int) 0 x143000 x143001)) (fun k => (impl_ValidReefing.mono_l k).1 x17 x143000 x143001) (fun k => by simp only [impl_ValidReefing.j0]) ?_
  repeat' first
    | exact Lim.const _
    | with_reducible exact Lim.of (fun k => (impl_ValidReefing.mono_l k).2 _ _ _ _ _)
    | with_reducible refine Lim.ite ?_ ?_
    | with_reducible refine Lim.bind ?_ (fun _ => ?_)
    | exact Lim.of (fun k => (impl_ValidReefing.mono_l k).2 _ _ _ _ _)
theorem impl_ValidReefing.L0_eq (x19 : List Int) (x20 : Int) (x21 : Int) (x143000 : List Int) (x143001 : List Int) : impl_ValidReefing.L0 x19 x20 x21 x143000 x143001 = if x21 < x20 then (if 0 ≤ x21 then (if x21 < (x19.length : Int) then ((impl_within.f (rd x19 x21) 1 600).bind fun t144 => (if t144 = true then (if x21 < (x143001.length : Int) then ((impl_within.f (rd x143001 x21) 0 (rd x19 x21)).bind fun t146 => (if t146 = true then (if x21 > 0 then (if 0 ≤ (wrap64 (x21 - 1)) then (if (wrap64 (x21 - 1)) < (x143000.length : Int) then (if (rd x19 x21) ≤ (rd x143000 (wrap64 (x21 - 1))) then (some false) else (if (wrap64 (x21 - 1)) < (x143001.length : Int) then (if (rd x143001 x21) ≤ (rd x143001 (wrap64 (x21 - 1))) then (some false) else (impl_ValidReefing.L0 x19 x20 (wrap64 (x21 + 1)) x143000 x143001)) else (none))) else (none)) else (none)) else (impl_ValidReefing.L0 x19 x20 (wrap64 (x21 + 1)) x143000 x143001)) else (some false))) else (none)) else (some false))) else (none)) else (none)) else (some true) := by
  refine Lim.step (f := fun k => if x21 < x20 then (if 0 ≤ x21 then (if x21 < (x19.length : Int) then ((impl_within.f (rd x19 x21) 1 600).bind fun t144 => (if t144 = true then (if x21 < (x143001.length : Int) then ((impl_within.f (rd x143001 x21) 0 (rd x19 x21)).bind fun t146 => (if t146 = true then (if x21 > 0 then (if 0 ≤ (wrap64 (x21 - 1)) then (if (wrap64 (x21 - 1)) < (x143000.length : Int) then (if (rd x19 x21) ≤ (rd x143000 (wrap64 (x21 - 1))) then (some false) else (if (wrap64 (x21 - 1)) < (x143001.length : Int) then (if (rd x143001 x21) ≤ (rd x143001 (wrap64 (x21 - 1))) then (some false) else (impl_ValidReefing.l0 k x19 x20 (wrap64 (x21 + 1)) x143000 x143001)) else (none))) else (none)) else (none)) else (impl_ValidReefing.l0 k x19 x20 (wrap64 (x21 + 1)) x143000 x143001)) else (some false))) else (none)) else (some false))) else (none)) else (none)) else (some true)) (fun k => (impl_ValidReefing.mono_l k).2 x19 x20 x21 x143000 x143001) (fun k => by simp only [impl_ValidReefing.l0]) ?_
  repeat' first
    | exact Lim.const _
    | with_reducible exact Lim.of (fun k => (impl_ValidReefing.mono_l k).2 _ _ _ _ _)
    | with_reducible refine Lim.ite ?_ ?_
    | with_reducible refine Lim.bind ?_ (fun _ => ?_)
    | exact Lim.of (fun k => (impl_ValidReefing.mono_l k).2 _ _ _ _ _)
theorem impl_ValidReefing.F_eq (l0_0 : List Int) (l0_1 : List Int) : impl_ValidReefing.F l0_0 l0_1 = if (l0_0.length : Int) > 6 then (impl_ValidReefing.J0 true l0_0 l0_1) else (impl_ValidReefing.J0 ((l0_1.length : Int) != (l0_0.length : Int)) l0_0 l0_1) := by
  refine Lim.eq (g := fun k => impl_ValidReefing.f k l0_0 l0_1) ?_
  unfold impl_ValidReefing.f
  repeat' first
    | exact Lim.const _
    | with_reducible exact Lim.of (fun k => (impl_ValidReefing.mono_l k).1 _ _ _)
    | with_reducible refine Lim.ite ?_ ?_
    | with_reducible refine Lim.bind ?_ (fun _ => ?_)
    | exact Lim.of (fun k => (impl_ValidReefing.mono_l k).1 _ _ _)

noncomputable def impl_evenReefing.L0 (x1 : Int) (x13 : List Int) (x14 : Int) (x15 : Int) (x158000 : List Int) (x158001 : List Int) : Option (List Int × List Int × Bool) := lim (fun k => impl_evenReefing.l0 k x1 x13 x14 x15 x158000 x158001)
noncomputable def impl_evenReefing.F (l0 : List Int) (a1 : Int) : Option (List Int × List Int × Bool) := lim (fun k => impl_evenReefing.f k l0 a1)
theorem impl_evenReefing.L0_eq (x1 : Int) (x13 : List Int) (x14 : Int) (x15 : Int) (x158000 : List Int) (x158001 : List Int) : impl_evenReefing.L0 x1 x13 x14 x15 x158000 x158001 = if x15 < x14 then (if 0 ≤ x15 then (if x15 < (x13.length : Int) then (if (rd x13 x15) < x1 then (some (([] : List Int), ([] : List Int), false)) else (if x158001.length < 17592186044416 then (impl_evenReefing.L0 x1 x13 x14 (wrap64 (x15 + 1)) x158000 (x158001 ++ [wrap64 ((rd x13 x15) - x1)])) else (none))) else (none)) else (none)) else (some (x158000, x158001, true)) := by
  refine Lim.step (f := fun k => if x15 < x14 then (if 0 ≤ x15 then (if x15 < (x13.length : Int) then (if (rd x13 x15) < x1 then (some (([] : List Int), ([] : List Int), false)) else (if x158001.length < 17592186044416 then (impl_evenReefing.l0 k x1 x13 x14 (wrap64 (x15 + 1)) x158000 (x158001 ++ [wrap64 ((rd x13 x15) - x1)])) else (none))) else (none)) else (none)) else (some (x158000, x158001, true))) (fun k => (impl_evenReefing.mono_l k) x1 x13 x14 x15 x158000 x158001) (fun k => by simp only [impl_evenReefing.l0]) ?_
  repeat' first
    | exact Lim.const _
    | with_reducible exact Lim.of (fun k => (impl_evenReefing.mono_l k) _ _ _ _ _ _)
    | with_reducible refine Lim.ite ?_ ?_
    | with_reducible refine Lim.bind ?_ (fun _ => ?_)
    | exact Lim.of (fun k => (impl_evenReefing.mono_l k) _ _ _ _ _ _)
theorem impl_evenReefing.F_eq (l0 : List Int) (a1 : Int) : impl_evenReefing.F l0 a1 = (some (([] : List Int) : List Int)).bind fun y151 => (if y151.length + l0.length < 17592186044416 then (impl_evenReefing.L0 a1 l0 (l0.length : Int) 0 (y151 ++ l0) ([] : List Int)) else (none)) := by
  refine Lim.eq (g := fun k => impl_evenReefing.f k l0 a1) ?_
  unfold impl_evenReefing.f
  repeat' first
    | exact Lim.const _
    | with_reducible exact Lim.of (fun k => (impl_evenReefing.mono_l k) _ _ _ _ _ _)
    | with_reducible refine Lim.ite ?_ ?_
    | with_reducible refine Lim.bind ?_ (fun _ => ?_)
    | exact Lim.of (fun k => (impl_evenReefing.mono_l k) _ _ _ _ _ _)

noncomputable def impl_EvenReefing.F (l0 : List Int) (a1 : Int) : Option (List Int × List Int × Int) := lim (fun k => impl_EvenReefing.f k l0 a1)
theorem impl_EvenReefing.F_eq (l0 : List Int) (a1 : Int) : impl_EvenReefing.F l0 a1 = (impl_ValidReefing.F l0 l0).bind fun t163 => (if t163 = true then ((impl_within.f a1 0 600).bind fun t164 => (if t164 = true then ((impl_evenReefing.F l0 a1).bind fun bt165 => (if bt165.2.2 = true then (some (bt165.1, bt165.2.1, 0)) else (some (([] : List Int), ([] : List Int), 6)))) else (some (([] : List Int), ([] : List Int), 2)))) else (some (([] : List Int), ([] : List Int), 1))) := by
  refine Lim.eq (g := fun k => impl_EvenReefing.f k l0 a1) ?_
  unfold impl_EvenReefing.f
  repeat' first
    | exact Lim.const _
    | with_reducible exact Lim.of (fun k => impl_ValidReefing.mono _ _ k)
    | with_reducible exact Lim.of (fun k => impl_evenReefing.mono _ _ k)
    | with_reducible refine Lim.ite ?_ ?_
    | with_reducible refine Lim.bind ?_ (fun _ => ?_)
    | exact Lim.of (fun k => impl_ValidReefing.mono _ _ k)
    | exact Lim.of (fun k => impl_evenReefing.mono _ _ k)

noncomputable def laws_eqInt64S.L0 (x0 : List Int) (x1 : List Int) (x5 : Int) : Option (Bool) := lim (fun k => laws_eqInt64S.l0 k x0 x1 x5)
noncomputable def laws_eqInt64S.F (l0 : List Int) (l1 : List Int) : Option (Bool) := lim (fun k => laws_eqInt64S.f k l0 l1)
theorem laws_eqInt64S.L0_eq (x0 : List Int) (x1 : List Int) (x5 : Int) : laws_eqInt64S.L0 x0 x1 x5 = if x5 < (x0.length : Int) then (if 0 ≤ x5 then (if x5 < (x1.length : Int) then (if (rd x0 x5) = (rd x1 x5) then (laws_eqInt64S.L0 x0 x1 (wrap64 (x5 + 1))) else (some false)) else (none)) else (none)) else (some true) := by
  refine Lim.step (f := fun k => if x5 < (x0.length : Int) then (if 0 ≤ x5 then (if x5 < (x1.length : Int) then (if (rd x0 x5) = (rd x1 x5) then (laws_eqInt64S.l0 k x0 x1 (wrap64 (x5 + 1))) else (some false)) else (none)) else (none)) else (some true)) (fun k => (laws_eqInt64S.mono_l k) x0 x1 x5) (fun k => by simp only [laws_eqInt64S.l0]) ?_
  repeat' first
    | exact Lim.const _
    | with_reducible exact Lim.of (fun k => (laws_eqInt64S.mono_l k) _ _ _)
    | with_reducible refine Lim.ite ?_ ?_
    | with_reducible refine Lim.bind ?_ (fun _ => ?_)
    | exact Lim.of (fun k => (laws_eqInt64S.mono_l k) _ _ _)
theorem laws_eqInt64S.F_eq (l0 : List Int) (l1 : List Int) : laws_eqInt64S.F l0 l1 = if (l0.length : Int) = (l1.length : Int) then (laws_eqInt64S.L0 l0 l1 0) else (some false) := by
  refine Lim.eq (g := fun k => laws_eqInt64S.f k l0 l1) ?_
  unfold laws_eqInt64S.f
  repeat' first
    | exact Lim.const _
    | with_reducible exact Lim.of (fun k => (laws_eqInt64S.mono_l k) _ _ _)
    | with_reducible refine Lim.ite ?_ ?_
    | with_reducible refine Lim.bind ?_ (fun _ => ?_)
    | exact Lim.of (fun k => (laws_eqInt64S.mono_l k) _ _ _)

noncomputable def laws_eqReefing.F (l0_0 : List Int) (l0_1 : List Int) (l1_0 : List Int) (l1_1 : List Int) : Option (Bool) := lim (fun k => laws_eqReefing.f k l0_0 l0_1 l1_0 l1_1)
theorem laws_eqReefing.F_eq (l0_0 : List Int) (l0_1 : List Int) (l1_0 : List Int) (l1_1 : List Int) : laws_eqReefing.F l0_0 l0_1 l1_0 l1_1 = (laws_eqInt64S.F l0_0 l1_0).bind fun t177 => (if t177 = true then ((laws_eqInt64S.F l0_1 l1_1).bind fun t178 => (if t178 = true then (some true) else (some false))) else (some false)) := by
  refine Lim.eq (g := fun k => laws_eqReefing.f k l0_0 l0_1 l1_0 l1_1) ?_
  unfold laws_eqReefing.f
  repeat' first
    | exact Lim.const _
    | with_reducible exact Lim.of (fun k => laws_eqInt64S.mono _ _ k)
    | with_reducible refine Lim.ite ?_ ?_
    | with_reducible refine Lim.bind ?_ (fun _ => ?_)
    | exact Lim.of (fun k => laws_eqInt64S.mono _ _ k)

noncomputable def laws_markInt64S.L0 (x0 : List Int) (x1 : Int) (x5 : Int) : Option (Int × List Int) := lim (fun k => laws_markInt64S.l0 k x0 x1 x5)
noncomputable def laws_markInt64S.F (l0 : List Int) (a1 : Int) : Option (Int × List Int) := lim (fun k => laws_markInt64S.f k l0 a1)
theorem laws_markInt64S.L0_eq (x0 : List Int) (x1 : Int) (x5 : Int) : laws_markInt64S.L0 x0 x1 x5 = if x5 < (x0.length : Int) then (if 0 ≤ x5 then (laws_markInt64S.L0 (x0.set (x5 : Int).toNat x1) (wrap64 (x1 + 1)) (wrap64 (x5 + 1))) else (none)) else (some (x1, x0)) := by
  refine Lim.step (f := fun k => if x5 < (x0.length : Int) then (if 0 ≤ x5 then (laws_markInt64S.l0 k (x0.set (x5 : Int).toNat x1) (wrap64 (x1 + 1)) (wrap64 (x5 + 1))) else (none)) else (some (x1, x0))) (fun k => (laws_markInt64S.mono_l k) x0 x1 x5) (fun k => by simp only [laws_markInt64S.l0]) ?_
  repeat' first
    | exact Lim.const _
    | with_reducible exact Lim.of (fun k => (laws_markInt64S.mono_l k) _ _ _)
    | with_reducible refine Lim.ite ?_ ?_
    | with_reducible refine Lim.bind ?_ (fun _ => ?_)
    | exact Lim.of (fun k => (laws_markInt64S.mono_l k) _ _ _)
theorem laws_markInt64S.F_eq (l0 : List Int) (a1 : Int) : laws_markInt64S.F l0 a1 = laws_markInt64S.L0 l0 a1 0 := by
  refine Lim.eq (g := fun k => laws_markInt64S.f k l0 a1) ?_
  unfold laws_markInt64S.f
  repeat' first
    | exact Lim.const _
    | with_reducible exact Lim.of (fun k => (laws_markInt64S.mono_l k) _ _ _)
    | with_reducible refine Lim.ite ?_ ?_
    | with_reducible refine Lim.bind ?_ (fun _ => ?_)
    | exact Lim.of (fun k => (laws_markInt64S.mono_l k) _ _ _)

noncomputable def laws_markReefing.F (l0_0 : List Int) (l0_1 : List Int) (a1 : Int) : Option (Int × List Int × List Int) := lim (fun k => laws_markReefing.f k l0_0 l0_1 a1)
theorem laws_markReefing.F_eq (l0_0 : List Int) (l0_1 : List Int) (a1 : Int) : laws_markReefing.F l0_0 l0_1 a1 = (laws_markInt64S.F l0_0 a1).bind fun bt181 => ((laws_markInt64S.F l0_1 bt181.1).bind fun bt183 => (some (bt183.1, bt181.2, bt183.2))) := by
  refine Lim.eq (g := fun k => laws_markReefing.f k l0_0 l0_1 a1) ?_
  unfold laws_markReefing.f
  repeat' first
    | exact Lim.const _
    | with_reducible exact Lim.of (fun k => laws_markInt64S.mono _ _ k)
    | with_reducible refine Lim.ite ?_ ?_
    | with_reducible refine Lim.bind ?_ (fun _ => ?_)
    | exact Lim.of (fun k => laws_markInt64S.mono _ _ k)

noncomputable def laws_heldInt64S.L0 (x0 : List Int) (x1 : Int) (x5 : Int) : Option (Int) := lim (fun k => laws_heldInt64S.l0 k x0 x1 x5)
noncomputable def laws_heldInt64S.F (l0 : List Int) (a1 : Int) : Option (Int) := lim (fun k => laws_heldInt64S.f k l0 a1)
theorem laws_heldInt64S.L0_eq (x0 : List Int) (x1 : Int) (x5 : Int) : laws_heldInt64S.L0 x0 x1 x5 = if x5 < (x0.length : Int) then (if 0 ≤ x5 then (if (rd x0 x5) = x1 then (laws_heldInt64S.L0 x0 (wrap64 (x1 + 1)) (wrap64 (x5 + 1))) else (some (-1))) else (none)) else (some x1) := by
  refine Lim.step (f := fun k => if x5 < (x0.length : Int) then (if 0 ≤ x5 then (if (rd x0 x5) = x1 then (laws_heldInt64S.l0 k x0 (wrap64 (x1 + 1)) (wrap64 (x5 + 1))) else (some (-1))) else (none)) else (some x1)) (fun k => (laws_heldInt64S.mono_l k) x0 x1 x5) (fun k => by simp only [laws_heldInt64S.l0]) ?_
  repeat' first
    | exact Lim.const _
    | with_reducible exact Lim.of (fun k => (laws_heldInt64S.mono_l k) _ _ _)
    | with_reducible refine Lim.ite ?_ ?_
    | with_reducible refine Lim.bind ?_ (fun _ => ?_)
    | exact Lim.of (fun k => (laws_heldInt64S.mono_l k) _ _ _)
theorem laws_heldInt64S.F_eq (l0 : List Int) (a1 : Int) : laws_heldInt64S.F l0 a1 = laws_heldInt64S.L0 l0 a1 0 := by
  refine Lim.eq (g := fun k => laws_heldInt64S.f k l0 a1) ?_
  unfold laws_heldInt64S.f
  repeat' first
    | exact Lim.const _
    | with_reducible exact Lim.of (fun k => (laws_heldInt64S.mono_l k) _ _ _)
    | with_reducible refine Lim.ite ?_ ?_
    | with_reducible refine Lim.bind ?_ (fun _ => ?_)
    | exact Lim.of (fun k => (laws_heldInt64S.mono_l k) _ _ _)

noncomputable def laws_heldReefing.F (l0_0 : List Int) (l0_1 : List Int) (a1 : Int) : Option (Int) := lim (fun k => laws_heldReefing.f k l0_0 l0_1 a1)
theorem laws_heldReefing.F_eq (l0_0 : List Int) (l0_1 : List Int) (a1 : Int) : laws_heldReefing.F l0_0 l0_1 a1 = (laws_heldInt64S.F l0_0 a1).bind fun t187 => (if t187 < 0 then (some (-1)) else ((laws_heldInt64S.F l0_1 t187).bind fun t188 => (if t188 < 0 then (some (-1)) else (some t188)))) := by
  refine Lim.eq (g := fun k => laws_heldReefing.f k l0_0 l0_1 a1) ?_
  unfold laws_heldReefing.f
  repeat' first
    | exact Lim.const _
    | with_reducible exact Lim.of (fun k => laws_heldInt64S.mono _ _ k)
    | with_reducible refine Lim.ite ?_ ?_
    | with_reducible refine Lim.bind ?_ (fun _ => ?_)
    | exact Lim.of (fun k => laws_heldInt64S.mono _ _ k)

noncomputable def laws_FnExactEvenReefing.J0 (x0 : List Int) (x1 : Int) (x6 : Int) (x7 : List Int) (x9 : Int) (x41 : Bool) (x200000 : List Int) (x200001 : List Int) (x211000 : List Int) (x211001 : List Int) : Option (Bool) := lim (fun k => laws_FnExactEvenReefing.j0 k x0 x1 x6 x7 x9 x41 x200000 x200001 x211000 x211001)
noncomputable def laws_FnExactEvenReefing.J1 (x0 : List Int) (x1 : Int) (x6 : Int) (x62 : Bool) (x200000 : List Int) (x200001 : List Int) (x211000 : List Int) (x211001 : List Int) : Option (Bool) := lim (fun k => laws_FnExactEvenReefing.j1 k x0 x1 x6 x62 x200000 x200001 x211000 x211001)
noncomputable def laws_FnExactEvenReefing.J2 (x11 : Int) (x89 : Bool) (x211000 : List Int) (x211001 : List Int) : Option (Bool) := lim (fun k => laws_FnExactEvenReefing.j2 k x11 x89 x211000 x211001)
noncomputable def laws_FnExactEvenReefing.F (l0 : List Int) (a1 : Int) : Option (Bool) := lim (fun k => laws_FnExactEvenReefing.f k l0 a1)
theorem laws_FnExactEvenReefing.J0_eq (x0 : List Int) (x1 : Int) (x6 : Int) (x7 : List Int) (x9 : Int) (x41 : Bool) (x200000 : List Int) (x200001 : List Int) (x211000 : List Int) (x211001 : List Int) : laws_FnExactEvenReefing.J0 x0 x1 x6 x7 x9 x41 x200000 x200001 x211000 x211001 = if x41 = true then (some false) else ((laws_toInt64S.F x0).bind fun t212 => ((laws_eqInt64S.F x7 t212).bind fun t215 => (if t215 = true then ((laws_markInt64S.F x7 1).bind fun bt216 => (if bt216.1 < 0 then (laws_FnExactEvenReefing.J1 x0 x1 x6 true x200000 x200001 x211000 x211001) else ((laws_eqReefing.F x211000 x211001 x200000 x200001).bind fun t218 => (if t218 = true then (laws_FnExactEvenReefing.J1 x0 x1 x6 (x9 != x6) x200000 x200001 x211000 x211001) else (laws_FnExactEvenReefing.J1 x0 x1 x6 true x200000 x200001 x211000 x211001))))) else (some false)))) := by
  refine Lim.step (f := fun k => if x41 = true then (some false) else ((laws_toInt64S.f k x0).bind fun t212 => ((laws_eqInt64S.f k x7 t212).bind fun t215 => (if t215 = true then ((laws_markInt64S.f k x7 1).bind fun bt216 => (if bt216.1 < 0 then (laws_FnExactEvenReefing.j1 k x0 x1 x6 true x200000 x200001 x211000 x211001) else ((laws_eqReefing.f k x211000 x211001 x200000 x200001).bind fun t218 => (if t218 = true then (laws_FnExactEvenReefing.j1 k x0 x1 x6 (x9 != x6) x200000 x200001 x211000 x211001) else (laws_FnExactEvenReefing.j1 k x0 x1 x6 true x200000 x200001 x211000 x211001))))) else (some false))))) (fun k => (laws_FnExactEvenReefing.mono_l k).1 x0 x1 x6 x7 x9 x41 x200000 x200001 x211000 x211001) (fun k => by simp only [laws_FnExactEvenReefing.j0]) ?_
  repeat' first
    | exact Lim.const _
    | with_reducible exact Lim.of (fun k => (laws_FnExactEvenReefing.mono_l k).2.1 _ _ _ _ _ _ _ _)
    | with_reducible exact Lim.of (fun k => laws_eqInt64S.mono _ _ k)
    | with_reducible exact Lim.of (fun k => laws_eqReefing.mono _ _ _ _ k)
    | with_reducible exact Lim.of (fun k => laws_markInt64S.mono _ _ k)
    | with_reducible exact Lim.of (fun k => laws_toInt64S.mono _ k)
    | with_reducible refine Lim.ite ?_ ?_
    | with_reducible refine Lim.bind ?_ (fun _ => ?_)
    | exact Lim.of (fun k => (laws_FnExactEvenReefing.mono_l k).2.1 _ _ _ _ _ _ _ _)
    | exact Lim.of (fun k => laws_eqInt64S.mono _ _ k)
    | exact Lim.of (fun k => laws_eqReefing.mono _ _ _ _ k)
    | exact Lim.of (fun k => laws_markInt64S.mono _ _ k)
    | exact Lim.of (fun k => laws_toInt64S.mono _ k)
theorem laws_FnExactEvenReefing.J1_eq (x0 : List Int) (x1 : Int) (x6 : Int) (x62 : Bool) (x200000 : List Int) (x200001 : List Int) (x211000 : List Int) (x211001 : List Int) : laws_FnExactEvenReefing.J1 x0 x1 x6 x62 x200000 x200001 x211000 x211001 = if x62 = true then (some false) else ((laws_markReefing.F x211000 x211001 1).bind fun bt219 => ((laws_heldReefing.F bt219.2.1 bt219.2.2 1).bind fun t222 => (if t222 < 0 then (some false) else (if t222 = bt219.1 then ((laws_toInt64S.F x0).bind fun t223 => ((impl_EvenReefing.F t223 x1).bind fun bt226 => ((laws_eqReefing.F bt226.1 bt226.2.1 x200000 x200001).bind fun t234 => (if t234 = true then (laws_FnExactEvenReefing.J2 bt219.1 (bt226.2.2 != x6) bt219.2.1 bt219.2.2) else (laws_FnExactEvenReefing.J2 bt219.1 true bt219.2.1 bt219.2.2))))) else (some false))))) := by
  refine Lim.step (f := fun k => if x62 = true then (some false) else ((laws_markReefing.f k x211000 x211001 1).bind fun bt219 => ((laws_heldReefing.f k bt219.2.1 bt219.2.2 1).bind fun t222 => (if t222 < 0 then (some false) else (if t222 = bt219.1 then ((laws_toInt64S.f k x0).bind fun t223 => ((impl_EvenReefing.f k t223 x1).bind fun bt226 => ((laws_eqReefing.f k bt226.1 bt226.2.1 x200000 x200001).bind fun t234 => (if t234 = true then (laws_FnExactEvenReefing.j2 k bt219.1 (bt226.2.2 != x6) bt219.2.1 bt219.2.2) else (laws_FnExactEvenReefing.j2 k bt219.1 true bt219.2.1 bt219.2.2))))) else (some false)))))) (fun k => (laws_FnExactEvenReefing.mono_l k).2.1 x0 x1 x6 x62 x200000 x200001 x211000 x211001) (fun k => by simp only [laws_FnExactEvenReefing.j1]) ?_
  repeat' first
    | exact Lim.const _
    | with_reducible exact Lim.of (fun k => impl_EvenReefing.mono _ _ k)
    | with_reducible exact Lim.of (fun k => (laws_FnExactEvenReefing.mono_l k).2.2 _ _ _ _)
    | with_reducible exact Lim.of (fun k => laws_eqReefing.mono _ _ _ _ k)
    | with_reducible exact Lim.of (fun k => laws_heldReefing.mono _ _ _ k)
    | with_reducible exact Lim.of (fun k => laws_markReefing.mono _ _ _ k)
    | with_reducible exact Lim.of (fun k => laws_toInt64S.mono _ k)
    | with_reducible refine Lim.ite ?_ ?_
    | with_reducible refine Lim.bind ?_ (fun _ => ?_)
    | exact Lim.of (fun k => impl_EvenReefing.mono _ _ k)
    | exact Lim.of (fun k => (laws_FnExactEvenReefing.mono_l k).2.2 _ _ _ _)
    | exact Lim.of (fun k => laws_eqReefing.mono _ _ _ _ k)
    | exact Lim.of (fun k => laws_heldReefing.mono _ _ _ k)
    | exact Lim.of (fun k => laws_markReefing.mono _ _ _ k)
    | exact Lim.of (fun k => laws_toInt64S.mono _ k)
theorem laws_FnExactEvenReefing.J2_eq (x11 : Int) (x89 : Bool) (x211000 : List Int) (x211001 : List Int) : laws_FnExactEvenReefing.J2 x11 x89 x211000 x211001 = if x89 = true then (some false) else ((laws_heldReefing.F x211000 x211001 1).bind fun t235 => (if t235 < 0 then (some false) else (if t235 = x11 then (some true) else (some false)))) := by
  refine Lim.step (f := fun k => if x89 = true then (some false) else ((laws_heldReefing.f k x211000 x211001 1).bind fun t235 => (if t235 < 0 then (some false) else (if t235 = x11 then (some true) else (some false))))) (fun k => (laws_FnExactEvenReefing.mono_l k).2.2 x11 x89 x211000 x211001) (fun k => by simp only [laws_FnExactEvenReefing.j2]) ?_
  repeat' first
    | exact Lim.const _
    | with_reducible exact Lim.of (fun k => laws_heldReefing.mono _ _ _ k)
    | with_reducible refine Lim.ite ?_ ?_
    | with_reducible refine Lim.bind ?_ (fun _ => ?_)
    | exact Lim.of (fun k => laws_heldReefing.mono _ _ _ k)
theorem laws_FnExactEvenReefing.F_eq (l0 : List Int) (a1 : Int) : laws_FnExactEvenReefing.F l0 a1 = if (l0.length : Int) > 1048576 then (some true) else ((laws_toInt64S.F l0).bind fun t189 => ((spec_EvenReefing.F t189 a1).bind fun bt192 => ((laws_toInt64S.F l0).bind fun t200 => ((impl_EvenReefing.F t200 a1).bind fun bt203 => ((laws_eqReefing.F bt203.1 bt203.2.1 bt192.1 bt192.2.1).bind fun t211 => (if t211 = true then (laws_FnExactEvenReefing.J0 l0 a1 bt192.2.2 t200 bt203.2.2 (bt203.2.2 != bt192.2.2) bt192.1 bt192.2.1 bt203.1 bt203.2.1) else (laws_FnExactEvenReefing.J0 l0 a1 bt192.2.2 t200 bt203.2.2 true bt192.1 bt192.2.1 bt203.1 bt203.2.1))))))) := by
  refine Lim.eq (g := fun k => laws_FnExactEvenReefing.f k l0 a1) ?_
  unfold laws_FnExactEvenReefing.f
  repeat' first
    | exact Lim.const _
    | with_reducible exact Lim.of (fun k => impl_EvenReefing.mono _ _ k)
    | with_reducible exact Lim.of (fun k => (laws_FnExactEvenReefing.mono_l k).1 _ _ _ _ _ _ _ _ _ _)
    | with_reducible exact Lim.of (fun k => laws_eqReefing.mono _ _ _ _ k)
    | with_reducible exact Lim.of (fun k => laws_toInt64S.mono _ k)
    | with_reducible exact Lim.of (fun k => spec_EvenReefing.mono _ _ k)
    | with_reducible refine Lim.ite ?_ ?_
    | with_reducible refine Lim.bind ?_ (fun _ => ?_)
    | exact Lim.of (fun k => impl_EvenReefing.mono _ _ k)
    | exact Lim.of (fun k => (laws_FnExactEvenReefing.mono_l k).1 _ _ _ _ _ _ _ _ _ _)
    | exact Lim.of (fun k => laws_eqReefing.mono _ _ _ _ k)
    | exact Lim.of (fun k => laws_toInt64S.mono _ k)
    | exact Lim.of (fun k => spec_EvenReefing.mono _ _ k)

end Go.Proofs.Ytobejjbnklcgpaa.PFnExactEvenReefing
