/-
  Written by a program of this session (wip/tools/lims.py): the printed functions without their bound on rounds.
-/
import Derived.Test.YtjehpokkbekapaaPFnExactBroadSeamsx1
import Derived.Test.YtjehpokkbekapaaPFnExactBroadSeamsx2
import Derived.Test.YtjehpokkbekapaaKit
set_option linter.unusedVariables false
set_option linter.unusedSimpArgs false
namespace Go.Proofs.Ytjehpokkbekapaa.PFnExactBroadSeams
open Go.RowKit Go.Proofs.Ytjehpokkbekapaa.Kit Go.Proofs.YtjehpokkbekapaaW.PrintWords Go.Proofs.YtjehpokkbekapaaW.PrintLast Go.Proofs.YtjehpokkbekapaaW.PrintMore

noncomputable def spec_BroadSeams.J0 (x0 : Int) (x1 : Int) (x2 : Int) (x25 : Bool) : Option (List Int × Int) := lim (fun k => spec_BroadSeams.j0 k x0 x1 x2 x25)
noncomputable def spec_BroadSeams.L0 (x0 : Int) (x2 : Int) (x8 : Int) (x9 : Int) (x10 : List Int) (x11 : Int) : Option (List Int × Int) := lim (fun k => spec_BroadSeams.l0 k x0 x2 x8 x9 x10 x11)
noncomputable def spec_BroadSeams.J2 (x0 : Int) (x2 : Int) (x8 : Int) (x9 : Int) (x10 : List Int) (x11 : Int) (x12 : Int) (x54 : Bool) : Option (List Int × Int) := lim (fun k => spec_BroadSeams.j2 k x0 x2 x8 x9 x10 x11 x12 x54)
noncomputable def spec_BroadSeams.F (a0 : Int) (a1 : Int) (a2 : Int) : Option (List Int × Int) := lim (fun k => spec_BroadSeams.f k a0 a1 a2)
theorem spec_BroadSeams.J0_eq (x0 : Int) (x1 : Int) (x2 : Int) (x25 : Bool) : spec_BroadSeams.J0 x0 x1 x2 x25 = if x25 = true then (some (([] : List Int), 2)) else (if x0 = 0 then (none) else (spec_BroadSeams.L0 x0 x2 (wrap64 (Int.tdiv x1 x0)) (Int.tmod x1 x0) (([] : List Int)) 0)) := by
  refine Lim.step (f := fun k => if x25 = true then (some (([] : List Int), 2)) else (if x0 = 0 then (none) else (spec_BroadSeams.l0 k x0 x2 (wrap64 (Int.tdiv x1 x0)) (Int.tmod x1 x0) (([] : List Int)) 0))) (fun k => (spec_BroadSeams.mono_l k).1 x0 x1 x2 x25) (fun k => by simp only [spec_BroadSeams.j0]) ?_
  repeat' first
    | exact Lim.const _
    | with_reducible exact Lim.of (fun k => (spec_BroadSeams.mono_l k).2.1 _ _ _ _ _ _)
    | with_reducible refine Lim.ite ?_ ?_
    | with_reducible refine Lim.bind ?_ (fun _ => ?_)
    | exact Lim.of (fun k => (spec_BroadSeams.mono_l k).2.1 _ _ _ _ _ _)
theorem spec_BroadSeams.L0_eq (x0 : Int) (x2 : Int) (x8 : Int) (x9 : Int) (x10 : List Int) (x11 : Int) : spec_BroadSeams.L0 x0 x2 x8 x9 x10 x11 = if x11 < x0 then (if x11 ≥ (wrap64 (Int.tdiv (wrap64 (x0 - x9)) 2)) then (spec_BroadSeams.J2 x0 x2 x8 x9 x10 x11 x8 (decide (x11 < (wrap64 ((wrap64 (Int.tdiv (wrap64 (x0 - x9)) 2)) + x9))))) else (spec_BroadSeams.J2 x0 x2 x8 x9 x10 x11 x8 false)) else (some (x10, 0)) := by
  refine Lim.step (f := fun k => if x11 < x0 then (if x11 ≥ (wrap64 (Int.tdiv (wrap64 (x0 - x9)) 2)) then (spec_BroadSeams.j2 k x0 x2 x8 x9 x10 x11 x8 (decide (x11 < (wrap64 ((wrap64 (Int.tdiv (wrap64 (x0 - x9)) 2)) + x9))))) else (spec_BroadSeams.j2 k x0 x2 x8 x9 x10 x11 x8 false)) else (some (x10, 0))) (fun k => (spec_BroadSeams.mono_l k).2.1 x0 x2 x8 x9 x10 x11) (fun k => by simp only [spec_BroadSeams.l0]) ?_
  repeat' first
    | exact Lim.const _
    | with_reducible exact Lim.of (fun k => (spec_BroadSeams.mono_l k).2.2 _ _ _ _ _ _ _ _)
    | with_reducible refine Lim.ite ?_ ?_
    | with_reducible refine Lim.bind ?_ (fun _ => ?_)
    | exact Lim.of (fun k => (spec_BroadSeams.mono_l k).2.2 _ _ _ _ _ _ _ _)
theorem spec_BroadSeams.J2_eq (x0 : Int) (x2 : Int) (x8 : Int) (x9 : Int) (x10 : List Int) (x11 : Int) (x12 : Int) (x54 : Bool) : spec_BroadSeams.J2 x0 x2 x8 x9 x10 x11 x12 x54 = if x54 = true then (if (wrap64 (x12 + 1)) > 30 then (some (([] : List Int), 5)) else (if (wrap64 (x12 + 1)) > x2 then (some (([] : List Int), 5)) else (if x10.length < 17592186044416 then (spec_BroadSeams.L0 x0 x2 x8 x9 (x10 ++ [wrap64 (x12 + 1)]) (wrap64 (x11 + 1))) else (none)))) else (if x12 > 30 then (some (([] : List Int), 5)) else (if x12 > x2 then (some (([] : List Int), 5)) else (if x10.length < 17592186044416 then (spec_BroadSeams.L0 x0 x2 x8 x9 (x10 ++ [x12]) (wrap64 (x11 + 1))) else (none)))) := by
  refine Lim.step (f := fun k => if x54 = true then (if (wrap64 (x12 + 1)) > 30 then (some (([] : List Int), 5)) else (if (wrap64 (x12 + 1)) > x2 then (some (([] : List Int), 5)) else (if x10.length < 17592186044416 then (spec_BroadSeams.l0 k x0 x2 x8 x9 (x10 ++ [wrap64 (x12 + 1)]) (wrap64 (x11 + 1))) else (none)))) else (if x12 > 30 then (some (([] : List Int), 5)) else (if x12 > x2 then (some (([] : List Int), 5)) else (if x10.length < 17592186044416 then (spec_BroadSeams.l0 k x0 x2 x8 x9 (x10 ++ [x12]) (wrap64 (x11 + 1))) else (none))))) (fun k => (spec_BroadSeams.mono_l k).2.2 x0 x2 x8 x9 x10 x11 x12 x54) (fun k => by simp only [spec_BroadSeams.j2]) ?_
  repeat' first
    | exact Lim.const _
    | with_reducible exact Lim.of (fun k => (spec_BroadSeams.mono_l k).2.1 _ _ _ _ _ _)
    | with_reducible refine Lim.ite ?_ ?_
    | with_reducible refine Lim.bind ?_ (fun _ => ?_)
    | exact Lim.of (fun k => (spec_BroadSeams.mono_l k).2.1 _ _ _ _ _ _)
theorem spec_BroadSeams.F_eq (a0 : Int) (a1 : Int) (a2 : Int) : spec_BroadSeams.F a0 a1 a2 = (spec_l00In.f a0 1 40).bind fun t101 => (if t101 = true then ((spec_l00In.f a1 0 1000).bind fun t102 => (if t102 = true then ((spec_l00In.f a2 1 10000).bind fun t103 => (spec_BroadSeams.J0 a0 a1 a2 (!t103))) else (spec_BroadSeams.J0 a0 a1 a2 true))) else (spec_BroadSeams.J0 a0 a1 a2 true)) := by
  refine Lim.eq (g := fun k => spec_BroadSeams.f k a0 a1 a2) ?_
  unfold spec_BroadSeams.f
  repeat' first
    | exact Lim.const _
    | with_reducible exact Lim.of (fun k => (spec_BroadSeams.mono_l k).1 _ _ _ _)
    | with_reducible refine Lim.ite ?_ ?_
    | with_reducible refine Lim.bind ?_ (fun _ => ?_)
    | exact Lim.of (fun k => (spec_BroadSeams.mono_l k).1 _ _ _ _)

noncomputable def impl_BroadSeams.J0 (x0 : Int) (x1 : Int) (x2 : Int) (x26 : Bool) : Option (List Int × Int) := lim (fun k => impl_BroadSeams.j0 k x0 x1 x2 x26)
noncomputable def impl_BroadSeams.L0 (x0 : Int) (x2 : Int) (x8 : Int) (x9 : Int) (x10 : Int) (x11 : List Int) (x12 : Int) : Option (List Int × Int) := lim (fun k => impl_BroadSeams.l0 k x0 x2 x8 x9 x10 x11 x12)
noncomputable def impl_BroadSeams.J2 (x0 : Int) (x2 : Int) (x8 : Int) (x9 : Int) (x10 : Int) (x11 : List Int) (x12 : Int) (x13 : Int) (x53 : Bool) : Option (List Int × Int) := lim (fun k => impl_BroadSeams.j2 k x0 x2 x8 x9 x10 x11 x12 x13 x53)
noncomputable def impl_BroadSeams.F (a0 : Int) (a1 : Int) (a2 : Int) : Option (List Int × Int) := lim (fun k => impl_BroadSeams.f k a0 a1 a2)
theorem impl_BroadSeams.J0_eq (x0 : Int) (x1 : Int) (x2 : Int) (x26 : Bool) : impl_BroadSeams.J0 x0 x1 x2 x26 = if x26 = true then (some (([] : List Int), 2)) else (if x0 = 0 then (none) else (impl_BroadSeams.L0 x0 x2 (wrap64 (Int.tdiv x1 x0)) (Int.tmod x1 x0) (wrap64 (Int.tdiv (wrap64 (x0 - (Int.tmod x1 x0))) 2)) (([] : List Int)) 0)) := by
  refine Lim.step (f := fun k => if x26 = true then (some (([] : List Int), 2)) else (if x0 = 0 then (none) else (impl_BroadSeams.l0 k x0 x2 (wrap64 (Int.tdiv x1 x0)) (Int.tmod x1 x0) (wrap64 (Int.tdiv (wrap64 (x0 - (Int.tmod x1 x0))) 2)) (([] : List Int)) 0))) (fun k => (impl_BroadSeams.mono_l k).1 x0 x1 x2 x26) (fun k => by simp only [impl_BroadSeams.j0]) ?_
  repeat' first
    | exact Lim.const _
    | with_reducible exact Lim.of (fun k => (impl_BroadSeams.mono_l k).2.1 _ _ _ _ _ _ _)
    | with_reducible refine Lim.ite ?_ ?_
    | with_reducible refine Lim.bind ?_ (fun _ => ?_)
    | exact Lim.of (fun k => (impl_BroadSeams.mono_l k).2.1 _ _ _ _ _ _ _)
theorem impl_BroadSeams.L0_eq (x0 : Int) (x2 : Int) (x8 : Int) (x9 : Int) (x10 : Int) (x11 : List Int) (x12 : Int) : impl_BroadSeams.L0 x0 x2 x8 x9 x10 x11 x12 = if x12 < x0 then (if x12 ≥ x10 then (impl_BroadSeams.J2 x0 x2 x8 x9 x10 x11 x12 x8 (decide (x12 < (wrap64 (x10 + x9))))) else (impl_BroadSeams.J2 x0 x2 x8 x9 x10 x11 x12 x8 false)) else (some (x11, 0)) := by
  refine Lim.step (f := fun k => if x12 < x0 then (if x12 ≥ x10 then (impl_BroadSeams.j2 k x0 x2 x8 x9 x10 x11 x12 x8 (decide (x12 < (wrap64 (x10 + x9))))) else (impl_BroadSeams.j2 k x0 x2 x8 x9 x10 x11 x12 x8 false)) else (some (x11, 0))) (fun k => (impl_BroadSeams.mono_l k).2.1 x0 x2 x8 x9 x10 x11 x12) (fun k => by simp only [impl_BroadSeams.l0]) ?_
  repeat' first
    | exact Lim.const _
    | with_reducible exact Lim.of (fun k => (impl_BroadSeams.mono_l k).2.2 _ _ _ _ _ _ _ _ _)
    | with_reducible refine Lim.ite ?_ ?_
    | with_reducible refine Lim.bind ?_ (fun _ => ?_)
    | exact Lim.of (fun k => (impl_BroadSeams.mono_l k).2.2 _ _ _ _ _ _ _ _ _)
theorem impl_BroadSeams.J2_eq (x0 : Int) (x2 : Int) (x8 : Int) (x9 : Int) (x10 : Int) (x11 : List Int) (x12 : Int) (x13 : Int) (x53 : Bool) : impl_BroadSeams.J2 x0 x2 x8 x9 x10 x11 x12 x13 x53 = if x53 = true then (if (wrap64 (x13 + 1)) > 30 then (some (([] : List Int), 5)) else (if (wrap64 (x13 + 1)) > x2 then (some (([] : List Int), 5)) else (if x11.length < 17592186044416 then (impl_BroadSeams.L0 x0 x2 x8 x9 x10 (x11 ++ [wrap64 (x13 + 1)]) (wrap64 (x12 + 1))) else (none)))) else (if x13 > 30 then (some (([] : List Int), 5)) else (if x13 > x2 then (some (([] : List Int), 5)) else (if x11.length < 17592186044416 then (impl_BroadSeams.L0 x0 x2 x8 x9 x10 (x11 ++ [x13]) (wrap64 (x12 + 1))) else (none)))) := by
  refine Lim.step (f := fun k => if x53 = true then (if (wrap64 (x13 + 1)) > 30 then (some (([] : List Int), 5)) else (if (wrap64 (x13 + 1)) > x2 then (some (([] : List Int), 5)) else (if x11.length < 17592186044416 then (impl_BroadSeams.l0 k x0 x2 x8 x9 x10 (x11 ++ [wrap64 (x13 + 1)]) (wrap64 (x12 + 1))) else (none)))) else (if x13 > 30 then (some (([] : List Int), 5)) else (if x13 > x2 then (some (([] : List Int), 5)) else (if x11.length < 17592186044416 then (impl_BroadSeams.l0 k x0 x2 x8 x9 x10 (x11 ++ [x13]) (wrap64 (x12 + 1))) else (none))))) (fun k => (impl_BroadSeams.mono_l k).2.2 x0 x2 x8 x9 x10 x11 x12 x13 x53) (fun k => by simp only [impl_BroadSeams.j2]) ?_
  repeat' first
    | exact Lim.const _
    | with_reducible exact Lim.of (fun k => (impl_BroadSeams.mono_l k).2.1 _ _ _ _ _ _ _)
    | with_reducible refine Lim.ite ?_ ?_
    | with_reducible refine Lim.bind ?_ (fun _ => ?_)
    | exact Lim.of (fun k => (impl_BroadSeams.mono_l k).2.1 _ _ _ _ _ _ _)
theorem impl_BroadSeams.F_eq (a0 : Int) (a1 : Int) (a2 : Int) : impl_BroadSeams.F a0 a1 a2 = (impl_within.f a0 1 40).bind fun t113 => (if t113 = true then ((impl_within.f a1 0 1000).bind fun t114 => (if t114 = true then ((impl_within.f a2 1 10000).bind fun t115 => (impl_BroadSeams.J0 a0 a1 a2 (!t115))) else (impl_BroadSeams.J0 a0 a1 a2 true))) else (impl_BroadSeams.J0 a0 a1 a2 true)) := by
  refine Lim.eq (g := fun k => impl_BroadSeams.f k a0 a1 a2) ?_
  unfold impl_BroadSeams.f
  repeat' first
    | exact Lim.const _
    | with_reducible exact Lim.of (fun k => (impl_BroadSeams.mono_l k).1 _ _ _ _)
    | with_reducible refine Lim.ite ?_ ?_
    | with_reducible refine Lim.bind ?_ (fun _ => ?_)
    | exact Lim.of (fun k => (impl_BroadSeams.mono_l k).1 _ _ _ _)

noncomputable def laws_eqInt64S.L0 (x0 : List Int) (x1 : List Int) (x5 : Int) : Option (Bool) := lim (fun k => laws_eqInt64S.l0 k x0 x1 x5)
noncomputable def laws_eqInt64S.F (l0 : List Int) (l1 : List Int) : Option (Bool) := lim (fun k => laws_eqInt64S.f k l0 l1)
theorem laws_eqInt64S.L0_eq (x0 : List Int) (x1 : List Int) (x5 : Int) : laws_eqInt64S.L0 x0 x1 x5 = if x5 < (x0.length : Int) then (if 0 ≤ x5 then (if x5 < (x1.length : Int) then (if (rd x0 x5) = (rd x1 x5) then (laws_eqInt64S.L0 x0 x1 (wrap64 (x5 + 1))) else (some false)) else (none)) else (none)) else (some true) := by
  refine Lim.step (f := fun k => if x5 < (x0.length : Int) then (if 0 ≤ x5 then (if x5 < (x1.length : Int) then (if (rd x0 x5) = (rd x1 x5) then (laws_eqInt64S.l0 k x0 x1 (wrap64 (x5 + 1))) else (some false)) else (none)) else (none)) else (some true)) (fun k => (laws_eqInt64S.mono_l k) x0 x1 x5) (fun k => by simp only [laws_eqInt64S.l0]) ?_
  repeat' first
    | exact Lim.const _
    | with_reducible exact Lim.of (fun k => (laws_eqInt64S.mono_l k) _ _ _)
    | with_reducible refine Lim.ite ?_ ?_
    | with_reducible refine Lim.bind ?_ (fun _ => ?_)
    | exact Lim.of (fun k => (laws_eqInt64S.mono_l k) _ _ _)
theorem laws_eqInt64S.F_eq (l0 : List Int) (l1 : List Int) : laws_eqInt64S.F l0 l1 = if (l0.length : Int) = (l1.length : Int) then (laws_eqInt64S.L0 l0 l1 0) else (some false) := by
  refine Lim.eq (g := fun k => laws_eqInt64S.f k l0 l1) ?_
  unfold laws_eqInt64S.f
  repeat' first
    | exact Lim.const _
    | with_reducible exact Lim.of (fun k => (laws_eqInt64S.mono_l k) _ _ _)
    | with_reducible refine Lim.ite ?_ ?_
    | with_reducible refine Lim.bind ?_ (fun _ => ?_)
    | exact Lim.of (fun k => (laws_eqInt64S.mono_l k) _ _ _)

noncomputable def laws_markInt64S.L0 (x0 : List Int) (x1 : Int) (x5 : Int) : Option (Int × List Int) := lim (fun k => laws_markInt64S.l0 k x0 x1 x5)
noncomputable def laws_markInt64S.F (l0 : List Int) (a1 : Int) : Option (Int × List Int) := lim (fun k => laws_markInt64S.f k l0 a1)
theorem laws_markInt64S.L0_eq (x0 : List Int) (x1 : Int) (x5 : Int) : laws_markInt64S.L0 x0 x1 x5 = if x5 < (x0.length : Int) then (if 0 ≤ x5 then (laws_markInt64S.L0 (x0.set (x5 : Int).toNat x1) (wrap64 (x1 + 1)) (wrap64 (x5 + 1))) else (none)) else (some (x1, x0)) := by
  refine Lim.step (f := fun k => if x5 < (x0.length : Int) then (if 0 ≤ x5 then (laws_markInt64S.l0 k (x0.set (x5 : Int).toNat x1) (wrap64 (x1 + 1)) (wrap64 (x5 + 1))) else (none)) else (some (x1, x0))) (fun k => (laws_markInt64S.mono_l k) x0 x1 x5) (fun k => by simp only [laws_markInt64S.l0]) ?_
  repeat' first
    | exact Lim.const _
    | with_reducible exact Lim.of (fun k => (laws_markInt64S.mono_l k) _ _ _)
    | with_reducible refine Lim.ite ?_ ?_
    | with_reducible refine Lim.bind ?_ (fun _ => ?_)
    | exact Lim.of (fun k => (laws_markInt64S.mono_l k) _ _ _)
theorem laws_markInt64S.F_eq (l0 : List Int) (a1 : Int) : laws_markInt64S.F l0 a1 = laws_markInt64S.L0 l0 a1 0 := by
  refine Lim.eq (g := fun k => laws_markInt64S.f k l0 a1) ?_
  unfold laws_markInt64S.f
  repeat' first
    | exact Lim.const _
    | with_reducible exact Lim.of (fun k => (laws_markInt64S.mono_l k) _ _ _)
    | with_reducible refine Lim.ite ?_ ?_
    | with_reducible refine Lim.bind ?_ (fun _ => ?_)
    | exact Lim.of (fun k => (laws_markInt64S.mono_l k) _ _ _)

noncomputable def laws_heldInt64S.L0 (x0 : List Int) (x1 : Int) (x5 : Int) : Option (Int) := lim (fun k => laws_heldInt64S.l0 k x0 x1 x5)
noncomputable def laws_heldInt64S.F (l0 : List Int) (a1 : Int) : Option (Int) := lim (fun k => laws_heldInt64S.f k l0 a1)
theorem laws_heldInt64S.L0_eq (x0 : List Int) (x1 : Int) (x5 : Int) : laws_heldInt64S.L0 x0 x1 x5 = if x5 < (x0.length : Int) then (if 0 ≤ x5 then (if (rd x0 x5) = x1 then (laws_heldInt64S.L0 x0 (wrap64 (x1 + 1)) (wrap64 (x5 + 1))) else (some (-1))) else (none)) else (some x1) := by
  refine Lim.step (f := fun k => if x5 < (x0.length : Int) then (if 0 ≤ x5 then (if (rd x0 x5) = x1 then (laws_heldInt64S.l0 k x0 (wrap64 (x1 + 1)) (wrap64 (x5 + 1))) else (some (-1))) else (none)) else (some x1)) (fun k => (laws_heldInt64S.mono_l k) x0 x1 x5) (fun k => by simp only [laws_heldInt64S.l0]) ?_
  repeat' first
    | exact Lim.const _
    | with_reducible exact Lim.of (fun k => (laws_heldInt64S.mono_l k) _ _ _)
    | with_reducible refine Lim.ite ?_ ?_
    | with_reducible refine Lim.bind ?_ (fun _ => ?_)
    | exact Lim.of (fun k => (laws_heldInt64S.mono_l k) _ _ _)
theorem laws_heldInt64S.F_eq (l0 : List Int) (a1 : Int) : laws_heldInt64S.F l0 a1 = laws_heldInt64S.L0 l0 a1 0 := by
  refine Lim.eq (g := fun k => laws_heldInt64S.f k l0 a1) ?_
  unfold laws_heldInt64S.f
  repeat' first
    | exact Lim.const _
    | with_reducible exact Lim.of (fun k => (laws_heldInt64S.mono_l k) _ _ _)
    | with_reducible refine Lim.ite ?_ ?_
    | with_reducible refine Lim.bind ?_ (fun _ => ?_)
    | exact Lim.of (fun k => (laws_heldInt64S.mono_l k) _ _ _)

noncomputable def laws_FnExactBroadSeams.J0 (x0 : Int) (x1 : Int) (x2 : Int) (x7 : List Int) (x8 : Int) (x9 : List Int) (x37 : Bool) : Option (Bool) := lim (fun k => laws_FnExactBroadSeams.j0 k x0 x1 x2 x7 x8 x9 x37)
noncomputable def laws_FnExactBroadSeams.J1 (x9 : List Int) (x11 : Int) (x64 : Bool) : Option (Bool) := lim (fun k => laws_FnExactBroadSeams.j1 k x9 x11 x64)
noncomputable def laws_FnExactBroadSeams.F (a0 : Int) (a1 : Int) (a2 : Int) : Option (Bool) := lim (fun k => laws_FnExactBroadSeams.f k a0 a1 a2)
theorem laws_FnExactBroadSeams.J0_eq (x0 : Int) (x1 : Int) (x2 : Int) (x7 : List Int) (x8 : Int) (x9 : List Int) (x37 : Bool) : laws_FnExactBroadSeams.J0 x0 x1 x2 x7 x8 x9 x37 = if x37 = true then (some false) else ((laws_markInt64S.F x9 1).bind fun bt138 => ((laws_heldInt64S.F bt138.2 1).bind fun t140 => (if t140 < 0 then (some false) else (if t140 = bt138.1 then ((impl_BroadSeams.F x0 x1 x2).bind fun bt141 => ((laws_eqInt64S.F bt141.1 x7).bind fun t145 => (if t145 = true then (laws_FnExactBroadSeams.J1 bt138.2 bt138.1 (bt141.2 != x8)) else (laws_FnExactBroadSeams.J1 bt138.2 bt138.1 true)))) else (some false))))) := by
  refine Lim.step (f := fun k => if x37 = true then (some false) else ((laws_markInt64S.f k x9 1).bind fun bt138 => ((laws_heldInt64S.f k bt138.2 1).bind fun t140 => (if t140 < 0 then (some false) else (if t140 = bt138.1 then ((impl_BroadSeams.f k x0 x1 x2).bind fun bt141 => ((laws_eqInt64S.f k bt141.1 x7).bind fun t145 => (if t145 = true then (laws_FnExactBroadSeams.j1 k bt138.2 bt138.1 (bt141.2 != x8)) else (laws_FnExactBroadSeams.j1 k bt138.2 bt138.1 true)))) else (some false)))))) (fun k => (laws_FnExactBroadSeams.mono_l k).1 x0 x1 x2 x7 x8 x9 x37) (fun k => by simp only [laws_FnExactBroadSeams.j0]) ?_
  repeat' first
    | exact Lim.const _
    | with_reducible exact Lim.of (fun k => impl_BroadSeams.mono _ _ _ k)
    | with_reducible exact Lim.of (fun k => (laws_FnExactBroadSeams.mono_l k).2 _ _ _)
    | with_reducible exact Lim.of (fun k => laws_eqInt64S.mono _ _ k)
    | with_reducible exact Lim.of (fun k => laws_heldInt64S.mono _ _ k)
    | with_reducible exact Lim.of (fun k => laws_markInt64S.mono _ _ k)
    | with_reducible refine Lim.ite ?_ ?_
    | with_reducible refine Lim.bind ?_ (fun _ => ?_)
    | exact Lim.of (fun k => impl_BroadSeams.mono _ _ _ k)
    | exact Lim.of (fun k => (laws_FnExactBroadSeams.mono_l k).2 _ _ _)
    | exact Lim.of (fun k => laws_eqInt64S.mono _ _ k)
    | exact Lim.of (fun k => laws_heldInt64S.mono _ _ k)
    | exact Lim.of (fun k => laws_markInt64S.mono _ _ k)
theorem laws_FnExactBroadSeams.J1_eq (x9 : List Int) (x11 : Int) (x64 : Bool) : laws_FnExactBroadSeams.J1 x9 x11 x64 = if x64 = true then (some false) else ((laws_heldInt64S.F x9 1).bind fun t146 => (if t146 < 0 then (some false) else (if t146 = x11 then (some true) else (some false)))) := by
  refine Lim.step (f := fun k => if x64 = true then (some false) else ((laws_heldInt64S.f k x9 1).bind fun t146 => (if t146 < 0 then (some false) else (if t146 = x11 then (some true) else (some false))))) (fun k => (laws_FnExactBroadSeams.mono_l k).2 x9 x11 x64) (fun k => by simp only [laws_FnExactBroadSeams.j1]) ?_
  repeat' first
    | exact Lim.const _
    | with_reducible exact Lim.of (fun k => laws_heldInt64S.mono _ _ k)
    | with_reducible refine Lim.ite ?_ ?_
    | with_reducible refine Lim.bind ?_ (fun _ => ?_)
    | exact Lim.of (fun k => laws_heldInt64S.mono _ _ k)
theorem laws_FnExactBroadSeams.F_eq (a0 : Int) (a1 : Int) (a2 : Int) : laws_FnExactBroadSeams.F a0 a1 a2 = (spec_BroadSeams.F a0 a1 a2).bind fun bt129 => ((impl_BroadSeams.F a0 a1 a2).bind fun bt133 => ((laws_eqInt64S.F bt133.1 bt129.1).bind fun t137 => (if t137 = true then (laws_FnExactBroadSeams.J0 a0 a1 a2 bt129.1 bt129.2 bt133.1 (bt133.2 != bt129.2)) else (laws_FnExactBroadSeams.J0 a0 a1 a2 bt129.1 bt129.2 bt133.1 true)))) := by
  refine Lim.eq (g := fun k => laws_FnExactBroadSeams.f k a0 a1 a2) ?_
  unfold laws_FnExactBroadSeams.f
  repeat' first
    | exact Lim.const _
    | with_reducible exact Lim.of (fun k => impl_BroadSeams.mono _ _ _ k)
    | with_reducible exact Lim.of (fun k => (laws_FnExactBroadSeams.mono_l k).1 _ _ _ _ _ _ _)
    | with_reducible exact Lim.of (fun k => laws_eqInt64S.mono _ _ k)
    | with_reducible exact Lim.of (fun k => spec_BroadSeams.mono _ _ _ k)
    | with_reducible refine Lim.ite ?_ ?_
    | with_reducible refine Lim.bind ?_ (fun _ => ?_)
    | exact Lim.of (fun k => impl_BroadSeams.mono _ _ _ k)
    | exact Lim.of (fun k => (laws_FnExactBroadSeams.mono_l k).1 _ _ _ _ _ _ _)
    | exact Lim.of (fun k => laws_eqInt64S.mono _ _ k)
    | exact Lim.of (fun k => spec_BroadSeams.mono _ _ _ k)

end Go.Proofs.Ytjehpokkbekapaa.PFnExactBroadSeams
