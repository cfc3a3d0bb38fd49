/-
  Written by a program of this session (wip/tools/lims.py): the printed functions without their bound on rounds.
-/
import Derived.Test.YtobejjbnklcgpaaPFnBroadSeamsx1
import Derived.Test.YtobejjbnklcgpaaPFnBroadSeamsx2
import Derived.Test.YtobejjbnklcgpaaPFnBroadSeamsx3
import Derived.Test.YtobejjbnklcgpaaPFnBroadSeamsx4
import Derived.Test.YtobejjbnklcgpaaKit
set_option linter.unusedVariables false
set_option linter.unusedSimpArgs false
namespace Go.Proofs.Ytobejjbnklcgpaa.PFnBroadSeams
open Go.RowKit Go.Proofs.Ytobejjbnklcgpaa.Kit Go.Proofs.YtobejjbnklcgpaaW.PrintWords Go.Proofs.YtobejjbnklcgpaaW.PrintLast Go.Proofs.YtobejjbnklcgpaaW.PrintMore

noncomputable def impl_BroadSeams.J0 (x0 : Int) (x1 : Int) (x2 : Int) (x26 : Bool) : Option (List Int × Int) := lim (fun k => impl_BroadSeams.j0 k x0 x1 x2 x26)
noncomputable def impl_BroadSeams.L0 (x0 : Int) (x2 : Int) (x8 : Int) (x9 : Int) (x10 : Int) (x11 : List Int) (x12 : Int) : Option (List Int × Int) := lim (fun k => impl_BroadSeams.l0 k x0 x2 x8 x9 x10 x11 x12)
noncomputable def impl_BroadSeams.J2 (x0 : Int) (x2 : Int) (x8 : Int) (x9 : Int) (x10 : Int) (x11 : List Int) (x12 : Int) (x13 : Int) (x53 : Bool) : Option (List Int × Int) := lim (fun k => impl_BroadSeams.j2 k x0 x2 x8 x9 x10 x11 x12 x13 x53)
noncomputable def impl_BroadSeams.F (a0 : Int) (a1 : Int) (a2 : Int) : Option (List Int × Int) := lim (fun k => impl_BroadSeams.f k a0 a1 a2)
theorem impl_BroadSeams.J0_eq (x0 : Int) (x1 : Int) (x2 : Int) (x26 : Bool) : impl_BroadSeams.J0 x0 x1 x2 x26 = if x26 = true then (some (([] : List Int), 2)) else (if x0 = 0 then (none) else (impl_BroadSeams.L0 x0 x2 (wrap64 (Int.tdiv x1 x0)) (Int.tmod x1 x0) (wrap64 (Int.tdiv (wrap64 (x0 - (Int.tmod x1 x0))) 2)) (([] : List Int)) 0)) := by
  refine Lim.step (f := fun k => if x26 = true then (some (([] : List Int), 2)) else (if x0 = 0 then (none) else (impl_BroadSeams.l0 k x0 x2 (wrap64 (Int.tdiv x1 x0)) (Int.tmod x1 x0) (wrap64 (Int.tdiv (wrap64 (x0 - (Int.tmod x1 x0))) 2)) (([] : List Int)) 0))) (fun k => (impl_BroadSeams.mono_l k).1 x0 x1 x2 x26) (fun k => by simp only [impl_BroadSeams.j0]) ?_
  repeat' first
    | exact Lim.const _
    | with_reducible exact Lim.of (fun k => (impl_BroadSeams.mono_l k).2.1 _ _ _ _ _ _ _)
    | with_reducible refine Lim.ite ?_ ?_
    | with_reducible refine Lim.bind ?_ (fun _ => ?_)
    | exact Lim.of (fun k => (impl_BroadSeams.mono_l k).2.1 _ _ _ _ _ _ _)
theorem impl_BroadSeams.L0_eq (x0 : Int) (x2 : Int) (x8 : Int) (x9 : Int) (x10 : Int) (x11 : List Int) (x12 : Int) : impl_BroadSeams.L0 x0 x2 x8 x9 x10 x11 x12 = if x12 < x0 then (if x12 ≥ x10 then (impl_BroadSeams.J2 x0 x2 x8 x9 x10 x11 x12 x8 (decide (x12 < (wrap64 (x10 + x9))))) else (impl_BroadSeams.J2 x0 x2 x8 x9 x10 x11 x12 x8 false)) else (some (x11, 0)) := by
  refine Lim.step (f := fun k => if x12 < x0 then (if x12 ≥ x10 then (impl_BroadSeams.j2 k x0 x2 x8 x9 x10 x11 x12 x8 (decide (x12 < (wrap64 (x10 + x9))))) else (impl_BroadSeams.j2 k x0 x2 x8 x9 x10 x11 x12 x8 false)) else (some (x11, 0))) (fun k => (impl_BroadSeams.mono_l k).2.1 x0 x2 x8 x9 x10 x11 x12) (fun k => by simp only [impl_BroadSeams.l0]) ?_
  repeat' first
    | exact Lim.const _
    | with_reducible exact Lim.of (fun k => (impl_BroadSeams.mono_l k).2.2 _ _ _ _ _ _ _ _ _)
    | with_reducible refine Lim.ite ?_ ?_
    | with_reducible refine Lim.bind ?_ (fun _ => ?_)
    | exact Lim.of (fun k => (impl_BroadSeams.mono_l k).2.2 _ _ _ _ _ _ _ _ _)
theorem impl_BroadSeams.J2_eq (x0 : Int) (x2 : Int) (x8 : Int) (x9 : Int) (x10 : Int) (x11 : List Int) (x12 : Int) (x13 : Int) (x53 : Bool) : impl_BroadSeams.J2 x0 x2 x8 x9 x10 x11 x12 x13 x53 = if x53 = true then (if (wrap64 (x13 + 1)) > 30 then (some (([] : List Int), 5)) else (if (wrap64 (x13 + 1)) > x2 then (some (([] : List Int), 5)) else (if x11.length < 17592186044416 then (impl_BroadSeams.L0 x0 x2 x8 x9 x10 (x11 ++ [wrap64 (x13 + 1)]) (wrap64 (x12 + 1))) else (none)))) else (if x13 > 30 then (some (([] : List Int), 5)) else (if x13 > x2 then (some (([] : List Int), 5)) else (if x11.length < 17592186044416 then (impl_BroadSeams.L0 x0 x2 x8 x9 x10 (x11 ++ [x13]) (wrap64 (x12 + 1))) else (none)))) := by
  refine Lim.step (f := fun k => if x53 = true then (if (wrap64 (x13 + 1)) > 30 then (some (([] : List Int), 5)) else (if (wrap64 (x13 + 1)) > x2 then (some (([] : List Int), 5)) else (if x11.length < 17592186044416 then (impl_BroadSeams.l0 k x0 x2 x8 x9 x10 (x11 ++ [wrap64 (x13 + 1)]) (wrap64 (x12 + 1))) else (none)))) else (if x13 > 30 then (some (([] : List Int), 5)) else (if x13 > x2 then (some (([] : List Int), 5)) else (if x11.length < 17592186044416 then (impl_BroadSeams.l0 k x0 x2 x8 x9 x10 (x11 ++ [x13]) (wrap64 (x12 + 1))) else (none))))) (fun k => (impl_BroadSeams.mono_l k).2.2 x0 x2 x8 x9 x10 x11 x12 x13 x53) (fun k => by simp only [impl_BroadSeams.j2]) ?_
  repeat' first
    | exact Lim.const _
    | with_reducible exact Lim.of (fun k => (impl_BroadSeams.mono_l k).2.1 _ _ _ _ _ _ _)
    | with_reducible refine Lim.ite ?_ ?_
    | with_reducible refine Lim.bind ?_ (fun _ => ?_)
    | exact Lim.of (fun k => (impl_BroadSeams.mono_l k).2.1 _ _ _ _ _ _ _)
theorem impl_BroadSeams.F_eq (a0 : Int) (a1 : Int) (a2 : Int) : impl_BroadSeams.F a0 a1 a2 = (impl_within.f a0 1 40).bind fun t153 => (if t153 = true then ((impl_within.f a1 0 1000).bind fun t154 => (if t154 = true then ((impl_within.f a2 1 10000).bind fun t155 => (impl_BroadSeams.J0 a0 a1 a2 (!t155))) else (impl_BroadSeams.J0 a0 a1 a2 true))) else (impl_BroadSeams.J0 a0 a1 a2 true)) := by
  refine Lim.eq (g := fun k => impl_BroadSeams.f k a0 a1 a2) ?_
  unfold impl_BroadSeams.f
  repeat' first
    | exact Lim.const _
    | with_reducible exact Lim.of (fun k => (impl_BroadSeams.mono_l k).1 _ _ _ _)
    | with_reducible refine Lim.ite ?_ ?_
    | with_reducible refine Lim.bind ?_ (fun _ => ?_)
    | exact Lim.of (fun k => (impl_BroadSeams.mono_l k).1 _ _ _ _)

noncomputable def spec_BroadSeams.J0 (x0 : Int) (x1 : Int) (x2 : Int) (x25 : Bool) : Option (List Int × Int) := lim (fun k => spec_BroadSeams.j0 k x0 x1 x2 x25)
noncomputable def spec_BroadSeams.L0 (x0 : Int) (x2 : Int) (x8 : Int) (x9 : Int) (x10 : List Int) (x11 : Int) : Option (List Int × Int) := lim (fun k => spec_BroadSeams.l0 k x0 x2 x8 x9 x10 x11)
noncomputable def spec_BroadSeams.J2 (x0 : Int) (x2 : Int) (x8 : Int) (x9 : Int) (x10 : List Int) (x11 : Int) (x12 : Int) (x54 : Bool) : Option (List Int × Int) := lim (fun k => spec_BroadSeams.j2 k x0 x2 x8 x9 x10 x11 x12 x54)
noncomputable def spec_BroadSeams.F (a0 : Int) (a1 : Int) (a2 : Int) : Option (List Int × Int) := lim (fun k => spec_BroadSeams.f k a0 a1 a2)
theorem spec_BroadSeams.J0_eq (x0 : Int) (x1 : Int) (x2 : Int) (x25 : Bool) : spec_BroadSeams.J0 x0 x1 x2 x25 = if x25 = true then (some (([] : List Int), 2)) else (if x0 = 0 then (none) else (spec_BroadSeams.L0 x0 x2 (wrap64 (Int.tdiv x1 x0)) (Int.tmod x1 x0) (([] : List Int)) 0)) := by
  refine Lim.step (f := fun k => if x25 = true then (some (([] : List Int), 2)) else (if x0 = 0 then (none) else (spec_BroadSeams.l0 k x0 x2 (wrap64 (Int.tdiv x1 x0)) (Int.tmod x1 x0) (([] : List Int)) 0))) (fun k => (spec_BroadSeams.mono_l k).1 x0 x1 x2 x25) (fun k => by simp only [spec_BroadSeams.j0]) ?_
  repeat' first
    | exact Lim.const _
    | with_reducible exact Lim.of (fun k => (spec_BroadSeams.mono_l k).2.1 _ _ _ _ _ _)
    | with_reducible refine Lim.ite ?_ ?_
    | with_reducible refine Lim.bind ?_ (fun _ => ?_)
    | exact Lim.of (fun k => (spec_BroadSeams.mono_l k).2.1 _ _ _ _ _ _)
theorem spec_BroadSeams.L0_eq (x0 : Int) (x2 : Int) (x8 : Int) (x9 : Int) (x10 : List Int) (x11 : Int) : spec_BroadSeams.L0 x0 x2 x8 x9 x10 x11 = if x11 < x0 then (if x11 ≥ (wrap64 (Int.tdiv (wrap64 (x0 - x9)) 2)) then (spec_BroadSeams.J2 x0 x2 x8 x9 x10 x11 x8 (decide (x11 < (wrap64 ((wrap64 (Int.tdiv (wrap64 (x0 - x9)) 2)) + x9))))) else (spec_BroadSeams.J2 x0 x2 x8 x9 x10 x11 x8 false)) else (some (x10, 0)) := by
  refine Lim.step (f := fun k => if x11 < x0 then (if x11 ≥ (wrap64 (Int.tdiv (wrap64 (x0 - x9)) 2)) then (spec_BroadSeams.j2 k x0 x2 x8 x9 x10 x11 x8 (decide (x11 < (wrap64 ((wrap64 (Int.tdiv (wrap64 (x0 - x9)) 2)) + x9))))) else (spec_BroadSeams.j2 k x0 x2 x8 x9 x10 x11 x8 false)) else (some (x10, 0))) (fun k => (spec_BroadSeams.mono_l k).2.1 x0 x2 x8 x9 x10 x11) (fun k => by simp only [spec_BroadSeams.l0]) ?_
  repeat' first
    | exact Lim.const _
    | with_reducible exact Lim.of (fun k => (spec_BroadSeams.mono_l k).2.2 _ _ _ _ _ _ _ _)
    | with_reducible refine Lim.ite ?_ ?_
    | with_reducible refine Lim.bind ?_ (fun _ => ?_)
    | exact Lim.of (fun k => (spec_BroadSeams.mono_l k).2.2 _ _ _ _ _ _ _ _)
theorem spec_BroadSeams.J2_eq (x0 : Int) (x2 : Int) (x8 : Int) (x9 : Int) (x10 : List Int) (x11 : Int) (x12 : Int) (x54 : Bool) : spec_BroadSeams.J2 x0 x2 x8 x9 x10 x11 x12 x54 = if x54 = true then (if (wrap64 (x12 + 1)) > 30 then (some (([] : List Int), 5)) else (if (wrap64 (x12 + 1)) > x2 then (some (([] : List Int), 5)) else (if x10.length < 17592186044416 then (spec_BroadSeams.L0 x0 x2 x8 x9 (x10 ++ [wrap64 (x12 + 1)]) (wrap64 (x11 + 1))) else (none)))) else (if x12 > 30 then (some (([] : List Int), 5)) else (if x12 > x2 then (some (([] : List Int), 5)) else (if x10.length < 17592186044416 then (spec_BroadSeams.L0 x0 x2 x8 x9 (x10 ++ [x12]) (wrap64 (x11 + 1))) else (none)))) := by
  refine Lim.step (f := fun k => if x54 = true then (if (wrap64 (x12 + 1)) > 30 then (some (([] : List Int), 5)) else (if (wrap64 (x12 + 1)) > x2 then (some (([] : List Int), 5)) else (if x10.length < 17592186044416 then (spec_BroadSeams.l0 k x0 x2 x8 x9 (x10 ++ [wrap64 (x12 + 1)]) (wrap64 (x11 + 1))) else (none)))) else (if x12 > 30 then (some (([] : List Int), 5)) else (if x12 > x2 then (some (([] : List Int), 5)) else (if x10.length < 17592186044416 then (spec_BroadSeams.l0 k x0 x2 x8 x9 (x10 ++ [x12]) (wrap64 (x11 + 1))) else (none))))) (fun k => (spec_BroadSeams.mono_l k).2.2 x0 x2 x8 x9 x10 x11 x12 x54) (fun k => by simp only [spec_BroadSeams.j2]) ?_
  repeat' first
    | exact Lim.const _
    | with_reducible exact Lim.of (fun k => (spec_BroadSeams.mono_l k).2.1 _ _ _ _ _ _)
    | with_reducible refine Lim.ite ?_ ?_
    | with_reducible refine Lim.bind ?_ (fun _ => ?_)
    | exact Lim.of (fun k => (spec_BroadSeams.mono_l k).2.1 _ _ _ _ _ _)
theorem spec_BroadSeams.F_eq (a0 : Int) (a1 : Int) (a2 : Int) : spec_BroadSeams.F a0 a1 a2 = (spec_l00In.f a0 1 40).bind fun t165 => (if t165 = true then ((spec_l00In.f a1 0 1000).bind fun t166 => (if t166 = true then ((spec_l00In.f a2 1 10000).bind fun t167 => (spec_BroadSeams.J0 a0 a1 a2 (!t167))) else (spec_BroadSeams.J0 a0 a1 a2 true))) else (spec_BroadSeams.J0 a0 a1 a2 true)) := by
  refine Lim.eq (g := fun k => spec_BroadSeams.f k a0 a1 a2) ?_
  unfold spec_BroadSeams.f
  repeat' first
    | exact Lim.const _
    | with_reducible exact Lim.of (fun k => (spec_BroadSeams.mono_l k).1 _ _ _ _)
    | with_reducible refine Lim.ite ?_ ?_
    | with_reducible refine Lim.bind ?_ (fun _ => ?_)
    | exact Lim.of (fun k => (spec_BroadSeams.mono_l k).1 _ _ _ _)

noncomputable def spec_DrawDepthOf.J0 (x4 : List Int) (x5 : Int) (x184000 : List Int) (x184001 : Int) (x184002 : Int) : Option (List Int) := lim (fun k => spec_DrawDepthOf.j0 k x4 x5 x184000 x184001 x184002)
noncomputable def spec_DrawDepthOf.L0 (x4 : List Int) (x5 : Int) (x6 : Int) (x184000 : List Int) (x184001 : Int) (x184002 : Int) : Option (List Int) := lim (fun k => spec_DrawDepthOf.l0 k x4 x5 x6 x184000 x184001 x184002)
noncomputable def spec_DrawDepthOf.F (l0 : List Int) : Option (List Int) := lim (fun k => spec_DrawDepthOf.f k l0)
theorem spec_DrawDepthOf.J0_eq (x4 : List Int) (x5 : Int) (x184000 : List Int) (x184001 : Int) (x184002 : Int) : spec_DrawDepthOf.J0 x4 x5 x184000 x184001 x184002 = spec_DrawDepthOf.L0 x4 x5 x5 x184000 x184001 x184002 := by
  refine Lim.step (f := fun k => spec_DrawDepthOf.l0 k x4 x5 x5 x184000 x184001 x184002) (fun k => (spec_DrawDepthOf.mono_l k).1 x4 x5 x184000 x184001 x184002) (fun k => by simp only [spec_DrawDepthOf.j0]) ?_
  repeat' first
    | exact Lim.const _
    | with_reducible exact Lim.of (fun k => (spec_DrawDepthOf.mono_l k).2 _ _ _ _ _ _)
    | with_reducible refine Lim.ite ?_ ?_
    | with_reducible refine Lim.bind ?_ (fun _ => ?_)
    | exact Lim.of (fun k => (spec_DrawDepthOf.mono_l k).2 _ _ _ _ _ _)
theorem spec_DrawDepthOf.L0_eq (x4 : List Int) (x5 : Int) (x6 : Int) (x184000 : List Int) (x184001 : Int) (x184002 : Int) : spec_DrawDepthOf.L0 x4 x5 x6 x184000 x184001 x184002 = if x6 > 0 then ((spec_l00Src_pick.f x184000 x184001 x184002 20).bind fun bt196 => (if x4.length < 17592186044416 then (spec_DrawDepthOf.L0 (x4 ++ [bt196.1]) x5 (wrap64 (x6 - 1)) x184000 bt196.2.1 bt196.2.2) else (none))) else (if x5 > 0 then ((spec_l00Src_one.f x184000 x184001 x184002 12).bind fun bt202 => (if bt202.1 = true then ((spec_l00Src_among.f x184000 bt202.2.1 bt202.2.2 (([(-1), 0, 30, 31] : List Int))).bind fun bt208 => (if 0 < (x4.length : Int) then (some (x4.set (0 : Int).toNat bt208.1)) else (none))) else (some x4))) else (some x4)) := by
  refine Lim.step (f := fun k => if x6 > 0 then ((spec_l00Src_pick.f x184000 x184001 x184002 20).bind fun bt196 => (if x4.length < 17592186044416 then (spec_DrawDepthOf.l0 k (x4 ++ [bt196.1]) x5 (wrap64 (x6 - 1)) x184000 bt196.2.1 bt196.2.2) else (none))) else (if x5 > 0 then ((spec_l00Src_one.f x184000 x184001 x184002 12).bind fun bt202 => (if bt202.1 = true then ((spec_l00Src_among.f x184000 bt202.2.1 bt202.2.2 (([(-1), 0, 30, 31] : List Int))).bind fun bt208 => (if 0 < (x4.length : Int) then (some (x4.set (0 : Int).toNat bt208.1)) else (none))) else (some x4))) else (some x4))) (fun k => (spec_DrawDepthOf.mono_l k).2 x4 x5 x6 x184000 x184001 x184002) (fun k => by simp only [spec_DrawDepthOf.l0]) ?_
  repeat' first
    | exact Lim.const _
    | with_reducible exact Lim.of (fun k => (spec_DrawDepthOf.mono_l k).2 _ _ _ _ _ _)
    | with_reducible refine Lim.ite ?_ ?_
    | with_reducible refine Lim.bind ?_ (fun _ => ?_)
    | exact Lim.of (fun k => (spec_DrawDepthOf.mono_l k).2 _ _ _ _ _ _)
theorem spec_DrawDepthOf.F_eq (l0 : List Int) : spec_DrawDepthOf.F l0 = (spec_l00From.f l0).bind fun bt180 => ((some (([] : List Int) : List Int)).bind fun y184 => ((spec_l00Src_pick.f bt180.1 bt180.2.1 bt180.2.2 9).bind fun bt187 => ((spec_l00Src_one.f bt180.1 bt187.2.1 bt187.2.2 20).bind fun bt190 => (if bt190.1 = true then ((spec_l00Src_pick.f bt180.1 bt190.2.1 bt190.2.2 2).bind fun bt193 => (spec_DrawDepthOf.J0 y184 (wrap64 (40 + bt193.1)) bt180.1 bt193.2.1 bt193.2.2)) else (spec_DrawDepthOf.J0 y184 bt187.1 bt180.1 bt190.2.1 bt190.2.2))))) := by
  refine Lim.eq (g := fun k => spec_DrawDepthOf.f k l0) ?_
  unfold spec_DrawDepthOf.f
  repeat' first
    | exact Lim.const _
    | with_reducible exact Lim.of (fun k => (spec_DrawDepthOf.mono_l k).1 _ _ _ _ _)
    | with_reducible refine Lim.ite ?_ ?_
    | with_reducible refine Lim.bind ?_ (fun _ => ?_)
    | exact Lim.of (fun k => (spec_DrawDepthOf.mono_l k).1 _ _ _ _ _)

noncomputable def impl_DepthOf.L0 (x4 : Int) (x10 : List Int) (x11 : Int) (x12 : Int) : Option (Int × Int) := lim (fun k => impl_DepthOf.l0 k x4 x10 x11 x12)
noncomputable def impl_DepthOf.F (l0 : List Int) : Option (Int × Int) := lim (fun k => impl_DepthOf.f k l0)
theorem impl_DepthOf.L0_eq (x4 : Int) (x10 : List Int) (x11 : Int) (x12 : Int) : impl_DepthOf.L0 x4 x10 x11 x12 = if x12 < x11 then (if 0 ≤ x12 then (if x12 < (x10.length : Int) then ((impl_within.f (rd x10 x12) 0 30).bind fun t213 => (if t213 = true then (impl_DepthOf.L0 (wrap64 (x4 + (rd x10 x12))) x10 x11 (wrap64 (x12 + 1))) else (some (0, 2)))) else (none)) else (none)) else (some (x4, 0)) := by
  refine Lim.step (f := fun k => if x12 < x11 then (if 0 ≤ x12 then (if x12 < (x10.length : Int) then ((impl_within.f (rd x10 x12) 0 30).bind fun t213 => (if t213 = true then (impl_DepthOf.l0 k (wrap64 (x4 + (rd x10 x12))) x10 x11 (wrap64 (x12 + 1))) else (some (0, 2)))) else (none)) else (none)) else (some (x4, 0))) (fun k => (impl_DepthOf.mono_l k) x4 x10 x11 x12) (fun k => by simp only [impl_DepthOf.l0]) ?_
  repeat' first
    | exact Lim.const _
    | with_reducible exact Lim.of (fun k => (impl_DepthOf.mono_l k) _ _ _ _)
    | with_reducible refine Lim.ite ?_ ?_
    | with_reducible refine Lim.bind ?_ (fun _ => ?_)
    | exact Lim.of (fun k => (impl_DepthOf.mono_l k) _ _ _ _)
theorem impl_DepthOf.F_eq (l0 : List Int) : impl_DepthOf.F l0 = if (l0.length : Int) > 40 then (some (0, 2)) else (impl_DepthOf.L0 0 l0 (l0.length : Int) 0) := by
  refine Lim.eq (g := fun k => impl_DepthOf.f k l0) ?_
  unfold impl_DepthOf.f
  repeat' first
    | exact Lim.const _
    | with_reducible exact Lim.of (fun k => (impl_DepthOf.mono_l k) _ _ _ _)
    | with_reducible refine Lim.ite ?_ ?_
    | with_reducible refine Lim.bind ?_ (fun _ => ?_)
    | exact Lim.of (fun k => (impl_DepthOf.mono_l k) _ _ _ _)

noncomputable def spec_l00Sum.L0 (x0 : List Int) (x3 : Int) (x4 : Int) : Option (Int) := lim (fun k => spec_l00Sum.l0 k x0 x3 x4)
noncomputable def spec_l00Sum.F (l0 : List Int) : Option (Int) := lim (fun k => spec_l00Sum.f k l0)
theorem spec_l00Sum.L0_eq (x0 : List Int) (x3 : Int) (x4 : Int) : spec_l00Sum.L0 x0 x3 x4 = if x4 < (x0.length : Int) then (if 0 ≤ x4 then (spec_l00Sum.L0 x0 (wrap64 (x3 + (rd x0 x4))) (wrap64 (x4 + 1))) else (none)) else (some x3) := by
  refine Lim.step (f := fun k => if x4 < (x0.length : Int) then (if 0 ≤ x4 then (spec_l00Sum.l0 k x0 (wrap64 (x3 + (rd x0 x4))) (wrap64 (x4 + 1))) else (none)) else (some x3)) (fun k => (spec_l00Sum.mono_l k) x0 x3 x4) (fun k => by simp only [spec_l00Sum.l0]) ?_
  repeat' first
    | exact Lim.const _
    | with_reducible exact Lim.of (fun k => (spec_l00Sum.mono_l k) _ _ _)
    | with_reducible refine Lim.ite ?_ ?_
    | with_reducible refine Lim.bind ?_ (fun _ => ?_)
    | exact Lim.of (fun k => (spec_l00Sum.mono_l k) _ _ _)
theorem spec_l00Sum.F_eq (l0 : List Int) : spec_l00Sum.F l0 = spec_l00Sum.L0 l0 0 0 := by
  refine Lim.eq (g := fun k => spec_l00Sum.f k l0) ?_
  unfold spec_l00Sum.f
  repeat' first
    | exact Lim.const _
    | with_reducible exact Lim.of (fun k => (spec_l00Sum.mono_l k) _ _ _)
    | with_reducible refine Lim.ite ?_ ?_
    | with_reducible refine Lim.bind ?_ (fun _ => ?_)
    | exact Lim.of (fun k => (spec_l00Sum.mono_l k) _ _ _)

noncomputable def spec_DepthOf.L0 (x0 : List Int) (x4 : Int) : Option (Int × Int) := lim (fun k => spec_DepthOf.l0 k x0 x4)
noncomputable def spec_DepthOf.F (l0 : List Int) : Option (Int × Int) := lim (fun k => spec_DepthOf.f k l0)
theorem spec_DepthOf.L0_eq (x0 : List Int) (x4 : Int) : spec_DepthOf.L0 x0 x4 = if x4 < (x0.length : Int) then (if 0 ≤ x4 then ((spec_l00In.f (rd x0 x4) 0 30).bind fun t216 => (if t216 = true then (spec_DepthOf.L0 x0 (wrap64 (x4 + 1))) else (some (0, 2)))) else (none)) else (if (x0.length : Int) > 40 then (some (0, 2)) else ((spec_l00Sum.F x0).bind fun t217 => (some (t217, 0)))) := by
  refine Lim.step (f := fun k => if x4 < (x0.length : Int) then (if 0 ≤ x4 then ((spec_l00In.f (rd x0 x4) 0 30).bind fun t216 => (if t216 = true then (spec_DepthOf.l0 k x0 (wrap64 (x4 + 1))) else (some (0, 2)))) else (none)) else (if (x0.length : Int) > 40 then (some (0, 2)) else ((spec_l00Sum.f k x0).bind fun t217 => (some (t217, 0))))) (fun k => (spec_DepthOf.mono_l k) x0 x4) (fun k => by simp only [spec_DepthOf.l0]) ?_
  repeat' first
    | exact Lim.const _
    | with_reducible exact Lim.of (fun k => (spec_DepthOf.mono_l k) _ _)
    | with_reducible exact Lim.of (fun k => spec_l00Sum.mono _ k)
    | with_reducible refine Lim.ite ?_ ?_
    | with_reducible refine Lim.bind ?_ (fun _ => ?_)
    | exact Lim.of (fun k => (spec_DepthOf.mono_l k) _ _)
    | exact Lim.of (fun k => spec_l00Sum.mono _ k)
theorem spec_DepthOf.F_eq (l0 : List Int) : spec_DepthOf.F l0 = spec_DepthOf.L0 l0 0 := by
  refine Lim.eq (g := fun k => spec_DepthOf.f k l0) ?_
  unfold spec_DepthOf.f
  repeat' first
    | exact Lim.const _
    | with_reducible exact Lim.of (fun k => (spec_DepthOf.mono_l k) _ _)
    | with_reducible refine Lim.ite ?_ ?_
    | with_reducible refine Lim.bind ?_ (fun _ => ?_)
    | exact Lim.of (fun k => (spec_DepthOf.mono_l k) _ _)

noncomputable def laws_f6ints.L0 (x0 : List Int) (x1 : List Int) (x5 : Int) : Option (Bool) := lim (fun k => laws_f6ints.l0 k x0 x1 x5)
noncomputable def laws_f6ints.F (l0 : List Int) (l1 : List Int) : Option (Bool) := lim (fun k => laws_f6ints.f k l0 l1)
theorem laws_f6ints.L0_eq (x0 : List Int) (x1 : List Int) (x5 : Int) : laws_f6ints.L0 x0 x1 x5 = if x5 < (x0.length : Int) then (if 0 ≤ x5 then (if x5 < (x1.length : Int) then (if (rd x0 x5) = (rd x1 x5) then (laws_f6ints.L0 x0 x1 (wrap64 (x5 + 1))) else (some false)) else (none)) else (none)) else (some true) := by
  refine Lim.step (f := fun k => if x5 < (x0.length : Int) then (if 0 ≤ x5 then (if x5 < (x1.length : Int) then (if (rd x0 x5) = (rd x1 x5) then (laws_f6ints.l0 k x0 x1 (wrap64 (x5 + 1))) else (some false)) else (none)) else (none)) else (some true)) (fun k => (laws_f6ints.mono_l k) x0 x1 x5) (fun k => by simp only [laws_f6ints.l0]) ?_
  repeat' first
    | exact Lim.const _
    | with_reducible exact Lim.of (fun k => (laws_f6ints.mono_l k) _ _ _)
    | with_reducible refine Lim.ite ?_ ?_
    | with_reducible refine Lim.bind ?_ (fun _ => ?_)
    | exact Lim.of (fun k => (laws_f6ints.mono_l k) _ _ _)
theorem laws_f6ints.F_eq (l0 : List Int) (l1 : List Int) : laws_f6ints.F l0 l1 = if (l0.length : Int) = (l1.length : Int) then (laws_f6ints.L0 l0 l1 0) else (some false) := by
  refine Lim.eq (g := fun k => laws_f6ints.f k l0 l1) ?_
  unfold laws_f6ints.f
  repeat' first
    | exact Lim.const _
    | with_reducible exact Lim.of (fun k => (laws_f6ints.mono_l k) _ _ _)
    | with_reducible refine Lim.ite ?_ ?_
    | with_reducible refine Lim.bind ?_ (fun _ => ?_)
    | exact Lim.of (fun k => (laws_f6ints.mono_l k) _ _ _)

noncomputable def laws_f6sum.L0 (x0 : List Int) (x3 : Int) (x4 : Int) : Option (Int) := lim (fun k => laws_f6sum.l0 k x0 x3 x4)
noncomputable def laws_f6sum.F (l0 : List Int) : Option (Int) := lim (fun k => laws_f6sum.f k l0)
theorem laws_f6sum.L0_eq (x0 : List Int) (x3 : Int) (x4 : Int) : laws_f6sum.L0 x0 x3 x4 = if x4 < (x0.length : Int) then (if 0 ≤ x4 then (laws_f6sum.L0 x0 (wrap64 (x3 + (rd x0 x4))) (wrap64 (x4 + 1))) else (none)) else (some x3) := by
  refine Lim.step (f := fun k => if x4 < (x0.length : Int) then (if 0 ≤ x4 then (laws_f6sum.l0 k x0 (wrap64 (x3 + (rd x0 x4))) (wrap64 (x4 + 1))) else (none)) else (some x3)) (fun k => (laws_f6sum.mono_l k) x0 x3 x4) (fun k => by simp only [laws_f6sum.l0]) ?_
  repeat' first
    | exact Lim.const _
    | with_reducible exact Lim.of (fun k => (laws_f6sum.mono_l k) _ _ _)
    | with_reducible refine Lim.ite ?_ ?_
    | with_reducible refine Lim.bind ?_ (fun _ => ?_)
    | exact Lim.of (fun k => (laws_f6sum.mono_l k) _ _ _)
theorem laws_f6sum.F_eq (l0 : List Int) : laws_f6sum.F l0 = laws_f6sum.L0 l0 0 0 := by
  refine Lim.eq (g := fun k => laws_f6sum.f k l0) ?_
  unfold laws_f6sum.f
  repeat' first
    | exact Lim.const _
    | with_reducible exact Lim.of (fun k => (laws_f6sum.mono_l k) _ _ _)
    | with_reducible refine Lim.ite ?_ ?_
    | with_reducible refine Lim.bind ?_ (fun _ => ?_)
    | exact Lim.of (fun k => (laws_f6sum.mono_l k) _ _ _)

noncomputable def laws_FnBroadSeams.J0 (x3 : Int) (x4 : Int) (x5 : Int) (x6 : List Int) (x7 : Int) (x8 : List Int) (x10 : List Int) (x11 : Int) (x12 : Int) (x71 : Bool) : Option (Bool) := lim (fun k => laws_FnBroadSeams.j0 k x3 x4 x5 x6 x7 x8 x10 x11 x12 x71)
noncomputable def laws_FnBroadSeams.J1 (x3 : Int) (x4 : Int) (x5 : Int) (x6 : List Int) (x7 : Int) (x8 : List Int) (x79 : Bool) : Option (Bool) := lim (fun k => laws_FnBroadSeams.j1 k x3 x4 x5 x6 x7 x8 x79)
noncomputable def laws_FnBroadSeams.J2 (x5 : Int) (x8 : List Int) (x99 : Bool) : Option (Bool) := lim (fun k => laws_FnBroadSeams.j2 k x5 x8 x99)
noncomputable def laws_FnBroadSeams.L0 (x5 : Int) (x8 : List Int) (x17 : Int) : Option (Bool) := lim (fun k => laws_FnBroadSeams.l0 k x5 x8 x17)
noncomputable def laws_FnBroadSeams.L1 (x5 : Int) (x8 : List Int) (x17 : Int) (x18 : Int) : Option (Bool) := lim (fun k => laws_FnBroadSeams.l1 k x5 x8 x17 x18)
noncomputable def laws_FnBroadSeams.F (l0 : List Int) : Option (Bool) := lim (fun k => laws_FnBroadSeams.f k l0)
theorem laws_FnBroadSeams.J0_eq (x3 : Int) (x4 : Int) (x5 : Int) (x6 : List Int) (x7 : Int) (x8 : List Int) (x10 : List Int) (x11 : Int) (x12 : Int) (x71 : Bool) : laws_FnBroadSeams.J0 x3 x4 x5 x6 x7 x8 x10 x11 x12 x71 = if x71 = true then (some false) else (if x12 = 0 then ((laws_f6sum.F x10).bind fun t241 => (laws_FnBroadSeams.J1 x3 x4 x5 x6 x7 x8 (x11 != t241))) else (laws_FnBroadSeams.J1 x3 x4 x5 x6 x7 x8 false)) := by
  refine Lim.step (f := fun k => if x71 = true then (some false) else (if x12 = 0 then ((laws_f6sum.f k x10).bind fun t241 => (laws_FnBroadSeams.j1 k x3 x4 x5 x6 x7 x8 (x11 != t241))) else (laws_FnBroadSeams.j1 k x3 x4 x5 x6 x7 x8 false))) (fun k => (laws_FnBroadSeams.mono_l k).1 x3 x4 x5 x6 x7 x8 x10 x11 x12 x71) (fun k => by simp only [laws_FnBroadSeams.j0]) ?_
  repeat' first
    | exact Lim.const _
    | with_reducible exact Lim.of (fun k => (laws_FnBroadSeams.mono_l k).2.1 _ _ _ _ _ _ _)
    | with_reducible exact Lim.of (fun k => laws_f6sum.mono _ k)
    | with_reducible refine Lim.ite ?_ ?_
    | with_reducible refine Lim.bind ?_ (fun _ => ?_)
    | exact Lim.of (fun k => (laws_FnBroadSeams.mono_l k).2.1 _ _ _ _ _ _ _)
    | exact Lim.of (fun k => laws_f6sum.mono _ k)
theorem laws_FnBroadSeams.J1_eq (x3 : Int) (x4 : Int) (x5 : Int) (x6 : List Int) (x7 : Int) (x8 : List Int) (x79 : Bool) : laws_FnBroadSeams.J1 x3 x4 x5 x6 x7 x8 x79 = if x79 = true then (some false) else (if x7 = 0 then ((impl_DepthOf.F x6).bind fun bt242 => (if bt242.2 = 0 then (if bt242.1 = x4 then (laws_FnBroadSeams.J2 x5 x8 ((x8.length : Int) != x3)) else (laws_FnBroadSeams.J2 x5 x8 true)) else (laws_FnBroadSeams.J2 x5 x8 true))) else (some true)) := by
  refine Lim.step (f := fun k => if x79 = true then (some false) else (if x7 = 0 then ((impl_DepthOf.f k x6).bind fun bt242 => (if bt242.2 = 0 then (if bt242.1 = x4 then (laws_FnBroadSeams.j2 k x5 x8 ((x8.length : Int) != x3)) else (laws_FnBroadSeams.j2 k x5 x8 true)) else (laws_FnBroadSeams.j2 k x5 x8 true))) else (some true))) (fun k => (laws_FnBroadSeams.mono_l k).2.1 x3 x4 x5 x6 x7 x8 x79) (fun k => by simp only [laws_FnBroadSeams.j1]) ?_
  repeat' first
    | exact Lim.const _
    | with_reducible exact Lim.of (fun k => impl_DepthOf.mono _ k)
    | with_reducible exact Lim.of (fun k => (laws_FnBroadSeams.mono_l k).2.2.1 _ _ _)
    | with_reducible refine Lim.ite ?_ ?_
    | with_reducible refine Lim.bind ?_ (fun _ => ?_)
    | exact Lim.of (fun k => impl_DepthOf.mono _ k)
    | exact Lim.of (fun k => (laws_FnBroadSeams.mono_l k).2.2.1 _ _ _)
theorem laws_FnBroadSeams.J2_eq (x5 : Int) (x8 : List Int) (x99 : Bool) : laws_FnBroadSeams.J2 x5 x8 x99 = if x99 = true then (some false) else (laws_FnBroadSeams.L0 x5 x8 0) := by
  refine Lim.step (f := fun k => if x99 = true then (some false) else (laws_FnBroadSeams.l0 k x5 x8 0)) (fun k => (laws_FnBroadSeams.mono_l k).2.2.1 x5 x8 x99) (fun k => by simp only [laws_FnBroadSeams.j2]) ?_
  repeat' first
    | exact Lim.const _
    | with_reducible exact Lim.of (fun k => (laws_FnBroadSeams.mono_l k).2.2.2.1 _ _ _)
    | with_reducible refine Lim.ite ?_ ?_
    | with_reducible refine Lim.bind ?_ (fun _ => ?_)
    | exact Lim.of (fun k => (laws_FnBroadSeams.mono_l k).2.2.2.1 _ _ _)
theorem laws_FnBroadSeams.L0_eq (x5 : Int) (x8 : List Int) (x17 : Int) : laws_FnBroadSeams.L0 x5 x8 x17 = if x17 < (x8.length : Int) then (laws_FnBroadSeams.L1 x5 x8 x17 0) else (some true) := by
  refine Lim.step (f := fun k => if x17 < (x8.length : Int) then (laws_FnBroadSeams.l1 k x5 x8 x17 0) else (some true)) (fun k => (laws_FnBroadSeams.mono_l k).2.2.2.1 x5 x8 x17) (fun k => by simp only [laws_FnBroadSeams.l0]) ?_
  repeat' first
    | exact Lim.const _
    | with_reducible exact Lim.of (fun k => (laws_FnBroadSeams.mono_l k).2.2.2.2 _ _ _ _)
    | with_reducible refine Lim.ite ?_ ?_
    | with_reducible refine Lim.bind ?_ (fun _ => ?_)
    | exact Lim.of (fun k => (laws_FnBroadSeams.mono_l k).2.2.2.2 _ _ _ _)
theorem laws_FnBroadSeams.L1_eq (x5 : Int) (x8 : List Int) (x17 : Int) (x18 : Int) : laws_FnBroadSeams.L1 x5 x8 x17 x18 = if x18 < (x8.length : Int) then (if 0 ≤ x17 then (if x17 < (x8.length : Int) then (if 0 ≤ x18 then (if (rd x8 x17) > (wrap64 ((rd x8 x18) + 1)) then (some false) else (laws_FnBroadSeams.L1 x5 x8 x17 (wrap64 (x18 + 1)))) else (none)) else (none)) else (none)) else (if 0 ≤ x17 then (if x17 < (x8.length : Int) then (if (rd x8 x17) < 0 then (some false) else (if (rd x8 x17) > x5 then (some false) else (laws_FnBroadSeams.L0 x5 x8 (wrap64 (x17 + 1))))) else (none)) else (none)) := by
  refine Lim.step (f := fun k => if x18 < (x8.length : Int) then (if 0 ≤ x17 then (if x17 < (x8.length : Int) then (if 0 ≤ x18 then (if (rd x8 x17) > (wrap64 ((rd x8 x18) + 1)) then (some false) else (laws_FnBroadSeams.l1 k x5 x8 x17 (wrap64 (x18 + 1)))) else (none)) else (none)) else (none)) else (if 0 ≤ x17 then (if x17 < (x8.length : Int) then (if (rd x8 x17) < 0 then (some false) else (if (rd x8 x17) > x5 then (some false) else (laws_FnBroadSeams.l0 k x5 x8 (wrap64 (x17 + 1))))) else (none)) else (none))) (fun k => (laws_FnBroadSeams.mono_l k).2.2.2.2 x5 x8 x17 x18) (fun k => by simp only [laws_FnBroadSeams.l1]) ?_
  repeat' first
    | exact Lim.const _
    | with_reducible exact Lim.of (fun k => (laws_FnBroadSeams.mono_l k).2.2.2.1 _ _ _)
    | with_reducible exact Lim.of (fun k => (laws_FnBroadSeams.mono_l k).2.2.2.2 _ _ _ _)
    | with_reducible refine Lim.ite ?_ ?_
    | with_reducible refine Lim.bind ?_ (fun _ => ?_)
    | exact Lim.of (fun k => (laws_FnBroadSeams.mono_l k).2.2.2.1 _ _ _)
    | exact Lim.of (fun k => (laws_FnBroadSeams.mono_l k).2.2.2.2 _ _ _ _)
theorem laws_FnBroadSeams.F_eq (l0 : List Int) : laws_FnBroadSeams.F l0 = (laws_f6big.f l0).bind fun t221 => (if t221 = true then (some true) else ((spec_DrawBroadSeams.f l0).bind fun bt222 => ((impl_BroadSeams.F bt222.1 bt222.2.1 bt222.2.2).bind fun bt225 => ((spec_BroadSeams.F bt222.1 bt222.2.1 bt222.2.2).bind fun bt229 => ((spec_DrawDepthOf.F l0).bind fun t233 => ((impl_DepthOf.F t233).bind fun bt236 => ((spec_DepthOf.F t233).bind fun bt238 => (if bt225.2 = bt229.2 then ((laws_f6ints.F bt225.1 bt229.1).bind fun t240 => (if t240 = true then (if bt236.2 = bt238.2 then (laws_FnBroadSeams.J0 bt222.1 bt222.2.1 bt222.2.2 bt225.1 bt225.2 bt229.1 t233 bt236.1 bt236.2 (bt236.1 != bt238.1)) else (laws_FnBroadSeams.J0 bt222.1 bt222.2.1 bt222.2.2 bt225.1 bt225.2 bt229.1 t233 bt236.1 bt236.2 true)) else (laws_FnBroadSeams.J0 bt222.1 bt222.2.1 bt222.2.2 bt225.1 bt225.2 bt229.1 t233 bt236.1 bt236.2 true))) else (laws_FnBroadSeams.J0 bt222.1 bt222.2.1 bt222.2.2 bt225.1 bt225.2 bt229.1 t233 bt236.1 bt236.2 true))))))))) := by
  refine Lim.eq (g := fun k => laws_FnBroadSeams.f k l0) ?_
  unfold laws_FnBroadSeams.f
  repeat' first
    | exact Lim.const _
    | with_reducible exact Lim.of (fun k => impl_BroadSeams.mono _ _ _ k)
    | with_reducible exact Lim.of (fun k => impl_DepthOf.mono _ k)
    | with_reducible exact Lim.of (fun k => (laws_FnBroadSeams.mono_l k).1 _ _ _ _ _ _ _ _ _ _)
    | with_reducible exact Lim.of (fun k => laws_f6ints.mono _ _ k)
    | with_reducible exact Lim.of (fun k => spec_BroadSeams.mono _ _ _ k)
    | with_reducible exact Lim.of (fun k => spec_DepthOf.mono _ k)
    | with_reducible exact Lim.of (fun k => spec_DrawDepthOf.mono _ k)
    | with_reducible refine Lim.ite ?_ ?_
    | with_reducible refine Lim.bind ?_ (fun _ => ?_)
    | exact Lim.of (fun k => impl_BroadSeams.mono _ _ _ k)
    | exact Lim.of (fun k => impl_DepthOf.mono _ k)
    | exact Lim.of (fun k => (laws_FnBroadSeams.mono_l k).1 _ _ _ _ _ _ _ _ _ _)
    | exact Lim.of (fun k => laws_f6ints.mono _ _ k)
    | exact Lim.of (fun k => spec_BroadSeams.mono _ _ _ k)
    | exact Lim.of (fun k => spec_DepthOf.mono _ k)
    | exact Lim.of (fun k => spec_DrawDepthOf.mono _ k)

end Go.Proofs.Ytobejjbnklcgpaa.PFnBroadSeams
