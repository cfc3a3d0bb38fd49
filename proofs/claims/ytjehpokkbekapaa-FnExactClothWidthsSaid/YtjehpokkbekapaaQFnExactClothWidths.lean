/-
  Written by a program of this session (wip/tools/lims.py): the printed functions without their bound on rounds.
-/
import Derived.Test.YtjehpokkbekapaaPFnExactClothWidthsx1
import Derived.Test.YtjehpokkbekapaaKit
set_option linter.unusedVariables false
set_option linter.unusedSimpArgs false
namespace Go.Proofs.Ytjehpokkbekapaa.PFnExactClothWidths
open Go.RowKit Go.Proofs.Ytjehpokkbekapaa.Kit Go.Proofs.YtjehpokkbekapaaW.PrintWords Go.Proofs.YtjehpokkbekapaaW.PrintLast Go.Proofs.YtjehpokkbekapaaW.PrintMore

noncomputable def spec_ClothWidths.J0 (x0 : Int) (x1 : Int) (x2 : Int) (x23 : Bool) : Option (Int × Int) := lim (fun k => spec_ClothWidths.j0 k x0 x1 x2 x23)
noncomputable def spec_ClothWidths.L0 (x0 : Int) (x1 : Int) (x2 : Int) (x8 : Int) : Option (Int × Int) := lim (fun k => spec_ClothWidths.l0 k x0 x1 x2 x8)
noncomputable def spec_ClothWidths.F (a0 : Int) (a1 : Int) (a2 : Int) : Option (Int × Int) := lim (fun k => spec_ClothWidths.f k a0 a1 a2)
theorem spec_ClothWidths.J0_eq (x0 : Int) (x1 : Int) (x2 : Int) (x23 : Bool) : spec_ClothWidths.J0 x0 x1 x2 x23 = if x23 = true then (some (0, 2)) else (spec_ClothWidths.L0 x0 x1 x2 1) := by
  refine Lim.step (f := fun k => if x23 = true then (some (0, 2)) else (spec_ClothWidths.l0 k x0 x1 x2 1)) (fun k => (spec_ClothWidths.mono_l k).1 x0 x1 x2 x23) (fun k => by simp only [spec_ClothWidths.j0]) ?_
  repeat' first
    | exact Lim.const _
    | with_reducible exact Lim.of (fun k => (spec_ClothWidths.mono_l k).2 _ _ _ _)
    | with_reducible refine Lim.ite ?_ ?_
    | with_reducible refine Lim.bind ?_ (fun _ => ?_)
    | exact Lim.of (fun k => (spec_ClothWidths.mono_l k).2 _ _ _ _)
theorem spec_ClothWidths.L0_eq (x0 : Int) (x1 : Int) (x2 : Int) (x8 : Int) : spec_ClothWidths.L0 x0 x1 x2 x8 = if (wrap64 ((wrap64 (x8 * x1)) - (wrap64 ((wrap64 (x8 - 1)) * x2)))) < x0 then (spec_ClothWidths.L0 x0 x1 x2 (wrap64 (x8 + 1))) else (some (x8, 0)) := by
  refine Lim.step (f := fun k => if (wrap64 ((wrap64 (x8 * x1)) - (wrap64 ((wrap64 (x8 - 1)) * x2)))) < x0 then (spec_ClothWidths.l0 k x0 x1 x2 (wrap64 (x8 + 1))) else (some (x8, 0))) (fun k => (spec_ClothWidths.mono_l k).2 x0 x1 x2 x8) (fun k => by simp only [spec_ClothWidths.l0]) ?_
  repeat' first
    | exact Lim.const _
    | with_reducible exact Lim.of (fun k => (spec_ClothWidths.mono_l k).2 _ _ _ _)
    | with_reducible refine Lim.ite ?_ ?_
    | with_reducible refine Lim.bind ?_ (fun _ => ?_)
    | exact Lim.of (fun k => (spec_ClothWidths.mono_l k).2 _ _ _ _)
theorem spec_ClothWidths.F_eq (a0 : Int) (a1 : Int) (a2 : Int) : spec_ClothWidths.F a0 a1 a2 = (spec_l00In.f a0 1 10000).bind fun t101 => (if t101 = true then ((spec_l00In.f a1 1 1000).bind fun t102 => (if t102 = true then ((spec_l00In.f a2 0 (wrap64 (a1 - 1))).bind fun t103 => (spec_ClothWidths.J0 a0 a1 a2 (!t103))) else (spec_ClothWidths.J0 a0 a1 a2 true))) else (spec_ClothWidths.J0 a0 a1 a2 true)) := by
  refine Lim.eq (g := fun k => spec_ClothWidths.f k a0 a1 a2) ?_
  unfold spec_ClothWidths.f
  repeat' first
    | exact Lim.const _
    | with_reducible exact Lim.of (fun k => (spec_ClothWidths.mono_l k).1 _ _ _ _)
    | with_reducible refine Lim.ite ?_ ?_
    | with_reducible refine Lim.bind ?_ (fun _ => ?_)
    | exact Lim.of (fun k => (spec_ClothWidths.mono_l k).1 _ _ _ _)

noncomputable def impl_ClothWidths.J0 (x0 : Int) (x1 : Int) (x2 : Int) (x23 : Bool) : Option (Int × Int) := lim (fun k => impl_ClothWidths.j0 k x0 x1 x2 x23)
noncomputable def impl_ClothWidths.L0 (x0 : Int) (x1 : Int) (x2 : Int) (x8 : Int) : Option (Int × Int) := lim (fun k => impl_ClothWidths.l0 k x0 x1 x2 x8)
noncomputable def impl_ClothWidths.F (a0 : Int) (a1 : Int) (a2 : Int) : Option (Int × Int) := lim (fun k => impl_ClothWidths.f k a0 a1 a2)
theorem impl_ClothWidths.J0_eq (x0 : Int) (x1 : Int) (x2 : Int) (x23 : Bool) : impl_ClothWidths.J0 x0 x1 x2 x23 = if x23 = true then (some (0, 2)) else (impl_ClothWidths.L0 x0 x1 x2 1) := by
  refine Lim.step (f := fun k => if x23 = true then (some (0, 2)) else (impl_ClothWidths.l0 k x0 x1 x2 1)) (fun k => (impl_ClothWidths.mono_l k).1 x0 x1 x2 x23) (fun k => by simp only [impl_ClothWidths.j0]) ?_
  repeat' first
    | exact Lim.const _
    | with_reducible exact Lim.of (fun k => (impl_ClothWidths.mono_l k).2 _ _ _ _)
    | with_reducible refine Lim.ite ?_ ?_
    | with_reducible refine Lim.bind ?_ (fun _ => ?_)
    | exact Lim.of (fun k => (impl_ClothWidths.mono_l k).2 _ _ _ _)
theorem impl_ClothWidths.L0_eq (x0 : Int) (x1 : Int) (x2 : Int) (x8 : Int) : impl_ClothWidths.L0 x0 x1 x2 x8 = if (wrap64 ((wrap64 (x8 * x1)) - (wrap64 ((wrap64 (x8 - 1)) * x2)))) < x0 then (impl_ClothWidths.L0 x0 x1 x2 (wrap64 (x8 + 1))) else (some (x8, 0)) := by
  refine Lim.step (f := fun k => if (wrap64 ((wrap64 (x8 * x1)) - (wrap64 ((wrap64 (x8 - 1)) * x2)))) < x0 then (impl_ClothWidths.l0 k x0 x1 x2 (wrap64 (x8 + 1))) else (some (x8, 0))) (fun k => (impl_ClothWidths.mono_l k).2 x0 x1 x2 x8) (fun k => by simp only [impl_ClothWidths.l0]) ?_
  repeat' first
    | exact Lim.const _
    | with_reducible exact Lim.of (fun k => (impl_ClothWidths.mono_l k).2 _ _ _ _)
    | with_reducible refine Lim.ite ?_ ?_
    | with_reducible refine Lim.bind ?_ (fun _ => ?_)
    | exact Lim.of (fun k => (impl_ClothWidths.mono_l k).2 _ _ _ _)
theorem impl_ClothWidths.F_eq (a0 : Int) (a1 : Int) (a2 : Int) : impl_ClothWidths.F a0 a1 a2 = (impl_within.f a0 1 10000).bind fun t104 => (if t104 = true then ((impl_within.f a1 1 1000).bind fun t105 => (if t105 = true then ((impl_within.f a2 0 (wrap64 (a1 - 1))).bind fun t106 => (impl_ClothWidths.J0 a0 a1 a2 (!t106))) else (impl_ClothWidths.J0 a0 a1 a2 true))) else (impl_ClothWidths.J0 a0 a1 a2 true)) := by
  refine Lim.eq (g := fun k => impl_ClothWidths.f k a0 a1 a2) ?_
  unfold impl_ClothWidths.f
  repeat' first
    | exact Lim.const _
    | with_reducible exact Lim.of (fun k => (impl_ClothWidths.mono_l k).1 _ _ _ _)
    | with_reducible refine Lim.ite ?_ ?_
    | with_reducible refine Lim.bind ?_ (fun _ => ?_)
    | exact Lim.of (fun k => (impl_ClothWidths.mono_l k).1 _ _ _ _)

noncomputable def laws_FnExactClothWidths.F (a0 : Int) (a1 : Int) (a2 : Int) : Option (Bool) := lim (fun k => laws_FnExactClothWidths.f k a0 a1 a2)
theorem laws_FnExactClothWidths.F_eq (a0 : Int) (a1 : Int) (a2 : Int) : laws_FnExactClothWidths.F a0 a1 a2 = (spec_ClothWidths.F a0 a1 a2).bind fun bt107 => ((impl_ClothWidths.F a0 a1 a2).bind fun bt109 => (if bt109.1 = bt107.1 then (if bt109.2 = bt107.2 then (some true) else (some false)) else (some false))) := by
  refine Lim.eq (g := fun k => laws_FnExactClothWidths.f k a0 a1 a2) ?_
  unfold laws_FnExactClothWidths.f
  repeat' first
    | exact Lim.const _
    | with_reducible exact Lim.of (fun k => impl_ClothWidths.mono _ _ _ k)
    | with_reducible exact Lim.of (fun k => spec_ClothWidths.mono _ _ _ k)
    | with_reducible refine Lim.ite ?_ ?_
    | with_reducible refine Lim.bind ?_ (fun _ => ?_)
    | exact Lim.of (fun k => impl_ClothWidths.mono _ _ _ k)
    | exact Lim.of (fun k => spec_ClothWidths.mono _ _ _ k)

end Go.Proofs.Ytjehpokkbekapaa.PFnExactClothWidths
