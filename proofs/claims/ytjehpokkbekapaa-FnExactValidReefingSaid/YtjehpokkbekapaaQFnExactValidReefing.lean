/-
  Written by a program of this session (wip/tools/lims.py): the printed functions without their bound on rounds.
-/
import Derived.Test.YtjehpokkbekapaaPFnExactValidReefingx1
import Derived.Test.YtjehpokkbekapaaPFnExactValidReefingx2
import Derived.Test.YtjehpokkbekapaaPFnExactValidReefingx3
import Derived.Test.YtjehpokkbekapaaPFnExactValidReefingx4
import Derived.Test.YtjehpokkbekapaaKit
set_option linter.unusedVariables false
set_option linter.unusedSimpArgs false
namespace Go.Proofs.Ytjehpokkbekapaa.PFnExactValidReefing
open Go.RowKit Go.Proofs.Ytjehpokkbekapaa.Kit Go.Proofs.YtjehpokkbekapaaW.PrintWords Go.Proofs.YtjehpokkbekapaaW.PrintLast Go.Proofs.YtjehpokkbekapaaW.PrintMore

noncomputable def spec_l00Rises.L0 (x0 : List Int) (x1 : Int) (x2 : Int) (x7 : Int) : Option (Bool) := lim (fun k => spec_l00Rises.l0 k x0 x1 x2 x7)
noncomputable def spec_l00Rises.F (l0 : List Int) (a1 : Int) (a2 : Int) : Option (Bool) := lim (fun k => spec_l00Rises.f k l0 a1 a2)
theorem spec_l00Rises.L0_eq (x0 : List Int) (x1 : Int) (x2 : Int) (x7 : Int) : spec_l00Rises.L0 x0 x1 x2 x7 = if x7 < (x0.length : Int) then (if 0 ≤ x7 then ((spec_l00In.f (rd x0 x7) x1 x2).bind fun t105 => (if t105 = true then (if x7 > 0 then (if 0 ≤ (wrap64 (x7 - 1)) then (if (wrap64 (x7 - 1)) < (x0.length : Int) then (if (rd x0 (wrap64 (x7 - 1))) ≥ (rd x0 x7) then (some false) else (spec_l00Rises.L0 x0 x1 x2 (wrap64 (x7 + 1)))) else (none)) else (none)) else (spec_l00Rises.L0 x0 x1 x2 (wrap64 (x7 + 1)))) else (some false))) else (none)) else (some true) := by
  refine Lim.step (f := fun k => if x7 < (x0.length : Int) then (if 0 ≤ x7 then ((spec_l00In.f (rd x0 x7) x1 x2).bind fun t105 => (if t105 = true then (if x7 > 0 then (if 0 ≤ (wrap64 (x7 - 1)) then (if (wrap64 (x7 - 1)) < (x0.length : Int) then (if (rd x0 (wrap64 (x7 - 1))) ≥ (rd x0 x7) then (some false) else (spec_l00Rises.l0 k x0 x1 x2 (wrap64 (x7 + 1)))) else (none)) else (none)) else (spec_l00Rises.l0 k x0 x1 x2 (wrap64 (x7 + 1)))) else (some false))) else (none)) else (some true)) (fun k => (spec_l00Rises.mono_l k) x0 x1 x2 x7) (fun k => by simp only [spec_l00Rises.l0]) ?_
  repeat' first
    | exact Lim.const _
    | with_reducible exact Lim.of (fun k => (spec_l00Rises.mono_l k) _ _ _ _)
    | with_reducible refine Lim.ite ?_ ?_
    | with_reducible refine Lim.bind ?_ (fun _ => ?_)
    | exact Lim.of (fun k => (spec_l00Rises.mono_l k) _ _ _ _)
theorem spec_l00Rises.F_eq (l0 : List Int) (a1 : Int) (a2 : Int) : spec_l00Rises.F l0 a1 a2 = spec_l00Rises.L0 l0 a1 a2 0 := by
  refine Lim.eq (g := fun k => spec_l00Rises.f k l0 a1 a2) ?_
  unfold spec_l00Rises.f
  repeat' first
    | exact Lim.const _
    | with_reducible exact Lim.of (fun k => (spec_l00Rises.mono_l k) _ _ _ _)
    | with_reducible refine Lim.ite ?_ ?_
    | with_reducible refine Lim.bind ?_ (fun _ => ?_)
    | exact Lim.of (fun k => (spec_l00Rises.mono_l k) _ _ _ _)

noncomputable def spec_l18Ok.J0 (x0 : List (S43)) (x3 : Int) (x36 : Bool) : Option (Bool) := lim (fun k => spec_l18Ok.j0 k x0 x3 x36)
noncomputable def spec_l18Ok.L0 (x0 : List (S43)) (x3 : Int) (x4 : Int) : Option (Bool) := lim (fun k => spec_l18Ok.l0 k x0 x3 x4)
noncomputable def spec_l18Ok.F (l0 : List (S43)) : Option (Bool) := lim (fun k => spec_l18Ok.f k l0)
theorem spec_l18Ok.J0_eq (x0 : List (S43)) (x3 : Int) (x36 : Bool) : spec_l18Ok.J0 x0 x3 x36 = if x36 = true then (some false) else (spec_l18Ok.L0 x0 x3 0) := by
  refine Lim.step (f := fun k => if x36 = true then (some false) else (spec_l18Ok.l0 k x0 x3 0)) (fun k => (spec_l18Ok.mono_l k).1 x0 x3 x36) (fun k => by simp only [spec_l18Ok.j0]) ?_
  repeat' first
    | exact Lim.const _
    | with_reducible exact Lim.of (fun k => (spec_l18Ok.mono_l k).2 _ _ _)
    | with_reducible refine Lim.ite ?_ ?_
    | with_reducible refine Lim.bind ?_ (fun _ => ?_)
    | exact Lim.of (fun k => (spec_l18Ok.mono_l k).2 _ _ _)
theorem spec_l18Ok.L0_eq (x0 : List (S43)) (x3 : Int) (x4 : Int) : spec_l18Ok.L0 x0 x3 x4 = if x4 < x3 then (if 0 ≤ x4 then (if x4 < (((rd_T43 x0 0).f1).length : Int) then (if x4 < (((rd_T43 x0 0).f0).length : Int) then (if (rd ((rd_T43 x0 0).f1) x4) > (rd ((rd_T43 x0 0).f0) x4) then (some false) else (spec_l18Ok.L0 x0 x3 (wrap64 (x4 + 1)))) else (none)) else (none)) else (none)) else (some true) := by
  refine Lim.step (f := fun k => if x4 < x3 then (if 0 ≤ x4 then (if x4 < (((rd_T43 x0 0).f1).length : Int) then (if x4 < (((rd_T43 x0 0).f0).length : Int) then (if (rd ((rd_T43 x0 0).f1) x4) > (rd ((rd_T43 x0 0).f0) x4) then (some false) else (spec_l18Ok.l0 k x0 x3 (wrap64 (x4 + 1)))) else (none)) else (none)) else (none)) else (some true)) (fun k => (spec_l18Ok.mono_l k).2 x0 x3 x4) (fun k => by simp only [spec_l18Ok.l0]) ?_
  repeat' first
    | exact Lim.const _
    | with_reducible exact Lim.of (fun k => (spec_l18Ok.mono_l k).2 _ _ _)
    | with_reducible refine Lim.ite ?_ ?_
    | with_reducible refine Lim.bind ?_ (fun _ => ?_)
    | exact Lim.of (fun k => (spec_l18Ok.mono_l k).2 _ _ _)
theorem spec_l18Ok.F_eq (l0 : List (S43)) : spec_l18Ok.F l0 = if 0 < (l0.length : Int) then (if (((rd_T43 l0 0).f1).length : Int) = (((rd_T43 l0 0).f0).length : Int) then (if (((rd_T43 l0 0).f0).length : Int) > 6 then (spec_l18Ok.J0 l0 (((rd_T43 l0 0).f0).length : Int) true) else ((spec_l00Rises.F ((rd_T43 l0 0).f0) 1 600).bind fun t112 => (if t112 = true then ((spec_l00Rises.F ((rd_T43 l0 0).f1) 0 600).bind fun t114 => (spec_l18Ok.J0 l0 (((rd_T43 l0 0).f0).length : Int) (!t114))) else (spec_l18Ok.J0 l0 (((rd_T43 l0 0).f0).length : Int) true)))) else (spec_l18Ok.J0 l0 (((rd_T43 l0 0).f0).length : Int) true)) else (none) := by
  refine Lim.eq (g := fun k => spec_l18Ok.f k l0) ?_
  unfold spec_l18Ok.f
  repeat' first
    | exact Lim.const _
    | with_reducible exact Lim.of (fun k => spec_l00Rises.mono _ _ _ k)
    | with_reducible exact Lim.of (fun k => (spec_l18Ok.mono_l k).1 _ _ _)
    | with_reducible refine Lim.ite ?_ ?_
    | with_reducible refine Lim.bind ?_ (fun _ => ?_)
    | exact Lim.of (fun k => spec_l00Rises.mono _ _ _ k)
    | exact Lim.of (fun k => (spec_l18Ok.mono_l k).1 _ _ _)

noncomputable def spec_ValidReefing.F (l0_0 : List Int) (l0_1 : List Int) : Option (Bool) := lim (fun k => spec_ValidReefing.f k l0_0 l0_1)
theorem spec_ValidReefing.F_eq (l0_0 : List Int) (l0_1 : List Int) : spec_ValidReefing.F l0_0 l0_1 = (spec_l18Ok.F [(⟨l0_0, l0_1⟩ : S43)]).bind fun t121 => (some t121) := by
  refine Lim.eq (g := fun k => spec_ValidReefing.f k l0_0 l0_1) ?_
  unfold spec_ValidReefing.f
  repeat' first
    | exact Lim.const _
    | with_reducible exact Lim.of (fun k => spec_l18Ok.mono _ k)
    | with_reducible refine Lim.ite ?_ ?_
    | with_reducible refine Lim.bind ?_ (fun _ => ?_)
    | exact Lim.of (fun k => spec_l18Ok.mono _ k)

noncomputable def laws_toInt64S.L0 (x0 : List Int) (x3 : List Int) (x4 : Int) : Option (List Int) := lim (fun k => laws_toInt64S.l0 k x0 x3 x4)
noncomputable def laws_toInt64S.F (l0 : List Int) : Option (List Int) := lim (fun k => laws_toInt64S.f k l0)
theorem laws_toInt64S.L0_eq (x0 : List Int) (x3 : List Int) (x4 : Int) : laws_toInt64S.L0 x0 x3 x4 = if x4 < (x0.length : Int) then (if 0 ≤ x4 then (if x4 < (x3.length : Int) then (laws_toInt64S.L0 x0 (x3.set (x4 : Int).toNat (rd x0 x4)) (wrap64 (x4 + 1))) else (none)) else (none)) else (some x3) := by
  refine Lim.step (f := fun k => if x4 < (x0.length : Int) then (if 0 ≤ x4 then (if x4 < (x3.length : Int) then (laws_toInt64S.l0 k x0 (x3.set (x4 : Int).toNat (rd x0 x4)) (wrap64 (x4 + 1))) else (none)) else (none)) else (some x3)) (fun k => (laws_toInt64S.mono_l k) x0 x3 x4) (fun k => by simp only [laws_toInt64S.l0]) ?_
  repeat' first
    | exact Lim.const _
    | with_reducible exact Lim.of (fun k => (laws_toInt64S.mono_l k) _ _ _)
    | with_reducible refine Lim.ite ?_ ?_
    | with_reducible refine Lim.bind ?_ (fun _ => ?_)
    | exact Lim.of (fun k => (laws_toInt64S.mono_l k) _ _ _)
theorem laws_toInt64S.F_eq (l0 : List Int) : laws_toInt64S.F l0 = if 0 ≤ (l0.length : Int) then (if ((l0.length : Int) : Int).toNat ≤ 35184372088832 then (laws_toInt64S.L0 l0 (List.replicate ((l0.length : Int) : Int).toNat 0) 0) else (none)) else (none) := by
  refine Lim.eq (g := fun k => laws_toInt64S.f k l0) ?_
  unfold laws_toInt64S.f
  repeat' first
    | exact Lim.const _
    | with_reducible exact Lim.of (fun k => (laws_toInt64S.mono_l k) _ _ _)
    | with_reducible refine Lim.ite ?_ ?_
    | with_reducible refine Lim.bind ?_ (fun _ => ?_)
    | exact Lim.of (fun k => (laws_toInt64S.mono_l k) _ _ _)

noncomputable def laws_toReefing.F (l0_0 : List Int) (l0_1 : List Int) : Option (List Int × List Int) := lim (fun k => laws_toReefing.f k l0_0 l0_1)
theorem laws_toReefing.F_eq (l0_0 : List Int) (l0_1 : List Int) : laws_toReefing.F l0_0 l0_1 = (laws_toInt64S.F l0_0).bind fun t130 => ((laws_toInt64S.F l0_1).bind fun t133 => (some (t130, t133))) := by
  refine Lim.eq (g := fun k => laws_toReefing.f k l0_0 l0_1) ?_
  unfold laws_toReefing.f
  repeat' first
    | exact Lim.const _
    | with_reducible exact Lim.of (fun k => laws_toInt64S.mono _ k)
    | with_reducible refine Lim.ite ?_ ?_
    | with_reducible refine Lim.bind ?_ (fun _ => ?_)
    | exact Lim.of (fun k => laws_toInt64S.mono _ k)

noncomputable def impl_ValidReefing.J0 (x17 : Bool) (x137000 : List Int) (x137001 : List Int) : Option (Bool) := lim (fun k => impl_ValidReefing.j0 k x17 x137000 x137001)
noncomputable def impl_ValidReefing.L0 (x19 : List Int) (x20 : Int) (x21 : Int) (x137000 : List Int) (x137001 : List Int) : Option (Bool) := lim (fun k => impl_ValidReefing.l0 k x19 x20 x21 x137000 x137001)
noncomputable def impl_ValidReefing.F (l0_0 : List Int) (l0_1 : List Int) : Option (Bool) := lim (fun k => impl_ValidReefing.f k l0_0 l0_1)
theorem impl_ValidReefing.J0_eq (x17 : Bool) (x137000 : List Int) (x137001 : List Int) : impl_ValidReefing.J0 x17 x137000 x137001 = if x17 = true then (some false) else (impl_ValidReefing.L0 x137000 (x137000.length : Int) 0 x137000 x137001) := by
  refine Lim.step (f := fun k => if x17 = true then (some false) else (impl_ValidReefing.l0 k x137000 (x137000.length : Int) 0 x137000 x137001)) (fun k => (impl_ValidReefing.mono_l k).1 x17 x137000 x137001) (fun k => by simp only [impl_ValidReefing.j0]) ?_
  repeat' first
    | exact Lim.const _
    | with_reducible exact Lim.of (fun k => (impl_ValidReefing.mono_l k).2 _ _ _ _ _)
    | with_reducible refine Lim.ite ?_ ?_
    | with_reducible refine Lim.bind ?_ (fun _ => ?_)
    | exact Lim.of (fun k => (impl_ValidReefing.mono_l k).2 _ _ _ _ _)
theorem impl_ValidReefing.L0_eq (x19 : List Int) (x20 : Int) (x21 : Int) (x137000 : List Int) (x137001 : List Int) : impl_ValidReefing.L0 x19 x20 x21 x137000 x137001 = if x21 < x20 then (if 0 ≤ x21 then (if x21 < (x19.length : Int) then ((impl_within.f (rd x19 x21) 1 600).bind fun t138 => (if t138 = true then (if x21 < (x137001.length : Int) then ((impl_within.f (rd x137001 x21) 0 (rd x19 x21)).bind fun t140 => (if t140 = true then (if x21 > 0 then (if 0 ≤ (wrap64 (x21 - 1)) then (if (wrap64 (x21 - 1)) < (x137000.length : Int) then (if (rd x19 x21) ≤ (rd x137000 (wrap64 (x21 - 1))) then (some false) else (if (wrap64 (x21 - 1)) < (x137001.length : Int) then (if (rd x137001 x21) ≤ (rd x137001 (wrap64 (x21 - 1))) then (some false) else (impl_ValidReefing.L0 x19 x20 (wrap64 (x21 + 1)) x137000 x137001)) else (none))) else (none)) else (none)) else (impl_ValidReefing.L0 x19 x20 (wrap64 (x21 + 1)) x137000 x137001)) else (some false))) else (none)) else (some false))) else (none)) else (none)) else (some true) := by
  refine Lim.step (f := fun k => if x21 < x20 then (if 0 ≤ x21 then (if x21 < (x19.length : Int) then ((impl_within.f (rd x19 x21) 1 600).bind fun t138 => (if t138 = true then (if x21 < (x137001.length : Int) then ((impl_within.f (rd x137001 x21) 0 (rd x19 x21)).bind fun t140 => (if t140 = true then (if x21 > 0 then (if 0 ≤ (wrap64 (x21 - 1)) then (if (wrap64 (x21 - 1)) < (x137000.length : Int) then (if (rd x19 x21) ≤ (rd x137000 (wrap64 (x21 - 1))) then (some false) else (if (wrap64 (x21 - 1)) < (x137001.length : Int) then (if (rd x137001 x21) ≤ (rd x137001 (wrap64 (x21 - 1))) then (some false) else (impl_ValidReefing.l0 k x19 x20 (wrap64 (x21 + 1)) x137000 x137001)) else (none))) else (none)) else (none)) else (impl_ValidReefing.l0 k x19 x20 (wrap64 (x21 + 1)) x137000 x137001)) else (some false))) else (none)) else (some false))) else (none)) else (none)) else (some true)) (fun k => (impl_ValidReefing.mono_l k).2 x19 x20 x21 x137000 x137001) (fun k => by simp only [impl_ValidReefing.l0]) ?_
  repeat' first
    | exact Lim.const _
    | with_reducible exact Lim.of (fun k => (impl_ValidReefing.mono_l k).2 _ _ _ _ _)
    | with_reducible refine Lim.ite ?_ ?_
    | with_reducible refine Lim.bind ?_ (fun _ => ?_)
    | exact Lim.of (fun k => (impl_ValidReefing.mono_l k).2 _ _ _ _ _)
theorem impl_ValidReefing.F_eq (l0_0 : List Int) (l0_1 : List Int) : impl_ValidReefing.F l0_0 l0_1 = if (l0_0.length : Int) > 6 then (impl_ValidReefing.J0 true l0_0 l0_1) else (impl_ValidReefing.J0 ((l0_1.length : Int) != (l0_0.length : Int)) l0_0 l0_1) := by
  refine Lim.eq (g := fun k => impl_ValidReefing.f k l0_0 l0_1) ?_
  unfold impl_ValidReefing.f
  repeat' first
    | exact Lim.const _
    | with_reducible exact Lim.of (fun k => (impl_ValidReefing.mono_l k).1 _ _ _)
    | with_reducible refine Lim.ite ?_ ?_
    | with_reducible refine Lim.bind ?_ (fun _ => ?_)
    | exact Lim.of (fun k => (impl_ValidReefing.mono_l k).1 _ _ _)

noncomputable def laws_eqInt64S.L0 (x0 : List Int) (x1 : List Int) (x5 : Int) : Option (Bool) := lim (fun k => laws_eqInt64S.l0 k x0 x1 x5)
noncomputable def laws_eqInt64S.F (l0 : List Int) (l1 : List Int) : Option (Bool) := lim (fun k => laws_eqInt64S.f k l0 l1)
theorem laws_eqInt64S.L0_eq (x0 : List Int) (x1 : List Int) (x5 : Int) : laws_eqInt64S.L0 x0 x1 x5 = if x5 < (x0.length : Int) then (if 0 ≤ x5 then (if x5 < (x1.length : Int) then (if (rd x0 x5) = (rd x1 x5) then (laws_eqInt64S.L0 x0 x1 (wrap64 (x5 + 1))) else (some false)) else (none)) else (none)) else (some true) := by
  refine Lim.step (f := fun k => if x5 < (x0.length : Int) then (if 0 ≤ x5 then (if x5 < (x1.length : Int) then (if (rd x0 x5) = (rd x1 x5) then (laws_eqInt64S.l0 k x0 x1 (wrap64 (x5 + 1))) else (some false)) else (none)) else (none)) else (some true)) (fun k => (laws_eqInt64S.mono_l k) x0 x1 x5) (fun k => by simp only [laws_eqInt64S.l0]) ?_
  repeat' first
    | exact Lim.const _
    | with_reducible exact Lim.of (fun k => (laws_eqInt64S.mono_l k) _ _ _)
    | with_reducible refine Lim.ite ?_ ?_
    | with_reducible refine Lim.bind ?_ (fun _ => ?_)
    | exact Lim.of (fun k => (laws_eqInt64S.mono_l k) _ _ _)
theorem laws_eqInt64S.F_eq (l0 : List Int) (l1 : List Int) : laws_eqInt64S.F l0 l1 = if (l0.length : Int) = (l1.length : Int) then (laws_eqInt64S.L0 l0 l1 0) else (some false) := by
  refine Lim.eq (g := fun k => laws_eqInt64S.f k l0 l1) ?_
  unfold laws_eqInt64S.f
  repeat' first
    | exact Lim.const _
    | with_reducible exact Lim.of (fun k => (laws_eqInt64S.mono_l k) _ _ _)
    | with_reducible refine Lim.ite ?_ ?_
    | with_reducible refine Lim.bind ?_ (fun _ => ?_)
    | exact Lim.of (fun k => (laws_eqInt64S.mono_l k) _ _ _)

noncomputable def laws_eqReefing.F (l0_0 : List Int) (l0_1 : List Int) (l1_0 : List Int) (l1_1 : List Int) : Option (Bool) := lim (fun k => laws_eqReefing.f k l0_0 l0_1 l1_0 l1_1)
theorem laws_eqReefing.F_eq (l0_0 : List Int) (l0_1 : List Int) (l1_0 : List Int) (l1_1 : List Int) : laws_eqReefing.F l0_0 l0_1 l1_0 l1_1 = (laws_eqInt64S.F l0_0 l1_0).bind fun t148 => (if t148 = true then ((laws_eqInt64S.F l0_1 l1_1).bind fun t149 => (if t149 = true then (some true) else (some false))) else (some false)) := by
  refine Lim.eq (g := fun k => laws_eqReefing.f k l0_0 l0_1 l1_0 l1_1) ?_
  unfold laws_eqReefing.f
  repeat' first
    | exact Lim.const _
    | with_reducible exact Lim.of (fun k => laws_eqInt64S.mono _ _ k)
    | with_reducible refine Lim.ite ?_ ?_
    | with_reducible refine Lim.bind ?_ (fun _ => ?_)
    | exact Lim.of (fun k => laws_eqInt64S.mono _ _ k)

noncomputable def laws_FnExactValidReefing.F (l0_0 : List Int) (l0_1 : List Int) : Option (Bool) := lim (fun k => laws_FnExactValidReefing.f k l0_0 l0_1)
theorem laws_FnExactValidReefing.F_eq (l0_0 : List Int) (l0_1 : List Int) : laws_FnExactValidReefing.F l0_0 l0_1 = (laws_szReefing.f l0_0 l0_1 1048576).bind fun t151 => (if t151 < 0 then (some true) else ((laws_toReefing.F l0_0 l0_1).bind fun bt152 => ((spec_ValidReefing.F bt152.1 bt152.2).bind fun t158 => ((laws_toReefing.F l0_0 l0_1).bind fun bt159 => ((impl_ValidReefing.F bt159.1 bt159.2).bind fun t166 => (if (t166 != t158) = true then (some false) else ((laws_toReefing.F l0_0 l0_1).bind fun bt167 => ((laws_eqReefing.F bt159.1 bt159.2 bt167.1 bt167.2).bind fun t173 => (if t173 = true then (some true) else (some false)))))))))) := by
  refine Lim.eq (g := fun k => laws_FnExactValidReefing.f k l0_0 l0_1) ?_
  unfold laws_FnExactValidReefing.f
  repeat' first
    | exact Lim.const _
    | with_reducible exact Lim.of (fun k => impl_ValidReefing.mono _ _ k)
    | with_reducible exact Lim.of (fun k => laws_eqReefing.mono _ _ _ _ k)
    | with_reducible exact Lim.of (fun k => laws_toReefing.mono _ _ k)
    | with_reducible exact Lim.of (fun k => spec_ValidReefing.mono _ _ k)
    | with_reducible refine Lim.ite ?_ ?_
    | with_reducible refine Lim.bind ?_ (fun _ => ?_)
    | exact Lim.of (fun k => impl_ValidReefing.mono _ _ k)
    | exact Lim.of (fun k => laws_eqReefing.mono _ _ _ _ k)
    | exact Lim.of (fun k => laws_toReefing.mono _ _ k)
    | exact Lim.of (fun k => spec_ValidReefing.mono _ _ k)

end Go.Proofs.Ytjehpokkbekapaa.PFnExactValidReefing
