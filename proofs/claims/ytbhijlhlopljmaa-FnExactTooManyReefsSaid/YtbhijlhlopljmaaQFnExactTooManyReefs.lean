/-
  Written by a program of this session (wip/tools/lims.py): the printed functions without their bound on rounds.
-/
import Derived.Test.YtbhijlhlopljmaaPFnExactTooManyReefsx1
import Derived.Test.YtbhijlhlopljmaaPFnExactTooManyReefsx2
import Derived.Test.YtbhijlhlopljmaaPFnExactTooManyReefsx3
import Derived.Test.YtbhijlhlopljmaaPFnExactTooManyReefsx4
import Derived.Test.YtbhijlhlopljmaaPFnExactTooManyReefsx5
import Derived.Test.YtbhijlhlopljmaaPFnExactTooManyReefsx6
import Derived.Test.YtbhijlhlopljmaaPFnExactTooManyReefsx7
import Derived.Test.YtbhijlhlopljmaaKit
set_option linter.unusedVariables false
set_option linter.unusedSimpArgs false
namespace Go.Proofs.Ytbhijlhlopljmaa.PFnExactTooManyReefs
open Go.RowKit Go.Proofs.Ytbhijlhlopljmaa.Kit Go.Proofs.YtbhijlhlopljmaaW.PrintWords Go.Proofs.YtbhijlhlopljmaaW.PrintLast Go.Proofs.YtbhijlhlopljmaaW.PrintMore

noncomputable def spec_l00Rises.L0 (x0 : List Int) (x1 : Int) (x2 : Int) (x7 : Int) : Option (Bool) := lim (fun k => spec_l00Rises.l0 k x0 x1 x2 x7)
theorem spec_l00Rises.L0_lim (x0 : List Int) (x1 : Int) (x2 : Int) (x7 : Int) : Lim (fun k => spec_l00Rises.l0 k x0 x1 x2 x7) (spec_l00Rises.L0 x0 x1 x2 x7) := Lim.of (fun k => (spec_l00Rises.mono_l k) x0 x1 x2 x7)
noncomputable def spec_l00Rises.F (l0 : List Int) (a1 : Int) (a2 : Int) : Option (Bool) := lim (fun k => spec_l00Rises.f k l0 a1 a2)
theorem spec_l00Rises.F_lim (l0 : List Int) (a1 : Int) (a2 : Int) : Lim (fun k => spec_l00Rises.f k l0 a1 a2) (spec_l00Rises.F l0 a1 a2) := Lim.of (fun k => spec_l00Rises.mono l0 a1 a2 k)
theorem spec_l00Rises.L0_eq (x0 : List Int) (x1 : Int) (x2 : Int) (x7 : Int) : spec_l00Rises.L0 x0 x1 x2 x7 = if x7 < (x0.length : Int) then (if 0 ≤ x7 then ((spec_l00In.f (rd x0 x7) x1 x2).bind fun t105 => (if t105 = true then (if x7 > 0 then (if 0 ≤ (wrap64 (x7 - 1)) then (if (wrap64 (x7 - 1)) < (x0.length : Int) then (if (rd x0 (wrap64 (x7 - 1))) ≥ (rd x0 x7) then (some false) else (spec_l00Rises.L0 x0 x1 x2 (wrap64 (x7 + 1)))) else (none)) else (none)) else (spec_l00Rises.L0 x0 x1 x2 (wrap64 (x7 + 1)))) else (some false))) else (none)) else (some true) := by
  refine Lim.step (f := fun k => if x7 < (x0.length : Int) then (if 0 ≤ x7 then ((spec_l00In.f (rd x0 x7) x1 x2).bind fun t105 => (if t105 = true then (if x7 > 0 then (if 0 ≤ (wrap64 (x7 - 1)) then (if (wrap64 (x7 - 1)) < (x0.length : Int) then (if (rd x0 (wrap64 (x7 - 1))) ≥ (rd x0 x7) then (some false) else (spec_l00Rises.l0 k x0 x1 x2 (wrap64 (x7 + 1)))) else (none)) else (none)) else (spec_l00Rises.l0 k x0 x1 x2 (wrap64 (x7 + 1)))) else (some false))) else (none)) else (some true)) (fun k => (spec_l00Rises.mono_l k) x0 x1 x2 x7) (fun k => by simp only [spec_l00Rises.l0]) ?_
  repeat' first
    | with_reducible exact Lim.const _
    | with_reducible exact spec_l00Rises.L0_lim _ _ _ _
    | with_reducible refine Lim.ite ?_ ?_
    | with_reducible refine Lim.bind ?_ (fun _ => ?_)
theorem spec_l00Rises.F_eq (l0 : List Int) (a1 : Int) (a2 : Int) : spec_l00Rises.F l0 a1 a2 = spec_l00Rises.L0 l0 a1 a2 0 := by
  refine Lim.eq (g := fun k => spec_l00Rises.f k l0 a1 a2) ?_
  unfold spec_l00Rises.f
  repeat' first
    | with_reducible exact Lim.const _
    | with_reducible exact spec_l00Rises.L0_lim _ _ _ _
    | with_reducible refine Lim.ite ?_ ?_
    | with_reducible refine Lim.bind ?_ (fun _ => ?_)

noncomputable def spec_l18Ok.J0 (x0 : List (S28)) (x3 : Int) (x36 : Bool) : Option (Bool) := lim (fun k => spec_l18Ok.j0 k x0 x3 x36)
theorem spec_l18Ok.J0_lim (x0 : List (S28)) (x3 : Int) (x36 : Bool) : Lim (fun k => spec_l18Ok.j0 k x0 x3 x36) (spec_l18Ok.J0 x0 x3 x36) := Lim.of (fun k => (spec_l18Ok.mono_l k).1 x0 x3 x36)
noncomputable def spec_l18Ok.L0 (x0 : List (S28)) (x3 : Int) (x4 : Int) : Option (Bool) := lim (fun k => spec_l18Ok.l0 k x0 x3 x4)
theorem spec_l18Ok.L0_lim (x0 : List (S28)) (x3 : Int) (x4 : Int) : Lim (fun k => spec_l18Ok.l0 k x0 x3 x4) (spec_l18Ok.L0 x0 x3 x4) := Lim.of (fun k => (spec_l18Ok.mono_l k).2 x0 x3 x4)
noncomputable def spec_l18Ok.F (l0 : List (S28)) : Option (Bool) := lim (fun k => spec_l18Ok.f k l0)
theorem spec_l18Ok.F_lim (l0 : List (S28)) : Lim (fun k => spec_l18Ok.f k l0) (spec_l18Ok.F l0) := Lim.of (fun k => spec_l18Ok.mono l0 k)
theorem spec_l18Ok.J0_eq (x0 : List (S28)) (x3 : Int) (x36 : Bool) : spec_l18Ok.J0 x0 x3 x36 = if x36 = true then (some false) else (spec_l18Ok.L0 x0 x3 0) := by
  refine Lim.step (f := fun k => if x36 = true then (some false) else (spec_l18Ok.l0 k x0 x3 0)) (fun k => (spec_l18Ok.mono_l k).1 x0 x3 x36) (fun k => by simp only [spec_l18Ok.j0]) ?_
  repeat' first
    | with_reducible exact Lim.const _
    | with_reducible exact spec_l18Ok.L0_lim _ _ _
    | with_reducible refine Lim.ite ?_ ?_
    | with_reducible refine Lim.bind ?_ (fun _ => ?_)
theorem spec_l18Ok.L0_eq (x0 : List (S28)) (x3 : Int) (x4 : Int) : spec_l18Ok.L0 x0 x3 x4 = if x4 < x3 then (if 0 ≤ x4 then (if x4 < (((rd_T28 x0 0).f1).length : Int) then (if x4 < (((rd_T28 x0 0).f0).length : Int) then (if (rd ((rd_T28 x0 0).f1) x4) > (rd ((rd_T28 x0 0).f0) x4) then (some false) else (spec_l18Ok.L0 x0 x3 (wrap64 (x4 + 1)))) else (none)) else (none)) else (none)) else (some true) := by
  refine Lim.step (f := fun k => if x4 < x3 then (if 0 ≤ x4 then (if x4 < (((rd_T28 x0 0).f1).length : Int) then (if x4 < (((rd_T28 x0 0).f0).length : Int) then (if (rd ((rd_T28 x0 0).f1) x4) > (rd ((rd_T28 x0 0).f0) x4) then (some false) else (spec_l18Ok.l0 k x0 x3 (wrap64 (x4 + 1)))) else (none)) else (none)) else (none)) else (some true)) (fun k => (spec_l18Ok.mono_l k).2 x0 x3 x4) (fun k => by simp only [spec_l18Ok.l0]) ?_
  repeat' first
    | with_reducible exact Lim.const _
    | with_reducible exact spec_l18Ok.L0_lim _ _ _
    | with_reducible refine Lim.ite ?_ ?_
    | with_reducible refine Lim.bind ?_ (fun _ => ?_)
theorem spec_l18Ok.F_eq (l0 : List (S28)) : spec_l18Ok.F l0 = if 0 < (l0.length : Int) then (if (((rd_T28 l0 0).f1).length : Int) = (((rd_T28 l0 0).f0).length : Int) then (if (((rd_T28 l0 0).f0).length : Int) > 6 then (spec_l18Ok.J0 l0 (((rd_T28 l0 0).f0).length : Int) true) else ((spec_l00Rises.F ((rd_T28 l0 0).f0) 1 600).bind fun t112 => (if t112 = true then ((spec_l00Rises.F ((rd_T28 l0 0).f1) 0 600).bind fun t114 => (spec_l18Ok.J0 l0 (((rd_T28 l0 0).f0).length : Int) (!t114))) else (spec_l18Ok.J0 l0 (((rd_T28 l0 0).f0).length : Int) true)))) else (spec_l18Ok.J0 l0 (((rd_T28 l0 0).f0).length : Int) true)) else (none) := by
  refine Lim.eq (g := fun k => spec_l18Ok.f k l0) ?_
  unfold spec_l18Ok.f
  repeat' first
    | with_reducible exact Lim.const _
    | with_reducible exact spec_l00Rises.F_lim _ _ _
    | with_reducible exact spec_l18Ok.J0_lim _ _ _
    | with_reducible refine Lim.ite ?_ ?_
    | with_reducible refine Lim.bind ?_ (fun _ => ?_)

noncomputable def spec_l18Winds.L0 (x0 : List Int) (x3 : Int) : Option (Bool) := lim (fun k => spec_l18Winds.l0 k x0 x3)
theorem spec_l18Winds.L0_lim (x0 : List Int) (x3 : Int) : Lim (fun k => spec_l18Winds.l0 k x0 x3) (spec_l18Winds.L0 x0 x3) := Lim.of (fun k => (spec_l18Winds.mono_l k) x0 x3)
noncomputable def spec_l18Winds.F (l0 : List Int) : Option (Bool) := lim (fun k => spec_l18Winds.f k l0)
theorem spec_l18Winds.F_lim (l0 : List Int) : Lim (fun k => spec_l18Winds.f k l0) (spec_l18Winds.F l0) := Lim.of (fun k => spec_l18Winds.mono l0 k)
theorem spec_l18Winds.L0_eq (x0 : List Int) (x3 : Int) : spec_l18Winds.L0 x0 x3 = if x3 < (x0.length : Int) then (if 0 ≤ x3 then ((spec_l18Wind.f (rd x0 x3)).bind fun t121 => (if t121 = true then (spec_l18Winds.L0 x0 (wrap64 (x3 + 1))) else (some false))) else (none)) else (some (decide ((x0.length : Int) ≤ 60))) := by
  refine Lim.step (f := fun k => if x3 < (x0.length : Int) then (if 0 ≤ x3 then ((spec_l18Wind.f (rd x0 x3)).bind fun t121 => (if t121 = true then (spec_l18Winds.l0 k x0 (wrap64 (x3 + 1))) else (some false))) else (none)) else (some (decide ((x0.length : Int) ≤ 60)))) (fun k => (spec_l18Winds.mono_l k) x0 x3) (fun k => by simp only [spec_l18Winds.l0]) ?_
  repeat' first
    | with_reducible exact Lim.const _
    | with_reducible exact spec_l18Winds.L0_lim _ _
    | with_reducible refine Lim.ite ?_ ?_
    | with_reducible refine Lim.bind ?_ (fun _ => ?_)
theorem spec_l18Winds.F_eq (l0 : List Int) : spec_l18Winds.F l0 = spec_l18Winds.L0 l0 0 := by
  refine Lim.eq (g := fun k => spec_l18Winds.f k l0) ?_
  unfold spec_l18Winds.f
  repeat' first
    | with_reducible exact Lim.const _
    | with_reducible exact spec_l18Winds.L0_lim _ _
    | with_reducible refine Lim.ite ?_ ?_
    | with_reducible refine Lim.bind ?_ (fun _ => ?_)

noncomputable def spec_l18Code.F (l0 : List (S28)) (a1 : Int) (l2 : List Int) : Option (Int) := lim (fun k => spec_l18Code.f k l0 a1 l2)
theorem spec_l18Code.F_lim (l0 : List (S28)) (a1 : Int) (l2 : List Int) : Lim (fun k => spec_l18Code.f k l0 a1 l2) (spec_l18Code.F l0 a1 l2) := Lim.of (fun k => spec_l18Code.mono l0 a1 l2 k)
theorem spec_l18Code.F_eq (l0 : List (S28)) (a1 : Int) (l2 : List Int) : spec_l18Code.F l0 a1 l2 = if 0 < (l0.length : Int) then ((spec_l18Ok.F l0).bind fun t123 => (if t123 = true then ((spec_l00In.f a1 0 (((rd_T28 l0 0).f0).length : Int)).bind fun t125 => (if t125 = true then ((spec_l18Winds.F l2).bind fun t126 => (if t126 = true then (some 0) else (some 2))) else (some 2))) else (some 1))) else (none) := by
  refine Lim.eq (g := fun k => spec_l18Code.f k l0 a1 l2) ?_
  unfold spec_l18Code.f
  repeat' first
    | with_reducible exact Lim.const _
    | with_reducible exact spec_l18Ok.F_lim _
    | with_reducible exact spec_l18Winds.F_lim _
    | with_reducible refine Lim.ite ?_ ?_
    | with_reducible refine Lim.bind ?_ (fun _ => ?_)

noncomputable def spec_l18Next.J1 (x0 : List (S28)) (x1 : Int) (x2 : Int) : Option (Int) := lim (fun k => spec_l18Next.j1 k x0 x1 x2)
theorem spec_l18Next.J1_lim (x0 : List (S28)) (x1 : Int) (x2 : Int) : Lim (fun k => spec_l18Next.j1 k x0 x1 x2) (spec_l18Next.J1 x0 x1 x2) := Lim.of (fun k => (spec_l18Next.mono_l k).1 x0 x1 x2)
noncomputable def spec_l18Next.L1 (x0 : List (S28)) (x1 : Int) (x2 : Int) : Option (Int) := lim (fun k => spec_l18Next.l1 k x0 x1 x2)
theorem spec_l18Next.L1_lim (x0 : List (S28)) (x1 : Int) (x2 : Int) : Lim (fun k => spec_l18Next.l1 k x0 x1 x2) (spec_l18Next.L1 x0 x1 x2) := Lim.of (fun k => (spec_l18Next.mono_l k).2.1 x0 x1 x2)
noncomputable def spec_l18Next.L0 (x0 : List (S28)) (x1 : Int) (x2 : Int) : Option (Int) := lim (fun k => spec_l18Next.l0 k x0 x1 x2)
theorem spec_l18Next.L0_lim (x0 : List (S28)) (x1 : Int) (x2 : Int) : Lim (fun k => spec_l18Next.l0 k x0 x1 x2) (spec_l18Next.L0 x0 x1 x2) := Lim.of (fun k => (spec_l18Next.mono_l k).2.2 x0 x1 x2)
noncomputable def spec_l18Next.F (l0 : List (S28)) (a1 : Int) (a2 : Int) : Option (Int) := lim (fun k => spec_l18Next.f k l0 a1 a2)
theorem spec_l18Next.F_lim (l0 : List (S28)) (a1 : Int) (a2 : Int) : Lim (fun k => spec_l18Next.f k l0 a1 a2) (spec_l18Next.F l0 a1 a2) := Lim.of (fun k => spec_l18Next.mono l0 a1 a2 k)
theorem spec_l18Next.J1_eq (x0 : List (S28)) (x1 : Int) (x2 : Int) : spec_l18Next.J1 x0 x1 x2 = spec_l18Next.L1 x0 x1 x2 := by
  refine Lim.step (f := fun k => spec_l18Next.l1 k x0 x1 x2) (fun k => (spec_l18Next.mono_l k).1 x0 x1 x2) (fun k => by simp only [spec_l18Next.j1]) ?_
  repeat' first
    | with_reducible exact Lim.const _
    | with_reducible exact spec_l18Next.L1_lim _ _ _
    | with_reducible refine Lim.ite ?_ ?_
    | with_reducible refine Lim.bind ?_ (fun _ => ?_)
theorem spec_l18Next.L1_eq (x0 : List (S28)) (x1 : Int) (x2 : Int) : spec_l18Next.L1 x0 x1 x2 = if x1 > 0 then (if 0 ≤ (wrap64 (x1 - 1)) then (if (wrap64 (x1 - 1)) < (((rd_T28 x0 0).f1).length : Int) then (if x2 < (rd ((rd_T28 x0 0).f1) (wrap64 (x1 - 1))) then (spec_l18Next.L1 x0 (wrap64 (x1 - 1)) x2) else (some x1)) else (none)) else (none)) else (some x1) := by
  refine Lim.step (f := fun k => if x1 > 0 then (if 0 ≤ (wrap64 (x1 - 1)) then (if (wrap64 (x1 - 1)) < (((rd_T28 x0 0).f1).length : Int) then (if x2 < (rd ((rd_T28 x0 0).f1) (wrap64 (x1 - 1))) then (spec_l18Next.l1 k x0 (wrap64 (x1 - 1)) x2) else (some x1)) else (none)) else (none)) else (some x1)) (fun k => (spec_l18Next.mono_l k).2.1 x0 x1 x2) (fun k => by simp only [spec_l18Next.l1]) ?_
  repeat' first
    | with_reducible exact Lim.const _
    | with_reducible exact spec_l18Next.L1_lim _ _ _
    | with_reducible refine Lim.ite ?_ ?_
    | with_reducible refine Lim.bind ?_ (fun _ => ?_)
theorem spec_l18Next.L0_eq (x0 : List (S28)) (x1 : Int) (x2 : Int) : spec_l18Next.L0 x0 x1 x2 = if x1 < (((rd_T28 x0 0).f0).length : Int) then (if 0 ≤ x1 then (if x2 ≥ (rd ((rd_T28 x0 0).f0) x1) then (spec_l18Next.L0 x0 (wrap64 (x1 + 1)) x2) else (spec_l18Next.J1 x0 x1 x2)) else (none)) else (spec_l18Next.J1 x0 x1 x2) := by
  refine Lim.step (f := fun k => if x1 < (((rd_T28 x0 0).f0).length : Int) then (if 0 ≤ x1 then (if x2 ≥ (rd ((rd_T28 x0 0).f0) x1) then (spec_l18Next.l0 k x0 (wrap64 (x1 + 1)) x2) else (spec_l18Next.j1 k x0 x1 x2)) else (none)) else (spec_l18Next.j1 k x0 x1 x2)) (fun k => (spec_l18Next.mono_l k).2.2 x0 x1 x2) (fun k => by simp only [spec_l18Next.l0]) ?_
  repeat' first
    | with_reducible exact Lim.const _
    | with_reducible exact spec_l18Next.J1_lim _ _ _
    | with_reducible exact spec_l18Next.L0_lim _ _ _
    | with_reducible refine Lim.ite ?_ ?_
    | with_reducible refine Lim.bind ?_ (fun _ => ?_)
theorem spec_l18Next.F_eq (l0 : List (S28)) (a1 : Int) (a2 : Int) : spec_l18Next.F l0 a1 a2 = if 0 < (l0.length : Int) then (spec_l18Next.L0 l0 a1 a2) else (none) := by
  refine Lim.eq (g := fun k => spec_l18Next.f k l0 a1 a2) ?_
  unfold spec_l18Next.f
  repeat' first
    | with_reducible exact Lim.const _
    | with_reducible exact spec_l18Next.L0_lim _ _ _
    | with_reducible refine Lim.ite ?_ ?_
    | with_reducible refine Lim.bind ?_ (fun _ => ?_)

noncomputable def spec_l18Run.L0 (x0 : List (S28)) (x1 : Int) (x2 : List Int) (x7 : List Int) (x8 : Int) : Option (List Int) := lim (fun k => spec_l18Run.l0 k x0 x1 x2 x7 x8)
theorem spec_l18Run.L0_lim (x0 : List (S28)) (x1 : Int) (x2 : List Int) (x7 : List Int) (x8 : Int) : Lim (fun k => spec_l18Run.l0 k x0 x1 x2 x7 x8) (spec_l18Run.L0 x0 x1 x2 x7 x8) := Lim.of (fun k => (spec_l18Run.mono_l k) x0 x1 x2 x7 x8)
noncomputable def spec_l18Run.F (l0 : List (S28)) (a1 : Int) (l2 : List Int) : Option (List Int) := lim (fun k => spec_l18Run.f k l0 a1 l2)
theorem spec_l18Run.F_lim (l0 : List (S28)) (a1 : Int) (l2 : List Int) : Lim (fun k => spec_l18Run.f k l0 a1 l2) (spec_l18Run.F l0 a1 l2) := Lim.of (fun k => spec_l18Run.mono l0 a1 l2 k)
theorem spec_l18Run.L0_eq (x0 : List (S28)) (x1 : Int) (x2 : List Int) (x7 : List Int) (x8 : Int) : spec_l18Run.L0 x0 x1 x2 x7 x8 = if x8 < (x2.length : Int) then (if 0 ≤ x8 then ((spec_l18Next.F x0 x1 (rd x2 x8)).bind fun t138 => (if x7.length < 17592186044416 then (spec_l18Run.L0 x0 t138 x2 (x7 ++ [t138]) (wrap64 (x8 + 1))) else (none))) else (none)) else (some x7) := by
  refine Lim.step (f := fun k => if x8 < (x2.length : Int) then (if 0 ≤ x8 then ((spec_l18Next.f k x0 x1 (rd x2 x8)).bind fun t138 => (if x7.length < 17592186044416 then (spec_l18Run.l0 k x0 t138 x2 (x7 ++ [t138]) (wrap64 (x8 + 1))) else (none))) else (none)) else (some x7)) (fun k => (spec_l18Run.mono_l k) x0 x1 x2 x7 x8) (fun k => by simp only [spec_l18Run.l0]) ?_
  repeat' first
    | with_reducible exact Lim.const _
    | with_reducible exact spec_l18Next.F_lim _ _ _
    | with_reducible exact spec_l18Run.L0_lim _ _ _ _ _
    | with_reducible refine Lim.ite ?_ ?_
    | with_reducible refine Lim.bind ?_ (fun _ => ?_)
theorem spec_l18Run.F_eq (l0 : List (S28)) (a1 : Int) (l2 : List Int) : spec_l18Run.F l0 a1 l2 = if 0 < (l0.length : Int) then (spec_l18Run.L0 l0 a1 l2 (([] : List Int)) 0) else (none) := by
  refine Lim.eq (g := fun k => spec_l18Run.f k l0 a1 l2) ?_
  unfold spec_l18Run.f
  repeat' first
    | with_reducible exact Lim.const _
    | with_reducible exact spec_l18Run.L0_lim _ _ _ _ _
    | with_reducible refine Lim.ite ?_ ?_
    | with_reducible refine Lim.bind ?_ (fun _ => ?_)

noncomputable def spec_l18Needs.L0 (x0 : List (S28)) (x1 : Int) (x5 : Int) (x6 : Int) : Option (Int) := lim (fun k => spec_l18Needs.l0 k x0 x1 x5 x6)
theorem spec_l18Needs.L0_lim (x0 : List (S28)) (x1 : Int) (x5 : Int) (x6 : Int) : Lim (fun k => spec_l18Needs.l0 k x0 x1 x5 x6) (spec_l18Needs.L0 x0 x1 x5 x6) := Lim.of (fun k => (spec_l18Needs.mono_l k) x0 x1 x5 x6)
noncomputable def spec_l18Needs.F (l0 : List (S28)) (a1 : Int) : Option (Int) := lim (fun k => spec_l18Needs.f k l0 a1)
theorem spec_l18Needs.F_lim (l0 : List (S28)) (a1 : Int) : Lim (fun k => spec_l18Needs.f k l0 a1) (spec_l18Needs.F l0 a1) := Lim.of (fun k => spec_l18Needs.mono l0 a1 k)
theorem spec_l18Needs.L0_eq (x0 : List (S28)) (x1 : Int) (x5 : Int) (x6 : Int) : spec_l18Needs.L0 x0 x1 x5 x6 = if x6 < (((rd_T28 x0 0).f0).length : Int) then (if 0 ≤ x6 then (if (rd ((rd_T28 x0 0).f0) x6) ≤ x1 then (spec_l18Needs.L0 x0 x1 (wrap64 (x5 + 1)) (wrap64 (x6 + 1))) else (spec_l18Needs.L0 x0 x1 x5 (wrap64 (x6 + 1)))) else (none)) else (some x5) := by
  refine Lim.step (f := fun k => if x6 < (((rd_T28 x0 0).f0).length : Int) then (if 0 ≤ x6 then (if (rd ((rd_T28 x0 0).f0) x6) ≤ x1 then (spec_l18Needs.l0 k x0 x1 (wrap64 (x5 + 1)) (wrap64 (x6 + 1))) else (spec_l18Needs.l0 k x0 x1 x5 (wrap64 (x6 + 1)))) else (none)) else (some x5)) (fun k => (spec_l18Needs.mono_l k) x0 x1 x5 x6) (fun k => by simp only [spec_l18Needs.l0]) ?_
  repeat' first
    | with_reducible exact Lim.const _
    | with_reducible exact spec_l18Needs.L0_lim _ _ _ _
    | with_reducible refine Lim.ite ?_ ?_
    | with_reducible refine Lim.bind ?_ (fun _ => ?_)
theorem spec_l18Needs.F_eq (l0 : List (S28)) (a1 : Int) : spec_l18Needs.F l0 a1 = if 0 < (l0.length : Int) then (spec_l18Needs.L0 l0 a1 0 0) else (none) := by
  refine Lim.eq (g := fun k => spec_l18Needs.f k l0 a1) ?_
  unfold spec_l18Needs.f
  repeat' first
    | with_reducible exact Lim.const _
    | with_reducible exact spec_l18Needs.L0_lim _ _ _ _
    | with_reducible refine Lim.ite ?_ ?_
    | with_reducible refine Lim.bind ?_ (fun _ => ?_)

noncomputable def spec_TooManyReefs.L0 (x2 : List Int) (x9 : List Int) (x10 : Int) (x11 : Int) (x147000 : List Int) (x147001 : List Int) : Option (Int × Int) := lim (fun k => spec_TooManyReefs.l0 k x2 x9 x10 x11 x147000 x147001)
theorem spec_TooManyReefs.L0_lim (x2 : List Int) (x9 : List Int) (x10 : Int) (x11 : Int) (x147000 : List Int) (x147001 : List Int) : Lim (fun k => spec_TooManyReefs.l0 k x2 x9 x10 x11 x147000 x147001) (spec_TooManyReefs.L0 x2 x9 x10 x11 x147000 x147001) := Lim.of (fun k => (spec_TooManyReefs.mono_l k) x2 x9 x10 x11 x147000 x147001)
noncomputable def spec_TooManyReefs.F (l0_0 : List Int) (l0_1 : List Int) (a1 : Int) (l2 : List Int) : Option (Int × Int) := lim (fun k => spec_TooManyReefs.f k l0_0 l0_1 a1 l2)
theorem spec_TooManyReefs.F_lim (l0_0 : List Int) (l0_1 : List Int) (a1 : Int) (l2 : List Int) : Lim (fun k => spec_TooManyReefs.f k l0_0 l0_1 a1 l2) (spec_TooManyReefs.F l0_0 l0_1 a1 l2) := Lim.of (fun k => spec_TooManyReefs.mono l0_0 l0_1 a1 l2 k)
theorem spec_TooManyReefs.L0_eq (x2 : List Int) (x9 : List Int) (x10 : Int) (x11 : Int) (x147000 : List Int) (x147001 : List Int) : spec_TooManyReefs.L0 x2 x9 x10 x11 x147000 x147001 = if x11 < (x9.length : Int) then (if 0 ≤ x11 then (if x11 < (x2.length : Int) then ((spec_l18Needs.F [(⟨x147000, x147001⟩ : S28)] (rd x2 x11)).bind fun t156 => (if (rd x9 x11) > t156 then (spec_TooManyReefs.L0 x2 x9 (wrap64 (x10 + 1)) (wrap64 (x11 + 1)) x147000 x147001) else (spec_TooManyReefs.L0 x2 x9 x10 (wrap64 (x11 + 1)) x147000 x147001))) else (none)) else (none)) else (some (x10, 0)) := by
  refine Lim.step (f := fun k => if x11 < (x9.length : Int) then (if 0 ≤ x11 then (if x11 < (x2.length : Int) then ((spec_l18Needs.f k [(⟨x147000, x147001⟩ : S28)] (rd x2 x11)).bind fun t156 => (if (rd x9 x11) > t156 then (spec_TooManyReefs.l0 k x2 x9 (wrap64 (x10 + 1)) (wrap64 (x11 + 1)) x147000 x147001) else (spec_TooManyReefs.l0 k x2 x9 x10 (wrap64 (x11 + 1)) x147000 x147001))) else (none)) else (none)) else (some (x10, 0))) (fun k => (spec_TooManyReefs.mono_l k) x2 x9 x10 x11 x147000 x147001) (fun k => by simp only [spec_TooManyReefs.l0]) ?_
  repeat' first
    | with_reducible exact Lim.const _
    | with_reducible exact spec_TooManyReefs.L0_lim _ _ _ _ _ _
    | with_reducible exact spec_l18Needs.F_lim _ _
    | with_reducible refine Lim.ite ?_ ?_
    | with_reducible refine Lim.bind ?_ (fun _ => ?_)
theorem spec_TooManyReefs.F_eq (l0_0 : List Int) (l0_1 : List Int) (a1 : Int) (l2 : List Int) : spec_TooManyReefs.F l0_0 l0_1 a1 l2 = (spec_l18Code.F [(⟨l0_0, l0_1⟩ : S28)] a1 l2).bind fun t148 => (if t148 = 0 then ((spec_l18Run.F [(⟨l0_0, l0_1⟩ : S28)] a1 l2).bind fun t150 => (spec_TooManyReefs.L0 l2 t150 0 0 l0_0 l0_1)) else (some (0, t148))) := by
  refine Lim.eq (g := fun k => spec_TooManyReefs.f k l0_0 l0_1 a1 l2) ?_
  unfold spec_TooManyReefs.f
  repeat' first
    | with_reducible exact Lim.const _
    | with_reducible exact spec_TooManyReefs.L0_lim _ _ _ _ _ _
    | with_reducible exact spec_l18Code.F_lim _ _ _
    | with_reducible exact spec_l18Run.F_lim _ _ _
    | with_reducible refine Lim.ite ?_ ?_
    | with_reducible refine Lim.bind ?_ (fun _ => ?_)

noncomputable def laws_toInt64S.L0 (x0 : List Int) (x3 : List Int) (x4 : Int) : Option (List Int) := lim (fun k => laws_toInt64S.l0 k x0 x3 x4)
theorem laws_toInt64S.L0_lim (x0 : List Int) (x3 : List Int) (x4 : Int) : Lim (fun k => laws_toInt64S.l0 k x0 x3 x4) (laws_toInt64S.L0 x0 x3 x4) := Lim.of (fun k => (laws_toInt64S.mono_l k) x0 x3 x4)
noncomputable def laws_toInt64S.F (l0 : List Int) : Option (List Int) := lim (fun k => laws_toInt64S.f k l0)
theorem laws_toInt64S.F_lim (l0 : List Int) : Lim (fun k => laws_toInt64S.f k l0) (laws_toInt64S.F l0) := Lim.of (fun k => laws_toInt64S.mono l0 k)
theorem laws_toInt64S.L0_eq (x0 : List Int) (x3 : List Int) (x4 : Int) : laws_toInt64S.L0 x0 x3 x4 = if x4 < (x0.length : Int) then (if 0 ≤ x4 then (if x4 < (x3.length : Int) then (laws_toInt64S.L0 x0 (x3.set (x4 : Int).toNat (rd x0 x4)) (wrap64 (x4 + 1))) else (none)) else (none)) else (some x3) := by
  refine Lim.step (f := fun k => if x4 < (x0.length : Int) then (if 0 ≤ x4 then (if x4 < (x3.length : Int) then (laws_toInt64S.l0 k x0 (x3.set (x4 : Int).toNat (rd x0 x4)) (wrap64 (x4 + 1))) else (none)) else (none)) else (some x3)) (fun k => (laws_toInt64S.mono_l k) x0 x3 x4) (fun k => by simp only [laws_toInt64S.l0]) ?_
  repeat' first
    | with_reducible exact Lim.const _
    | with_reducible exact laws_toInt64S.L0_lim _ _ _
    | with_reducible refine Lim.ite ?_ ?_
    | with_reducible refine Lim.bind ?_ (fun _ => ?_)
theorem laws_toInt64S.F_eq (l0 : List Int) : laws_toInt64S.F l0 = if 0 ≤ (l0.length : Int) then (if ((l0.length : Int) : Int).toNat ≤ 35184372088832 then (laws_toInt64S.L0 l0 (List.replicate ((l0.length : Int) : Int).toNat 0) 0) else (none)) else (none) := by
  refine Lim.eq (g := fun k => laws_toInt64S.f k l0) ?_
  unfold laws_toInt64S.f
  repeat' first
    | with_reducible exact Lim.const _
    | with_reducible exact laws_toInt64S.L0_lim _ _ _
    | with_reducible refine Lim.ite ?_ ?_
    | with_reducible refine Lim.bind ?_ (fun _ => ?_)

noncomputable def laws_toReefing.F (l0_0 : List Int) (l0_1 : List Int) : Option (List Int × List Int) := lim (fun k => laws_toReefing.f k l0_0 l0_1)
theorem laws_toReefing.F_lim (l0_0 : List Int) (l0_1 : List Int) : Lim (fun k => laws_toReefing.f k l0_0 l0_1) (laws_toReefing.F l0_0 l0_1) := Lim.of (fun k => laws_toReefing.mono l0_0 l0_1 k)
theorem laws_toReefing.F_eq (l0_0 : List Int) (l0_1 : List Int) : laws_toReefing.F l0_0 l0_1 = (laws_toInt64S.F l0_0).bind fun t165 => ((laws_toInt64S.F l0_1).bind fun t168 => (some (t165, t168))) := by
  refine Lim.eq (g := fun k => laws_toReefing.f k l0_0 l0_1) ?_
  unfold laws_toReefing.f
  repeat' first
    | with_reducible exact Lim.const _
    | with_reducible exact laws_toInt64S.F_lim _
    | with_reducible refine Lim.ite ?_ ?_
    | with_reducible refine Lim.bind ?_ (fun _ => ?_)

noncomputable def impl_ValidReefing.J0 (x17 : Bool) (x172000 : List Int) (x172001 : List Int) : Option (Bool) := lim (fun k => impl_ValidReefing.j0 k x17 x172000 x172001)
theorem impl_ValidReefing.J0_lim (x17 : Bool) (x172000 : List Int) (x172001 : List Int) : Lim (fun k => impl_ValidReefing.j0 k x17 x172000 x172001) (impl_ValidReefing.J0 x17 x172000 x172001) := Lim.of (fun k => (impl_ValidReefing.mono_l k).1 x17 x172000 x172001)
noncomputable def impl_ValidReefing.L0 (x19 : List Int) (x20 : Int) (x21 : Int) (x172000 : List Int) (x172001 : List Int) : Option (Bool) := lim (fun k => impl_ValidReefing.l0 k x19 x20 x21 x172000 x172001)
theorem impl_ValidReefing.L0_lim (x19 : List Int) (x20 : Int) (x21 : Int) (x172000 : List Int) (x172001 : List Int) : Lim (fun k => impl_ValidReefing.l0 k x19 x20 x21 x172000 x172001) (impl_ValidReefing.L0 x19 x20 x21 x172000 x172001) := Lim.of (fun k => (impl_ValidReefing.mono_l k).2 x19 x20 x21 x172000 x172001)
noncomputable def impl_ValidReefing.F (l0_0 : List Int) (l0_1 : List Int) : Option (Bool) := lim (fun k => impl_ValidReefing.f k l0_0 l0_1)
theorem impl_ValidReefing.F_lim (l0_0 : List Int) (l0_1 : List Int) : Lim (fun k => impl_ValidReefing.f k l0_0 l0_1) (impl_ValidReefing.F l0_0 l0_1) := Lim.of (fun k => impl_ValidReefing.mono l0_0 l0_1 k)
theorem impl_ValidReefing.J0_eq (x17 : Bool) (x172000 : List Int) (x172001 : List Int) : impl_ValidReefing.J0 x17 x172000 x172001 = if x17 = true then (some false) else (impl_ValidReefing.L0 x172000 (x172000.length : Int) 0 x172000 x172001) := by
  refine Lim.step (f := fun k => if x17 = true then (some false) else (impl_ValidReefing.l0 k x172000 (x172000.length : Int) 0 x172000 x172001)) (fun k => (impl_ValidReefing.mono_l k).1 x17 x172000 x172001) (fun k => by simp only [impl_ValidReefing.j0]) ?_
  repeat' first
    | with_reducible exact Lim.const _
    | with_reducible exact impl_ValidReefing.L0_lim _ _ _ _ _
    | with_reducible refine Lim.ite ?_ ?_
    | with_reducible refine Lim.bind ?_ (fun _ => ?_)
theorem impl_ValidReefing.L0_eq (x19 : List Int) (x20 : Int) (x21 : Int) (x172000 : List Int) (x172001 : List Int) : impl_ValidReefing.L0 x19 x20 x21 x172000 x172001 = if x21 < x20 then (if 0 ≤ x21 then (if x21 < (x19.length : Int) then ((impl_within.f (rd x19 x21) 1 600).bind fun t173 => (if t173 = true then (if x21 < (x172001.length : Int) then ((impl_within.f (rd x172001 x21) 0 (rd x19 x21)).bind fun t175 => (if t175 = true then (if x21 > 0 then (if 0 ≤ (wrap64 (x21 - 1)) then (if (wrap64 (x21 - 1)) < (x172000.length : Int) then (if (rd x19 x21) ≤ (rd x172000 (wrap64 (x21 - 1))) then (some false) else (if (wrap64 (x21 - 1)) < (x172001.length : Int) then (if (rd x172001 x21) ≤ (rd x172001 (wrap64 (x21 - 1))) then (some false) else (impl_ValidReefing.L0 x19 x20 (wrap64 (x21 + 1)) x172000 x172001)) else (none))) else (none)) else (none)) else (impl_ValidReefing.L0 x19 x20 (wrap64 (x21 + 1)) x172000 x172001)) else (some false))) else (none)) else (some false))) else (none)) else (none)) else (some true) := by
  refine Lim.step (f := fun k => if x21 < x20 then (if 0 ≤ x21 then (if x21 < (x19.length : Int) then ((impl_within.f (rd x19 x21) 1 600).bind fun t173 => (if t173 = true then (if x21 < (x172001.length : Int) then ((impl_within.f (rd x172001 x21) 0 (rd x19 x21)).bind fun t175 => (if t175 = true then (if x21 > 0 then (if 0 ≤ (wrap64 (x21 - 1)) then (if (wrap64 (x21 - 1)) < (x172000.length : Int) then (if (rd x19 x21) ≤ (rd x172000 (wrap64 (x21 - 1))) then (some false) else (if (wrap64 (x21 - 1)) < (x172001.length : Int) then (if (rd x172001 x21) ≤ (rd x172001 (wrap64 (x21 - 1))) then (some false) else (impl_ValidReefing.l0 k x19 x20 (wrap64 (x21 + 1)) x172000 x172001)) else (none))) else (none)) else (none)) else (impl_ValidReefing.l0 k x19 x20 (wrap64 (x21 + 1)) x172000 x172001)) else (some false))) else (none)) else (some false))) else (none)) else (none)) else (some true)) (fun k => (impl_ValidReefing.mono_l k).2 x19 x20 x21 x172000 x172001) (fun k => by simp only [impl_ValidReefing.l0]) ?_
  repeat' first
    | with_reducible exact Lim.const _
    | with_reducible exact impl_ValidReefing.L0_lim _ _ _ _ _
    | with_reducible refine Lim.ite ?_ ?_
    | with_reducible refine Lim.bind ?_ (fun _ => ?_)
theorem impl_ValidReefing.F_eq (l0_0 : List Int) (l0_1 : List Int) : impl_ValidReefing.F l0_0 l0_1 = if (l0_0.length : Int) > 6 then (impl_ValidReefing.J0 true l0_0 l0_1) else (impl_ValidReefing.J0 ((l0_1.length : Int) != (l0_0.length : Int)) l0_0 l0_1) := by
  refine Lim.eq (g := fun k => impl_ValidReefing.f k l0_0 l0_1) ?_
  unfold impl_ValidReefing.f
  repeat' first
    | with_reducible exact Lim.const _
    | with_reducible exact impl_ValidReefing.J0_lim _ _ _
    | with_reducible refine Lim.ite ?_ ?_
    | with_reducible refine Lim.bind ?_ (fun _ => ?_)

noncomputable def impl_areIn.L0 (x2 : Int) (x3 : Int) (x15 : List Int) (x16 : Int) (x17 : Int) : Option (Bool) := lim (fun k => impl_areIn.l0 k x2 x3 x15 x16 x17)
theorem impl_areIn.L0_lim (x2 : Int) (x3 : Int) (x15 : List Int) (x16 : Int) (x17 : Int) : Lim (fun k => impl_areIn.l0 k x2 x3 x15 x16 x17) (impl_areIn.L0 x2 x3 x15 x16 x17) := Lim.of (fun k => (impl_areIn.mono_l k) x2 x3 x15 x16 x17)
noncomputable def impl_areIn.F (l0 : List Int) (a1 : Int) (a2 : Int) (a3 : Int) : Option (Bool) := lim (fun k => impl_areIn.f k l0 a1 a2 a3)
theorem impl_areIn.F_lim (l0 : List Int) (a1 : Int) (a2 : Int) (a3 : Int) : Lim (fun k => impl_areIn.f k l0 a1 a2 a3) (impl_areIn.F l0 a1 a2 a3) := Lim.of (fun k => impl_areIn.mono l0 a1 a2 a3 k)
theorem impl_areIn.L0_eq (x2 : Int) (x3 : Int) (x15 : List Int) (x16 : Int) (x17 : Int) : impl_areIn.L0 x2 x3 x15 x16 x17 = if x17 < x16 then (if 0 ≤ x17 then (if x17 < (x15.length : Int) then ((impl_within.f (rd x15 x17) x2 x3).bind fun t180 => (if t180 = true then (impl_areIn.L0 x2 x3 x15 x16 (wrap64 (x17 + 1))) else (some false))) else (none)) else (none)) else (some true) := by
  refine Lim.step (f := fun k => if x17 < x16 then (if 0 ≤ x17 then (if x17 < (x15.length : Int) then ((impl_within.f (rd x15 x17) x2 x3).bind fun t180 => (if t180 = true then (impl_areIn.l0 k x2 x3 x15 x16 (wrap64 (x17 + 1))) else (some false))) else (none)) else (none)) else (some true)) (fun k => (impl_areIn.mono_l k) x2 x3 x15 x16 x17) (fun k => by simp only [impl_areIn.l0]) ?_
  repeat' first
    | with_reducible exact Lim.const _
    | with_reducible exact impl_areIn.L0_lim _ _ _ _ _
    | with_reducible refine Lim.ite ?_ ?_
    | with_reducible refine Lim.bind ?_ (fun _ => ?_)
theorem impl_areIn.F_eq (l0 : List Int) (a1 : Int) (a2 : Int) (a3 : Int) : impl_areIn.F l0 a1 a2 a3 = if (l0.length : Int) = a1 then (impl_areIn.L0 a2 a3 l0 (l0.length : Int) 0) else (some false) := by
  refine Lim.eq (g := fun k => impl_areIn.f k l0 a1 a2 a3) ?_
  unfold impl_areIn.f
  repeat' first
    | with_reducible exact Lim.const _
    | with_reducible exact impl_areIn.L0_lim _ _ _ _ _
    | with_reducible refine Lim.ite ?_ ?_
    | with_reducible refine Lim.bind ?_ (fun _ => ?_)

noncomputable def impl_reefCode.F (l0_0 : List Int) (l0_1 : List Int) (a1 : Int) (l2 : List Int) : Option (Int) := lim (fun k => impl_reefCode.f k l0_0 l0_1 a1 l2)
theorem impl_reefCode.F_lim (l0_0 : List Int) (l0_1 : List Int) (a1 : Int) (l2 : List Int) : Lim (fun k => impl_reefCode.f k l0_0 l0_1 a1 l2) (impl_reefCode.F l0_0 l0_1 a1 l2) := Lim.of (fun k => impl_reefCode.mono l0_0 l0_1 a1 l2 k)
theorem impl_reefCode.F_eq (l0_0 : List Int) (l0_1 : List Int) (a1 : Int) (l2 : List Int) : impl_reefCode.F l0_0 l0_1 a1 l2 = (impl_ValidReefing.F l0_0 l0_1).bind fun t182 => (if t182 = true then ((impl_within.f a1 0 (l0_0.length : Int)).bind fun t183 => (if t183 = true then (if (l2.length : Int) > 60 then (some 2) else ((impl_areIn.F l2 (l2.length : Int) 0 600).bind fun t184 => (if t184 = true then (some 0) else (some 2)))) else (some 2))) else (some 1)) := by
  refine Lim.eq (g := fun k => impl_reefCode.f k l0_0 l0_1 a1 l2) ?_
  unfold impl_reefCode.f
  repeat' first
    | with_reducible exact Lim.const _
    | with_reducible exact impl_ValidReefing.F_lim _ _
    | with_reducible exact impl_areIn.F_lim _ _ _ _
    | with_reducible refine Lim.ite ?_ ?_
    | with_reducible refine Lim.bind ?_ (fun _ => ?_)

noncomputable def impl_nextReef.J1 (x1 : Int) (x2 : Int) (x186000 : List Int) (x186001 : List Int) : Option (Int) := lim (fun k => impl_nextReef.j1 k x1 x2 x186000 x186001)
theorem impl_nextReef.J1_lim (x1 : Int) (x2 : Int) (x186000 : List Int) (x186001 : List Int) : Lim (fun k => impl_nextReef.j1 k x1 x2 x186000 x186001) (impl_nextReef.J1 x1 x2 x186000 x186001) := Lim.of (fun k => (impl_nextReef.mono_l k).1 x1 x2 x186000 x186001)
noncomputable def impl_nextReef.L1 (x1 : Int) (x2 : Int) (x186000 : List Int) (x186001 : List Int) : Option (Int) := lim (fun k => impl_nextReef.l1 k x1 x2 x186000 x186001)
theorem impl_nextReef.L1_lim (x1 : Int) (x2 : Int) (x186000 : List Int) (x186001 : List Int) : Lim (fun k => impl_nextReef.l1 k x1 x2 x186000 x186001) (impl_nextReef.L1 x1 x2 x186000 x186001) := Lim.of (fun k => (impl_nextReef.mono_l k).2.1 x1 x2 x186000 x186001)
noncomputable def impl_nextReef.L0 (x1 : Int) (x2 : Int) (x186000 : List Int) (x186001 : List Int) : Option (Int) := lim (fun k => impl_nextReef.l0 k x1 x2 x186000 x186001)
theorem impl_nextReef.L0_lim (x1 : Int) (x2 : Int) (x186000 : List Int) (x186001 : List Int) : Lim (fun k => impl_nextReef.l0 k x1 x2 x186000 x186001) (impl_nextReef.L0 x1 x2 x186000 x186001) := Lim.of (fun k => (impl_nextReef.mono_l k).2.2 x1 x2 x186000 x186001)
noncomputable def impl_nextReef.F (l0_0 : List Int) (l0_1 : List Int) (a1 : Int) (a2 : Int) : Option (Int) := lim (fun k => impl_nextReef.f k l0_0 l0_1 a1 a2)
theorem impl_nextReef.F_lim (l0_0 : List Int) (l0_1 : List Int) (a1 : Int) (a2 : Int) : Lim (fun k => impl_nextReef.f k l0_0 l0_1 a1 a2) (impl_nextReef.F l0_0 l0_1 a1 a2) := Lim.of (fun k => impl_nextReef.mono l0_0 l0_1 a1 a2 k)
theorem impl_nextReef.J1_eq (x1 : Int) (x2 : Int) (x186000 : List Int) (x186001 : List Int) : impl_nextReef.J1 x1 x2 x186000 x186001 = impl_nextReef.L1 x1 x2 x186000 x186001 := by
  refine Lim.step (f := fun k => impl_nextReef.l1 k x1 x2 x186000 x186001) (fun k => (impl_nextReef.mono_l k).1 x1 x2 x186000 x186001) (fun k => by simp only [impl_nextReef.j1]) ?_
  repeat' first
    | with_reducible exact Lim.const _
    | with_reducible exact impl_nextReef.L1_lim _ _ _ _
    | with_reducible refine Lim.ite ?_ ?_
    | with_reducible refine Lim.bind ?_ (fun _ => ?_)
theorem impl_nextReef.L1_eq (x1 : Int) (x2 : Int) (x186000 : List Int) (x186001 : List Int) : impl_nextReef.L1 x1 x2 x186000 x186001 = if x1 > 0 then (if 0 ≤ (wrap64 (x1 - 1)) then (if (wrap64 (x1 - 1)) < (x186001.length : Int) then (if x2 < (rd x186001 (wrap64 (x1 - 1))) then (impl_nextReef.L1 (wrap64 (x1 - 1)) x2 x186000 x186001) else (some x1)) else (none)) else (none)) else (some x1) := by
  refine Lim.step (f := fun k => if x1 > 0 then (if 0 ≤ (wrap64 (x1 - 1)) then (if (wrap64 (x1 - 1)) < (x186001.length : Int) then (if x2 < (rd x186001 (wrap64 (x1 - 1))) then (impl_nextReef.l1 k (wrap64 (x1 - 1)) x2 x186000 x186001) else (some x1)) else (none)) else (none)) else (some x1)) (fun k => (impl_nextReef.mono_l k).2.1 x1 x2 x186000 x186001) (fun k => by simp only [impl_nextReef.l1]) ?_
  repeat' first
    | with_reducible exact Lim.const _
    | with_reducible exact impl_nextReef.L1_lim _ _ _ _
    | with_reducible refine Lim.ite ?_ ?_
    | with_reducible refine Lim.bind ?_ (fun _ => ?_)
theorem impl_nextReef.L0_eq (x1 : Int) (x2 : Int) (x186000 : List Int) (x186001 : List Int) : impl_nextReef.L0 x1 x2 x186000 x186001 = if x1 < (x186000.length : Int) then (if 0 ≤ x1 then (if x2 ≥ (rd x186000 x1) then (impl_nextReef.L0 (wrap64 (x1 + 1)) x2 x186000 x186001) else (impl_nextReef.J1 x1 x2 x186000 x186001)) else (none)) else (impl_nextReef.J1 x1 x2 x186000 x186001) := by
  refine Lim.step (f := fun k => if x1 < (x186000.length : Int) then (if 0 ≤ x1 then (if x2 ≥ (rd x186000 x1) then (impl_nextReef.l0 k (wrap64 (x1 + 1)) x2 x186000 x186001) else (impl_nextReef.j1 k x1 x2 x186000 x186001)) else (none)) else (impl_nextReef.j1 k x1 x2 x186000 x186001)) (fun k => (impl_nextReef.mono_l k).2.2 x1 x2 x186000 x186001) (fun k => by simp only [impl_nextReef.l0]) ?_
  repeat' first
    | with_reducible exact Lim.const _
    | with_reducible exact impl_nextReef.J1_lim _ _ _ _
    | with_reducible exact impl_nextReef.L0_lim _ _ _ _
    | with_reducible refine Lim.ite ?_ ?_
    | with_reducible refine Lim.bind ?_ (fun _ => ?_)
theorem impl_nextReef.F_eq (l0_0 : List Int) (l0_1 : List Int) (a1 : Int) (a2 : Int) : impl_nextReef.F l0_0 l0_1 a1 a2 = impl_nextReef.L0 a1 a2 l0_0 l0_1 := by
  refine Lim.eq (g := fun k => impl_nextReef.f k l0_0 l0_1 a1 a2) ?_
  unfold impl_nextReef.f
  repeat' first
    | with_reducible exact Lim.const _
    | with_reducible exact impl_nextReef.L0_lim _ _ _ _
    | with_reducible refine Lim.ite ?_ ?_
    | with_reducible refine Lim.bind ?_ (fun _ => ?_)

noncomputable def impl_runReefs.L0 (x1 : Int) (x7 : List Int) (x11 : List Int) (x12 : Int) (x13 : Int) (x189000 : List Int) (x189001 : List Int) : Option (List Int) := lim (fun k => impl_runReefs.l0 k x1 x7 x11 x12 x13 x189000 x189001)
theorem impl_runReefs.L0_lim (x1 : Int) (x7 : List Int) (x11 : List Int) (x12 : Int) (x13 : Int) (x189000 : List Int) (x189001 : List Int) : Lim (fun k => impl_runReefs.l0 k x1 x7 x11 x12 x13 x189000 x189001) (impl_runReefs.L0 x1 x7 x11 x12 x13 x189000 x189001) := Lim.of (fun k => (impl_runReefs.mono_l k) x1 x7 x11 x12 x13 x189000 x189001)
noncomputable def impl_runReefs.F (l0_0 : List Int) (l0_1 : List Int) (a1 : Int) (l2 : List Int) : Option (List Int) := lim (fun k => impl_runReefs.f k l0_0 l0_1 a1 l2)
theorem impl_runReefs.F_lim (l0_0 : List Int) (l0_1 : List Int) (a1 : Int) (l2 : List Int) : Lim (fun k => impl_runReefs.f k l0_0 l0_1 a1 l2) (impl_runReefs.F l0_0 l0_1 a1 l2) := Lim.of (fun k => impl_runReefs.mono l0_0 l0_1 a1 l2 k)
theorem impl_runReefs.L0_eq (x1 : Int) (x7 : List Int) (x11 : List Int) (x12 : Int) (x13 : Int) (x189000 : List Int) (x189001 : List Int) : impl_runReefs.L0 x1 x7 x11 x12 x13 x189000 x189001 = if x13 < x12 then (if 0 ≤ x13 then (if x13 < (x11.length : Int) then ((impl_nextReef.F x189000 x189001 x1 (rd x11 x13)).bind fun t193 => (if x7.length < 17592186044416 then (impl_runReefs.L0 t193 (x7 ++ [t193]) x11 x12 (wrap64 (x13 + 1)) x189000 x189001) else (none))) else (none)) else (none)) else (some x7) := by
  refine Lim.step (f := fun k => if x13 < x12 then (if 0 ≤ x13 then (if x13 < (x11.length : Int) then ((impl_nextReef.f k x189000 x189001 x1 (rd x11 x13)).bind fun t193 => (if x7.length < 17592186044416 then (impl_runReefs.l0 k t193 (x7 ++ [t193]) x11 x12 (wrap64 (x13 + 1)) x189000 x189001) else (none))) else (none)) else (none)) else (some x7)) (fun k => (impl_runReefs.mono_l k) x1 x7 x11 x12 x13 x189000 x189001) (fun k => by simp only [impl_runReefs.l0]) ?_
  repeat' first
    | with_reducible exact Lim.const _
    | with_reducible exact impl_nextReef.F_lim _ _ _ _
    | with_reducible exact impl_runReefs.L0_lim _ _ _ _ _ _ _
    | with_reducible refine Lim.ite ?_ ?_
    | with_reducible refine Lim.bind ?_ (fun _ => ?_)
theorem impl_runReefs.F_eq (l0_0 : List Int) (l0_1 : List Int) (a1 : Int) (l2 : List Int) : impl_runReefs.F l0_0 l0_1 a1 l2 = impl_runReefs.L0 a1 (([] : List Int)) l2 (l2.length : Int) 0 l0_0 l0_1 := by
  refine Lim.eq (g := fun k => impl_runReefs.f k l0_0 l0_1 a1 l2) ?_
  unfold impl_runReefs.f
  repeat' first
    | with_reducible exact Lim.const _
    | with_reducible exact impl_runReefs.L0_lim _ _ _ _ _ _ _
    | with_reducible refine Lim.ite ?_ ?_
    | with_reducible refine Lim.bind ?_ (fun _ => ?_)

noncomputable def impl_neededReefs.L0 (x1 : Int) (x5 : Int) (x9 : List Int) (x10 : Int) (x11 : Int) : Option (Int) := lim (fun k => impl_neededReefs.l0 k x1 x5 x9 x10 x11)
theorem impl_neededReefs.L0_lim (x1 : Int) (x5 : Int) (x9 : List Int) (x10 : Int) (x11 : Int) : Lim (fun k => impl_neededReefs.l0 k x1 x5 x9 x10 x11) (impl_neededReefs.L0 x1 x5 x9 x10 x11) := Lim.of (fun k => (impl_neededReefs.mono_l k) x1 x5 x9 x10 x11)
noncomputable def impl_neededReefs.F (l0_0 : List Int) (l0_1 : List Int) (a1 : Int) : Option (Int) := lim (fun k => impl_neededReefs.f k l0_0 l0_1 a1)
theorem impl_neededReefs.F_lim (l0_0 : List Int) (l0_1 : List Int) (a1 : Int) : Lim (fun k => impl_neededReefs.f k l0_0 l0_1 a1) (impl_neededReefs.F l0_0 l0_1 a1) := Lim.of (fun k => impl_neededReefs.mono l0_0 l0_1 a1 k)
theorem impl_neededReefs.L0_eq (x1 : Int) (x5 : Int) (x9 : List Int) (x10 : Int) (x11 : Int) : impl_neededReefs.L0 x1 x5 x9 x10 x11 = if x11 < x10 then (if 0 ≤ x11 then (if x11 < (x9.length : Int) then (if (rd x9 x11) ≤ x1 then (impl_neededReefs.L0 x1 (wrap64 (x5 + 1)) x9 x10 (wrap64 (x11 + 1))) else (impl_neededReefs.L0 x1 x5 x9 x10 (wrap64 (x11 + 1)))) else (none)) else (none)) else (some x5) := by
  refine Lim.step (f := fun k => if x11 < x10 then (if 0 ≤ x11 then (if x11 < (x9.length : Int) then (if (rd x9 x11) ≤ x1 then (impl_neededReefs.l0 k x1 (wrap64 (x5 + 1)) x9 x10 (wrap64 (x11 + 1))) else (impl_neededReefs.l0 k x1 x5 x9 x10 (wrap64 (x11 + 1)))) else (none)) else (none)) else (some x5)) (fun k => (impl_neededReefs.mono_l k) x1 x5 x9 x10 x11) (fun k => by simp only [impl_neededReefs.l0]) ?_
  repeat' first
    | with_reducible exact Lim.const _
    | with_reducible exact impl_neededReefs.L0_lim _ _ _ _ _
    | with_reducible refine Lim.ite ?_ ?_
    | with_reducible refine Lim.bind ?_ (fun _ => ?_)
theorem impl_neededReefs.F_eq (l0_0 : List Int) (l0_1 : List Int) (a1 : Int) : impl_neededReefs.F l0_0 l0_1 a1 = impl_neededReefs.L0 a1 0 l0_0 (l0_0.length : Int) 0 := by
  refine Lim.eq (g := fun k => impl_neededReefs.f k l0_0 l0_1 a1) ?_
  unfold impl_neededReefs.f
  repeat' first
    | with_reducible exact Lim.const _
    | with_reducible exact impl_neededReefs.L0_lim _ _ _ _ _
    | with_reducible refine Lim.ite ?_ ?_
    | with_reducible refine Lim.bind ?_ (fun _ => ?_)

noncomputable def impl_TooManyReefs.L0 (x2 : List Int) (x9 : Int) (x22 : List Int) (x23 : Int) (x24 : Int) (x200000 : List Int) (x200001 : List Int) : Option (Int × Int) := lim (fun k => impl_TooManyReefs.l0 k x2 x9 x22 x23 x24 x200000 x200001)
theorem impl_TooManyReefs.L0_lim (x2 : List Int) (x9 : Int) (x22 : List Int) (x23 : Int) (x24 : Int) (x200000 : List Int) (x200001 : List Int) : Lim (fun k => impl_TooManyReefs.l0 k x2 x9 x22 x23 x24 x200000 x200001) (impl_TooManyReefs.L0 x2 x9 x22 x23 x24 x200000 x200001) := Lim.of (fun k => (impl_TooManyReefs.mono_l k) x2 x9 x22 x23 x24 x200000 x200001)
noncomputable def impl_TooManyReefs.F (l0_0 : List Int) (l0_1 : List Int) (a1 : Int) (l2 : List Int) : Option (Int × Int) := lim (fun k => impl_TooManyReefs.f k l0_0 l0_1 a1 l2)
theorem impl_TooManyReefs.F_lim (l0_0 : List Int) (l0_1 : List Int) (a1 : Int) (l2 : List Int) : Lim (fun k => impl_TooManyReefs.f k l0_0 l0_1 a1 l2) (impl_TooManyReefs.F l0_0 l0_1 a1 l2) := Lim.of (fun k => impl_TooManyReefs.mono l0_0 l0_1 a1 l2 k)
theorem impl_TooManyReefs.L0_eq (x2 : List Int) (x9 : Int) (x22 : List Int) (x23 : Int) (x24 : Int) (x200000 : List Int) (x200001 : List Int) : impl_TooManyReefs.L0 x2 x9 x22 x23 x24 x200000 x200001 = if x24 < x23 then (if 0 ≤ x24 then (if x24 < (x22.length : Int) then (if x24 < (x2.length : Int) then ((impl_neededReefs.F x200000 x200001 (rd x2 x24)).bind fun t206 => (if (rd x22 x24) > t206 then (impl_TooManyReefs.L0 x2 (wrap64 (x9 + 1)) x22 x23 (wrap64 (x24 + 1)) x200000 x200001) else (impl_TooManyReefs.L0 x2 x9 x22 x23 (wrap64 (x24 + 1)) x200000 x200001))) else (none)) else (none)) else (none)) else (some (x9, 0)) := by
  refine Lim.step (f := fun k => if x24 < x23 then (if 0 ≤ x24 then (if x24 < (x22.length : Int) then (if x24 < (x2.length : Int) then ((impl_neededReefs.f k x200000 x200001 (rd x2 x24)).bind fun t206 => (if (rd x22 x24) > t206 then (impl_TooManyReefs.l0 k x2 (wrap64 (x9 + 1)) x22 x23 (wrap64 (x24 + 1)) x200000 x200001) else (impl_TooManyReefs.l0 k x2 x9 x22 x23 (wrap64 (x24 + 1)) x200000 x200001))) else (none)) else (none)) else (none)) else (some (x9, 0))) (fun k => (impl_TooManyReefs.mono_l k) x2 x9 x22 x23 x24 x200000 x200001) (fun k => by simp only [impl_TooManyReefs.l0]) ?_
  repeat' first
    | with_reducible exact Lim.const _
    | with_reducible exact impl_TooManyReefs.L0_lim _ _ _ _ _ _ _
    | with_reducible exact impl_neededReefs.F_lim _ _ _
    | with_reducible refine Lim.ite ?_ ?_
    | with_reducible refine Lim.bind ?_ (fun _ => ?_)
theorem impl_TooManyReefs.F_eq (l0_0 : List Int) (l0_1 : List Int) (a1 : Int) (l2 : List Int) : impl_TooManyReefs.F l0_0 l0_1 a1 l2 = (impl_reefCode.F l0_0 l0_1 a1 l2).bind fun t200 => (if t200 = 0 then ((impl_runReefs.F l0_0 l0_1 a1 l2).bind fun t201 => (impl_TooManyReefs.L0 l2 0 t201 (t201.length : Int) 0 l0_0 l0_1)) else (some (0, t200))) := by
  refine Lim.eq (g := fun k => impl_TooManyReefs.f k l0_0 l0_1 a1 l2) ?_
  unfold impl_TooManyReefs.f
  repeat' first
    | with_reducible exact Lim.const _
    | with_reducible exact impl_TooManyReefs.L0_lim _ _ _ _ _ _ _
    | with_reducible exact impl_reefCode.F_lim _ _ _ _
    | with_reducible exact impl_runReefs.F_lim _ _ _ _
    | with_reducible refine Lim.ite ?_ ?_
    | with_reducible refine Lim.bind ?_ (fun _ => ?_)

noncomputable def laws_eqInt64S.L0 (x0 : List Int) (x1 : List Int) (x5 : Int) : Option (Bool) := lim (fun k => laws_eqInt64S.l0 k x0 x1 x5)
theorem laws_eqInt64S.L0_lim (x0 : List Int) (x1 : List Int) (x5 : Int) : Lim (fun k => laws_eqInt64S.l0 k x0 x1 x5) (laws_eqInt64S.L0 x0 x1 x5) := Lim.of (fun k => (laws_eqInt64S.mono_l k) x0 x1 x5)
noncomputable def laws_eqInt64S.F (l0 : List Int) (l1 : List Int) : Option (Bool) := lim (fun k => laws_eqInt64S.f k l0 l1)
theorem laws_eqInt64S.F_lim (l0 : List Int) (l1 : List Int) : Lim (fun k => laws_eqInt64S.f k l0 l1) (laws_eqInt64S.F l0 l1) := Lim.of (fun k => laws_eqInt64S.mono l0 l1 k)
theorem laws_eqInt64S.L0_eq (x0 : List Int) (x1 : List Int) (x5 : Int) : laws_eqInt64S.L0 x0 x1 x5 = if x5 < (x0.length : Int) then (if 0 ≤ x5 then (if x5 < (x1.length : Int) then (if (rd x0 x5) = (rd x1 x5) then (laws_eqInt64S.L0 x0 x1 (wrap64 (x5 + 1))) else (some false)) else (none)) else (none)) else (some true) := by
  refine Lim.step (f := fun k => if x5 < (x0.length : Int) then (if 0 ≤ x5 then (if x5 < (x1.length : Int) then (if (rd x0 x5) = (rd x1 x5) then (laws_eqInt64S.l0 k x0 x1 (wrap64 (x5 + 1))) else (some false)) else (none)) else (none)) else (some true)) (fun k => (laws_eqInt64S.mono_l k) x0 x1 x5) (fun k => by simp only [laws_eqInt64S.l0]) ?_
  repeat' first
    | with_reducible exact Lim.const _
    | with_reducible exact laws_eqInt64S.L0_lim _ _ _
    | with_reducible refine Lim.ite ?_ ?_
    | with_reducible refine Lim.bind ?_ (fun _ => ?_)
theorem laws_eqInt64S.F_eq (l0 : List Int) (l1 : List Int) : laws_eqInt64S.F l0 l1 = if (l0.length : Int) = (l1.length : Int) then (laws_eqInt64S.L0 l0 l1 0) else (some false) := by
  refine Lim.eq (g := fun k => laws_eqInt64S.f k l0 l1) ?_
  unfold laws_eqInt64S.f
  repeat' first
    | with_reducible exact Lim.const _
    | with_reducible exact laws_eqInt64S.L0_lim _ _ _
    | with_reducible refine Lim.ite ?_ ?_
    | with_reducible refine Lim.bind ?_ (fun _ => ?_)

noncomputable def laws_eqReefing.F (l0_0 : List Int) (l0_1 : List Int) (l1_0 : List Int) (l1_1 : List Int) : Option (Bool) := lim (fun k => laws_eqReefing.f k l0_0 l0_1 l1_0 l1_1)
theorem laws_eqReefing.F_lim (l0_0 : List Int) (l0_1 : List Int) (l1_0 : List Int) (l1_1 : List Int) : Lim (fun k => laws_eqReefing.f k l0_0 l0_1 l1_0 l1_1) (laws_eqReefing.F l0_0 l0_1 l1_0 l1_1) := Lim.of (fun k => laws_eqReefing.mono l0_0 l0_1 l1_0 l1_1 k)
theorem laws_eqReefing.F_eq (l0_0 : List Int) (l0_1 : List Int) (l1_0 : List Int) (l1_1 : List Int) : laws_eqReefing.F l0_0 l0_1 l1_0 l1_1 = (laws_eqInt64S.F l0_0 l1_0).bind fun t211 => (if t211 = true then ((laws_eqInt64S.F l0_1 l1_1).bind fun t212 => (if t212 = true then (some true) else (some false))) else (some false)) := by
  refine Lim.eq (g := fun k => laws_eqReefing.f k l0_0 l0_1 l1_0 l1_1) ?_
  unfold laws_eqReefing.f
  repeat' first
    | with_reducible exact Lim.const _
    | with_reducible exact laws_eqInt64S.F_lim _ _
    | with_reducible refine Lim.ite ?_ ?_
    | with_reducible refine Lim.bind ?_ (fun _ => ?_)

noncomputable def laws_FnExactTooManyReefs.J0 (x2 : List Int) (x11 : List Int) (x49 : Bool) (x214000 : List Int) (x214001 : List Int) (x233000 : List Int) (x233001 : List Int) : Option (Bool) := lim (fun k => laws_FnExactTooManyReefs.j0 k x2 x11 x49 x214000 x214001 x233000 x233001)
theorem laws_FnExactTooManyReefs.J0_lim (x2 : List Int) (x11 : List Int) (x49 : Bool) (x214000 : List Int) (x214001 : List Int) (x233000 : List Int) (x233001 : List Int) : Lim (fun k => laws_FnExactTooManyReefs.j0 k x2 x11 x49 x214000 x214001 x233000 x233001) (laws_FnExactTooManyReefs.J0 x2 x11 x49 x214000 x214001 x233000 x233001) := Lim.of (fun k => (laws_FnExactTooManyReefs.mono_l k) x2 x11 x49 x214000 x214001 x233000 x233001)
noncomputable def laws_FnExactTooManyReefs.F (l0_0 : List Int) (l0_1 : List Int) (a1 : Int) (l2 : List Int) : Option (Bool) := lim (fun k => laws_FnExactTooManyReefs.f k l0_0 l0_1 a1 l2)
theorem laws_FnExactTooManyReefs.F_lim (l0_0 : List Int) (l0_1 : List Int) (a1 : Int) (l2 : List Int) : Lim (fun k => laws_FnExactTooManyReefs.f k l0_0 l0_1 a1 l2) (laws_FnExactTooManyReefs.F l0_0 l0_1 a1 l2) := Lim.of (fun k => laws_FnExactTooManyReefs.mono l0_0 l0_1 a1 l2 k)
theorem laws_FnExactTooManyReefs.J0_eq (x2 : List Int) (x11 : List Int) (x49 : Bool) (x214000 : List Int) (x214001 : List Int) (x233000 : List Int) (x233001 : List Int) : laws_FnExactTooManyReefs.J0 x2 x11 x49 x214000 x214001 x233000 x233001 = if x49 = true then (some false) else ((laws_toReefing.F x214000 x214001).bind fun bt238 => ((laws_eqReefing.F x233000 x233001 bt238.1 bt238.2).bind fun t244 => (if t244 = true then ((laws_toInt64S.F x2).bind fun t245 => ((laws_eqInt64S.F x11 t245).bind fun t248 => (if t248 = true then (some true) else (some false)))) else (some false)))) := by
  refine Lim.step (f := fun k => if x49 = true then (some false) else ((laws_toReefing.f k x214000 x214001).bind fun bt238 => ((laws_eqReefing.f k x233000 x233001 bt238.1 bt238.2).bind fun t244 => (if t244 = true then ((laws_toInt64S.f k x2).bind fun t245 => ((laws_eqInt64S.f k x11 t245).bind fun t248 => (if t248 = true then (some true) else (some false)))) else (some false))))) (fun k => (laws_FnExactTooManyReefs.mono_l k) x2 x11 x49 x214000 x214001 x233000 x233001) (fun k => by simp only [laws_FnExactTooManyReefs.j0]) ?_
  repeat' first
    | with_reducible exact Lim.const _
    | with_reducible exact laws_eqInt64S.F_lim _ _
    | with_reducible exact laws_eqReefing.F_lim _ _ _ _
    | with_reducible exact laws_toInt64S.F_lim _
    | with_reducible exact laws_toReefing.F_lim _ _
    | with_reducible refine Lim.ite ?_ ?_
    | with_reducible refine Lim.bind ?_ (fun _ => ?_)
theorem laws_FnExactTooManyReefs.F_eq (l0_0 : List Int) (l0_1 : List Int) (a1 : Int) (l2 : List Int) : laws_FnExactTooManyReefs.F l0_0 l0_1 a1 l2 = if (l2.length : Int) > 1048576 then (some true) else ((laws_szReefing.f l0_0 l0_1 1048576).bind fun t214 => (if t214 < 0 then (some true) else ((laws_toReefing.F l0_0 l0_1).bind fun bt215 => ((laws_toInt64S.F l2).bind fun t221 => ((spec_TooManyReefs.F bt215.1 bt215.2 a1 t221).bind fun bt224 => ((laws_toReefing.F l0_0 l0_1).bind fun bt226 => ((laws_toInt64S.F l2).bind fun t233 => ((impl_TooManyReefs.F bt226.1 bt226.2 a1 t233).bind fun bt236 => (if bt236.1 = bt224.1 then (laws_FnExactTooManyReefs.J0 l2 t233 (bt236.2 != bt224.2) l0_0 l0_1 bt226.1 bt226.2) else (laws_FnExactTooManyReefs.J0 l2 t233 true l0_0 l0_1 bt226.1 bt226.2)))))))))) := by
  refine Lim.eq (g := fun k => laws_FnExactTooManyReefs.f k l0_0 l0_1 a1 l2) ?_
  unfold laws_FnExactTooManyReefs.f
  repeat' first
    | with_reducible exact Lim.const _
    | with_reducible exact impl_TooManyReefs.F_lim _ _ _ _
    | with_reducible exact laws_FnExactTooManyReefs.J0_lim _ _ _ _ _ _ _
    | with_reducible exact laws_toInt64S.F_lim _
    | with_reducible exact laws_toReefing.F_lim _ _
    | with_reducible exact spec_TooManyReefs.F_lim _ _ _ _
    | with_reducible refine Lim.ite ?_ ?_
    | with_reducible refine Lim.bind ?_ (fun _ => ?_)

end Go.Proofs.Ytbhijlhlopljmaa.PFnExactTooManyReefs
