/-
  Written by a program of this session (wip/tools/lims.py): the printed functions without their bound on rounds.
-/
import Derived.Test.YtbhijlhlopljmaaPFnExactMarkFlawx1
import Derived.Test.YtbhijlhlopljmaaPFnExactMarkFlawx2
import Derived.Test.YtbhijlhlopljmaaPFnExactMarkFlawx3
import Derived.Test.YtbhijlhlopljmaaPFnExactMarkFlawx4
import Derived.Test.YtbhijlhlopljmaaPFnExactMarkFlawx5
import Derived.Test.YtbhijlhlopljmaaPFnExactMarkFlawx6
import Derived.Test.YtbhijlhlopljmaaPFnExactMarkFlawx7
import Derived.Test.YtbhijlhlopljmaaPFnExactMarkFlawx8
import Derived.Test.YtbhijlhlopljmaaKit
set_option linter.unusedVariables false
set_option linter.unusedSimpArgs false
namespace Go.Proofs.Ytbhijlhlopljmaa.PFnExactMarkFlaw
open Go.RowKit Go.Proofs.Ytbhijlhlopljmaa.Kit Go.Proofs.YtbhijlhlopljmaaW.PrintWords Go.Proofs.YtbhijlhlopljmaaW.PrintLast Go.Proofs.YtbhijlhlopljmaaW.PrintMore

noncomputable def spec_l00Rises.L0 (x0 : List Int) (x1 : Int) (x2 : Int) (x7 : Int) : Option (Bool) := lim (fun k => spec_l00Rises.l0 k x0 x1 x2 x7)
theorem spec_l00Rises.L0_lim (x0 : List Int) (x1 : Int) (x2 : Int) (x7 : Int) : Lim (fun k => spec_l00Rises.l0 k x0 x1 x2 x7) (spec_l00Rises.L0 x0 x1 x2 x7) := Lim.of (fun k => (spec_l00Rises.mono_l k) x0 x1 x2 x7)
noncomputable def spec_l00Rises.F (l0 : List Int) (a1 : Int) (a2 : Int) : Option (Bool) := lim (fun k => spec_l00Rises.f k l0 a1 a2)
theorem spec_l00Rises.F_lim (l0 : List Int) (a1 : Int) (a2 : Int) : Lim (fun k => spec_l00Rises.f k l0 a1 a2) (spec_l00Rises.F l0 a1 a2) := Lim.of (fun k => spec_l00Rises.mono l0 a1 a2 k)
theorem spec_l00Rises.L0_eq (x0 : List Int) (x1 : Int) (x2 : Int) (x7 : Int) : spec_l00Rises.L0 x0 x1 x2 x7 = if x7 < (x0.length : Int) then (if 0 ≤ x7 then ((spec_l00In.f (rd x0 x7) x1 x2).bind fun t104 => (if t104 = true then (if x7 > 0 then (if 0 ≤ (wrap64 (x7 - 1)) then (if (wrap64 (x7 - 1)) < (x0.length : Int) then (if (rd x0 (wrap64 (x7 - 1))) ≥ (rd x0 x7) then (some false) else (spec_l00Rises.L0 x0 x1 x2 (wrap64 (x7 + 1)))) else (none)) else (none)) else (spec_l00Rises.L0 x0 x1 x2 (wrap64 (x7 + 1)))) else (some false))) else (none)) else (some true) := by
  refine Lim.step (f := fun k => if x7 < (x0.length : Int) then (if 0 ≤ x7 then ((spec_l00In.f (rd x0 x7) x1 x2).bind fun t104 => (if t104 = true then (if x7 > 0 then (if 0 ≤ (wrap64 (x7 - 1)) then (if (wrap64 (x7 - 1)) < (x0.length : Int) then (if (rd x0 (wrap64 (x7 - 1))) ≥ (rd x0 x7) then (some false) else (spec_l00Rises.l0 k x0 x1 x2 (wrap64 (x7 + 1)))) else (none)) else (none)) else (spec_l00Rises.l0 k x0 x1 x2 (wrap64 (x7 + 1)))) else (some false))) else (none)) else (some true)) (fun k => (spec_l00Rises.mono_l k) x0 x1 x2 x7) (fun k => by simp only [spec_l00Rises.l0]) ?_
  repeat' first
    | with_reducible exact Lim.const _
    | with_reducible exact spec_l00Rises.L0_lim _ _ _ _
    | with_reducible refine Lim.ite ?_ ?_
    | with_reducible refine Lim.bind ?_ (fun _ => ?_)
theorem spec_l00Rises.F_eq (l0 : List Int) (a1 : Int) (a2 : Int) : spec_l00Rises.F l0 a1 a2 = spec_l00Rises.L0 l0 a1 a2 0 := by
  refine Lim.eq (g := fun k => spec_l00Rises.f k l0 a1 a2) ?_
  unfold spec_l00Rises.f
  repeat' first
    | with_reducible exact Lim.const _
    | with_reducible exact spec_l00Rises.L0_lim _ _ _ _
    | with_reducible refine Lim.ite ?_ ?_
    | with_reducible refine Lim.bind ?_ (fun _ => ?_)

noncomputable def spec_l16One.F (l0 : List (S79)) : Option (Bool) := lim (fun k => spec_l16One.f k l0)
theorem spec_l16One.F_lim (l0 : List (S79)) : Lim (fun k => spec_l16One.f k l0) (spec_l16One.F l0) := Lim.of (fun k => spec_l16One.mono l0 k)
theorem spec_l16One.F_eq (l0 : List (S79)) : spec_l16One.F l0 = if 0 < (l0.length : Int) then ((spec_l00In.f ((rd_T79 l0 0).f0) 1 10000).bind fun t109 => (if t109 = true then (if (((rd_T79 l0 0).f1).length : Int) ≤ 6 then ((spec_l00Rises.F ((rd_T79 l0 0).f1) 1 (wrap64 (((rd_T79 l0 0).f0) - 1))).bind fun t113 => (some t113)) else (some false)) else (some false))) else (none) := by
  refine Lim.eq (g := fun k => spec_l16One.f k l0) ?_
  unfold spec_l16One.f
  repeat' first
    | with_reducible exact Lim.const _
    | with_reducible exact spec_l00Rises.F_lim _ _ _
    | with_reducible refine Lim.ite ?_ ?_
    | with_reducible refine Lim.bind ?_ (fun _ => ?_)

noncomputable def spec_l00Has.L0 (x0 : List Int) (x1 : Int) (x5 : Int) : Option (Bool) := lim (fun k => spec_l00Has.l0 k x0 x1 x5)
theorem spec_l00Has.L0_lim (x0 : List Int) (x1 : Int) (x5 : Int) : Lim (fun k => spec_l00Has.l0 k x0 x1 x5) (spec_l00Has.L0 x0 x1 x5) := Lim.of (fun k => (spec_l00Has.mono_l k) x0 x1 x5)
noncomputable def spec_l00Has.F (l0 : List Int) (a1 : Int) : Option (Bool) := lim (fun k => spec_l00Has.f k l0 a1)
theorem spec_l00Has.F_lim (l0 : List Int) (a1 : Int) : Lim (fun k => spec_l00Has.f k l0 a1) (spec_l00Has.F l0 a1) := Lim.of (fun k => spec_l00Has.mono l0 a1 k)
theorem spec_l00Has.L0_eq (x0 : List Int) (x1 : Int) (x5 : Int) : spec_l00Has.L0 x0 x1 x5 = if x5 < (x0.length : Int) then (if 0 ≤ x5 then (if (rd x0 x5) = x1 then (some true) else (spec_l00Has.L0 x0 x1 (wrap64 (x5 + 1)))) else (none)) else (some false) := by
  refine Lim.step (f := fun k => if x5 < (x0.length : Int) then (if 0 ≤ x5 then (if (rd x0 x5) = x1 then (some true) else (spec_l00Has.l0 k x0 x1 (wrap64 (x5 + 1)))) else (none)) else (some false)) (fun k => (spec_l00Has.mono_l k) x0 x1 x5) (fun k => by simp only [spec_l00Has.l0]) ?_
  repeat' first
    | with_reducible exact Lim.const _
    | with_reducible exact spec_l00Has.L0_lim _ _ _
    | with_reducible refine Lim.ite ?_ ?_
    | with_reducible refine Lim.bind ?_ (fun _ => ?_)
theorem spec_l00Has.F_eq (l0 : List Int) (a1 : Int) : spec_l00Has.F l0 a1 = spec_l00Has.L0 l0 a1 0 := by
  refine Lim.eq (g := fun k => spec_l00Has.f k l0 a1) ?_
  unfold spec_l00Has.f
  repeat' first
    | with_reducible exact Lim.const _
    | with_reducible exact spec_l00Has.L0_lim _ _ _
    | with_reducible refine Lim.ite ?_ ?_
    | with_reducible refine Lim.bind ?_ (fun _ => ?_)

noncomputable def spec_l00Put.L0 (x0 : List Int) (x1 : Int) (x5 : List Int) (x6 : Bool) (x7 : Int) : Option (List Int) := lim (fun k => spec_l00Put.l0 k x0 x1 x5 x6 x7)
theorem spec_l00Put.L0_lim (x0 : List Int) (x1 : Int) (x5 : List Int) (x6 : Bool) (x7 : Int) : Lim (fun k => spec_l00Put.l0 k x0 x1 x5 x6 x7) (spec_l00Put.L0 x0 x1 x5 x6 x7) := Lim.of (fun k => (spec_l00Put.mono_l k).1 x0 x1 x5 x6 x7)
noncomputable def spec_l00Put.J1 (x0 : List Int) (x1 : Int) (x5 : List Int) (x6 : Bool) (x7 : Int) (x24 : Bool) : Option (List Int) := lim (fun k => spec_l00Put.j1 k x0 x1 x5 x6 x7 x24)
theorem spec_l00Put.J1_lim (x0 : List Int) (x1 : Int) (x5 : List Int) (x6 : Bool) (x7 : Int) (x24 : Bool) : Lim (fun k => spec_l00Put.j1 k x0 x1 x5 x6 x7 x24) (spec_l00Put.J1 x0 x1 x5 x6 x7 x24) := Lim.of (fun k => (spec_l00Put.mono_l k).2 x0 x1 x5 x6 x7 x24)
noncomputable def spec_l00Put.F (l0 : List Int) (a1 : Int) : Option (List Int) := lim (fun k => spec_l00Put.f k l0 a1)
theorem spec_l00Put.F_lim (l0 : List Int) (a1 : Int) : Lim (fun k => spec_l00Put.f k l0 a1) (spec_l00Put.F l0 a1) := Lim.of (fun k => spec_l00Put.mono l0 a1 k)
theorem spec_l00Put.L0_eq (x0 : List Int) (x1 : Int) (x5 : List Int) (x6 : Bool) (x7 : Int) : spec_l00Put.L0 x0 x1 x5 x6 x7 = if x7 < (x0.length : Int) then (if x6 = true then (spec_l00Put.J1 x0 x1 x5 x6 x7 false) else (if 0 ≤ x7 then (spec_l00Put.J1 x0 x1 x5 x6 x7 (decide ((rd x0 x7) ≥ x1))) else (none))) else (if x6 = true then (some x5) else (if x5.length < 17592186044416 then (some (x5 ++ [x1])) else (none))) := by
  refine Lim.step (f := fun k => if x7 < (x0.length : Int) then (if x6 = true then (spec_l00Put.j1 k x0 x1 x5 x6 x7 false) else (if 0 ≤ x7 then (spec_l00Put.j1 k x0 x1 x5 x6 x7 (decide ((rd x0 x7) ≥ x1))) else (none))) else (if x6 = true then (some x5) else (if x5.length < 17592186044416 then (some (x5 ++ [x1])) else (none)))) (fun k => (spec_l00Put.mono_l k).1 x0 x1 x5 x6 x7) (fun k => by simp only [spec_l00Put.l0]) ?_
  repeat' first
    | with_reducible exact Lim.const _
    | with_reducible exact spec_l00Put.J1_lim _ _ _ _ _ _
    | with_reducible refine Lim.ite ?_ ?_
    | with_reducible refine Lim.bind ?_ (fun _ => ?_)
theorem spec_l00Put.J1_eq (x0 : List Int) (x1 : Int) (x5 : List Int) (x6 : Bool) (x7 : Int) (x24 : Bool) : spec_l00Put.J1 x0 x1 x5 x6 x7 x24 = if x24 = true then (if 0 ≤ x7 then (if x7 < (x0.length : Int) then (if (rd x0 x7) > x1 then (if x5.length < 17592186044416 then ((some (x5 ++ [x1] : List Int)).bind fun y123 => (if y123.length < 17592186044416 then (spec_l00Put.L0 x0 x1 (y123 ++ [rd x0 x7]) true (wrap64 (x7 + 1))) else (none))) else (none)) else (if x5.length < 17592186044416 then (spec_l00Put.L0 x0 x1 (x5 ++ [rd x0 x7]) true (wrap64 (x7 + 1))) else (none))) else (none)) else (none)) else (if 0 ≤ x7 then (if x7 < (x0.length : Int) then (if x5.length < 17592186044416 then (spec_l00Put.L0 x0 x1 (x5 ++ [rd x0 x7]) x6 (wrap64 (x7 + 1))) else (none)) else (none)) else (none)) := by
  refine Lim.step (f := fun k => if x24 = true then (if 0 ≤ x7 then (if x7 < (x0.length : Int) then (if (rd x0 x7) > x1 then (if x5.length < 17592186044416 then ((some (x5 ++ [x1] : List Int)).bind fun y123 => (if y123.length < 17592186044416 then (spec_l00Put.l0 k x0 x1 (y123 ++ [rd x0 x7]) true (wrap64 (x7 + 1))) else (none))) else (none)) else (if x5.length < 17592186044416 then (spec_l00Put.l0 k x0 x1 (x5 ++ [rd x0 x7]) true (wrap64 (x7 + 1))) else (none))) else (none)) else (none)) else (if 0 ≤ x7 then (if x7 < (x0.length : Int) then (if x5.length < 17592186044416 then (spec_l00Put.l0 k x0 x1 (x5 ++ [rd x0 x7]) x6 (wrap64 (x7 + 1))) else (none)) else (none)) else (none))) (fun k => (spec_l00Put.mono_l k).2 x0 x1 x5 x6 x7 x24) (fun k => by simp only [spec_l00Put.j1]) ?_
  repeat' first
    | with_reducible exact Lim.const _
    | with_reducible exact spec_l00Put.L0_lim _ _ _ _ _
    | with_reducible refine Lim.ite ?_ ?_
    | with_reducible refine Lim.bind ?_ (fun _ => ?_)
theorem spec_l00Put.F_eq (l0 : List Int) (a1 : Int) : spec_l00Put.F l0 a1 = spec_l00Put.L0 l0 a1 (([] : List Int)) false 0 := by
  refine Lim.eq (g := fun k => spec_l00Put.f k l0 a1) ?_
  unfold spec_l00Put.f
  repeat' first
    | with_reducible exact Lim.const _
    | with_reducible exact spec_l00Put.L0_lim _ _ _ _ _
    | with_reducible refine Lim.ite ?_ ?_
    | with_reducible refine Lim.bind ?_ (fun _ => ?_)

noncomputable def spec_MarkFlaw.F (a0_0 : Int) (l0_1 : List Int) (a1 : Int) : Option (Int × List Int × Int) := lim (fun k => spec_MarkFlaw.f k a0_0 l0_1 a1)
theorem spec_MarkFlaw.F_lim (a0_0 : Int) (l0_1 : List Int) (a1 : Int) : Lim (fun k => spec_MarkFlaw.f k a0_0 l0_1 a1) (spec_MarkFlaw.F a0_0 l0_1 a1) := Lim.of (fun k => spec_MarkFlaw.mono a0_0 l0_1 a1 k)
theorem spec_MarkFlaw.F_eq (a0_0 : Int) (l0_1 : List Int) (a1 : Int) : spec_MarkFlaw.F a0_0 l0_1 a1 = (spec_l16One.F [(⟨a0_0, l0_1⟩ : S79)]).bind fun t147 => (if t147 = true then ((spec_l00In.f a1 1 (wrap64 (a0_0 - 1))).bind fun t148 => (if t148 = true then ((spec_l00Has.F l0_1 a1).bind fun t149 => (if t149 = true then (some (0, ([] : List Int), 4)) else (if (l0_1.length : Int) ≥ 6 then (some (0, ([] : List Int), 5)) else ((spec_l00Own.f l0_1).bind fun t150 => ((spec_l00Put.F t150 a1).bind fun t153 => (some (a0_0, t153, 0))))))) else (some (0, ([] : List Int), 2)))) else (some (0, ([] : List Int), 1))) := by
  refine Lim.eq (g := fun k => spec_MarkFlaw.f k a0_0 l0_1 a1) ?_
  unfold spec_MarkFlaw.f
  repeat' first
    | with_reducible exact Lim.const _
    | with_reducible exact spec_l00Has.F_lim _ _
    | with_reducible exact spec_l00Put.F_lim _ _
    | with_reducible exact spec_l16One.F_lim _
    | with_reducible refine Lim.ite ?_ ?_
    | with_reducible refine Lim.bind ?_ (fun _ => ?_)

noncomputable def laws_toInt64S.L0 (x0 : List Int) (x3 : List Int) (x4 : Int) : Option (List Int) := lim (fun k => laws_toInt64S.l0 k x0 x3 x4)
theorem laws_toInt64S.L0_lim (x0 : List Int) (x3 : List Int) (x4 : Int) : Lim (fun k => laws_toInt64S.l0 k x0 x3 x4) (laws_toInt64S.L0 x0 x3 x4) := Lim.of (fun k => (laws_toInt64S.mono_l k) x0 x3 x4)
noncomputable def laws_toInt64S.F (l0 : List Int) : Option (List Int) := lim (fun k => laws_toInt64S.f k l0)
theorem laws_toInt64S.F_lim (l0 : List Int) : Lim (fun k => laws_toInt64S.f k l0) (laws_toInt64S.F l0) := Lim.of (fun k => laws_toInt64S.mono l0 k)
theorem laws_toInt64S.L0_eq (x0 : List Int) (x3 : List Int) (x4 : Int) : laws_toInt64S.L0 x0 x3 x4 = if x4 < (x0.length : Int) then (if 0 ≤ x4 then (if x4 < (x3.length : Int) then (laws_toInt64S.L0 x0 (x3.set (x4 : Int).toNat (rd x0 x4)) (wrap64 (x4 + 1))) else (none)) else (none)) else (some x3) := by
  refine Lim.step (f := fun k => if x4 < (x0.length : Int) then (if 0 ≤ x4 then (if x4 < (x3.length : Int) then (laws_toInt64S.l0 k x0 (x3.set (x4 : Int).toNat (rd x0 x4)) (wrap64 (x4 + 1))) else (none)) else (none)) else (some x3)) (fun k => (laws_toInt64S.mono_l k) x0 x3 x4) (fun k => by simp only [laws_toInt64S.l0]) ?_
  repeat' first
    | with_reducible exact Lim.const _
    | with_reducible exact laws_toInt64S.L0_lim _ _ _
    | with_reducible refine Lim.ite ?_ ?_
    | with_reducible refine Lim.bind ?_ (fun _ => ?_)
theorem laws_toInt64S.F_eq (l0 : List Int) : laws_toInt64S.F l0 = if 0 ≤ (l0.length : Int) then (if ((l0.length : Int) : Int).toNat ≤ 35184372088832 then (laws_toInt64S.L0 l0 (List.replicate ((l0.length : Int) : Int).toNat 0) 0) else (none)) else (none) := by
  refine Lim.eq (g := fun k => laws_toInt64S.f k l0) ?_
  unfold laws_toInt64S.f
  repeat' first
    | with_reducible exact Lim.const _
    | with_reducible exact laws_toInt64S.L0_lim _ _ _
    | with_reducible refine Lim.ite ?_ ?_
    | with_reducible refine Lim.bind ?_ (fun _ => ?_)

noncomputable def laws_toBolt.F (a0_0 : Int) (l0_1 : List Int) : Option (Int × List Int) := lim (fun k => laws_toBolt.f k a0_0 l0_1)
theorem laws_toBolt.F_lim (a0_0 : Int) (l0_1 : List Int) : Lim (fun k => laws_toBolt.f k a0_0 l0_1) (laws_toBolt.F a0_0 l0_1) := Lim.of (fun k => laws_toBolt.mono a0_0 l0_1 k)
theorem laws_toBolt.F_eq (a0_0 : Int) (l0_1 : List Int) : laws_toBolt.F a0_0 l0_1 = (laws_toInt64S.F l0_1).bind fun t164 => (some (a0_0, t164)) := by
  refine Lim.eq (g := fun k => laws_toBolt.f k a0_0 l0_1) ?_
  unfold laws_toBolt.f
  repeat' first
    | with_reducible exact Lim.const _
    | with_reducible exact laws_toInt64S.F_lim _
    | with_reducible refine Lim.ite ?_ ?_
    | with_reducible refine Lim.bind ?_ (fun _ => ?_)

noncomputable def impl_validBolt.J0 (x14 : Bool) (x168000 : Int) (x168001 : List Int) : Option (Bool) := lim (fun k => impl_validBolt.j0 k x14 x168000 x168001)
theorem impl_validBolt.J0_lim (x14 : Bool) (x168000 : Int) (x168001 : List Int) : Lim (fun k => impl_validBolt.j0 k x14 x168000 x168001) (impl_validBolt.J0 x14 x168000 x168001) := Lim.of (fun k => (impl_validBolt.mono_l k).1 x14 x168000 x168001)
noncomputable def impl_validBolt.L0 (x16 : List Int) (x17 : Int) (x18 : Int) (x168000 : Int) (x168001 : List Int) : Option (Bool) := lim (fun k => impl_validBolt.l0 k x16 x17 x18 x168000 x168001)
theorem impl_validBolt.L0_lim (x16 : List Int) (x17 : Int) (x18 : Int) (x168000 : Int) (x168001 : List Int) : Lim (fun k => impl_validBolt.l0 k x16 x17 x18 x168000 x168001) (impl_validBolt.L0 x16 x17 x18 x168000 x168001) := Lim.of (fun k => (impl_validBolt.mono_l k).2 x16 x17 x18 x168000 x168001)
noncomputable def impl_validBolt.F (a0_0 : Int) (l0_1 : List Int) : Option (Bool) := lim (fun k => impl_validBolt.f k a0_0 l0_1)
theorem impl_validBolt.F_lim (a0_0 : Int) (l0_1 : List Int) : Lim (fun k => impl_validBolt.f k a0_0 l0_1) (impl_validBolt.F a0_0 l0_1) := Lim.of (fun k => impl_validBolt.mono a0_0 l0_1 k)
theorem impl_validBolt.J0_eq (x14 : Bool) (x168000 : Int) (x168001 : List Int) : impl_validBolt.J0 x14 x168000 x168001 = if x14 = true then (some false) else (impl_validBolt.L0 x168001 (x168001.length : Int) 0 x168000 x168001) := by
  refine Lim.step (f := fun k => if x14 = true then (some false) else (impl_validBolt.l0 k x168001 (x168001.length : Int) 0 x168000 x168001)) (fun k => (impl_validBolt.mono_l k).1 x14 x168000 x168001) (fun k => by simp only [impl_validBolt.j0]) ?_
  repeat' first
    | with_reducible exact Lim.const _
    | with_reducible exact impl_validBolt.L0_lim _ _ _ _ _
    | with_reducible refine Lim.ite ?_ ?_
    | with_reducible refine Lim.bind ?_ (fun _ => ?_)
theorem impl_validBolt.L0_eq (x16 : List Int) (x17 : Int) (x18 : Int) (x168000 : Int) (x168001 : List Int) : impl_validBolt.L0 x16 x17 x18 x168000 x168001 = if x18 < x17 then (if 0 ≤ x18 then (if x18 < (x16.length : Int) then ((impl_within.f (rd x16 x18) 1 (wrap64 (x168000 - 1))).bind fun t170 => (if t170 = true then (if x18 > 0 then (if 0 ≤ (wrap64 (x18 - 1)) then (if (wrap64 (x18 - 1)) < (x168001.length : Int) then (if (rd x16 x18) ≤ (rd x168001 (wrap64 (x18 - 1))) then (some false) else (impl_validBolt.L0 x16 x17 (wrap64 (x18 + 1)) x168000 x168001)) else (none)) else (none)) else (impl_validBolt.L0 x16 x17 (wrap64 (x18 + 1)) x168000 x168001)) else (some false))) else (none)) else (none)) else (some true) := by
  refine Lim.step (f := fun k => if x18 < x17 then (if 0 ≤ x18 then (if x18 < (x16.length : Int) then ((impl_within.f (rd x16 x18) 1 (wrap64 (x168000 - 1))).bind fun t170 => (if t170 = true then (if x18 > 0 then (if 0 ≤ (wrap64 (x18 - 1)) then (if (wrap64 (x18 - 1)) < (x168001.length : Int) then (if (rd x16 x18) ≤ (rd x168001 (wrap64 (x18 - 1))) then (some false) else (impl_validBolt.l0 k x16 x17 (wrap64 (x18 + 1)) x168000 x168001)) else (none)) else (none)) else (impl_validBolt.l0 k x16 x17 (wrap64 (x18 + 1)) x168000 x168001)) else (some false))) else (none)) else (none)) else (some true)) (fun k => (impl_validBolt.mono_l k).2 x16 x17 x18 x168000 x168001) (fun k => by simp only [impl_validBolt.l0]) ?_
  repeat' first
    | with_reducible exact Lim.const _
    | with_reducible exact impl_validBolt.L0_lim _ _ _ _ _
    | with_reducible refine Lim.ite ?_ ?_
    | with_reducible refine Lim.bind ?_ (fun _ => ?_)
theorem impl_validBolt.F_eq (a0_0 : Int) (l0_1 : List Int) : impl_validBolt.F a0_0 l0_1 = (impl_within.f a0_0 1 10000).bind fun t168 => (if t168 = true then (impl_validBolt.J0 (decide ((l0_1.length : Int) > 6)) a0_0 l0_1) else (impl_validBolt.J0 true a0_0 l0_1)) := by
  refine Lim.eq (g := fun k => impl_validBolt.f k a0_0 l0_1) ?_
  unfold impl_validBolt.f
  repeat' first
    | with_reducible exact Lim.const _
    | with_reducible exact impl_validBolt.J0_lim _ _ _
    | with_reducible refine Lim.ite ?_ ?_
    | with_reducible refine Lim.bind ?_ (fun _ => ?_)

noncomputable def slices_Index_int64_int64.L0 (x0 : List Int) (x1 : Int) (x7 : Int) (x8 : Int) : Option (Int) := lim (fun k => slices_Index_int64_int64.l0 k x0 x1 x7 x8)
theorem slices_Index_int64_int64.L0_lim (x0 : List Int) (x1 : Int) (x7 : Int) (x8 : Int) : Lim (fun k => slices_Index_int64_int64.l0 k x0 x1 x7 x8) (slices_Index_int64_int64.L0 x0 x1 x7 x8) := Lim.of (fun k => (slices_Index_int64_int64.mono_l k) x0 x1 x7 x8)
noncomputable def slices_Index_int64_int64.F (l0 : List Int) (a1 : Int) : Option (Int) := lim (fun k => slices_Index_int64_int64.f k l0 a1)
theorem slices_Index_int64_int64.F_lim (l0 : List Int) (a1 : Int) : Lim (fun k => slices_Index_int64_int64.f k l0 a1) (slices_Index_int64_int64.F l0 a1) := Lim.of (fun k => slices_Index_int64_int64.mono l0 a1 k)
theorem slices_Index_int64_int64.L0_eq (x0 : List Int) (x1 : Int) (x7 : Int) (x8 : Int) : slices_Index_int64_int64.L0 x0 x1 x7 x8 = if x8 < x7 then (if 0 ≤ x8 then (if x8 < (x0.length : Int) then (if x1 = (rd x0 x8) then (some x8) else (slices_Index_int64_int64.L0 x0 x1 x7 (wrap64 (x8 + 1)))) else (none)) else (none)) else (some (-1)) := by
  refine Lim.step (f := fun k => if x8 < x7 then (if 0 ≤ x8 then (if x8 < (x0.length : Int) then (if x1 = (rd x0 x8) then (some x8) else (slices_Index_int64_int64.l0 k x0 x1 x7 (wrap64 (x8 + 1)))) else (none)) else (none)) else (some (-1))) (fun k => (slices_Index_int64_int64.mono_l k) x0 x1 x7 x8) (fun k => by simp only [slices_Index_int64_int64.l0]) ?_
  repeat' first
    | with_reducible exact Lim.const _
    | with_reducible exact slices_Index_int64_int64.L0_lim _ _ _ _
    | with_reducible refine Lim.ite ?_ ?_
    | with_reducible refine Lim.bind ?_ (fun _ => ?_)
theorem slices_Index_int64_int64.F_eq (l0 : List Int) (a1 : Int) : slices_Index_int64_int64.F l0 a1 = slices_Index_int64_int64.L0 l0 a1 (l0.length : Int) 0 := by
  refine Lim.eq (g := fun k => slices_Index_int64_int64.f k l0 a1) ?_
  unfold slices_Index_int64_int64.f
  repeat' first
    | with_reducible exact Lim.const _
    | with_reducible exact slices_Index_int64_int64.L0_lim _ _ _ _
    | with_reducible refine Lim.ite ?_ ?_
    | with_reducible refine Lim.bind ?_ (fun _ => ?_)

noncomputable def slices_Contains_int64_int64.F (l0 : List Int) (a1 : Int) : Option (Bool) := lim (fun k => slices_Contains_int64_int64.f k l0 a1)
theorem slices_Contains_int64_int64.F_lim (l0 : List Int) (a1 : Int) : Lim (fun k => slices_Contains_int64_int64.f k l0 a1) (slices_Contains_int64_int64.F l0 a1) := Lim.of (fun k => slices_Contains_int64_int64.mono l0 a1 k)
theorem slices_Contains_int64_int64.F_eq (l0 : List Int) (a1 : Int) : slices_Contains_int64_int64.F l0 a1 = (slices_Index_int64_int64.F l0 a1).bind fun t173 => (some (decide (t173 ≥ 0))) := by
  refine Lim.eq (g := fun k => slices_Contains_int64_int64.f k l0 a1) ?_
  unfold slices_Contains_int64_int64.f
  repeat' first
    | with_reducible exact Lim.const _
    | with_reducible exact slices_Index_int64_int64.F_lim _ _
    | with_reducible refine Lim.ite ?_ ?_
    | with_reducible refine Lim.bind ?_ (fun _ => ?_)

noncomputable def slices_insertionSortOrdered_int64.L0 (x0 : List Int) (x1 : Int) (x2 : Int) (x6 : Int) : Option (List Int) := lim (fun k => slices_insertionSortOrdered_int64.l0 k x0 x1 x2 x6)
theorem slices_insertionSortOrdered_int64.L0_lim (x0 : List Int) (x1 : Int) (x2 : Int) (x6 : Int) : Lim (fun k => slices_insertionSortOrdered_int64.l0 k x0 x1 x2 x6) (slices_insertionSortOrdered_int64.L0 x0 x1 x2 x6) := Lim.of (fun k => (slices_insertionSortOrdered_int64.mono_l k).1 x0 x1 x2 x6)
noncomputable def slices_insertionSortOrdered_int64.L1 (x0 : List Int) (x1 : Int) (x2 : Int) (x6 : Int) (x7 : Int) : Option (List Int) := lim (fun k => slices_insertionSortOrdered_int64.l1 k x0 x1 x2 x6 x7)
theorem slices_insertionSortOrdered_int64.L1_lim (x0 : List Int) (x1 : Int) (x2 : Int) (x6 : Int) (x7 : Int) : Lim (fun k => slices_insertionSortOrdered_int64.l1 k x0 x1 x2 x6 x7) (slices_insertionSortOrdered_int64.L1 x0 x1 x2 x6 x7) := Lim.of (fun k => (slices_insertionSortOrdered_int64.mono_l k).2 x0 x1 x2 x6 x7)
noncomputable def slices_insertionSortOrdered_int64.F (l0 : List Int) (a1 : Int) (a2 : Int) : Option (List Int) := lim (fun k => slices_insertionSortOrdered_int64.f k l0 a1 a2)
theorem slices_insertionSortOrdered_int64.F_lim (l0 : List Int) (a1 : Int) (a2 : Int) : Lim (fun k => slices_insertionSortOrdered_int64.f k l0 a1 a2) (slices_insertionSortOrdered_int64.F l0 a1 a2) := Lim.of (fun k => slices_insertionSortOrdered_int64.mono l0 a1 a2 k)
theorem slices_insertionSortOrdered_int64.L0_eq (x0 : List Int) (x1 : Int) (x2 : Int) (x6 : Int) : slices_insertionSortOrdered_int64.L0 x0 x1 x2 x6 = if x6 < x2 then (slices_insertionSortOrdered_int64.L1 x0 x1 x2 x6 x6) else (some x0) := by
  refine Lim.step (f := fun k => if x6 < x2 then (slices_insertionSortOrdered_int64.l1 k x0 x1 x2 x6 x6) else (some x0)) (fun k => (slices_insertionSortOrdered_int64.mono_l k).1 x0 x1 x2 x6) (fun k => by simp only [slices_insertionSortOrdered_int64.l0]) ?_
  repeat' first
    | with_reducible exact Lim.const _
    | with_reducible exact slices_insertionSortOrdered_int64.L1_lim _ _ _ _ _
    | with_reducible refine Lim.ite ?_ ?_
    | with_reducible refine Lim.bind ?_ (fun _ => ?_)
theorem slices_insertionSortOrdered_int64.L1_eq (x0 : List Int) (x1 : Int) (x2 : Int) (x6 : Int) (x7 : Int) : slices_insertionSortOrdered_int64.L1 x0 x1 x2 x6 x7 = if x7 > x1 then (if 0 ≤ x7 then (if x7 < (x0.length : Int) then (if 0 ≤ (wrap64 (x7 - 1)) then (if (wrap64 (x7 - 1)) < (x0.length : Int) then ((cmp_Less_int64.f (rd x0 x7) (rd x0 (wrap64 (x7 - 1)))).bind fun t178 => (if t178 = true then (slices_insertionSortOrdered_int64.L1 ((x0.set (x7 : Int).toNat (rd x0 (wrap64 (x7 - 1)))).set ((wrap64 (x7 - 1)) : Int).toNat (rd x0 x7)) x1 x2 x6 (wrap64 (x7 - 1))) else (slices_insertionSortOrdered_int64.L0 x0 x1 x2 (wrap64 (x6 + 1))))) else (none)) else (none)) else (none)) else (none)) else (slices_insertionSortOrdered_int64.L0 x0 x1 x2 (wrap64 (x6 + 1))) := by
  refine Lim.step (f := fun k => if x7 > x1 then (if 0 ≤ x7 then (if x7 < (x0.length : Int) then (if 0 ≤ (wrap64 (x7 - 1)) then (if (wrap64 (x7 - 1)) < (x0.length : Int) then ((cmp_Less_int64.f (rd x0 x7) (rd x0 (wrap64 (x7 - 1)))).bind fun t178 => (if t178 = true then (slices_insertionSortOrdered_int64.l1 k ((x0.set (x7 : Int).toNat (rd x0 (wrap64 (x7 - 1)))).set ((wrap64 (x7 - 1)) : Int).toNat (rd x0 x7)) x1 x2 x6 (wrap64 (x7 - 1))) else (slices_insertionSortOrdered_int64.l0 k x0 x1 x2 (wrap64 (x6 + 1))))) else (none)) else (none)) else (none)) else (none)) else (slices_insertionSortOrdered_int64.l0 k x0 x1 x2 (wrap64 (x6 + 1)))) (fun k => (slices_insertionSortOrdered_int64.mono_l k).2 x0 x1 x2 x6 x7) (fun k => by simp only [slices_insertionSortOrdered_int64.l1]) ?_
  repeat' first
    | with_reducible exact Lim.const _
    | with_reducible exact slices_insertionSortOrdered_int64.L0_lim _ _ _ _
    | with_reducible exact slices_insertionSortOrdered_int64.L1_lim _ _ _ _ _
    | with_reducible refine Lim.ite ?_ ?_
    | with_reducible refine Lim.bind ?_ (fun _ => ?_)
theorem slices_insertionSortOrdered_int64.F_eq (l0 : List Int) (a1 : Int) (a2 : Int) : slices_insertionSortOrdered_int64.F l0 a1 a2 = slices_insertionSortOrdered_int64.L0 l0 a1 a2 (wrap64 (a1 + 1)) := by
  refine Lim.eq (g := fun k => slices_insertionSortOrdered_int64.f k l0 a1 a2) ?_
  unfold slices_insertionSortOrdered_int64.f
  repeat' first
    | with_reducible exact Lim.const _
    | with_reducible exact slices_insertionSortOrdered_int64.L0_lim _ _ _ _
    | with_reducible refine Lim.ite ?_ ?_
    | with_reducible refine Lim.bind ?_ (fun _ => ?_)

noncomputable def slices_pdqsortOrdered_int64.L0 (x0 : List Int) (x1 : Int) (x2 : Int) (x3 : Int) (x8 : Bool) : Option (List Int) := lim (fun k => slices_pdqsortOrdered_int64.l0 k x0 x1 x2 x3 x8)
theorem slices_pdqsortOrdered_int64.L0_lim (x0 : List Int) (x1 : Int) (x2 : Int) (x3 : Int) (x8 : Bool) : Lim (fun k => slices_pdqsortOrdered_int64.l0 k x0 x1 x2 x3 x8) (slices_pdqsortOrdered_int64.L0 x0 x1 x2 x3 x8) := Lim.of (fun k => (slices_pdqsortOrdered_int64.mono_l k).2 x0 x1 x2 x3 x8)
noncomputable def slices_pdqsortOrdered_int64.F (l0 : List Int) (a1 : Int) (a2 : Int) (a3 : Int) : Option (List Int) := lim (fun k => slices_pdqsortOrdered_int64.f k l0 a1 a2 a3)
theorem slices_pdqsortOrdered_int64.F_lim (l0 : List Int) (a1 : Int) (a2 : Int) (a3 : Int) : Lim (fun k => slices_pdqsortOrdered_int64.f k l0 a1 a2 a3) (slices_pdqsortOrdered_int64.F l0 a1 a2 a3) := Lim.of (fun k => (slices_pdqsortOrdered_int64.mono_l k).1 l0 a1 a2 a3)
theorem slices_pdqsortOrdered_int64.L0_eq (x0 : List Int) (x1 : Int) (x2 : Int) (x3 : Int) (x8 : Bool) : slices_pdqsortOrdered_int64.L0 x0 x1 x2 x3 x8 = if (wrap64 (x2 - x1)) ≤ 12 then ((slices_insertionSortOrdered_int64.F x0 x1 x2).bind fun t183 => (some t183)) else (if x3 = 0 then (none) else (if x8 = true then (none) else (none))) := by
  refine Lim.step (f := fun k => if (wrap64 (x2 - x1)) ≤ 12 then ((slices_insertionSortOrdered_int64.f k x0 x1 x2).bind fun t183 => (some t183)) else (if x3 = 0 then (none) else (if x8 = true then (none) else (none)))) (fun k => (slices_pdqsortOrdered_int64.mono_l k).2 x0 x1 x2 x3 x8) (fun k => by simp only [slices_pdqsortOrdered_int64.l0]) ?_
  repeat' first
    | with_reducible exact Lim.const _
    | with_reducible exact slices_insertionSortOrdered_int64.F_lim _ _ _
    | with_reducible refine Lim.ite ?_ ?_
    | with_reducible refine Lim.bind ?_ (fun _ => ?_)
theorem slices_pdqsortOrdered_int64.F_eq (l0 : List Int) (a1 : Int) (a2 : Int) (a3 : Int) : slices_pdqsortOrdered_int64.F l0 a1 a2 a3 = slices_pdqsortOrdered_int64.L0 l0 a1 a2 a3 true := by
  refine Lim.step (f := fun k => slices_pdqsortOrdered_int64.l0 k l0 a1 a2 a3 true) (fun k => (slices_pdqsortOrdered_int64.mono_l k).1 l0 a1 a2 a3) (fun k => by simp only [slices_pdqsortOrdered_int64.f]) ?_
  repeat' first
    | with_reducible exact Lim.const _
    | with_reducible exact slices_pdqsortOrdered_int64.L0_lim _ _ _ _ _
    | with_reducible refine Lim.ite ?_ ?_
    | with_reducible refine Lim.bind ?_ (fun _ => ?_)

noncomputable def slices_Sort_int64_int64.F (l0 : List Int) : Option (List Int) := lim (fun k => slices_Sort_int64_int64.f k l0)
theorem slices_Sort_int64_int64.F_lim (l0 : List Int) : Lim (fun k => slices_Sort_int64_int64.f k l0) (slices_Sort_int64_int64.F l0) := Lim.of (fun k => slices_Sort_int64_int64.mono l0 k)
theorem slices_Sort_int64_int64.F_eq (l0 : List Int) : slices_Sort_int64_int64.F l0 = (bits_Len.f (IntKind.u64.wrap ((l0.length : Int)))).bind fun t184 => ((slices_pdqsortOrdered_int64.F l0 0 (l0.length : Int) t184).bind fun t185 => (some t185)) := by
  refine Lim.eq (g := fun k => slices_Sort_int64_int64.f k l0) ?_
  unfold slices_Sort_int64_int64.f
  repeat' first
    | with_reducible exact Lim.const _
    | with_reducible exact slices_pdqsortOrdered_int64.F_lim _ _ _ _
    | with_reducible refine Lim.ite ?_ ?_
    | with_reducible refine Lim.bind ?_ (fun _ => ?_)

noncomputable def impl_MarkFlaw.F (a0_0 : Int) (l0_1 : List Int) (a1 : Int) : Option (Int × List Int × Int) := lim (fun k => impl_MarkFlaw.f k a0_0 l0_1 a1)
theorem impl_MarkFlaw.F_lim (a0_0 : Int) (l0_1 : List Int) (a1 : Int) : Lim (fun k => impl_MarkFlaw.f k a0_0 l0_1 a1) (impl_MarkFlaw.F a0_0 l0_1 a1) := Lim.of (fun k => impl_MarkFlaw.mono a0_0 l0_1 a1 k)
theorem impl_MarkFlaw.F_eq (a0_0 : Int) (l0_1 : List Int) (a1 : Int) : impl_MarkFlaw.F a0_0 l0_1 a1 = (impl_validBolt.F a0_0 l0_1).bind fun t188 => (if t188 = true then ((impl_within.f a1 1 (wrap64 (a0_0 - 1))).bind fun t189 => (if t189 = true then ((slices_Contains_int64_int64.F l0_1 a1).bind fun t190 => (if t190 = true then (some (0, ([] : List Int), 4)) else (if (l0_1.length : Int) = 6 then (some (0, ([] : List Int), 5)) else ((some (([] : List Int) : List Int)).bind fun y191 => (if y191.length + l0_1.length < 17592186044416 then ((some (y191 ++ l0_1 : List Int)).bind fun y194 => ((some (([a1] : List Int) : List Int)).bind fun y197 => (if y194.length + y197.length < 17592186044416 then ((slices_Sort_int64_int64.F (y194 ++ y197)).bind fun t204 => (some (a0_0, t204, 0))) else (none)))) else (none)))))) else (some (0, ([] : List Int), 2)))) else (some (0, ([] : List Int), 1))) := by
  refine Lim.eq (g := fun k => impl_MarkFlaw.f k a0_0 l0_1 a1) ?_
  unfold impl_MarkFlaw.f
  repeat' first
    | with_reducible exact Lim.const _
    | with_reducible exact impl_validBolt.F_lim _ _
    | with_reducible exact slices_Contains_int64_int64.F_lim _ _
    | with_reducible exact slices_Sort_int64_int64.F_lim _
    | with_reducible refine Lim.ite ?_ ?_
    | with_reducible refine Lim.bind ?_ (fun _ => ?_)

noncomputable def laws_eqInt64S.L0 (x0 : List Int) (x1 : List Int) (x5 : Int) : Option (Bool) := lim (fun k => laws_eqInt64S.l0 k x0 x1 x5)
theorem laws_eqInt64S.L0_lim (x0 : List Int) (x1 : List Int) (x5 : Int) : Lim (fun k => laws_eqInt64S.l0 k x0 x1 x5) (laws_eqInt64S.L0 x0 x1 x5) := Lim.of (fun k => (laws_eqInt64S.mono_l k) x0 x1 x5)
noncomputable def laws_eqInt64S.F (l0 : List Int) (l1 : List Int) : Option (Bool) := lim (fun k => laws_eqInt64S.f k l0 l1)
theorem laws_eqInt64S.F_lim (l0 : List Int) (l1 : List Int) : Lim (fun k => laws_eqInt64S.f k l0 l1) (laws_eqInt64S.F l0 l1) := Lim.of (fun k => laws_eqInt64S.mono l0 l1 k)
theorem laws_eqInt64S.L0_eq (x0 : List Int) (x1 : List Int) (x5 : Int) : laws_eqInt64S.L0 x0 x1 x5 = if x5 < (x0.length : Int) then (if 0 ≤ x5 then (if x5 < (x1.length : Int) then (if (rd x0 x5) = (rd x1 x5) then (laws_eqInt64S.L0 x0 x1 (wrap64 (x5 + 1))) else (some false)) else (none)) else (none)) else (some true) := by
  refine Lim.step (f := fun k => if x5 < (x0.length : Int) then (if 0 ≤ x5 then (if x5 < (x1.length : Int) then (if (rd x0 x5) = (rd x1 x5) then (laws_eqInt64S.l0 k x0 x1 (wrap64 (x5 + 1))) else (some false)) else (none)) else (none)) else (some true)) (fun k => (laws_eqInt64S.mono_l k) x0 x1 x5) (fun k => by simp only [laws_eqInt64S.l0]) ?_
  repeat' first
    | with_reducible exact Lim.const _
    | with_reducible exact laws_eqInt64S.L0_lim _ _ _
    | with_reducible refine Lim.ite ?_ ?_
    | with_reducible refine Lim.bind ?_ (fun _ => ?_)
theorem laws_eqInt64S.F_eq (l0 : List Int) (l1 : List Int) : laws_eqInt64S.F l0 l1 = if (l0.length : Int) = (l1.length : Int) then (laws_eqInt64S.L0 l0 l1 0) else (some false) := by
  refine Lim.eq (g := fun k => laws_eqInt64S.f k l0 l1) ?_
  unfold laws_eqInt64S.f
  repeat' first
    | with_reducible exact Lim.const _
    | with_reducible exact laws_eqInt64S.L0_lim _ _ _
    | with_reducible refine Lim.ite ?_ ?_
    | with_reducible refine Lim.bind ?_ (fun _ => ?_)

noncomputable def laws_eqBolt.F (a0_0 : Int) (l0_1 : List Int) (a1_0 : Int) (l1_1 : List Int) : Option (Bool) := lim (fun k => laws_eqBolt.f k a0_0 l0_1 a1_0 l1_1)
theorem laws_eqBolt.F_lim (a0_0 : Int) (l0_1 : List Int) (a1_0 : Int) (l1_1 : List Int) : Lim (fun k => laws_eqBolt.f k a0_0 l0_1 a1_0 l1_1) (laws_eqBolt.F a0_0 l0_1 a1_0 l1_1) := Lim.of (fun k => laws_eqBolt.mono a0_0 l0_1 a1_0 l1_1 k)
theorem laws_eqBolt.F_eq (a0_0 : Int) (l0_1 : List Int) (a1_0 : Int) (l1_1 : List Int) : laws_eqBolt.F a0_0 l0_1 a1_0 l1_1 = if a0_0 = a1_0 then ((laws_eqInt64S.F l0_1 l1_1).bind fun t209 => (if t209 = true then (some true) else (some false))) else (some false) := by
  refine Lim.eq (g := fun k => laws_eqBolt.f k a0_0 l0_1 a1_0 l1_1) ?_
  unfold laws_eqBolt.f
  repeat' first
    | with_reducible exact Lim.const _
    | with_reducible exact laws_eqInt64S.F_lim _ _
    | with_reducible refine Lim.ite ?_ ?_
    | with_reducible refine Lim.bind ?_ (fun _ => ?_)

noncomputable def laws_markInt64S.L0 (x0 : List Int) (x1 : Int) (x5 : Int) : Option (Int × List Int) := lim (fun k => laws_markInt64S.l0 k x0 x1 x5)
theorem laws_markInt64S.L0_lim (x0 : List Int) (x1 : Int) (x5 : Int) : Lim (fun k => laws_markInt64S.l0 k x0 x1 x5) (laws_markInt64S.L0 x0 x1 x5) := Lim.of (fun k => (laws_markInt64S.mono_l k) x0 x1 x5)
noncomputable def laws_markInt64S.F (l0 : List Int) (a1 : Int) : Option (Int × List Int) := lim (fun k => laws_markInt64S.f k l0 a1)
theorem laws_markInt64S.F_lim (l0 : List Int) (a1 : Int) : Lim (fun k => laws_markInt64S.f k l0 a1) (laws_markInt64S.F l0 a1) := Lim.of (fun k => laws_markInt64S.mono l0 a1 k)
theorem laws_markInt64S.L0_eq (x0 : List Int) (x1 : Int) (x5 : Int) : laws_markInt64S.L0 x0 x1 x5 = if x5 < (x0.length : Int) then (if 0 ≤ x5 then (laws_markInt64S.L0 (x0.set (x5 : Int).toNat x1) (wrap64 (x1 + 1)) (wrap64 (x5 + 1))) else (none)) else (some (x1, x0)) := by
  refine Lim.step (f := fun k => if x5 < (x0.length : Int) then (if 0 ≤ x5 then (laws_markInt64S.l0 k (x0.set (x5 : Int).toNat x1) (wrap64 (x1 + 1)) (wrap64 (x5 + 1))) else (none)) else (some (x1, x0))) (fun k => (laws_markInt64S.mono_l k) x0 x1 x5) (fun k => by simp only [laws_markInt64S.l0]) ?_
  repeat' first
    | with_reducible exact Lim.const _
    | with_reducible exact laws_markInt64S.L0_lim _ _ _
    | with_reducible refine Lim.ite ?_ ?_
    | with_reducible refine Lim.bind ?_ (fun _ => ?_)
theorem laws_markInt64S.F_eq (l0 : List Int) (a1 : Int) : laws_markInt64S.F l0 a1 = laws_markInt64S.L0 l0 a1 0 := by
  refine Lim.eq (g := fun k => laws_markInt64S.f k l0 a1) ?_
  unfold laws_markInt64S.f
  repeat' first
    | with_reducible exact Lim.const _
    | with_reducible exact laws_markInt64S.L0_lim _ _ _
    | with_reducible refine Lim.ite ?_ ?_
    | with_reducible refine Lim.bind ?_ (fun _ => ?_)

noncomputable def laws_markBolt.F (a0_0 : Int) (l0_1 : List Int) (a1 : Int) : Option (Int × List Int) := lim (fun k => laws_markBolt.f k a0_0 l0_1 a1)
theorem laws_markBolt.F_lim (a0_0 : Int) (l0_1 : List Int) (a1 : Int) : Lim (fun k => laws_markBolt.f k a0_0 l0_1 a1) (laws_markBolt.F a0_0 l0_1 a1) := Lim.of (fun k => laws_markBolt.mono a0_0 l0_1 a1 k)
theorem laws_markBolt.F_eq (a0_0 : Int) (l0_1 : List Int) (a1 : Int) : laws_markBolt.F a0_0 l0_1 a1 = (laws_markInt64S.F l0_1 a1).bind fun bt212 => (some (bt212.1, bt212.2)) := by
  refine Lim.eq (g := fun k => laws_markBolt.f k a0_0 l0_1 a1) ?_
  unfold laws_markBolt.f
  repeat' first
    | with_reducible exact Lim.const _
    | with_reducible exact laws_markInt64S.F_lim _ _
    | with_reducible refine Lim.ite ?_ ?_
    | with_reducible refine Lim.bind ?_ (fun _ => ?_)

noncomputable def laws_heldInt64S.L0 (x0 : List Int) (x1 : Int) (x5 : Int) : Option (Int) := lim (fun k => laws_heldInt64S.l0 k x0 x1 x5)
theorem laws_heldInt64S.L0_lim (x0 : List Int) (x1 : Int) (x5 : Int) : Lim (fun k => laws_heldInt64S.l0 k x0 x1 x5) (laws_heldInt64S.L0 x0 x1 x5) := Lim.of (fun k => (laws_heldInt64S.mono_l k) x0 x1 x5)
noncomputable def laws_heldInt64S.F (l0 : List Int) (a1 : Int) : Option (Int) := lim (fun k => laws_heldInt64S.f k l0 a1)
theorem laws_heldInt64S.F_lim (l0 : List Int) (a1 : Int) : Lim (fun k => laws_heldInt64S.f k l0 a1) (laws_heldInt64S.F l0 a1) := Lim.of (fun k => laws_heldInt64S.mono l0 a1 k)
theorem laws_heldInt64S.L0_eq (x0 : List Int) (x1 : Int) (x5 : Int) : laws_heldInt64S.L0 x0 x1 x5 = if x5 < (x0.length : Int) then (if 0 ≤ x5 then (if (rd x0 x5) = x1 then (laws_heldInt64S.L0 x0 (wrap64 (x1 + 1)) (wrap64 (x5 + 1))) else (some (-1))) else (none)) else (some x1) := by
  refine Lim.step (f := fun k => if x5 < (x0.length : Int) then (if 0 ≤ x5 then (if (rd x0 x5) = x1 then (laws_heldInt64S.l0 k x0 (wrap64 (x1 + 1)) (wrap64 (x5 + 1))) else (some (-1))) else (none)) else (some x1)) (fun k => (laws_heldInt64S.mono_l k) x0 x1 x5) (fun k => by simp only [laws_heldInt64S.l0]) ?_
  repeat' first
    | with_reducible exact Lim.const _
    | with_reducible exact laws_heldInt64S.L0_lim _ _ _
    | with_reducible refine Lim.ite ?_ ?_
    | with_reducible refine Lim.bind ?_ (fun _ => ?_)
theorem laws_heldInt64S.F_eq (l0 : List Int) (a1 : Int) : laws_heldInt64S.F l0 a1 = laws_heldInt64S.L0 l0 a1 0 := by
  refine Lim.eq (g := fun k => laws_heldInt64S.f k l0 a1) ?_
  unfold laws_heldInt64S.f
  repeat' first
    | with_reducible exact Lim.const _
    | with_reducible exact laws_heldInt64S.L0_lim _ _ _
    | with_reducible refine Lim.ite ?_ ?_
    | with_reducible refine Lim.bind ?_ (fun _ => ?_)

noncomputable def laws_heldBolt.F (a0_0 : Int) (l0_1 : List Int) (a1 : Int) : Option (Int) := lim (fun k => laws_heldBolt.f k a0_0 l0_1 a1)
theorem laws_heldBolt.F_lim (a0_0 : Int) (l0_1 : List Int) (a1 : Int) : Lim (fun k => laws_heldBolt.f k a0_0 l0_1 a1) (laws_heldBolt.F a0_0 l0_1 a1) := Lim.of (fun k => laws_heldBolt.mono a0_0 l0_1 a1 k)
theorem laws_heldBolt.F_eq (a0_0 : Int) (l0_1 : List Int) (a1 : Int) : laws_heldBolt.F a0_0 l0_1 a1 = (laws_heldInt64S.F l0_1 a1).bind fun t216 => (if t216 < 0 then (some (-1)) else (some t216)) := by
  refine Lim.eq (g := fun k => laws_heldBolt.f k a0_0 l0_1 a1) ?_
  unfold laws_heldBolt.f
  repeat' first
    | with_reducible exact Lim.const _
    | with_reducible exact laws_heldInt64S.F_lim _ _
    | with_reducible refine Lim.ite ?_ ?_
    | with_reducible refine Lim.bind ?_ (fun _ => ?_)

noncomputable def laws_FnExactMarkFlaw.J0 (x1 : Int) (x7 : Int) (x10 : Int) (x44 : Bool) (x218000 : Int) (x218001 : List Int) (x229000 : Int) (x229001 : List Int) (x234000 : Int) (x234001 : List Int) (x240000 : Int) (x240001 : List Int) : Option (Bool) := lim (fun k => laws_FnExactMarkFlaw.j0 k x1 x7 x10 x44 x218000 x218001 x229000 x229001 x234000 x234001 x240000 x240001)
theorem laws_FnExactMarkFlaw.J0_lim (x1 : Int) (x7 : Int) (x10 : Int) (x44 : Bool) (x218000 : Int) (x218001 : List Int) (x229000 : Int) (x229001 : List Int) (x234000 : Int) (x234001 : List Int) (x240000 : Int) (x240001 : List Int) : Lim (fun k => laws_FnExactMarkFlaw.j0 k x1 x7 x10 x44 x218000 x218001 x229000 x229001 x234000 x234001 x240000 x240001) (laws_FnExactMarkFlaw.J0 x1 x7 x10 x44 x218000 x218001 x229000 x229001 x234000 x234001 x240000 x240001) := Lim.of (fun k => (laws_FnExactMarkFlaw.mono_l k).1 x1 x7 x10 x44 x218000 x218001 x229000 x229001 x234000 x234001 x240000 x240001)
noncomputable def laws_FnExactMarkFlaw.J1 (x1 : Int) (x7 : Int) (x65 : Bool) (x218000 : Int) (x218001 : List Int) (x229000 : Int) (x229001 : List Int) (x240000 : Int) (x240001 : List Int) : Option (Bool) := lim (fun k => laws_FnExactMarkFlaw.j1 k x1 x7 x65 x218000 x218001 x229000 x229001 x240000 x240001)
theorem laws_FnExactMarkFlaw.J1_lim (x1 : Int) (x7 : Int) (x65 : Bool) (x218000 : Int) (x218001 : List Int) (x229000 : Int) (x229001 : List Int) (x240000 : Int) (x240001 : List Int) : Lim (fun k => laws_FnExactMarkFlaw.j1 k x1 x7 x65 x218000 x218001 x229000 x229001 x240000 x240001) (laws_FnExactMarkFlaw.J1 x1 x7 x65 x218000 x218001 x229000 x229001 x240000 x240001) := Lim.of (fun k => (laws_FnExactMarkFlaw.mono_l k).2.1 x1 x7 x65 x218000 x218001 x229000 x229001 x240000 x240001)
noncomputable def laws_FnExactMarkFlaw.J2 (x12 : Int) (x92 : Bool) (x240000 : Int) (x240001 : List Int) : Option (Bool) := lim (fun k => laws_FnExactMarkFlaw.j2 k x12 x92 x240000 x240001)
theorem laws_FnExactMarkFlaw.J2_lim (x12 : Int) (x92 : Bool) (x240000 : Int) (x240001 : List Int) : Lim (fun k => laws_FnExactMarkFlaw.j2 k x12 x92 x240000 x240001) (laws_FnExactMarkFlaw.J2 x12 x92 x240000 x240001) := Lim.of (fun k => (laws_FnExactMarkFlaw.mono_l k).2.2 x12 x92 x240000 x240001)
noncomputable def laws_FnExactMarkFlaw.F (a0_0 : Int) (l0_1 : List Int) (a1 : Int) : Option (Bool) := lim (fun k => laws_FnExactMarkFlaw.f k a0_0 l0_1 a1)
theorem laws_FnExactMarkFlaw.F_lim (a0_0 : Int) (l0_1 : List Int) (a1 : Int) : Lim (fun k => laws_FnExactMarkFlaw.f k a0_0 l0_1 a1) (laws_FnExactMarkFlaw.F a0_0 l0_1 a1) := Lim.of (fun k => laws_FnExactMarkFlaw.mono a0_0 l0_1 a1 k)
theorem laws_FnExactMarkFlaw.J0_eq (x1 : Int) (x7 : Int) (x10 : Int) (x44 : Bool) (x218000 : Int) (x218001 : List Int) (x229000 : Int) (x229001 : List Int) (x234000 : Int) (x234001 : List Int) (x240000 : Int) (x240001 : List Int) : laws_FnExactMarkFlaw.J0 x1 x7 x10 x44 x218000 x218001 x229000 x229001 x234000 x234001 x240000 x240001 = if x44 = true then (some false) else ((laws_toBolt.F x218000 x218001).bind fun bt241 => ((laws_eqBolt.F x234000 x234001 bt241.1 bt241.2).bind fun t245 => (if t245 = true then ((laws_markBolt.F x234000 x234001 1).bind fun bt246 => (if bt246.1 < 0 then (laws_FnExactMarkFlaw.J1 x1 x7 true x218000 x218001 x229000 x229001 x240000 x240001) else ((laws_eqBolt.F x240000 x240001 x229000 x229001).bind fun t248 => (if t248 = true then (laws_FnExactMarkFlaw.J1 x1 x7 (x10 != x7) x218000 x218001 x229000 x229001 x240000 x240001) else (laws_FnExactMarkFlaw.J1 x1 x7 true x218000 x218001 x229000 x229001 x240000 x240001))))) else (some false)))) := by
  refine Lim.step (f := fun k => if x44 = true then (some false) else ((laws_toBolt.f k x218000 x218001).bind fun bt241 => ((laws_eqBolt.f k x234000 x234001 bt241.1 bt241.2).bind fun t245 => (if t245 = true then ((laws_markBolt.f k x234000 x234001 1).bind fun bt246 => (if bt246.1 < 0 then (laws_FnExactMarkFlaw.j1 k x1 x7 true x218000 x218001 x229000 x229001 x240000 x240001) else ((laws_eqBolt.f k x240000 x240001 x229000 x229001).bind fun t248 => (if t248 = true then (laws_FnExactMarkFlaw.j1 k x1 x7 (x10 != x7) x218000 x218001 x229000 x229001 x240000 x240001) else (laws_FnExactMarkFlaw.j1 k x1 x7 true x218000 x218001 x229000 x229001 x240000 x240001))))) else (some false))))) (fun k => (laws_FnExactMarkFlaw.mono_l k).1 x1 x7 x10 x44 x218000 x218001 x229000 x229001 x234000 x234001 x240000 x240001) (fun k => by simp only [laws_FnExactMarkFlaw.j0]) ?_
  repeat' first
    | with_reducible exact Lim.const _
    | with_reducible exact laws_FnExactMarkFlaw.J1_lim _ _ _ _ _ _ _ _ _
    | with_reducible exact laws_eqBolt.F_lim _ _ _ _
    | with_reducible exact laws_markBolt.F_lim _ _ _
    | with_reducible exact laws_toBolt.F_lim _ _
    | with_reducible refine Lim.ite ?_ ?_
    | with_reducible refine Lim.bind ?_ (fun _ => ?_)
theorem laws_FnExactMarkFlaw.J1_eq (x1 : Int) (x7 : Int) (x65 : Bool) (x218000 : Int) (x218001 : List Int) (x229000 : Int) (x229001 : List Int) (x240000 : Int) (x240001 : List Int) : laws_FnExactMarkFlaw.J1 x1 x7 x65 x218000 x218001 x229000 x229001 x240000 x240001 = if x65 = true then (some false) else ((laws_markBolt.F x240000 x240001 1).bind fun bt249 => ((laws_heldBolt.F x240000 bt249.2 1).bind fun t251 => (if t251 < 0 then (some false) else (if t251 = bt249.1 then ((laws_toBolt.F x218000 x218001).bind fun bt252 => ((impl_MarkFlaw.F bt252.1 bt252.2 x1).bind fun bt256 => ((laws_eqBolt.F bt256.1 bt256.2.1 x229000 x229001).bind fun t262 => (if t262 = true then (laws_FnExactMarkFlaw.J2 bt249.1 (bt256.2.2 != x7) x240000 bt249.2) else (laws_FnExactMarkFlaw.J2 bt249.1 true x240000 bt249.2))))) else (some false))))) := by
  refine Lim.step (f := fun k => if x65 = true then (some false) else ((laws_markBolt.f k x240000 x240001 1).bind fun bt249 => ((laws_heldBolt.f k x240000 bt249.2 1).bind fun t251 => (if t251 < 0 then (some false) else (if t251 = bt249.1 then ((laws_toBolt.f k x218000 x218001).bind fun bt252 => ((impl_MarkFlaw.f k bt252.1 bt252.2 x1).bind fun bt256 => ((laws_eqBolt.f k bt256.1 bt256.2.1 x229000 x229001).bind fun t262 => (if t262 = true then (laws_FnExactMarkFlaw.j2 k bt249.1 (bt256.2.2 != x7) x240000 bt249.2) else (laws_FnExactMarkFlaw.j2 k bt249.1 true x240000 bt249.2))))) else (some false)))))) (fun k => (laws_FnExactMarkFlaw.mono_l k).2.1 x1 x7 x65 x218000 x218001 x229000 x229001 x240000 x240001) (fun k => by simp only [laws_FnExactMarkFlaw.j1]) ?_
  repeat' first
    | with_reducible exact Lim.const _
    | with_reducible exact impl_MarkFlaw.F_lim _ _ _
    | with_reducible exact laws_FnExactMarkFlaw.J2_lim _ _ _ _
    | with_reducible exact laws_eqBolt.F_lim _ _ _ _
    | with_reducible exact laws_heldBolt.F_lim _ _ _
    | with_reducible exact laws_markBolt.F_lim _ _ _
    | with_reducible exact laws_toBolt.F_lim _ _
    | with_reducible refine Lim.ite ?_ ?_
    | with_reducible refine Lim.bind ?_ (fun _ => ?_)
theorem laws_FnExactMarkFlaw.J2_eq (x12 : Int) (x92 : Bool) (x240000 : Int) (x240001 : List Int) : laws_FnExactMarkFlaw.J2 x12 x92 x240000 x240001 = if x92 = true then (some false) else ((laws_heldBolt.F x240000 x240001 1).bind fun t263 => (if t263 < 0 then (some false) else (if t263 = x12 then (some true) else (some false)))) := by
  refine Lim.step (f := fun k => if x92 = true then (some false) else ((laws_heldBolt.f k x240000 x240001 1).bind fun t263 => (if t263 < 0 then (some false) else (if t263 = x12 then (some true) else (some false))))) (fun k => (laws_FnExactMarkFlaw.mono_l k).2.2 x12 x92 x240000 x240001) (fun k => by simp only [laws_FnExactMarkFlaw.j2]) ?_
  repeat' first
    | with_reducible exact Lim.const _
    | with_reducible exact laws_heldBolt.F_lim _ _ _
    | with_reducible refine Lim.ite ?_ ?_
    | with_reducible refine Lim.bind ?_ (fun _ => ?_)
theorem laws_FnExactMarkFlaw.F_eq (a0_0 : Int) (l0_1 : List Int) (a1 : Int) : laws_FnExactMarkFlaw.F a0_0 l0_1 a1 = (laws_szBolt.f a0_0 l0_1 1048576).bind fun t218 => (if t218 < 0 then (some true) else ((laws_toBolt.F a0_0 l0_1).bind fun bt219 => ((spec_MarkFlaw.F bt219.1 bt219.2 a1).bind fun bt223 => ((laws_toBolt.F a0_0 l0_1).bind fun bt229 => ((impl_MarkFlaw.F bt229.1 bt229.2 a1).bind fun bt234 => ((laws_eqBolt.F bt234.1 bt234.2.1 bt223.1 bt223.2.1).bind fun t240 => (if t240 = true then (laws_FnExactMarkFlaw.J0 a1 bt223.2.2 bt234.2.2 (bt234.2.2 != bt223.2.2) a0_0 l0_1 bt223.1 bt223.2.1 bt229.1 bt229.2 bt234.1 bt234.2.1) else (laws_FnExactMarkFlaw.J0 a1 bt223.2.2 bt234.2.2 true a0_0 l0_1 bt223.1 bt223.2.1 bt229.1 bt229.2 bt234.1 bt234.2.1)))))))) := by
  refine Lim.eq (g := fun k => laws_FnExactMarkFlaw.f k a0_0 l0_1 a1) ?_
  unfold laws_FnExactMarkFlaw.f
  repeat' first
    | with_reducible exact Lim.const _
    | with_reducible exact impl_MarkFlaw.F_lim _ _ _
    | with_reducible exact laws_FnExactMarkFlaw.J0_lim _ _ _ _ _ _ _ _ _ _ _ _
    | with_reducible exact laws_eqBolt.F_lim _ _ _ _
    | with_reducible exact laws_toBolt.F_lim _ _
    | with_reducible exact spec_MarkFlaw.F_lim _ _ _
    | with_reducible refine Lim.ite ?_ ?_
    | with_reducible refine Lim.bind ?_ (fun _ => ?_)

end Go.Proofs.Ytbhijlhlopljmaa.PFnExactMarkFlaw
