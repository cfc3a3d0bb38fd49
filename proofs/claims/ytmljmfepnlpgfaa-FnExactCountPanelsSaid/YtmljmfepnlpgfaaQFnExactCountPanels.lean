/-
  Written by a program of this session (wip/tools/lims.py): the printed functions without their bound on rounds.
-/
import Derived.Test.YtmljmfepnlpgfaaPFnExactCountPanelsx1
import Derived.Test.YtmljmfepnlpgfaaPFnExactCountPanelsx2
import Derived.Test.YtmljmfepnlpgfaaPFnExactCountPanelsx3
import Derived.Test.YtmljmfepnlpgfaaPFnExactCountPanelsx4
import Derived.Test.YtmljmfepnlpgfaaPFnExactCountPanelsx5
import Derived.Test.YtmljmfepnlpgfaaPFnExactCountPanelsx6
import Derived.Test.YtmljmfepnlpgfaaPFnExactCountPanelsx7
import Derived.Test.YtmljmfepnlpgfaaPFnExactCountPanelsx8
import Derived.Test.YtmljmfepnlpgfaaPFnExactCountPanelsx9
import Derived.Test.YtmljmfepnlpgfaaPFnExactCountPanelsx10
import Derived.Test.YtmljmfepnlpgfaaPFnExactCountPanelsx11
import Derived.Test.YtmljmfepnlpgfaaKit
set_option linter.unusedVariables false
set_option linter.unusedSimpArgs false
namespace Go.Proofs.Ytmljmfepnlpgfaa.PFnExactCountPanels
open Go.RowKit Go.Proofs.Ytmljmfepnlpgfaa.Kit Go.Proofs.YtmljmfepnlpgfaaW.PrintWords Go.Proofs.YtmljmfepnlpgfaaW.PrintLast Go.Proofs.YtmljmfepnlpgfaaW.PrintMore

noncomputable def spec_l13Twice.L0 (x0 : List (S51)) (x3 : Int) (x4 : Int) : Option (Int) := lim (fun k => spec_l13Twice.l0 k x0 x3 x4)
theorem spec_l13Twice.L0_lim (x0 : List (S51)) (x3 : Int) (x4 : Int) : Lim (fun k => spec_l13Twice.l0 k x0 x3 x4) (spec_l13Twice.L0 x0 x3 x4) := Lim.of (fun k => (spec_l13Twice.mono_l k) x0 x3 x4)
noncomputable def spec_l13Twice.F (l0 : List (S51)) : Option (Int) := lim (fun k => spec_l13Twice.f k l0)
theorem spec_l13Twice.F_lim (l0 : List (S51)) : Lim (fun k => spec_l13Twice.f k l0) (spec_l13Twice.F l0) := Lim.of (fun k => spec_l13Twice.mono l0 k)
theorem spec_l13Twice.L0_eq (x0 : List (S51)) (x3 : Int) (x4 : Int) : spec_l13Twice.L0 x0 x3 x4 = if x4 < (x0.length : Int) then (if (x0.length : Int) = 0 then (none) else (if 0 ≤ (Int.tmod (wrap64 (x4 + 1)) (x0.length : Int)) then (if (Int.tmod (wrap64 (x4 + 1)) (x0.length : Int)) < (x0.length : Int) then (if 0 ≤ x4 then (spec_l13Twice.L0 x0 (wrap64 (x3 + (wrap64 ((wrap64 (((rd_T51 x0 x4).f0) * ((rd_T51 x0 (Int.tmod (wrap64 (x4 + 1)) (x0.length : Int))).f1))) - (wrap64 (((rd_T51 x0 (Int.tmod (wrap64 (x4 + 1)) (x0.length : Int))).f0) * ((rd_T51 x0 x4).f1))))))) (wrap64 (x4 + 1))) else (none)) else (none)) else (none))) else (some x3) := by
  refine Lim.step (f := fun k => if x4 < (x0.length : Int) then (if (x0.length : Int) = 0 then (none) else (if 0 ≤ (Int.tmod (wrap64 (x4 + 1)) (x0.length : Int)) then (if (Int.tmod (wrap64 (x4 + 1)) (x0.length : Int)) < (x0.length : Int) then (if 0 ≤ x4 then (spec_l13Twice.l0 k x0 (wrap64 (x3 + (wrap64 ((wrap64 (((rd_T51 x0 x4).f0) * ((rd_T51 x0 (Int.tmod (wrap64 (x4 + 1)) (x0.length : Int))).f1))) - (wrap64 (((rd_T51 x0 (Int.tmod (wrap64 (x4 + 1)) (x0.length : Int))).f0) * ((rd_T51 x0 x4).f1))))))) (wrap64 (x4 + 1))) else (none)) else (none)) else (none))) else (some x3)) (fun k => (spec_l13Twice.mono_l k) x0 x3 x4) (fun k => by simp only [spec_l13Twice.l0]) ?_
  repeat' first
    | with_reducible exact Lim.const _
    | with_reducible exact spec_l13Twice.L0_lim _ _ _
    | with_reducible refine Lim.ite ?_ ?_
    | with_reducible refine Lim.bind ?_ (fun _ => ?_)
theorem spec_l13Twice.F_eq (l0 : List (S51)) : spec_l13Twice.F l0 = spec_l13Twice.L0 l0 0 0 := by
  refine Lim.eq (g := fun k => spec_l13Twice.f k l0) ?_
  unfold spec_l13Twice.f
  repeat' first
    | with_reducible exact Lim.const _
    | with_reducible exact spec_l13Twice.L0_lim _ _ _
    | with_reducible refine Lim.ite ?_ ?_
    | with_reducible refine Lim.bind ?_ (fun _ => ?_)

noncomputable def spec_l13Meet.J0 (x30 : Bool) (x125000 : Int) (x125001 : Int) (x126000 : Int) (x126001 : Int) (x127000 : Int) (x127001 : Int) (x128000 : Int) (x128001 : Int) : Option (Bool) := lim (fun k => spec_l13Meet.j0 k x30 x125000 x125001 x126000 x126001 x127000 x127001 x128000 x128001)
theorem spec_l13Meet.J0_lim (x30 : Bool) (x125000 : Int) (x125001 : Int) (x126000 : Int) (x126001 : Int) (x127000 : Int) (x127001 : Int) (x128000 : Int) (x128001 : Int) : Lim (fun k => spec_l13Meet.j0 k x30 x125000 x125001 x126000 x126001 x127000 x127001 x128000 x128001) (spec_l13Meet.J0 x30 x125000 x125001 x126000 x126001 x127000 x127001 x128000 x128001) := Lim.of (fun k => (spec_l13Meet.mono_l k) x30 x125000 x125001 x126000 x126001 x127000 x127001 x128000 x128001)
noncomputable def spec_l13Meet.F (a0_0 : Int) (a0_1 : Int) (a1_0 : Int) (a1_1 : Int) (a2_0 : Int) (a2_1 : Int) (a3_0 : Int) (a3_1 : Int) : Option (Bool) := lim (fun k => spec_l13Meet.f k a0_0 a0_1 a1_0 a1_1 a2_0 a2_1 a3_0 a3_1)
theorem spec_l13Meet.F_lim (a0_0 : Int) (a0_1 : Int) (a1_0 : Int) (a1_1 : Int) (a2_0 : Int) (a2_1 : Int) (a3_0 : Int) (a3_1 : Int) : Lim (fun k => spec_l13Meet.f k a0_0 a0_1 a1_0 a1_1 a2_0 a2_1 a3_0 a3_1) (spec_l13Meet.F a0_0 a0_1 a1_0 a1_1 a2_0 a2_1 a3_0 a3_1) := Lim.of (fun k => spec_l13Meet.mono a0_0 a0_1 a1_0 a1_1 a2_0 a2_1 a3_0 a3_1 k)
theorem spec_l13Meet.J0_eq (x30 : Bool) (x125000 : Int) (x125001 : Int) (x126000 : Int) (x126001 : Int) (x127000 : Int) (x127001 : Int) (x128000 : Int) (x128001 : Int) : spec_l13Meet.J0 x30 x125000 x125001 x126000 x126001 x127000 x127001 x128000 x128001 = if x30 = true then (some true) else ((spec_l13Sides.f x125000 x125001 x126000 x126001 x127000 x127001 x128000 x128001).bind fun t132 => (if t132 = true then ((spec_l13Sides.f x127000 x127001 x128000 x128001 x125000 x125001 x126000 x126001).bind fun t133 => (some t133)) else (some false))) := by
  refine Lim.step (f := fun k => if x30 = true then (some true) else ((spec_l13Sides.f x125000 x125001 x126000 x126001 x127000 x127001 x128000 x128001).bind fun t132 => (if t132 = true then ((spec_l13Sides.f x127000 x127001 x128000 x128001 x125000 x125001 x126000 x126001).bind fun t133 => (some t133)) else (some false)))) (fun k => (spec_l13Meet.mono_l k) x30 x125000 x125001 x126000 x126001 x127000 x127001 x128000 x128001) (fun k => by simp only [spec_l13Meet.j0]) ?_
  repeat' first
    | with_reducible exact Lim.const _
    | with_reducible refine Lim.ite ?_ ?_
    | with_reducible refine Lim.bind ?_ (fun _ => ?_)
theorem spec_l13Meet.F_eq (a0_0 : Int) (a0_1 : Int) (a1_0 : Int) (a1_1 : Int) (a2_0 : Int) (a2_1 : Int) (a3_0 : Int) (a3_1 : Int) : spec_l13Meet.F a0_0 a0_1 a1_0 a1_1 a2_0 a2_1 a3_0 a3_1 = (spec_l13On.f a0_0 a0_1 a1_0 a1_1 a2_0 a2_1).bind fun t128 => (if t128 = true then (spec_l13Meet.J0 true a0_0 a0_1 a1_0 a1_1 a2_0 a2_1 a3_0 a3_1) else ((spec_l13On.f a0_0 a0_1 a1_0 a1_1 a3_0 a3_1).bind fun t129 => (if t129 = true then (spec_l13Meet.J0 true a0_0 a0_1 a1_0 a1_1 a2_0 a2_1 a3_0 a3_1) else ((spec_l13On.f a2_0 a2_1 a3_0 a3_1 a0_0 a0_1).bind fun t130 => (if t130 = true then (spec_l13Meet.J0 true a0_0 a0_1 a1_0 a1_1 a2_0 a2_1 a3_0 a3_1) else ((spec_l13On.f a2_0 a2_1 a3_0 a3_1 a1_0 a1_1).bind fun t131 => (spec_l13Meet.J0 t131 a0_0 a0_1 a1_0 a1_1 a2_0 a2_1 a3_0 a3_1))))))) := by
  refine Lim.eq (g := fun k => spec_l13Meet.f k a0_0 a0_1 a1_0 a1_1 a2_0 a2_1 a3_0 a3_1) ?_
  unfold spec_l13Meet.f
  repeat' first
    | with_reducible exact Lim.const _
    | with_reducible exact spec_l13Meet.J0_lim _ _ _ _ _ _ _ _ _
    | with_reducible refine Lim.ite ?_ ?_
    | with_reducible refine Lim.bind ?_ (fun _ => ?_)

noncomputable def spec_l13Ok.L0 (x0 : List (S51)) (x3 : Int) (x4 : Int) : Option (Bool) := lim (fun k => spec_l13Ok.l0 k x0 x3 x4)
theorem spec_l13Ok.L0_lim (x0 : List (S51)) (x3 : Int) (x4 : Int) : Lim (fun k => spec_l13Ok.l0 k x0 x3 x4) (spec_l13Ok.L0 x0 x3 x4) := Lim.of (fun k => (spec_l13Ok.mono_l k).1 x0 x3 x4)
noncomputable def spec_l13Ok.L1 (x0 : List (S51)) (x3 : Int) (x5 : Int) : Option (Bool) := lim (fun k => spec_l13Ok.l1 k x0 x3 x5)
theorem spec_l13Ok.L1_lim (x0 : List (S51)) (x3 : Int) (x5 : Int) : Lim (fun k => spec_l13Ok.l1 k x0 x3 x5) (spec_l13Ok.L1 x0 x3 x5) := Lim.of (fun k => (spec_l13Ok.mono_l k).2.1 x0 x3 x5)
noncomputable def spec_l13Ok.L2 (x0 : List (S51)) (x3 : Int) (x5 : Int) (x8 : Int) (x142000 : Int) (x142001 : Int) (x144000 : Int) (x144001 : Int) : Option (Bool) := lim (fun k => spec_l13Ok.l2 k x0 x3 x5 x8 x142000 x142001 x144000 x144001)
theorem spec_l13Ok.L2_lim (x0 : List (S51)) (x3 : Int) (x5 : Int) (x8 : Int) (x142000 : Int) (x142001 : Int) (x144000 : Int) (x144001 : Int) : Lim (fun k => spec_l13Ok.l2 k x0 x3 x5 x8 x142000 x142001 x144000 x144001) (spec_l13Ok.L2 x0 x3 x5 x8 x142000 x142001 x144000 x144001) := Lim.of (fun k => (spec_l13Ok.mono_l k).2.2 x0 x3 x5 x8 x142000 x142001 x144000 x144001)
noncomputable def spec_l13Ok.F (l0 : List (S51)) : Option (Bool) := lim (fun k => spec_l13Ok.f k l0)
theorem spec_l13Ok.F_lim (l0 : List (S51)) : Lim (fun k => spec_l13Ok.f k l0) (spec_l13Ok.F l0) := Lim.of (fun k => spec_l13Ok.mono l0 k)
theorem spec_l13Ok.L0_eq (x0 : List (S51)) (x3 : Int) (x4 : Int) : spec_l13Ok.L0 x0 x3 x4 = if x4 < x3 then (if 0 ≤ x4 then (if x4 < (x0.length : Int) then ((spec_l00In.f ((rd_T51 x0 x4).f0) 0 2000).bind fun t136 => (if t136 = true then ((spec_l00In.f ((rd_T51 x0 x4).f1) 0 2000).bind fun t138 => (if t138 = true then (spec_l13Ok.L0 x0 x3 (wrap64 (x4 + 1))) else (some false))) else (some false))) else (none)) else (none)) else (spec_l13Ok.L1 x0 x3 0) := by
  refine Lim.step (f := fun k => if x4 < x3 then (if 0 ≤ x4 then (if x4 < (x0.length : Int) then ((spec_l00In.f ((rd_T51 x0 x4).f0) 0 2000).bind fun t136 => (if t136 = true then ((spec_l00In.f ((rd_T51 x0 x4).f1) 0 2000).bind fun t138 => (if t138 = true then (spec_l13Ok.l0 k x0 x3 (wrap64 (x4 + 1))) else (some false))) else (some false))) else (none)) else (none)) else (spec_l13Ok.l1 k x0 x3 0)) (fun k => (spec_l13Ok.mono_l k).1 x0 x3 x4) (fun k => by simp only [spec_l13Ok.l0]) ?_
  repeat' first
    | with_reducible exact Lim.const _
    | with_reducible exact spec_l13Ok.L0_lim _ _ _
    | with_reducible exact spec_l13Ok.L1_lim _ _ _
    | with_reducible refine Lim.ite ?_ ?_
    | with_reducible refine Lim.bind ?_ (fun _ => ?_)
theorem spec_l13Ok.L1_eq (x0 : List (S51)) (x3 : Int) (x5 : Int) : spec_l13Ok.L1 x0 x3 x5 = if x5 < x3 then (if 0 ≤ x5 then (if x5 < (x0.length : Int) then (if x3 = 0 then (none) else (if 0 ≤ (Int.tmod (wrap64 (x5 + 1)) x3) then (if (Int.tmod (wrap64 (x5 + 1)) x3) < (x0.length : Int) then (if 0 ≤ (Int.tmod (wrap64 (x5 + 2)) x3) then (if (Int.tmod (wrap64 (x5 + 2)) x3) < (x0.length : Int) then ((spec_l13Cross.f ((rd_T51 x0 x5).f0) ((rd_T51 x0 x5).f1) ((rd_T51 x0 (Int.tmod (wrap64 (x5 + 1)) x3)).f0) ((rd_T51 x0 (Int.tmod (wrap64 (x5 + 1)) x3)).f1) ((rd_T51 x0 (Int.tmod (wrap64 (x5 + 2)) x3)).f0) ((rd_T51 x0 (Int.tmod (wrap64 (x5 + 2)) x3)).f1)).bind fun t145 => (if t145 = 0 then (some false) else (spec_l13Ok.L2 x0 x3 x5 (wrap64 (x5 + 2)) ((rd_T51 x0 x5).f0) ((rd_T51 x0 x5).f1) ((rd_T51 x0 (Int.tmod (wrap64 (x5 + 1)) x3)).f0) ((rd_T51 x0 (Int.tmod (wrap64 (x5 + 1)) x3)).f1)))) else (none)) else (none)) else (none)) else (none))) else (none)) else (none)) else ((spec_l13Twice.F x0).bind fun t139 => (some (decide (t139 > 0)))) := by
  refine Lim.step (f := fun k => if x5 < x3 then (if 0 ≤ x5 then (if x5 < (x0.length : Int) then (if x3 = 0 then (none) else (if 0 ≤ (Int.tmod (wrap64 (x5 + 1)) x3) then (if (Int.tmod (wrap64 (x5 + 1)) x3) < (x0.length : Int) then (if 0 ≤ (Int.tmod (wrap64 (x5 + 2)) x3) then (if (Int.tmod (wrap64 (x5 + 2)) x3) < (x0.length : Int) then ((spec_l13Cross.f ((rd_T51 x0 x5).f0) ((rd_T51 x0 x5).f1) ((rd_T51 x0 (Int.tmod (wrap64 (x5 + 1)) x3)).f0) ((rd_T51 x0 (Int.tmod (wrap64 (x5 + 1)) x3)).f1) ((rd_T51 x0 (Int.tmod (wrap64 (x5 + 2)) x3)).f0) ((rd_T51 x0 (Int.tmod (wrap64 (x5 + 2)) x3)).f1)).bind fun t145 => (if t145 = 0 then (some false) else (spec_l13Ok.l2 k x0 x3 x5 (wrap64 (x5 + 2)) ((rd_T51 x0 x5).f0) ((rd_T51 x0 x5).f1) ((rd_T51 x0 (Int.tmod (wrap64 (x5 + 1)) x3)).f0) ((rd_T51 x0 (Int.tmod (wrap64 (x5 + 1)) x3)).f1)))) else (none)) else (none)) else (none)) else (none))) else (none)) else (none)) else ((spec_l13Twice.f k x0).bind fun t139 => (some (decide (t139 > 0))))) (fun k => (spec_l13Ok.mono_l k).2.1 x0 x3 x5) (fun k => by simp only [spec_l13Ok.l1]) ?_
  repeat' first
    | with_reducible exact Lim.const _
    | with_reducible exact spec_l13Ok.L2_lim _ _ _ _ _ _ _ _
    | with_reducible exact spec_l13Twice.F_lim _
    | with_reducible refine Lim.ite ?_ ?_
    | with_reducible refine Lim.bind ?_ (fun _ => ?_)
theorem spec_l13Ok.L2_eq (x0 : List (S51)) (x3 : Int) (x5 : Int) (x8 : Int) (x142000 : Int) (x142001 : Int) (x144000 : Int) (x144001 : Int) : spec_l13Ok.L2 x0 x3 x5 x8 x142000 x142001 x144000 x144001 = if x8 < x3 then (if x5 > 0 then (if 0 ≤ x8 then (if x8 < (x0.length : Int) then (if x3 = 0 then (none) else (if 0 ≤ (Int.tmod (wrap64 (x8 + 1)) x3) then (if (Int.tmod (wrap64 (x8 + 1)) x3) < (x0.length : Int) then ((spec_l13Meet.F x142000 x142001 x144000 x144001 ((rd_T51 x0 x8).f0) ((rd_T51 x0 x8).f1) ((rd_T51 x0 (Int.tmod (wrap64 (x8 + 1)) x3)).f0) ((rd_T51 x0 (Int.tmod (wrap64 (x8 + 1)) x3)).f1)).bind fun t148 => (if t148 = true then (some false) else (spec_l13Ok.L2 x0 x3 x5 (wrap64 (x8 + 1)) x142000 x142001 x144000 x144001))) else (none)) else (none))) else (none)) else (none)) else (if x8 < (wrap64 (x3 - 1)) then (if 0 ≤ x8 then (if x8 < (x0.length : Int) then (if x3 = 0 then (none) else (if 0 ≤ (Int.tmod (wrap64 (x8 + 1)) x3) then (if (Int.tmod (wrap64 (x8 + 1)) x3) < (x0.length : Int) then ((spec_l13Meet.F x142000 x142001 x144000 x144001 ((rd_T51 x0 x8).f0) ((rd_T51 x0 x8).f1) ((rd_T51 x0 (Int.tmod (wrap64 (x8 + 1)) x3)).f0) ((rd_T51 x0 (Int.tmod (wrap64 (x8 + 1)) x3)).f1)).bind fun t151 => (if t151 = true then (some false) else (spec_l13Ok.L2 x0 x3 x5 (wrap64 (x8 + 1)) x142000 x142001 x144000 x144001))) else (none)) else (none))) else (none)) else (none)) else (spec_l13Ok.L2 x0 x3 x5 (wrap64 (x8 + 1)) x142000 x142001 x144000 x144001))) else (spec_l13Ok.L1 x0 x3 (wrap64 (x5 + 1))) := by
  refine Lim.step (f := fun k => if x8 < x3 then (if x5 > 0 then (if 0 ≤ x8 then (if x8 < (x0.length : Int) then (if x3 = 0 then (none) else (if 0 ≤ (Int.tmod (wrap64 (x8 + 1)) x3) then (if (Int.tmod (wrap64 (x8 + 1)) x3) < (x0.length : Int) then ((spec_l13Meet.f k x142000 x142001 x144000 x144001 ((rd_T51 x0 x8).f0) ((rd_T51 x0 x8).f1) ((rd_T51 x0 (Int.tmod (wrap64 (x8 + 1)) x3)).f0) ((rd_T51 x0 (Int.tmod (wrap64 (x8 + 1)) x3)).f1)).bind fun t148 => (if t148 = true then (some false) else (spec_l13Ok.l2 k x0 x3 x5 (wrap64 (x8 + 1)) x142000 x142001 x144000 x144001))) else (none)) else (none))) else (none)) else (none)) else (if x8 < (wrap64 (x3 - 1)) then (if 0 ≤ x8 then (if x8 < (x0.length : Int) then (if x3 = 0 then (none) else (if 0 ≤ (Int.tmod (wrap64 (x8 + 1)) x3) then (if (Int.tmod (wrap64 (x8 + 1)) x3) < (x0.length : Int) then ((spec_l13Meet.f k x142000 x142001 x144000 x144001 ((rd_T51 x0 x8).f0) ((rd_T51 x0 x8).f1) ((rd_T51 x0 (Int.tmod (wrap64 (x8 + 1)) x3)).f0) ((rd_T51 x0 (Int.tmod (wrap64 (x8 + 1)) x3)).f1)).bind fun t151 => (if t151 = true then (some false) else (spec_l13Ok.l2 k x0 x3 x5 (wrap64 (x8 + 1)) x142000 x142001 x144000 x144001))) else (none)) else (none))) else (none)) else (none)) else (spec_l13Ok.l2 k x0 x3 x5 (wrap64 (x8 + 1)) x142000 x142001 x144000 x144001))) else (spec_l13Ok.l1 k x0 x3 (wrap64 (x5 + 1)))) (fun k => (spec_l13Ok.mono_l k).2.2 x0 x3 x5 x8 x142000 x142001 x144000 x144001) (fun k => by simp only [spec_l13Ok.l2]) ?_
  repeat' first
    | with_reducible exact Lim.const _
    | with_reducible exact spec_l13Meet.F_lim _ _ _ _ _ _ _ _
    | with_reducible exact spec_l13Ok.L1_lim _ _ _
    | with_reducible exact spec_l13Ok.L2_lim _ _ _ _ _ _ _ _
    | with_reducible refine Lim.ite ?_ ?_
    | with_reducible refine Lim.bind ?_ (fun _ => ?_)
theorem spec_l13Ok.F_eq (l0 : List (S51)) : spec_l13Ok.F l0 = (spec_l00In.f (l0.length : Int) 3 8).bind fun t134 => (if t134 = true then (spec_l13Ok.L0 l0 (l0.length : Int) 0) else (some false)) := by
  refine Lim.eq (g := fun k => spec_l13Ok.f k l0) ?_
  unfold spec_l13Ok.f
  repeat' first
    | with_reducible exact Lim.const _
    | with_reducible exact spec_l13Ok.L0_lim _ _ _
    | with_reducible refine Lim.ite ?_ ?_
    | with_reducible refine Lim.bind ?_ (fun _ => ?_)

noncomputable def spec_l13Bulged.L0 (x0 : List (S51)) (x3 : Int) (x4 : Int) : Option (Bool) := lim (fun k => spec_l13Bulged.l0 k x0 x3 x4)
theorem spec_l13Bulged.L0_lim (x0 : List (S51)) (x3 : Int) (x4 : Int) : Lim (fun k => spec_l13Bulged.l0 k x0 x3 x4) (spec_l13Bulged.L0 x0 x3 x4) := Lim.of (fun k => (spec_l13Bulged.mono_l k) x0 x3 x4)
noncomputable def spec_l13Bulged.F (l0 : List (S51)) : Option (Bool) := lim (fun k => spec_l13Bulged.f k l0)
theorem spec_l13Bulged.F_lim (l0 : List (S51)) : Lim (fun k => spec_l13Bulged.f k l0) (spec_l13Bulged.F l0) := Lim.of (fun k => spec_l13Bulged.mono l0 k)
theorem spec_l13Bulged.L0_eq (x0 : List (S51)) (x3 : Int) (x4 : Int) : spec_l13Bulged.L0 x0 x3 x4 = if x4 < x3 then (if 0 ≤ x4 then (if x4 < (x0.length : Int) then (if x3 = 0 then (none) else (if 0 ≤ (Int.tmod (wrap64 (x4 + 1)) x3) then (if (Int.tmod (wrap64 (x4 + 1)) x3) < (x0.length : Int) then (if 0 ≤ (Int.tmod (wrap64 (x4 + 2)) x3) then (if (Int.tmod (wrap64 (x4 + 2)) x3) < (x0.length : Int) then ((spec_l13Cross.f ((rd_T51 x0 x4).f0) ((rd_T51 x0 x4).f1) ((rd_T51 x0 (Int.tmod (wrap64 (x4 + 1)) x3)).f0) ((rd_T51 x0 (Int.tmod (wrap64 (x4 + 1)) x3)).f1) ((rd_T51 x0 (Int.tmod (wrap64 (x4 + 2)) x3)).f0) ((rd_T51 x0 (Int.tmod (wrap64 (x4 + 2)) x3)).f1)).bind fun t159 => (if t159 < 0 then (some false) else (spec_l13Bulged.L0 x0 x3 (wrap64 (x4 + 1))))) else (none)) else (none)) else (none)) else (none))) else (none)) else (none)) else (some true) := by
  refine Lim.step (f := fun k => if x4 < x3 then (if 0 ≤ x4 then (if x4 < (x0.length : Int) then (if x3 = 0 then (none) else (if 0 ≤ (Int.tmod (wrap64 (x4 + 1)) x3) then (if (Int.tmod (wrap64 (x4 + 1)) x3) < (x0.length : Int) then (if 0 ≤ (Int.tmod (wrap64 (x4 + 2)) x3) then (if (Int.tmod (wrap64 (x4 + 2)) x3) < (x0.length : Int) then ((spec_l13Cross.f ((rd_T51 x0 x4).f0) ((rd_T51 x0 x4).f1) ((rd_T51 x0 (Int.tmod (wrap64 (x4 + 1)) x3)).f0) ((rd_T51 x0 (Int.tmod (wrap64 (x4 + 1)) x3)).f1) ((rd_T51 x0 (Int.tmod (wrap64 (x4 + 2)) x3)).f0) ((rd_T51 x0 (Int.tmod (wrap64 (x4 + 2)) x3)).f1)).bind fun t159 => (if t159 < 0 then (some false) else (spec_l13Bulged.l0 k x0 x3 (wrap64 (x4 + 1))))) else (none)) else (none)) else (none)) else (none))) else (none)) else (none)) else (some true)) (fun k => (spec_l13Bulged.mono_l k) x0 x3 x4) (fun k => by simp only [spec_l13Bulged.l0]) ?_
  repeat' first
    | with_reducible exact Lim.const _
    | with_reducible exact spec_l13Bulged.L0_lim _ _ _
    | with_reducible refine Lim.ite ?_ ?_
    | with_reducible refine Lim.bind ?_ (fun _ => ?_)
theorem spec_l13Bulged.F_eq (l0 : List (S51)) : spec_l13Bulged.F l0 = spec_l13Bulged.L0 l0 (l0.length : Int) 0 := by
  refine Lim.eq (g := fun k => spec_l13Bulged.f k l0) ?_
  unfold spec_l13Bulged.f
  repeat' first
    | with_reducible exact Lim.const _
    | with_reducible exact spec_l13Bulged.L0_lim _ _ _
    | with_reducible refine Lim.ite ?_ ?_
    | with_reducible refine Lim.bind ?_ (fun _ => ?_)

noncomputable def spec_l13Limits.L0 (x0 : List (S51)) (x4 : Int) (x5 : Int) (x6 : Int) : Option (Int × Int) := lim (fun k => spec_l13Limits.l0 k x0 x4 x5 x6)
theorem spec_l13Limits.L0_lim (x0 : List (S51)) (x4 : Int) (x5 : Int) (x6 : Int) : Lim (fun k => spec_l13Limits.l0 k x0 x4 x5 x6) (spec_l13Limits.L0 x0 x4 x5 x6) := Lim.of (fun k => (spec_l13Limits.mono_l k) x0 x4 x5 x6)
noncomputable def spec_l13Limits.F (l0 : List (S51)) : Option (Int × Int) := lim (fun k => spec_l13Limits.f k l0)
theorem spec_l13Limits.F_lim (l0 : List (S51)) : Lim (fun k => spec_l13Limits.f k l0) (spec_l13Limits.F l0) := Lim.of (fun k => spec_l13Limits.mono l0 k)
theorem spec_l13Limits.L0_eq (x0 : List (S51)) (x4 : Int) (x5 : Int) (x6 : Int) : spec_l13Limits.L0 x0 x4 x5 x6 = if x6 < (x0.length : Int) then (if 0 ≤ x6 then ((spec_l00Min.f x4 ((rd_T51 x0 x6).f1)).bind fun t162 => ((spec_l00Max.f x5 ((rd_T51 x0 x6).f1)).bind fun t164 => (spec_l13Limits.L0 x0 t162 t164 (wrap64 (x6 + 1))))) else (none)) else (some (x4, x5)) := by
  refine Lim.step (f := fun k => if x6 < (x0.length : Int) then (if 0 ≤ x6 then ((spec_l00Min.f x4 ((rd_T51 x0 x6).f1)).bind fun t162 => ((spec_l00Max.f x5 ((rd_T51 x0 x6).f1)).bind fun t164 => (spec_l13Limits.l0 k x0 t162 t164 (wrap64 (x6 + 1))))) else (none)) else (some (x4, x5))) (fun k => (spec_l13Limits.mono_l k) x0 x4 x5 x6) (fun k => by simp only [spec_l13Limits.l0]) ?_
  repeat' first
    | with_reducible exact Lim.const _
    | with_reducible exact spec_l13Limits.L0_lim _ _ _ _
    | with_reducible refine Lim.ite ?_ ?_
    | with_reducible refine Lim.bind ?_ (fun _ => ?_)
theorem spec_l13Limits.F_eq (l0 : List (S51)) : spec_l13Limits.F l0 = if 0 < (l0.length : Int) then (spec_l13Limits.L0 l0 ((rd_T51 l0 0).f1) ((rd_T51 l0 0).f1) 1) else (none) := by
  refine Lim.eq (g := fun k => spec_l13Limits.f k l0) ?_
  unfold spec_l13Limits.f
  repeat' first
    | with_reducible exact Lim.const _
    | with_reducible exact spec_l13Limits.L0_lim _ _ _ _
    | with_reducible refine Lim.ite ?_ ?_
    | with_reducible refine Lim.bind ?_ (fun _ => ?_)

noncomputable def spec_l15Code.J0 (x0 : List (S51)) (x14 : Bool) (x167000 : Int) (x167001 : Int) (x167002 : Int) : Option (Int) := lim (fun k => spec_l15Code.j0 k x0 x14 x167000 x167001 x167002)
theorem spec_l15Code.J0_lim (x0 : List (S51)) (x14 : Bool) (x167000 : Int) (x167001 : Int) (x167002 : Int) : Lim (fun k => spec_l15Code.j0 k x0 x14 x167000 x167001 x167002) (spec_l15Code.J0 x0 x14 x167000 x167001 x167002) := Lim.of (fun k => (spec_l15Code.mono_l k) x0 x14 x167000 x167001 x167002)
noncomputable def spec_l15Code.F (l0 : List (S51)) (a1_0 : Int) (a1_1 : Int) (a1_2 : Int) : Option (Int) := lim (fun k => spec_l15Code.f k l0 a1_0 a1_1 a1_2)
theorem spec_l15Code.F_lim (l0 : List (S51)) (a1_0 : Int) (a1_1 : Int) (a1_2 : Int) : Lim (fun k => spec_l15Code.f k l0 a1_0 a1_1 a1_2) (spec_l15Code.F l0 a1_0 a1_1 a1_2) := Lim.of (fun k => spec_l15Code.mono l0 a1_0 a1_1 a1_2 k)
theorem spec_l15Code.J0_eq (x0 : List (S51)) (x14 : Bool) (x167000 : Int) (x167001 : Int) (x167002 : Int) : spec_l15Code.J0 x0 x14 x167000 x167001 x167002 = if x14 = true then (some 1) else ((spec_l13Bulged.F x0).bind fun t169 => (if t169 = true then ((spec_l13Limits.F x0).bind fun bt170 => ((spec_l15Many.f (wrap64 (bt170.2 - bt170.1)) x167000 x167001 x167002).bind fun t172 => (if t172 > 40 then (some 5) else (some 0)))) else (some 6))) := by
  refine Lim.step (f := fun k => if x14 = true then (some 1) else ((spec_l13Bulged.f k x0).bind fun t169 => (if t169 = true then ((spec_l13Limits.f k x0).bind fun bt170 => ((spec_l15Many.f (wrap64 (bt170.2 - bt170.1)) x167000 x167001 x167002).bind fun t172 => (if t172 > 40 then (some 5) else (some 0)))) else (some 6)))) (fun k => (spec_l15Code.mono_l k) x0 x14 x167000 x167001 x167002) (fun k => by simp only [spec_l15Code.j0]) ?_
  repeat' first
    | with_reducible exact Lim.const _
    | with_reducible exact spec_l13Bulged.F_lim _
    | with_reducible exact spec_l13Limits.F_lim _
    | with_reducible refine Lim.ite ?_ ?_
    | with_reducible refine Lim.bind ?_ (fun _ => ?_)
theorem spec_l15Code.F_eq (l0 : List (S51)) (a1_0 : Int) (a1_1 : Int) (a1_2 : Int) : spec_l15Code.F l0 a1_0 a1_1 a1_2 = (spec_l13Ok.F l0).bind fun t167 => (if t167 = true then ((spec_l15Ok.f a1_0 a1_1 a1_2).bind fun t168 => (spec_l15Code.J0 l0 (!t168) a1_0 a1_1 a1_2)) else (spec_l15Code.J0 l0 true a1_0 a1_1 a1_2)) := by
  refine Lim.eq (g := fun k => spec_l15Code.f k l0 a1_0 a1_1 a1_2) ?_
  unfold spec_l15Code.f
  repeat' first
    | with_reducible exact Lim.const _
    | with_reducible exact spec_l13Ok.F_lim _
    | with_reducible exact spec_l15Code.J0_lim _ _ _ _ _
    | with_reducible refine Lim.ite ?_ ?_
    | with_reducible refine Lim.bind ?_ (fun _ => ?_)

noncomputable def spec_l15Edges.L0 (x6 : Int) (x7 : List Int) (x8 : Int) (x174000 : Int) (x174001 : Int) (x174002 : Int) : Option (List Int) := lim (fun k => spec_l15Edges.l0 k x6 x7 x8 x174000 x174001 x174002)
theorem spec_l15Edges.L0_lim (x6 : Int) (x7 : List Int) (x8 : Int) (x174000 : Int) (x174001 : Int) (x174002 : Int) : Lim (fun k => spec_l15Edges.l0 k x6 x7 x8 x174000 x174001 x174002) (spec_l15Edges.L0 x6 x7 x8 x174000 x174001 x174002) := Lim.of (fun k => (spec_l15Edges.mono_l k) x6 x7 x8 x174000 x174001 x174002)
noncomputable def spec_l15Edges.F (l0 : List (S51)) (a1_0 : Int) (a1_1 : Int) (a1_2 : Int) : Option (List Int) := lim (fun k => spec_l15Edges.f k l0 a1_0 a1_1 a1_2)
theorem spec_l15Edges.F_lim (l0 : List (S51)) (a1_0 : Int) (a1_1 : Int) (a1_2 : Int) : Lim (fun k => spec_l15Edges.f k l0 a1_0 a1_1 a1_2) (spec_l15Edges.F l0 a1_0 a1_1 a1_2) := Lim.of (fun k => spec_l15Edges.mono l0 a1_0 a1_1 a1_2 k)
theorem spec_l15Edges.L0_eq (x6 : Int) (x7 : List Int) (x8 : Int) (x174000 : Int) (x174001 : Int) (x174002 : Int) : spec_l15Edges.L0 x6 x7 x8 x174000 x174001 x174002 = if x8 < x6 then (if x7.length < 17592186044416 then (spec_l15Edges.L0 x6 (x7 ++ [x8]) (wrap64 (x8 + (wrap64 (x174000 - x174001)))) x174000 x174001 x174002) else (none)) else (if x7.length < 17592186044416 then (some (x7 ++ [x6])) else (none)) := by
  refine Lim.step (f := fun k => if x8 < x6 then (if x7.length < 17592186044416 then (spec_l15Edges.l0 k x6 (x7 ++ [x8]) (wrap64 (x8 + (wrap64 (x174000 - x174001)))) x174000 x174001 x174002) else (none)) else (if x7.length < 17592186044416 then (some (x7 ++ [x6])) else (none))) (fun k => (spec_l15Edges.mono_l k) x6 x7 x8 x174000 x174001 x174002) (fun k => by simp only [spec_l15Edges.l0]) ?_
  repeat' first
    | with_reducible exact Lim.const _
    | with_reducible exact spec_l15Edges.L0_lim _ _ _ _ _ _
    | with_reducible refine Lim.ite ?_ ?_
    | with_reducible refine Lim.bind ?_ (fun _ => ?_)
theorem spec_l15Edges.F_eq (l0 : List (S51)) (a1_0 : Int) (a1_1 : Int) (a1_2 : Int) : spec_l15Edges.F l0 a1_0 a1_1 a1_2 = (spec_l13Limits.F l0).bind fun bt174 => (spec_l15Edges.L0 bt174.2 (([] : List Int)) bt174.1 a1_0 a1_1 a1_2) := by
  refine Lim.eq (g := fun k => spec_l15Edges.f k l0 a1_0 a1_1 a1_2) ?_
  unfold spec_l15Edges.f
  repeat' first
    | with_reducible exact Lim.const _
    | with_reducible exact spec_l13Limits.F_lim _
    | with_reducible exact spec_l15Edges.L0_lim _ _ _ _ _ _
    | with_reducible refine Lim.ite ?_ ?_
    | with_reducible refine Lim.bind ?_ (fun _ => ?_)

noncomputable def spec_CountPanels.F (l0 : List (S51)) (a1_0 : Int) (a1_1 : Int) (a1_2 : Int) : Option (Int × Int) := lim (fun k => spec_CountPanels.f k l0 a1_0 a1_1 a1_2)
theorem spec_CountPanels.F_lim (l0 : List (S51)) (a1_0 : Int) (a1_1 : Int) (a1_2 : Int) : Lim (fun k => spec_CountPanels.f k l0 a1_0 a1_1 a1_2) (spec_CountPanels.F l0 a1_0 a1_1 a1_2) := Lim.of (fun k => spec_CountPanels.mono l0 a1_0 a1_1 a1_2 k)
theorem spec_CountPanels.F_eq (l0 : List (S51)) (a1_0 : Int) (a1_1 : Int) (a1_2 : Int) : spec_CountPanels.F l0 a1_0 a1_1 a1_2 = (spec_l15Code.F l0 a1_0 a1_1 a1_2).bind fun t186 => (if t186 = 0 then ((spec_l15Edges.F l0 a1_0 a1_1 a1_2).bind fun t187 => (some (wrap64 ((t187.length : Int) - 1), 0))) else (some (0, t186))) := by
  refine Lim.eq (g := fun k => spec_CountPanels.f k l0 a1_0 a1_1 a1_2) ?_
  unfold spec_CountPanels.f
  repeat' first
    | with_reducible exact Lim.const _
    | with_reducible exact spec_l15Code.F_lim _ _ _ _
    | with_reducible exact spec_l15Edges.F_lim _ _ _ _
    | with_reducible refine Lim.ite ?_ ?_
    | with_reducible refine Lim.bind ?_ (fun _ => ?_)

noncomputable def laws_toSpotS.L0 (x0 : List (S53)) (x3 : List (S51)) (x4 : Int) : Option ((List (S51))) := lim (fun k => laws_toSpotS.l0 k x0 x3 x4)
theorem laws_toSpotS.L0_lim (x0 : List (S53)) (x3 : List (S51)) (x4 : Int) : Lim (fun k => laws_toSpotS.l0 k x0 x3 x4) (laws_toSpotS.L0 x0 x3 x4) := Lim.of (fun k => (laws_toSpotS.mono_l k) x0 x3 x4)
noncomputable def laws_toSpotS.F (l0 : List (S53)) : Option ((List (S51))) := lim (fun k => laws_toSpotS.f k l0)
theorem laws_toSpotS.F_lim (l0 : List (S53)) : Lim (fun k => laws_toSpotS.f k l0) (laws_toSpotS.F l0) := Lim.of (fun k => laws_toSpotS.mono l0 k)
theorem laws_toSpotS.L0_eq (x0 : List (S53)) (x3 : List (S51)) (x4 : Int) : laws_toSpotS.L0 x0 x3 x4 = if x4 < (x0.length : Int) then (if 0 ≤ x4 then ((laws_toSpot.f ((rd_T53 x0 x4).f0) ((rd_T53 x0 x4).f1)).bind fun bt197 => (if x4 < (x3.length : Int) then (laws_toSpotS.L0 x0 (x3.set (x4 : Int).toNat (⟨bt197.1, bt197.2⟩ : S51)) (wrap64 (x4 + 1))) else (none))) else (none)) else (some x3) := by
  refine Lim.step (f := fun k => if x4 < (x0.length : Int) then (if 0 ≤ x4 then ((laws_toSpot.f ((rd_T53 x0 x4).f0) ((rd_T53 x0 x4).f1)).bind fun bt197 => (if x4 < (x3.length : Int) then (laws_toSpotS.l0 k x0 (x3.set (x4 : Int).toNat (⟨bt197.1, bt197.2⟩ : S51)) (wrap64 (x4 + 1))) else (none))) else (none)) else (some x3)) (fun k => (laws_toSpotS.mono_l k) x0 x3 x4) (fun k => by simp only [laws_toSpotS.l0]) ?_
  repeat' first
    | with_reducible exact Lim.const _
    | with_reducible exact laws_toSpotS.L0_lim _ _ _
    | with_reducible refine Lim.ite ?_ ?_
    | with_reducible refine Lim.bind ?_ (fun _ => ?_)
theorem laws_toSpotS.F_eq (l0 : List (S53)) : laws_toSpotS.F l0 = if 0 ≤ (l0.length : Int) then (if ((l0.length : Int) : Int).toNat ≤ 17592186044416 then (laws_toSpotS.L0 l0 (List.replicate ((l0.length : Int) : Int).toNat z51) 0) else (none)) else (none) := by
  refine Lim.eq (g := fun k => laws_toSpotS.f k l0) ?_
  unfold laws_toSpotS.f
  repeat' first
    | with_reducible exact Lim.const _
    | with_reducible exact laws_toSpotS.L0_lim _ _ _
    | with_reducible refine Lim.ite ?_ ?_
    | with_reducible refine Lim.bind ?_ (fun _ => ?_)

noncomputable def impl_heightsOf.L0 (x4 : Int) (x5 : Int) (x16 : List (S51)) (x17 : Int) (x18 : Int) : Option (Int × Int) := lim (fun k => impl_heightsOf.l0 k x4 x5 x16 x17 x18)
theorem impl_heightsOf.L0_lim (x4 : Int) (x5 : Int) (x16 : List (S51)) (x17 : Int) (x18 : Int) : Lim (fun k => impl_heightsOf.l0 k x4 x5 x16 x17 x18) (impl_heightsOf.L0 x4 x5 x16 x17 x18) := Lim.of (fun k => (impl_heightsOf.mono_l k) x4 x5 x16 x17 x18)
noncomputable def impl_heightsOf.F (l0 : List (S51)) : Option (Int × Int) := lim (fun k => impl_heightsOf.f k l0)
theorem impl_heightsOf.F_lim (l0 : List (S51)) : Lim (fun k => impl_heightsOf.f k l0) (impl_heightsOf.F l0) := Lim.of (fun k => impl_heightsOf.mono l0 k)
theorem impl_heightsOf.L0_eq (x4 : Int) (x5 : Int) (x16 : List (S51)) (x17 : Int) (x18 : Int) : impl_heightsOf.L0 x4 x5 x16 x17 x18 = if x18 < x17 then (if 0 ≤ x18 then (if x18 < (x16.length : Int) then (impl_heightsOf.L0 (mn x4 ((rd_T51 x16 x18).f1)) (mx x5 ((rd_T51 x16 x18).f1)) x16 x17 (wrap64 (x18 + 1))) else (none)) else (none)) else (some (x4, x5)) := by
  refine Lim.step (f := fun k => if x18 < x17 then (if 0 ≤ x18 then (if x18 < (x16.length : Int) then (impl_heightsOf.l0 k (mn x4 ((rd_T51 x16 x18).f1)) (mx x5 ((rd_T51 x16 x18).f1)) x16 x17 (wrap64 (x18 + 1))) else (none)) else (none)) else (some (x4, x5))) (fun k => (impl_heightsOf.mono_l k) x4 x5 x16 x17 x18) (fun k => by simp only [impl_heightsOf.l0]) ?_
  repeat' first
    | with_reducible exact Lim.const _
    | with_reducible exact impl_heightsOf.L0_lim _ _ _ _ _
    | with_reducible refine Lim.ite ?_ ?_
    | with_reducible refine Lim.bind ?_ (fun _ => ?_)
theorem impl_heightsOf.F_eq (l0 : List (S51)) : impl_heightsOf.F l0 = if 0 < (l0.length : Int) then (impl_heightsOf.L0 ((rd_T51 l0 0).f1) ((rd_T51 l0 0).f1) l0 (l0.length : Int) 0) else (none) := by
  refine Lim.eq (g := fun k => impl_heightsOf.f k l0) ?_
  unfold impl_heightsOf.f
  repeat' first
    | with_reducible exact Lim.const _
    | with_reducible exact impl_heightsOf.L0_lim _ _ _ _ _
    | with_reducible refine Lim.ite ?_ ?_
    | with_reducible refine Lim.bind ?_ (fun _ => ?_)

noncomputable def impl_panelEdges.L0 (x6 : Int) (x7 : List Int) (x8 : Int) (x208000 : Int) (x208001 : Int) (x208002 : Int) : Option (List Int) := lim (fun k => impl_panelEdges.l0 k x6 x7 x8 x208000 x208001 x208002)
theorem impl_panelEdges.L0_lim (x6 : Int) (x7 : List Int) (x8 : Int) (x208000 : Int) (x208001 : Int) (x208002 : Int) : Lim (fun k => impl_panelEdges.l0 k x6 x7 x8 x208000 x208001 x208002) (impl_panelEdges.L0 x6 x7 x8 x208000 x208001 x208002) := Lim.of (fun k => (impl_panelEdges.mono_l k) x6 x7 x8 x208000 x208001 x208002)
noncomputable def impl_panelEdges.F (l0 : List (S51)) (a1_0 : Int) (a1_1 : Int) (a1_2 : Int) : Option (List Int) := lim (fun k => impl_panelEdges.f k l0 a1_0 a1_1 a1_2)
theorem impl_panelEdges.F_lim (l0 : List (S51)) (a1_0 : Int) (a1_1 : Int) (a1_2 : Int) : Lim (fun k => impl_panelEdges.f k l0 a1_0 a1_1 a1_2) (impl_panelEdges.F l0 a1_0 a1_1 a1_2) := Lim.of (fun k => impl_panelEdges.mono l0 a1_0 a1_1 a1_2 k)
theorem impl_panelEdges.L0_eq (x6 : Int) (x7 : List Int) (x8 : Int) (x208000 : Int) (x208001 : Int) (x208002 : Int) : impl_panelEdges.L0 x6 x7 x8 x208000 x208001 x208002 = if x8 < x6 then (if x7.length < 17592186044416 then (impl_panelEdges.L0 x6 (x7 ++ [x8]) (wrap64 (x8 + (wrap64 (x208000 - x208001)))) x208000 x208001 x208002) else (none)) else (if x7.length < 17592186044416 then (some (x7 ++ [x6])) else (none)) := by
  refine Lim.step (f := fun k => if x8 < x6 then (if x7.length < 17592186044416 then (impl_panelEdges.l0 k x6 (x7 ++ [x8]) (wrap64 (x8 + (wrap64 (x208000 - x208001)))) x208000 x208001 x208002) else (none)) else (if x7.length < 17592186044416 then (some (x7 ++ [x6])) else (none))) (fun k => (impl_panelEdges.mono_l k) x6 x7 x8 x208000 x208001 x208002) (fun k => by simp only [impl_panelEdges.l0]) ?_
  repeat' first
    | with_reducible exact Lim.const _
    | with_reducible exact impl_panelEdges.L0_lim _ _ _ _ _ _
    | with_reducible refine Lim.ite ?_ ?_
    | with_reducible refine Lim.bind ?_ (fun _ => ?_)
theorem impl_panelEdges.F_eq (l0 : List (S51)) (a1_0 : Int) (a1_1 : Int) (a1_2 : Int) : impl_panelEdges.F l0 a1_0 a1_1 a1_2 = (impl_heightsOf.F l0).bind fun bt208 => (impl_panelEdges.L0 bt208.2 (([] : List Int)) bt208.1 a1_0 a1_1 a1_2) := by
  refine Lim.eq (g := fun k => impl_panelEdges.f k l0 a1_0 a1_1 a1_2) ?_
  unfold impl_panelEdges.f
  repeat' first
    | with_reducible exact Lim.const _
    | with_reducible exact impl_heightsOf.F_lim _
    | with_reducible exact impl_panelEdges.L0_lim _ _ _ _ _ _
    | with_reducible refine Lim.ite ?_ ?_
    | with_reducible refine Lim.bind ?_ (fun _ => ?_)

noncomputable def impl_twiceSail.L0 (x0 : List (S51)) (x3 : Int) (x7 : List (S51)) (x8 : Int) (x9 : Int) : Option (Int) := lim (fun k => impl_twiceSail.l0 k x0 x3 x7 x8 x9)
theorem impl_twiceSail.L0_lim (x0 : List (S51)) (x3 : Int) (x7 : List (S51)) (x8 : Int) (x9 : Int) : Lim (fun k => impl_twiceSail.l0 k x0 x3 x7 x8 x9) (impl_twiceSail.L0 x0 x3 x7 x8 x9) := Lim.of (fun k => (impl_twiceSail.mono_l k) x0 x3 x7 x8 x9)
noncomputable def impl_twiceSail.F (l0 : List (S51)) : Option (Int) := lim (fun k => impl_twiceSail.f k l0)
theorem impl_twiceSail.F_lim (l0 : List (S51)) : Lim (fun k => impl_twiceSail.f k l0) (impl_twiceSail.F l0) := Lim.of (fun k => impl_twiceSail.mono l0 k)
theorem impl_twiceSail.L0_eq (x0 : List (S51)) (x3 : Int) (x7 : List (S51)) (x8 : Int) (x9 : Int) : impl_twiceSail.L0 x0 x3 x7 x8 x9 = if x9 < x8 then (if 0 ≤ x9 then (if x9 < (x7.length : Int) then (if (x0.length : Int) = 0 then (none) else (if 0 ≤ (Int.tmod (wrap64 (x9 + 1)) (x0.length : Int)) then (if (Int.tmod (wrap64 (x9 + 1)) (x0.length : Int)) < (x0.length : Int) then (impl_twiceSail.L0 x0 (wrap64 (x3 + (wrap64 ((wrap64 (((rd_T51 x7 x9).f0) * ((rd_T51 x0 (Int.tmod (wrap64 (x9 + 1)) (x0.length : Int))).f1))) - (wrap64 (((rd_T51 x0 (Int.tmod (wrap64 (x9 + 1)) (x0.length : Int))).f0) * ((rd_T51 x7 x9).f1))))))) x7 x8 (wrap64 (x9 + 1))) else (none)) else (none))) else (none)) else (none)) else (some x3) := by
  refine Lim.step (f := fun k => if x9 < x8 then (if 0 ≤ x9 then (if x9 < (x7.length : Int) then (if (x0.length : Int) = 0 then (none) else (if 0 ≤ (Int.tmod (wrap64 (x9 + 1)) (x0.length : Int)) then (if (Int.tmod (wrap64 (x9 + 1)) (x0.length : Int)) < (x0.length : Int) then (impl_twiceSail.l0 k x0 (wrap64 (x3 + (wrap64 ((wrap64 (((rd_T51 x7 x9).f0) * ((rd_T51 x0 (Int.tmod (wrap64 (x9 + 1)) (x0.length : Int))).f1))) - (wrap64 (((rd_T51 x0 (Int.tmod (wrap64 (x9 + 1)) (x0.length : Int))).f0) * ((rd_T51 x7 x9).f1))))))) x7 x8 (wrap64 (x9 + 1))) else (none)) else (none))) else (none)) else (none)) else (some x3)) (fun k => (impl_twiceSail.mono_l k) x0 x3 x7 x8 x9) (fun k => by simp only [impl_twiceSail.l0]) ?_
  repeat' first
    | with_reducible exact Lim.const _
    | with_reducible exact impl_twiceSail.L0_lim _ _ _ _ _
    | with_reducible refine Lim.ite ?_ ?_
    | with_reducible refine Lim.bind ?_ (fun _ => ?_)
theorem impl_twiceSail.F_eq (l0 : List (S51)) : impl_twiceSail.F l0 = impl_twiceSail.L0 l0 0 l0 (l0.length : Int) 0 := by
  refine Lim.eq (g := fun k => impl_twiceSail.f k l0) ?_
  unfold impl_twiceSail.f
  repeat' first
    | with_reducible exact Lim.const _
    | with_reducible exact impl_twiceSail.L0_lim _ _ _ _ _
    | with_reducible refine Lim.ite ?_ ?_
    | with_reducible refine Lim.bind ?_ (fun _ => ?_)

noncomputable def impl_edgesMeet.J0 (x9 : Int) (x10 : Int) (x11 : Int) (x12 : Int) (x42 : Bool) (x232000 : Int) (x232001 : Int) (x233000 : Int) (x233001 : Int) (x234000 : Int) (x234001 : Int) (x235000 : Int) (x235001 : Int) : Option (Bool) := lim (fun k => impl_edgesMeet.j0 k x9 x10 x11 x12 x42 x232000 x232001 x233000 x233001 x234000 x234001 x235000 x235001)
theorem impl_edgesMeet.J0_lim (x9 : Int) (x10 : Int) (x11 : Int) (x12 : Int) (x42 : Bool) (x232000 : Int) (x232001 : Int) (x233000 : Int) (x233001 : Int) (x234000 : Int) (x234001 : Int) (x235000 : Int) (x235001 : Int) : Lim (fun k => impl_edgesMeet.j0 k x9 x10 x11 x12 x42 x232000 x232001 x233000 x233001 x234000 x234001 x235000 x235001) (impl_edgesMeet.J0 x9 x10 x11 x12 x42 x232000 x232001 x233000 x233001 x234000 x234001 x235000 x235001) := Lim.of (fun k => (impl_edgesMeet.mono_l k) x9 x10 x11 x12 x42 x232000 x232001 x233000 x233001 x234000 x234001 x235000 x235001)
noncomputable def impl_edgesMeet.F (a0_0 : Int) (a0_1 : Int) (a1_0 : Int) (a1_1 : Int) (a2_0 : Int) (a2_1 : Int) (a3_0 : Int) (a3_1 : Int) : Option (Bool) := lim (fun k => impl_edgesMeet.f k a0_0 a0_1 a1_0 a1_1 a2_0 a2_1 a3_0 a3_1)
theorem impl_edgesMeet.F_lim (a0_0 : Int) (a0_1 : Int) (a1_0 : Int) (a1_1 : Int) (a2_0 : Int) (a2_1 : Int) (a3_0 : Int) (a3_1 : Int) : Lim (fun k => impl_edgesMeet.f k a0_0 a0_1 a1_0 a1_1 a2_0 a2_1 a3_0 a3_1) (impl_edgesMeet.F a0_0 a0_1 a1_0 a1_1 a2_0 a2_1 a3_0 a3_1) := Lim.of (fun k => impl_edgesMeet.mono a0_0 a0_1 a1_0 a1_1 a2_0 a2_1 a3_0 a3_1 k)
theorem impl_edgesMeet.J0_eq (x9 : Int) (x10 : Int) (x11 : Int) (x12 : Int) (x42 : Bool) (x232000 : Int) (x232001 : Int) (x233000 : Int) (x233001 : Int) (x234000 : Int) (x234001 : Int) (x235000 : Int) (x235001 : Int) : impl_edgesMeet.J0 x9 x10 x11 x12 x42 x232000 x232001 x233000 x233001 x234000 x234001 x235000 x235001 = if x42 = true then (some true) else (if x9 = 0 then ((impl_between.f x232000 x232001 x233000 x233001 x234000 x234001).bind fun t243 => (if t243 = true then (some true) else (if x10 = 0 then ((impl_between.f x232000 x232001 x233000 x233001 x235000 x235001).bind fun t244 => (if t244 = true then (some true) else (if x11 = 0 then ((impl_between.f x234000 x234001 x235000 x235001 x232000 x232001).bind fun t245 => (if t245 = true then (some true) else (if x12 = 0 then ((impl_between.f x234000 x234001 x235000 x235001 x233000 x233001).bind fun t246 => (some t246)) else (some false)))) else (if x12 = 0 then ((impl_between.f x234000 x234001 x235000 x235001 x233000 x233001).bind fun t247 => (some t247)) else (some false))))) else (if x11 = 0 then ((impl_between.f x234000 x234001 x235000 x235001 x232000 x232001).bind fun t248 => (if t248 = true then (some true) else (if x12 = 0 then ((impl_between.f x234000 x234001 x235000 x235001 x233000 x233001).bind fun t249 => (some t249)) else (some false)))) else (if x12 = 0 then ((impl_between.f x234000 x234001 x235000 x235001 x233000 x233001).bind fun t250 => (some t250)) else (some false)))))) else (if x10 = 0 then ((impl_between.f x232000 x232001 x233000 x233001 x235000 x235001).bind fun t251 => (if t251 = true then (some true) else (if x11 = 0 then ((impl_between.f x234000 x234001 x235000 x235001 x232000 x232001).bind fun t252 => (if t252 = true then (some true) else (if x12 = 0 then ((impl_between.f x234000 x234001 x235000 x235001 x233000 x233001).bind fun t253 => (some t253)) else (some false)))) else (if x12 = 0 then ((impl_between.f x234000 x234001 x235000 x235001 x233000 x233001).bind fun t254 => (some t254)) else (some false))))) else (if x11 = 0 then ((impl_between.f x234000 x234001 x235000 x235001 x232000 x232001).bind fun t255 => (if t255 = true then (some true) else (if x12 = 0 then ((impl_between.f x234000 x234001 x235000 x235001 x233000 x233001).bind fun t256 => (some t256)) else (some false)))) else (if x12 = 0 then ((impl_between.f x234000 x234001 x235000 x235001 x233000 x233001).bind fun t257 => (some t257)) else (some false))))) := by
  refine Lim.step (f := fun k => if x42 = true then (some true) else (if x9 = 0 then ((impl_between.f x232000 x232001 x233000 x233001 x234000 x234001).bind fun t243 => (if t243 = true then (some true) else (if x10 = 0 then ((impl_between.f x232000 x232001 x233000 x233001 x235000 x235001).bind fun t244 => (if t244 = true then (some true) else (if x11 = 0 then ((impl_between.f x234000 x234001 x235000 x235001 x232000 x232001).bind fun t245 => (if t245 = true then (some true) else (if x12 = 0 then ((impl_between.f x234000 x234001 x235000 x235001 x233000 x233001).bind fun t246 => (some t246)) else (some false)))) else (if x12 = 0 then ((impl_between.f x234000 x234001 x235000 x235001 x233000 x233001).bind fun t247 => (some t247)) else (some false))))) else (if x11 = 0 then ((impl_between.f x234000 x234001 x235000 x235001 x232000 x232001).bind fun t248 => (if t248 = true then (some true) else (if x12 = 0 then ((impl_between.f x234000 x234001 x235000 x235001 x233000 x233001).bind fun t249 => (some t249)) else (some false)))) else (if x12 = 0 then ((impl_between.f x234000 x234001 x235000 x235001 x233000 x233001).bind fun t250 => (some t250)) else (some false)))))) else (if x10 = 0 then ((impl_between.f x232000 x232001 x233000 x233001 x235000 x235001).bind fun t251 => (if t251 = true then (some true) else (if x11 = 0 then ((impl_between.f x234000 x234001 x235000 x235001 x232000 x232001).bind fun t252 => (if t252 = true then (some true) else (if x12 = 0 then ((impl_between.f x234000 x234001 x235000 x235001 x233000 x233001).bind fun t253 => (some t253)) else (some false)))) else (if x12 = 0 then ((impl_between.f x234000 x234001 x235000 x235001 x233000 x233001).bind fun t254 => (some t254)) else (some false))))) else (if x11 = 0 then ((impl_between.f x234000 x234001 x235000 x235001 x232000 x232001).bind fun t255 => (if t255 = true then (some true) else (if x12 = 0 then ((impl_between.f x234000 x234001 x235000 x235001 x233000 x233001).bind fun t256 => (some t256)) else (some false)))) else (if x12 = 0 then ((impl_between.f x234000 x234001 x235000 x235001 x233000 x233001).bind fun t257 => (some t257)) else (some false)))))) (fun k => (impl_edgesMeet.mono_l k) x9 x10 x11 x12 x42 x232000 x232001 x233000 x233001 x234000 x234001 x235000 x235001) (fun k => by simp only [impl_edgesMeet.j0]) ?_
  repeat' first
    | with_reducible exact Lim.const _
    | with_reducible refine Lim.ite ?_ ?_
    | with_reducible refine Lim.bind ?_ (fun _ => ?_)
theorem impl_edgesMeet.F_eq (a0_0 : Int) (a0_1 : Int) (a1_0 : Int) (a1_1 : Int) (a2_0 : Int) (a2_1 : Int) (a3_0 : Int) (a3_1 : Int) : impl_edgesMeet.F a0_0 a0_1 a1_0 a1_1 a2_0 a2_1 a3_0 a3_1 = (impl_turnAt.f a0_0 a0_1 a1_0 a1_1 a2_0 a2_1).bind fun t235 => ((impl_turnAt.f a0_0 a0_1 a1_0 a1_1 a3_0 a3_1).bind fun t236 => ((impl_turnAt.f a2_0 a2_1 a3_0 a3_1 a0_0 a0_1).bind fun t237 => ((impl_turnAt.f a2_0 a2_1 a3_0 a3_1 a1_0 a1_1).bind fun t238 => ((impl_sign.f t235).bind fun t239 => ((impl_sign.f t236).bind fun t240 => (if (wrap64 (t239 * t240)) < 0 then ((impl_sign.f t237).bind fun t241 => ((impl_sign.f t238).bind fun t242 => (impl_edgesMeet.J0 t235 t236 t237 t238 (decide ((wrap64 (t241 * t242)) < 0)) a0_0 a0_1 a1_0 a1_1 a2_0 a2_1 a3_0 a3_1))) else (impl_edgesMeet.J0 t235 t236 t237 t238 false a0_0 a0_1 a1_0 a1_1 a2_0 a2_1 a3_0 a3_1))))))) := by
  refine Lim.eq (g := fun k => impl_edgesMeet.f k a0_0 a0_1 a1_0 a1_1 a2_0 a2_1 a3_0 a3_1) ?_
  unfold impl_edgesMeet.f
  repeat' first
    | with_reducible exact Lim.const _
    | with_reducible exact impl_edgesMeet.J0_lim _ _ _ _ _ _ _ _ _ _ _ _ _
    | with_reducible refine Lim.ite ?_ ?_
    | with_reducible refine Lim.bind ?_ (fun _ => ?_)

noncomputable def impl_ValidSail.J0 (x0 : List (S51)) (x3 : Int) (x16 : Bool) : Option (Bool) := lim (fun k => impl_ValidSail.j0 k x0 x3 x16)
theorem impl_ValidSail.J0_lim (x0 : List (S51)) (x3 : Int) (x16 : Bool) : Lim (fun k => impl_ValidSail.j0 k x0 x3 x16) (impl_ValidSail.J0 x0 x3 x16) := Lim.of (fun k => (impl_ValidSail.mono_l k).1 x0 x3 x16)
noncomputable def impl_ValidSail.L0 (x0 : List (S51)) (x3 : Int) (x17 : List (S51)) (x18 : Int) (x19 : Int) : Option (Bool) := lim (fun k => impl_ValidSail.l0 k x0 x3 x17 x18 x19)
theorem impl_ValidSail.L0_lim (x0 : List (S51)) (x3 : Int) (x17 : List (S51)) (x18 : Int) (x19 : Int) : Lim (fun k => impl_ValidSail.l0 k x0 x3 x17 x18 x19) (impl_ValidSail.L0 x0 x3 x17 x18 x19) := Lim.of (fun k => (impl_ValidSail.mono_l k).2.1 x0 x3 x17 x18 x19)
noncomputable def impl_ValidSail.L1 (x0 : List (S51)) (x3 : Int) (x35 : Int) (x36 : Int) : Option (Bool) := lim (fun k => impl_ValidSail.l1 k x0 x3 x35 x36)
theorem impl_ValidSail.L1_lim (x0 : List (S51)) (x3 : Int) (x35 : Int) (x36 : Int) : Lim (fun k => impl_ValidSail.l1 k x0 x3 x35 x36) (impl_ValidSail.L1 x0 x3 x35 x36) := Lim.of (fun k => (impl_ValidSail.mono_l k).2.2.1 x0 x3 x35 x36)
noncomputable def impl_ValidSail.L2 (x0 : List (S51)) (x3 : Int) (x61 : Int) (x62 : Int) : Option (Bool) := lim (fun k => impl_ValidSail.l2 k x0 x3 x61 x62)
theorem impl_ValidSail.L2_lim (x0 : List (S51)) (x3 : Int) (x61 : Int) (x62 : Int) : Lim (fun k => impl_ValidSail.l2 k x0 x3 x61 x62) (impl_ValidSail.L2 x0 x3 x61 x62) := Lim.of (fun k => (impl_ValidSail.mono_l k).2.2.2.1 x0 x3 x61 x62)
noncomputable def impl_ValidSail.L3 (x0 : List (S51)) (x3 : Int) (x7 : Int) (x8 : Int) (x61 : Int) (x62 : Int) : Option (Bool) := lim (fun k => impl_ValidSail.l3 k x0 x3 x7 x8 x61 x62)
theorem impl_ValidSail.L3_lim (x0 : List (S51)) (x3 : Int) (x7 : Int) (x8 : Int) (x61 : Int) (x62 : Int) : Lim (fun k => impl_ValidSail.l3 k x0 x3 x7 x8 x61 x62) (impl_ValidSail.L3 x0 x3 x7 x8 x61 x62) := Lim.of (fun k => (impl_ValidSail.mono_l k).2.2.2.2 x0 x3 x7 x8 x61 x62)
noncomputable def impl_ValidSail.F (l0 : List (S51)) : Option (Bool) := lim (fun k => impl_ValidSail.f k l0)
theorem impl_ValidSail.F_lim (l0 : List (S51)) : Lim (fun k => impl_ValidSail.f k l0) (impl_ValidSail.F l0) := Lim.of (fun k => impl_ValidSail.mono l0 k)
theorem impl_ValidSail.J0_eq (x0 : List (S51)) (x3 : Int) (x16 : Bool) : impl_ValidSail.J0 x0 x3 x16 = if x16 = true then (some false) else (impl_ValidSail.L0 x0 x3 x0 (x0.length : Int) 0) := by
  refine Lim.step (f := fun k => if x16 = true then (some false) else (impl_ValidSail.l0 k x0 x3 x0 (x0.length : Int) 0)) (fun k => (impl_ValidSail.mono_l k).1 x0 x3 x16) (fun k => by simp only [impl_ValidSail.j0]) ?_
  repeat' first
    | with_reducible exact Lim.const _
    | with_reducible exact impl_ValidSail.L0_lim _ _ _ _ _
    | with_reducible refine Lim.ite ?_ ?_
    | with_reducible refine Lim.bind ?_ (fun _ => ?_)
theorem impl_ValidSail.L0_eq (x0 : List (S51)) (x3 : Int) (x17 : List (S51)) (x18 : Int) (x19 : Int) : impl_ValidSail.L0 x0 x3 x17 x18 x19 = if x19 < x18 then (if 0 ≤ x19 then (if x19 < (x17.length : Int) then ((impl_within.f ((rd_T51 x17 x19).f0) 0 2000).bind fun t260 => (if t260 = true then ((impl_within.f ((rd_T51 x17 x19).f1) 0 2000).bind fun t261 => (if t261 = true then (impl_ValidSail.L0 x0 x3 x17 x18 (wrap64 (x19 + 1))) else (some false))) else (some false))) else (none)) else (none)) else (impl_ValidSail.L1 x0 x3 (x0.length : Int) 0) := by
  refine Lim.step (f := fun k => if x19 < x18 then (if 0 ≤ x19 then (if x19 < (x17.length : Int) then ((impl_within.f ((rd_T51 x17 x19).f0) 0 2000).bind fun t260 => (if t260 = true then ((impl_within.f ((rd_T51 x17 x19).f1) 0 2000).bind fun t261 => (if t261 = true then (impl_ValidSail.l0 k x0 x3 x17 x18 (wrap64 (x19 + 1))) else (some false))) else (some false))) else (none)) else (none)) else (impl_ValidSail.l1 k x0 x3 (x0.length : Int) 0)) (fun k => (impl_ValidSail.mono_l k).2.1 x0 x3 x17 x18 x19) (fun k => by simp only [impl_ValidSail.l0]) ?_
  repeat' first
    | with_reducible exact Lim.const _
    | with_reducible exact impl_ValidSail.L0_lim _ _ _ _ _
    | with_reducible exact impl_ValidSail.L1_lim _ _ _ _
    | with_reducible refine Lim.ite ?_ ?_
    | with_reducible refine Lim.bind ?_ (fun _ => ?_)
theorem impl_ValidSail.L1_eq (x0 : List (S51)) (x3 : Int) (x35 : Int) (x36 : Int) : impl_ValidSail.L1 x0 x3 x35 x36 = if x36 < x35 then (if 0 ≤ x36 then (if x36 < (x0.length : Int) then (if x3 = 0 then (none) else (if 0 ≤ (Int.tmod (wrap64 (x36 + 1)) x3) then (if (Int.tmod (wrap64 (x36 + 1)) x3) < (x0.length : Int) then (if 0 ≤ (Int.tmod (wrap64 (x36 + 2)) x3) then (if (Int.tmod (wrap64 (x36 + 2)) x3) < (x0.length : Int) then ((impl_turnAt.f ((rd_T51 x0 x36).f0) ((rd_T51 x0 x36).f1) ((rd_T51 x0 (Int.tmod (wrap64 (x36 + 1)) x3)).f0) ((rd_T51 x0 (Int.tmod (wrap64 (x36 + 1)) x3)).f1) ((rd_T51 x0 (Int.tmod (wrap64 (x36 + 2)) x3)).f0) ((rd_T51 x0 (Int.tmod (wrap64 (x36 + 2)) x3)).f1)).bind fun t265 => (if t265 = 0 then (some false) else (impl_ValidSail.L1 x0 x3 x35 (wrap64 (x36 + 1))))) else (none)) else (none)) else (none)) else (none))) else (none)) else (none)) else (impl_ValidSail.L2 x0 x3 (x0.length : Int) 0) := by
  refine Lim.step (f := fun k => if x36 < x35 then (if 0 ≤ x36 then (if x36 < (x0.length : Int) then (if x3 = 0 then (none) else (if 0 ≤ (Int.tmod (wrap64 (x36 + 1)) x3) then (if (Int.tmod (wrap64 (x36 + 1)) x3) < (x0.length : Int) then (if 0 ≤ (Int.tmod (wrap64 (x36 + 2)) x3) then (if (Int.tmod (wrap64 (x36 + 2)) x3) < (x0.length : Int) then ((impl_turnAt.f ((rd_T51 x0 x36).f0) ((rd_T51 x0 x36).f1) ((rd_T51 x0 (Int.tmod (wrap64 (x36 + 1)) x3)).f0) ((rd_T51 x0 (Int.tmod (wrap64 (x36 + 1)) x3)).f1) ((rd_T51 x0 (Int.tmod (wrap64 (x36 + 2)) x3)).f0) ((rd_T51 x0 (Int.tmod (wrap64 (x36 + 2)) x3)).f1)).bind fun t265 => (if t265 = 0 then (some false) else (impl_ValidSail.l1 k x0 x3 x35 (wrap64 (x36 + 1))))) else (none)) else (none)) else (none)) else (none))) else (none)) else (none)) else (impl_ValidSail.l2 k x0 x3 (x0.length : Int) 0)) (fun k => (impl_ValidSail.mono_l k).2.2.1 x0 x3 x35 x36) (fun k => by simp only [impl_ValidSail.l1]) ?_
  repeat' first
    | with_reducible exact Lim.const _
    | with_reducible exact impl_ValidSail.L1_lim _ _ _ _
    | with_reducible exact impl_ValidSail.L2_lim _ _ _ _
    | with_reducible refine Lim.ite ?_ ?_
    | with_reducible refine Lim.bind ?_ (fun _ => ?_)
theorem impl_ValidSail.L2_eq (x0 : List (S51)) (x3 : Int) (x61 : Int) (x62 : Int) : impl_ValidSail.L2 x0 x3 x61 x62 = if x62 < x61 then (impl_ValidSail.L3 x0 x3 x62 (wrap64 (x62 + 2)) x61 x62) else ((impl_twiceSail.F x0).bind fun t266 => (some (decide (t266 > 0)))) := by
  refine Lim.step (f := fun k => if x62 < x61 then (impl_ValidSail.l3 k x0 x3 x62 (wrap64 (x62 + 2)) x61 x62) else ((impl_twiceSail.f k x0).bind fun t266 => (some (decide (t266 > 0))))) (fun k => (impl_ValidSail.mono_l k).2.2.2.1 x0 x3 x61 x62) (fun k => by simp only [impl_ValidSail.l2]) ?_
  repeat' first
    | with_reducible exact Lim.const _
    | with_reducible exact impl_ValidSail.L3_lim _ _ _ _ _ _
    | with_reducible exact impl_twiceSail.F_lim _
    | with_reducible refine Lim.ite ?_ ?_
    | with_reducible refine Lim.bind ?_ (fun _ => ?_)
theorem impl_ValidSail.L3_eq (x0 : List (S51)) (x3 : Int) (x7 : Int) (x8 : Int) (x61 : Int) (x62 : Int) : impl_ValidSail.L3 x0 x3 x7 x8 x61 x62 = if x8 < x3 then (if x3 = 0 then (none) else (if (Int.tmod (wrap64 (x8 + 1)) x3) = x7 then (impl_ValidSail.L3 x0 x3 x7 (wrap64 (x8 + 1)) x61 x62) else (if 0 ≤ x7 then (if x7 < (x0.length : Int) then (if 0 ≤ (wrap64 (x7 + 1)) then (if (wrap64 (x7 + 1)) < (x0.length : Int) then (if 0 ≤ x8 then (if x8 < (x0.length : Int) then (if 0 ≤ (Int.tmod (wrap64 (x8 + 1)) x3) then (if (Int.tmod (wrap64 (x8 + 1)) x3) < (x0.length : Int) then ((impl_edgesMeet.F ((rd_T51 x0 x7).f0) ((rd_T51 x0 x7).f1) ((rd_T51 x0 (wrap64 (x7 + 1))).f0) ((rd_T51 x0 (wrap64 (x7 + 1))).f1) ((rd_T51 x0 x8).f0) ((rd_T51 x0 x8).f1) ((rd_T51 x0 (Int.tmod (wrap64 (x8 + 1)) x3)).f0) ((rd_T51 x0 (Int.tmod (wrap64 (x8 + 1)) x3)).f1)).bind fun t271 => (if t271 = true then (some false) else (impl_ValidSail.L3 x0 x3 x7 (wrap64 (x8 + 1)) x61 x62))) else (none)) else (none)) else (none)) else (none)) else (none)) else (none)) else (none)) else (none)))) else (impl_ValidSail.L2 x0 x3 x61 (wrap64 (x62 + 1))) := by
  refine Lim.step (f := fun k => if x8 < x3 then (if x3 = 0 then (none) else (if (Int.tmod (wrap64 (x8 + 1)) x3) = x7 then (impl_ValidSail.l3 k x0 x3 x7 (wrap64 (x8 + 1)) x61 x62) else (if 0 ≤ x7 then (if x7 < (x0.length : Int) then (if 0 ≤ (wrap64 (x7 + 1)) then (if (wrap64 (x7 + 1)) < (x0.length : Int) then (if 0 ≤ x8 then (if x8 < (x0.length : Int) then (if 0 ≤ (Int.tmod (wrap64 (x8 + 1)) x3) then (if (Int.tmod (wrap64 (x8 + 1)) x3) < (x0.length : Int) then ((impl_edgesMeet.f k ((rd_T51 x0 x7).f0) ((rd_T51 x0 x7).f1) ((rd_T51 x0 (wrap64 (x7 + 1))).f0) ((rd_T51 x0 (wrap64 (x7 + 1))).f1) ((rd_T51 x0 x8).f0) ((rd_T51 x0 x8).f1) ((rd_T51 x0 (Int.tmod (wrap64 (x8 + 1)) x3)).f0) ((rd_T51 x0 (Int.tmod (wrap64 (x8 + 1)) x3)).f1)).bind fun t271 => (if t271 = true then (some false) else (impl_ValidSail.l3 k x0 x3 x7 (wrap64 (x8 + 1)) x61 x62))) else (none)) else (none)) else (none)) else (none)) else (none)) else (none)) else (none)) else (none)))) else (impl_ValidSail.l2 k x0 x3 x61 (wrap64 (x62 + 1)))) (fun k => (impl_ValidSail.mono_l k).2.2.2.2 x0 x3 x7 x8 x61 x62) (fun k => by simp only [impl_ValidSail.l3]) ?_
  repeat' first
    | with_reducible exact Lim.const _
    | with_reducible exact impl_ValidSail.L2_lim _ _ _ _
    | with_reducible exact impl_ValidSail.L3_lim _ _ _ _ _ _
    | with_reducible exact impl_edgesMeet.F_lim _ _ _ _ _ _ _ _
    | with_reducible refine Lim.ite ?_ ?_
    | with_reducible refine Lim.bind ?_ (fun _ => ?_)
theorem impl_ValidSail.F_eq (l0 : List (S51)) : impl_ValidSail.F l0 = if (l0.length : Int) < 3 then (impl_ValidSail.J0 l0 (l0.length : Int) true) else (impl_ValidSail.J0 l0 (l0.length : Int) (decide ((l0.length : Int) > 8))) := by
  refine Lim.eq (g := fun k => impl_ValidSail.f k l0) ?_
  unfold impl_ValidSail.f
  repeat' first
    | with_reducible exact Lim.const _
    | with_reducible exact impl_ValidSail.J0_lim _ _ _
    | with_reducible refine Lim.ite ?_ ?_
    | with_reducible refine Lim.bind ?_ (fun _ => ?_)

noncomputable def impl_isBulged.L0 (x0 : List (S51)) (x3 : Int) (x8 : Int) (x9 : Int) : Option (Bool) := lim (fun k => impl_isBulged.l0 k x0 x3 x8 x9)
theorem impl_isBulged.L0_lim (x0 : List (S51)) (x3 : Int) (x8 : Int) (x9 : Int) : Lim (fun k => impl_isBulged.l0 k x0 x3 x8 x9) (impl_isBulged.L0 x0 x3 x8 x9) := Lim.of (fun k => (impl_isBulged.mono_l k) x0 x3 x8 x9)
noncomputable def impl_isBulged.F (l0 : List (S51)) : Option (Bool) := lim (fun k => impl_isBulged.f k l0)
theorem impl_isBulged.F_lim (l0 : List (S51)) : Lim (fun k => impl_isBulged.f k l0) (impl_isBulged.F l0) := Lim.of (fun k => impl_isBulged.mono l0 k)
theorem impl_isBulged.L0_eq (x0 : List (S51)) (x3 : Int) (x8 : Int) (x9 : Int) : impl_isBulged.L0 x0 x3 x8 x9 = if x9 < x8 then (if 0 ≤ x9 then (if x9 < (x0.length : Int) then (if x3 = 0 then (none) else (if 0 ≤ (Int.tmod (wrap64 (x9 + 1)) x3) then (if (Int.tmod (wrap64 (x9 + 1)) x3) < (x0.length : Int) then (if 0 ≤ (Int.tmod (wrap64 (x9 + 2)) x3) then (if (Int.tmod (wrap64 (x9 + 2)) x3) < (x0.length : Int) then ((impl_turnAt.f ((rd_T51 x0 x9).f0) ((rd_T51 x0 x9).f1) ((rd_T51 x0 (Int.tmod (wrap64 (x9 + 1)) x3)).f0) ((rd_T51 x0 (Int.tmod (wrap64 (x9 + 1)) x3)).f1) ((rd_T51 x0 (Int.tmod (wrap64 (x9 + 2)) x3)).f0) ((rd_T51 x0 (Int.tmod (wrap64 (x9 + 2)) x3)).f1)).bind fun t279 => (if t279 < 0 then (some false) else (impl_isBulged.L0 x0 x3 x8 (wrap64 (x9 + 1))))) else (none)) else (none)) else (none)) else (none))) else (none)) else (none)) else (some true) := by
  refine Lim.step (f := fun k => if x9 < x8 then (if 0 ≤ x9 then (if x9 < (x0.length : Int) then (if x3 = 0 then (none) else (if 0 ≤ (Int.tmod (wrap64 (x9 + 1)) x3) then (if (Int.tmod (wrap64 (x9 + 1)) x3) < (x0.length : Int) then (if 0 ≤ (Int.tmod (wrap64 (x9 + 2)) x3) then (if (Int.tmod (wrap64 (x9 + 2)) x3) < (x0.length : Int) then ((impl_turnAt.f ((rd_T51 x0 x9).f0) ((rd_T51 x0 x9).f1) ((rd_T51 x0 (Int.tmod (wrap64 (x9 + 1)) x3)).f0) ((rd_T51 x0 (Int.tmod (wrap64 (x9 + 1)) x3)).f1) ((rd_T51 x0 (Int.tmod (wrap64 (x9 + 2)) x3)).f0) ((rd_T51 x0 (Int.tmod (wrap64 (x9 + 2)) x3)).f1)).bind fun t279 => (if t279 < 0 then (some false) else (impl_isBulged.l0 k x0 x3 x8 (wrap64 (x9 + 1))))) else (none)) else (none)) else (none)) else (none))) else (none)) else (none)) else (some true)) (fun k => (impl_isBulged.mono_l k) x0 x3 x8 x9) (fun k => by simp only [impl_isBulged.l0]) ?_
  repeat' first
    | with_reducible exact Lim.const _
    | with_reducible exact impl_isBulged.L0_lim _ _ _ _
    | with_reducible refine Lim.ite ?_ ?_
    | with_reducible refine Lim.bind ?_ (fun _ => ?_)
theorem impl_isBulged.F_eq (l0 : List (S51)) : impl_isBulged.F l0 = impl_isBulged.L0 l0 (l0.length : Int) (l0.length : Int) 0 := by
  refine Lim.eq (g := fun k => impl_isBulged.f k l0) ?_
  unfold impl_isBulged.f
  repeat' first
    | with_reducible exact Lim.const _
    | with_reducible exact impl_isBulged.L0_lim _ _ _ _
    | with_reducible refine Lim.ite ?_ ?_
    | with_reducible refine Lim.bind ?_ (fun _ => ?_)

noncomputable def impl_weaveCode.J0 (x0 : List (S51)) (x5 : Bool) (x281000 : Int) (x281001 : Int) (x281002 : Int) : Option (Int) := lim (fun k => impl_weaveCode.j0 k x0 x5 x281000 x281001 x281002)
theorem impl_weaveCode.J0_lim (x0 : List (S51)) (x5 : Bool) (x281000 : Int) (x281001 : Int) (x281002 : Int) : Lim (fun k => impl_weaveCode.j0 k x0 x5 x281000 x281001 x281002) (impl_weaveCode.J0 x0 x5 x281000 x281001 x281002) := Lim.of (fun k => (impl_weaveCode.mono_l k) x0 x5 x281000 x281001 x281002)
noncomputable def impl_weaveCode.F (l0 : List (S51)) (a1_0 : Int) (a1_1 : Int) (a1_2 : Int) : Option (Int) := lim (fun k => impl_weaveCode.f k l0 a1_0 a1_1 a1_2)
theorem impl_weaveCode.F_lim (l0 : List (S51)) (a1_0 : Int) (a1_1 : Int) (a1_2 : Int) : Lim (fun k => impl_weaveCode.f k l0 a1_0 a1_1 a1_2) (impl_weaveCode.F l0 a1_0 a1_1 a1_2) := Lim.of (fun k => impl_weaveCode.mono l0 a1_0 a1_1 a1_2 k)
theorem impl_weaveCode.J0_eq (x0 : List (S51)) (x5 : Bool) (x281000 : Int) (x281001 : Int) (x281002 : Int) : impl_weaveCode.J0 x0 x5 x281000 x281001 x281002 = if x5 = true then (some 1) else ((impl_isBulged.F x0).bind fun t283 => (if t283 = true then ((impl_panelEdges.F x0 x281000 x281001 x281002).bind fun t284 => (if (t284.length : Int) > 41 then (some 5) else (some 0))) else (some 6))) := by
  refine Lim.step (f := fun k => if x5 = true then (some 1) else ((impl_isBulged.f k x0).bind fun t283 => (if t283 = true then ((impl_panelEdges.f k x0 x281000 x281001 x281002).bind fun t284 => (if (t284.length : Int) > 41 then (some 5) else (some 0))) else (some 6)))) (fun k => (impl_weaveCode.mono_l k) x0 x5 x281000 x281001 x281002) (fun k => by simp only [impl_weaveCode.j0]) ?_
  repeat' first
    | with_reducible exact Lim.const _
    | with_reducible exact impl_isBulged.F_lim _
    | with_reducible exact impl_panelEdges.F_lim _ _ _ _
    | with_reducible refine Lim.ite ?_ ?_
    | with_reducible refine Lim.bind ?_ (fun _ => ?_)
theorem impl_weaveCode.F_eq (l0 : List (S51)) (a1_0 : Int) (a1_1 : Int) (a1_2 : Int) : impl_weaveCode.F l0 a1_0 a1_1 a1_2 = (impl_ValidSail.F l0).bind fun t281 => (if t281 = true then ((impl_ValidWeave.f a1_0 a1_1 a1_2).bind fun t282 => (impl_weaveCode.J0 l0 (!t282) a1_0 a1_1 a1_2)) else (impl_weaveCode.J0 l0 true a1_0 a1_1 a1_2)) := by
  refine Lim.eq (g := fun k => impl_weaveCode.f k l0 a1_0 a1_1 a1_2) ?_
  unfold impl_weaveCode.f
  repeat' first
    | with_reducible exact Lim.const _
    | with_reducible exact impl_ValidSail.F_lim _
    | with_reducible exact impl_weaveCode.J0_lim _ _ _ _ _
    | with_reducible refine Lim.ite ?_ ?_
    | with_reducible refine Lim.bind ?_ (fun _ => ?_)

noncomputable def impl_CountPanels.F (l0 : List (S51)) (a1_0 : Int) (a1_1 : Int) (a1_2 : Int) : Option (Int × Int) := lim (fun k => impl_CountPanels.f k l0 a1_0 a1_1 a1_2)
theorem impl_CountPanels.F_lim (l0 : List (S51)) (a1_0 : Int) (a1_1 : Int) (a1_2 : Int) : Lim (fun k => impl_CountPanels.f k l0 a1_0 a1_1 a1_2) (impl_CountPanels.F l0 a1_0 a1_1 a1_2) := Lim.of (fun k => impl_CountPanels.mono l0 a1_0 a1_1 a1_2 k)
theorem impl_CountPanels.F_eq (l0 : List (S51)) (a1_0 : Int) (a1_1 : Int) (a1_2 : Int) : impl_CountPanels.F l0 a1_0 a1_1 a1_2 = (impl_weaveCode.F l0 a1_0 a1_1 a1_2).bind fun t288 => (if t288 = 0 then ((impl_panelEdges.F l0 a1_0 a1_1 a1_2).bind fun t289 => (some (wrap64 ((t289.length : Int) - 1), 0))) else (some (0, t288))) := by
  refine Lim.eq (g := fun k => impl_CountPanels.f k l0 a1_0 a1_1 a1_2) ?_
  unfold impl_CountPanels.f
  repeat' first
    | with_reducible exact Lim.const _
    | with_reducible exact impl_panelEdges.F_lim _ _ _ _
    | with_reducible exact impl_weaveCode.F_lim _ _ _ _
    | with_reducible refine Lim.ite ?_ ?_
    | with_reducible refine Lim.bind ?_ (fun _ => ?_)

noncomputable def laws_eqSpotS.L0 (x0 : List (S51)) (x1 : List (S51)) (x5 : Int) : Option (Bool) := lim (fun k => laws_eqSpotS.l0 k x0 x1 x5)
theorem laws_eqSpotS.L0_lim (x0 : List (S51)) (x1 : List (S51)) (x5 : Int) : Lim (fun k => laws_eqSpotS.l0 k x0 x1 x5) (laws_eqSpotS.L0 x0 x1 x5) := Lim.of (fun k => (laws_eqSpotS.mono_l k) x0 x1 x5)
noncomputable def laws_eqSpotS.F (l0 : List (S51)) (l1 : List (S51)) : Option (Bool) := lim (fun k => laws_eqSpotS.f k l0 l1)
theorem laws_eqSpotS.F_lim (l0 : List (S51)) (l1 : List (S51)) : Lim (fun k => laws_eqSpotS.f k l0 l1) (laws_eqSpotS.F l0 l1) := Lim.of (fun k => laws_eqSpotS.mono l0 l1 k)
theorem laws_eqSpotS.L0_eq (x0 : List (S51)) (x1 : List (S51)) (x5 : Int) : laws_eqSpotS.L0 x0 x1 x5 = if x5 < (x0.length : Int) then (if 0 ≤ x5 then (if x5 < (x1.length : Int) then ((laws_eqSpot.f ((rd_T51 x0 x5).f0) ((rd_T51 x0 x5).f1) ((rd_T51 x1 x5).f0) ((rd_T51 x1 x5).f1)).bind fun t296 => (if t296 = true then (laws_eqSpotS.L0 x0 x1 (wrap64 (x5 + 1))) else (some false))) else (none)) else (none)) else (some true) := by
  refine Lim.step (f := fun k => if x5 < (x0.length : Int) then (if 0 ≤ x5 then (if x5 < (x1.length : Int) then ((laws_eqSpot.f ((rd_T51 x0 x5).f0) ((rd_T51 x0 x5).f1) ((rd_T51 x1 x5).f0) ((rd_T51 x1 x5).f1)).bind fun t296 => (if t296 = true then (laws_eqSpotS.l0 k x0 x1 (wrap64 (x5 + 1))) else (some false))) else (none)) else (none)) else (some true)) (fun k => (laws_eqSpotS.mono_l k) x0 x1 x5) (fun k => by simp only [laws_eqSpotS.l0]) ?_
  repeat' first
    | with_reducible exact Lim.const _
    | with_reducible exact laws_eqSpotS.L0_lim _ _ _
    | with_reducible refine Lim.ite ?_ ?_
    | with_reducible refine Lim.bind ?_ (fun _ => ?_)
theorem laws_eqSpotS.F_eq (l0 : List (S51)) (l1 : List (S51)) : laws_eqSpotS.F l0 l1 = if (l0.length : Int) = (l1.length : Int) then (laws_eqSpotS.L0 l0 l1 0) else (some false) := by
  refine Lim.eq (g := fun k => laws_eqSpotS.f k l0 l1) ?_
  unfold laws_eqSpotS.f
  repeat' first
    | with_reducible exact Lim.const _
    | with_reducible exact laws_eqSpotS.L0_lim _ _ _
    | with_reducible refine Lim.ite ?_ ?_
    | with_reducible refine Lim.bind ?_ (fun _ => ?_)

noncomputable def laws_FnExactCountPanels.J0 (x0 : List (S53)) (x8 : List (S51)) (x40 : Bool) : Option (Bool) := lim (fun k => laws_FnExactCountPanels.j0 k x0 x8 x40)
theorem laws_FnExactCountPanels.J0_lim (x0 : List (S53)) (x8 : List (S51)) (x40 : Bool) : Lim (fun k => laws_FnExactCountPanels.j0 k x0 x8 x40) (laws_FnExactCountPanels.J0 x0 x8 x40) := Lim.of (fun k => (laws_FnExactCountPanels.mono_l k) x0 x8 x40)
noncomputable def laws_FnExactCountPanels.F (l0 : List (S53)) (a1_0 : Int) (a1_1 : Int) (a1_2 : Int) : Option (Bool) := lim (fun k => laws_FnExactCountPanels.f k l0 a1_0 a1_1 a1_2)
theorem laws_FnExactCountPanels.F_lim (l0 : List (S53)) (a1_0 : Int) (a1_1 : Int) (a1_2 : Int) : Lim (fun k => laws_FnExactCountPanels.f k l0 a1_0 a1_1 a1_2) (laws_FnExactCountPanels.F l0 a1_0 a1_1 a1_2) := Lim.of (fun k => laws_FnExactCountPanels.mono l0 a1_0 a1_1 a1_2 k)
theorem laws_FnExactCountPanels.J0_eq (x0 : List (S53)) (x8 : List (S51)) (x40 : Bool) : laws_FnExactCountPanels.J0 x0 x8 x40 = if x40 = true then (some false) else ((laws_toSpotS.F x0).bind fun t315 => ((laws_eqSpotS.F x8 t315).bind fun t318 => (if t318 = true then (some true) else (some false)))) := by
  refine Lim.step (f := fun k => if x40 = true then (some false) else ((laws_toSpotS.f k x0).bind fun t315 => ((laws_eqSpotS.f k x8 t315).bind fun t318 => (if t318 = true then (some true) else (some false))))) (fun k => (laws_FnExactCountPanels.mono_l k) x0 x8 x40) (fun k => by simp only [laws_FnExactCountPanels.j0]) ?_
  repeat' first
    | with_reducible exact Lim.const _
    | with_reducible exact laws_eqSpotS.F_lim _ _
    | with_reducible exact laws_toSpotS.F_lim _
    | with_reducible refine Lim.ite ?_ ?_
    | with_reducible refine Lim.bind ?_ (fun _ => ?_)
theorem laws_FnExactCountPanels.F_eq (l0 : List (S53)) (a1_0 : Int) (a1_1 : Int) (a1_2 : Int) : laws_FnExactCountPanels.F l0 a1_0 a1_1 a1_2 = (laws_szSpotS.f l0 1048576).bind fun t298 => (if t298 < 0 then (some true) else ((laws_toSpotS.F l0).bind fun t299 => ((laws_toWeave.f a1_0 a1_1 a1_2).bind fun bt302 => ((spec_CountPanels.F t299 bt302.1 bt302.2.1 bt302.2.2).bind fun bt305 => ((laws_toSpotS.F l0).bind fun t307 => ((laws_toWeave.f a1_0 a1_1 a1_2).bind fun bt310 => ((impl_CountPanels.F t307 bt310.1 bt310.2.1 bt310.2.2).bind fun bt313 => (if bt313.1 = bt305.1 then (laws_FnExactCountPanels.J0 l0 t307 (bt313.2 != bt305.2)) else (laws_FnExactCountPanels.J0 l0 t307 true))))))))) := by
  refine Lim.eq (g := fun k => laws_FnExactCountPanels.f k l0 a1_0 a1_1 a1_2) ?_
  unfold laws_FnExactCountPanels.f
  repeat' first
    | with_reducible exact Lim.const _
    | with_reducible exact impl_CountPanels.F_lim _ _ _ _
    | with_reducible exact laws_FnExactCountPanels.J0_lim _ _ _
    | with_reducible exact laws_toSpotS.F_lim _
    | with_reducible exact spec_CountPanels.F_lim _ _ _ _
    | with_reducible refine Lim.ite ?_ ?_
    | with_reducible refine Lim.bind ?_ (fun _ => ?_)

end Go.Proofs.Ytmljmfepnlpgfaa.PFnExactCountPanels
