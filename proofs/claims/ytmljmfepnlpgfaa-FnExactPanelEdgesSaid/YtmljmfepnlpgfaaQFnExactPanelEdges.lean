/-
  Written by a program of this session (wip/tools/lims.py): the printed functions without their bound on rounds.
-/
import Derived.Test.YtmljmfepnlpgfaaPFnExactPanelEdgesx1
import Derived.Test.YtmljmfepnlpgfaaPFnExactPanelEdgesx2
import Derived.Test.YtmljmfepnlpgfaaPFnExactPanelEdgesx3
import Derived.Test.YtmljmfepnlpgfaaPFnExactPanelEdgesx4
import Derived.Test.YtmljmfepnlpgfaaPFnExactPanelEdgesx5
import Derived.Test.YtmljmfepnlpgfaaPFnExactPanelEdgesx6
import Derived.Test.YtmljmfepnlpgfaaPFnExactPanelEdgesx7
import Derived.Test.YtmljmfepnlpgfaaPFnExactPanelEdgesx8
import Derived.Test.YtmljmfepnlpgfaaPFnExactPanelEdgesx9
import Derived.Test.YtmljmfepnlpgfaaPFnExactPanelEdgesx10
import Derived.Test.YtmljmfepnlpgfaaPFnExactPanelEdgesx11
import Derived.Test.YtmljmfepnlpgfaaKit
set_option linter.unusedVariables false
set_option linter.unusedSimpArgs false
namespace Go.Proofs.Ytmljmfepnlpgfaa.PFnExactPanelEdges
open Go.RowKit Go.Proofs.Ytmljmfepnlpgfaa.Kit Go.Proofs.YtmljmfepnlpgfaaW.PrintWords Go.Proofs.YtmljmfepnlpgfaaW.PrintLast Go.Proofs.YtmljmfepnlpgfaaW.PrintMore

noncomputable def laws_toSpotS.L0 (x0 : List (S53)) (x3 : List (S51)) (x4 : Int) : Option ((List (S51))) := lim (fun k => laws_toSpotS.l0 k x0 x3 x4)
theorem laws_toSpotS.L0_lim (x0 : List (S53)) (x3 : List (S51)) (x4 : Int) : Lim (fun k => laws_toSpotS.l0 k x0 x3 x4) (laws_toSpotS.L0 x0 x3 x4) := Lim.of (fun k => (laws_toSpotS.mono_l k) x0 x3 x4)
noncomputable def laws_toSpotS.F (l0 : List (S53)) : Option ((List (S51))) := lim (fun k => laws_toSpotS.f k l0)
theorem laws_toSpotS.F_lim (l0 : List (S53)) : Lim (fun k => laws_toSpotS.f k l0) (laws_toSpotS.F l0) := Lim.of (fun k => laws_toSpotS.mono l0 k)
theorem laws_toSpotS.L0_eq (x0 : List (S53)) (x3 : List (S51)) (x4 : Int) : laws_toSpotS.L0 x0 x3 x4 = if x4 < (x0.length : Int) then (if 0 ≤ x4 then ((laws_toSpot.f ((rd_T53 x0 x4).f0) ((rd_T53 x0 x4).f1)).bind fun bt108 => (if x4 < (x3.length : Int) then (laws_toSpotS.L0 x0 (x3.set (x4 : Int).toNat (⟨bt108.1, bt108.2⟩ : S51)) (wrap64 (x4 + 1))) else (none))) else (none)) else (some x3) := by
  refine Lim.step (f := fun k => if x4 < (x0.length : Int) then (if 0 ≤ x4 then ((laws_toSpot.f ((rd_T53 x0 x4).f0) ((rd_T53 x0 x4).f1)).bind fun bt108 => (if x4 < (x3.length : Int) then (laws_toSpotS.l0 k x0 (x3.set (x4 : Int).toNat (⟨bt108.1, bt108.2⟩ : S51)) (wrap64 (x4 + 1))) else (none))) else (none)) else (some x3)) (fun k => (laws_toSpotS.mono_l k) x0 x3 x4) (fun k => by simp only [laws_toSpotS.l0]) ?_
  repeat' first
    | with_reducible exact Lim.const _
    | with_reducible exact laws_toSpotS.L0_lim _ _ _
    | with_reducible refine Lim.ite ?_ ?_
    | with_reducible refine Lim.bind ?_ (fun _ => ?_)
theorem laws_toSpotS.F_eq (l0 : List (S53)) : laws_toSpotS.F l0 = if 0 ≤ (l0.length : Int) then (if ((l0.length : Int) : Int).toNat ≤ 17592186044416 then (laws_toSpotS.L0 l0 (List.replicate ((l0.length : Int) : Int).toNat z51) 0) else (none)) else (none) := by
  refine Lim.eq (g := fun k => laws_toSpotS.f k l0) ?_
  unfold laws_toSpotS.f
  repeat' first
    | with_reducible exact Lim.const _
    | with_reducible exact laws_toSpotS.L0_lim _ _ _
    | with_reducible refine Lim.ite ?_ ?_
    | with_reducible refine Lim.bind ?_ (fun _ => ?_)

noncomputable def laws_eqSpotS.L0 (x0 : List (S51)) (x1 : List (S51)) (x5 : Int) : Option (Bool) := lim (fun k => laws_eqSpotS.l0 k x0 x1 x5)
theorem laws_eqSpotS.L0_lim (x0 : List (S51)) (x1 : List (S51)) (x5 : Int) : Lim (fun k => laws_eqSpotS.l0 k x0 x1 x5) (laws_eqSpotS.L0 x0 x1 x5) := Lim.of (fun k => (laws_eqSpotS.mono_l k) x0 x1 x5)
noncomputable def laws_eqSpotS.F (l0 : List (S51)) (l1 : List (S51)) : Option (Bool) := lim (fun k => laws_eqSpotS.f k l0 l1)
theorem laws_eqSpotS.F_lim (l0 : List (S51)) (l1 : List (S51)) : Lim (fun k => laws_eqSpotS.f k l0 l1) (laws_eqSpotS.F l0 l1) := Lim.of (fun k => laws_eqSpotS.mono l0 l1 k)
theorem laws_eqSpotS.L0_eq (x0 : List (S51)) (x1 : List (S51)) (x5 : Int) : laws_eqSpotS.L0 x0 x1 x5 = if x5 < (x0.length : Int) then (if 0 ≤ x5 then (if x5 < (x1.length : Int) then ((laws_eqSpot.f ((rd_T51 x0 x5).f0) ((rd_T51 x0 x5).f1) ((rd_T51 x1 x5).f0) ((rd_T51 x1 x5).f1)).bind fun t118 => (if t118 = true then (laws_eqSpotS.L0 x0 x1 (wrap64 (x5 + 1))) else (some false))) else (none)) else (none)) else (some true) := by
  refine Lim.step (f := fun k => if x5 < (x0.length : Int) then (if 0 ≤ x5 then (if x5 < (x1.length : Int) then ((laws_eqSpot.f ((rd_T51 x0 x5).f0) ((rd_T51 x0 x5).f1) ((rd_T51 x1 x5).f0) ((rd_T51 x1 x5).f1)).bind fun t118 => (if t118 = true then (laws_eqSpotS.l0 k x0 x1 (wrap64 (x5 + 1))) else (some false))) else (none)) else (none)) else (some true)) (fun k => (laws_eqSpotS.mono_l k) x0 x1 x5) (fun k => by simp only [laws_eqSpotS.l0]) ?_
  repeat' first
    | with_reducible exact Lim.const _
    | with_reducible exact laws_eqSpotS.L0_lim _ _ _
    | with_reducible refine Lim.ite ?_ ?_
    | with_reducible refine Lim.bind ?_ (fun _ => ?_)
theorem laws_eqSpotS.F_eq (l0 : List (S51)) (l1 : List (S51)) : laws_eqSpotS.F l0 l1 = if (l0.length : Int) = (l1.length : Int) then (laws_eqSpotS.L0 l0 l1 0) else (some false) := by
  refine Lim.eq (g := fun k => laws_eqSpotS.f k l0 l1) ?_
  unfold laws_eqSpotS.f
  repeat' first
    | with_reducible exact Lim.const _
    | with_reducible exact laws_eqSpotS.L0_lim _ _ _
    | with_reducible refine Lim.ite ?_ ?_
    | with_reducible refine Lim.bind ?_ (fun _ => ?_)

noncomputable def spec_l13Twice.L0 (x0 : List (S51)) (x3 : Int) (x4 : Int) : Option (Int) := lim (fun k => spec_l13Twice.l0 k x0 x3 x4)
theorem spec_l13Twice.L0_lim (x0 : List (S51)) (x3 : Int) (x4 : Int) : Lim (fun k => spec_l13Twice.l0 k x0 x3 x4) (spec_l13Twice.L0 x0 x3 x4) := Lim.of (fun k => (spec_l13Twice.mono_l k) x0 x3 x4)
noncomputable def spec_l13Twice.F (l0 : List (S51)) : Option (Int) := lim (fun k => spec_l13Twice.f k l0)
theorem spec_l13Twice.F_lim (l0 : List (S51)) : Lim (fun k => spec_l13Twice.f k l0) (spec_l13Twice.F l0) := Lim.of (fun k => spec_l13Twice.mono l0 k)
theorem spec_l13Twice.L0_eq (x0 : List (S51)) (x3 : Int) (x4 : Int) : spec_l13Twice.L0 x0 x3 x4 = if x4 < (x0.length : Int) then (if (x0.length : Int) = 0 then (none) else (if 0 ≤ (Int.tmod (wrap64 (x4 + 1)) (x0.length : Int)) then (if (Int.tmod (wrap64 (x4 + 1)) (x0.length : Int)) < (x0.length : Int) then (if 0 ≤ x4 then (spec_l13Twice.L0 x0 (wrap64 (x3 + (wrap64 ((wrap64 (((rd_T51 x0 x4).f0) * ((rd_T51 x0 (Int.tmod (wrap64 (x4 + 1)) (x0.length : Int))).f1))) - (wrap64 (((rd_T51 x0 (Int.tmod (wrap64 (x4 + 1)) (x0.length : Int))).f0) * ((rd_T51 x0 x4).f1))))))) (wrap64 (x4 + 1))) else (none)) else (none)) else (none))) else (some x3) := by
  refine Lim.step (f := fun k => if x4 < (x0.length : Int) then (if (x0.length : Int) = 0 then (none) else (if 0 ≤ (Int.tmod (wrap64 (x4 + 1)) (x0.length : Int)) then (if (Int.tmod (wrap64 (x4 + 1)) (x0.length : Int)) < (x0.length : Int) then (if 0 ≤ x4 then (spec_l13Twice.l0 k x0 (wrap64 (x3 + (wrap64 ((wrap64 (((rd_T51 x0 x4).f0) * ((rd_T51 x0 (Int.tmod (wrap64 (x4 + 1)) (x0.length : Int))).f1))) - (wrap64 (((rd_T51 x0 (Int.tmod (wrap64 (x4 + 1)) (x0.length : Int))).f0) * ((rd_T51 x0 x4).f1))))))) (wrap64 (x4 + 1))) else (none)) else (none)) else (none))) else (some x3)) (fun k => (spec_l13Twice.mono_l k) x0 x3 x4) (fun k => by simp only [spec_l13Twice.l0]) ?_
  repeat' first
    | with_reducible exact Lim.const _
    | with_reducible exact spec_l13Twice.L0_lim _ _ _
    | with_reducible refine Lim.ite ?_ ?_
    | with_reducible refine Lim.bind ?_ (fun _ => ?_)
theorem spec_l13Twice.F_eq (l0 : List (S51)) : spec_l13Twice.F l0 = spec_l13Twice.L0 l0 0 0 := by
  refine Lim.eq (g := fun k => spec_l13Twice.f k l0) ?_
  unfold spec_l13Twice.f
  repeat' first
    | with_reducible exact Lim.const _
    | with_reducible exact spec_l13Twice.L0_lim _ _ _
    | with_reducible refine Lim.ite ?_ ?_
    | with_reducible refine Lim.bind ?_ (fun _ => ?_)

noncomputable def spec_l13Meet.J0 (x30 : Bool) (x143000 : Int) (x143001 : Int) (x144000 : Int) (x144001 : Int) (x145000 : Int) (x145001 : Int) (x146000 : Int) (x146001 : Int) : Option (Bool) := lim (fun k => spec_l13Meet.j0 k x30 x143000 x143001 x144000 x144001 x145000 x145001 x146000 x146001)
theorem spec_l13Meet.J0_lim (x30 : Bool) (x143000 : Int) (x143001 : Int) (x144000 : Int) (x144001 : Int) (x145000 : Int) (x145001 : Int) (x146000 : Int) (x146001 : Int) : Lim (fun k => spec_l13Meet.j0 k x30 x143000 x143001 x144000 x144001 x145000 x145001 x146000 x146001) (spec_l13Meet.J0 x30 x143000 x143001 x144000 x144001 x145000 x145001 x146000 x146001) := Lim.of (fun k => (spec_l13Meet.mono_l k) x30 x143000 x143001 x144000 x144001 x145000 x145001 x146000 x146001)
noncomputable def spec_l13Meet.F (a0_0 : Int) (a0_1 : Int) (a1_0 : Int) (a1_1 : Int) (a2_0 : Int) (a2_1 : Int) (a3_0 : Int) (a3_1 : Int) : Option (Bool) := lim (fun k => spec_l13Meet.f k a0_0 a0_1 a1_0 a1_1 a2_0 a2_1 a3_0 a3_1)
theorem spec_l13Meet.F_lim (a0_0 : Int) (a0_1 : Int) (a1_0 : Int) (a1_1 : Int) (a2_0 : Int) (a2_1 : Int) (a3_0 : Int) (a3_1 : Int) : Lim (fun k => spec_l13Meet.f k a0_0 a0_1 a1_0 a1_1 a2_0 a2_1 a3_0 a3_1) (spec_l13Meet.F a0_0 a0_1 a1_0 a1_1 a2_0 a2_1 a3_0 a3_1) := Lim.of (fun k => spec_l13Meet.mono a0_0 a0_1 a1_0 a1_1 a2_0 a2_1 a3_0 a3_1 k)
theorem spec_l13Meet.J0_eq (x30 : Bool) (x143000 : Int) (x143001 : Int) (x144000 : Int) (x144001 : Int) (x145000 : Int) (x145001 : Int) (x146000 : Int) (x146001 : Int) : spec_l13Meet.J0 x30 x143000 x143001 x144000 x144001 x145000 x145001 x146000 x146001 = if x30 = true then (some true) else ((spec_l13Sides.f x143000 x143001 x144000 x144001 x145000 x145001 x146000 x146001).bind fun t150 => (if t150 = true then ((spec_l13Sides.f x145000 x145001 x146000 x146001 x143000 x143001 x144000 x144001).bind fun t151 => (some t151)) else (some false))) := by
  refine Lim.step (f := fun k => if x30 = true then (some true) else ((spec_l13Sides.f x143000 x143001 x144000 x144001 x145000 x145001 x146000 x146001).bind fun t150 => (if t150 = true then ((spec_l13Sides.f x145000 x145001 x146000 x146001 x143000 x143001 x144000 x144001).bind fun t151 => (some t151)) else (some false)))) (fun k => (spec_l13Meet.mono_l k) x30 x143000 x143001 x144000 x144001 x145000 x145001 x146000 x146001) (fun k => by simp only [spec_l13Meet.j0]) ?_
  repeat' first
    | with_reducible exact Lim.const _
    | with_reducible refine Lim.ite ?_ ?_
    | with_reducible refine Lim.bind ?_ (fun _ => ?_)
theorem spec_l13Meet.F_eq (a0_0 : Int) (a0_1 : Int) (a1_0 : Int) (a1_1 : Int) (a2_0 : Int) (a2_1 : Int) (a3_0 : Int) (a3_1 : Int) : spec_l13Meet.F a0_0 a0_1 a1_0 a1_1 a2_0 a2_1 a3_0 a3_1 = (spec_l13On.f a0_0 a0_1 a1_0 a1_1 a2_0 a2_1).bind fun t146 => (if t146 = true then (spec_l13Meet.J0 true a0_0 a0_1 a1_0 a1_1 a2_0 a2_1 a3_0 a3_1) else ((spec_l13On.f a0_0 a0_1 a1_0 a1_1 a3_0 a3_1).bind fun t147 => (if t147 = true then (spec_l13Meet.J0 true a0_0 a0_1 a1_0 a1_1 a2_0 a2_1 a3_0 a3_1) else ((spec_l13On.f a2_0 a2_1 a3_0 a3_1 a0_0 a0_1).bind fun t148 => (if t148 = true then (spec_l13Meet.J0 true a0_0 a0_1 a1_0 a1_1 a2_0 a2_1 a3_0 a3_1) else ((spec_l13On.f a2_0 a2_1 a3_0 a3_1 a1_0 a1_1).bind fun t149 => (spec_l13Meet.J0 t149 a0_0 a0_1 a1_0 a1_1 a2_0 a2_1 a3_0 a3_1))))))) := by
  refine Lim.eq (g := fun k => spec_l13Meet.f k a0_0 a0_1 a1_0 a1_1 a2_0 a2_1 a3_0 a3_1) ?_
  unfold spec_l13Meet.f
  repeat' first
    | with_reducible exact Lim.const _
    | with_reducible exact spec_l13Meet.J0_lim _ _ _ _ _ _ _ _ _
    | with_reducible refine Lim.ite ?_ ?_
    | with_reducible refine Lim.bind ?_ (fun _ => ?_)

noncomputable def spec_l13Ok.L0 (x0 : List (S51)) (x3 : Int) (x4 : Int) : Option (Bool) := lim (fun k => spec_l13Ok.l0 k x0 x3 x4)
theorem spec_l13Ok.L0_lim (x0 : List (S51)) (x3 : Int) (x4 : Int) : Lim (fun k => spec_l13Ok.l0 k x0 x3 x4) (spec_l13Ok.L0 x0 x3 x4) := Lim.of (fun k => (spec_l13Ok.mono_l k).1 x0 x3 x4)
noncomputable def spec_l13Ok.L1 (x0 : List (S51)) (x3 : Int) (x5 : Int) : Option (Bool) := lim (fun k => spec_l13Ok.l1 k x0 x3 x5)
theorem spec_l13Ok.L1_lim (x0 : List (S51)) (x3 : Int) (x5 : Int) : Lim (fun k => spec_l13Ok.l1 k x0 x3 x5) (spec_l13Ok.L1 x0 x3 x5) := Lim.of (fun k => (spec_l13Ok.mono_l k).2.1 x0 x3 x5)
noncomputable def spec_l13Ok.L2 (x0 : List (S51)) (x3 : Int) (x5 : Int) (x8 : Int) (x160000 : Int) (x160001 : Int) (x162000 : Int) (x162001 : Int) : Option (Bool) := lim (fun k => spec_l13Ok.l2 k x0 x3 x5 x8 x160000 x160001 x162000 x162001)
theorem spec_l13Ok.L2_lim (x0 : List (S51)) (x3 : Int) (x5 : Int) (x8 : Int) (x160000 : Int) (x160001 : Int) (x162000 : Int) (x162001 : Int) : Lim (fun k => spec_l13Ok.l2 k x0 x3 x5 x8 x160000 x160001 x162000 x162001) (spec_l13Ok.L2 x0 x3 x5 x8 x160000 x160001 x162000 x162001) := Lim.of (fun k => (spec_l13Ok.mono_l k).2.2 x0 x3 x5 x8 x160000 x160001 x162000 x162001)
noncomputable def spec_l13Ok.F (l0 : List (S51)) : Option (Bool) := lim (fun k => spec_l13Ok.f k l0)
theorem spec_l13Ok.F_lim (l0 : List (S51)) : Lim (fun k => spec_l13Ok.f k l0) (spec_l13Ok.F l0) := Lim.of (fun k => spec_l13Ok.mono l0 k)
theorem spec_l13Ok.L0_eq (x0 : List (S51)) (x3 : Int) (x4 : Int) : spec_l13Ok.L0 x0 x3 x4 = if x4 < x3 then (if 0 ≤ x4 then (if x4 < (x0.length : Int) then ((spec_l00In.f ((rd_T51 x0 x4).f0) 0 2000).bind fun t154 => (if t154 = true then ((spec_l00In.f ((rd_T51 x0 x4).f1) 0 2000).bind fun t156 => (if t156 = true then (spec_l13Ok.L0 x0 x3 (wrap64 (x4 + 1))) else (some false))) else (some false))) else (none)) else (none)) else (spec_l13Ok.L1 x0 x3 0) := by
  refine Lim.step (f := fun k => if x4 < x3 then (if 0 ≤ x4 then (if x4 < (x0.length : Int) then ((spec_l00In.f ((rd_T51 x0 x4).f0) 0 2000).bind fun t154 => (if t154 = true then ((spec_l00In.f ((rd_T51 x0 x4).f1) 0 2000).bind fun t156 => (if t156 = true then (spec_l13Ok.l0 k x0 x3 (wrap64 (x4 + 1))) else (some false))) else (some false))) else (none)) else (none)) else (spec_l13Ok.l1 k x0 x3 0)) (fun k => (spec_l13Ok.mono_l k).1 x0 x3 x4) (fun k => by simp only [spec_l13Ok.l0]) ?_
  repeat' first
    | with_reducible exact Lim.const _
    | with_reducible exact spec_l13Ok.L0_lim _ _ _
    | with_reducible exact spec_l13Ok.L1_lim _ _ _
    | with_reducible refine Lim.ite ?_ ?_
    | with_reducible refine Lim.bind ?_ (fun _ => ?_)
theorem spec_l13Ok.L1_eq (x0 : List (S51)) (x3 : Int) (x5 : Int) : spec_l13Ok.L1 x0 x3 x5 = if x5 < x3 then (if 0 ≤ x5 then (if x5 < (x0.length : Int) then (if x3 = 0 then (none) else (if 0 ≤ (Int.tmod (wrap64 (x5 + 1)) x3) then (if (Int.tmod (wrap64 (x5 + 1)) x3) < (x0.length : Int) then (if 0 ≤ (Int.tmod (wrap64 (x5 + 2)) x3) then (if (Int.tmod (wrap64 (x5 + 2)) x3) < (x0.length : Int) then ((spec_l13Cross.f ((rd_T51 x0 x5).f0) ((rd_T51 x0 x5).f1) ((rd_T51 x0 (Int.tmod (wrap64 (x5 + 1)) x3)).f0) ((rd_T51 x0 (Int.tmod (wrap64 (x5 + 1)) x3)).f1) ((rd_T51 x0 (Int.tmod (wrap64 (x5 + 2)) x3)).f0) ((rd_T51 x0 (Int.tmod (wrap64 (x5 + 2)) x3)).f1)).bind fun t163 => (if t163 = 0 then (some false) else (spec_l13Ok.L2 x0 x3 x5 (wrap64 (x5 + 2)) ((rd_T51 x0 x5).f0) ((rd_T51 x0 x5).f1) ((rd_T51 x0 (Int.tmod (wrap64 (x5 + 1)) x3)).f0) ((rd_T51 x0 (Int.tmod (wrap64 (x5 + 1)) x3)).f1)))) else (none)) else (none)) else (none)) else (none))) else (none)) else (none)) else ((spec_l13Twice.F x0).bind fun t157 => (some (decide (t157 > 0)))) := by
  refine Lim.step (f := fun k => if x5 < x3 then (if 0 ≤ x5 then (if x5 < (x0.length : Int) then (if x3 = 0 then (none) else (if 0 ≤ (Int.tmod (wrap64 (x5 + 1)) x3) then (if (Int.tmod (wrap64 (x5 + 1)) x3) < (x0.length : Int) then (if 0 ≤ (Int.tmod (wrap64 (x5 + 2)) x3) then (if (Int.tmod (wrap64 (x5 + 2)) x3) < (x0.length : Int) then ((spec_l13Cross.f ((rd_T51 x0 x5).f0) ((rd_T51 x0 x5).f1) ((rd_T51 x0 (Int.tmod (wrap64 (x5 + 1)) x3)).f0) ((rd_T51 x0 (Int.tmod (wrap64 (x5 + 1)) x3)).f1) ((rd_T51 x0 (Int.tmod (wrap64 (x5 + 2)) x3)).f0) ((rd_T51 x0 (Int.tmod (wrap64 (x5 + 2)) x3)).f1)).bind fun t163 => (if t163 = 0 then (some false) else (spec_l13Ok.l2 k x0 x3 x5 (wrap64 (x5 + 2)) ((rd_T51 x0 x5).f0) ((rd_T51 x0 x5).f1) ((rd_T51 x0 (Int.tmod (wrap64 (x5 + 1)) x3)).f0) ((rd_T51 x0 (Int.tmod (wrap64 (x5 + 1)) x3)).f1)))) else (none)) else (none)) else (none)) else (none))) else (none)) else (none)) else ((spec_l13Twice.f k x0).bind fun t157 => (some (decide (t157 > 0))))) (fun k => (spec_l13Ok.mono_l k).2.1 x0 x3 x5) (fun k => by simp only [spec_l13Ok.l1]) ?_
  repeat' first
    | with_reducible exact Lim.const _
    | with_reducible exact spec_l13Ok.L2_lim _ _ _ _ _ _ _ _
    | with_reducible exact spec_l13Twice.F_lim _
    | with_reducible refine Lim.ite ?_ ?_
    | with_reducible refine Lim.bind ?_ (fun _ => ?_)
theorem spec_l13Ok.L2_eq (x0 : List (S51)) (x3 : Int) (x5 : Int) (x8 : Int) (x160000 : Int) (x160001 : Int) (x162000 : Int) (x162001 : Int) : spec_l13Ok.L2 x0 x3 x5 x8 x160000 x160001 x162000 x162001 = if x8 < x3 then (if x5 > 0 then (if 0 ≤ x8 then (if x8 < (x0.length : Int) then (if x3 = 0 then (none) else (if 0 ≤ (Int.tmod (wrap64 (x8 + 1)) x3) then (if (Int.tmod (wrap64 (x8 + 1)) x3) < (x0.length : Int) then ((spec_l13Meet.F x160000 x160001 x162000 x162001 ((rd_T51 x0 x8).f0) ((rd_T51 x0 x8).f1) ((rd_T51 x0 (Int.tmod (wrap64 (x8 + 1)) x3)).f0) ((rd_T51 x0 (Int.tmod (wrap64 (x8 + 1)) x3)).f1)).bind fun t166 => (if t166 = true then (some false) else (spec_l13Ok.L2 x0 x3 x5 (wrap64 (x8 + 1)) x160000 x160001 x162000 x162001))) else (none)) else (none))) else (none)) else (none)) else (if x8 < (wrap64 (x3 - 1)) then (if 0 ≤ x8 then (if x8 < (x0.length : Int) then (if x3 = 0 then (none) else (if 0 ≤ (Int.tmod (wrap64 (x8 + 1)) x3) then (if (Int.tmod (wrap64 (x8 + 1)) x3) < (x0.length : Int) then ((spec_l13Meet.F x160000 x160001 x162000 x162001 ((rd_T51 x0 x8).f0) ((rd_T51 x0 x8).f1) ((rd_T51 x0 (Int.tmod (wrap64 (x8 + 1)) x3)).f0) ((rd_T51 x0 (Int.tmod (wrap64 (x8 + 1)) x3)).f1)).bind fun t169 => (if t169 = true then (some false) else (spec_l13Ok.L2 x0 x3 x5 (wrap64 (x8 + 1)) x160000 x160001 x162000 x162001))) else (none)) else (none))) else (none)) else (none)) else (spec_l13Ok.L2 x0 x3 x5 (wrap64 (x8 + 1)) x160000 x160001 x162000 x162001))) else (spec_l13Ok.L1 x0 x3 (wrap64 (x5 + 1))) := by
  refine Lim.step (f := fun k => if x8 < x3 then (if x5 > 0 then (if 0 ≤ x8 then (if x8 < (x0.length : Int) then (if x3 = 0 then (none) else (if 0 ≤ (Int.tmod (wrap64 (x8 + 1)) x3) then (if (Int.tmod (wrap64 (x8 + 1)) x3) < (x0.length : Int) then ((spec_l13Meet.f k x160000 x160001 x162000 x162001 ((rd_T51 x0 x8).f0) ((rd_T51 x0 x8).f1) ((rd_T51 x0 (Int.tmod (wrap64 (x8 + 1)) x3)).f0) ((rd_T51 x0 (Int.tmod (wrap64 (x8 + 1)) x3)).f1)).bind fun t166 => (if t166 = true then (some false) else (spec_l13Ok.l2 k x0 x3 x5 (wrap64 (x8 + 1)) x160000 x160001 x162000 x162001))) else (none)) else (none))) else (none)) else (none)) else (if x8 < (wrap64 (x3 - 1)) then (if 0 ≤ x8 then (if x8 < (x0.length : Int) then (if x3 = 0 then (none) else (if 0 ≤ (Int.tmod (wrap64 (x8 + 1)) x3) then (if (Int.tmod (wrap64 (x8 + 1)) x3) < (x0.length : Int) then ((spec_l13Meet.f k x160000 x160001 x162000 x162001 ((rd_T51 x0 x8).f0) ((rd_T51 x0 x8).f1) ((rd_T51 x0 (Int.tmod (wrap64 (x8 + 1)) x3)).f0) ((rd_T51 x0 (Int.tmod (wrap64 (x8 + 1)) x3)).f1)).bind fun t169 => (if t169 = true then (some false) else (spec_l13Ok.l2 k x0 x3 x5 (wrap64 (x8 + 1)) x160000 x160001 x162000 x162001))) else (none)) else (none))) else (none)) else (none)) else (spec_l13Ok.l2 k x0 x3 x5 (wrap64 (x8 + 1)) x160000 x160001 x162000 x162001))) else (spec_l13Ok.l1 k x0 x3 (wrap64 (x5 + 1)))) (fun k => (spec_l13Ok.mono_l k).2.2 x0 x3 x5 x8 x160000 x160001 x162000 x162001) (fun k => by simp only [spec_l13Ok.l2]) ?_
  repeat' first
    | with_reducible exact Lim.const _
    | with_reducible exact spec_l13Meet.F_lim _ _ _ _ _ _ _ _
    | with_reducible exact spec_l13Ok.L1_lim _ _ _
    | with_reducible exact spec_l13Ok.L2_lim _ _ _ _ _ _ _ _
    | with_reducible refine Lim.ite ?_ ?_
    | with_reducible refine Lim.bind ?_ (fun _ => ?_)
theorem spec_l13Ok.F_eq (l0 : List (S51)) : spec_l13Ok.F l0 = (spec_l00In.f (l0.length : Int) 3 8).bind fun t152 => (if t152 = true then (spec_l13Ok.L0 l0 (l0.length : Int) 0) else (some false)) := by
  refine Lim.eq (g := fun k => spec_l13Ok.f k l0) ?_
  unfold spec_l13Ok.f
  repeat' first
    | with_reducible exact Lim.const _
    | with_reducible exact spec_l13Ok.L0_lim _ _ _
    | with_reducible refine Lim.ite ?_ ?_
    | with_reducible refine Lim.bind ?_ (fun _ => ?_)

noncomputable def spec_l13Bulged.L0 (x0 : List (S51)) (x3 : Int) (x4 : Int) : Option (Bool) := lim (fun k => spec_l13Bulged.l0 k x0 x3 x4)
theorem spec_l13Bulged.L0_lim (x0 : List (S51)) (x3 : Int) (x4 : Int) : Lim (fun k => spec_l13Bulged.l0 k x0 x3 x4) (spec_l13Bulged.L0 x0 x3 x4) := Lim.of (fun k => (spec_l13Bulged.mono_l k) x0 x3 x4)
noncomputable def spec_l13Bulged.F (l0 : List (S51)) : Option (Bool) := lim (fun k => spec_l13Bulged.f k l0)
theorem spec_l13Bulged.F_lim (l0 : List (S51)) : Lim (fun k => spec_l13Bulged.f k l0) (spec_l13Bulged.F l0) := Lim.of (fun k => spec_l13Bulged.mono l0 k)
theorem spec_l13Bulged.L0_eq (x0 : List (S51)) (x3 : Int) (x4 : Int) : spec_l13Bulged.L0 x0 x3 x4 = if x4 < x3 then (if 0 ≤ x4 then (if x4 < (x0.length : Int) then (if x3 = 0 then (none) else (if 0 ≤ (Int.tmod (wrap64 (x4 + 1)) x3) then (if (Int.tmod (wrap64 (x4 + 1)) x3) < (x0.length : Int) then (if 0 ≤ (Int.tmod (wrap64 (x4 + 2)) x3) then (if (Int.tmod (wrap64 (x4 + 2)) x3) < (x0.length : Int) then ((spec_l13Cross.f ((rd_T51 x0 x4).f0) ((rd_T51 x0 x4).f1) ((rd_T51 x0 (Int.tmod (wrap64 (x4 + 1)) x3)).f0) ((rd_T51 x0 (Int.tmod (wrap64 (x4 + 1)) x3)).f1) ((rd_T51 x0 (Int.tmod (wrap64 (x4 + 2)) x3)).f0) ((rd_T51 x0 (Int.tmod (wrap64 (x4 + 2)) x3)).f1)).bind fun t177 => (if t177 < 0 then (some false) else (spec_l13Bulged.L0 x0 x3 (wrap64 (x4 + 1))))) else (none)) else (none)) else (none)) else (none))) else (none)) else (none)) else (some true) := by
  refine Lim.step (f := fun k => if x4 < x3 then (if 0 ≤ x4 then (if x4 < (x0.length : Int) then (if x3 = 0 then (none) else (if 0 ≤ (Int.tmod (wrap64 (x4 + 1)) x3) then (if (Int.tmod (wrap64 (x4 + 1)) x3) < (x0.length : Int) then (if 0 ≤ (Int.tmod (wrap64 (x4 + 2)) x3) then (if (Int.tmod (wrap64 (x4 + 2)) x3) < (x0.length : Int) then ((spec_l13Cross.f ((rd_T51 x0 x4).f0) ((rd_T51 x0 x4).f1) ((rd_T51 x0 (Int.tmod (wrap64 (x4 + 1)) x3)).f0) ((rd_T51 x0 (Int.tmod (wrap64 (x4 + 1)) x3)).f1) ((rd_T51 x0 (Int.tmod (wrap64 (x4 + 2)) x3)).f0) ((rd_T51 x0 (Int.tmod (wrap64 (x4 + 2)) x3)).f1)).bind fun t177 => (if t177 < 0 then (some false) else (spec_l13Bulged.l0 k x0 x3 (wrap64 (x4 + 1))))) else (none)) else (none)) else (none)) else (none))) else (none)) else (none)) else (some true)) (fun k => (spec_l13Bulged.mono_l k) x0 x3 x4) (fun k => by simp only [spec_l13Bulged.l0]) ?_
  repeat' first
    | with_reducible exact Lim.const _
    | with_reducible exact spec_l13Bulged.L0_lim _ _ _
    | with_reducible refine Lim.ite ?_ ?_
    | with_reducible refine Lim.bind ?_ (fun _ => ?_)
theorem spec_l13Bulged.F_eq (l0 : List (S51)) : spec_l13Bulged.F l0 = spec_l13Bulged.L0 l0 (l0.length : Int) 0 := by
  refine Lim.eq (g := fun k => spec_l13Bulged.f k l0) ?_
  unfold spec_l13Bulged.f
  repeat' first
    | with_reducible exact Lim.const _
    | with_reducible exact spec_l13Bulged.L0_lim _ _ _
    | with_reducible refine Lim.ite ?_ ?_
    | with_reducible refine Lim.bind ?_ (fun _ => ?_)

noncomputable def spec_l13Limits.L0 (x0 : List (S51)) (x4 : Int) (x5 : Int) (x6 : Int) : Option (Int × Int) := lim (fun k => spec_l13Limits.l0 k x0 x4 x5 x6)
theorem spec_l13Limits.L0_lim (x0 : List (S51)) (x4 : Int) (x5 : Int) (x6 : Int) : Lim (fun k => spec_l13Limits.l0 k x0 x4 x5 x6) (spec_l13Limits.L0 x0 x4 x5 x6) := Lim.of (fun k => (spec_l13Limits.mono_l k) x0 x4 x5 x6)
noncomputable def spec_l13Limits.F (l0 : List (S51)) : Option (Int × Int) := lim (fun k => spec_l13Limits.f k l0)
theorem spec_l13Limits.F_lim (l0 : List (S51)) : Lim (fun k => spec_l13Limits.f k l0) (spec_l13Limits.F l0) := Lim.of (fun k => spec_l13Limits.mono l0 k)
theorem spec_l13Limits.L0_eq (x0 : List (S51)) (x4 : Int) (x5 : Int) (x6 : Int) : spec_l13Limits.L0 x0 x4 x5 x6 = if x6 < (x0.length : Int) then (if 0 ≤ x6 then ((spec_l00Min.f x4 ((rd_T51 x0 x6).f1)).bind fun t180 => ((spec_l00Max.f x5 ((rd_T51 x0 x6).f1)).bind fun t182 => (spec_l13Limits.L0 x0 t180 t182 (wrap64 (x6 + 1))))) else (none)) else (some (x4, x5)) := by
  refine Lim.step (f := fun k => if x6 < (x0.length : Int) then (if 0 ≤ x6 then ((spec_l00Min.f x4 ((rd_T51 x0 x6).f1)).bind fun t180 => ((spec_l00Max.f x5 ((rd_T51 x0 x6).f1)).bind fun t182 => (spec_l13Limits.l0 k x0 t180 t182 (wrap64 (x6 + 1))))) else (none)) else (some (x4, x5))) (fun k => (spec_l13Limits.mono_l k) x0 x4 x5 x6) (fun k => by simp only [spec_l13Limits.l0]) ?_
  repeat' first
    | with_reducible exact Lim.const _
    | with_reducible exact spec_l13Limits.L0_lim _ _ _ _
    | with_reducible refine Lim.ite ?_ ?_
    | with_reducible refine Lim.bind ?_ (fun _ => ?_)
theorem spec_l13Limits.F_eq (l0 : List (S51)) : spec_l13Limits.F l0 = if 0 < (l0.length : Int) then (spec_l13Limits.L0 l0 ((rd_T51 l0 0).f1) ((rd_T51 l0 0).f1) 1) else (none) := by
  refine Lim.eq (g := fun k => spec_l13Limits.f k l0) ?_
  unfold spec_l13Limits.f
  repeat' first
    | with_reducible exact Lim.const _
    | with_reducible exact spec_l13Limits.L0_lim _ _ _ _
    | with_reducible refine Lim.ite ?_ ?_
    | with_reducible refine Lim.bind ?_ (fun _ => ?_)

noncomputable def spec_l15Code.J0 (x0 : List (S51)) (x14 : Bool) (x185000 : Int) (x185001 : Int) (x185002 : Int) : Option (Int) := lim (fun k => spec_l15Code.j0 k x0 x14 x185000 x185001 x185002)
theorem spec_l15Code.J0_lim (x0 : List (S51)) (x14 : Bool) (x185000 : Int) (x185001 : Int) (x185002 : Int) : Lim (fun k => spec_l15Code.j0 k x0 x14 x185000 x185001 x185002) (spec_l15Code.J0 x0 x14 x185000 x185001 x185002) := Lim.of (fun k => (spec_l15Code.mono_l k) x0 x14 x185000 x185001 x185002)
noncomputable def spec_l15Code.F (l0 : List (S51)) (a1_0 : Int) (a1_1 : Int) (a1_2 : Int) : Option (Int) := lim (fun k => spec_l15Code.f k l0 a1_0 a1_1 a1_2)
theorem spec_l15Code.F_lim (l0 : List (S51)) (a1_0 : Int) (a1_1 : Int) (a1_2 : Int) : Lim (fun k => spec_l15Code.f k l0 a1_0 a1_1 a1_2) (spec_l15Code.F l0 a1_0 a1_1 a1_2) := Lim.of (fun k => spec_l15Code.mono l0 a1_0 a1_1 a1_2 k)
theorem spec_l15Code.J0_eq (x0 : List (S51)) (x14 : Bool) (x185000 : Int) (x185001 : Int) (x185002 : Int) : spec_l15Code.J0 x0 x14 x185000 x185001 x185002 = if x14 = true then (some 1) else ((spec_l13Bulged.F x0).bind fun t187 => (if t187 = true then ((spec_l13Limits.F x0).bind fun bt188 => ((spec_l15Many.f (wrap64 (bt188.2 - bt188.1)) x185000 x185001 x185002).bind fun t190 => (if t190 > 40 then (some 5) else (some 0)))) else (some 6))) := by
  refine Lim.step (f := fun k => if x14 = true then (some 1) else ((spec_l13Bulged.f k x0).bind fun t187 => (if t187 = true then ((spec_l13Limits.f k x0).bind fun bt188 => ((spec_l15Many.f (wrap64 (bt188.2 - bt188.1)) x185000 x185001 x185002).bind fun t190 => (if t190 > 40 then (some 5) else (some 0)))) else (some 6)))) (fun k => (spec_l15Code.mono_l k) x0 x14 x185000 x185001 x185002) (fun k => by simp only [spec_l15Code.j0]) ?_
  repeat' first
    | with_reducible exact Lim.const _
    | with_reducible exact spec_l13Bulged.F_lim _
    | with_reducible exact spec_l13Limits.F_lim _
    | with_reducible refine Lim.ite ?_ ?_
    | with_reducible refine Lim.bind ?_ (fun _ => ?_)
theorem spec_l15Code.F_eq (l0 : List (S51)) (a1_0 : Int) (a1_1 : Int) (a1_2 : Int) : spec_l15Code.F l0 a1_0 a1_1 a1_2 = (spec_l13Ok.F l0).bind fun t185 => (if t185 = true then ((spec_l15Ok.f a1_0 a1_1 a1_2).bind fun t186 => (spec_l15Code.J0 l0 (!t186) a1_0 a1_1 a1_2)) else (spec_l15Code.J0 l0 true a1_0 a1_1 a1_2)) := by
  refine Lim.eq (g := fun k => spec_l15Code.f k l0 a1_0 a1_1 a1_2) ?_
  unfold spec_l15Code.f
  repeat' first
    | with_reducible exact Lim.const _
    | with_reducible exact spec_l13Ok.F_lim _
    | with_reducible exact spec_l15Code.J0_lim _ _ _ _ _
    | with_reducible refine Lim.ite ?_ ?_
    | with_reducible refine Lim.bind ?_ (fun _ => ?_)

noncomputable def spec_l15Edges.L0 (x6 : Int) (x7 : List Int) (x8 : Int) (x192000 : Int) (x192001 : Int) (x192002 : Int) : Option (List Int) := lim (fun k => spec_l15Edges.l0 k x6 x7 x8 x192000 x192001 x192002)
theorem spec_l15Edges.L0_lim (x6 : Int) (x7 : List Int) (x8 : Int) (x192000 : Int) (x192001 : Int) (x192002 : Int) : Lim (fun k => spec_l15Edges.l0 k x6 x7 x8 x192000 x192001 x192002) (spec_l15Edges.L0 x6 x7 x8 x192000 x192001 x192002) := Lim.of (fun k => (spec_l15Edges.mono_l k) x6 x7 x8 x192000 x192001 x192002)
noncomputable def spec_l15Edges.F (l0 : List (S51)) (a1_0 : Int) (a1_1 : Int) (a1_2 : Int) : Option (List Int) := lim (fun k => spec_l15Edges.f k l0 a1_0 a1_1 a1_2)
theorem spec_l15Edges.F_lim (l0 : List (S51)) (a1_0 : Int) (a1_1 : Int) (a1_2 : Int) : Lim (fun k => spec_l15Edges.f k l0 a1_0 a1_1 a1_2) (spec_l15Edges.F l0 a1_0 a1_1 a1_2) := Lim.of (fun k => spec_l15Edges.mono l0 a1_0 a1_1 a1_2 k)
theorem spec_l15Edges.L0_eq (x6 : Int) (x7 : List Int) (x8 : Int) (x192000 : Int) (x192001 : Int) (x192002 : Int) : spec_l15Edges.L0 x6 x7 x8 x192000 x192001 x192002 = if x8 < x6 then (if x7.length < 17592186044416 then (spec_l15Edges.L0 x6 (x7 ++ [x8]) (wrap64 (x8 + (wrap64 (x192000 - x192001)))) x192000 x192001 x192002) else (none)) else (if x7.length < 17592186044416 then (some (x7 ++ [x6])) else (none)) := by
  refine Lim.step (f := fun k => if x8 < x6 then (if x7.length < 17592186044416 then (spec_l15Edges.l0 k x6 (x7 ++ [x8]) (wrap64 (x8 + (wrap64 (x192000 - x192001)))) x192000 x192001 x192002) else (none)) else (if x7.length < 17592186044416 then (some (x7 ++ [x6])) else (none))) (fun k => (spec_l15Edges.mono_l k) x6 x7 x8 x192000 x192001 x192002) (fun k => by simp only [spec_l15Edges.l0]) ?_
  repeat' first
    | with_reducible exact Lim.const _
    | with_reducible exact spec_l15Edges.L0_lim _ _ _ _ _ _
    | with_reducible refine Lim.ite ?_ ?_
    | with_reducible refine Lim.bind ?_ (fun _ => ?_)
theorem spec_l15Edges.F_eq (l0 : List (S51)) (a1_0 : Int) (a1_1 : Int) (a1_2 : Int) : spec_l15Edges.F l0 a1_0 a1_1 a1_2 = (spec_l13Limits.F l0).bind fun bt192 => (spec_l15Edges.L0 bt192.2 (([] : List Int)) bt192.1 a1_0 a1_1 a1_2) := by
  refine Lim.eq (g := fun k => spec_l15Edges.f k l0 a1_0 a1_1 a1_2) ?_
  unfold spec_l15Edges.f
  repeat' first
    | with_reducible exact Lim.const _
    | with_reducible exact spec_l13Limits.F_lim _
    | with_reducible exact spec_l15Edges.L0_lim _ _ _ _ _ _
    | with_reducible refine Lim.ite ?_ ?_
    | with_reducible refine Lim.bind ?_ (fun _ => ?_)

noncomputable def spec_PanelEdges.F (l0 : List (S51)) (a1_0 : Int) (a1_1 : Int) (a1_2 : Int) : Option (List Int × Int) := lim (fun k => spec_PanelEdges.f k l0 a1_0 a1_1 a1_2)
theorem spec_PanelEdges.F_lim (l0 : List (S51)) (a1_0 : Int) (a1_1 : Int) (a1_2 : Int) : Lim (fun k => spec_PanelEdges.f k l0 a1_0 a1_1 a1_2) (spec_PanelEdges.F l0 a1_0 a1_1 a1_2) := Lim.of (fun k => spec_PanelEdges.mono l0 a1_0 a1_1 a1_2 k)
theorem spec_PanelEdges.F_eq (l0 : List (S51)) (a1_0 : Int) (a1_1 : Int) (a1_2 : Int) : spec_PanelEdges.F l0 a1_0 a1_1 a1_2 = (spec_l15Code.F l0 a1_0 a1_1 a1_2).bind fun t204 => (if t204 = 0 then ((spec_l15Edges.F l0 a1_0 a1_1 a1_2).bind fun t205 => (some (t205, 0))) else (some (([] : List Int), t204))) := by
  refine Lim.eq (g := fun k => spec_PanelEdges.f k l0 a1_0 a1_1 a1_2) ?_
  unfold spec_PanelEdges.f
  repeat' first
    | with_reducible exact Lim.const _
    | with_reducible exact spec_l15Code.F_lim _ _ _ _
    | with_reducible exact spec_l15Edges.F_lim _ _ _ _
    | with_reducible refine Lim.ite ?_ ?_
    | with_reducible refine Lim.bind ?_ (fun _ => ?_)

noncomputable def impl_heightsOf.L0 (x4 : Int) (x5 : Int) (x16 : List (S51)) (x17 : Int) (x18 : Int) : Option (Int × Int) := lim (fun k => impl_heightsOf.l0 k x4 x5 x16 x17 x18)
theorem impl_heightsOf.L0_lim (x4 : Int) (x5 : Int) (x16 : List (S51)) (x17 : Int) (x18 : Int) : Lim (fun k => impl_heightsOf.l0 k x4 x5 x16 x17 x18) (impl_heightsOf.L0 x4 x5 x16 x17 x18) := Lim.of (fun k => (impl_heightsOf.mono_l k) x4 x5 x16 x17 x18)
noncomputable def impl_heightsOf.F (l0 : List (S51)) : Option (Int × Int) := lim (fun k => impl_heightsOf.f k l0)
theorem impl_heightsOf.F_lim (l0 : List (S51)) : Lim (fun k => impl_heightsOf.f k l0) (impl_heightsOf.F l0) := Lim.of (fun k => impl_heightsOf.mono l0 k)
theorem impl_heightsOf.L0_eq (x4 : Int) (x5 : Int) (x16 : List (S51)) (x17 : Int) (x18 : Int) : impl_heightsOf.L0 x4 x5 x16 x17 x18 = if x18 < x17 then (if 0 ≤ x18 then (if x18 < (x16.length : Int) then (impl_heightsOf.L0 (mn x4 ((rd_T51 x16 x18).f1)) (mx x5 ((rd_T51 x16 x18).f1)) x16 x17 (wrap64 (x18 + 1))) else (none)) else (none)) else (some (x4, x5)) := by
  refine Lim.step (f := fun k => if x18 < x17 then (if 0 ≤ x18 then (if x18 < (x16.length : Int) then (impl_heightsOf.l0 k (mn x4 ((rd_T51 x16 x18).f1)) (mx x5 ((rd_T51 x16 x18).f1)) x16 x17 (wrap64 (x18 + 1))) else (none)) else (none)) else (some (x4, x5))) (fun k => (impl_heightsOf.mono_l k) x4 x5 x16 x17 x18) (fun k => by simp only [impl_heightsOf.l0]) ?_
  repeat' first
    | with_reducible exact Lim.const _
    | with_reducible exact impl_heightsOf.L0_lim _ _ _ _ _
    | with_reducible refine Lim.ite ?_ ?_
    | with_reducible refine Lim.bind ?_ (fun _ => ?_)
theorem impl_heightsOf.F_eq (l0 : List (S51)) : impl_heightsOf.F l0 = if 0 < (l0.length : Int) then (impl_heightsOf.L0 ((rd_T51 l0 0).f1) ((rd_T51 l0 0).f1) l0 (l0.length : Int) 0) else (none) := by
  refine Lim.eq (g := fun k => impl_heightsOf.f k l0) ?_
  unfold impl_heightsOf.f
  repeat' first
    | with_reducible exact Lim.const _
    | with_reducible exact impl_heightsOf.L0_lim _ _ _ _ _
    | with_reducible refine Lim.ite ?_ ?_
    | with_reducible refine Lim.bind ?_ (fun _ => ?_)

noncomputable def impl_panelEdges.L0 (x6 : Int) (x7 : List Int) (x8 : Int) (x213000 : Int) (x213001 : Int) (x213002 : Int) : Option (List Int) := lim (fun k => impl_panelEdges.l0 k x6 x7 x8 x213000 x213001 x213002)
theorem impl_panelEdges.L0_lim (x6 : Int) (x7 : List Int) (x8 : Int) (x213000 : Int) (x213001 : Int) (x213002 : Int) : Lim (fun k => impl_panelEdges.l0 k x6 x7 x8 x213000 x213001 x213002) (impl_panelEdges.L0 x6 x7 x8 x213000 x213001 x213002) := Lim.of (fun k => (impl_panelEdges.mono_l k) x6 x7 x8 x213000 x213001 x213002)
noncomputable def impl_panelEdges.F (l0 : List (S51)) (a1_0 : Int) (a1_1 : Int) (a1_2 : Int) : Option (List Int) := lim (fun k => impl_panelEdges.f k l0 a1_0 a1_1 a1_2)
theorem impl_panelEdges.F_lim (l0 : List (S51)) (a1_0 : Int) (a1_1 : Int) (a1_2 : Int) : Lim (fun k => impl_panelEdges.f k l0 a1_0 a1_1 a1_2) (impl_panelEdges.F l0 a1_0 a1_1 a1_2) := Lim.of (fun k => impl_panelEdges.mono l0 a1_0 a1_1 a1_2 k)
theorem impl_panelEdges.L0_eq (x6 : Int) (x7 : List Int) (x8 : Int) (x213000 : Int) (x213001 : Int) (x213002 : Int) : impl_panelEdges.L0 x6 x7 x8 x213000 x213001 x213002 = if x8 < x6 then (if x7.length < 17592186044416 then (impl_panelEdges.L0 x6 (x7 ++ [x8]) (wrap64 (x8 + (wrap64 (x213000 - x213001)))) x213000 x213001 x213002) else (none)) else (if x7.length < 17592186044416 then (some (x7 ++ [x6])) else (none)) := by
  refine Lim.step (f := fun k => if x8 < x6 then (if x7.length < 17592186044416 then (impl_panelEdges.l0 k x6 (x7 ++ [x8]) (wrap64 (x8 + (wrap64 (x213000 - x213001)))) x213000 x213001 x213002) else (none)) else (if x7.length < 17592186044416 then (some (x7 ++ [x6])) else (none))) (fun k => (impl_panelEdges.mono_l k) x6 x7 x8 x213000 x213001 x213002) (fun k => by simp only [impl_panelEdges.l0]) ?_
  repeat' first
    | with_reducible exact Lim.const _
    | with_reducible exact impl_panelEdges.L0_lim _ _ _ _ _ _
    | with_reducible refine Lim.ite ?_ ?_
    | with_reducible refine Lim.bind ?_ (fun _ => ?_)
theorem impl_panelEdges.F_eq (l0 : List (S51)) (a1_0 : Int) (a1_1 : Int) (a1_2 : Int) : impl_panelEdges.F l0 a1_0 a1_1 a1_2 = (impl_heightsOf.F l0).bind fun bt213 => (impl_panelEdges.L0 bt213.2 (([] : List Int)) bt213.1 a1_0 a1_1 a1_2) := by
  refine Lim.eq (g := fun k => impl_panelEdges.f k l0 a1_0 a1_1 a1_2) ?_
  unfold impl_panelEdges.f
  repeat' first
    | with_reducible exact Lim.const _
    | with_reducible exact impl_heightsOf.F_lim _
    | with_reducible exact impl_panelEdges.L0_lim _ _ _ _ _ _
    | with_reducible refine Lim.ite ?_ ?_
    | with_reducible refine Lim.bind ?_ (fun _ => ?_)

noncomputable def impl_twiceSail.L0 (x0 : List (S51)) (x3 : Int) (x7 : List (S51)) (x8 : Int) (x9 : Int) : Option (Int) := lim (fun k => impl_twiceSail.l0 k x0 x3 x7 x8 x9)
theorem impl_twiceSail.L0_lim (x0 : List (S51)) (x3 : Int) (x7 : List (S51)) (x8 : Int) (x9 : Int) : Lim (fun k => impl_twiceSail.l0 k x0 x3 x7 x8 x9) (impl_twiceSail.L0 x0 x3 x7 x8 x9) := Lim.of (fun k => (impl_twiceSail.mono_l k) x0 x3 x7 x8 x9)
noncomputable def impl_twiceSail.F (l0 : List (S51)) : Option (Int) := lim (fun k => impl_twiceSail.f k l0)
theorem impl_twiceSail.F_lim (l0 : List (S51)) : Lim (fun k => impl_twiceSail.f k l0) (impl_twiceSail.F l0) := Lim.of (fun k => impl_twiceSail.mono l0 k)
theorem impl_twiceSail.L0_eq (x0 : List (S51)) (x3 : Int) (x7 : List (S51)) (x8 : Int) (x9 : Int) : impl_twiceSail.L0 x0 x3 x7 x8 x9 = if x9 < x8 then (if 0 ≤ x9 then (if x9 < (x7.length : Int) then (if (x0.length : Int) = 0 then (none) else (if 0 ≤ (Int.tmod (wrap64 (x9 + 1)) (x0.length : Int)) then (if (Int.tmod (wrap64 (x9 + 1)) (x0.length : Int)) < (x0.length : Int) then (impl_twiceSail.L0 x0 (wrap64 (x3 + (wrap64 ((wrap64 (((rd_T51 x7 x9).f0) * ((rd_T51 x0 (Int.tmod (wrap64 (x9 + 1)) (x0.length : Int))).f1))) - (wrap64 (((rd_T51 x0 (Int.tmod (wrap64 (x9 + 1)) (x0.length : Int))).f0) * ((rd_T51 x7 x9).f1))))))) x7 x8 (wrap64 (x9 + 1))) else (none)) else (none))) else (none)) else (none)) else (some x3) := by
  refine Lim.step (f := fun k => if x9 < x8 then (if 0 ≤ x9 then (if x9 < (x7.length : Int) then (if (x0.length : Int) = 0 then (none) else (if 0 ≤ (Int.tmod (wrap64 (x9 + 1)) (x0.length : Int)) then (if (Int.tmod (wrap64 (x9 + 1)) (x0.length : Int)) < (x0.length : Int) then (impl_twiceSail.l0 k x0 (wrap64 (x3 + (wrap64 ((wrap64 (((rd_T51 x7 x9).f0) * ((rd_T51 x0 (Int.tmod (wrap64 (x9 + 1)) (x0.length : Int))).f1))) - (wrap64 (((rd_T51 x0 (Int.tmod (wrap64 (x9 + 1)) (x0.length : Int))).f0) * ((rd_T51 x7 x9).f1))))))) x7 x8 (wrap64 (x9 + 1))) else (none)) else (none))) else (none)) else (none)) else (some x3)) (fun k => (impl_twiceSail.mono_l k) x0 x3 x7 x8 x9) (fun k => by simp only [impl_twiceSail.l0]) ?_
  repeat' first
    | with_reducible exact Lim.const _
    | with_reducible exact impl_twiceSail.L0_lim _ _ _ _ _
    | with_reducible refine Lim.ite ?_ ?_
    | with_reducible refine Lim.bind ?_ (fun _ => ?_)
theorem impl_twiceSail.F_eq (l0 : List (S51)) : impl_twiceSail.F l0 = impl_twiceSail.L0 l0 0 l0 (l0.length : Int) 0 := by
  refine Lim.eq (g := fun k => impl_twiceSail.f k l0) ?_
  unfold impl_twiceSail.f
  repeat' first
    | with_reducible exact Lim.const _
    | with_reducible exact impl_twiceSail.L0_lim _ _ _ _ _
    | with_reducible refine Lim.ite ?_ ?_
    | with_reducible refine Lim.bind ?_ (fun _ => ?_)

noncomputable def impl_edgesMeet.J0 (x9 : Int) (x10 : Int) (x11 : Int) (x12 : Int) (x42 : Bool) (x237000 : Int) (x237001 : Int) (x238000 : Int) (x238001 : Int) (x239000 : Int) (x239001 : Int) (x240000 : Int) (x240001 : Int) : Option (Bool) := lim (fun k => impl_edgesMeet.j0 k x9 x10 x11 x12 x42 x237000 x237001 x238000 x238001 x239000 x239001 x240000 x240001)
theorem impl_edgesMeet.J0_lim (x9 : Int) (x10 : Int) (x11 : Int) (x12 : Int) (x42 : Bool) (x237000 : Int) (x237001 : Int) (x238000 : Int) (x238001 : Int) (x239000 : Int) (x239001 : Int) (x240000 : Int) (x240001 : Int) : Lim (fun k => impl_edgesMeet.j0 k x9 x10 x11 x12 x42 x237000 x237001 x238000 x238001 x239000 x239001 x240000 x240001) (impl_edgesMeet.J0 x9 x10 x11 x12 x42 x237000 x237001 x238000 x238001 x239000 x239001 x240000 x240001) := Lim.of (fun k => (impl_edgesMeet.mono_l k) x9 x10 x11 x12 x42 x237000 x237001 x238000 x238001 x239000 x239001 x240000 x240001)
noncomputable def impl_edgesMeet.F (a0_0 : Int) (a0_1 : Int) (a1_0 : Int) (a1_1 : Int) (a2_0 : Int) (a2_1 : Int) (a3_0 : Int) (a3_1 : Int) : Option (Bool) := lim (fun k => impl_edgesMeet.f k a0_0 a0_1 a1_0 a1_1 a2_0 a2_1 a3_0 a3_1)
theorem impl_edgesMeet.F_lim (a0_0 : Int) (a0_1 : Int) (a1_0 : Int) (a1_1 : Int) (a2_0 : Int) (a2_1 : Int) (a3_0 : Int) (a3_1 : Int) : Lim (fun k => impl_edgesMeet.f k a0_0 a0_1 a1_0 a1_1 a2_0 a2_1 a3_0 a3_1) (impl_edgesMeet.F a0_0 a0_1 a1_0 a1_1 a2_0 a2_1 a3_0 a3_1) := Lim.of (fun k => impl_edgesMeet.mono a0_0 a0_1 a1_0 a1_1 a2_0 a2_1 a3_0 a3_1 k)
theorem impl_edgesMeet.J0_eq (x9 : Int) (x10 : Int) (x11 : Int) (x12 : Int) (x42 : Bool) (x237000 : Int) (x237001 : Int) (x238000 : Int) (x238001 : Int) (x239000 : Int) (x239001 : Int) (x240000 : Int) (x240001 : Int) : impl_edgesMeet.J0 x9 x10 x11 x12 x42 x237000 x237001 x238000 x238001 x239000 x239001 x240000 x240001 = if x42 = true then (some true) else (if x9 = 0 then ((impl_between.f x237000 x237001 x238000 x238001 x239000 x239001).bind fun t248 => (if t248 = true then (some true) else (if x10 = 0 then ((impl_between.f x237000 x237001 x238000 x238001 x240000 x240001).bind fun t249 => (if t249 = true then (some true) else (if x11 = 0 then ((impl_between.f x239000 x239001 x240000 x240001 x237000 x237001).bind fun t250 => (if t250 = true then (some true) else (if x12 = 0 then ((impl_between.f x239000 x239001 x240000 x240001 x238000 x238001).bind fun t251 => (some t251)) else (some false)))) else (if x12 = 0 then ((impl_between.f x239000 x239001 x240000 x240001 x238000 x238001).bind fun t252 => (some t252)) else (some false))))) else (if x11 = 0 then ((impl_between.f x239000 x239001 x240000 x240001 x237000 x237001).bind fun t253 => (if t253 = true then (some true) else (if x12 = 0 then ((impl_between.f x239000 x239001 x240000 x240001 x238000 x238001).bind fun t254 => (some t254)) else (some false)))) else (if x12 = 0 then ((impl_between.f x239000 x239001 x240000 x240001 x238000 x238001).bind fun t255 => (some t255)) else (some false)))))) else (if x10 = 0 then ((impl_between.f x237000 x237001 x238000 x238001 x240000 x240001).bind fun t256 => (if t256 = true then (some true) else (if x11 = 0 then ((impl_between.f x239000 x239001 x240000 x240001 x237000 x237001).bind fun t257 => (if t257 = true then (some true) else (if x12 = 0 then ((impl_between.f x239000 x239001 x240000 x240001 x238000 x238001).bind fun t258 => (some t258)) else (some false)))) else (if x12 = 0 then ((impl_between.f x239000 x239001 x240000 x240001 x238000 x238001).bind fun t259 => (some t259)) else (some false))))) else (if x11 = 0 then ((impl_between.f x239000 x239001 x240000 x240001 x237000 x237001).bind fun t260 => (if t260 = true then (some true) else (if x12 = 0 then ((impl_between.f x239000 x239001 x240000 x240001 x238000 x238001).bind fun t261 => (some t261)) else (some false)))) else (if x12 = 0 then ((impl_between.f x239000 x239001 x240000 x240001 x238000 x238001).bind fun t262 => (some t262)) else (some false))))) := by
  refine Lim.step (f := fun k => if x42 = true then (some true) else (if x9 = 0 then ((impl_between.f x237000 x237001 x238000 x238001 x239000 x239001).bind fun t248 => (if t248 = true then (some true) else (if x10 = 0 then ((impl_between.f x237000 x237001 x238000 x238001 x240000 x240001).bind fun t249 => (if t249 = true then (some true) else (if x11 = 0 then ((impl_between.f x239000 x239001 x240000 x240001 x237000 x237001).bind fun t250 => (if t250 = true then (some true) else (if x12 = 0 then ((impl_between.f x239000 x239001 x240000 x240001 x238000 x238001).bind fun t251 => (some t251)) else (some false)))) else (if x12 = 0 then ((impl_between.f x239000 x239001 x240000 x240001 x238000 x238001).bind fun t252 => (some t252)) else (some false))))) else (if x11 = 0 then ((impl_between.f x239000 x239001 x240000 x240001 x237000 x237001).bind fun t253 => (if t253 = true then (some true) else (if x12 = 0 then ((impl_between.f x239000 x239001 x240000 x240001 x238000 x238001).bind fun t254 => (some t254)) else (some false)))) else (if x12 = 0 then ((impl_between.f x239000 x239001 x240000 x240001 x238000 x238001).bind fun t255 => (some t255)) else (some false)))))) else (if x10 = 0 then ((impl_between.f x237000 x237001 x238000 x238001 x240000 x240001).bind fun t256 => (if t256 = true then (some true) else (if x11 = 0 then ((impl_between.f x239000 x239001 x240000 x240001 x237000 x237001).bind fun t257 => (if t257 = true then (some true) else (if x12 = 0 then ((impl_between.f x239000 x239001 x240000 x240001 x238000 x238001).bind fun t258 => (some t258)) else (some false)))) else (if x12 = 0 then ((impl_between.f x239000 x239001 x240000 x240001 x238000 x238001).bind fun t259 => (some t259)) else (some false))))) else (if x11 = 0 then ((impl_between.f x239000 x239001 x240000 x240001 x237000 x237001).bind fun t260 => (if t260 = true then (some true) else (if x12 = 0 then ((impl_between.f x239000 x239001 x240000 x240001 x238000 x238001).bind fun t261 => (some t261)) else (some false)))) else (if x12 = 0 then ((impl_between.f x239000 x239001 x240000 x240001 x238000 x238001).bind fun t262 => (some t262)) else (some false)))))) (fun k => (impl_edgesMeet.mono_l k) x9 x10 x11 x12 x42 x237000 x237001 x238000 x238001 x239000 x239001 x240000 x240001) (fun k => by simp only [impl_edgesMeet.j0]) ?_
  repeat' first
    | with_reducible exact Lim.const _
    | with_reducible refine Lim.ite ?_ ?_
    | with_reducible refine Lim.bind ?_ (fun _ => ?_)
theorem impl_edgesMeet.F_eq (a0_0 : Int) (a0_1 : Int) (a1_0 : Int) (a1_1 : Int) (a2_0 : Int) (a2_1 : Int) (a3_0 : Int) (a3_1 : Int) : impl_edgesMeet.F a0_0 a0_1 a1_0 a1_1 a2_0 a2_1 a3_0 a3_1 = (impl_turnAt.f a0_0 a0_1 a1_0 a1_1 a2_0 a2_1).bind fun t240 => ((impl_turnAt.f a0_0 a0_1 a1_0 a1_1 a3_0 a3_1).bind fun t241 => ((impl_turnAt.f a2_0 a2_1 a3_0 a3_1 a0_0 a0_1).bind fun t242 => ((impl_turnAt.f a2_0 a2_1 a3_0 a3_1 a1_0 a1_1).bind fun t243 => ((impl_sign.f t240).bind fun t244 => ((impl_sign.f t241).bind fun t245 => (if (wrap64 (t244 * t245)) < 0 then ((impl_sign.f t242).bind fun t246 => ((impl_sign.f t243).bind fun t247 => (impl_edgesMeet.J0 t240 t241 t242 t243 (decide ((wrap64 (t246 * t247)) < 0)) a0_0 a0_1 a1_0 a1_1 a2_0 a2_1 a3_0 a3_1))) else (impl_edgesMeet.J0 t240 t241 t242 t243 false a0_0 a0_1 a1_0 a1_1 a2_0 a2_1 a3_0 a3_1))))))) := by
  refine Lim.eq (g := fun k => impl_edgesMeet.f k a0_0 a0_1 a1_0 a1_1 a2_0 a2_1 a3_0 a3_1) ?_
  unfold impl_edgesMeet.f
  repeat' first
    | with_reducible exact Lim.const _
    | with_reducible exact impl_edgesMeet.J0_lim _ _ _ _ _ _ _ _ _ _ _ _ _
    | with_reducible refine Lim.ite ?_ ?_
    | with_reducible refine Lim.bind ?_ (fun _ => ?_)

noncomputable def impl_ValidSail.J0 (x0 : List (S51)) (x3 : Int) (x16 : Bool) : Option (Bool) := lim (fun k => impl_ValidSail.j0 k x0 x3 x16)
theorem impl_ValidSail.J0_lim (x0 : List (S51)) (x3 : Int) (x16 : Bool) : Lim (fun k => impl_ValidSail.j0 k x0 x3 x16) (impl_ValidSail.J0 x0 x3 x16) := Lim.of (fun k => (impl_ValidSail.mono_l k).1 x0 x3 x16)
noncomputable def impl_ValidSail.L0 (x0 : List (S51)) (x3 : Int) (x17 : List (S51)) (x18 : Int) (x19 : Int) : Option (Bool) := lim (fun k => impl_ValidSail.l0 k x0 x3 x17 x18 x19)
theorem impl_ValidSail.L0_lim (x0 : List (S51)) (x3 : Int) (x17 : List (S51)) (x18 : Int) (x19 : Int) : Lim (fun k => impl_ValidSail.l0 k x0 x3 x17 x18 x19) (impl_ValidSail.L0 x0 x3 x17 x18 x19) := Lim.of (fun k => (impl_ValidSail.mono_l k).2.1 x0 x3 x17 x18 x19)
noncomputable def impl_ValidSail.L1 (x0 : List (S51)) (x3 : Int) (x35 : Int) (x36 : Int) : Option (Bool) := lim (fun k => impl_ValidSail.l1 k x0 x3 x35 x36)
theorem impl_ValidSail.L1_lim (x0 : List (S51)) (x3 : Int) (x35 : Int) (x36 : Int) : Lim (fun k => impl_ValidSail.l1 k x0 x3 x35 x36) (impl_ValidSail.L1 x0 x3 x35 x36) := Lim.of (fun k => (impl_ValidSail.mono_l k).2.2.1 x0 x3 x35 x36)
noncomputable def impl_ValidSail.L2 (x0 : List (S51)) (x3 : Int) (x61 : Int) (x62 : Int) : Option (Bool) := lim (fun k => impl_ValidSail.l2 k x0 x3 x61 x62)
theorem impl_ValidSail.L2_lim (x0 : List (S51)) (x3 : Int) (x61 : Int) (x62 : Int) : Lim (fun k => impl_ValidSail.l2 k x0 x3 x61 x62) (impl_ValidSail.L2 x0 x3 x61 x62) := Lim.of (fun k => (impl_ValidSail.mono_l k).2.2.2.1 x0 x3 x61 x62)
noncomputable def impl_ValidSail.L3 (x0 : List (S51)) (x3 : Int) (x7 : Int) (x8 : Int) (x61 : Int) (x62 : Int) : Option (Bool) := lim (fun k => impl_ValidSail.l3 k x0 x3 x7 x8 x61 x62)
theorem impl_ValidSail.L3_lim (x0 : List (S51)) (x3 : Int) (x7 : Int) (x8 : Int) (x61 : Int) (x62 : Int) : Lim (fun k => impl_ValidSail.l3 k x0 x3 x7 x8 x61 x62) (impl_ValidSail.L3 x0 x3 x7 x8 x61 x62) := Lim.of (fun k => (impl_ValidSail.mono_l k).2.2.2.2 x0 x3 x7 x8 x61 x62)
noncomputable def impl_ValidSail.F (l0 : List (S51)) : Option (Bool) := lim (fun k => impl_ValidSail.f k l0)
theorem impl_ValidSail.F_lim (l0 : List (S51)) : Lim (fun k => impl_ValidSail.f k l0) (impl_ValidSail.F l0) := Lim.of (fun k => impl_ValidSail.mono l0 k)
theorem impl_ValidSail.J0_eq (x0 : List (S51)) (x3 : Int) (x16 : Bool) : impl_ValidSail.J0 x0 x3 x16 = if x16 = true then (some false) else (impl_ValidSail.L0 x0 x3 x0 (x0.length : Int) 0) := by
  refine Lim.step (f := fun k => if x16 = true then (some false) else (impl_ValidSail.l0 k x0 x3 x0 (x0.length : Int) 0)) (fun k => (impl_ValidSail.mono_l k).1 x0 x3 x16) (fun k => by simp only [impl_ValidSail.j0]) ?_
  repeat' first
    | with_reducible exact Lim.const _
    | with_reducible exact impl_ValidSail.L0_lim _ _ _ _ _
    | with_reducible refine Lim.ite ?_ ?_
    | with_reducible refine Lim.bind ?_ (fun _ => ?_)
theorem impl_ValidSail.L0_eq (x0 : List (S51)) (x3 : Int) (x17 : List (S51)) (x18 : Int) (x19 : Int) : impl_ValidSail.L0 x0 x3 x17 x18 x19 = if x19 < x18 then (if 0 ≤ x19 then (if x19 < (x17.length : Int) then ((impl_within.f ((rd_T51 x17 x19).f0) 0 2000).bind fun t265 => (if t265 = true then ((impl_within.f ((rd_T51 x17 x19).f1) 0 2000).bind fun t266 => (if t266 = true then (impl_ValidSail.L0 x0 x3 x17 x18 (wrap64 (x19 + 1))) else (some false))) else (some false))) else (none)) else (none)) else (impl_ValidSail.L1 x0 x3 (x0.length : Int) 0) := by
  refine Lim.step (f := fun k => if x19 < x18 then (if 0 ≤ x19 then (if x19 < (x17.length : Int) then ((impl_within.f ((rd_T51 x17 x19).f0) 0 2000).bind fun t265 => (if t265 = true then ((impl_within.f ((rd_T51 x17 x19).f1) 0 2000).bind fun t266 => (if t266 = true then (impl_ValidSail.l0 k x0 x3 x17 x18 (wrap64 (x19 + 1))) else (some false))) else (some false))) else (none)) else (none)) else (impl_ValidSail.l1 k x0 x3 (x0.length : Int) 0)) (fun k => (impl_ValidSail.mono_l k).2.1 x0 x3 x17 x18 x19) (fun k => by simp only [impl_ValidSail.l0]) ?_
  repeat' first
    | with_reducible exact Lim.const _
    | with_reducible exact impl_ValidSail.L0_lim _ _ _ _ _
    | with_reducible exact impl_ValidSail.L1_lim _ _ _ _
    | with_reducible refine Lim.ite ?_ ?_
    | with_reducible refine Lim.bind ?_ (fun _ => ?_)
theorem impl_ValidSail.L1_eq (x0 : List (S51)) (x3 : Int) (x35 : Int) (x36 : Int) : impl_ValidSail.L1 x0 x3 x35 x36 = if x36 < x35 then (if 0 ≤ x36 then (if x36 < (x0.length : Int) then (if x3 = 0 then (none) else (if 0 ≤ (Int.tmod (wrap64 (x36 + 1)) x3) then (if (Int.tmod (wrap64 (x36 + 1)) x3) < (x0.length : Int) then (if 0 ≤ (Int.tmod (wrap64 (x36 + 2)) x3) then (if (Int.tmod (wrap64 (x36 + 2)) x3) < (x0.length : Int) then ((impl_turnAt.f ((rd_T51 x0 x36).f0) ((rd_T51 x0 x36).f1) ((rd_T51 x0 (Int.tmod (wrap64 (x36 + 1)) x3)).f0) ((rd_T51 x0 (Int.tmod (wrap64 (x36 + 1)) x3)).f1) ((rd_T51 x0 (Int.tmod (wrap64 (x36 + 2)) x3)).f0) ((rd_T51 x0 (Int.tmod (wrap64 (x36 + 2)) x3)).f1)).bind fun t270 => (if t270 = 0 then (some false) else (impl_ValidSail.L1 x0 x3 x35 (wrap64 (x36 + 1))))) else (none)) else (none)) else (none)) else (none))) else (none)) else (none)) else (impl_ValidSail.L2 x0 x3 (x0.length : Int) 0) := by
  refine Lim.step (f := fun k => if x36 < x35 then (if 0 ≤ x36 then (if x36 < (x0.length : Int) then (if x3 = 0 then (none) else (if 0 ≤ (Int.tmod (wrap64 (x36 + 1)) x3) then (if (Int.tmod (wrap64 (x36 + 1)) x3) < (x0.length : Int) then (if 0 ≤ (Int.tmod (wrap64 (x36 + 2)) x3) then (if (Int.tmod (wrap64 (x36 + 2)) x3) < (x0.length : Int) then ((impl_turnAt.f ((rd_T51 x0 x36).f0) ((rd_T51 x0 x36).f1) ((rd_T51 x0 (Int.tmod (wrap64 (x36 + 1)) x3)).f0) ((rd_T51 x0 (Int.tmod (wrap64 (x36 + 1)) x3)).f1) ((rd_T51 x0 (Int.tmod (wrap64 (x36 + 2)) x3)).f0) ((rd_T51 x0 (Int.tmod (wrap64 (x36 + 2)) x3)).f1)).bind fun t270 => (if t270 = 0 then (some false) else (impl_ValidSail.l1 k x0 x3 x35 (wrap64 (x36 + 1))))) else (none)) else (none)) else (none)) else (none))) else (none)) else (none)) else (impl_ValidSail.l2 k x0 x3 (x0.length : Int) 0)) (fun k => (impl_ValidSail.mono_l k).2.2.1 x0 x3 x35 x36) (fun k => by simp only [impl_ValidSail.l1]) ?_
  repeat' first
    | with_reducible exact Lim.const _
    | with_reducible exact impl_ValidSail.L1_lim _ _ _ _
    | with_reducible exact impl_ValidSail.L2_lim _ _ _ _
    | with_reducible refine Lim.ite ?_ ?_
    | with_reducible refine Lim.bind ?_ (fun _ => ?_)
theorem impl_ValidSail.L2_eq (x0 : List (S51)) (x3 : Int) (x61 : Int) (x62 : Int) : impl_ValidSail.L2 x0 x3 x61 x62 = if x62 < x61 then (impl_ValidSail.L3 x0 x3 x62 (wrap64 (x62 + 2)) x61 x62) else ((impl_twiceSail.F x0).bind fun t271 => (some (decide (t271 > 0)))) := by
  refine Lim.step (f := fun k => if x62 < x61 then (impl_ValidSail.l3 k x0 x3 x62 (wrap64 (x62 + 2)) x61 x62) else ((impl_twiceSail.f k x0).bind fun t271 => (some (decide (t271 > 0))))) (fun k => (impl_ValidSail.mono_l k).2.2.2.1 x0 x3 x61 x62) (fun k => by simp only [impl_ValidSail.l2]) ?_
  repeat' first
    | with_reducible exact Lim.const _
    | with_reducible exact impl_ValidSail.L3_lim _ _ _ _ _ _
    | with_reducible exact impl_twiceSail.F_lim _
    | with_reducible refine Lim.ite ?_ ?_
    | with_reducible refine Lim.bind ?_ (fun _ => ?_)
theorem impl_ValidSail.L3_eq (x0 : List (S51)) (x3 : Int) (x7 : Int) (x8 : Int) (x61 : Int) (x62 : Int) : impl_ValidSail.L3 x0 x3 x7 x8 x61 x62 = if x8 < x3 then (if x3 = 0 then (none) else (if (Int.tmod (wrap64 (x8 + 1)) x3) = x7 then (impl_ValidSail.L3 x0 x3 x7 (wrap64 (x8 + 1)) x61 x62) else (if 0 ≤ x7 then (if x7 < (x0.length : Int) then (if 0 ≤ (wrap64 (x7 + 1)) then (if (wrap64 (x7 + 1)) < (x0.length : Int) then (if 0 ≤ x8 then (if x8 < (x0.length : Int) then (if 0 ≤ (Int.tmod (wrap64 (x8 + 1)) x3) then (if (Int.tmod (wrap64 (x8 + 1)) x3) < (x0.length : Int) then ((impl_edgesMeet.F ((rd_T51 x0 x7).f0) ((rd_T51 x0 x7).f1) ((rd_T51 x0 (wrap64 (x7 + 1))).f0) ((rd_T51 x0 (wrap64 (x7 + 1))).f1) ((rd_T51 x0 x8).f0) ((rd_T51 x0 x8).f1) ((rd_T51 x0 (Int.tmod (wrap64 (x8 + 1)) x3)).f0) ((rd_T51 x0 (Int.tmod (wrap64 (x8 + 1)) x3)).f1)).bind fun t276 => (if t276 = true then (some false) else (impl_ValidSail.L3 x0 x3 x7 (wrap64 (x8 + 1)) x61 x62))) else (none)) else (none)) else (none)) else (none)) else (none)) else (none)) else (none)) else (none)))) else (impl_ValidSail.L2 x0 x3 x61 (wrap64 (x62 + 1))) := by
  refine Lim.step (f := fun k => if x8 < x3 then (if x3 = 0 then (none) else (if (Int.tmod (wrap64 (x8 + 1)) x3) = x7 then (impl_ValidSail.l3 k x0 x3 x7 (wrap64 (x8 + 1)) x61 x62) else (if 0 ≤ x7 then (if x7 < (x0.length : Int) then (if 0 ≤ (wrap64 (x7 + 1)) then (if (wrap64 (x7 + 1)) < (x0.length : Int) then (if 0 ≤ x8 then (if x8 < (x0.length : Int) then (if 0 ≤ (Int.tmod (wrap64 (x8 + 1)) x3) then (if (Int.tmod (wrap64 (x8 + 1)) x3) < (x0.length : Int) then ((impl_edgesMeet.f k ((rd_T51 x0 x7).f0) ((rd_T51 x0 x7).f1) ((rd_T51 x0 (wrap64 (x7 + 1))).f0) ((rd_T51 x0 (wrap64 (x7 + 1))).f1) ((rd_T51 x0 x8).f0) ((rd_T51 x0 x8).f1) ((rd_T51 x0 (Int.tmod (wrap64 (x8 + 1)) x3)).f0) ((rd_T51 x0 (Int.tmod (wrap64 (x8 + 1)) x3)).f1)).bind fun t276 => (if t276 = true then (some false) else (impl_ValidSail.l3 k x0 x3 x7 (wrap64 (x8 + 1)) x61 x62))) else (none)) else (none)) else (none)) else (none)) else (none)) else (none)) else (none)) else (none)))) else (impl_ValidSail.l2 k x0 x3 x61 (wrap64 (x62 + 1)))) (fun k => (impl_ValidSail.mono_l k).2.2.2.2 x0 x3 x7 x8 x61 x62) (fun k => by simp only [impl_ValidSail.l3]) ?_
  repeat' first
    | with_reducible exact Lim.const _
    | with_reducible exact impl_ValidSail.L2_lim _ _ _ _
    | with_reducible exact impl_ValidSail.L3_lim _ _ _ _ _ _
    | with_reducible exact impl_edgesMeet.F_lim _ _ _ _ _ _ _ _
    | with_reducible refine Lim.ite ?_ ?_
    | with_reducible refine Lim.bind ?_ (fun _ => ?_)
theorem impl_ValidSail.F_eq (l0 : List (S51)) : impl_ValidSail.F l0 = if (l0.length : Int) < 3 then (impl_ValidSail.J0 l0 (l0.length : Int) true) else (impl_ValidSail.J0 l0 (l0.length : Int) (decide ((l0.length : Int) > 8))) := by
  refine Lim.eq (g := fun k => impl_ValidSail.f k l0) ?_
  unfold impl_ValidSail.f
  repeat' first
    | with_reducible exact Lim.const _
    | with_reducible exact impl_ValidSail.J0_lim _ _ _
    | with_reducible refine Lim.ite ?_ ?_
    | with_reducible refine Lim.bind ?_ (fun _ => ?_)

noncomputable def impl_isBulged.L0 (x0 : List (S51)) (x3 : Int) (x8 : Int) (x9 : Int) : Option (Bool) := lim (fun k => impl_isBulged.l0 k x0 x3 x8 x9)
theorem impl_isBulged.L0_lim (x0 : List (S51)) (x3 : Int) (x8 : Int) (x9 : Int) : Lim (fun k => impl_isBulged.l0 k x0 x3 x8 x9) (impl_isBulged.L0 x0 x3 x8 x9) := Lim.of (fun k => (impl_isBulged.mono_l k) x0 x3 x8 x9)
noncomputable def impl_isBulged.F (l0 : List (S51)) : Option (Bool) := lim (fun k => impl_isBulged.f k l0)
theorem impl_isBulged.F_lim (l0 : List (S51)) : Lim (fun k => impl_isBulged.f k l0) (impl_isBulged.F l0) := Lim.of (fun k => impl_isBulged.mono l0 k)
theorem impl_isBulged.L0_eq (x0 : List (S51)) (x3 : Int) (x8 : Int) (x9 : Int) : impl_isBulged.L0 x0 x3 x8 x9 = if x9 < x8 then (if 0 ≤ x9 then (if x9 < (x0.length : Int) then (if x3 = 0 then (none) else (if 0 ≤ (Int.tmod (wrap64 (x9 + 1)) x3) then (if (Int.tmod (wrap64 (x9 + 1)) x3) < (x0.length : Int) then (if 0 ≤ (Int.tmod (wrap64 (x9 + 2)) x3) then (if (Int.tmod (wrap64 (x9 + 2)) x3) < (x0.length : Int) then ((impl_turnAt.f ((rd_T51 x0 x9).f0) ((rd_T51 x0 x9).f1) ((rd_T51 x0 (Int.tmod (wrap64 (x9 + 1)) x3)).f0) ((rd_T51 x0 (Int.tmod (wrap64 (x9 + 1)) x3)).f1) ((rd_T51 x0 (Int.tmod (wrap64 (x9 + 2)) x3)).f0) ((rd_T51 x0 (Int.tmod (wrap64 (x9 + 2)) x3)).f1)).bind fun t284 => (if t284 < 0 then (some false) else (impl_isBulged.L0 x0 x3 x8 (wrap64 (x9 + 1))))) else (none)) else (none)) else (none)) else (none))) else (none)) else (none)) else (some true) := by
  refine Lim.step (f := fun k => if x9 < x8 then (if 0 ≤ x9 then (if x9 < (x0.length : Int) then (if x3 = 0 then (none) else (if 0 ≤ (Int.tmod (wrap64 (x9 + 1)) x3) then (if (Int.tmod (wrap64 (x9 + 1)) x3) < (x0.length : Int) then (if 0 ≤ (Int.tmod (wrap64 (x9 + 2)) x3) then (if (Int.tmod (wrap64 (x9 + 2)) x3) < (x0.length : Int) then ((impl_turnAt.f ((rd_T51 x0 x9).f0) ((rd_T51 x0 x9).f1) ((rd_T51 x0 (Int.tmod (wrap64 (x9 + 1)) x3)).f0) ((rd_T51 x0 (Int.tmod (wrap64 (x9 + 1)) x3)).f1) ((rd_T51 x0 (Int.tmod (wrap64 (x9 + 2)) x3)).f0) ((rd_T51 x0 (Int.tmod (wrap64 (x9 + 2)) x3)).f1)).bind fun t284 => (if t284 < 0 then (some false) else (impl_isBulged.l0 k x0 x3 x8 (wrap64 (x9 + 1))))) else (none)) else (none)) else (none)) else (none))) else (none)) else (none)) else (some true)) (fun k => (impl_isBulged.mono_l k) x0 x3 x8 x9) (fun k => by simp only [impl_isBulged.l0]) ?_
  repeat' first
    | with_reducible exact Lim.const _
    | with_reducible exact impl_isBulged.L0_lim _ _ _ _
    | with_reducible refine Lim.ite ?_ ?_
    | with_reducible refine Lim.bind ?_ (fun _ => ?_)
theorem impl_isBulged.F_eq (l0 : List (S51)) : impl_isBulged.F l0 = impl_isBulged.L0 l0 (l0.length : Int) (l0.length : Int) 0 := by
  refine Lim.eq (g := fun k => impl_isBulged.f k l0) ?_
  unfold impl_isBulged.f
  repeat' first
    | with_reducible exact Lim.const _
    | with_reducible exact impl_isBulged.L0_lim _ _ _ _
    | with_reducible refine Lim.ite ?_ ?_
    | with_reducible refine Lim.bind ?_ (fun _ => ?_)

noncomputable def impl_weaveCode.J0 (x0 : List (S51)) (x5 : Bool) (x286000 : Int) (x286001 : Int) (x286002 : Int) : Option (Int) := lim (fun k => impl_weaveCode.j0 k x0 x5 x286000 x286001 x286002)
theorem impl_weaveCode.J0_lim (x0 : List (S51)) (x5 : Bool) (x286000 : Int) (x286001 : Int) (x286002 : Int) : Lim (fun k => impl_weaveCode.j0 k x0 x5 x286000 x286001 x286002) (impl_weaveCode.J0 x0 x5 x286000 x286001 x286002) := Lim.of (fun k => (impl_weaveCode.mono_l k) x0 x5 x286000 x286001 x286002)
noncomputable def impl_weaveCode.F (l0 : List (S51)) (a1_0 : Int) (a1_1 : Int) (a1_2 : Int) : Option (Int) := lim (fun k => impl_weaveCode.f k l0 a1_0 a1_1 a1_2)
theorem impl_weaveCode.F_lim (l0 : List (S51)) (a1_0 : Int) (a1_1 : Int) (a1_2 : Int) : Lim (fun k => impl_weaveCode.f k l0 a1_0 a1_1 a1_2) (impl_weaveCode.F l0 a1_0 a1_1 a1_2) := Lim.of (fun k => impl_weaveCode.mono l0 a1_0 a1_1 a1_2 k)
theorem impl_weaveCode.J0_eq (x0 : List (S51)) (x5 : Bool) (x286000 : Int) (x286001 : Int) (x286002 : Int) : impl_weaveCode.J0 x0 x5 x286000 x286001 x286002 = if x5 = true then (some 1) else ((impl_isBulged.F x0).bind fun t288 => (if t288 = true then ((impl_panelEdges.F x0 x286000 x286001 x286002).bind fun t289 => (if (t289.length : Int) > 41 then (some 5) else (some 0))) else (some 6))) := by
  refine Lim.step (f := fun k => if x5 = true then (some 1) else ((impl_isBulged.f k x0).bind fun t288 => (if t288 = true then ((impl_panelEdges.f k x0 x286000 x286001 x286002).bind fun t289 => (if (t289.length : Int) > 41 then (some 5) else (some 0))) else (some 6)))) (fun k => (impl_weaveCode.mono_l k) x0 x5 x286000 x286001 x286002) (fun k => by simp only [impl_weaveCode.j0]) ?_
  repeat' first
    | with_reducible exact Lim.const _
    | with_reducible exact impl_isBulged.F_lim _
    | with_reducible exact impl_panelEdges.F_lim _ _ _ _
    | with_reducible refine Lim.ite ?_ ?_
    | with_reducible refine Lim.bind ?_ (fun _ => ?_)
theorem impl_weaveCode.F_eq (l0 : List (S51)) (a1_0 : Int) (a1_1 : Int) (a1_2 : Int) : impl_weaveCode.F l0 a1_0 a1_1 a1_2 = (impl_ValidSail.F l0).bind fun t286 => (if t286 = true then ((impl_ValidWeave.f a1_0 a1_1 a1_2).bind fun t287 => (impl_weaveCode.J0 l0 (!t287) a1_0 a1_1 a1_2)) else (impl_weaveCode.J0 l0 true a1_0 a1_1 a1_2)) := by
  refine Lim.eq (g := fun k => impl_weaveCode.f k l0 a1_0 a1_1 a1_2) ?_
  unfold impl_weaveCode.f
  repeat' first
    | with_reducible exact Lim.const _
    | with_reducible exact impl_ValidSail.F_lim _
    | with_reducible exact impl_weaveCode.J0_lim _ _ _ _ _
    | with_reducible refine Lim.ite ?_ ?_
    | with_reducible refine Lim.bind ?_ (fun _ => ?_)

noncomputable def impl_PanelEdges.F (l0 : List (S51)) (a1_0 : Int) (a1_1 : Int) (a1_2 : Int) : Option (List Int × Int) := lim (fun k => impl_PanelEdges.f k l0 a1_0 a1_1 a1_2)
theorem impl_PanelEdges.F_lim (l0 : List (S51)) (a1_0 : Int) (a1_1 : Int) (a1_2 : Int) : Lim (fun k => impl_PanelEdges.f k l0 a1_0 a1_1 a1_2) (impl_PanelEdges.F l0 a1_0 a1_1 a1_2) := Lim.of (fun k => impl_PanelEdges.mono l0 a1_0 a1_1 a1_2 k)
theorem impl_PanelEdges.F_eq (l0 : List (S51)) (a1_0 : Int) (a1_1 : Int) (a1_2 : Int) : impl_PanelEdges.F l0 a1_0 a1_1 a1_2 = (impl_weaveCode.F l0 a1_0 a1_1 a1_2).bind fun t293 => (if t293 = 0 then ((impl_panelEdges.F l0 a1_0 a1_1 a1_2).bind fun t294 => (some (t294, 0))) else (some (([] : List Int), t293))) := by
  refine Lim.eq (g := fun k => impl_PanelEdges.f k l0 a1_0 a1_1 a1_2) ?_
  unfold impl_PanelEdges.f
  repeat' first
    | with_reducible exact Lim.const _
    | with_reducible exact impl_panelEdges.F_lim _ _ _ _
    | with_reducible exact impl_weaveCode.F_lim _ _ _ _
    | with_reducible refine Lim.ite ?_ ?_
    | with_reducible refine Lim.bind ?_ (fun _ => ?_)

noncomputable def laws_eqInt64S.L0 (x0 : List Int) (x1 : List Int) (x5 : Int) : Option (Bool) := lim (fun k => laws_eqInt64S.l0 k x0 x1 x5)
theorem laws_eqInt64S.L0_lim (x0 : List Int) (x1 : List Int) (x5 : Int) : Lim (fun k => laws_eqInt64S.l0 k x0 x1 x5) (laws_eqInt64S.L0 x0 x1 x5) := Lim.of (fun k => (laws_eqInt64S.mono_l k) x0 x1 x5)
noncomputable def laws_eqInt64S.F (l0 : List Int) (l1 : List Int) : Option (Bool) := lim (fun k => laws_eqInt64S.f k l0 l1)
theorem laws_eqInt64S.F_lim (l0 : List Int) (l1 : List Int) : Lim (fun k => laws_eqInt64S.f k l0 l1) (laws_eqInt64S.F l0 l1) := Lim.of (fun k => laws_eqInt64S.mono l0 l1 k)
theorem laws_eqInt64S.L0_eq (x0 : List Int) (x1 : List Int) (x5 : Int) : laws_eqInt64S.L0 x0 x1 x5 = if x5 < (x0.length : Int) then (if 0 ≤ x5 then (if x5 < (x1.length : Int) then (if (rd x0 x5) = (rd x1 x5) then (laws_eqInt64S.L0 x0 x1 (wrap64 (x5 + 1))) else (some false)) else (none)) else (none)) else (some true) := by
  refine Lim.step (f := fun k => if x5 < (x0.length : Int) then (if 0 ≤ x5 then (if x5 < (x1.length : Int) then (if (rd x0 x5) = (rd x1 x5) then (laws_eqInt64S.l0 k x0 x1 (wrap64 (x5 + 1))) else (some false)) else (none)) else (none)) else (some true)) (fun k => (laws_eqInt64S.mono_l k) x0 x1 x5) (fun k => by simp only [laws_eqInt64S.l0]) ?_
  repeat' first
    | with_reducible exact Lim.const _
    | with_reducible exact laws_eqInt64S.L0_lim _ _ _
    | with_reducible refine Lim.ite ?_ ?_
    | with_reducible refine Lim.bind ?_ (fun _ => ?_)
theorem laws_eqInt64S.F_eq (l0 : List Int) (l1 : List Int) : laws_eqInt64S.F l0 l1 = if (l0.length : Int) = (l1.length : Int) then (laws_eqInt64S.L0 l0 l1 0) else (some false) := by
  refine Lim.eq (g := fun k => laws_eqInt64S.f k l0 l1) ?_
  unfold laws_eqInt64S.f
  repeat' first
    | with_reducible exact Lim.const _
    | with_reducible exact laws_eqInt64S.L0_lim _ _ _
    | with_reducible refine Lim.ite ?_ ?_
    | with_reducible refine Lim.bind ?_ (fun _ => ?_)

noncomputable def laws_markSpotS.L0 (x0 : List (S51)) (x1 : Int) (x5 : Int) : Option (Int × (List (S51))) := lim (fun k => laws_markSpotS.l0 k x0 x1 x5)
theorem laws_markSpotS.L0_lim (x0 : List (S51)) (x1 : Int) (x5 : Int) : Lim (fun k => laws_markSpotS.l0 k x0 x1 x5) (laws_markSpotS.L0 x0 x1 x5) := Lim.of (fun k => (laws_markSpotS.mono_l k) x0 x1 x5)
noncomputable def laws_markSpotS.F (l0 : List (S51)) (a1 : Int) : Option (Int × (List (S51))) := lim (fun k => laws_markSpotS.f k l0 a1)
theorem laws_markSpotS.F_lim (l0 : List (S51)) (a1 : Int) : Lim (fun k => laws_markSpotS.f k l0 a1) (laws_markSpotS.F l0 a1) := Lim.of (fun k => laws_markSpotS.mono l0 a1 k)
theorem laws_markSpotS.L0_eq (x0 : List (S51)) (x1 : Int) (x5 : Int) : laws_markSpotS.L0 x0 x1 x5 = if x5 < (x0.length : Int) then (if 0 ≤ x5 then ((some (x0.set (x5 : Int).toNat (⟨x1, (rd_T51 x0 x5).f1⟩ : S51) : List (S51))).bind fun y299 => (laws_markSpotS.L0 (y299.set (x5 : Int).toNat (⟨(rd_T51 y299 x5).f0, wrap64 (x1 + 1)⟩ : S51)) (wrap64 ((wrap64 (x1 + 1)) + 1)) (wrap64 (x5 + 1)))) else (none)) else (some (x1, x0)) := by
  refine Lim.step (f := fun k => if x5 < (x0.length : Int) then (if 0 ≤ x5 then ((some (x0.set (x5 : Int).toNat (⟨x1, (rd_T51 x0 x5).f1⟩ : S51) : List (S51))).bind fun y299 => (laws_markSpotS.l0 k (y299.set (x5 : Int).toNat (⟨(rd_T51 y299 x5).f0, wrap64 (x1 + 1)⟩ : S51)) (wrap64 ((wrap64 (x1 + 1)) + 1)) (wrap64 (x5 + 1)))) else (none)) else (some (x1, x0))) (fun k => (laws_markSpotS.mono_l k) x0 x1 x5) (fun k => by simp only [laws_markSpotS.l0]) ?_
  repeat' first
    | with_reducible exact Lim.const _
    | with_reducible exact laws_markSpotS.L0_lim _ _ _
    | with_reducible refine Lim.ite ?_ ?_
    | with_reducible refine Lim.bind ?_ (fun _ => ?_)
theorem laws_markSpotS.F_eq (l0 : List (S51)) (a1 : Int) : laws_markSpotS.F l0 a1 = laws_markSpotS.L0 l0 a1 0 := by
  refine Lim.eq (g := fun k => laws_markSpotS.f k l0 a1) ?_
  unfold laws_markSpotS.f
  repeat' first
    | with_reducible exact Lim.const _
    | with_reducible exact laws_markSpotS.L0_lim _ _ _
    | with_reducible refine Lim.ite ?_ ?_
    | with_reducible refine Lim.bind ?_ (fun _ => ?_)

noncomputable def laws_markInt64S.L0 (x0 : List Int) (x1 : Int) (x5 : Int) : Option (Int × List Int) := lim (fun k => laws_markInt64S.l0 k x0 x1 x5)
theorem laws_markInt64S.L0_lim (x0 : List Int) (x1 : Int) (x5 : Int) : Lim (fun k => laws_markInt64S.l0 k x0 x1 x5) (laws_markInt64S.L0 x0 x1 x5) := Lim.of (fun k => (laws_markInt64S.mono_l k) x0 x1 x5)
noncomputable def laws_markInt64S.F (l0 : List Int) (a1 : Int) : Option (Int × List Int) := lim (fun k => laws_markInt64S.f k l0 a1)
theorem laws_markInt64S.F_lim (l0 : List Int) (a1 : Int) : Lim (fun k => laws_markInt64S.f k l0 a1) (laws_markInt64S.F l0 a1) := Lim.of (fun k => laws_markInt64S.mono l0 a1 k)
theorem laws_markInt64S.L0_eq (x0 : List Int) (x1 : Int) (x5 : Int) : laws_markInt64S.L0 x0 x1 x5 = if x5 < (x0.length : Int) then (if 0 ≤ x5 then (laws_markInt64S.L0 (x0.set (x5 : Int).toNat x1) (wrap64 (x1 + 1)) (wrap64 (x5 + 1))) else (none)) else (some (x1, x0)) := by
  refine Lim.step (f := fun k => if x5 < (x0.length : Int) then (if 0 ≤ x5 then (laws_markInt64S.l0 k (x0.set (x5 : Int).toNat x1) (wrap64 (x1 + 1)) (wrap64 (x5 + 1))) else (none)) else (some (x1, x0))) (fun k => (laws_markInt64S.mono_l k) x0 x1 x5) (fun k => by simp only [laws_markInt64S.l0]) ?_
  repeat' first
    | with_reducible exact Lim.const _
    | with_reducible exact laws_markInt64S.L0_lim _ _ _
    | with_reducible refine Lim.ite ?_ ?_
    | with_reducible refine Lim.bind ?_ (fun _ => ?_)
theorem laws_markInt64S.F_eq (l0 : List Int) (a1 : Int) : laws_markInt64S.F l0 a1 = laws_markInt64S.L0 l0 a1 0 := by
  refine Lim.eq (g := fun k => laws_markInt64S.f k l0 a1) ?_
  unfold laws_markInt64S.f
  repeat' first
    | with_reducible exact Lim.const _
    | with_reducible exact laws_markInt64S.L0_lim _ _ _
    | with_reducible refine Lim.ite ?_ ?_
    | with_reducible refine Lim.bind ?_ (fun _ => ?_)

noncomputable def laws_heldInt64S.L0 (x0 : List Int) (x1 : Int) (x5 : Int) : Option (Int) := lim (fun k => laws_heldInt64S.l0 k x0 x1 x5)
theorem laws_heldInt64S.L0_lim (x0 : List Int) (x1 : Int) (x5 : Int) : Lim (fun k => laws_heldInt64S.l0 k x0 x1 x5) (laws_heldInt64S.L0 x0 x1 x5) := Lim.of (fun k => (laws_heldInt64S.mono_l k) x0 x1 x5)
noncomputable def laws_heldInt64S.F (l0 : List Int) (a1 : Int) : Option (Int) := lim (fun k => laws_heldInt64S.f k l0 a1)
theorem laws_heldInt64S.F_lim (l0 : List Int) (a1 : Int) : Lim (fun k => laws_heldInt64S.f k l0 a1) (laws_heldInt64S.F l0 a1) := Lim.of (fun k => laws_heldInt64S.mono l0 a1 k)
theorem laws_heldInt64S.L0_eq (x0 : List Int) (x1 : Int) (x5 : Int) : laws_heldInt64S.L0 x0 x1 x5 = if x5 < (x0.length : Int) then (if 0 ≤ x5 then (if (rd x0 x5) = x1 then (laws_heldInt64S.L0 x0 (wrap64 (x1 + 1)) (wrap64 (x5 + 1))) else (some (-1))) else (none)) else (some x1) := by
  refine Lim.step (f := fun k => if x5 < (x0.length : Int) then (if 0 ≤ x5 then (if (rd x0 x5) = x1 then (laws_heldInt64S.l0 k x0 (wrap64 (x1 + 1)) (wrap64 (x5 + 1))) else (some (-1))) else (none)) else (some x1)) (fun k => (laws_heldInt64S.mono_l k) x0 x1 x5) (fun k => by simp only [laws_heldInt64S.l0]) ?_
  repeat' first
    | with_reducible exact Lim.const _
    | with_reducible exact laws_heldInt64S.L0_lim _ _ _
    | with_reducible refine Lim.ite ?_ ?_
    | with_reducible refine Lim.bind ?_ (fun _ => ?_)
theorem laws_heldInt64S.F_eq (l0 : List Int) (a1 : Int) : laws_heldInt64S.F l0 a1 = laws_heldInt64S.L0 l0 a1 0 := by
  refine Lim.eq (g := fun k => laws_heldInt64S.f k l0 a1) ?_
  unfold laws_heldInt64S.f
  repeat' first
    | with_reducible exact Lim.const _
    | with_reducible exact laws_heldInt64S.L0_lim _ _ _
    | with_reducible refine Lim.ite ?_ ?_
    | with_reducible refine Lim.bind ?_ (fun _ => ?_)

noncomputable def laws_FnExactPanelEdges.J0 (x0 : List (S53)) (x6 : List Int) (x7 : Int) (x8 : List (S51)) (x9 : List Int) (x10 : Int) (x46 : Bool) (x304000 : Int) (x304001 : Int) (x304002 : Int) : Option (Bool) := lim (fun k => laws_FnExactPanelEdges.j0 k x0 x6 x7 x8 x9 x10 x46 x304000 x304001 x304002)
theorem laws_FnExactPanelEdges.J0_lim (x0 : List (S53)) (x6 : List Int) (x7 : Int) (x8 : List (S51)) (x9 : List Int) (x10 : Int) (x46 : Bool) (x304000 : Int) (x304001 : Int) (x304002 : Int) : Lim (fun k => laws_FnExactPanelEdges.j0 k x0 x6 x7 x8 x9 x10 x46 x304000 x304001 x304002) (laws_FnExactPanelEdges.J0 x0 x6 x7 x8 x9 x10 x46 x304000 x304001 x304002) := Lim.of (fun k => (laws_FnExactPanelEdges.mono_l k).1 x0 x6 x7 x8 x9 x10 x46 x304000 x304001 x304002)
noncomputable def laws_FnExactPanelEdges.J1 (x0 : List (S53)) (x6 : List Int) (x7 : Int) (x9 : List Int) (x67 : Bool) (x304000 : Int) (x304001 : Int) (x304002 : Int) : Option (Bool) := lim (fun k => laws_FnExactPanelEdges.j1 k x0 x6 x7 x9 x67 x304000 x304001 x304002)
theorem laws_FnExactPanelEdges.J1_lim (x0 : List (S53)) (x6 : List Int) (x7 : Int) (x9 : List Int) (x67 : Bool) (x304000 : Int) (x304001 : Int) (x304002 : Int) : Lim (fun k => laws_FnExactPanelEdges.j1 k x0 x6 x7 x9 x67 x304000 x304001 x304002) (laws_FnExactPanelEdges.J1 x0 x6 x7 x9 x67 x304000 x304001 x304002) := Lim.of (fun k => (laws_FnExactPanelEdges.mono_l k).2.1 x0 x6 x7 x9 x67 x304000 x304001 x304002)
noncomputable def laws_FnExactPanelEdges.J2 (x9 : List Int) (x12 : Int) (x95 : Bool) : Option (Bool) := lim (fun k => laws_FnExactPanelEdges.j2 k x9 x12 x95)
theorem laws_FnExactPanelEdges.J2_lim (x9 : List Int) (x12 : Int) (x95 : Bool) : Lim (fun k => laws_FnExactPanelEdges.j2 k x9 x12 x95) (laws_FnExactPanelEdges.J2 x9 x12 x95) := Lim.of (fun k => (laws_FnExactPanelEdges.mono_l k).2.2 x9 x12 x95)
noncomputable def laws_FnExactPanelEdges.F (l0 : List (S53)) (a1_0 : Int) (a1_1 : Int) (a1_2 : Int) : Option (Bool) := lim (fun k => laws_FnExactPanelEdges.f k l0 a1_0 a1_1 a1_2)
theorem laws_FnExactPanelEdges.F_lim (l0 : List (S53)) (a1_0 : Int) (a1_1 : Int) (a1_2 : Int) : Lim (fun k => laws_FnExactPanelEdges.f k l0 a1_0 a1_1 a1_2) (laws_FnExactPanelEdges.F l0 a1_0 a1_1 a1_2) := Lim.of (fun k => laws_FnExactPanelEdges.mono l0 a1_0 a1_1 a1_2 k)
theorem laws_FnExactPanelEdges.J0_eq (x0 : List (S53)) (x6 : List Int) (x7 : Int) (x8 : List (S51)) (x9 : List Int) (x10 : Int) (x46 : Bool) (x304000 : Int) (x304001 : Int) (x304002 : Int) : laws_FnExactPanelEdges.J0 x0 x6 x7 x8 x9 x10 x46 x304000 x304001 x304002 = if x46 = true then (some false) else ((laws_toSpotS.F x0).bind fun t326 => ((laws_eqSpotS.F x8 t326).bind fun t329 => (if t329 = true then ((laws_markSpotS.F x8 1).bind fun bt330 => (if bt330.1 < 0 then (laws_FnExactPanelEdges.J1 x0 x6 x7 x9 true x304000 x304001 x304002) else ((laws_eqInt64S.F x9 x6).bind fun t332 => (if t332 = true then (laws_FnExactPanelEdges.J1 x0 x6 x7 x9 (x10 != x7) x304000 x304001 x304002) else (laws_FnExactPanelEdges.J1 x0 x6 x7 x9 true x304000 x304001 x304002))))) else (some false)))) := by
  refine Lim.step (f := fun k => if x46 = true then (some false) else ((laws_toSpotS.f k x0).bind fun t326 => ((laws_eqSpotS.f k x8 t326).bind fun t329 => (if t329 = true then ((laws_markSpotS.f k x8 1).bind fun bt330 => (if bt330.1 < 0 then (laws_FnExactPanelEdges.j1 k x0 x6 x7 x9 true x304000 x304001 x304002) else ((laws_eqInt64S.f k x9 x6).bind fun t332 => (if t332 = true then (laws_FnExactPanelEdges.j1 k x0 x6 x7 x9 (x10 != x7) x304000 x304001 x304002) else (laws_FnExactPanelEdges.j1 k x0 x6 x7 x9 true x304000 x304001 x304002))))) else (some false))))) (fun k => (laws_FnExactPanelEdges.mono_l k).1 x0 x6 x7 x8 x9 x10 x46 x304000 x304001 x304002) (fun k => by simp only [laws_FnExactPanelEdges.j0]) ?_
  repeat' first
    | with_reducible exact Lim.const _
    | with_reducible exact laws_FnExactPanelEdges.J1_lim _ _ _ _ _ _ _ _
    | with_reducible exact laws_eqInt64S.F_lim _ _
    | with_reducible exact laws_eqSpotS.F_lim _ _
    | with_reducible exact laws_markSpotS.F_lim _ _
    | with_reducible exact laws_toSpotS.F_lim _
    | with_reducible refine Lim.ite ?_ ?_
    | with_reducible refine Lim.bind ?_ (fun _ => ?_)
theorem laws_FnExactPanelEdges.J1_eq (x0 : List (S53)) (x6 : List Int) (x7 : Int) (x9 : List Int) (x67 : Bool) (x304000 : Int) (x304001 : Int) (x304002 : Int) : laws_FnExactPanelEdges.J1 x0 x6 x7 x9 x67 x304000 x304001 x304002 = if x67 = true then (some false) else ((laws_markInt64S.F x9 1).bind fun bt333 => ((laws_heldInt64S.F bt333.2 1).bind fun t335 => (if t335 < 0 then (some false) else (if t335 = bt333.1 then ((laws_toSpotS.F x0).bind fun t336 => ((laws_toWeave.f x304000 x304001 x304002).bind fun bt339 => ((impl_PanelEdges.F t336 bt339.1 bt339.2.1 bt339.2.2).bind fun bt342 => ((laws_eqInt64S.F bt342.1 x6).bind fun t346 => (if t346 = true then (laws_FnExactPanelEdges.J2 bt333.2 bt333.1 (bt342.2 != x7)) else (laws_FnExactPanelEdges.J2 bt333.2 bt333.1 true)))))) else (some false))))) := by
  refine Lim.step (f := fun k => if x67 = true then (some false) else ((laws_markInt64S.f k x9 1).bind fun bt333 => ((laws_heldInt64S.f k bt333.2 1).bind fun t335 => (if t335 < 0 then (some false) else (if t335 = bt333.1 then ((laws_toSpotS.f k x0).bind fun t336 => ((laws_toWeave.f x304000 x304001 x304002).bind fun bt339 => ((impl_PanelEdges.f k t336 bt339.1 bt339.2.1 bt339.2.2).bind fun bt342 => ((laws_eqInt64S.f k bt342.1 x6).bind fun t346 => (if t346 = true then (laws_FnExactPanelEdges.j2 k bt333.2 bt333.1 (bt342.2 != x7)) else (laws_FnExactPanelEdges.j2 k bt333.2 bt333.1 true)))))) else (some false)))))) (fun k => (laws_FnExactPanelEdges.mono_l k).2.1 x0 x6 x7 x9 x67 x304000 x304001 x304002) (fun k => by simp only [laws_FnExactPanelEdges.j1]) ?_
  repeat' first
    | with_reducible exact Lim.const _
    | with_reducible exact impl_PanelEdges.F_lim _ _ _ _
    | with_reducible exact laws_FnExactPanelEdges.J2_lim _ _ _
    | with_reducible exact laws_eqInt64S.F_lim _ _
    | with_reducible exact laws_heldInt64S.F_lim _ _
    | with_reducible exact laws_markInt64S.F_lim _ _
    | with_reducible exact laws_toSpotS.F_lim _
    | with_reducible refine Lim.ite ?_ ?_
    | with_reducible refine Lim.bind ?_ (fun _ => ?_)
theorem laws_FnExactPanelEdges.J2_eq (x9 : List Int) (x12 : Int) (x95 : Bool) : laws_FnExactPanelEdges.J2 x9 x12 x95 = if x95 = true then (some false) else ((laws_heldInt64S.F x9 1).bind fun t347 => (if t347 < 0 then (some false) else (if t347 = x12 then (some true) else (some false)))) := by
  refine Lim.step (f := fun k => if x95 = true then (some false) else ((laws_heldInt64S.f k x9 1).bind fun t347 => (if t347 < 0 then (some false) else (if t347 = x12 then (some true) else (some false))))) (fun k => (laws_FnExactPanelEdges.mono_l k).2.2 x9 x12 x95) (fun k => by simp only [laws_FnExactPanelEdges.j2]) ?_
  repeat' first
    | with_reducible exact Lim.const _
    | with_reducible exact laws_heldInt64S.F_lim _ _
    | with_reducible refine Lim.ite ?_ ?_
    | with_reducible refine Lim.bind ?_ (fun _ => ?_)
theorem laws_FnExactPanelEdges.F_eq (l0 : List (S53)) (a1_0 : Int) (a1_1 : Int) (a1_2 : Int) : laws_FnExactPanelEdges.F l0 a1_0 a1_1 a1_2 = (laws_szSpotS.f l0 1048576).bind fun t304 => (if t304 < 0 then (some true) else ((laws_toSpotS.F l0).bind fun t305 => ((laws_toWeave.f a1_0 a1_1 a1_2).bind fun bt308 => ((spec_PanelEdges.F t305 bt308.1 bt308.2.1 bt308.2.2).bind fun bt311 => ((laws_toSpotS.F l0).bind fun t315 => ((laws_toWeave.f a1_0 a1_1 a1_2).bind fun bt318 => ((impl_PanelEdges.F t315 bt318.1 bt318.2.1 bt318.2.2).bind fun bt321 => ((laws_eqInt64S.F bt321.1 bt311.1).bind fun t325 => (if t325 = true then (laws_FnExactPanelEdges.J0 l0 bt311.1 bt311.2 t315 bt321.1 bt321.2 (bt321.2 != bt311.2) a1_0 a1_1 a1_2) else (laws_FnExactPanelEdges.J0 l0 bt311.1 bt311.2 t315 bt321.1 bt321.2 true a1_0 a1_1 a1_2)))))))))) := by
  refine Lim.eq (g := fun k => laws_FnExactPanelEdges.f k l0 a1_0 a1_1 a1_2) ?_
  unfold laws_FnExactPanelEdges.f
  repeat' first
    | with_reducible exact Lim.const _
    | with_reducible exact impl_PanelEdges.F_lim _ _ _ _
    | with_reducible exact laws_FnExactPanelEdges.J0_lim _ _ _ _ _ _ _ _ _ _
    | with_reducible exact laws_eqInt64S.F_lim _ _
    | with_reducible exact laws_toSpotS.F_lim _
    | with_reducible exact spec_PanelEdges.F_lim _ _ _ _
    | with_reducible refine Lim.ite ?_ ?_
    | with_reducible refine Lim.bind ?_ (fun _ => ?_)

end Go.Proofs.Ytmljmfepnlpgfaa.PFnExactPanelEdges
