/-
  Written by a program of this session (wip/tools/lims.py): the printed functions without their bound on rounds.
-/
import Derived.Test.YtmljmfepnlpgfaaPFnExactPanelsOfx1
import Derived.Test.YtmljmfepnlpgfaaPFnExactPanelsOfx2
import Derived.Test.YtmljmfepnlpgfaaPFnExactPanelsOfx3
import Derived.Test.YtmljmfepnlpgfaaPFnExactPanelsOfx4
import Derived.Test.YtmljmfepnlpgfaaPFnExactPanelsOfx5
import Derived.Test.YtmljmfepnlpgfaaPFnExactPanelsOfx6
import Derived.Test.YtmljmfepnlpgfaaPFnExactPanelsOfx7
import Derived.Test.YtmljmfepnlpgfaaPFnExactPanelsOfx8
import Derived.Test.YtmljmfepnlpgfaaPFnExactPanelsOfx9
import Derived.Test.YtmljmfepnlpgfaaPFnExactPanelsOfx10
import Derived.Test.YtmljmfepnlpgfaaPFnExactPanelsOfx11
import Derived.Test.YtmljmfepnlpgfaaPFnExactPanelsOfx12
import Derived.Test.YtmljmfepnlpgfaaPFnExactPanelsOfx13
import Derived.Test.YtmljmfepnlpgfaaPFnExactPanelsOfx14
import Derived.Test.YtmljmfepnlpgfaaPFnExactPanelsOfx15
import Derived.Test.YtmljmfepnlpgfaaPFnExactPanelsOfx16
import Derived.Test.YtmljmfepnlpgfaaPFnExactPanelsOfx17
import Derived.Test.YtmljmfepnlpgfaaPFnExactPanelsOfx18
import Derived.Test.YtmljmfepnlpgfaaPFnExactPanelsOfx19
import Derived.Test.YtmljmfepnlpgfaaPFnExactPanelsOfx20
import Derived.Test.YtmljmfepnlpgfaaKit
set_option linter.unusedVariables false
set_option linter.unusedSimpArgs false
namespace Go.Proofs.Ytmljmfepnlpgfaa.PFnExactPanelsOf
open Go.RowKit Go.Proofs.Ytmljmfepnlpgfaa.Kit Go.Proofs.YtmljmfepnlpgfaaW.PrintWords Go.Proofs.YtmljmfepnlpgfaaW.PrintLast Go.Proofs.YtmljmfepnlpgfaaW.PrintMore

noncomputable def laws_toSpotS.L0 (x0 : List (S53)) (x3 : List (S51)) (x4 : Int) : Option ((List (S51))) := lim (fun k => laws_toSpotS.l0 k x0 x3 x4)
theorem laws_toSpotS.L0_lim (x0 : List (S53)) (x3 : List (S51)) (x4 : Int) : Lim (fun k => laws_toSpotS.l0 k x0 x3 x4) (laws_toSpotS.L0 x0 x3 x4) := Lim.of (fun k => (laws_toSpotS.mono_l k) x0 x3 x4)
noncomputable def laws_toSpotS.F (l0 : List (S53)) : Option ((List (S51))) := lim (fun k => laws_toSpotS.f k l0)
theorem laws_toSpotS.F_lim (l0 : List (S53)) : Lim (fun k => laws_toSpotS.f k l0) (laws_toSpotS.F l0) := Lim.of (fun k => laws_toSpotS.mono l0 k)
theorem laws_toSpotS.L0_eq (x0 : List (S53)) (x3 : List (S51)) (x4 : Int) : laws_toSpotS.L0 x0 x3 x4 = if x4 < (x0.length : Int) then (if 0 ≤ x4 then ((laws_toSpot.f ((rd_T53 x0 x4).f0) ((rd_T53 x0 x4).f1)).bind fun bt108 => (if x4 < (x3.length : Int) then (laws_toSpotS.L0 x0 (x3.set (x4 : Int).toNat (⟨bt108.1, bt108.2⟩ : S51)) (wrap64 (x4 + 1))) else (none))) else (none)) else (some x3) := by
  refine Lim.next (fun k => (laws_toSpotS.mono_l k) x0 x3 x4) ?_
  simp only [laws_toSpotS.l0]
  repeat' with_reducible first | exact Lim.const _ | exact laws_toSpotS.L0_lim _ _ _ | refine Lim.ite ?_ ?_ | refine Lim.bind ?_ (fun _ => ?_)
theorem laws_toSpotS.F_eq (l0 : List (S53)) : laws_toSpotS.F l0 = if 0 ≤ (l0.length : Int) then (if ((l0.length : Int) : Int).toNat ≤ 17592186044416 then (laws_toSpotS.L0 l0 (List.replicate ((l0.length : Int) : Int).toNat z51) 0) else (none)) else (none) := by
  refine Lim.eq (g := fun k => laws_toSpotS.f k l0) ?_
  unfold laws_toSpotS.f
  repeat' with_reducible first | exact Lim.const _ | exact laws_toSpotS.L0_lim _ _ _ | refine Lim.ite ?_ ?_ | refine Lim.bind ?_ (fun _ => ?_)

noncomputable def laws_eqSpotS.L0 (x0 x1 : List (S51)) (x5 : Int) : Option (Bool) := lim (fun k => laws_eqSpotS.l0 k x0 x1 x5)
theorem laws_eqSpotS.L0_lim (x0 x1 : List (S51)) (x5 : Int) : Lim (fun k => laws_eqSpotS.l0 k x0 x1 x5) (laws_eqSpotS.L0 x0 x1 x5) := Lim.of (fun k => (laws_eqSpotS.mono_l k) x0 x1 x5)
noncomputable def laws_eqSpotS.F (l0 l1 : List (S51)) : Option (Bool) := lim (fun k => laws_eqSpotS.f k l0 l1)
theorem laws_eqSpotS.F_lim (l0 l1 : List (S51)) : Lim (fun k => laws_eqSpotS.f k l0 l1) (laws_eqSpotS.F l0 l1) := Lim.of (fun k => laws_eqSpotS.mono l0 l1 k)
theorem laws_eqSpotS.L0_eq (x0 x1 : List (S51)) (x5 : Int) : laws_eqSpotS.L0 x0 x1 x5 = if x5 < (x0.length : Int) then (if 0 ≤ x5 then (if x5 < (x1.length : Int) then ((laws_eqSpot.f ((rd_T51 x0 x5).f0) ((rd_T51 x0 x5).f1) ((rd_T51 x1 x5).f0) ((rd_T51 x1 x5).f1)).bind fun t118 => (if t118 = true then (laws_eqSpotS.L0 x0 x1 (wrap64 (x5 + 1))) else (some false))) else (none)) else (none)) else (some true) := by
  refine Lim.next (fun k => (laws_eqSpotS.mono_l k) x0 x1 x5) ?_
  simp only [laws_eqSpotS.l0]
  repeat' with_reducible first | exact Lim.const _ | exact laws_eqSpotS.L0_lim _ _ _ | refine Lim.ite ?_ ?_ | refine Lim.bind ?_ (fun _ => ?_)
theorem laws_eqSpotS.F_eq (l0 l1 : List (S51)) : laws_eqSpotS.F l0 l1 = if (l0.length : Int) = (l1.length : Int) then (laws_eqSpotS.L0 l0 l1 0) else (some false) := by
  refine Lim.eq (g := fun k => laws_eqSpotS.f k l0 l1) ?_
  unfold laws_eqSpotS.f
  repeat' with_reducible first | exact Lim.const _ | exact laws_eqSpotS.L0_lim _ _ _ | refine Lim.ite ?_ ?_ | refine Lim.bind ?_ (fun _ => ?_)

noncomputable def laws_markSpotS.L0 (x0 : List (S51)) (x1 x5 : Int) : Option (Int × (List (S51))) := lim (fun k => laws_markSpotS.l0 k x0 x1 x5)
theorem laws_markSpotS.L0_lim (x0 : List (S51)) (x1 x5 : Int) : Lim (fun k => laws_markSpotS.l0 k x0 x1 x5) (laws_markSpotS.L0 x0 x1 x5) := Lim.of (fun k => (laws_markSpotS.mono_l k) x0 x1 x5)
noncomputable def laws_markSpotS.F (l0 : List (S51)) (a1 : Int) : Option (Int × (List (S51))) := lim (fun k => laws_markSpotS.f k l0 a1)
theorem laws_markSpotS.F_lim (l0 : List (S51)) (a1 : Int) : Lim (fun k => laws_markSpotS.f k l0 a1) (laws_markSpotS.F l0 a1) := Lim.of (fun k => laws_markSpotS.mono l0 a1 k)
theorem laws_markSpotS.L0_eq (x0 : List (S51)) (x1 x5 : Int) : laws_markSpotS.L0 x0 x1 x5 = if x5 < (x0.length : Int) then (if 0 ≤ x5 then ((some (x0.set (x5 : Int).toNat (⟨x1, (rd_T51 x0 x5).f1⟩ : S51) : List (S51))).bind fun y119 => (laws_markSpotS.L0 (y119.set (x5 : Int).toNat (⟨(rd_T51 y119 x5).f0, wrap64 (x1 + 1)⟩ : S51)) (wrap64 ((wrap64 (x1 + 1)) + 1)) (wrap64 (x5 + 1)))) else (none)) else (some (x1, x0)) := by
  refine Lim.next (fun k => (laws_markSpotS.mono_l k) x0 x1 x5) ?_
  simp only [laws_markSpotS.l0]
  repeat' with_reducible first | exact Lim.const _ | exact laws_markSpotS.L0_lim _ _ _ | refine Lim.ite ?_ ?_ | refine Lim.bind ?_ (fun _ => ?_)
theorem laws_markSpotS.F_eq (l0 : List (S51)) (a1 : Int) : laws_markSpotS.F l0 a1 = laws_markSpotS.L0 l0 a1 0 := by
  refine Lim.eq (g := fun k => laws_markSpotS.f k l0 a1) ?_
  unfold laws_markSpotS.f
  repeat' with_reducible first | exact Lim.const _ | exact laws_markSpotS.L0_lim _ _ _ | refine Lim.ite ?_ ?_ | refine Lim.bind ?_ (fun _ => ?_)

noncomputable def spec_l13Twice.L0 (x0 : List (S51)) (x3 x4 : Int) : Option (Int) := lim (fun k => spec_l13Twice.l0 k x0 x3 x4)
theorem spec_l13Twice.L0_lim (x0 : List (S51)) (x3 x4 : Int) : Lim (fun k => spec_l13Twice.l0 k x0 x3 x4) (spec_l13Twice.L0 x0 x3 x4) := Lim.of (fun k => (spec_l13Twice.mono_l k) x0 x3 x4)
noncomputable def spec_l13Twice.F (l0 : List (S51)) : Option (Int) := lim (fun k => spec_l13Twice.f k l0)
theorem spec_l13Twice.F_lim (l0 : List (S51)) : Lim (fun k => spec_l13Twice.f k l0) (spec_l13Twice.F l0) := Lim.of (fun k => spec_l13Twice.mono l0 k)
theorem spec_l13Twice.L0_eq (x0 : List (S51)) (x3 x4 : Int) : spec_l13Twice.L0 x0 x3 x4 = if x4 < (x0.length : Int) then (if (x0.length : Int) = 0 then (none) else (if 0 ≤ (Int.tmod (wrap64 (x4 + 1)) (x0.length : Int)) then (if (Int.tmod (wrap64 (x4 + 1)) (x0.length : Int)) < (x0.length : Int) then (if 0 ≤ x4 then (spec_l13Twice.L0 x0 (wrap64 (x3 + (wrap64 ((wrap64 (((rd_T51 x0 x4).f0) * ((rd_T51 x0 (Int.tmod (wrap64 (x4 + 1)) (x0.length : Int))).f1))) - (wrap64 (((rd_T51 x0 (Int.tmod (wrap64 (x4 + 1)) (x0.length : Int))).f0) * ((rd_T51 x0 x4).f1))))))) (wrap64 (x4 + 1))) else (none)) else (none)) else (none))) else (some x3) := by
  refine Lim.next (fun k => (spec_l13Twice.mono_l k) x0 x3 x4) ?_
  simp only [spec_l13Twice.l0]
  repeat' with_reducible first | exact Lim.const _ | exact spec_l13Twice.L0_lim _ _ _ | refine Lim.ite ?_ ?_ | refine Lim.bind ?_ (fun _ => ?_)
theorem spec_l13Twice.F_eq (l0 : List (S51)) : spec_l13Twice.F l0 = spec_l13Twice.L0 l0 0 0 := by
  refine Lim.eq (g := fun k => spec_l13Twice.f k l0) ?_
  unfold spec_l13Twice.f
  repeat' with_reducible first | exact Lim.const _ | exact spec_l13Twice.L0_lim _ _ _ | refine Lim.ite ?_ ?_ | refine Lim.bind ?_ (fun _ => ?_)

noncomputable def spec_l13Meet.J0 (x30 : Bool) (x145000 x145001 x146000 x146001 x147000 x147001 x148000 x148001 : Int) : Option (Bool) := lim (fun k => spec_l13Meet.j0 k x30 x145000 x145001 x146000 x146001 x147000 x147001 x148000 x148001)
theorem spec_l13Meet.J0_lim (x30 : Bool) (x145000 x145001 x146000 x146001 x147000 x147001 x148000 x148001 : Int) : Lim (fun k => spec_l13Meet.j0 k x30 x145000 x145001 x146000 x146001 x147000 x147001 x148000 x148001) (spec_l13Meet.J0 x30 x145000 x145001 x146000 x146001 x147000 x147001 x148000 x148001) := Lim.of (fun k => (spec_l13Meet.mono_l k) x30 x145000 x145001 x146000 x146001 x147000 x147001 x148000 x148001)
noncomputable def spec_l13Meet.F (a0_0 a0_1 a1_0 a1_1 a2_0 a2_1 a3_0 a3_1 : Int) : Option (Bool) := lim (fun k => spec_l13Meet.f k a0_0 a0_1 a1_0 a1_1 a2_0 a2_1 a3_0 a3_1)
theorem spec_l13Meet.F_lim (a0_0 a0_1 a1_0 a1_1 a2_0 a2_1 a3_0 a3_1 : Int) : Lim (fun k => spec_l13Meet.f k a0_0 a0_1 a1_0 a1_1 a2_0 a2_1 a3_0 a3_1) (spec_l13Meet.F a0_0 a0_1 a1_0 a1_1 a2_0 a2_1 a3_0 a3_1) := Lim.of (fun k => spec_l13Meet.mono a0_0 a0_1 a1_0 a1_1 a2_0 a2_1 a3_0 a3_1 k)
theorem spec_l13Meet.J0_eq (x30 : Bool) (x145000 x145001 x146000 x146001 x147000 x147001 x148000 x148001 : Int) : spec_l13Meet.J0 x30 x145000 x145001 x146000 x146001 x147000 x147001 x148000 x148001 = if x30 = true then (some true) else ((spec_l13Sides.f x145000 x145001 x146000 x146001 x147000 x147001 x148000 x148001).bind fun t152 => (if t152 = true then ((spec_l13Sides.f x147000 x147001 x148000 x148001 x145000 x145001 x146000 x146001).bind fun t153 => (some t153)) else (some false))) := by
  refine Lim.next (fun k => (spec_l13Meet.mono_l k) x30 x145000 x145001 x146000 x146001 x147000 x147001 x148000 x148001) ?_
  simp only [spec_l13Meet.j0]
  repeat' with_reducible first | exact Lim.const _ | refine Lim.ite ?_ ?_ | refine Lim.bind ?_ (fun _ => ?_)
theorem spec_l13Meet.F_eq (a0_0 a0_1 a1_0 a1_1 a2_0 a2_1 a3_0 a3_1 : Int) : spec_l13Meet.F a0_0 a0_1 a1_0 a1_1 a2_0 a2_1 a3_0 a3_1 = (spec_l13On.f a0_0 a0_1 a1_0 a1_1 a2_0 a2_1).bind fun t148 => (if t148 = true then (spec_l13Meet.J0 true a0_0 a0_1 a1_0 a1_1 a2_0 a2_1 a3_0 a3_1) else ((spec_l13On.f a0_0 a0_1 a1_0 a1_1 a3_0 a3_1).bind fun t149 => (if t149 = true then (spec_l13Meet.J0 true a0_0 a0_1 a1_0 a1_1 a2_0 a2_1 a3_0 a3_1) else ((spec_l13On.f a2_0 a2_1 a3_0 a3_1 a0_0 a0_1).bind fun t150 => (if t150 = true then (spec_l13Meet.J0 true a0_0 a0_1 a1_0 a1_1 a2_0 a2_1 a3_0 a3_1) else ((spec_l13On.f a2_0 a2_1 a3_0 a3_1 a1_0 a1_1).bind fun t151 => (spec_l13Meet.J0 t151 a0_0 a0_1 a1_0 a1_1 a2_0 a2_1 a3_0 a3_1))))))) := by
  refine Lim.eq (g := fun k => spec_l13Meet.f k a0_0 a0_1 a1_0 a1_1 a2_0 a2_1 a3_0 a3_1) ?_
  unfold spec_l13Meet.f
  repeat' with_reducible first | exact Lim.const _ | exact spec_l13Meet.J0_lim _ _ _ _ _ _ _ _ _ | refine Lim.ite ?_ ?_ | refine Lim.bind ?_ (fun _ => ?_)

noncomputable def spec_l13Ok.L0 (x0 : List (S51)) (x3 x4 : Int) : Option (Bool) := lim (fun k => spec_l13Ok.l0 k x0 x3 x4)
theorem spec_l13Ok.L0_lim (x0 : List (S51)) (x3 x4 : Int) : Lim (fun k => spec_l13Ok.l0 k x0 x3 x4) (spec_l13Ok.L0 x0 x3 x4) := Lim.of (fun k => (spec_l13Ok.mono_l k).1 x0 x3 x4)
noncomputable def spec_l13Ok.L1 (x0 : List (S51)) (x3 x5 : Int) : Option (Bool) := lim (fun k => spec_l13Ok.l1 k x0 x3 x5)
theorem spec_l13Ok.L1_lim (x0 : List (S51)) (x3 x5 : Int) : Lim (fun k => spec_l13Ok.l1 k x0 x3 x5) (spec_l13Ok.L1 x0 x3 x5) := Lim.of (fun k => (spec_l13Ok.mono_l k).2.1 x0 x3 x5)
noncomputable def spec_l13Ok.L2 (x0 : List (S51)) (x3 x5 x8 x162000 x162001 x164000 x164001 : Int) : Option (Bool) := lim (fun k => spec_l13Ok.l2 k x0 x3 x5 x8 x162000 x162001 x164000 x164001)
theorem spec_l13Ok.L2_lim (x0 : List (S51)) (x3 x5 x8 x162000 x162001 x164000 x164001 : Int) : Lim (fun k => spec_l13Ok.l2 k x0 x3 x5 x8 x162000 x162001 x164000 x164001) (spec_l13Ok.L2 x0 x3 x5 x8 x162000 x162001 x164000 x164001) := Lim.of (fun k => (spec_l13Ok.mono_l k).2.2 x0 x3 x5 x8 x162000 x162001 x164000 x164001)
noncomputable def spec_l13Ok.F (l0 : List (S51)) : Option (Bool) := lim (fun k => spec_l13Ok.f k l0)
theorem spec_l13Ok.F_lim (l0 : List (S51)) : Lim (fun k => spec_l13Ok.f k l0) (spec_l13Ok.F l0) := Lim.of (fun k => spec_l13Ok.mono l0 k)
theorem spec_l13Ok.L0_eq (x0 : List (S51)) (x3 x4 : Int) : spec_l13Ok.L0 x0 x3 x4 = if x4 < x3 then (if 0 ≤ x4 then (if x4 < (x0.length : Int) then ((spec_l00In.f ((rd_T51 x0 x4).f0) 0 2000).bind fun t156 => (if t156 = true then ((spec_l00In.f ((rd_T51 x0 x4).f1) 0 2000).bind fun t158 => (if t158 = true then (spec_l13Ok.L0 x0 x3 (wrap64 (x4 + 1))) else (some false))) else (some false))) else (none)) else (none)) else (spec_l13Ok.L1 x0 x3 0) := by
  refine Lim.next (fun k => (spec_l13Ok.mono_l k).1 x0 x3 x4) ?_
  simp only [spec_l13Ok.l0]
  repeat' with_reducible first | exact Lim.const _ | exact spec_l13Ok.L0_lim _ _ _ | exact spec_l13Ok.L1_lim _ _ _ | refine Lim.ite ?_ ?_ | refine Lim.bind ?_ (fun _ => ?_)
theorem spec_l13Ok.L1_eq (x0 : List (S51)) (x3 x5 : Int) : spec_l13Ok.L1 x0 x3 x5 = if x5 < x3 then (if 0 ≤ x5 then (if x5 < (x0.length : Int) then (if x3 = 0 then (none) else (if 0 ≤ (Int.tmod (wrap64 (x5 + 1)) x3) then (if (Int.tmod (wrap64 (x5 + 1)) x3) < (x0.length : Int) then (if 0 ≤ (Int.tmod (wrap64 (x5 + 2)) x3) then (if (Int.tmod (wrap64 (x5 + 2)) x3) < (x0.length : Int) then ((spec_l13Cross.f ((rd_T51 x0 x5).f0) ((rd_T51 x0 x5).f1) ((rd_T51 x0 (Int.tmod (wrap64 (x5 + 1)) x3)).f0) ((rd_T51 x0 (Int.tmod (wrap64 (x5 + 1)) x3)).f1) ((rd_T51 x0 (Int.tmod (wrap64 (x5 + 2)) x3)).f0) ((rd_T51 x0 (Int.tmod (wrap64 (x5 + 2)) x3)).f1)).bind fun t165 => (if t165 = 0 then (some false) else (spec_l13Ok.L2 x0 x3 x5 (wrap64 (x5 + 2)) ((rd_T51 x0 x5).f0) ((rd_T51 x0 x5).f1) ((rd_T51 x0 (Int.tmod (wrap64 (x5 + 1)) x3)).f0) ((rd_T51 x0 (Int.tmod (wrap64 (x5 + 1)) x3)).f1)))) else (none)) else (none)) else (none)) else (none))) else (none)) else (none)) else ((spec_l13Twice.F x0).bind fun t159 => (some (decide (t159 > 0)))) := by
  refine Lim.next (fun k => (spec_l13Ok.mono_l k).2.1 x0 x3 x5) ?_
  simp only [spec_l13Ok.l1]
  repeat' with_reducible first | exact Lim.const _ | exact spec_l13Ok.L2_lim _ _ _ _ _ _ _ _ | exact spec_l13Twice.F_lim _ | refine Lim.ite ?_ ?_ | refine Lim.bind ?_ (fun _ => ?_)
theorem spec_l13Ok.L2_eq (x0 : List (S51)) (x3 x5 x8 x162000 x162001 x164000 x164001 : Int) : spec_l13Ok.L2 x0 x3 x5 x8 x162000 x162001 x164000 x164001 = if x8 < x3 then (if x5 > 0 then (if 0 ≤ x8 then (if x8 < (x0.length : Int) then (if x3 = 0 then (none) else (if 0 ≤ (Int.tmod (wrap64 (x8 + 1)) x3) then (if (Int.tmod (wrap64 (x8 + 1)) x3) < (x0.length : Int) then ((spec_l13Meet.F x162000 x162001 x164000 x164001 ((rd_T51 x0 x8).f0) ((rd_T51 x0 x8).f1) ((rd_T51 x0 (Int.tmod (wrap64 (x8 + 1)) x3)).f0) ((rd_T51 x0 (Int.tmod (wrap64 (x8 + 1)) x3)).f1)).bind fun t168 => (if t168 = true then (some false) else (spec_l13Ok.L2 x0 x3 x5 (wrap64 (x8 + 1)) x162000 x162001 x164000 x164001))) else (none)) else (none))) else (none)) else (none)) else (if x8 < (wrap64 (x3 - 1)) then (if 0 ≤ x8 then (if x8 < (x0.length : Int) then (if x3 = 0 then (none) else (if 0 ≤ (Int.tmod (wrap64 (x8 + 1)) x3) then (if (Int.tmod (wrap64 (x8 + 1)) x3) < (x0.length : Int) then ((spec_l13Meet.F x162000 x162001 x164000 x164001 ((rd_T51 x0 x8).f0) ((rd_T51 x0 x8).f1) ((rd_T51 x0 (Int.tmod (wrap64 (x8 + 1)) x3)).f0) ((rd_T51 x0 (Int.tmod (wrap64 (x8 + 1)) x3)).f1)).bind fun t171 => (if t171 = true then (some false) else (spec_l13Ok.L2 x0 x3 x5 (wrap64 (x8 + 1)) x162000 x162001 x164000 x164001))) else (none)) else (none))) else (none)) else (none)) else (spec_l13Ok.L2 x0 x3 x5 (wrap64 (x8 + 1)) x162000 x162001 x164000 x164001))) else (spec_l13Ok.L1 x0 x3 (wrap64 (x5 + 1))) := by
  refine Lim.next (fun k => (spec_l13Ok.mono_l k).2.2 x0 x3 x5 x8 x162000 x162001 x164000 x164001) ?_
  simp only [spec_l13Ok.l2]
  repeat' with_reducible first | exact Lim.const _ | exact spec_l13Meet.F_lim _ _ _ _ _ _ _ _ | exact spec_l13Ok.L1_lim _ _ _ | exact spec_l13Ok.L2_lim _ _ _ _ _ _ _ _ | refine Lim.ite ?_ ?_ | refine Lim.bind ?_ (fun _ => ?_)
theorem spec_l13Ok.F_eq (l0 : List (S51)) : spec_l13Ok.F l0 = (spec_l00In.f (l0.length : Int) 3 8).bind fun t154 => (if t154 = true then (spec_l13Ok.L0 l0 (l0.length : Int) 0) else (some false)) := by
  refine Lim.eq (g := fun k => spec_l13Ok.f k l0) ?_
  unfold spec_l13Ok.f
  repeat' with_reducible first | exact Lim.const _ | exact spec_l13Ok.L0_lim _ _ _ | refine Lim.ite ?_ ?_ | refine Lim.bind ?_ (fun _ => ?_)

noncomputable def spec_l13Bulged.L0 (x0 : List (S51)) (x3 x4 : Int) : Option (Bool) := lim (fun k => spec_l13Bulged.l0 k x0 x3 x4)
theorem spec_l13Bulged.L0_lim (x0 : List (S51)) (x3 x4 : Int) : Lim (fun k => spec_l13Bulged.l0 k x0 x3 x4) (spec_l13Bulged.L0 x0 x3 x4) := Lim.of (fun k => (spec_l13Bulged.mono_l k) x0 x3 x4)
noncomputable def spec_l13Bulged.F (l0 : List (S51)) : Option (Bool) := lim (fun k => spec_l13Bulged.f k l0)
theorem spec_l13Bulged.F_lim (l0 : List (S51)) : Lim (fun k => spec_l13Bulged.f k l0) (spec_l13Bulged.F l0) := Lim.of (fun k => spec_l13Bulged.mono l0 k)
theorem spec_l13Bulged.L0_eq (x0 : List (S51)) (x3 x4 : Int) : spec_l13Bulged.L0 x0 x3 x4 = if x4 < x3 then (if 0 ≤ x4 then (if x4 < (x0.length : Int) then (if x3 = 0 then (none) else (if 0 ≤ (Int.tmod (wrap64 (x4 + 1)) x3) then (if (Int.tmod (wrap64 (x4 + 1)) x3) < (x0.length : Int) then (if 0 ≤ (Int.tmod (wrap64 (x4 + 2)) x3) then (if (Int.tmod (wrap64 (x4 + 2)) x3) < (x0.length : Int) then ((spec_l13Cross.f ((rd_T51 x0 x4).f0) ((rd_T51 x0 x4).f1) ((rd_T51 x0 (Int.tmod (wrap64 (x4 + 1)) x3)).f0) ((rd_T51 x0 (Int.tmod (wrap64 (x4 + 1)) x3)).f1) ((rd_T51 x0 (Int.tmod (wrap64 (x4 + 2)) x3)).f0) ((rd_T51 x0 (Int.tmod (wrap64 (x4 + 2)) x3)).f1)).bind fun t179 => (if t179 < 0 then (some false) else (spec_l13Bulged.L0 x0 x3 (wrap64 (x4 + 1))))) else (none)) else (none)) else (none)) else (none))) else (none)) else (none)) else (some true) := by
  refine Lim.next (fun k => (spec_l13Bulged.mono_l k) x0 x3 x4) ?_
  simp only [spec_l13Bulged.l0]
  repeat' with_reducible first | exact Lim.const _ | exact spec_l13Bulged.L0_lim _ _ _ | refine Lim.ite ?_ ?_ | refine Lim.bind ?_ (fun _ => ?_)
theorem spec_l13Bulged.F_eq (l0 : List (S51)) : spec_l13Bulged.F l0 = spec_l13Bulged.L0 l0 (l0.length : Int) 0 := by
  refine Lim.eq (g := fun k => spec_l13Bulged.f k l0) ?_
  unfold spec_l13Bulged.f
  repeat' with_reducible first | exact Lim.const _ | exact spec_l13Bulged.L0_lim _ _ _ | refine Lim.ite ?_ ?_ | refine Lim.bind ?_ (fun _ => ?_)

noncomputable def spec_l13Limits.L0 (x0 : List (S51)) (x4 x5 x6 : Int) : Option (Int × Int) := lim (fun k => spec_l13Limits.l0 k x0 x4 x5 x6)
theorem spec_l13Limits.L0_lim (x0 : List (S51)) (x4 x5 x6 : Int) : Lim (fun k => spec_l13Limits.l0 k x0 x4 x5 x6) (spec_l13Limits.L0 x0 x4 x5 x6) := Lim.of (fun k => (spec_l13Limits.mono_l k) x0 x4 x5 x6)
noncomputable def spec_l13Limits.F (l0 : List (S51)) : Option (Int × Int) := lim (fun k => spec_l13Limits.f k l0)
theorem spec_l13Limits.F_lim (l0 : List (S51)) : Lim (fun k => spec_l13Limits.f k l0) (spec_l13Limits.F l0) := Lim.of (fun k => spec_l13Limits.mono l0 k)
theorem spec_l13Limits.L0_eq (x0 : List (S51)) (x4 x5 x6 : Int) : spec_l13Limits.L0 x0 x4 x5 x6 = if x6 < (x0.length : Int) then (if 0 ≤ x6 then ((spec_l00Min.f x4 ((rd_T51 x0 x6).f1)).bind fun t182 => ((spec_l00Max.f x5 ((rd_T51 x0 x6).f1)).bind fun t184 => (spec_l13Limits.L0 x0 t182 t184 (wrap64 (x6 + 1))))) else (none)) else (some (x4, x5)) := by
  refine Lim.next (fun k => (spec_l13Limits.mono_l k) x0 x4 x5 x6) ?_
  simp only [spec_l13Limits.l0]
  repeat' with_reducible first | exact Lim.const _ | exact spec_l13Limits.L0_lim _ _ _ _ | refine Lim.ite ?_ ?_ | refine Lim.bind ?_ (fun _ => ?_)
theorem spec_l13Limits.F_eq (l0 : List (S51)) : spec_l13Limits.F l0 = if 0 < (l0.length : Int) then (spec_l13Limits.L0 l0 ((rd_T51 l0 0).f1) ((rd_T51 l0 0).f1) 1) else (none) := by
  refine Lim.eq (g := fun k => spec_l13Limits.f k l0) ?_
  unfold spec_l13Limits.f
  repeat' with_reducible first | exact Lim.const _ | exact spec_l13Limits.L0_lim _ _ _ _ | refine Lim.ite ?_ ?_ | refine Lim.bind ?_ (fun _ => ?_)

noncomputable def spec_l15Code.J0 (x0 : List (S51)) (x14 : Bool) (x187000 x187001 x187002 : Int) : Option (Int) := lim (fun k => spec_l15Code.j0 k x0 x14 x187000 x187001 x187002)
theorem spec_l15Code.J0_lim (x0 : List (S51)) (x14 : Bool) (x187000 x187001 x187002 : Int) : Lim (fun k => spec_l15Code.j0 k x0 x14 x187000 x187001 x187002) (spec_l15Code.J0 x0 x14 x187000 x187001 x187002) := Lim.of (fun k => (spec_l15Code.mono_l k) x0 x14 x187000 x187001 x187002)
noncomputable def spec_l15Code.F (l0 : List (S51)) (a1_0 a1_1 a1_2 : Int) : Option (Int) := lim (fun k => spec_l15Code.f k l0 a1_0 a1_1 a1_2)
theorem spec_l15Code.F_lim (l0 : List (S51)) (a1_0 a1_1 a1_2 : Int) : Lim (fun k => spec_l15Code.f k l0 a1_0 a1_1 a1_2) (spec_l15Code.F l0 a1_0 a1_1 a1_2) := Lim.of (fun k => spec_l15Code.mono l0 a1_0 a1_1 a1_2 k)
theorem spec_l15Code.J0_eq (x0 : List (S51)) (x14 : Bool) (x187000 x187001 x187002 : Int) : spec_l15Code.J0 x0 x14 x187000 x187001 x187002 = if x14 = true then (some 1) else ((spec_l13Bulged.F x0).bind fun t189 => (if t189 = true then ((spec_l13Limits.F x0).bind fun bt190 => ((spec_l15Many.f (wrap64 (bt190.2 - bt190.1)) x187000 x187001 x187002).bind fun t192 => (if t192 > 40 then (some 5) else (some 0)))) else (some 6))) := by
  refine Lim.next (fun k => (spec_l15Code.mono_l k) x0 x14 x187000 x187001 x187002) ?_
  simp only [spec_l15Code.j0]
  repeat' with_reducible first | exact Lim.const _ | exact spec_l13Bulged.F_lim _ | exact spec_l13Limits.F_lim _ | refine Lim.ite ?_ ?_ | refine Lim.bind ?_ (fun _ => ?_)
theorem spec_l15Code.F_eq (l0 : List (S51)) (a1_0 a1_1 a1_2 : Int) : spec_l15Code.F l0 a1_0 a1_1 a1_2 = (spec_l13Ok.F l0).bind fun t187 => (if t187 = true then ((spec_l15Ok.f a1_0 a1_1 a1_2).bind fun t188 => (spec_l15Code.J0 l0 (!t188) a1_0 a1_1 a1_2)) else (spec_l15Code.J0 l0 true a1_0 a1_1 a1_2)) := by
  refine Lim.eq (g := fun k => spec_l15Code.f k l0 a1_0 a1_1 a1_2) ?_
  unfold spec_l15Code.f
  repeat' with_reducible first | exact Lim.const _ | exact spec_l13Ok.F_lim _ | exact spec_l15Code.J0_lim _ _ _ _ _ | refine Lim.ite ?_ ?_ | refine Lim.bind ?_ (fun _ => ?_)

noncomputable def spec_l15Edges.L0 (x6 : Int) (x7 : List Int) (x8 x194000 x194001 x194002 : Int) : Option (List Int) := lim (fun k => spec_l15Edges.l0 k x6 x7 x8 x194000 x194001 x194002)
theorem spec_l15Edges.L0_lim (x6 : Int) (x7 : List Int) (x8 x194000 x194001 x194002 : Int) : Lim (fun k => spec_l15Edges.l0 k x6 x7 x8 x194000 x194001 x194002) (spec_l15Edges.L0 x6 x7 x8 x194000 x194001 x194002) := Lim.of (fun k => (spec_l15Edges.mono_l k) x6 x7 x8 x194000 x194001 x194002)
noncomputable def spec_l15Edges.F (l0 : List (S51)) (a1_0 a1_1 a1_2 : Int) : Option (List Int) := lim (fun k => spec_l15Edges.f k l0 a1_0 a1_1 a1_2)
theorem spec_l15Edges.F_lim (l0 : List (S51)) (a1_0 a1_1 a1_2 : Int) : Lim (fun k => spec_l15Edges.f k l0 a1_0 a1_1 a1_2) (spec_l15Edges.F l0 a1_0 a1_1 a1_2) := Lim.of (fun k => spec_l15Edges.mono l0 a1_0 a1_1 a1_2 k)
theorem spec_l15Edges.L0_eq (x6 : Int) (x7 : List Int) (x8 x194000 x194001 x194002 : Int) : spec_l15Edges.L0 x6 x7 x8 x194000 x194001 x194002 = if x8 < x6 then (if x7.length < 17592186044416 then (spec_l15Edges.L0 x6 (x7 ++ [x8]) (wrap64 (x8 + (wrap64 (x194000 - x194001)))) x194000 x194001 x194002) else (none)) else (if x7.length < 17592186044416 then (some (x7 ++ [x6])) else (none)) := by
  refine Lim.next (fun k => (spec_l15Edges.mono_l k) x6 x7 x8 x194000 x194001 x194002) ?_
  simp only [spec_l15Edges.l0]
  repeat' with_reducible first | exact Lim.const _ | exact spec_l15Edges.L0_lim _ _ _ _ _ _ | refine Lim.ite ?_ ?_ | refine Lim.bind ?_ (fun _ => ?_)
theorem spec_l15Edges.F_eq (l0 : List (S51)) (a1_0 a1_1 a1_2 : Int) : spec_l15Edges.F l0 a1_0 a1_1 a1_2 = (spec_l13Limits.F l0).bind fun bt194 => (spec_l15Edges.L0 bt194.2 (([] : List Int)) bt194.1 a1_0 a1_1 a1_2) := by
  refine Lim.eq (g := fun k => spec_l15Edges.f k l0 a1_0 a1_1 a1_2) ?_
  unfold spec_l15Edges.f
  repeat' with_reducible first | exact Lim.const _ | exact spec_l13Limits.F_lim _ | exact spec_l15Edges.L0_lim _ _ _ _ _ _ | refine Lim.ite ?_ ?_ | refine Lim.bind ?_ (fun _ => ?_)

noncomputable def spec_l00Gcd.L0 (x0 x1 : Int) : Option (Int) := lim (fun k => spec_l00Gcd.l0 k x0 x1)
theorem spec_l00Gcd.L0_lim (x0 x1 : Int) : Lim (fun k => spec_l00Gcd.l0 k x0 x1) (spec_l00Gcd.L0 x0 x1) := Lim.of (fun k => (spec_l00Gcd.mono_l k) x0 x1)
noncomputable def spec_l00Gcd.F (a0 a1 : Int) : Option (Int) := lim (fun k => spec_l00Gcd.f k a0 a1)
theorem spec_l00Gcd.F_lim (a0 a1 : Int) : Lim (fun k => spec_l00Gcd.f k a0 a1) (spec_l00Gcd.F a0 a1) := Lim.of (fun k => spec_l00Gcd.mono a0 a1 k)
theorem spec_l00Gcd.L0_eq (x0 x1 : Int) : spec_l00Gcd.L0 x0 x1 = if x1 = 0 then (some x0) else (spec_l00Gcd.L0 x1 (Int.tmod x0 x1)) := by
  refine Lim.next (fun k => (spec_l00Gcd.mono_l k) x0 x1) ?_
  simp only [spec_l00Gcd.l0]
  repeat' with_reducible first | exact Lim.const _ | exact spec_l00Gcd.L0_lim _ _ | refine Lim.ite ?_ ?_ | refine Lim.bind ?_ (fun _ => ?_)
theorem spec_l00Gcd.F_eq (a0 a1 : Int) : spec_l00Gcd.F a0 a1 = spec_l00Gcd.L0 a0 a1 := by
  refine Lim.eq (g := fun k => spec_l00Gcd.f k a0 a1) ?_
  unfold spec_l00Gcd.f
  repeat' with_reducible first | exact Lim.const _ | exact spec_l00Gcd.L0_lim _ _ | refine Lim.ite ?_ ?_ | refine Lim.bind ?_ (fun _ => ?_)

noncomputable def spec_l01Make.F (a0 a1 : Int) : Option (Int × Int) := lim (fun k => spec_l01Make.f k a0 a1)
theorem spec_l01Make.F_lim (a0 a1 : Int) : Lim (fun k => spec_l01Make.f k a0 a1) (spec_l01Make.F a0 a1) := Lim.of (fun k => spec_l01Make.mono a0 a1 k)
theorem spec_l01Make.F_eq (a0 a1 : Int) : spec_l01Make.F a0 a1 = (spec_l00Size.f a0).bind fun t208 => ((spec_l00Gcd.F t208 a1).bind fun t209 => (if t209 = 0 then (none) else (some (wrap64 (Int.tdiv a0 t209), wrap64 (Int.tdiv a1 t209))))) := by
  refine Lim.eq (g := fun k => spec_l01Make.f k a0 a1) ?_
  unfold spec_l01Make.f
  repeat' with_reducible first | exact Lim.const _ | exact spec_l00Gcd.F_lim _ _ | refine Lim.ite ?_ ?_ | refine Lim.bind ?_ (fun _ => ?_)

noncomputable def spec_l13At.F (a0_0 a0_1 a1_0 a1_1 a2 : Int) : Option (Int × Int) := lim (fun k => spec_l13At.f k a0_0 a0_1 a1_0 a1_1 a2)
theorem spec_l13At.F_lim (a0_0 a0_1 a1_0 a1_1 a2 : Int) : Lim (fun k => spec_l13At.f k a0_0 a0_1 a1_0 a1_1 a2) (spec_l13At.F a0_0 a0_1 a1_0 a1_1 a2) := Lim.of (fun k => spec_l13At.mono a0_0 a0_1 a1_0 a1_1 a2 k)
theorem spec_l13At.F_eq (a0_0 a0_1 a1_0 a1_1 a2 : Int) : spec_l13At.F a0_0 a0_1 a1_0 a1_1 a2 = if (wrap64 (a1_1 - a0_1)) < 0 then ((spec_l01Make.F (wrap64 (-(wrap64 ((wrap64 (a0_0 * (wrap64 (a1_1 - a2)))) + (wrap64 (a1_0 * (wrap64 (a2 - a0_1)))))))) (wrap64 (-(wrap64 (a1_1 - a0_1))))).bind fun bt213 => (some (bt213.1, bt213.2))) else ((spec_l01Make.F (wrap64 ((wrap64 (a0_0 * (wrap64 (a1_1 - a2)))) + (wrap64 (a1_0 * (wrap64 (a2 - a0_1)))))) (wrap64 (a1_1 - a0_1))).bind fun bt215 => (some (bt215.1, bt215.2))) := by
  refine Lim.eq (g := fun k => spec_l13At.f k a0_0 a0_1 a1_0 a1_1 a2) ?_
  unfold spec_l13At.f
  repeat' with_reducible first | exact Lim.const _ | exact spec_l01Make.F_lim _ _ | refine Lim.ite ?_ ?_ | refine Lim.bind ?_ (fun _ => ?_)

noncomputable def spec_l13Sum.F (a0_0 a0_1 a1_0 a1_1 : Int) : Option (Int × Int) := lim (fun k => spec_l13Sum.f k a0_0 a0_1 a1_0 a1_1)
theorem spec_l13Sum.F_lim (a0_0 a0_1 a1_0 a1_1 : Int) : Lim (fun k => spec_l13Sum.f k a0_0 a0_1 a1_0 a1_1) (spec_l13Sum.F a0_0 a0_1 a1_0 a1_1) := Lim.of (fun k => spec_l13Sum.mono a0_0 a0_1 a1_0 a1_1 k)
theorem spec_l13Sum.F_eq (a0_0 a0_1 a1_0 a1_1 : Int) : spec_l13Sum.F a0_0 a0_1 a1_0 a1_1 = (spec_l00Gcd.F a0_1 a1_1).bind fun t220 => (if t220 = 0 then (none) else ((spec_l01Make.F (wrap64 ((wrap64 (a0_0 * (wrap64 (Int.tdiv a1_1 t220)))) + (wrap64 (a1_0 * (wrap64 (Int.tdiv a0_1 t220)))))) (wrap64 ((wrap64 (Int.tdiv a0_1 t220)) * a1_1))).bind fun bt221 => (some (bt221.1, bt221.2)))) := by
  refine Lim.eq (g := fun k => spec_l13Sum.f k a0_0 a0_1 a1_0 a1_1) ?_
  unfold spec_l13Sum.f
  repeat' with_reducible first | exact Lim.const _ | exact spec_l00Gcd.F_lim _ _ | exact spec_l01Make.F_lim _ _ | refine Lim.ite ?_ ?_ | refine Lim.bind ?_ (fun _ => ?_)

noncomputable def spec_l13Width.L0 (x0 : List (S51)) (x1 x5 x8 x225000 x225001 x226000 x226001 : Int) : Option (Int × Int) := lim (fun k => spec_l13Width.l0 k x0 x1 x5 x8 x225000 x225001 x226000 x226001)
theorem spec_l13Width.L0_lim (x0 : List (S51)) (x1 x5 x8 x225000 x225001 x226000 x226001 : Int) : Lim (fun k => spec_l13Width.l0 k x0 x1 x5 x8 x225000 x225001 x226000 x226001) (spec_l13Width.L0 x0 x1 x5 x8 x225000 x225001 x226000 x226001) := Lim.of (fun k => (spec_l13Width.mono_l k).1 x0 x1 x5 x8 x225000 x225001 x226000 x226001)
noncomputable def spec_l13Width.J1 (x0 : List (S51)) (x1 x5 x8 x225000 x225001 x226000 x226001 x236000 x236001 x237000 x237001 : Int) : Option (Int × Int) := lim (fun k => spec_l13Width.j1 k x0 x1 x5 x8 x225000 x225001 x226000 x226001 x236000 x236001 x237000 x237001)
theorem spec_l13Width.J1_lim (x0 : List (S51)) (x1 x5 x8 x225000 x225001 x226000 x226001 x236000 x236001 x237000 x237001 : Int) : Lim (fun k => spec_l13Width.j1 k x0 x1 x5 x8 x225000 x225001 x226000 x226001 x236000 x236001 x237000 x237001) (spec_l13Width.J1 x0 x1 x5 x8 x225000 x225001 x226000 x226001 x236000 x236001 x237000 x237001) := Lim.of (fun k => (spec_l13Width.mono_l k).2.1 x0 x1 x5 x8 x225000 x225001 x226000 x226001 x236000 x236001 x237000 x237001)
noncomputable def spec_l13Width.J2 (x0 : List (S51)) (x1 x5 x8 x225000 x225001 x226000 x226001 x236000 x236001 x237000 x237001 : Int) : Option (Int × Int) := lim (fun k => spec_l13Width.j2 k x0 x1 x5 x8 x225000 x225001 x226000 x226001 x236000 x236001 x237000 x237001)
theorem spec_l13Width.J2_lim (x0 : List (S51)) (x1 x5 x8 x225000 x225001 x226000 x226001 x236000 x236001 x237000 x237001 : Int) : Lim (fun k => spec_l13Width.j2 k x0 x1 x5 x8 x225000 x225001 x226000 x226001 x236000 x236001 x237000 x237001) (spec_l13Width.J2 x0 x1 x5 x8 x225000 x225001 x226000 x226001 x236000 x236001 x237000 x237001) := Lim.of (fun k => (spec_l13Width.mono_l k).2.2.1 x0 x1 x5 x8 x225000 x225001 x226000 x226001 x236000 x236001 x237000 x237001)
noncomputable def spec_l13Width.J3 (x0 : List (S51)) (x1 x5 x8 x225000 x225001 x226000 x226001 x236000 x236001 x237000 x237001 : Int) : Option (Int × Int) := lim (fun k => spec_l13Width.j3 k x0 x1 x5 x8 x225000 x225001 x226000 x226001 x236000 x236001 x237000 x237001)
theorem spec_l13Width.J3_lim (x0 : List (S51)) (x1 x5 x8 x225000 x225001 x226000 x226001 x236000 x236001 x237000 x237001 : Int) : Lim (fun k => spec_l13Width.j3 k x0 x1 x5 x8 x225000 x225001 x226000 x226001 x236000 x236001 x237000 x237001) (spec_l13Width.J3 x0 x1 x5 x8 x225000 x225001 x226000 x226001 x236000 x236001 x237000 x237001) := Lim.of (fun k => (spec_l13Width.mono_l k).2.2.2 x0 x1 x5 x8 x225000 x225001 x226000 x226001 x236000 x236001 x237000 x237001)
noncomputable def spec_l13Width.F (l0 : List (S51)) (a1 : Int) : Option (Int × Int) := lim (fun k => spec_l13Width.f k l0 a1)
theorem spec_l13Width.F_lim (l0 : List (S51)) (a1 : Int) : Lim (fun k => spec_l13Width.f k l0 a1) (spec_l13Width.F l0 a1) := Lim.of (fun k => spec_l13Width.mono l0 a1 k)
theorem spec_l13Width.L0_eq (x0 : List (S51)) (x1 x5 x8 x225000 x225001 x226000 x226001 : Int) : spec_l13Width.L0 x0 x1 x5 x8 x225000 x225001 x226000 x226001 = if x8 < x5 then (if 0 ≤ x8 then (if x8 < (x0.length : Int) then (if x5 = 0 then (none) else (if 0 ≤ (Int.tmod (wrap64 (x8 + 1)) x5) then (if (Int.tmod (wrap64 (x8 + 1)) x5) < (x0.length : Int) then ((spec_l00Min.f ((rd_T51 x0 x8).f1) ((rd_T51 x0 (Int.tmod (wrap64 (x8 + 1)) x5)).f1)).bind fun t232 => ((spec_l00Max.f ((rd_T51 x0 x8).f1) ((rd_T51 x0 (Int.tmod (wrap64 (x8 + 1)) x5)).f1)).bind fun t233 => ((spec_l00In.f x1 t232 t233).bind fun t234 => (if t234 = true then (if ((rd_T51 x0 x8).f1) = ((rd_T51 x0 (Int.tmod (wrap64 (x8 + 1)) x5)).f1) then (spec_l13Width.J1 x0 x1 x5 x8 x225000 x225001 x226000 x226001 ((rd_T51 x0 x8).f0) 1 ((rd_T51 x0 (Int.tmod (wrap64 (x8 + 1)) x5)).f0) 1) else ((spec_l13At.F ((rd_T51 x0 x8).f0) ((rd_T51 x0 x8).f1) ((rd_T51 x0 (Int.tmod (wrap64 (x8 + 1)) x5)).f0) ((rd_T51 x0 (Int.tmod (wrap64 (x8 + 1)) x5)).f1) x1).bind fun bt237 => (spec_l13Width.J1 x0 x1 x5 x8 x225000 x225001 x226000 x226001 bt237.1 bt237.2 bt237.1 bt237.2))) else (spec_l13Width.L0 x0 x1 x5 (wrap64 (x8 + 1)) x225000 x225001 x226000 x226001))))) else (none)) else (none))) else (none)) else (none)) else ((spec_l13Sum.F x226000 x226001 (wrap64 (-x225000)) x225001).bind fun bt226 => (some (bt226.1, bt226.2))) := by
  refine Lim.next (fun k => (spec_l13Width.mono_l k).1 x0 x1 x5 x8 x225000 x225001 x226000 x226001) ?_
  simp only [spec_l13Width.l0]
  repeat' with_reducible first | exact Lim.const _ | exact spec_l13At.F_lim _ _ _ _ _ | exact spec_l13Sum.F_lim _ _ _ _ | exact spec_l13Width.J1_lim _ _ _ _ _ _ _ _ _ _ _ _ | exact spec_l13Width.L0_lim _ _ _ _ _ _ _ _ | refine Lim.ite ?_ ?_ | refine Lim.bind ?_ (fun _ => ?_)
theorem spec_l13Width.J1_eq (x0 : List (S51)) (x1 x5 x8 x225000 x225001 x226000 x226001 x236000 x236001 x237000 x237001 : Int) : spec_l13Width.J1 x0 x1 x5 x8 x225000 x225001 x226000 x226001 x236000 x236001 x237000 x237001 = (spec_l13Less.f x236000 x236001 x225000 x225001).bind fun t239 => (if t239 = true then (spec_l13Width.J2 x0 x1 x5 x8 x236000 x236001 x226000 x226001 x236000 x236001 x237000 x237001) else (spec_l13Width.J2 x0 x1 x5 x8 x225000 x225001 x226000 x226001 x236000 x236001 x237000 x237001)) := by
  refine Lim.next (fun k => (spec_l13Width.mono_l k).2.1 x0 x1 x5 x8 x225000 x225001 x226000 x226001 x236000 x236001 x237000 x237001) ?_
  simp only [spec_l13Width.j1]
  repeat' with_reducible first | exact Lim.const _ | exact spec_l13Width.J2_lim _ _ _ _ _ _ _ _ _ _ _ _ | refine Lim.ite ?_ ?_ | refine Lim.bind ?_ (fun _ => ?_)
theorem spec_l13Width.J2_eq (x0 : List (S51)) (x1 x5 x8 x225000 x225001 x226000 x226001 x236000 x236001 x237000 x237001 : Int) : spec_l13Width.J2 x0 x1 x5 x8 x225000 x225001 x226000 x226001 x236000 x236001 x237000 x237001 = (spec_l13Less.f x237000 x237001 x225000 x225001).bind fun t240 => (if t240 = true then (spec_l13Width.J3 x0 x1 x5 x8 x237000 x237001 x226000 x226001 x236000 x236001 x237000 x237001) else (spec_l13Width.J3 x0 x1 x5 x8 x225000 x225001 x226000 x226001 x236000 x236001 x237000 x237001)) := by
  refine Lim.next (fun k => (spec_l13Width.mono_l k).2.2.1 x0 x1 x5 x8 x225000 x225001 x226000 x226001 x236000 x236001 x237000 x237001) ?_
  simp only [spec_l13Width.j2]
  repeat' with_reducible first | exact Lim.const _ | exact spec_l13Width.J3_lim _ _ _ _ _ _ _ _ _ _ _ _ | refine Lim.ite ?_ ?_ | refine Lim.bind ?_ (fun _ => ?_)
theorem spec_l13Width.J3_eq (x0 : List (S51)) (x1 x5 x8 x225000 x225001 x226000 x226001 x236000 x236001 x237000 x237001 : Int) : spec_l13Width.J3 x0 x1 x5 x8 x225000 x225001 x226000 x226001 x236000 x236001 x237000 x237001 = (spec_l13Less.f x226000 x226001 x236000 x236001).bind fun t241 => (if t241 = true then ((spec_l13Less.f x236000 x236001 x237000 x237001).bind fun t242 => (if t242 = true then (spec_l13Width.L0 x0 x1 x5 (wrap64 (x8 + 1)) x225000 x225001 x237000 x237001) else (spec_l13Width.L0 x0 x1 x5 (wrap64 (x8 + 1)) x225000 x225001 x236000 x236001))) else ((spec_l13Less.f x226000 x226001 x237000 x237001).bind fun t243 => (if t243 = true then (spec_l13Width.L0 x0 x1 x5 (wrap64 (x8 + 1)) x225000 x225001 x237000 x237001) else (spec_l13Width.L0 x0 x1 x5 (wrap64 (x8 + 1)) x225000 x225001 x226000 x226001)))) := by
  refine Lim.next (fun k => (spec_l13Width.mono_l k).2.2.2 x0 x1 x5 x8 x225000 x225001 x226000 x226001 x236000 x236001 x237000 x237001) ?_
  simp only [spec_l13Width.j3]
  repeat' with_reducible first | exact Lim.const _ | exact spec_l13Width.L0_lim _ _ _ _ _ _ _ _ | refine Lim.ite ?_ ?_ | refine Lim.bind ?_ (fun _ => ?_)
theorem spec_l13Width.F_eq (l0 : List (S51)) (a1 : Int) : spec_l13Width.F l0 a1 = spec_l13Width.L0 l0 a1 (l0.length : Int) 0 2000 1 0 1 := by
  refine Lim.eq (g := fun k => spec_l13Width.f k l0 a1) ?_
  unfold spec_l13Width.f
  repeat' with_reducible first | exact Lim.const _ | exact spec_l13Width.L0_lim _ _ _ _ _ _ _ _ | refine Lim.ite ?_ ?_ | refine Lim.bind ?_ (fun _ => ?_)

noncomputable def spec_l15Reach.J0 (x0 : List (S51)) (x1 x2 x247000 x247001 : Int) : Option (Int) := lim (fun k => spec_l15Reach.j0 k x0 x1 x2 x247000 x247001)
theorem spec_l15Reach.J0_lim (x0 : List (S51)) (x1 x2 x247000 x247001 : Int) : Lim (fun k => spec_l15Reach.j0 k x0 x1 x2 x247000 x247001) (spec_l15Reach.J0 x0 x1 x2 x247000 x247001) := Lim.of (fun k => (spec_l15Reach.mono_l k).1 x0 x1 x2 x247000 x247001)
noncomputable def spec_l15Reach.L0 (x0 : List (S51)) (x1 x2 x9 x247000 x247001 : Int) : Option (Int) := lim (fun k => spec_l15Reach.l0 k x0 x1 x2 x9 x247000 x247001)
theorem spec_l15Reach.L0_lim (x0 : List (S51)) (x1 x2 x9 x247000 x247001 : Int) : Lim (fun k => spec_l15Reach.l0 k x0 x1 x2 x9 x247000 x247001) (spec_l15Reach.L0 x0 x1 x2 x9 x247000 x247001) := Lim.of (fun k => (spec_l15Reach.mono_l k).2.1 x0 x1 x2 x9 x247000 x247001)
noncomputable def spec_l15Reach.J2 (x0 : List (S51)) (x1 x2 x9 : Int) (x42 : Bool) (x247000 x247001 : Int) : Option (Int) := lim (fun k => spec_l15Reach.j2 k x0 x1 x2 x9 x42 x247000 x247001)
theorem spec_l15Reach.J2_lim (x0 : List (S51)) (x1 x2 x9 : Int) (x42 : Bool) (x247000 x247001 : Int) : Lim (fun k => spec_l15Reach.j2 k x0 x1 x2 x9 x42 x247000 x247001) (spec_l15Reach.J2 x0 x1 x2 x9 x42 x247000 x247001) := Lim.of (fun k => (spec_l15Reach.mono_l k).2.2 x0 x1 x2 x9 x42 x247000 x247001)
noncomputable def spec_l15Reach.F (l0 : List (S51)) (a1 a2 : Int) : Option (Int) := lim (fun k => spec_l15Reach.f k l0 a1 a2)
theorem spec_l15Reach.F_lim (l0 : List (S51)) (a1 a2 : Int) : Lim (fun k => spec_l15Reach.f k l0 a1 a2) (spec_l15Reach.F l0 a1 a2) := Lim.of (fun k => spec_l15Reach.mono l0 a1 a2 k)
theorem spec_l15Reach.J0_eq (x0 : List (S51)) (x1 x2 x247000 x247001 : Int) : spec_l15Reach.J0 x0 x1 x2 x247000 x247001 = spec_l15Reach.L0 x0 x1 x2 0 x247000 x247001 := by
  refine Lim.next (fun k => (spec_l15Reach.mono_l k).1 x0 x1 x2 x247000 x247001) ?_
  simp only [spec_l15Reach.j0]
  repeat' with_reducible first | exact Lim.const _ | exact spec_l15Reach.L0_lim _ _ _ _ _ _ | refine Lim.ite ?_ ?_ | refine Lim.bind ?_ (fun _ => ?_)
theorem spec_l15Reach.L0_eq (x0 : List (S51)) (x1 x2 x9 x247000 x247001 : Int) : spec_l15Reach.L0 x0 x1 x2 x9 x247000 x247001 = if x9 < (x0.length : Int) then (if 0 ≤ x9 then (if ((rd_T51 x0 x9).f1) > x1 then (spec_l15Reach.J2 x0 x1 x2 x9 (decide (((rd_T51 x0 x9).f1) < x2)) x247000 x247001) else (spec_l15Reach.J2 x0 x1 x2 x9 false x247000 x247001)) else (none)) else (if x247001 = 0 then (none) else (some (wrap64 (Int.tdiv (wrap64 ((wrap64 (x247000 + x247001)) - 1)) x247001)))) := by
  refine Lim.next (fun k => (spec_l15Reach.mono_l k).2.1 x0 x1 x2 x9 x247000 x247001) ?_
  simp only [spec_l15Reach.l0]
  repeat' with_reducible first | exact Lim.const _ | exact spec_l15Reach.J2_lim _ _ _ _ _ _ _ | refine Lim.ite ?_ ?_ | refine Lim.bind ?_ (fun _ => ?_)
theorem spec_l15Reach.J2_eq (x0 : List (S51)) (x1 x2 x9 : Int) (x42 : Bool) (x247000 x247001 : Int) : spec_l15Reach.J2 x0 x1 x2 x9 x42 x247000 x247001 = if x42 = true then (if 0 ≤ x9 then (if x9 < (x0.length : Int) then ((spec_l13Width.F x0 ((rd_T51 x0 x9).f1)).bind fun bt254 => ((spec_l13Less.f x247000 x247001 bt254.1 bt254.2).bind fun t257 => (if t257 = true then (spec_l15Reach.L0 x0 x1 x2 (wrap64 (x9 + 1)) bt254.1 bt254.2) else (spec_l15Reach.L0 x0 x1 x2 (wrap64 (x9 + 1)) x247000 x247001)))) else (none)) else (none)) else (spec_l15Reach.L0 x0 x1 x2 (wrap64 (x9 + 1)) x247000 x247001) := by
  refine Lim.next (fun k => (spec_l15Reach.mono_l k).2.2 x0 x1 x2 x9 x42 x247000 x247001) ?_
  simp only [spec_l15Reach.j2]
  repeat' with_reducible first | exact Lim.const _ | exact spec_l13Width.F_lim _ _ | exact spec_l15Reach.L0_lim _ _ _ _ _ _ | refine Lim.ite ?_ ?_ | refine Lim.bind ?_ (fun _ => ?_)
theorem spec_l15Reach.F_eq (l0 : List (S51)) (a1 a2 : Int) : spec_l15Reach.F l0 a1 a2 = (spec_l13Width.F l0 a1).bind fun bt244 => ((spec_l13Width.F l0 a2).bind fun bt247 => ((spec_l13Less.f bt244.1 bt244.2 bt247.1 bt247.2).bind fun t250 => (if t250 = true then (spec_l15Reach.J0 l0 a1 a2 bt247.1 bt247.2) else (spec_l15Reach.J0 l0 a1 a2 bt244.1 bt244.2)))) := by
  refine Lim.eq (g := fun k => spec_l15Reach.f k l0 a1 a2) ?_
  unfold spec_l15Reach.f
  repeat' with_reducible first | exact Lim.const _ | exact spec_l13Width.F_lim _ _ | exact spec_l15Reach.J0_lim _ _ _ _ _ | refine Lim.ite ?_ ?_ | refine Lim.bind ?_ (fun _ => ?_)

noncomputable def spec_l15Panels.L0 (x0 : List (S51)) (x5 : List Int) (x6 : List (S60)) (x7 x259000 x259001 x259002 : Int) : Option ((List (S60))) := lim (fun k => spec_l15Panels.l0 k x0 x5 x6 x7 x259000 x259001 x259002)
theorem spec_l15Panels.L0_lim (x0 : List (S51)) (x5 : List Int) (x6 : List (S60)) (x7 x259000 x259001 x259002 : Int) : Lim (fun k => spec_l15Panels.l0 k x0 x5 x6 x7 x259000 x259001 x259002) (spec_l15Panels.L0 x0 x5 x6 x7 x259000 x259001 x259002) := Lim.of (fun k => (spec_l15Panels.mono_l k) x0 x5 x6 x7 x259000 x259001 x259002)
noncomputable def spec_l15Panels.F (l0 : List (S51)) (a1_0 a1_1 a1_2 : Int) : Option ((List (S60))) := lim (fun k => spec_l15Panels.f k l0 a1_0 a1_1 a1_2)
theorem spec_l15Panels.F_lim (l0 : List (S51)) (a1_0 a1_1 a1_2 : Int) : Lim (fun k => spec_l15Panels.f k l0 a1_0 a1_1 a1_2) (spec_l15Panels.F l0 a1_0 a1_1 a1_2) := Lim.of (fun k => spec_l15Panels.mono l0 a1_0 a1_1 a1_2 k)
theorem spec_l15Panels.L0_eq (x0 : List (S51)) (x5 : List Int) (x6 : List (S60)) (x7 x259000 x259001 x259002 : Int) : spec_l15Panels.L0 x0 x5 x6 x7 x259000 x259001 x259002 = if x7 < (x5.length : Int) then (if 0 ≤ (wrap64 (x7 - 1)) then (if (wrap64 (x7 - 1)) < (x5.length : Int) then (if 0 ≤ x7 then ((spec_l15Reach.F x0 (rd x5 (wrap64 (x7 - 1))) (rd x5 x7)).bind fun t267 => ((spec_l00Min.f x259000 (wrap64 ((wrap64 ((rd x5 x7) - (rd x5 (wrap64 (x7 - 1))))) + x259001))).bind fun t271 => (if x6.length < 8796093022208 then (spec_l15Panels.L0 x0 x5 (x6 ++ [(⟨wrap64 (t267 + (wrap64 (2 * x259002))), t271⟩ : S60)]) (wrap64 (x7 + 1)) x259000 x259001 x259002) else (none)))) else (none)) else (none)) else (none)) else (some x6) := by
  refine Lim.next (fun k => (spec_l15Panels.mono_l k) x0 x5 x6 x7 x259000 x259001 x259002) ?_
  simp only [spec_l15Panels.l0]
  repeat' with_reducible first | exact Lim.const _ | exact spec_l15Panels.L0_lim _ _ _ _ _ _ _ | exact spec_l15Reach.F_lim _ _ _ | refine Lim.ite ?_ ?_ | refine Lim.bind ?_ (fun _ => ?_)
theorem spec_l15Panels.F_eq (l0 : List (S51)) (a1_0 a1_1 a1_2 : Int) : spec_l15Panels.F l0 a1_0 a1_1 a1_2 = (spec_l15Edges.F l0 a1_0 a1_1 a1_2).bind fun t259 => (spec_l15Panels.L0 l0 t259 (([] : List (S60))) 1 a1_0 a1_1 a1_2) := by
  refine Lim.eq (g := fun k => spec_l15Panels.f k l0 a1_0 a1_1 a1_2) ?_
  unfold spec_l15Panels.f
  repeat' with_reducible first | exact Lim.const _ | exact spec_l15Edges.F_lim _ _ _ _ | exact spec_l15Panels.L0_lim _ _ _ _ _ _ _ | refine Lim.ite ?_ ?_ | refine Lim.bind ?_ (fun _ => ?_)

noncomputable def spec_PanelsOf.F (l0 : List (S51)) (a1_0 a1_1 a1_2 : Int) : Option ((List (S60)) × Int) := lim (fun k => spec_PanelsOf.f k l0 a1_0 a1_1 a1_2)
theorem spec_PanelsOf.F_lim (l0 : List (S51)) (a1_0 a1_1 a1_2 : Int) : Lim (fun k => spec_PanelsOf.f k l0 a1_0 a1_1 a1_2) (spec_PanelsOf.F l0 a1_0 a1_1 a1_2) := Lim.of (fun k => spec_PanelsOf.mono l0 a1_0 a1_1 a1_2 k)
theorem spec_PanelsOf.F_eq (l0 : List (S51)) (a1_0 a1_1 a1_2 : Int) : spec_PanelsOf.F l0 a1_0 a1_1 a1_2 = (spec_l15Code.F l0 a1_0 a1_1 a1_2).bind fun t276 => (if t276 = 0 then ((spec_l15Panels.F l0 a1_0 a1_1 a1_2).bind fun t277 => (some (t277, 0))) else (some (([] : List (S60)), t276))) := by
  refine Lim.eq (g := fun k => spec_PanelsOf.f k l0 a1_0 a1_1 a1_2) ?_
  unfold spec_PanelsOf.f
  repeat' with_reducible first | exact Lim.const _ | exact spec_l15Code.F_lim _ _ _ _ | exact spec_l15Panels.F_lim _ _ _ _ | refine Lim.ite ?_ ?_ | refine Lim.bind ?_ (fun _ => ?_)

noncomputable def impl_heightsOf.L0 (x4 x5 : Int) (x16 : List (S51)) (x17 x18 : Int) : Option (Int × Int) := lim (fun k => impl_heightsOf.l0 k x4 x5 x16 x17 x18)
theorem impl_heightsOf.L0_lim (x4 x5 : Int) (x16 : List (S51)) (x17 x18 : Int) : Lim (fun k => impl_heightsOf.l0 k x4 x5 x16 x17 x18) (impl_heightsOf.L0 x4 x5 x16 x17 x18) := Lim.of (fun k => (impl_heightsOf.mono_l k) x4 x5 x16 x17 x18)
noncomputable def impl_heightsOf.F (l0 : List (S51)) : Option (Int × Int) := lim (fun k => impl_heightsOf.f k l0)
theorem impl_heightsOf.F_lim (l0 : List (S51)) : Lim (fun k => impl_heightsOf.f k l0) (impl_heightsOf.F l0) := Lim.of (fun k => impl_heightsOf.mono l0 k)
theorem impl_heightsOf.L0_eq (x4 x5 : Int) (x16 : List (S51)) (x17 x18 : Int) : impl_heightsOf.L0 x4 x5 x16 x17 x18 = if x18 < x17 then (if 0 ≤ x18 then (if x18 < (x16.length : Int) then (impl_heightsOf.L0 (mn x4 ((rd_T51 x16 x18).f1)) (mx x5 ((rd_T51 x16 x18).f1)) x16 x17 (wrap64 (x18 + 1))) else (none)) else (none)) else (some (x4, x5)) := by
  refine Lim.next (fun k => (impl_heightsOf.mono_l k) x4 x5 x16 x17 x18) ?_
  simp only [impl_heightsOf.l0]
  repeat' with_reducible first | exact Lim.const _ | exact impl_heightsOf.L0_lim _ _ _ _ _ | refine Lim.ite ?_ ?_ | refine Lim.bind ?_ (fun _ => ?_)
theorem impl_heightsOf.F_eq (l0 : List (S51)) : impl_heightsOf.F l0 = if 0 < (l0.length : Int) then (impl_heightsOf.L0 ((rd_T51 l0 0).f1) ((rd_T51 l0 0).f1) l0 (l0.length : Int) 0) else (none) := by
  refine Lim.eq (g := fun k => impl_heightsOf.f k l0) ?_
  unfold impl_heightsOf.f
  repeat' with_reducible first | exact Lim.const _ | exact impl_heightsOf.L0_lim _ _ _ _ _ | refine Lim.ite ?_ ?_ | refine Lim.bind ?_ (fun _ => ?_)

noncomputable def impl_panelEdges.L0 (x6 : Int) (x7 : List Int) (x8 x285000 x285001 x285002 : Int) : Option (List Int) := lim (fun k => impl_panelEdges.l0 k x6 x7 x8 x285000 x285001 x285002)
theorem impl_panelEdges.L0_lim (x6 : Int) (x7 : List Int) (x8 x285000 x285001 x285002 : Int) : Lim (fun k => impl_panelEdges.l0 k x6 x7 x8 x285000 x285001 x285002) (impl_panelEdges.L0 x6 x7 x8 x285000 x285001 x285002) := Lim.of (fun k => (impl_panelEdges.mono_l k) x6 x7 x8 x285000 x285001 x285002)
noncomputable def impl_panelEdges.F (l0 : List (S51)) (a1_0 a1_1 a1_2 : Int) : Option (List Int) := lim (fun k => impl_panelEdges.f k l0 a1_0 a1_1 a1_2)
theorem impl_panelEdges.F_lim (l0 : List (S51)) (a1_0 a1_1 a1_2 : Int) : Lim (fun k => impl_panelEdges.f k l0 a1_0 a1_1 a1_2) (impl_panelEdges.F l0 a1_0 a1_1 a1_2) := Lim.of (fun k => impl_panelEdges.mono l0 a1_0 a1_1 a1_2 k)
theorem impl_panelEdges.L0_eq (x6 : Int) (x7 : List Int) (x8 x285000 x285001 x285002 : Int) : impl_panelEdges.L0 x6 x7 x8 x285000 x285001 x285002 = if x8 < x6 then (if x7.length < 17592186044416 then (impl_panelEdges.L0 x6 (x7 ++ [x8]) (wrap64 (x8 + (wrap64 (x285000 - x285001)))) x285000 x285001 x285002) else (none)) else (if x7.length < 17592186044416 then (some (x7 ++ [x6])) else (none)) := by
  refine Lim.next (fun k => (impl_panelEdges.mono_l k) x6 x7 x8 x285000 x285001 x285002) ?_
  simp only [impl_panelEdges.l0]
  repeat' with_reducible first | exact Lim.const _ | exact impl_panelEdges.L0_lim _ _ _ _ _ _ | refine Lim.ite ?_ ?_ | refine Lim.bind ?_ (fun _ => ?_)
theorem impl_panelEdges.F_eq (l0 : List (S51)) (a1_0 a1_1 a1_2 : Int) : impl_panelEdges.F l0 a1_0 a1_1 a1_2 = (impl_heightsOf.F l0).bind fun bt285 => (impl_panelEdges.L0 bt285.2 (([] : List Int)) bt285.1 a1_0 a1_1 a1_2) := by
  refine Lim.eq (g := fun k => impl_panelEdges.f k l0 a1_0 a1_1 a1_2) ?_
  unfold impl_panelEdges.f
  repeat' with_reducible first | exact Lim.const _ | exact impl_heightsOf.F_lim _ | exact impl_panelEdges.L0_lim _ _ _ _ _ _ | refine Lim.ite ?_ ?_ | refine Lim.bind ?_ (fun _ => ?_)

noncomputable def impl_twiceSail.L0 (x0 : List (S51)) (x3 : Int) (x7 : List (S51)) (x8 x9 : Int) : Option (Int) := lim (fun k => impl_twiceSail.l0 k x0 x3 x7 x8 x9)
theorem impl_twiceSail.L0_lim (x0 : List (S51)) (x3 : Int) (x7 : List (S51)) (x8 x9 : Int) : Lim (fun k => impl_twiceSail.l0 k x0 x3 x7 x8 x9) (impl_twiceSail.L0 x0 x3 x7 x8 x9) := Lim.of (fun k => (impl_twiceSail.mono_l k) x0 x3 x7 x8 x9)
noncomputable def impl_twiceSail.F (l0 : List (S51)) : Option (Int) := lim (fun k => impl_twiceSail.f k l0)
theorem impl_twiceSail.F_lim (l0 : List (S51)) : Lim (fun k => impl_twiceSail.f k l0) (impl_twiceSail.F l0) := Lim.of (fun k => impl_twiceSail.mono l0 k)
theorem impl_twiceSail.L0_eq (x0 : List (S51)) (x3 : Int) (x7 : List (S51)) (x8 x9 : Int) : impl_twiceSail.L0 x0 x3 x7 x8 x9 = if x9 < x8 then (if 0 ≤ x9 then (if x9 < (x7.length : Int) then (if (x0.length : Int) = 0 then (none) else (if 0 ≤ (Int.tmod (wrap64 (x9 + 1)) (x0.length : Int)) then (if (Int.tmod (wrap64 (x9 + 1)) (x0.length : Int)) < (x0.length : Int) then (impl_twiceSail.L0 x0 (wrap64 (x3 + (wrap64 ((wrap64 (((rd_T51 x7 x9).f0) * ((rd_T51 x0 (Int.tmod (wrap64 (x9 + 1)) (x0.length : Int))).f1))) - (wrap64 (((rd_T51 x0 (Int.tmod (wrap64 (x9 + 1)) (x0.length : Int))).f0) * ((rd_T51 x7 x9).f1))))))) x7 x8 (wrap64 (x9 + 1))) else (none)) else (none))) else (none)) else (none)) else (some x3) := by
  refine Lim.next (fun k => (impl_twiceSail.mono_l k) x0 x3 x7 x8 x9) ?_
  simp only [impl_twiceSail.l0]
  repeat' with_reducible first | exact Lim.const _ | exact impl_twiceSail.L0_lim _ _ _ _ _ | refine Lim.ite ?_ ?_ | refine Lim.bind ?_ (fun _ => ?_)
theorem impl_twiceSail.F_eq (l0 : List (S51)) : impl_twiceSail.F l0 = impl_twiceSail.L0 l0 0 l0 (l0.length : Int) 0 := by
  refine Lim.eq (g := fun k => impl_twiceSail.f k l0) ?_
  unfold impl_twiceSail.f
  repeat' with_reducible first | exact Lim.const _ | exact impl_twiceSail.L0_lim _ _ _ _ _ | refine Lim.ite ?_ ?_ | refine Lim.bind ?_ (fun _ => ?_)

noncomputable def impl_edgesMeet.J0 (x9 x10 x11 x12 : Int) (x42 : Bool) (x309000 x309001 x310000 x310001 x311000 x311001 x312000 x312001 : Int) : Option (Bool) := lim (fun k => impl_edgesMeet.j0 k x9 x10 x11 x12 x42 x309000 x309001 x310000 x310001 x311000 x311001 x312000 x312001)
theorem impl_edgesMeet.J0_lim (x9 x10 x11 x12 : Int) (x42 : Bool) (x309000 x309001 x310000 x310001 x311000 x311001 x312000 x312001 : Int) : Lim (fun k => impl_edgesMeet.j0 k x9 x10 x11 x12 x42 x309000 x309001 x310000 x310001 x311000 x311001 x312000 x312001) (impl_edgesMeet.J0 x9 x10 x11 x12 x42 x309000 x309001 x310000 x310001 x311000 x311001 x312000 x312001) := Lim.of (fun k => (impl_edgesMeet.mono_l k) x9 x10 x11 x12 x42 x309000 x309001 x310000 x310001 x311000 x311001 x312000 x312001)
noncomputable def impl_edgesMeet.F (a0_0 a0_1 a1_0 a1_1 a2_0 a2_1 a3_0 a3_1 : Int) : Option (Bool) := lim (fun k => impl_edgesMeet.f k a0_0 a0_1 a1_0 a1_1 a2_0 a2_1 a3_0 a3_1)
theorem impl_edgesMeet.F_lim (a0_0 a0_1 a1_0 a1_1 a2_0 a2_1 a3_0 a3_1 : Int) : Lim (fun k => impl_edgesMeet.f k a0_0 a0_1 a1_0 a1_1 a2_0 a2_1 a3_0 a3_1) (impl_edgesMeet.F a0_0 a0_1 a1_0 a1_1 a2_0 a2_1 a3_0 a3_1) := Lim.of (fun k => impl_edgesMeet.mono a0_0 a0_1 a1_0 a1_1 a2_0 a2_1 a3_0 a3_1 k)
theorem impl_edgesMeet.J0_eq (x9 x10 x11 x12 : Int) (x42 : Bool) (x309000 x309001 x310000 x310001 x311000 x311001 x312000 x312001 : Int) : impl_edgesMeet.J0 x9 x10 x11 x12 x42 x309000 x309001 x310000 x310001 x311000 x311001 x312000 x312001 = if x42 = true then (some true) else (if x9 = 0 then ((impl_between.f x309000 x309001 x310000 x310001 x311000 x311001).bind fun t320 => (if t320 = true then (some true) else (if x10 = 0 then ((impl_between.f x309000 x309001 x310000 x310001 x312000 x312001).bind fun t321 => (if t321 = true then (some true) else (if x11 = 0 then ((impl_between.f x311000 x311001 x312000 x312001 x309000 x309001).bind fun t322 => (if t322 = true then (some true) else (if x12 = 0 then ((impl_between.f x311000 x311001 x312000 x312001 x310000 x310001).bind fun t323 => (some t323)) else (some false)))) else (if x12 = 0 then ((impl_between.f x311000 x311001 x312000 x312001 x310000 x310001).bind fun t324 => (some t324)) else (some false))))) else (if x11 = 0 then ((impl_between.f x311000 x311001 x312000 x312001 x309000 x309001).bind fun t325 => (if t325 = true then (some true) else (if x12 = 0 then ((impl_between.f x311000 x311001 x312000 x312001 x310000 x310001).bind fun t326 => (some t326)) else (some false)))) else (if x12 = 0 then ((impl_between.f x311000 x311001 x312000 x312001 x310000 x310001).bind fun t327 => (some t327)) else (some false)))))) else (if x10 = 0 then ((impl_between.f x309000 x309001 x310000 x310001 x312000 x312001).bind fun t328 => (if t328 = true then (some true) else (if x11 = 0 then ((impl_between.f x311000 x311001 x312000 x312001 x309000 x309001).bind fun t329 => (if t329 = true then (some true) else (if x12 = 0 then ((impl_between.f x311000 x311001 x312000 x312001 x310000 x310001).bind fun t330 => (some t330)) else (some false)))) else (if x12 = 0 then ((impl_between.f x311000 x311001 x312000 x312001 x310000 x310001).bind fun t331 => (some t331)) else (some false))))) else (if x11 = 0 then ((impl_between.f x311000 x311001 x312000 x312001 x309000 x309001).bind fun t332 => (if t332 = true then (some true) else (if x12 = 0 then ((impl_between.f x311000 x311001 x312000 x312001 x310000 x310001).bind fun t333 => (some t333)) else (some false)))) else (if x12 = 0 then ((impl_between.f x311000 x311001 x312000 x312001 x310000 x310001).bind fun t334 => (some t334)) else (some false))))) := by
  refine Lim.next (fun k => (impl_edgesMeet.mono_l k) x9 x10 x11 x12 x42 x309000 x309001 x310000 x310001 x311000 x311001 x312000 x312001) ?_
  simp only [impl_edgesMeet.j0]
  repeat' with_reducible first | exact Lim.const _ | refine Lim.ite ?_ ?_ | refine Lim.bind ?_ (fun _ => ?_)
theorem impl_edgesMeet.F_eq (a0_0 a0_1 a1_0 a1_1 a2_0 a2_1 a3_0 a3_1 : Int) : impl_edgesMeet.F a0_0 a0_1 a1_0 a1_1 a2_0 a2_1 a3_0 a3_1 = (impl_turnAt.f a0_0 a0_1 a1_0 a1_1 a2_0 a2_1).bind fun t312 => ((impl_turnAt.f a0_0 a0_1 a1_0 a1_1 a3_0 a3_1).bind fun t313 => ((impl_turnAt.f a2_0 a2_1 a3_0 a3_1 a0_0 a0_1).bind fun t314 => ((impl_turnAt.f a2_0 a2_1 a3_0 a3_1 a1_0 a1_1).bind fun t315 => ((impl_sign.f t312).bind fun t316 => ((impl_sign.f t313).bind fun t317 => (if (wrap64 (t316 * t317)) < 0 then ((impl_sign.f t314).bind fun t318 => ((impl_sign.f t315).bind fun t319 => (impl_edgesMeet.J0 t312 t313 t314 t315 (decide ((wrap64 (t318 * t319)) < 0)) a0_0 a0_1 a1_0 a1_1 a2_0 a2_1 a3_0 a3_1))) else (impl_edgesMeet.J0 t312 t313 t314 t315 false a0_0 a0_1 a1_0 a1_1 a2_0 a2_1 a3_0 a3_1))))))) := by
  refine Lim.eq (g := fun k => impl_edgesMeet.f k a0_0 a0_1 a1_0 a1_1 a2_0 a2_1 a3_0 a3_1) ?_
  unfold impl_edgesMeet.f
  repeat' with_reducible first | exact Lim.const _ | exact impl_edgesMeet.J0_lim _ _ _ _ _ _ _ _ _ _ _ _ _ | refine Lim.ite ?_ ?_ | refine Lim.bind ?_ (fun _ => ?_)

noncomputable def impl_ValidSail.J0 (x0 : List (S51)) (x3 : Int) (x16 : Bool) : Option (Bool) := lim (fun k => impl_ValidSail.j0 k x0 x3 x16)
theorem impl_ValidSail.J0_lim (x0 : List (S51)) (x3 : Int) (x16 : Bool) : Lim (fun k => impl_ValidSail.j0 k x0 x3 x16) (impl_ValidSail.J0 x0 x3 x16) := Lim.of (fun k => (impl_ValidSail.mono_l k).1 x0 x3 x16)
noncomputable def impl_ValidSail.L0 (x0 : List (S51)) (x3 : Int) (x17 : List (S51)) (x18 x19 : Int) : Option (Bool) := lim (fun k => impl_ValidSail.l0 k x0 x3 x17 x18 x19)
theorem impl_ValidSail.L0_lim (x0 : List (S51)) (x3 : Int) (x17 : List (S51)) (x18 x19 : Int) : Lim (fun k => impl_ValidSail.l0 k x0 x3 x17 x18 x19) (impl_ValidSail.L0 x0 x3 x17 x18 x19) := Lim.of (fun k => (impl_ValidSail.mono_l k).2.1 x0 x3 x17 x18 x19)
noncomputable def impl_ValidSail.L1 (x0 : List (S51)) (x3 x35 x36 : Int) : Option (Bool) := lim (fun k => impl_ValidSail.l1 k x0 x3 x35 x36)
theorem impl_ValidSail.L1_lim (x0 : List (S51)) (x3 x35 x36 : Int) : Lim (fun k => impl_ValidSail.l1 k x0 x3 x35 x36) (impl_ValidSail.L1 x0 x3 x35 x36) := Lim.of (fun k => (impl_ValidSail.mono_l k).2.2.1 x0 x3 x35 x36)
noncomputable def impl_ValidSail.L2 (x0 : List (S51)) (x3 x61 x62 : Int) : Option (Bool) := lim (fun k => impl_ValidSail.l2 k x0 x3 x61 x62)
theorem impl_ValidSail.L2_lim (x0 : List (S51)) (x3 x61 x62 : Int) : Lim (fun k => impl_ValidSail.l2 k x0 x3 x61 x62) (impl_ValidSail.L2 x0 x3 x61 x62) := Lim.of (fun k => (impl_ValidSail.mono_l k).2.2.2.1 x0 x3 x61 x62)
noncomputable def impl_ValidSail.L3 (x0 : List (S51)) (x3 x7 x8 x61 x62 : Int) : Option (Bool) := lim (fun k => impl_ValidSail.l3 k x0 x3 x7 x8 x61 x62)
theorem impl_ValidSail.L3_lim (x0 : List (S51)) (x3 x7 x8 x61 x62 : Int) : Lim (fun k => impl_ValidSail.l3 k x0 x3 x7 x8 x61 x62) (impl_ValidSail.L3 x0 x3 x7 x8 x61 x62) := Lim.of (fun k => (impl_ValidSail.mono_l k).2.2.2.2 x0 x3 x7 x8 x61 x62)
noncomputable def impl_ValidSail.F (l0 : List (S51)) : Option (Bool) := lim (fun k => impl_ValidSail.f k l0)
theorem impl_ValidSail.F_lim (l0 : List (S51)) : Lim (fun k => impl_ValidSail.f k l0) (impl_ValidSail.F l0) := Lim.of (fun k => impl_ValidSail.mono l0 k)
theorem impl_ValidSail.J0_eq (x0 : List (S51)) (x3 : Int) (x16 : Bool) : impl_ValidSail.J0 x0 x3 x16 = if x16 = true then (some false) else (impl_ValidSail.L0 x0 x3 x0 (x0.length : Int) 0) := by
  refine Lim.next (fun k => (impl_ValidSail.mono_l k).1 x0 x3 x16) ?_
  simp only [impl_ValidSail.j0]
  repeat' with_reducible first | exact Lim.const _ | exact impl_ValidSail.L0_lim _ _ _ _ _ | refine Lim.ite ?_ ?_ | refine Lim.bind ?_ (fun _ => ?_)
theorem impl_ValidSail.L0_eq (x0 : List (S51)) (x3 : Int) (x17 : List (S51)) (x18 x19 : Int) : impl_ValidSail.L0 x0 x3 x17 x18 x19 = if x19 < x18 then (if 0 ≤ x19 then (if x19 < (x17.length : Int) then ((impl_within.f ((rd_T51 x17 x19).f0) 0 2000).bind fun t337 => (if t337 = true then ((impl_within.f ((rd_T51 x17 x19).f1) 0 2000).bind fun t338 => (if t338 = true then (impl_ValidSail.L0 x0 x3 x17 x18 (wrap64 (x19 + 1))) else (some false))) else (some false))) else (none)) else (none)) else (impl_ValidSail.L1 x0 x3 (x0.length : Int) 0) := by
  refine Lim.next (fun k => (impl_ValidSail.mono_l k).2.1 x0 x3 x17 x18 x19) ?_
  simp only [impl_ValidSail.l0]
  repeat' with_reducible first | exact Lim.const _ | exact impl_ValidSail.L0_lim _ _ _ _ _ | exact impl_ValidSail.L1_lim _ _ _ _ | refine Lim.ite ?_ ?_ | refine Lim.bind ?_ (fun _ => ?_)
theorem impl_ValidSail.L1_eq (x0 : List (S51)) (x3 x35 x36 : Int) : impl_ValidSail.L1 x0 x3 x35 x36 = if x36 < x35 then (if 0 ≤ x36 then (if x36 < (x0.length : Int) then (if x3 = 0 then (none) else (if 0 ≤ (Int.tmod (wrap64 (x36 + 1)) x3) then (if (Int.tmod (wrap64 (x36 + 1)) x3) < (x0.length : Int) then (if 0 ≤ (Int.tmod (wrap64 (x36 + 2)) x3) then (if (Int.tmod (wrap64 (x36 + 2)) x3) < (x0.length : Int) then ((impl_turnAt.f ((rd_T51 x0 x36).f0) ((rd_T51 x0 x36).f1) ((rd_T51 x0 (Int.tmod (wrap64 (x36 + 1)) x3)).f0) ((rd_T51 x0 (Int.tmod (wrap64 (x36 + 1)) x3)).f1) ((rd_T51 x0 (Int.tmod (wrap64 (x36 + 2)) x3)).f0) ((rd_T51 x0 (Int.tmod (wrap64 (x36 + 2)) x3)).f1)).bind fun t342 => (if t342 = 0 then (some false) else (impl_ValidSail.L1 x0 x3 x35 (wrap64 (x36 + 1))))) else (none)) else (none)) else (none)) else (none))) else (none)) else (none)) else (impl_ValidSail.L2 x0 x3 (x0.length : Int) 0) := by
  refine Lim.next (fun k => (impl_ValidSail.mono_l k).2.2.1 x0 x3 x35 x36) ?_
  simp only [impl_ValidSail.l1]
  repeat' with_reducible first | exact Lim.const _ | exact impl_ValidSail.L1_lim _ _ _ _ | exact impl_ValidSail.L2_lim _ _ _ _ | refine Lim.ite ?_ ?_ | refine Lim.bind ?_ (fun _ => ?_)
theorem impl_ValidSail.L2_eq (x0 : List (S51)) (x3 x61 x62 : Int) : impl_ValidSail.L2 x0 x3 x61 x62 = if x62 < x61 then (impl_ValidSail.L3 x0 x3 x62 (wrap64 (x62 + 2)) x61 x62) else ((impl_twiceSail.F x0).bind fun t343 => (some (decide (t343 > 0)))) := by
  refine Lim.next (fun k => (impl_ValidSail.mono_l k).2.2.2.1 x0 x3 x61 x62) ?_
  simp only [impl_ValidSail.l2]
  repeat' with_reducible first | exact Lim.const _ | exact impl_ValidSail.L3_lim _ _ _ _ _ _ | exact impl_twiceSail.F_lim _ | refine Lim.ite ?_ ?_ | refine Lim.bind ?_ (fun _ => ?_)
theorem impl_ValidSail.L3_eq (x0 : List (S51)) (x3 x7 x8 x61 x62 : Int) : impl_ValidSail.L3 x0 x3 x7 x8 x61 x62 = if x8 < x3 then (if x3 = 0 then (none) else (if (Int.tmod (wrap64 (x8 + 1)) x3) = x7 then (impl_ValidSail.L3 x0 x3 x7 (wrap64 (x8 + 1)) x61 x62) else (if 0 ≤ x7 then (if x7 < (x0.length : Int) then (if 0 ≤ (wrap64 (x7 + 1)) then (if (wrap64 (x7 + 1)) < (x0.length : Int) then (if 0 ≤ x8 then (if x8 < (x0.length : Int) then (if 0 ≤ (Int.tmod (wrap64 (x8 + 1)) x3) then (if (Int.tmod (wrap64 (x8 + 1)) x3) < (x0.length : Int) then ((impl_edgesMeet.F ((rd_T51 x0 x7).f0) ((rd_T51 x0 x7).f1) ((rd_T51 x0 (wrap64 (x7 + 1))).f0) ((rd_T51 x0 (wrap64 (x7 + 1))).f1) ((rd_T51 x0 x8).f0) ((rd_T51 x0 x8).f1) ((rd_T51 x0 (Int.tmod (wrap64 (x8 + 1)) x3)).f0) ((rd_T51 x0 (Int.tmod (wrap64 (x8 + 1)) x3)).f1)).bind fun t348 => (if t348 = true then (some false) else (impl_ValidSail.L3 x0 x3 x7 (wrap64 (x8 + 1)) x61 x62))) else (none)) else (none)) else (none)) else (none)) else (none)) else (none)) else (none)) else (none)))) else (impl_ValidSail.L2 x0 x3 x61 (wrap64 (x62 + 1))) := by
  refine Lim.next (fun k => (impl_ValidSail.mono_l k).2.2.2.2 x0 x3 x7 x8 x61 x62) ?_
  simp only [impl_ValidSail.l3]
  repeat' with_reducible first | exact Lim.const _ | exact impl_ValidSail.L2_lim _ _ _ _ | exact impl_ValidSail.L3_lim _ _ _ _ _ _ | exact impl_edgesMeet.F_lim _ _ _ _ _ _ _ _ | refine Lim.ite ?_ ?_ | refine Lim.bind ?_ (fun _ => ?_)
theorem impl_ValidSail.F_eq (l0 : List (S51)) : impl_ValidSail.F l0 = if (l0.length : Int) < 3 then (impl_ValidSail.J0 l0 (l0.length : Int) true) else (impl_ValidSail.J0 l0 (l0.length : Int) (decide ((l0.length : Int) > 8))) := by
  refine Lim.eq (g := fun k => impl_ValidSail.f k l0) ?_
  unfold impl_ValidSail.f
  repeat' with_reducible first | exact Lim.const _ | exact impl_ValidSail.J0_lim _ _ _ | refine Lim.ite ?_ ?_ | refine Lim.bind ?_ (fun _ => ?_)

noncomputable def impl_isBulged.L0 (x0 : List (S51)) (x3 x8 x9 : Int) : Option (Bool) := lim (fun k => impl_isBulged.l0 k x0 x3 x8 x9)
theorem impl_isBulged.L0_lim (x0 : List (S51)) (x3 x8 x9 : Int) : Lim (fun k => impl_isBulged.l0 k x0 x3 x8 x9) (impl_isBulged.L0 x0 x3 x8 x9) := Lim.of (fun k => (impl_isBulged.mono_l k) x0 x3 x8 x9)
noncomputable def impl_isBulged.F (l0 : List (S51)) : Option (Bool) := lim (fun k => impl_isBulged.f k l0)
theorem impl_isBulged.F_lim (l0 : List (S51)) : Lim (fun k => impl_isBulged.f k l0) (impl_isBulged.F l0) := Lim.of (fun k => impl_isBulged.mono l0 k)
theorem impl_isBulged.L0_eq (x0 : List (S51)) (x3 x8 x9 : Int) : impl_isBulged.L0 x0 x3 x8 x9 = if x9 < x8 then (if 0 ≤ x9 then (if x9 < (x0.length : Int) then (if x3 = 0 then (none) else (if 0 ≤ (Int.tmod (wrap64 (x9 + 1)) x3) then (if (Int.tmod (wrap64 (x9 + 1)) x3) < (x0.length : Int) then (if 0 ≤ (Int.tmod (wrap64 (x9 + 2)) x3) then (if (Int.tmod (wrap64 (x9 + 2)) x3) < (x0.length : Int) then ((impl_turnAt.f ((rd_T51 x0 x9).f0) ((rd_T51 x0 x9).f1) ((rd_T51 x0 (Int.tmod (wrap64 (x9 + 1)) x3)).f0) ((rd_T51 x0 (Int.tmod (wrap64 (x9 + 1)) x3)).f1) ((rd_T51 x0 (Int.tmod (wrap64 (x9 + 2)) x3)).f0) ((rd_T51 x0 (Int.tmod (wrap64 (x9 + 2)) x3)).f1)).bind fun t356 => (if t356 < 0 then (some false) else (impl_isBulged.L0 x0 x3 x8 (wrap64 (x9 + 1))))) else (none)) else (none)) else (none)) else (none))) else (none)) else (none)) else (some true) := by
  refine Lim.next (fun k => (impl_isBulged.mono_l k) x0 x3 x8 x9) ?_
  simp only [impl_isBulged.l0]
  repeat' with_reducible first | exact Lim.const _ | exact impl_isBulged.L0_lim _ _ _ _ | refine Lim.ite ?_ ?_ | refine Lim.bind ?_ (fun _ => ?_)
theorem impl_isBulged.F_eq (l0 : List (S51)) : impl_isBulged.F l0 = impl_isBulged.L0 l0 (l0.length : Int) (l0.length : Int) 0 := by
  refine Lim.eq (g := fun k => impl_isBulged.f k l0) ?_
  unfold impl_isBulged.f
  repeat' with_reducible first | exact Lim.const _ | exact impl_isBulged.L0_lim _ _ _ _ | refine Lim.ite ?_ ?_ | refine Lim.bind ?_ (fun _ => ?_)

noncomputable def impl_weaveCode.J0 (x0 : List (S51)) (x5 : Bool) (x358000 x358001 x358002 : Int) : Option (Int) := lim (fun k => impl_weaveCode.j0 k x0 x5 x358000 x358001 x358002)
theorem impl_weaveCode.J0_lim (x0 : List (S51)) (x5 : Bool) (x358000 x358001 x358002 : Int) : Lim (fun k => impl_weaveCode.j0 k x0 x5 x358000 x358001 x358002) (impl_weaveCode.J0 x0 x5 x358000 x358001 x358002) := Lim.of (fun k => (impl_weaveCode.mono_l k) x0 x5 x358000 x358001 x358002)
noncomputable def impl_weaveCode.F (l0 : List (S51)) (a1_0 a1_1 a1_2 : Int) : Option (Int) := lim (fun k => impl_weaveCode.f k l0 a1_0 a1_1 a1_2)
theorem impl_weaveCode.F_lim (l0 : List (S51)) (a1_0 a1_1 a1_2 : Int) : Lim (fun k => impl_weaveCode.f k l0 a1_0 a1_1 a1_2) (impl_weaveCode.F l0 a1_0 a1_1 a1_2) := Lim.of (fun k => impl_weaveCode.mono l0 a1_0 a1_1 a1_2 k)
theorem impl_weaveCode.J0_eq (x0 : List (S51)) (x5 : Bool) (x358000 x358001 x358002 : Int) : impl_weaveCode.J0 x0 x5 x358000 x358001 x358002 = if x5 = true then (some 1) else ((impl_isBulged.F x0).bind fun t360 => (if t360 = true then ((impl_panelEdges.F x0 x358000 x358001 x358002).bind fun t361 => (if (t361.length : Int) > 41 then (some 5) else (some 0))) else (some 6))) := by
  refine Lim.next (fun k => (impl_weaveCode.mono_l k) x0 x5 x358000 x358001 x358002) ?_
  simp only [impl_weaveCode.j0]
  repeat' with_reducible first | exact Lim.const _ | exact impl_isBulged.F_lim _ | exact impl_panelEdges.F_lim _ _ _ _ | refine Lim.ite ?_ ?_ | refine Lim.bind ?_ (fun _ => ?_)
theorem impl_weaveCode.F_eq (l0 : List (S51)) (a1_0 a1_1 a1_2 : Int) : impl_weaveCode.F l0 a1_0 a1_1 a1_2 = (impl_ValidSail.F l0).bind fun t358 => (if t358 = true then ((impl_ValidWeave.f a1_0 a1_1 a1_2).bind fun t359 => (impl_weaveCode.J0 l0 (!t359) a1_0 a1_1 a1_2)) else (impl_weaveCode.J0 l0 true a1_0 a1_1 a1_2)) := by
  refine Lim.eq (g := fun k => impl_weaveCode.f k l0 a1_0 a1_1 a1_2) ?_
  unfold impl_weaveCode.f
  repeat' with_reducible first | exact Lim.const _ | exact impl_ValidSail.F_lim _ | exact impl_weaveCode.J0_lim _ _ _ _ _ | refine Lim.ite ?_ ?_ | refine Lim.bind ?_ (fun _ => ?_)

noncomputable def impl_gcd.J0 (x0 x1 : Int) : Option (Int) := lim (fun k => impl_gcd.j0 k x0 x1)
theorem impl_gcd.J0_lim (x0 x1 : Int) : Lim (fun k => impl_gcd.j0 k x0 x1) (impl_gcd.J0 x0 x1) := Lim.of (fun k => (impl_gcd.mono_l k).1 x0 x1)
noncomputable def impl_gcd.L0 (x0 x1 : Int) : Option (Int) := lim (fun k => impl_gcd.l0 k x0 x1)
theorem impl_gcd.L0_lim (x0 x1 : Int) : Lim (fun k => impl_gcd.l0 k x0 x1) (impl_gcd.L0 x0 x1) := Lim.of (fun k => (impl_gcd.mono_l k).2 x0 x1)
noncomputable def impl_gcd.F (a0 a1 : Int) : Option (Int) := lim (fun k => impl_gcd.f k a0 a1)
theorem impl_gcd.F_lim (a0 a1 : Int) : Lim (fun k => impl_gcd.f k a0 a1) (impl_gcd.F a0 a1) := Lim.of (fun k => impl_gcd.mono a0 a1 k)
theorem impl_gcd.J0_eq (x0 x1 : Int) : impl_gcd.J0 x0 x1 = impl_gcd.L0 x0 x1 := by
  refine Lim.next (fun k => (impl_gcd.mono_l k).1 x0 x1) ?_
  simp only [impl_gcd.j0]
  repeat' with_reducible first | exact Lim.const _ | exact impl_gcd.L0_lim _ _ | refine Lim.ite ?_ ?_ | refine Lim.bind ?_ (fun _ => ?_)
theorem impl_gcd.L0_eq (x0 x1 : Int) : impl_gcd.L0 x0 x1 = if x1 = 0 then (some x0) else (impl_gcd.L0 x1 (Int.tmod x0 x1)) := by
  refine Lim.next (fun k => (impl_gcd.mono_l k).2 x0 x1) ?_
  simp only [impl_gcd.l0]
  repeat' with_reducible first | exact Lim.const _ | exact impl_gcd.L0_lim _ _ | refine Lim.ite ?_ ?_ | refine Lim.bind ?_ (fun _ => ?_)
theorem impl_gcd.F_eq (a0 a1 : Int) : impl_gcd.F a0 a1 = if a0 < 0 then (impl_gcd.J0 (wrap64 (-a0)) a1) else (impl_gcd.J0 a0 a1) := by
  refine Lim.eq (g := fun k => impl_gcd.f k a0 a1) ?_
  unfold impl_gcd.f
  repeat' with_reducible first | exact Lim.const _ | exact impl_gcd.J0_lim _ _ | refine Lim.ite ?_ ?_ | refine Lim.bind ?_ (fun _ => ?_)

noncomputable def impl_fraction.F (a0 a1 : Int) : Option (Int × Int) := lim (fun k => impl_fraction.f k a0 a1)
theorem impl_fraction.F_lim (a0 a1 : Int) : Lim (fun k => impl_fraction.f k a0 a1) (impl_fraction.F a0 a1) := Lim.of (fun k => impl_fraction.mono a0 a1 k)
theorem impl_fraction.F_eq (a0 a1 : Int) : impl_fraction.F a0 a1 = if a1 < 0 then ((impl_gcd.F (wrap64 (-a0)) (wrap64 (-a1))).bind fun t365 => (if t365 = 0 then (none) else (some (wrap64 (Int.tdiv (wrap64 (-a0)) t365), wrap64 (Int.tdiv (wrap64 (-a1)) t365))))) else ((impl_gcd.F a0 a1).bind fun t366 => (if t366 = 0 then (none) else (some (wrap64 (Int.tdiv a0 t366), wrap64 (Int.tdiv a1 t366))))) := by
  refine Lim.eq (g := fun k => impl_fraction.f k a0 a1) ?_
  unfold impl_fraction.f
  repeat' with_reducible first | exact Lim.const _ | exact impl_gcd.F_lim _ _ | refine Lim.ite ?_ ?_ | refine Lim.bind ?_ (fun _ => ?_)

noncomputable def cmp_Or_int.L0 (x3 : Int) (x6 : List Int) (x7 x8 : Int) : Option (Int) := lim (fun k => cmp_Or_int.l0 k x3 x6 x7 x8)
theorem cmp_Or_int.L0_lim (x3 : Int) (x6 : List Int) (x7 x8 : Int) : Lim (fun k => cmp_Or_int.l0 k x3 x6 x7 x8) (cmp_Or_int.L0 x3 x6 x7 x8) := Lim.of (fun k => (cmp_Or_int.mono_l k) x3 x6 x7 x8)
noncomputable def cmp_Or_int.F (l0 : List Int) : Option (Int) := lim (fun k => cmp_Or_int.f k l0)
theorem cmp_Or_int.F_lim (l0 : List Int) : Lim (fun k => cmp_Or_int.f k l0) (cmp_Or_int.F l0) := Lim.of (fun k => cmp_Or_int.mono l0 k)
theorem cmp_Or_int.L0_eq (x3 : Int) (x6 : List Int) (x7 x8 : Int) : cmp_Or_int.L0 x3 x6 x7 x8 = if x8 < x7 then (if 0 ≤ x8 then (if x8 < (x6.length : Int) then (if (rd x6 x8) = x3 then (cmp_Or_int.L0 x3 x6 x7 (wrap64 (x8 + 1))) else (some (rd x6 x8))) else (none)) else (none)) else (some x3) := by
  refine Lim.next (fun k => (cmp_Or_int.mono_l k) x3 x6 x7 x8) ?_
  simp only [cmp_Or_int.l0]
  repeat' with_reducible first | exact Lim.const _ | exact cmp_Or_int.L0_lim _ _ _ _ | refine Lim.ite ?_ ?_ | refine Lim.bind ?_ (fun _ => ?_)
theorem cmp_Or_int.F_eq (l0 : List Int) : cmp_Or_int.F l0 = cmp_Or_int.L0 0 l0 (l0.length : Int) 0 := by
  refine Lim.eq (g := fun k => cmp_Or_int.f k l0) ?_
  unfold cmp_Or_int.f
  repeat' with_reducible first | exact Lim.const _ | exact cmp_Or_int.L0_lim _ _ _ _ | refine Lim.ite ?_ ?_ | refine Lim.bind ?_ (fun _ => ?_)

noncomputable def impl_compareProducts.F (a0 a1 a2 a3 : Int) : Option (Int) := lim (fun k => impl_compareProducts.f k a0 a1 a2 a3)
theorem impl_compareProducts.F_lim (a0 a1 a2 a3 : Int) : Lim (fun k => impl_compareProducts.f k a0 a1 a2 a3) (impl_compareProducts.F a0 a1 a2 a3) := Lim.of (fun k => impl_compareProducts.mono a0 a1 a2 a3 k)
theorem impl_compareProducts.F_eq (a0 a1 a2 a3 : Int) : impl_compareProducts.F a0 a1 a2 a3 = (bits_Mul64.f a0 a1).bind fun bt372 => ((bits_Mul64.f a2 a3).bind fun bt374 => ((cmp_Compare_uint64.f bt372.1 bt374.1).bind fun t376 => ((cmp_Compare_uint64.f bt372.2 bt374.2).bind fun t377 => ((cmp_Or_int.F (([t376, t377] : List Int))).bind fun t381 => (some t381))))) := by
  refine Lim.eq (g := fun k => impl_compareProducts.f k a0 a1 a2 a3) ?_
  unfold impl_compareProducts.f
  repeat' with_reducible first | exact Lim.const _ | exact cmp_Or_int.F_lim _ | refine Lim.ite ?_ ?_ | refine Lim.bind ?_ (fun _ => ?_)

noncomputable def impl_compareFractions.F (a0_0 a0_1 a1_0 a1_1 : Int) : Option (Int) := lim (fun k => impl_compareFractions.f k a0_0 a0_1 a1_0 a1_1)
theorem impl_compareFractions.F_lim (a0_0 a0_1 a1_0 a1_1 : Int) : Lim (fun k => impl_compareFractions.f k a0_0 a0_1 a1_0 a1_1) (impl_compareFractions.F a0_0 a0_1 a1_0 a1_1) := Lim.of (fun k => impl_compareFractions.mono a0_0 a0_1 a1_0 a1_1 k)
theorem impl_compareFractions.F_eq (a0_0 a0_1 a1_0 a1_1 : Int) : impl_compareFractions.F a0_0 a0_1 a1_0 a1_1 = (impl_sign.f a0_0).bind fun t384 => ((impl_sign.f a1_0).bind fun t385 => ((cmp_Compare_int64.f t384 t385).bind fun t386 => ((impl_sign.f a0_0).bind fun t387 => ((impl_size.f a0_0).bind fun t388 => ((impl_size.f a1_1).bind fun t389 => ((impl_size.f a1_0).bind fun t390 => ((impl_size.f a0_1).bind fun t391 => ((impl_compareProducts.F t388 t389 t390 t391).bind fun t392 => ((cmp_Or_int.F (([t386, wrap64 (t387 * t392)] : List Int))).bind fun t396 => (some t396)))))))))) := by
  refine Lim.eq (g := fun k => impl_compareFractions.f k a0_0 a0_1 a1_0 a1_1) ?_
  unfold impl_compareFractions.f
  repeat' with_reducible first | exact Lim.const _ | exact cmp_Or_int.F_lim _ | exact impl_compareProducts.F_lim _ _ _ _ | refine Lim.ite ?_ ?_ | refine Lim.bind ?_ (fun _ => ?_)

noncomputable def impl_addFractions.F (a0_0 a0_1 a1_0 a1_1 : Int) : Option (Int × Int) := lim (fun k => impl_addFractions.f k a0_0 a0_1 a1_0 a1_1)
theorem impl_addFractions.F_lim (a0_0 a0_1 a1_0 a1_1 : Int) : Lim (fun k => impl_addFractions.f k a0_0 a0_1 a1_0 a1_1) (impl_addFractions.F a0_0 a0_1 a1_0 a1_1) := Lim.of (fun k => impl_addFractions.mono a0_0 a0_1 a1_0 a1_1 k)
theorem impl_addFractions.F_eq (a0_0 a0_1 a1_0 a1_1 : Int) : impl_addFractions.F a0_0 a0_1 a1_0 a1_1 = (impl_gcd.F a0_1 a1_1).bind fun t400 => (if t400 = 0 then (none) else ((impl_fraction.F (wrap64 ((wrap64 (a0_0 * (wrap64 (Int.tdiv a1_1 t400)))) + (wrap64 (a1_0 * (wrap64 (Int.tdiv a0_1 t400)))))) (wrap64 ((wrap64 (Int.tdiv a0_1 t400)) * a1_1))).bind fun bt401 => (some (bt401.1, bt401.2)))) := by
  refine Lim.eq (g := fun k => impl_addFractions.f k a0_0 a0_1 a1_0 a1_1) ?_
  unfold impl_addFractions.f
  repeat' with_reducible first | exact Lim.const _ | exact impl_fraction.F_lim _ _ | exact impl_gcd.F_lim _ _ | refine Lim.ite ?_ ?_ | refine Lim.bind ?_ (fun _ => ?_)

noncomputable def impl_widthAt.L0 (x0 : List (S51)) (x1 : Int) (x5 : List (S67)) (x12 : List (S51)) (x13 x14 : Int) : Option (Int × Int) := lim (fun k => impl_widthAt.l0 k x0 x1 x5 x12 x13 x14)
theorem impl_widthAt.L0_lim (x0 : List (S51)) (x1 : Int) (x5 : List (S67)) (x12 : List (S51)) (x13 x14 : Int) : Lim (fun k => impl_widthAt.l0 k x0 x1 x5 x12 x13 x14) (impl_widthAt.L0 x0 x1 x5 x12 x13 x14) := Lim.of (fun k => (impl_widthAt.mono_l k).1 x0 x1 x5 x12 x13 x14)
noncomputable def impl_widthAt.J1 (x0 : List (S51)) (x1 : Int) (x5 : List (S67)) (x12 : List (S51)) (x13 x14 x417000 x417001 x419000 x419001 : Int) : Option (Int × Int) := lim (fun k => impl_widthAt.j1 k x0 x1 x5 x12 x13 x14 x417000 x417001 x419000 x419001)
theorem impl_widthAt.J1_lim (x0 : List (S51)) (x1 : Int) (x5 : List (S67)) (x12 : List (S51)) (x13 x14 x417000 x417001 x419000 x419001 : Int) : Lim (fun k => impl_widthAt.j1 k x0 x1 x5 x12 x13 x14 x417000 x417001 x419000 x419001) (impl_widthAt.J1 x0 x1 x5 x12 x13 x14 x417000 x417001 x419000 x419001) := Lim.of (fun k => (impl_widthAt.mono_l k).2.1 x0 x1 x5 x12 x13 x14 x417000 x417001 x419000 x419001)
noncomputable def impl_widthAt.J2 (x0 : List (S51)) (x1 : Int) (x5 : List (S67)) (x12 : List (S51)) (x13 x14 : Int) (x57 : Bool) (x417000 x417001 x419000 x419001 : Int) : Option (Int × Int) := lim (fun k => impl_widthAt.j2 k x0 x1 x5 x12 x13 x14 x57 x417000 x417001 x419000 x419001)
theorem impl_widthAt.J2_lim (x0 : List (S51)) (x1 : Int) (x5 : List (S67)) (x12 : List (S51)) (x13 x14 : Int) (x57 : Bool) (x417000 x417001 x419000 x419001 : Int) : Lim (fun k => impl_widthAt.j2 k x0 x1 x5 x12 x13 x14 x57 x417000 x417001 x419000 x419001) (impl_widthAt.J2 x0 x1 x5 x12 x13 x14 x57 x417000 x417001 x419000 x419001) := Lim.of (fun k => (impl_widthAt.mono_l k).2.2 x0 x1 x5 x12 x13 x14 x57 x417000 x417001 x419000 x419001)
noncomputable def impl_widthAt.F (l0 : List (S51)) (a1 : Int) : Option (Int × Int) := lim (fun k => impl_widthAt.f k l0 a1)
theorem impl_widthAt.F_lim (l0 : List (S51)) (a1 : Int) : Lim (fun k => impl_widthAt.f k l0 a1) (impl_widthAt.F l0 a1) := Lim.of (fun k => impl_widthAt.mono l0 a1 k)
theorem impl_widthAt.L0_eq (x0 : List (S51)) (x1 : Int) (x5 : List (S67)) (x12 : List (S51)) (x13 x14 : Int) : impl_widthAt.L0 x0 x1 x5 x12 x13 x14 = if x14 < x13 then (if 0 ≤ x14 then (if x14 < (x12.length : Int) then (if (x0.length : Int) = 0 then (none) else (if 0 ≤ (Int.tmod (wrap64 (x14 + 1)) (x0.length : Int)) then (if (Int.tmod (wrap64 (x14 + 1)) (x0.length : Int)) < (x0.length : Int) then (if ((rd_T51 x12 x14).f1) = x1 then ((impl_fraction.F ((rd_T51 x12 x14).f0) 1).bind fun bt419 => (if x5.length < 8796093022208 then (impl_widthAt.J1 x0 x1 (x5 ++ [(⟨bt419.1, bt419.2⟩ : S67)]) x12 x13 x14 ((rd_T51 x12 x14).f0) ((rd_T51 x12 x14).f1) ((rd_T51 x0 (Int.tmod (wrap64 (x14 + 1)) (x0.length : Int))).f0) ((rd_T51 x0 (Int.tmod (wrap64 (x14 + 1)) (x0.length : Int))).f1)) else (none))) else (impl_widthAt.J1 x0 x1 x5 x12 x13 x14 ((rd_T51 x12 x14).f0) ((rd_T51 x12 x14).f1) ((rd_T51 x0 (Int.tmod (wrap64 (x14 + 1)) (x0.length : Int))).f0) ((rd_T51 x0 (Int.tmod (wrap64 (x14 + 1)) (x0.length : Int))).f1))) else (none)) else (none))) else (none)) else (none)) else ((impl_Fraction_67.f x5).bind fun bt407 => ((impl_Fraction_68.f x5).bind fun bt410 => ((impl_addFractions.F bt410.1 bt410.2 (wrap64 (-bt407.1)) bt407.2).bind fun bt413 => (some (bt413.1, bt413.2))))) := by
  refine Lim.next (fun k => (impl_widthAt.mono_l k).1 x0 x1 x5 x12 x13 x14) ?_
  simp only [impl_widthAt.l0]
  repeat' with_reducible first | exact Lim.const _ | exact impl_addFractions.F_lim _ _ _ _ | exact impl_fraction.F_lim _ _ | exact impl_widthAt.J1_lim _ _ _ _ _ _ _ _ _ _ | refine Lim.ite ?_ ?_ | refine Lim.bind ?_ (fun _ => ?_)
theorem impl_widthAt.J1_eq (x0 : List (S51)) (x1 : Int) (x5 : List (S67)) (x12 : List (S51)) (x13 x14 x417000 x417001 x419000 x419001 : Int) : impl_widthAt.J1 x0 x1 x5 x12 x13 x14 x417000 x417001 x419000 x419001 = if ((decide (x417001 < x1)) != (decide (x419001 < x1))) = true then (if x417001 = x1 then (impl_widthAt.J2 x0 x1 x5 x12 x13 x14 false x417000 x417001 x419000 x419001) else (impl_widthAt.J2 x0 x1 x5 x12 x13 x14 (x419001 != x1) x417000 x417001 x419000 x419001)) else (impl_widthAt.J2 x0 x1 x5 x12 x13 x14 false x417000 x417001 x419000 x419001) := by
  refine Lim.next (fun k => (impl_widthAt.mono_l k).2.1 x0 x1 x5 x12 x13 x14 x417000 x417001 x419000 x419001) ?_
  simp only [impl_widthAt.j1]
  repeat' with_reducible first | exact Lim.const _ | exact impl_widthAt.J2_lim _ _ _ _ _ _ _ _ _ _ _ | refine Lim.ite ?_ ?_ | refine Lim.bind ?_ (fun _ => ?_)
theorem impl_widthAt.J2_eq (x0 : List (S51)) (x1 : Int) (x5 : List (S67)) (x12 : List (S51)) (x13 x14 : Int) (x57 : Bool) (x417000 x417001 x419000 x419001 : Int) : impl_widthAt.J2 x0 x1 x5 x12 x13 x14 x57 x417000 x417001 x419000 x419001 = if x57 = true then ((impl_fraction.F x417000 1).bind fun bt424 => ((impl_fraction.F (wrap64 ((wrap64 (x419000 - x417000)) * (wrap64 (x1 - x417001)))) (wrap64 (x419001 - x417001))).bind fun bt426 => ((impl_addFractions.F bt424.1 bt424.2 bt426.1 bt426.2).bind fun bt428 => (if x5.length < 8796093022208 then (impl_widthAt.L0 x0 x1 (x5 ++ [(⟨bt428.1, bt428.2⟩ : S67)]) x12 x13 (wrap64 (x14 + 1))) else (none))))) else (impl_widthAt.L0 x0 x1 x5 x12 x13 (wrap64 (x14 + 1))) := by
  refine Lim.next (fun k => (impl_widthAt.mono_l k).2.2 x0 x1 x5 x12 x13 x14 x57 x417000 x417001 x419000 x419001) ?_
  simp only [impl_widthAt.j2]
  repeat' with_reducible first | exact Lim.const _ | exact impl_addFractions.F_lim _ _ _ _ | exact impl_fraction.F_lim _ _ | exact impl_widthAt.L0_lim _ _ _ _ _ _ | refine Lim.ite ?_ ?_ | refine Lim.bind ?_ (fun _ => ?_)
theorem impl_widthAt.F_eq (l0 : List (S51)) (a1 : Int) : impl_widthAt.F l0 a1 = impl_widthAt.L0 l0 a1 (([] : List (S67))) l0 (l0.length : Int) 0 := by
  refine Lim.eq (g := fun k => impl_widthAt.f k l0 a1) ?_
  unfold impl_widthAt.f
  repeat' with_reducible first | exact Lim.const _ | exact impl_widthAt.L0_lim _ _ _ _ _ _ | refine Lim.ite ?_ ?_ | refine Lim.bind ?_ (fun _ => ?_)

noncomputable def impl_panelsOf.L0 (x0 : List (S51)) (x5 : List (S60)) (x6 : List Int) (x7 x434000 x434001 x434002 : Int) : Option ((List (S60))) := lim (fun k => impl_panelsOf.l0 k x0 x5 x6 x7 x434000 x434001 x434002)
theorem impl_panelsOf.L0_lim (x0 : List (S51)) (x5 : List (S60)) (x6 : List Int) (x7 x434000 x434001 x434002 : Int) : Lim (fun k => impl_panelsOf.l0 k x0 x5 x6 x7 x434000 x434001 x434002) (impl_panelsOf.L0 x0 x5 x6 x7 x434000 x434001 x434002) := Lim.of (fun k => (impl_panelsOf.mono_l k).1 x0 x5 x6 x7 x434000 x434001 x434002)
noncomputable def impl_panelsOf.L1 (x0 : List (S51)) (x5 : List (S60)) (x6 : List Int) (x7 x8 x9 : Int) (x10 : List Int) (x40 : List (S51)) (x41 x42 x434000 x434001 x434002 : Int) : Option ((List (S60))) := lim (fun k => impl_panelsOf.l1 k x0 x5 x6 x7 x8 x9 x10 x40 x41 x42 x434000 x434001 x434002)
theorem impl_panelsOf.L1_lim (x0 : List (S51)) (x5 : List (S60)) (x6 : List Int) (x7 x8 x9 : Int) (x10 : List Int) (x40 : List (S51)) (x41 x42 x434000 x434001 x434002 : Int) : Lim (fun k => impl_panelsOf.l1 k x0 x5 x6 x7 x8 x9 x10 x40 x41 x42 x434000 x434001 x434002) (impl_panelsOf.L1 x0 x5 x6 x7 x8 x9 x10 x40 x41 x42 x434000 x434001 x434002) := Lim.of (fun k => (impl_panelsOf.mono_l k).2.1 x0 x5 x6 x7 x8 x9 x10 x40 x41 x42 x434000 x434001 x434002)
noncomputable def impl_panelsOf.L2 (x0 : List (S51)) (x5 : List (S60)) (x6 : List Int) (x7 x8 x9 : Int) (x58 : List Int) (x59 x60 x434000 x434001 x434002 x454000 x454001 : Int) : Option ((List (S60))) := lim (fun k => impl_panelsOf.l2 k x0 x5 x6 x7 x8 x9 x58 x59 x60 x434000 x434001 x434002 x454000 x454001)
theorem impl_panelsOf.L2_lim (x0 : List (S51)) (x5 : List (S60)) (x6 : List Int) (x7 x8 x9 : Int) (x58 : List Int) (x59 x60 x434000 x434001 x434002 x454000 x454001 : Int) : Lim (fun k => impl_panelsOf.l2 k x0 x5 x6 x7 x8 x9 x58 x59 x60 x434000 x434001 x434002 x454000 x454001) (impl_panelsOf.L2 x0 x5 x6 x7 x8 x9 x58 x59 x60 x434000 x434001 x434002 x454000 x454001) := Lim.of (fun k => (impl_panelsOf.mono_l k).2.2 x0 x5 x6 x7 x8 x9 x58 x59 x60 x434000 x434001 x434002 x454000 x454001)
noncomputable def impl_panelsOf.F (l0 : List (S51)) (a1_0 a1_1 a1_2 : Int) : Option ((List (S60))) := lim (fun k => impl_panelsOf.f k l0 a1_0 a1_1 a1_2)
theorem impl_panelsOf.F_lim (l0 : List (S51)) (a1_0 a1_1 a1_2 : Int) : Lim (fun k => impl_panelsOf.f k l0 a1_0 a1_1 a1_2) (impl_panelsOf.F l0 a1_0 a1_1 a1_2) := Lim.of (fun k => impl_panelsOf.mono l0 a1_0 a1_1 a1_2 k)
theorem impl_panelsOf.L0_eq (x0 : List (S51)) (x5 : List (S60)) (x6 : List Int) (x7 x434000 x434001 x434002 : Int) : impl_panelsOf.L0 x0 x5 x6 x7 x434000 x434001 x434002 = if x7 < (x6.length : Int) then (if 0 ≤ (wrap64 (x7 - 1)) then (if (wrap64 (x7 - 1)) < (x6.length : Int) then (if 0 ≤ x7 then (impl_panelsOf.L1 x0 x5 x6 x7 (rd x6 (wrap64 (x7 - 1))) (rd x6 x7) (([rd x6 (wrap64 (x7 - 1)), rd x6 x7] : List Int)) x0 (x0.length : Int) 0 x434000 x434001 x434002) else (none)) else (none)) else (none)) else (some x5) := by
  refine Lim.next (fun k => (impl_panelsOf.mono_l k).1 x0 x5 x6 x7 x434000 x434001 x434002) ?_
  simp only [impl_panelsOf.l0]
  repeat' with_reducible first | exact Lim.const _ | exact impl_panelsOf.L1_lim _ _ _ _ _ _ _ _ _ _ _ _ _ | refine Lim.ite ?_ ?_ | refine Lim.bind ?_ (fun _ => ?_)
theorem impl_panelsOf.L1_eq (x0 : List (S51)) (x5 : List (S60)) (x6 : List Int) (x7 x8 x9 : Int) (x10 : List Int) (x40 : List (S51)) (x41 x42 x434000 x434001 x434002 : Int) : impl_panelsOf.L1 x0 x5 x6 x7 x8 x9 x10 x40 x41 x42 x434000 x434001 x434002 = if x42 < x41 then (if 0 ≤ x42 then (if x42 < (x40.length : Int) then ((impl_within.f ((rd_T51 x40 x42).f1) x8 x9).bind fun t447 => (if t447 = true then (if x10.length < 17592186044416 then (impl_panelsOf.L1 x0 x5 x6 x7 x8 x9 (x10 ++ [(rd_T51 x40 x42).f1]) x40 x41 (wrap64 (x42 + 1)) x434000 x434001 x434002) else (none)) else (impl_panelsOf.L1 x0 x5 x6 x7 x8 x9 x10 x40 x41 (wrap64 (x42 + 1)) x434000 x434001 x434002))) else (none)) else (none)) else ((impl_fraction.F 0 1).bind fun bt451 => (impl_panelsOf.L2 x0 x5 x6 x7 x8 x9 x10 (x10.length : Int) 0 x434000 x434001 x434002 bt451.1 bt451.2)) := by
  refine Lim.next (fun k => (impl_panelsOf.mono_l k).2.1 x0 x5 x6 x7 x8 x9 x10 x40 x41 x42 x434000 x434001 x434002) ?_
  simp only [impl_panelsOf.l1]
  repeat' with_reducible first | exact Lim.const _ | exact impl_fraction.F_lim _ _ | exact impl_panelsOf.L1_lim _ _ _ _ _ _ _ _ _ _ _ _ _ | exact impl_panelsOf.L2_lim _ _ _ _ _ _ _ _ _ _ _ _ _ _ | refine Lim.ite ?_ ?_ | refine Lim.bind ?_ (fun _ => ?_)
theorem impl_panelsOf.L2_eq (x0 : List (S51)) (x5 : List (S60)) (x6 : List Int) (x7 x8 x9 : Int) (x58 : List Int) (x59 x60 x434000 x434001 x434002 x454000 x454001 : Int) : impl_panelsOf.L2 x0 x5 x6 x7 x8 x9 x58 x59 x60 x434000 x434001 x434002 x454000 x454001 = if x60 < x59 then (if 0 ≤ x60 then (if x60 < (x58.length : Int) then ((impl_widthAt.F x0 (rd x58 x60)).bind fun bt459 => ((impl_compareFractions.F bt459.1 bt459.2 x454000 x454001).bind fun t462 => (if t462 > 0 then (impl_panelsOf.L2 x0 x5 x6 x7 x8 x9 x58 x59 (wrap64 (x60 + 1)) x434000 x434001 x434002 bt459.1 bt459.2) else (impl_panelsOf.L2 x0 x5 x6 x7 x8 x9 x58 x59 (wrap64 (x60 + 1)) x434000 x434001 x434002 x454000 x454001)))) else (none)) else (none)) else ((impl_ceilDiv.f x454000 x454001).bind fun t454 => (if x5.length < 8796093022208 then (impl_panelsOf.L0 x0 (x5 ++ [(⟨wrap64 (t454 + (wrap64 (2 * x434002))), mn x434000 (wrap64 ((wrap64 (x9 - x8)) + x434001))⟩ : S60)]) x6 (wrap64 (x7 + 1)) x434000 x434001 x434002) else (none))) := by
  refine Lim.next (fun k => (impl_panelsOf.mono_l k).2.2 x0 x5 x6 x7 x8 x9 x58 x59 x60 x434000 x434001 x434002 x454000 x454001) ?_
  simp only [impl_panelsOf.l2]
  repeat' with_reducible first | exact Lim.const _ | exact impl_compareFractions.F_lim _ _ _ _ | exact impl_panelsOf.L0_lim _ _ _ _ _ _ _ | exact impl_panelsOf.L2_lim _ _ _ _ _ _ _ _ _ _ _ _ _ _ | exact impl_widthAt.F_lim _ _ | refine Lim.ite ?_ ?_ | refine Lim.bind ?_ (fun _ => ?_)
theorem impl_panelsOf.F_eq (l0 : List (S51)) (a1_0 a1_1 a1_2 : Int) : impl_panelsOf.F l0 a1_0 a1_1 a1_2 = (impl_panelEdges.F l0 a1_0 a1_1 a1_2).bind fun t437 => (impl_panelsOf.L0 l0 (([] : List (S60))) t437 1 a1_0 a1_1 a1_2) := by
  refine Lim.eq (g := fun k => impl_panelsOf.f k l0 a1_0 a1_1 a1_2) ?_
  unfold impl_panelsOf.f
  repeat' with_reducible first | exact Lim.const _ | exact impl_panelEdges.F_lim _ _ _ _ | exact impl_panelsOf.L0_lim _ _ _ _ _ _ _ | refine Lim.ite ?_ ?_ | refine Lim.bind ?_ (fun _ => ?_)

noncomputable def impl_PanelsOf.F (l0 : List (S51)) (a1_0 a1_1 a1_2 : Int) : Option ((List (S60)) × Int) := lim (fun k => impl_PanelsOf.f k l0 a1_0 a1_1 a1_2)
theorem impl_PanelsOf.F_lim (l0 : List (S51)) (a1_0 a1_1 a1_2 : Int) : Lim (fun k => impl_PanelsOf.f k l0 a1_0 a1_1 a1_2) (impl_PanelsOf.F l0 a1_0 a1_1 a1_2) := Lim.of (fun k => impl_PanelsOf.mono l0 a1_0 a1_1 a1_2 k)
theorem impl_PanelsOf.F_eq (l0 : List (S51)) (a1_0 a1_1 a1_2 : Int) : impl_PanelsOf.F l0 a1_0 a1_1 a1_2 = (impl_weaveCode.F l0 a1_0 a1_1 a1_2).bind fun t464 => (if t464 = 0 then ((impl_panelsOf.F l0 a1_0 a1_1 a1_2).bind fun t465 => (some (t465, 0))) else (some (([] : List (S60)), t464))) := by
  refine Lim.eq (g := fun k => impl_PanelsOf.f k l0 a1_0 a1_1 a1_2) ?_
  unfold impl_PanelsOf.f
  repeat' with_reducible first | exact Lim.const _ | exact impl_panelsOf.F_lim _ _ _ _ | exact impl_weaveCode.F_lim _ _ _ _ | refine Lim.ite ?_ ?_ | refine Lim.bind ?_ (fun _ => ?_)

noncomputable def laws_eqPanelS.L0 (x0 x1 : List (S60)) (x5 : Int) : Option (Bool) := lim (fun k => laws_eqPanelS.l0 k x0 x1 x5)
theorem laws_eqPanelS.L0_lim (x0 x1 : List (S60)) (x5 : Int) : Lim (fun k => laws_eqPanelS.l0 k x0 x1 x5) (laws_eqPanelS.L0 x0 x1 x5) := Lim.of (fun k => (laws_eqPanelS.mono_l k) x0 x1 x5)
noncomputable def laws_eqPanelS.F (l0 l1 : List (S60)) : Option (Bool) := lim (fun k => laws_eqPanelS.f k l0 l1)
theorem laws_eqPanelS.F_lim (l0 l1 : List (S60)) : Lim (fun k => laws_eqPanelS.f k l0 l1) (laws_eqPanelS.F l0 l1) := Lim.of (fun k => laws_eqPanelS.mono l0 l1 k)
theorem laws_eqPanelS.L0_eq (x0 x1 : List (S60)) (x5 : Int) : laws_eqPanelS.L0 x0 x1 x5 = if x5 < (x0.length : Int) then (if 0 ≤ x5 then (if x5 < (x1.length : Int) then ((laws_eqPanel.f ((rd_T60 x0 x5).f0) ((rd_T60 x0 x5).f1) ((rd_T60 x1 x5).f0) ((rd_T60 x1 x5).f1)).bind fun t472 => (if t472 = true then (laws_eqPanelS.L0 x0 x1 (wrap64 (x5 + 1))) else (some false))) else (none)) else (none)) else (some true) := by
  refine Lim.next (fun k => (laws_eqPanelS.mono_l k) x0 x1 x5) ?_
  simp only [laws_eqPanelS.l0]
  repeat' with_reducible first | exact Lim.const _ | exact laws_eqPanelS.L0_lim _ _ _ | refine Lim.ite ?_ ?_ | refine Lim.bind ?_ (fun _ => ?_)
theorem laws_eqPanelS.F_eq (l0 l1 : List (S60)) : laws_eqPanelS.F l0 l1 = if (l0.length : Int) = (l1.length : Int) then (laws_eqPanelS.L0 l0 l1 0) else (some false) := by
  refine Lim.eq (g := fun k => laws_eqPanelS.f k l0 l1) ?_
  unfold laws_eqPanelS.f
  repeat' with_reducible first | exact Lim.const _ | exact laws_eqPanelS.L0_lim _ _ _ | refine Lim.ite ?_ ?_ | refine Lim.bind ?_ (fun _ => ?_)

noncomputable def laws_markPanelS.L0 (x0 : List (S60)) (x1 x5 : Int) : Option (Int × (List (S60))) := lim (fun k => laws_markPanelS.l0 k x0 x1 x5)
theorem laws_markPanelS.L0_lim (x0 : List (S60)) (x1 x5 : Int) : Lim (fun k => laws_markPanelS.l0 k x0 x1 x5) (laws_markPanelS.L0 x0 x1 x5) := Lim.of (fun k => (laws_markPanelS.mono_l k) x0 x1 x5)
noncomputable def laws_markPanelS.F (l0 : List (S60)) (a1 : Int) : Option (Int × (List (S60))) := lim (fun k => laws_markPanelS.f k l0 a1)
theorem laws_markPanelS.F_lim (l0 : List (S60)) (a1 : Int) : Lim (fun k => laws_markPanelS.f k l0 a1) (laws_markPanelS.F l0 a1) := Lim.of (fun k => laws_markPanelS.mono l0 a1 k)
theorem laws_markPanelS.L0_eq (x0 : List (S60)) (x1 x5 : Int) : laws_markPanelS.L0 x0 x1 x5 = if x5 < (x0.length : Int) then (if 0 ≤ x5 then ((some (x0.set (x5 : Int).toNat (⟨x1, (rd_T60 x0 x5).f1⟩ : S60) : List (S60))).bind fun y473 => (laws_markPanelS.L0 (y473.set (x5 : Int).toNat (⟨(rd_T60 y473 x5).f0, wrap64 (x1 + 1)⟩ : S60)) (wrap64 ((wrap64 (x1 + 1)) + 1)) (wrap64 (x5 + 1)))) else (none)) else (some (x1, x0)) := by
  refine Lim.next (fun k => (laws_markPanelS.mono_l k) x0 x1 x5) ?_
  simp only [laws_markPanelS.l0]
  repeat' with_reducible first | exact Lim.const _ | exact laws_markPanelS.L0_lim _ _ _ | refine Lim.ite ?_ ?_ | refine Lim.bind ?_ (fun _ => ?_)
theorem laws_markPanelS.F_eq (l0 : List (S60)) (a1 : Int) : laws_markPanelS.F l0 a1 = laws_markPanelS.L0 l0 a1 0 := by
  refine Lim.eq (g := fun k => laws_markPanelS.f k l0 a1) ?_
  unfold laws_markPanelS.f
  repeat' with_reducible first | exact Lim.const _ | exact laws_markPanelS.L0_lim _ _ _ | refine Lim.ite ?_ ?_ | refine Lim.bind ?_ (fun _ => ?_)

noncomputable def laws_heldPanelS.L0 (x0 : List (S60)) (x1 x5 : Int) : Option (Int) := lim (fun k => laws_heldPanelS.l0 k x0 x1 x5)
theorem laws_heldPanelS.L0_lim (x0 : List (S60)) (x1 x5 : Int) : Lim (fun k => laws_heldPanelS.l0 k x0 x1 x5) (laws_heldPanelS.L0 x0 x1 x5) := Lim.of (fun k => (laws_heldPanelS.mono_l k) x0 x1 x5)
noncomputable def laws_heldPanelS.F (l0 : List (S60)) (a1 : Int) : Option (Int) := lim (fun k => laws_heldPanelS.f k l0 a1)
theorem laws_heldPanelS.F_lim (l0 : List (S60)) (a1 : Int) : Lim (fun k => laws_heldPanelS.f k l0 a1) (laws_heldPanelS.F l0 a1) := Lim.of (fun k => laws_heldPanelS.mono l0 a1 k)
theorem laws_heldPanelS.L0_eq (x0 : List (S60)) (x1 x5 : Int) : laws_heldPanelS.L0 x0 x1 x5 = if x5 < (x0.length : Int) then (if 0 ≤ x5 then (if ((rd_T60 x0 x5).f0) = x1 then (if ((rd_T60 x0 x5).f1) = (wrap64 (x1 + 1)) then (laws_heldPanelS.L0 x0 (wrap64 ((wrap64 (x1 + 1)) + 1)) (wrap64 (x5 + 1))) else (some (-1))) else (some (-1))) else (none)) else (some x1) := by
  refine Lim.next (fun k => (laws_heldPanelS.mono_l k) x0 x1 x5) ?_
  simp only [laws_heldPanelS.l0]
  repeat' with_reducible first | exact Lim.const _ | exact laws_heldPanelS.L0_lim _ _ _ | refine Lim.ite ?_ ?_ | refine Lim.bind ?_ (fun _ => ?_)
theorem laws_heldPanelS.F_eq (l0 : List (S60)) (a1 : Int) : laws_heldPanelS.F l0 a1 = laws_heldPanelS.L0 l0 a1 0 := by
  refine Lim.eq (g := fun k => laws_heldPanelS.f k l0 a1) ?_
  unfold laws_heldPanelS.f
  repeat' with_reducible first | exact Lim.const _ | exact laws_heldPanelS.L0_lim _ _ _ | refine Lim.ite ?_ ?_ | refine Lim.bind ?_ (fun _ => ?_)

noncomputable def laws_FnExactPanelsOf.J0 (x0 : List (S53)) (x6 : List (S60)) (x7 : Int) (x8 : List (S51)) (x9 : List (S60)) (x10 : Int) (x46 : Bool) (x478000 x478001 x478002 : Int) : Option (Bool) := lim (fun k => laws_FnExactPanelsOf.j0 k x0 x6 x7 x8 x9 x10 x46 x478000 x478001 x478002)
theorem laws_FnExactPanelsOf.J0_lim (x0 : List (S53)) (x6 : List (S60)) (x7 : Int) (x8 : List (S51)) (x9 : List (S60)) (x10 : Int) (x46 : Bool) (x478000 x478001 x478002 : Int) : Lim (fun k => laws_FnExactPanelsOf.j0 k x0 x6 x7 x8 x9 x10 x46 x478000 x478001 x478002) (laws_FnExactPanelsOf.J0 x0 x6 x7 x8 x9 x10 x46 x478000 x478001 x478002) := Lim.of (fun k => (laws_FnExactPanelsOf.mono_l k).1 x0 x6 x7 x8 x9 x10 x46 x478000 x478001 x478002)
noncomputable def laws_FnExactPanelsOf.J1 (x0 : List (S53)) (x6 : List (S60)) (x7 : Int) (x9 : List (S60)) (x67 : Bool) (x478000 x478001 x478002 : Int) : Option (Bool) := lim (fun k => laws_FnExactPanelsOf.j1 k x0 x6 x7 x9 x67 x478000 x478001 x478002)
theorem laws_FnExactPanelsOf.J1_lim (x0 : List (S53)) (x6 : List (S60)) (x7 : Int) (x9 : List (S60)) (x67 : Bool) (x478000 x478001 x478002 : Int) : Lim (fun k => laws_FnExactPanelsOf.j1 k x0 x6 x7 x9 x67 x478000 x478001 x478002) (laws_FnExactPanelsOf.J1 x0 x6 x7 x9 x67 x478000 x478001 x478002) := Lim.of (fun k => (laws_FnExactPanelsOf.mono_l k).2.1 x0 x6 x7 x9 x67 x478000 x478001 x478002)
noncomputable def laws_FnExactPanelsOf.J2 (x9 : List (S60)) (x12 : Int) (x95 : Bool) : Option (Bool) := lim (fun k => laws_FnExactPanelsOf.j2 k x9 x12 x95)
theorem laws_FnExactPanelsOf.J2_lim (x9 : List (S60)) (x12 : Int) (x95 : Bool) : Lim (fun k => laws_FnExactPanelsOf.j2 k x9 x12 x95) (laws_FnExactPanelsOf.J2 x9 x12 x95) := Lim.of (fun k => (laws_FnExactPanelsOf.mono_l k).2.2 x9 x12 x95)
noncomputable def laws_FnExactPanelsOf.F (l0 : List (S53)) (a1_0 a1_1 a1_2 : Int) : Option (Bool) := lim (fun k => laws_FnExactPanelsOf.f k l0 a1_0 a1_1 a1_2)
theorem laws_FnExactPanelsOf.F_lim (l0 : List (S53)) (a1_0 a1_1 a1_2 : Int) : Lim (fun k => laws_FnExactPanelsOf.f k l0 a1_0 a1_1 a1_2) (laws_FnExactPanelsOf.F l0 a1_0 a1_1 a1_2) := Lim.of (fun k => laws_FnExactPanelsOf.mono l0 a1_0 a1_1 a1_2 k)
theorem laws_FnExactPanelsOf.J0_eq (x0 : List (S53)) (x6 : List (S60)) (x7 : Int) (x8 : List (S51)) (x9 : List (S60)) (x10 : Int) (x46 : Bool) (x478000 x478001 x478002 : Int) : laws_FnExactPanelsOf.J0 x0 x6 x7 x8 x9 x10 x46 x478000 x478001 x478002 = if x46 = true then (some false) else ((laws_toSpotS.F x0).bind fun t500 => ((laws_eqSpotS.F x8 t500).bind fun t503 => (if t503 = true then ((laws_markSpotS.F x8 1).bind fun bt504 => (if bt504.1 < 0 then (laws_FnExactPanelsOf.J1 x0 x6 x7 x9 true x478000 x478001 x478002) else ((laws_eqPanelS.F x9 x6).bind fun t506 => (if t506 = true then (laws_FnExactPanelsOf.J1 x0 x6 x7 x9 (x10 != x7) x478000 x478001 x478002) else (laws_FnExactPanelsOf.J1 x0 x6 x7 x9 true x478000 x478001 x478002))))) else (some false)))) := by
  refine Lim.next (fun k => (laws_FnExactPanelsOf.mono_l k).1 x0 x6 x7 x8 x9 x10 x46 x478000 x478001 x478002) ?_
  simp only [laws_FnExactPanelsOf.j0]
  repeat' with_reducible first | exact Lim.const _ | exact laws_FnExactPanelsOf.J1_lim _ _ _ _ _ _ _ _ | exact laws_eqPanelS.F_lim _ _ | exact laws_eqSpotS.F_lim _ _ | exact laws_markSpotS.F_lim _ _ | exact laws_toSpotS.F_lim _ | refine Lim.ite ?_ ?_ | refine Lim.bind ?_ (fun _ => ?_)
theorem laws_FnExactPanelsOf.J1_eq (x0 : List (S53)) (x6 : List (S60)) (x7 : Int) (x9 : List (S60)) (x67 : Bool) (x478000 x478001 x478002 : Int) : laws_FnExactPanelsOf.J1 x0 x6 x7 x9 x67 x478000 x478001 x478002 = if x67 = true then (some false) else ((laws_markPanelS.F x9 1).bind fun bt507 => ((laws_heldPanelS.F bt507.2 1).bind fun t509 => (if t509 < 0 then (some false) else (if t509 = bt507.1 then ((laws_toSpotS.F x0).bind fun t510 => ((laws_toWeave.f x478000 x478001 x478002).bind fun bt513 => ((impl_PanelsOf.F t510 bt513.1 bt513.2.1 bt513.2.2).bind fun bt516 => ((laws_eqPanelS.F bt516.1 x6).bind fun t520 => (if t520 = true then (laws_FnExactPanelsOf.J2 bt507.2 bt507.1 (bt516.2 != x7)) else (laws_FnExactPanelsOf.J2 bt507.2 bt507.1 true)))))) else (some false))))) := by
  refine Lim.next (fun k => (laws_FnExactPanelsOf.mono_l k).2.1 x0 x6 x7 x9 x67 x478000 x478001 x478002) ?_
  simp only [laws_FnExactPanelsOf.j1]
  repeat' with_reducible first | exact Lim.const _ | exact impl_PanelsOf.F_lim _ _ _ _ | exact laws_FnExactPanelsOf.J2_lim _ _ _ | exact laws_eqPanelS.F_lim _ _ | exact laws_heldPanelS.F_lim _ _ | exact laws_markPanelS.F_lim _ _ | exact laws_toSpotS.F_lim _ | refine Lim.ite ?_ ?_ | refine Lim.bind ?_ (fun _ => ?_)
theorem laws_FnExactPanelsOf.J2_eq (x9 : List (S60)) (x12 : Int) (x95 : Bool) : laws_FnExactPanelsOf.J2 x9 x12 x95 = if x95 = true then (some false) else ((laws_heldPanelS.F x9 1).bind fun t521 => (if t521 < 0 then (some false) else (if t521 = x12 then (some true) else (some false)))) := by
  refine Lim.next (fun k => (laws_FnExactPanelsOf.mono_l k).2.2 x9 x12 x95) ?_
  simp only [laws_FnExactPanelsOf.j2]
  repeat' with_reducible first | exact Lim.const _ | exact laws_heldPanelS.F_lim _ _ | refine Lim.ite ?_ ?_ | refine Lim.bind ?_ (fun _ => ?_)
theorem laws_FnExactPanelsOf.F_eq (l0 : List (S53)) (a1_0 a1_1 a1_2 : Int) : laws_FnExactPanelsOf.F l0 a1_0 a1_1 a1_2 = (laws_szSpotS.f l0 1048576).bind fun t478 => (if t478 < 0 then (some true) else ((laws_toSpotS.F l0).bind fun t479 => ((laws_toWeave.f a1_0 a1_1 a1_2).bind fun bt482 => ((spec_PanelsOf.F t479 bt482.1 bt482.2.1 bt482.2.2).bind fun bt485 => ((laws_toSpotS.F l0).bind fun t489 => ((laws_toWeave.f a1_0 a1_1 a1_2).bind fun bt492 => ((impl_PanelsOf.F t489 bt492.1 bt492.2.1 bt492.2.2).bind fun bt495 => ((laws_eqPanelS.F bt495.1 bt485.1).bind fun t499 => (if t499 = true then (laws_FnExactPanelsOf.J0 l0 bt485.1 bt485.2 t489 bt495.1 bt495.2 (bt495.2 != bt485.2) a1_0 a1_1 a1_2) else (laws_FnExactPanelsOf.J0 l0 bt485.1 bt485.2 t489 bt495.1 bt495.2 true a1_0 a1_1 a1_2)))))))))) := by
  refine Lim.eq (g := fun k => laws_FnExactPanelsOf.f k l0 a1_0 a1_1 a1_2) ?_
  unfold laws_FnExactPanelsOf.f
  repeat' with_reducible first | exact Lim.const _ | exact impl_PanelsOf.F_lim _ _ _ _ | exact laws_FnExactPanelsOf.J0_lim _ _ _ _ _ _ _ _ _ _ | exact laws_eqPanelS.F_lim _ _ | exact laws_toSpotS.F_lim _ | exact spec_PanelsOf.F_lim _ _ _ _ | refine Lim.ite ?_ ?_ | refine Lim.bind ?_ (fun _ => ?_)

end Go.Proofs.Ytmljmfepnlpgfaa.PFnExactPanelsOf
