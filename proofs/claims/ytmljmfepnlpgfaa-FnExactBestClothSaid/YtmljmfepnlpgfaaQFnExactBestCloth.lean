/-
  Written by a program of this session (wip/tools/lims.py): the printed functions without their bound on rounds.
-/
import Derived.Test.YtmljmfepnlpgfaaPFnExactBestClothx1
import Derived.Test.YtmljmfepnlpgfaaPFnExactBestClothx2
import Derived.Test.YtmljmfepnlpgfaaPFnExactBestClothx3
import Derived.Test.YtmljmfepnlpgfaaPFnExactBestClothx4
import Derived.Test.YtmljmfepnlpgfaaPFnExactBestClothx5
import Derived.Test.YtmljmfepnlpgfaaPFnExactBestClothx6
import Derived.Test.YtmljmfepnlpgfaaPFnExactBestClothx7
import Derived.Test.YtmljmfepnlpgfaaPFnExactBestClothx8
import Derived.Test.YtmljmfepnlpgfaaPFnExactBestClothx9
import Derived.Test.YtmljmfepnlpgfaaPFnExactBestClothx10
import Derived.Test.YtmljmfepnlpgfaaPFnExactBestClothx11
import Derived.Test.YtmljmfepnlpgfaaPFnExactBestClothx12
import Derived.Test.YtmljmfepnlpgfaaPFnExactBestClothx13
import Derived.Test.YtmljmfepnlpgfaaPFnExactBestClothx14
import Derived.Test.YtmljmfepnlpgfaaPFnExactBestClothx15
import Derived.Test.YtmljmfepnlpgfaaPFnExactBestClothx16
import Derived.Test.YtmljmfepnlpgfaaPFnExactBestClothx17
import Derived.Test.YtmljmfepnlpgfaaPFnExactBestClothx18
import Derived.Test.YtmljmfepnlpgfaaPFnExactBestClothx19
import Derived.Test.YtmljmfepnlpgfaaPFnExactBestClothx20
import Derived.Test.YtmljmfepnlpgfaaPFnExactBestClothx21
import Derived.Test.YtmljmfepnlpgfaaKit
set_option linter.unusedVariables false
set_option linter.unusedSimpArgs false
namespace Go.Proofs.Ytmljmfepnlpgfaa.PFnExactBestCloth
open Go.RowKit Go.Proofs.Ytmljmfepnlpgfaa.Kit Go.Proofs.YtmljmfepnlpgfaaW.PrintWords Go.Proofs.YtmljmfepnlpgfaaW.PrintLast Go.Proofs.YtmljmfepnlpgfaaW.PrintMore

noncomputable def laws_toSpotS.L0 (x0 : List (S53)) (x3 : List (S51)) (x4 : Int) : Option ((List (S51))) := lim (fun k => laws_toSpotS.l0 k x0 x3 x4)
theorem laws_toSpotS.L0_lim (x0 : List (S53)) (x3 : List (S51)) (x4 : Int) : Lim (fun k => laws_toSpotS.l0 k x0 x3 x4) (laws_toSpotS.L0 x0 x3 x4) := Lim.of (fun k => (laws_toSpotS.mono_l k) x0 x3 x4)
noncomputable def laws_toSpotS.F (l0 : List (S53)) : Option ((List (S51))) := lim (fun k => laws_toSpotS.f k l0)
theorem laws_toSpotS.F_lim (l0 : List (S53)) : Lim (fun k => laws_toSpotS.f k l0) (laws_toSpotS.F l0) := Lim.of (fun k => laws_toSpotS.mono l0 k)
theorem laws_toSpotS.L0_eq (x0 : List (S53)) (x3 : List (S51)) (x4 : Int) : laws_toSpotS.L0 x0 x3 x4 = if x4 < (x0.length : Int) then (if 0 ≤ x4 then ((laws_toSpot.f ((rd_T53 x0 x4).f0) ((rd_T53 x0 x4).f1)).bind fun bt108 => (if x4 < (x3.length : Int) then (laws_toSpotS.L0 x0 (x3.set (x4 : Int).toNat (⟨bt108.1, bt108.2⟩ : S51)) (wrap64 (x4 + 1))) else (none))) else (none)) else (some x3) := by
  refine Lim.next (fun k => (laws_toSpotS.mono_l k) x0 x3 x4) ?_
  simp only [laws_toSpotS.l0]
  repeat' with_reducible first | exact Lim.const _ | exact laws_toSpotS.L0_lim _ _ _ | refine Lim.ite ?_ ?_ | refine Lim.bind ?_ (fun _ => ?_)
theorem laws_toSpotS.F_eq (l0 : List (S53)) : laws_toSpotS.F l0 = if 0 ≤ (l0.length : Int) then (if ((l0.length : Int) : Int).toNat ≤ 17592186044416 then (laws_toSpotS.L0 l0 (List.replicate ((l0.length : Int) : Int).toNat z51) 0) else (none)) else (none) := by
  refine Lim.eq (g := fun k => laws_toSpotS.f k l0) ?_
  unfold laws_toSpotS.f
  repeat' with_reducible first | exact Lim.const _ | exact laws_toSpotS.L0_lim _ _ _ | refine Lim.ite ?_ ?_ | refine Lim.bind ?_ (fun _ => ?_)

noncomputable def laws_eqSpotS.L0 (x0 x1 : List (S51)) (x5 : Int) : Option (Bool) := lim (fun k => laws_eqSpotS.l0 k x0 x1 x5)
theorem laws_eqSpotS.L0_lim (x0 x1 : List (S51)) (x5 : Int) : Lim (fun k => laws_eqSpotS.l0 k x0 x1 x5) (laws_eqSpotS.L0 x0 x1 x5) := Lim.of (fun k => (laws_eqSpotS.mono_l k) x0 x1 x5)
noncomputable def laws_eqSpotS.F (l0 l1 : List (S51)) : Option (Bool) := lim (fun k => laws_eqSpotS.f k l0 l1)
theorem laws_eqSpotS.F_lim (l0 l1 : List (S51)) : Lim (fun k => laws_eqSpotS.f k l0 l1) (laws_eqSpotS.F l0 l1) := Lim.of (fun k => laws_eqSpotS.mono l0 l1 k)
theorem laws_eqSpotS.L0_eq (x0 x1 : List (S51)) (x5 : Int) : laws_eqSpotS.L0 x0 x1 x5 = if x5 < (x0.length : Int) then (if 0 ≤ x5 then (if x5 < (x1.length : Int) then ((laws_eqSpot.f ((rd_T51 x0 x5).f0) ((rd_T51 x0 x5).f1) ((rd_T51 x1 x5).f0) ((rd_T51 x1 x5).f1)).bind fun t118 => (if t118 = true then (laws_eqSpotS.L0 x0 x1 (wrap64 (x5 + 1))) else (some false))) else (none)) else (none)) else (some true) := by
  refine Lim.next (fun k => (laws_eqSpotS.mono_l k) x0 x1 x5) ?_
  simp only [laws_eqSpotS.l0]
  repeat' with_reducible first | exact Lim.const _ | exact laws_eqSpotS.L0_lim _ _ _ | refine Lim.ite ?_ ?_ | refine Lim.bind ?_ (fun _ => ?_)
theorem laws_eqSpotS.F_eq (l0 l1 : List (S51)) : laws_eqSpotS.F l0 l1 = if (l0.length : Int) = (l1.length : Int) then (laws_eqSpotS.L0 l0 l1 0) else (some false) := by
  refine Lim.eq (g := fun k => laws_eqSpotS.f k l0 l1) ?_
  unfold laws_eqSpotS.f
  repeat' with_reducible first | exact Lim.const _ | exact laws_eqSpotS.L0_lim _ _ _ | refine Lim.ite ?_ ?_ | refine Lim.bind ?_ (fun _ => ?_)

noncomputable def laws_eqInt64S.L0 (x0 x1 : List Int) (x5 : Int) : Option (Bool) := lim (fun k => laws_eqInt64S.l0 k x0 x1 x5)
theorem laws_eqInt64S.L0_lim (x0 x1 : List Int) (x5 : Int) : Lim (fun k => laws_eqInt64S.l0 k x0 x1 x5) (laws_eqInt64S.L0 x0 x1 x5) := Lim.of (fun k => (laws_eqInt64S.mono_l k) x0 x1 x5)
noncomputable def laws_eqInt64S.F (l0 l1 : List Int) : Option (Bool) := lim (fun k => laws_eqInt64S.f k l0 l1)
theorem laws_eqInt64S.F_lim (l0 l1 : List Int) : Lim (fun k => laws_eqInt64S.f k l0 l1) (laws_eqInt64S.F l0 l1) := Lim.of (fun k => laws_eqInt64S.mono l0 l1 k)
theorem laws_eqInt64S.L0_eq (x0 x1 : List Int) (x5 : Int) : laws_eqInt64S.L0 x0 x1 x5 = if x5 < (x0.length : Int) then (if 0 ≤ x5 then (if x5 < (x1.length : Int) then (if (rd x0 x5) = (rd x1 x5) then (laws_eqInt64S.L0 x0 x1 (wrap64 (x5 + 1))) else (some false)) else (none)) else (none)) else (some true) := by
  refine Lim.next (fun k => (laws_eqInt64S.mono_l k) x0 x1 x5) ?_
  simp only [laws_eqInt64S.l0]
  repeat' with_reducible first | exact Lim.const _ | exact laws_eqInt64S.L0_lim _ _ _ | refine Lim.ite ?_ ?_ | refine Lim.bind ?_ (fun _ => ?_)
theorem laws_eqInt64S.F_eq (l0 l1 : List Int) : laws_eqInt64S.F l0 l1 = if (l0.length : Int) = (l1.length : Int) then (laws_eqInt64S.L0 l0 l1 0) else (some false) := by
  refine Lim.eq (g := fun k => laws_eqInt64S.f k l0 l1) ?_
  unfold laws_eqInt64S.f
  repeat' with_reducible first | exact Lim.const _ | exact laws_eqInt64S.L0_lim _ _ _ | refine Lim.ite ?_ ?_ | refine Lim.bind ?_ (fun _ => ?_)

noncomputable def spec_l13Twice.L0 (x0 : List (S51)) (x3 x4 : Int) : Option (Int) := lim (fun k => spec_l13Twice.l0 k x0 x3 x4)
theorem spec_l13Twice.L0_lim (x0 : List (S51)) (x3 x4 : Int) : Lim (fun k => spec_l13Twice.l0 k x0 x3 x4) (spec_l13Twice.L0 x0 x3 x4) := Lim.of (fun k => (spec_l13Twice.mono_l k) x0 x3 x4)
noncomputable def spec_l13Twice.F (l0 : List (S51)) : Option (Int) := lim (fun k => spec_l13Twice.f k l0)
theorem spec_l13Twice.F_lim (l0 : List (S51)) : Lim (fun k => spec_l13Twice.f k l0) (spec_l13Twice.F l0) := Lim.of (fun k => spec_l13Twice.mono l0 k)
theorem spec_l13Twice.L0_eq (x0 : List (S51)) (x3 x4 : Int) : spec_l13Twice.L0 x0 x3 x4 = if x4 < (x0.length : Int) then (if (x0.length : Int) = 0 then (none) else (if 0 ≤ (Int.tmod (wrap64 (x4 + 1)) (x0.length : Int)) then (if (Int.tmod (wrap64 (x4 + 1)) (x0.length : Int)) < (x0.length : Int) then (if 0 ≤ x4 then (spec_l13Twice.L0 x0 (wrap64 (x3 + (wrap64 ((wrap64 (((rd_T51 x0 x4).f0) * ((rd_T51 x0 (Int.tmod (wrap64 (x4 + 1)) (x0.length : Int))).f1))) - (wrap64 (((rd_T51 x0 (Int.tmod (wrap64 (x4 + 1)) (x0.length : Int))).f0) * ((rd_T51 x0 x4).f1))))))) (wrap64 (x4 + 1))) else (none)) else (none)) else (none))) else (some x3) := by
  refine Lim.next (fun k => (spec_l13Twice.mono_l k) x0 x3 x4) ?_
  simp only [spec_l13Twice.l0]
  repeat' with_reducible first | exact Lim.const _ | exact spec_l13Twice.L0_lim _ _ _ | refine Lim.ite ?_ ?_ | refine Lim.bind ?_ (fun _ => ?_)
theorem spec_l13Twice.F_eq (l0 : List (S51)) : spec_l13Twice.F l0 = spec_l13Twice.L0 l0 0 0 := by
  refine Lim.eq (g := fun k => spec_l13Twice.f k l0) ?_
  unfold spec_l13Twice.f
  repeat' with_reducible first | exact Lim.const _ | exact spec_l13Twice.L0_lim _ _ _ | refine Lim.ite ?_ ?_ | refine Lim.bind ?_ (fun _ => ?_)

noncomputable def spec_l13Meet.J0 (x30 : Bool) (x145000 x145001 x146000 x146001 x147000 x147001 x148000 x148001 : Int) : Option (Bool) := lim (fun k => spec_l13Meet.j0 k x30 x145000 x145001 x146000 x146001 x147000 x147001 x148000 x148001)
theorem spec_l13Meet.J0_lim (x30 : Bool) (x145000 x145001 x146000 x146001 x147000 x147001 x148000 x148001 : Int) : Lim (fun k => spec_l13Meet.j0 k x30 x145000 x145001 x146000 x146001 x147000 x147001 x148000 x148001) (spec_l13Meet.J0 x30 x145000 x145001 x146000 x146001 x147000 x147001 x148000 x148001) := Lim.of (fun k => (spec_l13Meet.mono_l k) x30 x145000 x145001 x146000 x146001 x147000 x147001 x148000 x148001)
noncomputable def spec_l13Meet.F (a0_0 a0_1 a1_0 a1_1 a2_0 a2_1 a3_0 a3_1 : Int) : Option (Bool) := lim (fun k => spec_l13Meet.f k a0_0 a0_1 a1_0 a1_1 a2_0 a2_1 a3_0 a3_1)
theorem spec_l13Meet.F_lim (a0_0 a0_1 a1_0 a1_1 a2_0 a2_1 a3_0 a3_1 : Int) : Lim (fun k => spec_l13Meet.f k a0_0 a0_1 a1_0 a1_1 a2_0 a2_1 a3_0 a3_1) (spec_l13Meet.F a0_0 a0_1 a1_0 a1_1 a2_0 a2_1 a3_0 a3_1) := Lim.of (fun k => spec_l13Meet.mono a0_0 a0_1 a1_0 a1_1 a2_0 a2_1 a3_0 a3_1 k)
theorem spec_l13Meet.J0_eq (x30 : Bool) (x145000 x145001 x146000 x146001 x147000 x147001 x148000 x148001 : Int) : spec_l13Meet.J0 x30 x145000 x145001 x146000 x146001 x147000 x147001 x148000 x148001 = if x30 = true then (some true) else ((spec_l13Sides.f x145000 x145001 x146000 x146001 x147000 x147001 x148000 x148001).bind fun t152 => (if t152 = true then ((spec_l13Sides.f x147000 x147001 x148000 x148001 x145000 x145001 x146000 x146001).bind fun t153 => (some t153)) else (some false))) := by
  refine Lim.next (fun k => (spec_l13Meet.mono_l k) x30 x145000 x145001 x146000 x146001 x147000 x147001 x148000 x148001) ?_
  simp only [spec_l13Meet.j0]
  repeat' with_reducible first | exact Lim.const _ | refine Lim.ite ?_ ?_ | refine Lim.bind ?_ (fun _ => ?_)
theorem spec_l13Meet.F_eq (a0_0 a0_1 a1_0 a1_1 a2_0 a2_1 a3_0 a3_1 : Int) : spec_l13Meet.F a0_0 a0_1 a1_0 a1_1 a2_0 a2_1 a3_0 a3_1 = (spec_l13On.f a0_0 a0_1 a1_0 a1_1 a2_0 a2_1).bind fun t148 => (if t148 = true then (spec_l13Meet.J0 true a0_0 a0_1 a1_0 a1_1 a2_0 a2_1 a3_0 a3_1) else ((spec_l13On.f a0_0 a0_1 a1_0 a1_1 a3_0 a3_1).bind fun t149 => (if t149 = true then (spec_l13Meet.J0 true a0_0 a0_1 a1_0 a1_1 a2_0 a2_1 a3_0 a3_1) else ((spec_l13On.f a2_0 a2_1 a3_0 a3_1 a0_0 a0_1).bind fun t150 => (if t150 = true then (spec_l13Meet.J0 true a0_0 a0_1 a1_0 a1_1 a2_0 a2_1 a3_0 a3_1) else ((spec_l13On.f a2_0 a2_1 a3_0 a3_1 a1_0 a1_1).bind fun t151 => (spec_l13Meet.J0 t151 a0_0 a0_1 a1_0 a1_1 a2_0 a2_1 a3_0 a3_1))))))) := by
  refine Lim.eq (g := fun k => spec_l13Meet.f k a0_0 a0_1 a1_0 a1_1 a2_0 a2_1 a3_0 a3_1) ?_
  unfold spec_l13Meet.f
  repeat' with_reducible first | exact Lim.const _ | exact spec_l13Meet.J0_lim _ _ _ _ _ _ _ _ _ | refine Lim.ite ?_ ?_ | refine Lim.bind ?_ (fun _ => ?_)

noncomputable def spec_l13Ok.L0 (x0 : List (S51)) (x3 x4 : Int) : Option (Bool) := lim (fun k => spec_l13Ok.l0 k x0 x3 x4)
theorem spec_l13Ok.L0_lim (x0 : List (S51)) (x3 x4 : Int) : Lim (fun k => spec_l13Ok.l0 k x0 x3 x4) (spec_l13Ok.L0 x0 x3 x4) := Lim.of (fun k => (spec_l13Ok.mono_l k).1 x0 x3 x4)
noncomputable def spec_l13Ok.L1 (x0 : List (S51)) (x3 x5 : Int) : Option (Bool) := lim (fun k => spec_l13Ok.l1 k x0 x3 x5)
theorem spec_l13Ok.L1_lim (x0 : List (S51)) (x3 x5 : Int) : Lim (fun k => spec_l13Ok.l1 k x0 x3 x5) (spec_l13Ok.L1 x0 x3 x5) := Lim.of (fun k => (spec_l13Ok.mono_l k).2.1 x0 x3 x5)
noncomputable def spec_l13Ok.L2 (x0 : List (S51)) (x3 x5 x8 x162000 x162001 x164000 x164001 : Int) : Option (Bool) := lim (fun k => spec_l13Ok.l2 k x0 x3 x5 x8 x162000 x162001 x164000 x164001)
theorem spec_l13Ok.L2_lim (x0 : List (S51)) (x3 x5 x8 x162000 x162001 x164000 x164001 : Int) : Lim (fun k => spec_l13Ok.l2 k x0 x3 x5 x8 x162000 x162001 x164000 x164001) (spec_l13Ok.L2 x0 x3 x5 x8 x162000 x162001 x164000 x164001) := Lim.of (fun k => (spec_l13Ok.mono_l k).2.2 x0 x3 x5 x8 x162000 x162001 x164000 x164001)
noncomputable def spec_l13Ok.F (l0 : List (S51)) : Option (Bool) := lim (fun k => spec_l13Ok.f k l0)
theorem spec_l13Ok.F_lim (l0 : List (S51)) : Lim (fun k => spec_l13Ok.f k l0) (spec_l13Ok.F l0) := Lim.of (fun k => spec_l13Ok.mono l0 k)
theorem spec_l13Ok.L0_eq (x0 : List (S51)) (x3 x4 : Int) : spec_l13Ok.L0 x0 x3 x4 = if x4 < x3 then (if 0 ≤ x4 then (if x4 < (x0.length : Int) then ((spec_l00In.f ((rd_T51 x0 x4).f0) 0 2000).bind fun t156 => (if t156 = true then ((spec_l00In.f ((rd_T51 x0 x4).f1) 0 2000).bind fun t158 => (if t158 = true then (spec_l13Ok.L0 x0 x3 (wrap64 (x4 + 1))) else (some false))) else (some false))) else (none)) else (none)) else (spec_l13Ok.L1 x0 x3 0) := by
  refine Lim.next (fun k => (spec_l13Ok.mono_l k).1 x0 x3 x4) ?_
  simp only [spec_l13Ok.l0]
  repeat' with_reducible first | exact Lim.const _ | exact spec_l13Ok.L0_lim _ _ _ | exact spec_l13Ok.L1_lim _ _ _ | refine Lim.ite ?_ ?_ | refine Lim.bind ?_ (fun _ => ?_)
theorem spec_l13Ok.L1_eq (x0 : List (S51)) (x3 x5 : Int) : spec_l13Ok.L1 x0 x3 x5 = if x5 < x3 then (if 0 ≤ x5 then (if x5 < (x0.length : Int) then (if x3 = 0 then (none) else (if 0 ≤ (Int.tmod (wrap64 (x5 + 1)) x3) then (if (Int.tmod (wrap64 (x5 + 1)) x3) < (x0.length : Int) then (if 0 ≤ (Int.tmod (wrap64 (x5 + 2)) x3) then (if (Int.tmod (wrap64 (x5 + 2)) x3) < (x0.length : Int) then ((spec_l13Cross.f ((rd_T51 x0 x5).f0) ((rd_T51 x0 x5).f1) ((rd_T51 x0 (Int.tmod (wrap64 (x5 + 1)) x3)).f0) ((rd_T51 x0 (Int.tmod (wrap64 (x5 + 1)) x3)).f1) ((rd_T51 x0 (Int.tmod (wrap64 (x5 + 2)) x3)).f0) ((rd_T51 x0 (Int.tmod (wrap64 (x5 + 2)) x3)).f1)).bind fun t165 => (if t165 = 0 then (some false) else (spec_l13Ok.L2 x0 x3 x5 (wrap64 (x5 + 2)) ((rd_T51 x0 x5).f0) ((rd_T51 x0 x5).f1) ((rd_T51 x0 (Int.tmod (wrap64 (x5 + 1)) x3)).f0) ((rd_T51 x0 (Int.tmod (wrap64 (x5 + 1)) x3)).f1)))) else (none)) else (none)) else (none)) else (none))) else (none)) else (none)) else ((spec_l13Twice.F x0).bind fun t159 => (some (decide (t159 > 0)))) := by
  refine Lim.next (fun k => (spec_l13Ok.mono_l k).2.1 x0 x3 x5) ?_
  simp only [spec_l13Ok.l1]
  repeat' with_reducible first | exact Lim.const _ | exact spec_l13Ok.L2_lim _ _ _ _ _ _ _ _ | exact spec_l13Twice.F_lim _ | refine Lim.ite ?_ ?_ | refine Lim.bind ?_ (fun _ => ?_)
theorem spec_l13Ok.L2_eq (x0 : List (S51)) (x3 x5 x8 x162000 x162001 x164000 x164001 : Int) : spec_l13Ok.L2 x0 x3 x5 x8 x162000 x162001 x164000 x164001 = if x8 < x3 then (if x5 > 0 then (if 0 ≤ x8 then (if x8 < (x0.length : Int) then (if x3 = 0 then (none) else (if 0 ≤ (Int.tmod (wrap64 (x8 + 1)) x3) then (if (Int.tmod (wrap64 (x8 + 1)) x3) < (x0.length : Int) then ((spec_l13Meet.F x162000 x162001 x164000 x164001 ((rd_T51 x0 x8).f0) ((rd_T51 x0 x8).f1) ((rd_T51 x0 (Int.tmod (wrap64 (x8 + 1)) x3)).f0) ((rd_T51 x0 (Int.tmod (wrap64 (x8 + 1)) x3)).f1)).bind fun t168 => (if t168 = true then (some false) else (spec_l13Ok.L2 x0 x3 x5 (wrap64 (x8 + 1)) x162000 x162001 x164000 x164001))) else (none)) else (none))) else (none)) else (none)) else (if x8 < (wrap64 (x3 - 1)) then (if 0 ≤ x8 then (if x8 < (x0.length : Int) then (if x3 = 0 then (none) else (if 0 ≤ (Int.tmod (wrap64 (x8 + 1)) x3) then (if (Int.tmod (wrap64 (x8 + 1)) x3) < (x0.length : Int) then ((spec_l13Meet.F x162000 x162001 x164000 x164001 ((rd_T51 x0 x8).f0) ((rd_T51 x0 x8).f1) ((rd_T51 x0 (Int.tmod (wrap64 (x8 + 1)) x3)).f0) ((rd_T51 x0 (Int.tmod (wrap64 (x8 + 1)) x3)).f1)).bind fun t171 => (if t171 = true then (some false) else (spec_l13Ok.L2 x0 x3 x5 (wrap64 (x8 + 1)) x162000 x162001 x164000 x164001))) else (none)) else (none))) else (none)) else (none)) else (spec_l13Ok.L2 x0 x3 x5 (wrap64 (x8 + 1)) x162000 x162001 x164000 x164001))) else (spec_l13Ok.L1 x0 x3 (wrap64 (x5 + 1))) := by
  refine Lim.next (fun k => (spec_l13Ok.mono_l k).2.2 x0 x3 x5 x8 x162000 x162001 x164000 x164001) ?_
  simp only [spec_l13Ok.l2]
  repeat' with_reducible first | exact Lim.const _ | exact spec_l13Meet.F_lim _ _ _ _ _ _ _ _ | exact spec_l13Ok.L1_lim _ _ _ | exact spec_l13Ok.L2_lim _ _ _ _ _ _ _ _ | refine Lim.ite ?_ ?_ | refine Lim.bind ?_ (fun _ => ?_)
theorem spec_l13Ok.F_eq (l0 : List (S51)) : spec_l13Ok.F l0 = (spec_l00In.f (l0.length : Int) 3 8).bind fun t154 => (if t154 = true then (spec_l13Ok.L0 l0 (l0.length : Int) 0) else (some false)) := by
  refine Lim.eq (g := fun k => spec_l13Ok.f k l0) ?_
  unfold spec_l13Ok.f
  repeat' with_reducible first | exact Lim.const _ | exact spec_l13Ok.L0_lim _ _ _ | refine Lim.ite ?_ ?_ | refine Lim.bind ?_ (fun _ => ?_)

noncomputable def spec_l13Bulged.L0 (x0 : List (S51)) (x3 x4 : Int) : Option (Bool) := lim (fun k => spec_l13Bulged.l0 k x0 x3 x4)
theorem spec_l13Bulged.L0_lim (x0 : List (S51)) (x3 x4 : Int) : Lim (fun k => spec_l13Bulged.l0 k x0 x3 x4) (spec_l13Bulged.L0 x0 x3 x4) := Lim.of (fun k => (spec_l13Bulged.mono_l k) x0 x3 x4)
noncomputable def spec_l13Bulged.F (l0 : List (S51)) : Option (Bool) := lim (fun k => spec_l13Bulged.f k l0)
theorem spec_l13Bulged.F_lim (l0 : List (S51)) : Lim (fun k => spec_l13Bulged.f k l0) (spec_l13Bulged.F l0) := Lim.of (fun k => spec_l13Bulged.mono l0 k)
theorem spec_l13Bulged.L0_eq (x0 : List (S51)) (x3 x4 : Int) : spec_l13Bulged.L0 x0 x3 x4 = if x4 < x3 then (if 0 ≤ x4 then (if x4 < (x0.length : Int) then (if x3 = 0 then (none) else (if 0 ≤ (Int.tmod (wrap64 (x4 + 1)) x3) then (if (Int.tmod (wrap64 (x4 + 1)) x3) < (x0.length : Int) then (if 0 ≤ (Int.tmod (wrap64 (x4 + 2)) x3) then (if (Int.tmod (wrap64 (x4 + 2)) x3) < (x0.length : Int) then ((spec_l13Cross.f ((rd_T51 x0 x4).f0) ((rd_T51 x0 x4).f1) ((rd_T51 x0 (Int.tmod (wrap64 (x4 + 1)) x3)).f0) ((rd_T51 x0 (Int.tmod (wrap64 (x4 + 1)) x3)).f1) ((rd_T51 x0 (Int.tmod (wrap64 (x4 + 2)) x3)).f0) ((rd_T51 x0 (Int.tmod (wrap64 (x4 + 2)) x3)).f1)).bind fun t179 => (if t179 < 0 then (some false) else (spec_l13Bulged.L0 x0 x3 (wrap64 (x4 + 1))))) else (none)) else (none)) else (none)) else (none))) else (none)) else (none)) else (some true) := by
  refine Lim.next (fun k => (spec_l13Bulged.mono_l k) x0 x3 x4) ?_
  simp only [spec_l13Bulged.l0]
  repeat' with_reducible first | exact Lim.const _ | exact spec_l13Bulged.L0_lim _ _ _ | refine Lim.ite ?_ ?_ | refine Lim.bind ?_ (fun _ => ?_)
theorem spec_l13Bulged.F_eq (l0 : List (S51)) : spec_l13Bulged.F l0 = spec_l13Bulged.L0 l0 (l0.length : Int) 0 := by
  refine Lim.eq (g := fun k => spec_l13Bulged.f k l0) ?_
  unfold spec_l13Bulged.f
  repeat' with_reducible first | exact Lim.const _ | exact spec_l13Bulged.L0_lim _ _ _ | refine Lim.ite ?_ ?_ | refine Lim.bind ?_ (fun _ => ?_)

noncomputable def spec_l13Limits.L0 (x0 : List (S51)) (x4 x5 x6 : Int) : Option (Int × Int) := lim (fun k => spec_l13Limits.l0 k x0 x4 x5 x6)
theorem spec_l13Limits.L0_lim (x0 : List (S51)) (x4 x5 x6 : Int) : Lim (fun k => spec_l13Limits.l0 k x0 x4 x5 x6) (spec_l13Limits.L0 x0 x4 x5 x6) := Lim.of (fun k => (spec_l13Limits.mono_l k) x0 x4 x5 x6)
noncomputable def spec_l13Limits.F (l0 : List (S51)) : Option (Int × Int) := lim (fun k => spec_l13Limits.f k l0)
theorem spec_l13Limits.F_lim (l0 : List (S51)) : Lim (fun k => spec_l13Limits.f k l0) (spec_l13Limits.F l0) := Lim.of (fun k => spec_l13Limits.mono l0 k)
theorem spec_l13Limits.L0_eq (x0 : List (S51)) (x4 x5 x6 : Int) : spec_l13Limits.L0 x0 x4 x5 x6 = if x6 < (x0.length : Int) then (if 0 ≤ x6 then ((spec_l00Min.f x4 ((rd_T51 x0 x6).f1)).bind fun t182 => ((spec_l00Max.f x5 ((rd_T51 x0 x6).f1)).bind fun t184 => (spec_l13Limits.L0 x0 t182 t184 (wrap64 (x6 + 1))))) else (none)) else (some (x4, x5)) := by
  refine Lim.next (fun k => (spec_l13Limits.mono_l k) x0 x4 x5 x6) ?_
  simp only [spec_l13Limits.l0]
  repeat' with_reducible first | exact Lim.const _ | exact spec_l13Limits.L0_lim _ _ _ _ | refine Lim.ite ?_ ?_ | refine Lim.bind ?_ (fun _ => ?_)
theorem spec_l13Limits.F_eq (l0 : List (S51)) : spec_l13Limits.F l0 = if 0 < (l0.length : Int) then (spec_l13Limits.L0 l0 ((rd_T51 l0 0).f1) ((rd_T51 l0 0).f1) 1) else (none) := by
  refine Lim.eq (g := fun k => spec_l13Limits.f k l0) ?_
  unfold spec_l13Limits.f
  repeat' with_reducible first | exact Lim.const _ | exact spec_l13Limits.L0_lim _ _ _ _ | refine Lim.ite ?_ ?_ | refine Lim.bind ?_ (fun _ => ?_)

noncomputable def spec_l15Code.J0 (x0 : List (S51)) (x14 : Bool) (x187000 x187001 x187002 : Int) : Option (Int) := lim (fun k => spec_l15Code.j0 k x0 x14 x187000 x187001 x187002)
theorem spec_l15Code.J0_lim (x0 : List (S51)) (x14 : Bool) (x187000 x187001 x187002 : Int) : Lim (fun k => spec_l15Code.j0 k x0 x14 x187000 x187001 x187002) (spec_l15Code.J0 x0 x14 x187000 x187001 x187002) := Lim.of (fun k => (spec_l15Code.mono_l k) x0 x14 x187000 x187001 x187002)
noncomputable def spec_l15Code.F (l0 : List (S51)) (a1_0 a1_1 a1_2 : Int) : Option (Int) := lim (fun k => spec_l15Code.f k l0 a1_0 a1_1 a1_2)
theorem spec_l15Code.F_lim (l0 : List (S51)) (a1_0 a1_1 a1_2 : Int) : Lim (fun k => spec_l15Code.f k l0 a1_0 a1_1 a1_2) (spec_l15Code.F l0 a1_0 a1_1 a1_2) := Lim.of (fun k => spec_l15Code.mono l0 a1_0 a1_1 a1_2 k)
theorem spec_l15Code.J0_eq (x0 : List (S51)) (x14 : Bool) (x187000 x187001 x187002 : Int) : spec_l15Code.J0 x0 x14 x187000 x187001 x187002 = if x14 = true then (some 1) else ((spec_l13Bulged.F x0).bind fun t189 => (if t189 = true then ((spec_l13Limits.F x0).bind fun bt190 => ((spec_l15Many.f (wrap64 (bt190.2 - bt190.1)) x187000 x187001 x187002).bind fun t192 => (if t192 > 40 then (some 5) else (some 0)))) else (some 6))) := by
  refine Lim.next (fun k => (spec_l15Code.mono_l k) x0 x14 x187000 x187001 x187002) ?_
  simp only [spec_l15Code.j0]
  repeat' with_reducible first | exact Lim.const _ | exact spec_l13Bulged.F_lim _ | exact spec_l13Limits.F_lim _ | refine Lim.ite ?_ ?_ | refine Lim.bind ?_ (fun _ => ?_)
theorem spec_l15Code.F_eq (l0 : List (S51)) (a1_0 a1_1 a1_2 : Int) : spec_l15Code.F l0 a1_0 a1_1 a1_2 = (spec_l13Ok.F l0).bind fun t187 => (if t187 = true then ((spec_l15Ok.f a1_0 a1_1 a1_2).bind fun t188 => (spec_l15Code.J0 l0 (!t188) a1_0 a1_1 a1_2)) else (spec_l15Code.J0 l0 true a1_0 a1_1 a1_2)) := by
  refine Lim.eq (g := fun k => spec_l15Code.f k l0 a1_0 a1_1 a1_2) ?_
  unfold spec_l15Code.f
  repeat' with_reducible first | exact Lim.const _ | exact spec_l13Ok.F_lim _ | exact spec_l15Code.J0_lim _ _ _ _ _ | refine Lim.ite ?_ ?_ | refine Lim.bind ?_ (fun _ => ?_)

noncomputable def spec_l15Edges.L0 (x6 : Int) (x7 : List Int) (x8 x194000 x194001 x194002 : Int) : Option (List Int) := lim (fun k => spec_l15Edges.l0 k x6 x7 x8 x194000 x194001 x194002)
theorem spec_l15Edges.L0_lim (x6 : Int) (x7 : List Int) (x8 x194000 x194001 x194002 : Int) : Lim (fun k => spec_l15Edges.l0 k x6 x7 x8 x194000 x194001 x194002) (spec_l15Edges.L0 x6 x7 x8 x194000 x194001 x194002) := Lim.of (fun k => (spec_l15Edges.mono_l k) x6 x7 x8 x194000 x194001 x194002)
noncomputable def spec_l15Edges.F (l0 : List (S51)) (a1_0 a1_1 a1_2 : Int) : Option (List Int) := lim (fun k => spec_l15Edges.f k l0 a1_0 a1_1 a1_2)
theorem spec_l15Edges.F_lim (l0 : List (S51)) (a1_0 a1_1 a1_2 : Int) : Lim (fun k => spec_l15Edges.f k l0 a1_0 a1_1 a1_2) (spec_l15Edges.F l0 a1_0 a1_1 a1_2) := Lim.of (fun k => spec_l15Edges.mono l0 a1_0 a1_1 a1_2 k)
theorem spec_l15Edges.L0_eq (x6 : Int) (x7 : List Int) (x8 x194000 x194001 x194002 : Int) : spec_l15Edges.L0 x6 x7 x8 x194000 x194001 x194002 = if x8 < x6 then (if x7.length < 17592186044416 then (spec_l15Edges.L0 x6 (x7 ++ [x8]) (wrap64 (x8 + (wrap64 (x194000 - x194001)))) x194000 x194001 x194002) else (none)) else (if x7.length < 17592186044416 then (some (x7 ++ [x6])) else (none)) := by
  refine Lim.next (fun k => (spec_l15Edges.mono_l k) x6 x7 x8 x194000 x194001 x194002) ?_
  simp only [spec_l15Edges.l0]
  repeat' with_reducible first | exact Lim.const _ | exact spec_l15Edges.L0_lim _ _ _ _ _ _ | refine Lim.ite ?_ ?_ | refine Lim.bind ?_ (fun _ => ?_)
theorem spec_l15Edges.F_eq (l0 : List (S51)) (a1_0 a1_1 a1_2 : Int) : spec_l15Edges.F l0 a1_0 a1_1 a1_2 = (spec_l13Limits.F l0).bind fun bt194 => (spec_l15Edges.L0 bt194.2 (([] : List Int)) bt194.1 a1_0 a1_1 a1_2) := by
  refine Lim.eq (g := fun k => spec_l15Edges.f k l0 a1_0 a1_1 a1_2) ?_
  unfold spec_l15Edges.f
  repeat' with_reducible first | exact Lim.const _ | exact spec_l13Limits.F_lim _ | exact spec_l15Edges.L0_lim _ _ _ _ _ _ | refine Lim.ite ?_ ?_ | refine Lim.bind ?_ (fun _ => ?_)

noncomputable def spec_l00Gcd.L0 (x0 x1 : Int) : Option (Int) := lim (fun k => spec_l00Gcd.l0 k x0 x1)
theorem spec_l00Gcd.L0_lim (x0 x1 : Int) : Lim (fun k => spec_l00Gcd.l0 k x0 x1) (spec_l00Gcd.L0 x0 x1) := Lim.of (fun k => (spec_l00Gcd.mono_l k) x0 x1)
noncomputable def spec_l00Gcd.F (a0 a1 : Int) : Option (Int) := lim (fun k => spec_l00Gcd.f k a0 a1)
theorem spec_l00Gcd.F_lim (a0 a1 : Int) : Lim (fun k => spec_l00Gcd.f k a0 a1) (spec_l00Gcd.F a0 a1) := Lim.of (fun k => spec_l00Gcd.mono a0 a1 k)
theorem spec_l00Gcd.L0_eq (x0 x1 : Int) : spec_l00Gcd.L0 x0 x1 = if x1 = 0 then (some x0) else (spec_l00Gcd.L0 x1 (Int.tmod x0 x1)) := by
  refine Lim.next (fun k => (spec_l00Gcd.mono_l k) x0 x1) ?_
  simp only [spec_l00Gcd.l0]
  repeat' with_reducible first | exact Lim.const _ | exact spec_l00Gcd.L0_lim _ _ | refine Lim.ite ?_ ?_ | refine Lim.bind ?_ (fun _ => ?_)
theorem spec_l00Gcd.F_eq (a0 a1 : Int) : spec_l00Gcd.F a0 a1 = spec_l00Gcd.L0 a0 a1 := by
  refine Lim.eq (g := fun k => spec_l00Gcd.f k a0 a1) ?_
  unfold spec_l00Gcd.f
  repeat' with_reducible first | exact Lim.const _ | exact spec_l00Gcd.L0_lim _ _ | refine Lim.ite ?_ ?_ | refine Lim.bind ?_ (fun _ => ?_)

noncomputable def spec_l01Make.F (a0 a1 : Int) : Option (Int × Int) := lim (fun k => spec_l01Make.f k a0 a1)
theorem spec_l01Make.F_lim (a0 a1 : Int) : Lim (fun k => spec_l01Make.f k a0 a1) (spec_l01Make.F a0 a1) := Lim.of (fun k => spec_l01Make.mono a0 a1 k)
theorem spec_l01Make.F_eq (a0 a1 : Int) : spec_l01Make.F a0 a1 = (spec_l00Size.f a0).bind fun t208 => ((spec_l00Gcd.F t208 a1).bind fun t209 => (if t209 = 0 then (none) else (some (wrap64 (Int.tdiv a0 t209), wrap64 (Int.tdiv a1 t209))))) := by
  refine Lim.eq (g := fun k => spec_l01Make.f k a0 a1) ?_
  unfold spec_l01Make.f
  repeat' with_reducible first | exact Lim.const _ | exact spec_l00Gcd.F_lim _ _ | refine Lim.ite ?_ ?_ | refine Lim.bind ?_ (fun _ => ?_)

noncomputable def spec_l13At.F (a0_0 a0_1 a1_0 a1_1 a2 : Int) : Option (Int × Int) := lim (fun k => spec_l13At.f k a0_0 a0_1 a1_0 a1_1 a2)
theorem spec_l13At.F_lim (a0_0 a0_1 a1_0 a1_1 a2 : Int) : Lim (fun k => spec_l13At.f k a0_0 a0_1 a1_0 a1_1 a2) (spec_l13At.F a0_0 a0_1 a1_0 a1_1 a2) := Lim.of (fun k => spec_l13At.mono a0_0 a0_1 a1_0 a1_1 a2 k)
theorem spec_l13At.F_eq (a0_0 a0_1 a1_0 a1_1 a2 : Int) : spec_l13At.F a0_0 a0_1 a1_0 a1_1 a2 = if (wrap64 (a1_1 - a0_1)) < 0 then ((spec_l01Make.F (wrap64 (-(wrap64 ((wrap64 (a0_0 * (wrap64 (a1_1 - a2)))) + (wrap64 (a1_0 * (wrap64 (a2 - a0_1)))))))) (wrap64 (-(wrap64 (a1_1 - a0_1))))).bind fun bt213 => (some (bt213.1, bt213.2))) else ((spec_l01Make.F (wrap64 ((wrap64 (a0_0 * (wrap64 (a1_1 - a2)))) + (wrap64 (a1_0 * (wrap64 (a2 - a0_1)))))) (wrap64 (a1_1 - a0_1))).bind fun bt215 => (some (bt215.1, bt215.2))) := by
  refine Lim.eq (g := fun k => spec_l13At.f k a0_0 a0_1 a1_0 a1_1 a2) ?_
  unfold spec_l13At.f
  repeat' with_reducible first | exact Lim.const _ | exact spec_l01Make.F_lim _ _ | refine Lim.ite ?_ ?_ | refine Lim.bind ?_ (fun _ => ?_)

noncomputable def spec_l13Sum.F (a0_0 a0_1 a1_0 a1_1 : Int) : Option (Int × Int) := lim (fun k => spec_l13Sum.f k a0_0 a0_1 a1_0 a1_1)
theorem spec_l13Sum.F_lim (a0_0 a0_1 a1_0 a1_1 : Int) : Lim (fun k => spec_l13Sum.f k a0_0 a0_1 a1_0 a1_1) (spec_l13Sum.F a0_0 a0_1 a1_0 a1_1) := Lim.of (fun k => spec_l13Sum.mono a0_0 a0_1 a1_0 a1_1 k)
theorem spec_l13Sum.F_eq (a0_0 a0_1 a1_0 a1_1 : Int) : spec_l13Sum.F a0_0 a0_1 a1_0 a1_1 = (spec_l00Gcd.F a0_1 a1_1).bind fun t220 => (if t220 = 0 then (none) else ((spec_l01Make.F (wrap64 ((wrap64 (a0_0 * (wrap64 (Int.tdiv a1_1 t220)))) + (wrap64 (a1_0 * (wrap64 (Int.tdiv a0_1 t220)))))) (wrap64 ((wrap64 (Int.tdiv a0_1 t220)) * a1_1))).bind fun bt221 => (some (bt221.1, bt221.2)))) := by
  refine Lim.eq (g := fun k => spec_l13Sum.f k a0_0 a0_1 a1_0 a1_1) ?_
  unfold spec_l13Sum.f
  repeat' with_reducible first | exact Lim.const _ | exact spec_l00Gcd.F_lim _ _ | exact spec_l01Make.F_lim _ _ | refine Lim.ite ?_ ?_ | refine Lim.bind ?_ (fun _ => ?_)

noncomputable def spec_l13Width.L0 (x0 : List (S51)) (x1 x5 x8 x225000 x225001 x226000 x226001 : Int) : Option (Int × Int) := lim (fun k => spec_l13Width.l0 k x0 x1 x5 x8 x225000 x225001 x226000 x226001)
theorem spec_l13Width.L0_lim (x0 : List (S51)) (x1 x5 x8 x225000 x225001 x226000 x226001 : Int) : Lim (fun k => spec_l13Width.l0 k x0 x1 x5 x8 x225000 x225001 x226000 x226001) (spec_l13Width.L0 x0 x1 x5 x8 x225000 x225001 x226000 x226001) := Lim.of (fun k => (spec_l13Width.mono_l k).1 x0 x1 x5 x8 x225000 x225001 x226000 x226001)
noncomputable def spec_l13Width.J1 (x0 : List (S51)) (x1 x5 x8 x225000 x225001 x226000 x226001 x236000 x236001 x237000 x237001 : Int) : Option (Int × Int) := lim (fun k => spec_l13Width.j1 k x0 x1 x5 x8 x225000 x225001 x226000 x226001 x236000 x236001 x237000 x237001)
theorem spec_l13Width.J1_lim (x0 : List (S51)) (x1 x5 x8 x225000 x225001 x226000 x226001 x236000 x236001 x237000 x237001 : Int) : Lim (fun k => spec_l13Width.j1 k x0 x1 x5 x8 x225000 x225001 x226000 x226001 x236000 x236001 x237000 x237001) (spec_l13Width.J1 x0 x1 x5 x8 x225000 x225001 x226000 x226001 x236000 x236001 x237000 x237001) := Lim.of (fun k => (spec_l13Width.mono_l k).2.1 x0 x1 x5 x8 x225000 x225001 x226000 x226001 x236000 x236001 x237000 x237001)
noncomputable def spec_l13Width.J2 (x0 : List (S51)) (x1 x5 x8 x225000 x225001 x226000 x226001 x236000 x236001 x237000 x237001 : Int) : Option (Int × Int) := lim (fun k => spec_l13Width.j2 k x0 x1 x5 x8 x225000 x225001 x226000 x226001 x236000 x236001 x237000 x237001)
theorem spec_l13Width.J2_lim (x0 : List (S51)) (x1 x5 x8 x225000 x225001 x226000 x226001 x236000 x236001 x237000 x237001 : Int) : Lim (fun k => spec_l13Width.j2 k x0 x1 x5 x8 x225000 x225001 x226000 x226001 x236000 x236001 x237000 x237001) (spec_l13Width.J2 x0 x1 x5 x8 x225000 x225001 x226000 x226001 x236000 x236001 x237000 x237001) := Lim.of (fun k => (spec_l13Width.mono_l k).2.2.1 x0 x1 x5 x8 x225000 x225001 x226000 x226001 x236000 x236001 x237000 x237001)
noncomputable def spec_l13Width.J3 (x0 : List (S51)) (x1 x5 x8 x225000 x225001 x226000 x226001 x236000 x236001 x237000 x237001 : Int) : Option (Int × Int) := lim (fun k => spec_l13Width.j3 k x0 x1 x5 x8 x225000 x225001 x226000 x226001 x236000 x236001 x237000 x237001)
theorem spec_l13Width.J3_lim (x0 : List (S51)) (x1 x5 x8 x225000 x225001 x226000 x226001 x236000 x236001 x237000 x237001 : Int) : Lim (fun k => spec_l13Width.j3 k x0 x1 x5 x8 x225000 x225001 x226000 x226001 x236000 x236001 x237000 x237001) (spec_l13Width.J3 x0 x1 x5 x8 x225000 x225001 x226000 x226001 x236000 x236001 x237000 x237001) := Lim.of (fun k => (spec_l13Width.mono_l k).2.2.2 x0 x1 x5 x8 x225000 x225001 x226000 x226001 x236000 x236001 x237000 x237001)
noncomputable def spec_l13Width.F (l0 : List (S51)) (a1 : Int) : Option (Int × Int) := lim (fun k => spec_l13Width.f k l0 a1)
theorem spec_l13Width.F_lim (l0 : List (S51)) (a1 : Int) : Lim (fun k => spec_l13Width.f k l0 a1) (spec_l13Width.F l0 a1) := Lim.of (fun k => spec_l13Width.mono l0 a1 k)
theorem spec_l13Width.L0_eq (x0 : List (S51)) (x1 x5 x8 x225000 x225001 x226000 x226001 : Int) : spec_l13Width.L0 x0 x1 x5 x8 x225000 x225001 x226000 x226001 = if x8 < x5 then (if 0 ≤ x8 then (if x8 < (x0.length : Int) then (if x5 = 0 then (none) else (if 0 ≤ (Int.tmod (wrap64 (x8 + 1)) x5) then (if (Int.tmod (wrap64 (x8 + 1)) x5) < (x0.length : Int) then ((spec_l00Min.f ((rd_T51 x0 x8).f1) ((rd_T51 x0 (Int.tmod (wrap64 (x8 + 1)) x5)).f1)).bind fun t232 => ((spec_l00Max.f ((rd_T51 x0 x8).f1) ((rd_T51 x0 (Int.tmod (wrap64 (x8 + 1)) x5)).f1)).bind fun t233 => ((spec_l00In.f x1 t232 t233).bind fun t234 => (if t234 = true then (if ((rd_T51 x0 x8).f1) = ((rd_T51 x0 (Int.tmod (wrap64 (x8 + 1)) x5)).f1) then (spec_l13Width.J1 x0 x1 x5 x8 x225000 x225001 x226000 x226001 ((rd_T51 x0 x8).f0) 1 ((rd_T51 x0 (Int.tmod (wrap64 (x8 + 1)) x5)).f0) 1) else ((spec_l13At.F ((rd_T51 x0 x8).f0) ((rd_T51 x0 x8).f1) ((rd_T51 x0 (Int.tmod (wrap64 (x8 + 1)) x5)).f0) ((rd_T51 x0 (Int.tmod (wrap64 (x8 + 1)) x5)).f1) x1).bind fun bt237 => (spec_l13Width.J1 x0 x1 x5 x8 x225000 x225001 x226000 x226001 bt237.1 bt237.2 bt237.1 bt237.2))) else (spec_l13Width.L0 x0 x1 x5 (wrap64 (x8 + 1)) x225000 x225001 x226000 x226001))))) else (none)) else (none))) else (none)) else (none)) else ((spec_l13Sum.F x226000 x226001 (wrap64 (-x225000)) x225001).bind fun bt226 => (some (bt226.1, bt226.2))) := by
  refine Lim.next (fun k => (spec_l13Width.mono_l k).1 x0 x1 x5 x8 x225000 x225001 x226000 x226001) ?_
  simp only [spec_l13Width.l0]
  repeat' with_reducible first | exact Lim.const _ | exact spec_l13At.F_lim _ _ _ _ _ | exact spec_l13Sum.F_lim _ _ _ _ | exact spec_l13Width.J1_lim _ _ _ _ _ _ _ _ _ _ _ _ | exact spec_l13Width.L0_lim _ _ _ _ _ _ _ _ | refine Lim.ite ?_ ?_ | refine Lim.bind ?_ (fun _ => ?_)
theorem spec_l13Width.J1_eq (x0 : List (S51)) (x1 x5 x8 x225000 x225001 x226000 x226001 x236000 x236001 x237000 x237001 : Int) : spec_l13Width.J1 x0 x1 x5 x8 x225000 x225001 x226000 x226001 x236000 x236001 x237000 x237001 = (spec_l13Less.f x236000 x236001 x225000 x225001).bind fun t239 => (if t239 = true then (spec_l13Width.J2 x0 x1 x5 x8 x236000 x236001 x226000 x226001 x236000 x236001 x237000 x237001) else (spec_l13Width.J2 x0 x1 x5 x8 x225000 x225001 x226000 x226001 x236000 x236001 x237000 x237001)) := by
  refine Lim.next (fun k => (spec_l13Width.mono_l k).2.1 x0 x1 x5 x8 x225000 x225001 x226000 x226001 x236000 x236001 x237000 x237001) ?_
  simp only [spec_l13Width.j1]
  repeat' with_reducible first | exact Lim.const _ | exact spec_l13Width.J2_lim _ _ _ _ _ _ _ _ _ _ _ _ | refine Lim.ite ?_ ?_ | refine Lim.bind ?_ (fun _ => ?_)
theorem spec_l13Width.J2_eq (x0 : List (S51)) (x1 x5 x8 x225000 x225001 x226000 x226001 x236000 x236001 x237000 x237001 : Int) : spec_l13Width.J2 x0 x1 x5 x8 x225000 x225001 x226000 x226001 x236000 x236001 x237000 x237001 = (spec_l13Less.f x237000 x237001 x225000 x225001).bind fun t240 => (if t240 = true then (spec_l13Width.J3 x0 x1 x5 x8 x237000 x237001 x226000 x226001 x236000 x236001 x237000 x237001) else (spec_l13Width.J3 x0 x1 x5 x8 x225000 x225001 x226000 x226001 x236000 x236001 x237000 x237001)) := by
  refine Lim.next (fun k => (spec_l13Width.mono_l k).2.2.1 x0 x1 x5 x8 x225000 x225001 x226000 x226001 x236000 x236001 x237000 x237001) ?_
  simp only [spec_l13Width.j2]
  repeat' with_reducible first | exact Lim.const _ | exact spec_l13Width.J3_lim _ _ _ _ _ _ _ _ _ _ _ _ | refine Lim.ite ?_ ?_ | refine Lim.bind ?_ (fun _ => ?_)
theorem spec_l13Width.J3_eq (x0 : List (S51)) (x1 x5 x8 x225000 x225001 x226000 x226001 x236000 x236001 x237000 x237001 : Int) : spec_l13Width.J3 x0 x1 x5 x8 x225000 x225001 x226000 x226001 x236000 x236001 x237000 x237001 = (spec_l13Less.f x226000 x226001 x236000 x236001).bind fun t241 => (if t241 = true then ((spec_l13Less.f x236000 x236001 x237000 x237001).bind fun t242 => (if t242 = true then (spec_l13Width.L0 x0 x1 x5 (wrap64 (x8 + 1)) x225000 x225001 x237000 x237001) else (spec_l13Width.L0 x0 x1 x5 (wrap64 (x8 + 1)) x225000 x225001 x236000 x236001))) else ((spec_l13Less.f x226000 x226001 x237000 x237001).bind fun t243 => (if t243 = true then (spec_l13Width.L0 x0 x1 x5 (wrap64 (x8 + 1)) x225000 x225001 x237000 x237001) else (spec_l13Width.L0 x0 x1 x5 (wrap64 (x8 + 1)) x225000 x225001 x226000 x226001)))) := by
  refine Lim.next (fun k => (spec_l13Width.mono_l k).2.2.2 x0 x1 x5 x8 x225000 x225001 x226000 x226001 x236000 x236001 x237000 x237001) ?_
  simp only [spec_l13Width.j3]
  repeat' with_reducible first | exact Lim.const _ | exact spec_l13Width.L0_lim _ _ _ _ _ _ _ _ | refine Lim.ite ?_ ?_ | refine Lim.bind ?_ (fun _ => ?_)
theorem spec_l13Width.F_eq (l0 : List (S51)) (a1 : Int) : spec_l13Width.F l0 a1 = spec_l13Width.L0 l0 a1 (l0.length : Int) 0 2000 1 0 1 := by
  refine Lim.eq (g := fun k => spec_l13Width.f k l0 a1) ?_
  unfold spec_l13Width.f
  repeat' with_reducible first | exact Lim.const _ | exact spec_l13Width.L0_lim _ _ _ _ _ _ _ _ | refine Lim.ite ?_ ?_ | refine Lim.bind ?_ (fun _ => ?_)

noncomputable def spec_l15Reach.J0 (x0 : List (S51)) (x1 x2 x247000 x247001 : Int) : Option (Int) := lim (fun k => spec_l15Reach.j0 k x0 x1 x2 x247000 x247001)
theorem spec_l15Reach.J0_lim (x0 : List (S51)) (x1 x2 x247000 x247001 : Int) : Lim (fun k => spec_l15Reach.j0 k x0 x1 x2 x247000 x247001) (spec_l15Reach.J0 x0 x1 x2 x247000 x247001) := Lim.of (fun k => (spec_l15Reach.mono_l k).1 x0 x1 x2 x247000 x247001)
noncomputable def spec_l15Reach.L0 (x0 : List (S51)) (x1 x2 x9 x247000 x247001 : Int) : Option (Int) := lim (fun k => spec_l15Reach.l0 k x0 x1 x2 x9 x247000 x247001)
theorem spec_l15Reach.L0_lim (x0 : List (S51)) (x1 x2 x9 x247000 x247001 : Int) : Lim (fun k => spec_l15Reach.l0 k x0 x1 x2 x9 x247000 x247001) (spec_l15Reach.L0 x0 x1 x2 x9 x247000 x247001) := Lim.of (fun k => (spec_l15Reach.mono_l k).2.1 x0 x1 x2 x9 x247000 x247001)
noncomputable def spec_l15Reach.J2 (x0 : List (S51)) (x1 x2 x9 : Int) (x42 : Bool) (x247000 x247001 : Int) : Option (Int) := lim (fun k => spec_l15Reach.j2 k x0 x1 x2 x9 x42 x247000 x247001)
theorem spec_l15Reach.J2_lim (x0 : List (S51)) (x1 x2 x9 : Int) (x42 : Bool) (x247000 x247001 : Int) : Lim (fun k => spec_l15Reach.j2 k x0 x1 x2 x9 x42 x247000 x247001) (spec_l15Reach.J2 x0 x1 x2 x9 x42 x247000 x247001) := Lim.of (fun k => (spec_l15Reach.mono_l k).2.2 x0 x1 x2 x9 x42 x247000 x247001)
noncomputable def spec_l15Reach.F (l0 : List (S51)) (a1 a2 : Int) : Option (Int) := lim (fun k => spec_l15Reach.f k l0 a1 a2)
theorem spec_l15Reach.F_lim (l0 : List (S51)) (a1 a2 : Int) : Lim (fun k => spec_l15Reach.f k l0 a1 a2) (spec_l15Reach.F l0 a1 a2) := Lim.of (fun k => spec_l15Reach.mono l0 a1 a2 k)
theorem spec_l15Reach.J0_eq (x0 : List (S51)) (x1 x2 x247000 x247001 : Int) : spec_l15Reach.J0 x0 x1 x2 x247000 x247001 = spec_l15Reach.L0 x0 x1 x2 0 x247000 x247001 := by
  refine Lim.next (fun k => (spec_l15Reach.mono_l k).1 x0 x1 x2 x247000 x247001) ?_
  simp only [spec_l15Reach.j0]
  repeat' with_reducible first | exact Lim.const _ | exact spec_l15Reach.L0_lim _ _ _ _ _ _ | refine Lim.ite ?_ ?_ | refine Lim.bind ?_ (fun _ => ?_)
theorem spec_l15Reach.L0_eq (x0 : List (S51)) (x1 x2 x9 x247000 x247001 : Int) : spec_l15Reach.L0 x0 x1 x2 x9 x247000 x247001 = if x9 < (x0.length : Int) then (if 0 ≤ x9 then (if ((rd_T51 x0 x9).f1) > x1 then (spec_l15Reach.J2 x0 x1 x2 x9 (decide (((rd_T51 x0 x9).f1) < x2)) x247000 x247001) else (spec_l15Reach.J2 x0 x1 x2 x9 false x247000 x247001)) else (none)) else (if x247001 = 0 then (none) else (some (wrap64 (Int.tdiv (wrap64 ((wrap64 (x247000 + x247001)) - 1)) x247001)))) := by
  refine Lim.next (fun k => (spec_l15Reach.mono_l k).2.1 x0 x1 x2 x9 x247000 x247001) ?_
  simp only [spec_l15Reach.l0]
  repeat' with_reducible first | exact Lim.const _ | exact spec_l15Reach.J2_lim _ _ _ _ _ _ _ | refine Lim.ite ?_ ?_ | refine Lim.bind ?_ (fun _ => ?_)
theorem spec_l15Reach.J2_eq (x0 : List (S51)) (x1 x2 x9 : Int) (x42 : Bool) (x247000 x247001 : Int) : spec_l15Reach.J2 x0 x1 x2 x9 x42 x247000 x247001 = if x42 = true then (if 0 ≤ x9 then (if x9 < (x0.length : Int) then ((spec_l13Width.F x0 ((rd_T51 x0 x9).f1)).bind fun bt254 => ((spec_l13Less.f x247000 x247001 bt254.1 bt254.2).bind fun t257 => (if t257 = true then (spec_l15Reach.L0 x0 x1 x2 (wrap64 (x9 + 1)) bt254.1 bt254.2) else (spec_l15Reach.L0 x0 x1 x2 (wrap64 (x9 + 1)) x247000 x247001)))) else (none)) else (none)) else (spec_l15Reach.L0 x0 x1 x2 (wrap64 (x9 + 1)) x247000 x247001) := by
  refine Lim.next (fun k => (spec_l15Reach.mono_l k).2.2 x0 x1 x2 x9 x42 x247000 x247001) ?_
  simp only [spec_l15Reach.j2]
  repeat' with_reducible first | exact Lim.const _ | exact spec_l13Width.F_lim _ _ | exact spec_l15Reach.L0_lim _ _ _ _ _ _ | refine Lim.ite ?_ ?_ | refine Lim.bind ?_ (fun _ => ?_)
theorem spec_l15Reach.F_eq (l0 : List (S51)) (a1 a2 : Int) : spec_l15Reach.F l0 a1 a2 = (spec_l13Width.F l0 a1).bind fun bt244 => ((spec_l13Width.F l0 a2).bind fun bt247 => ((spec_l13Less.f bt244.1 bt244.2 bt247.1 bt247.2).bind fun t250 => (if t250 = true then (spec_l15Reach.J0 l0 a1 a2 bt247.1 bt247.2) else (spec_l15Reach.J0 l0 a1 a2 bt244.1 bt244.2)))) := by
  refine Lim.eq (g := fun k => spec_l15Reach.f k l0 a1 a2) ?_
  unfold spec_l15Reach.f
  repeat' with_reducible first | exact Lim.const _ | exact spec_l13Width.F_lim _ _ | exact spec_l15Reach.J0_lim _ _ _ _ _ | refine Lim.ite ?_ ?_ | refine Lim.bind ?_ (fun _ => ?_)

noncomputable def spec_l15Panels.L0 (x0 : List (S51)) (x5 : List Int) (x6 : List (S60)) (x7 x259000 x259001 x259002 : Int) : Option ((List (S60))) := lim (fun k => spec_l15Panels.l0 k x0 x5 x6 x7 x259000 x259001 x259002)
theorem spec_l15Panels.L0_lim (x0 : List (S51)) (x5 : List Int) (x6 : List (S60)) (x7 x259000 x259001 x259002 : Int) : Lim (fun k => spec_l15Panels.l0 k x0 x5 x6 x7 x259000 x259001 x259002) (spec_l15Panels.L0 x0 x5 x6 x7 x259000 x259001 x259002) := Lim.of (fun k => (spec_l15Panels.mono_l k) x0 x5 x6 x7 x259000 x259001 x259002)
noncomputable def spec_l15Panels.F (l0 : List (S51)) (a1_0 a1_1 a1_2 : Int) : Option ((List (S60))) := lim (fun k => spec_l15Panels.f k l0 a1_0 a1_1 a1_2)
theorem spec_l15Panels.F_lim (l0 : List (S51)) (a1_0 a1_1 a1_2 : Int) : Lim (fun k => spec_l15Panels.f k l0 a1_0 a1_1 a1_2) (spec_l15Panels.F l0 a1_0 a1_1 a1_2) := Lim.of (fun k => spec_l15Panels.mono l0 a1_0 a1_1 a1_2 k)
theorem spec_l15Panels.L0_eq (x0 : List (S51)) (x5 : List Int) (x6 : List (S60)) (x7 x259000 x259001 x259002 : Int) : spec_l15Panels.L0 x0 x5 x6 x7 x259000 x259001 x259002 = if x7 < (x5.length : Int) then (if 0 ≤ (wrap64 (x7 - 1)) then (if (wrap64 (x7 - 1)) < (x5.length : Int) then (if 0 ≤ x7 then ((spec_l15Reach.F x0 (rd x5 (wrap64 (x7 - 1))) (rd x5 x7)).bind fun t267 => ((spec_l00Min.f x259000 (wrap64 ((wrap64 ((rd x5 x7) - (rd x5 (wrap64 (x7 - 1))))) + x259001))).bind fun t271 => (if x6.length < 8796093022208 then (spec_l15Panels.L0 x0 x5 (x6 ++ [(⟨wrap64 (t267 + (wrap64 (2 * x259002))), t271⟩ : S60)]) (wrap64 (x7 + 1)) x259000 x259001 x259002) else (none)))) else (none)) else (none)) else (none)) else (some x6) := by
  refine Lim.next (fun k => (spec_l15Panels.mono_l k) x0 x5 x6 x7 x259000 x259001 x259002) ?_
  simp only [spec_l15Panels.l0]
  repeat' with_reducible first | exact Lim.const _ | exact spec_l15Panels.L0_lim _ _ _ _ _ _ _ | exact spec_l15Reach.F_lim _ _ _ | refine Lim.ite ?_ ?_ | refine Lim.bind ?_ (fun _ => ?_)
theorem spec_l15Panels.F_eq (l0 : List (S51)) (a1_0 a1_1 a1_2 : Int) : spec_l15Panels.F l0 a1_0 a1_1 a1_2 = (spec_l15Edges.F l0 a1_0 a1_1 a1_2).bind fun t259 => (spec_l15Panels.L0 l0 t259 (([] : List (S60))) 1 a1_0 a1_1 a1_2) := by
  refine Lim.eq (g := fun k => spec_l15Panels.f k l0 a1_0 a1_1 a1_2) ?_
  unfold spec_l15Panels.f
  repeat' with_reducible first | exact Lim.const _ | exact spec_l15Edges.F_lim _ _ _ _ | exact spec_l15Panels.L0_lim _ _ _ _ _ _ _ | refine Lim.ite ?_ ?_ | refine Lim.bind ?_ (fun _ => ?_)

noncomputable def spec_l15Waste.L0 (x0 : List (S51)) (x5 : Int) (x6 : List (S60)) (x7 x276000 x276001 x276002 : Int) : Option (Int) := lim (fun k => spec_l15Waste.l0 k x0 x5 x6 x7 x276000 x276001 x276002)
theorem spec_l15Waste.L0_lim (x0 : List (S51)) (x5 : Int) (x6 : List (S60)) (x7 x276000 x276001 x276002 : Int) : Lim (fun k => spec_l15Waste.l0 k x0 x5 x6 x7 x276000 x276001 x276002) (spec_l15Waste.L0 x0 x5 x6 x7 x276000 x276001 x276002) := Lim.of (fun k => (spec_l15Waste.mono_l k) x0 x5 x6 x7 x276000 x276001 x276002)
noncomputable def spec_l15Waste.F (l0 : List (S51)) (a1_0 a1_1 a1_2 : Int) : Option (Int) := lim (fun k => spec_l15Waste.f k l0 a1_0 a1_1 a1_2)
theorem spec_l15Waste.F_lim (l0 : List (S51)) (a1_0 a1_1 a1_2 : Int) : Lim (fun k => spec_l15Waste.f k l0 a1_0 a1_1 a1_2) (spec_l15Waste.F l0 a1_0 a1_1 a1_2) := Lim.of (fun k => spec_l15Waste.mono l0 a1_0 a1_1 a1_2 k)
theorem spec_l15Waste.L0_eq (x0 : List (S51)) (x5 : Int) (x6 : List (S60)) (x7 x276000 x276001 x276002 : Int) : spec_l15Waste.L0 x0 x5 x6 x7 x276000 x276001 x276002 = if x7 < (x6.length : Int) then (if 0 ≤ x7 then (spec_l15Waste.L0 x0 (wrap64 (x5 + (wrap64 ((wrap64 (2 * ((rd_T60 x6 x7).f0))) * x276000)))) x6 (wrap64 (x7 + 1)) x276000 x276001 x276002) else (none)) else ((spec_l13Twice.F x0).bind fun t280 => (some (wrap64 (x5 - t280)))) := by
  refine Lim.next (fun k => (spec_l15Waste.mono_l k) x0 x5 x6 x7 x276000 x276001 x276002) ?_
  simp only [spec_l15Waste.l0]
  repeat' with_reducible first | exact Lim.const _ | exact spec_l13Twice.F_lim _ | exact spec_l15Waste.L0_lim _ _ _ _ _ _ _ | refine Lim.ite ?_ ?_ | refine Lim.bind ?_ (fun _ => ?_)
theorem spec_l15Waste.F_eq (l0 : List (S51)) (a1_0 a1_1 a1_2 : Int) : spec_l15Waste.F l0 a1_0 a1_1 a1_2 = (spec_l15Panels.F l0 a1_0 a1_1 a1_2).bind fun t276 => (spec_l15Waste.L0 l0 0 t276 0 a1_0 a1_1 a1_2) := by
  refine Lim.eq (g := fun k => spec_l15Waste.f k l0 a1_0 a1_1 a1_2) ?_
  unfold spec_l15Waste.f
  repeat' with_reducible first | exact Lim.const _ | exact spec_l15Panels.F_lim _ _ _ _ | exact spec_l15Waste.L0_lim _ _ _ _ _ _ _ | refine Lim.ite ?_ ?_ | refine Lim.bind ?_ (fun _ => ?_)

noncomputable def spec_BestCloth.J0 (x0 : List (S51)) (x2 : List Int) (x20 : Bool) (x282000 x282001 x282002 : Int) : Option (Int × Int) := lim (fun k => spec_BestCloth.j0 k x0 x2 x20 x282000 x282001 x282002)
theorem spec_BestCloth.J0_lim (x0 : List (S51)) (x2 : List Int) (x20 : Bool) (x282000 x282001 x282002 : Int) : Lim (fun k => spec_BestCloth.j0 k x0 x2 x20 x282000 x282001 x282002) (spec_BestCloth.J0 x0 x2 x20 x282000 x282001 x282002) := Lim.of (fun k => (spec_BestCloth.mono_l k).1 x0 x2 x20 x282000 x282001 x282002)
noncomputable def spec_BestCloth.L0 (x0 : List (S51)) (x2 : List Int) (x8 x9 x10 x282000 x282001 x282002 : Int) : Option (Int × Int) := lim (fun k => spec_BestCloth.l0 k x0 x2 x8 x9 x10 x282000 x282001 x282002)
theorem spec_BestCloth.L0_lim (x0 : List (S51)) (x2 : List Int) (x8 x9 x10 x282000 x282001 x282002 : Int) : Lim (fun k => spec_BestCloth.l0 k x0 x2 x8 x9 x10 x282000 x282001 x282002) (spec_BestCloth.L0 x0 x2 x8 x9 x10 x282000 x282001 x282002) := Lim.of (fun k => (spec_BestCloth.mono_l k).2 x0 x2 x8 x9 x10 x282000 x282001 x282002)
noncomputable def spec_BestCloth.F (l0 : List (S51)) (a1_0 a1_1 a1_2 : Int) (l2 : List Int) : Option (Int × Int) := lim (fun k => spec_BestCloth.f k l0 a1_0 a1_1 a1_2 l2)
theorem spec_BestCloth.F_lim (l0 : List (S51)) (a1_0 a1_1 a1_2 : Int) (l2 : List Int) : Lim (fun k => spec_BestCloth.f k l0 a1_0 a1_1 a1_2 l2) (spec_BestCloth.F l0 a1_0 a1_1 a1_2 l2) := Lim.of (fun k => spec_BestCloth.mono l0 a1_0 a1_1 a1_2 l2 k)
theorem spec_BestCloth.J0_eq (x0 : List (S51)) (x2 : List Int) (x20 : Bool) (x282000 x282001 x282002 : Int) : spec_BestCloth.J0 x0 x2 x20 x282000 x282001 x282002 = if x20 = true then (some (0, 1)) else (if (x2.length : Int) > 10 then (some (0, 2)) else ((spec_l13Bulged.F x0).bind fun t284 => (if t284 = true then (spec_BestCloth.L0 x0 x2 (-1) 0 0 x282000 x282001 x282002) else (some (0, 6))))) := by
  refine Lim.next (fun k => (spec_BestCloth.mono_l k).1 x0 x2 x20 x282000 x282001 x282002) ?_
  simp only [spec_BestCloth.j0]
  repeat' with_reducible first | exact Lim.const _ | exact spec_BestCloth.L0_lim _ _ _ _ _ _ _ _ | exact spec_l13Bulged.F_lim _ | refine Lim.ite ?_ ?_ | refine Lim.bind ?_ (fun _ => ?_)
theorem spec_BestCloth.L0_eq (x0 : List (S51)) (x2 : List Int) (x8 x9 x10 x282000 x282001 x282002 : Int) : spec_BestCloth.L0 x0 x2 x8 x9 x10 x282000 x282001 x282002 = if x10 < (x2.length : Int) then (if 0 ≤ x10 then ((spec_l15Code.F x0 (rd x2 x10) x282001 x282002).bind fun t287 => (if t287 = 0 then ((spec_l15Waste.F x0 (rd x2 x10) x282001 x282002).bind fun t288 => (if x8 < 0 then (spec_BestCloth.L0 x0 x2 x10 t288 (wrap64 (x10 + 1)) x282000 x282001 x282002) else (if t288 < x9 then (spec_BestCloth.L0 x0 x2 x10 t288 (wrap64 (x10 + 1)) x282000 x282001 x282002) else (spec_BestCloth.L0 x0 x2 x8 x9 (wrap64 (x10 + 1)) x282000 x282001 x282002)))) else (spec_BestCloth.L0 x0 x2 x8 x9 (wrap64 (x10 + 1)) x282000 x282001 x282002))) else (none)) else (if x8 < 0 then (some (0, 3)) else (some (x8, 0))) := by
  refine Lim.next (fun k => (spec_BestCloth.mono_l k).2 x0 x2 x8 x9 x10 x282000 x282001 x282002) ?_
  simp only [spec_BestCloth.l0]
  repeat' with_reducible first | exact Lim.const _ | exact spec_BestCloth.L0_lim _ _ _ _ _ _ _ _ | exact spec_l15Code.F_lim _ _ _ _ | exact spec_l15Waste.F_lim _ _ _ _ | refine Lim.ite ?_ ?_ | refine Lim.bind ?_ (fun _ => ?_)
theorem spec_BestCloth.F_eq (l0 : List (S51)) (a1_0 a1_1 a1_2 : Int) (l2 : List Int) : spec_BestCloth.F l0 a1_0 a1_1 a1_2 l2 = (spec_l13Ok.F l0).bind fun t282 => (if t282 = true then ((spec_l15Ok.f a1_0 a1_1 a1_2).bind fun t283 => (spec_BestCloth.J0 l0 l2 (!t283) a1_0 a1_1 a1_2)) else (spec_BestCloth.J0 l0 l2 true a1_0 a1_1 a1_2)) := by
  refine Lim.eq (g := fun k => spec_BestCloth.f k l0 a1_0 a1_1 a1_2 l2) ?_
  unfold spec_BestCloth.f
  repeat' with_reducible first | exact Lim.const _ | exact spec_BestCloth.J0_lim _ _ _ _ _ _ | exact spec_l13Ok.F_lim _ | refine Lim.ite ?_ ?_ | refine Lim.bind ?_ (fun _ => ?_)

noncomputable def laws_toInt64S.L0 (x0 x3 : List Int) (x4 : Int) : Option (List Int) := lim (fun k => laws_toInt64S.l0 k x0 x3 x4)
theorem laws_toInt64S.L0_lim (x0 x3 : List Int) (x4 : Int) : Lim (fun k => laws_toInt64S.l0 k x0 x3 x4) (laws_toInt64S.L0 x0 x3 x4) := Lim.of (fun k => (laws_toInt64S.mono_l k) x0 x3 x4)
noncomputable def laws_toInt64S.F (l0 : List Int) : Option (List Int) := lim (fun k => laws_toInt64S.f k l0)
theorem laws_toInt64S.F_lim (l0 : List Int) : Lim (fun k => laws_toInt64S.f k l0) (laws_toInt64S.F l0) := Lim.of (fun k => laws_toInt64S.mono l0 k)
theorem laws_toInt64S.L0_eq (x0 x3 : List Int) (x4 : Int) : laws_toInt64S.L0 x0 x3 x4 = if x4 < (x0.length : Int) then (if 0 ≤ x4 then (if x4 < (x3.length : Int) then (laws_toInt64S.L0 x0 (x3.set (x4 : Int).toNat (rd x0 x4)) (wrap64 (x4 + 1))) else (none)) else (none)) else (some x3) := by
  refine Lim.next (fun k => (laws_toInt64S.mono_l k) x0 x3 x4) ?_
  simp only [laws_toInt64S.l0]
  repeat' with_reducible first | exact Lim.const _ | exact laws_toInt64S.L0_lim _ _ _ | refine Lim.ite ?_ ?_ | refine Lim.bind ?_ (fun _ => ?_)
theorem laws_toInt64S.F_eq (l0 : List Int) : laws_toInt64S.F l0 = if 0 ≤ (l0.length : Int) then (if ((l0.length : Int) : Int).toNat ≤ 35184372088832 then (laws_toInt64S.L0 l0 (List.replicate ((l0.length : Int) : Int).toNat 0) 0) else (none)) else (none) := by
  refine Lim.eq (g := fun k => laws_toInt64S.f k l0) ?_
  unfold laws_toInt64S.f
  repeat' with_reducible first | exact Lim.const _ | exact laws_toInt64S.L0_lim _ _ _ | refine Lim.ite ?_ ?_ | refine Lim.bind ?_ (fun _ => ?_)

noncomputable def impl_heightsOf.L0 (x4 x5 : Int) (x16 : List (S51)) (x17 x18 : Int) : Option (Int × Int) := lim (fun k => impl_heightsOf.l0 k x4 x5 x16 x17 x18)
theorem impl_heightsOf.L0_lim (x4 x5 : Int) (x16 : List (S51)) (x17 x18 : Int) : Lim (fun k => impl_heightsOf.l0 k x4 x5 x16 x17 x18) (impl_heightsOf.L0 x4 x5 x16 x17 x18) := Lim.of (fun k => (impl_heightsOf.mono_l k) x4 x5 x16 x17 x18)
noncomputable def impl_heightsOf.F (l0 : List (S51)) : Option (Int × Int) := lim (fun k => impl_heightsOf.f k l0)
theorem impl_heightsOf.F_lim (l0 : List (S51)) : Lim (fun k => impl_heightsOf.f k l0) (impl_heightsOf.F l0) := Lim.of (fun k => impl_heightsOf.mono l0 k)
theorem impl_heightsOf.L0_eq (x4 x5 : Int) (x16 : List (S51)) (x17 x18 : Int) : impl_heightsOf.L0 x4 x5 x16 x17 x18 = if x18 < x17 then (if 0 ≤ x18 then (if x18 < (x16.length : Int) then (impl_heightsOf.L0 (mn x4 ((rd_T51 x16 x18).f1)) (mx x5 ((rd_T51 x16 x18).f1)) x16 x17 (wrap64 (x18 + 1))) else (none)) else (none)) else (some (x4, x5)) := by
  refine Lim.next (fun k => (impl_heightsOf.mono_l k) x4 x5 x16 x17 x18) ?_
  simp only [impl_heightsOf.l0]
  repeat' with_reducible first | exact Lim.const _ | exact impl_heightsOf.L0_lim _ _ _ _ _ | refine Lim.ite ?_ ?_ | refine Lim.bind ?_ (fun _ => ?_)
theorem impl_heightsOf.F_eq (l0 : List (S51)) : impl_heightsOf.F l0 = if 0 < (l0.length : Int) then (impl_heightsOf.L0 ((rd_T51 l0 0).f1) ((rd_T51 l0 0).f1) l0 (l0.length : Int) 0) else (none) := by
  refine Lim.eq (g := fun k => impl_heightsOf.f k l0) ?_
  unfold impl_heightsOf.f
  repeat' with_reducible first | exact Lim.const _ | exact impl_heightsOf.L0_lim _ _ _ _ _ | refine Lim.ite ?_ ?_ | refine Lim.bind ?_ (fun _ => ?_)

noncomputable def impl_panelEdges.L0 (x6 : Int) (x7 : List Int) (x8 x299000 x299001 x299002 : Int) : Option (List Int) := lim (fun k => impl_panelEdges.l0 k x6 x7 x8 x299000 x299001 x299002)
theorem impl_panelEdges.L0_lim (x6 : Int) (x7 : List Int) (x8 x299000 x299001 x299002 : Int) : Lim (fun k => impl_panelEdges.l0 k x6 x7 x8 x299000 x299001 x299002) (impl_panelEdges.L0 x6 x7 x8 x299000 x299001 x299002) := Lim.of (fun k => (impl_panelEdges.mono_l k) x6 x7 x8 x299000 x299001 x299002)
noncomputable def impl_panelEdges.F (l0 : List (S51)) (a1_0 a1_1 a1_2 : Int) : Option (List Int) := lim (fun k => impl_panelEdges.f k l0 a1_0 a1_1 a1_2)
theorem impl_panelEdges.F_lim (l0 : List (S51)) (a1_0 a1_1 a1_2 : Int) : Lim (fun k => impl_panelEdges.f k l0 a1_0 a1_1 a1_2) (impl_panelEdges.F l0 a1_0 a1_1 a1_2) := Lim.of (fun k => impl_panelEdges.mono l0 a1_0 a1_1 a1_2 k)
theorem impl_panelEdges.L0_eq (x6 : Int) (x7 : List Int) (x8 x299000 x299001 x299002 : Int) : impl_panelEdges.L0 x6 x7 x8 x299000 x299001 x299002 = if x8 < x6 then (if x7.length < 17592186044416 then (impl_panelEdges.L0 x6 (x7 ++ [x8]) (wrap64 (x8 + (wrap64 (x299000 - x299001)))) x299000 x299001 x299002) else (none)) else (if x7.length < 17592186044416 then (some (x7 ++ [x6])) else (none)) := by
  refine Lim.next (fun k => (impl_panelEdges.mono_l k) x6 x7 x8 x299000 x299001 x299002) ?_
  simp only [impl_panelEdges.l0]
  repeat' with_reducible first | exact Lim.const _ | exact impl_panelEdges.L0_lim _ _ _ _ _ _ | refine Lim.ite ?_ ?_ | refine Lim.bind ?_ (fun _ => ?_)
theorem impl_panelEdges.F_eq (l0 : List (S51)) (a1_0 a1_1 a1_2 : Int) : impl_panelEdges.F l0 a1_0 a1_1 a1_2 = (impl_heightsOf.F l0).bind fun bt299 => (impl_panelEdges.L0 bt299.2 (([] : List Int)) bt299.1 a1_0 a1_1 a1_2) := by
  refine Lim.eq (g := fun k => impl_panelEdges.f k l0 a1_0 a1_1 a1_2) ?_
  unfold impl_panelEdges.f
  repeat' with_reducible first | exact Lim.const _ | exact impl_heightsOf.F_lim _ | exact impl_panelEdges.L0_lim _ _ _ _ _ _ | refine Lim.ite ?_ ?_ | refine Lim.bind ?_ (fun _ => ?_)

noncomputable def impl_twiceSail.L0 (x0 : List (S51)) (x3 : Int) (x7 : List (S51)) (x8 x9 : Int) : Option (Int) := lim (fun k => impl_twiceSail.l0 k x0 x3 x7 x8 x9)
theorem impl_twiceSail.L0_lim (x0 : List (S51)) (x3 : Int) (x7 : List (S51)) (x8 x9 : Int) : Lim (fun k => impl_twiceSail.l0 k x0 x3 x7 x8 x9) (impl_twiceSail.L0 x0 x3 x7 x8 x9) := Lim.of (fun k => (impl_twiceSail.mono_l k) x0 x3 x7 x8 x9)
noncomputable def impl_twiceSail.F (l0 : List (S51)) : Option (Int) := lim (fun k => impl_twiceSail.f k l0)
theorem impl_twiceSail.F_lim (l0 : List (S51)) : Lim (fun k => impl_twiceSail.f k l0) (impl_twiceSail.F l0) := Lim.of (fun k => impl_twiceSail.mono l0 k)
theorem impl_twiceSail.L0_eq (x0 : List (S51)) (x3 : Int) (x7 : List (S51)) (x8 x9 : Int) : impl_twiceSail.L0 x0 x3 x7 x8 x9 = if x9 < x8 then (if 0 ≤ x9 then (if x9 < (x7.length : Int) then (if (x0.length : Int) = 0 then (none) else (if 0 ≤ (Int.tmod (wrap64 (x9 + 1)) (x0.length : Int)) then (if (Int.tmod (wrap64 (x9 + 1)) (x0.length : Int)) < (x0.length : Int) then (impl_twiceSail.L0 x0 (wrap64 (x3 + (wrap64 ((wrap64 (((rd_T51 x7 x9).f0) * ((rd_T51 x0 (Int.tmod (wrap64 (x9 + 1)) (x0.length : Int))).f1))) - (wrap64 (((rd_T51 x0 (Int.tmod (wrap64 (x9 + 1)) (x0.length : Int))).f0) * ((rd_T51 x7 x9).f1))))))) x7 x8 (wrap64 (x9 + 1))) else (none)) else (none))) else (none)) else (none)) else (some x3) := by
  refine Lim.next (fun k => (impl_twiceSail.mono_l k) x0 x3 x7 x8 x9) ?_
  simp only [impl_twiceSail.l0]
  repeat' with_reducible first | exact Lim.const _ | exact impl_twiceSail.L0_lim _ _ _ _ _ | refine Lim.ite ?_ ?_ | refine Lim.bind ?_ (fun _ => ?_)
theorem impl_twiceSail.F_eq (l0 : List (S51)) : impl_twiceSail.F l0 = impl_twiceSail.L0 l0 0 l0 (l0.length : Int) 0 := by
  refine Lim.eq (g := fun k => impl_twiceSail.f k l0) ?_
  unfold impl_twiceSail.f
  repeat' with_reducible first | exact Lim.const _ | exact impl_twiceSail.L0_lim _ _ _ _ _ | refine Lim.ite ?_ ?_ | refine Lim.bind ?_ (fun _ => ?_)

noncomputable def impl_edgesMeet.J0 (x9 x10 x11 x12 : Int) (x42 : Bool) (x323000 x323001 x324000 x324001 x325000 x325001 x326000 x326001 : Int) : Option (Bool) := lim (fun k => impl_edgesMeet.j0 k x9 x10 x11 x12 x42 x323000 x323001 x324000 x324001 x325000 x325001 x326000 x326001)
theorem impl_edgesMeet.J0_lim (x9 x10 x11 x12 : Int) (x42 : Bool) (x323000 x323001 x324000 x324001 x325000 x325001 x326000 x326001 : Int) : Lim (fun k => impl_edgesMeet.j0 k x9 x10 x11 x12 x42 x323000 x323001 x324000 x324001 x325000 x325001 x326000 x326001) (impl_edgesMeet.J0 x9 x10 x11 x12 x42 x323000 x323001 x324000 x324001 x325000 x325001 x326000 x326001) := Lim.of (fun k => (impl_edgesMeet.mono_l k) x9 x10 x11 x12 x42 x323000 x323001 x324000 x324001 x325000 x325001 x326000 x326001)
noncomputable def impl_edgesMeet.F (a0_0 a0_1 a1_0 a1_1 a2_0 a2_1 a3_0 a3_1 : Int) : Option (Bool) := lim (fun k => impl_edgesMeet.f k a0_0 a0_1 a1_0 a1_1 a2_0 a2_1 a3_0 a3_1)
theorem impl_edgesMeet.F_lim (a0_0 a0_1 a1_0 a1_1 a2_0 a2_1 a3_0 a3_1 : Int) : Lim (fun k => impl_edgesMeet.f k a0_0 a0_1 a1_0 a1_1 a2_0 a2_1 a3_0 a3_1) (impl_edgesMeet.F a0_0 a0_1 a1_0 a1_1 a2_0 a2_1 a3_0 a3_1) := Lim.of (fun k => impl_edgesMeet.mono a0_0 a0_1 a1_0 a1_1 a2_0 a2_1 a3_0 a3_1 k)
theorem impl_edgesMeet.J0_eq (x9 x10 x11 x12 : Int) (x42 : Bool) (x323000 x323001 x324000 x324001 x325000 x325001 x326000 x326001 : Int) : impl_edgesMeet.J0 x9 x10 x11 x12 x42 x323000 x323001 x324000 x324001 x325000 x325001 x326000 x326001 = if x42 = true then (some true) else (if x9 = 0 then ((impl_between.f x323000 x323001 x324000 x324001 x325000 x325001).bind fun t334 => (if t334 = true then (some true) else (if x10 = 0 then ((impl_between.f x323000 x323001 x324000 x324001 x326000 x326001).bind fun t335 => (if t335 = true then (some true) else (if x11 = 0 then ((impl_between.f x325000 x325001 x326000 x326001 x323000 x323001).bind fun t336 => (if t336 = true then (some true) else (if x12 = 0 then ((impl_between.f x325000 x325001 x326000 x326001 x324000 x324001).bind fun t337 => (some t337)) else (some false)))) else (if x12 = 0 then ((impl_between.f x325000 x325001 x326000 x326001 x324000 x324001).bind fun t338 => (some t338)) else (some false))))) else (if x11 = 0 then ((impl_between.f x325000 x325001 x326000 x326001 x323000 x323001).bind fun t339 => (if t339 = true then (some true) else (if x12 = 0 then ((impl_between.f x325000 x325001 x326000 x326001 x324000 x324001).bind fun t340 => (some t340)) else (some false)))) else (if x12 = 0 then ((impl_between.f x325000 x325001 x326000 x326001 x324000 x324001).bind fun t341 => (some t341)) else (some false)))))) else (if x10 = 0 then ((impl_between.f x323000 x323001 x324000 x324001 x326000 x326001).bind fun t342 => (if t342 = true then (some true) else (if x11 = 0 then ((impl_between.f x325000 x325001 x326000 x326001 x323000 x323001).bind fun t343 => (if t343 = true then (some true) else (if x12 = 0 then ((impl_between.f x325000 x325001 x326000 x326001 x324000 x324001).bind fun t344 => (some t344)) else (some false)))) else (if x12 = 0 then ((impl_between.f x325000 x325001 x326000 x326001 x324000 x324001).bind fun t345 => (some t345)) else (some false))))) else (if x11 = 0 then ((impl_between.f x325000 x325001 x326000 x326001 x323000 x323001).bind fun t346 => (if t346 = true then (some true) else (if x12 = 0 then ((impl_between.f x325000 x325001 x326000 x326001 x324000 x324001).bind fun t347 => (some t347)) else (some false)))) else (if x12 = 0 then ((impl_between.f x325000 x325001 x326000 x326001 x324000 x324001).bind fun t348 => (some t348)) else (some false))))) := by
  refine Lim.next (fun k => (impl_edgesMeet.mono_l k) x9 x10 x11 x12 x42 x323000 x323001 x324000 x324001 x325000 x325001 x326000 x326001) ?_
  simp only [impl_edgesMeet.j0]
  repeat' with_reducible first | exact Lim.const _ | refine Lim.ite ?_ ?_ | refine Lim.bind ?_ (fun _ => ?_)
theorem impl_edgesMeet.F_eq (a0_0 a0_1 a1_0 a1_1 a2_0 a2_1 a3_0 a3_1 : Int) : impl_edgesMeet.F a0_0 a0_1 a1_0 a1_1 a2_0 a2_1 a3_0 a3_1 = (impl_turnAt.f a0_0 a0_1 a1_0 a1_1 a2_0 a2_1).bind fun t326 => ((impl_turnAt.f a0_0 a0_1 a1_0 a1_1 a3_0 a3_1).bind fun t327 => ((impl_turnAt.f a2_0 a2_1 a3_0 a3_1 a0_0 a0_1).bind fun t328 => ((impl_turnAt.f a2_0 a2_1 a3_0 a3_1 a1_0 a1_1).bind fun t329 => ((impl_sign.f t326).bind fun t330 => ((impl_sign.f t327).bind fun t331 => (if (wrap64 (t330 * t331)) < 0 then ((impl_sign.f t328).bind fun t332 => ((impl_sign.f t329).bind fun t333 => (impl_edgesMeet.J0 t326 t327 t328 t329 (decide ((wrap64 (t332 * t333)) < 0)) a0_0 a0_1 a1_0 a1_1 a2_0 a2_1 a3_0 a3_1))) else (impl_edgesMeet.J0 t326 t327 t328 t329 false a0_0 a0_1 a1_0 a1_1 a2_0 a2_1 a3_0 a3_1))))))) := by
  refine Lim.eq (g := fun k => impl_edgesMeet.f k a0_0 a0_1 a1_0 a1_1 a2_0 a2_1 a3_0 a3_1) ?_
  unfold impl_edgesMeet.f
  repeat' with_reducible first | exact Lim.const _ | exact impl_edgesMeet.J0_lim _ _ _ _ _ _ _ _ _ _ _ _ _ | refine Lim.ite ?_ ?_ | refine Lim.bind ?_ (fun _ => ?_)

noncomputable def impl_ValidSail.J0 (x0 : List (S51)) (x3 : Int) (x16 : Bool) : Option (Bool) := lim (fun k => impl_ValidSail.j0 k x0 x3 x16)
theorem impl_ValidSail.J0_lim (x0 : List (S51)) (x3 : Int) (x16 : Bool) : Lim (fun k => impl_ValidSail.j0 k x0 x3 x16) (impl_ValidSail.J0 x0 x3 x16) := Lim.of (fun k => (impl_ValidSail.mono_l k).1 x0 x3 x16)
noncomputable def impl_ValidSail.L0 (x0 : List (S51)) (x3 : Int) (x17 : List (S51)) (x18 x19 : Int) : Option (Bool) := lim (fun k => impl_ValidSail.l0 k x0 x3 x17 x18 x19)
theorem impl_ValidSail.L0_lim (x0 : List (S51)) (x3 : Int) (x17 : List (S51)) (x18 x19 : Int) : Lim (fun k => impl_ValidSail.l0 k x0 x3 x17 x18 x19) (impl_ValidSail.L0 x0 x3 x17 x18 x19) := Lim.of (fun k => (impl_ValidSail.mono_l k).2.1 x0 x3 x17 x18 x19)
noncomputable def impl_ValidSail.L1 (x0 : List (S51)) (x3 x35 x36 : Int) : Option (Bool) := lim (fun k => impl_ValidSail.l1 k x0 x3 x35 x36)
theorem impl_ValidSail.L1_lim (x0 : List (S51)) (x3 x35 x36 : Int) : Lim (fun k => impl_ValidSail.l1 k x0 x3 x35 x36) (impl_ValidSail.L1 x0 x3 x35 x36) := Lim.of (fun k => (impl_ValidSail.mono_l k).2.2.1 x0 x3 x35 x36)
noncomputable def impl_ValidSail.L2 (x0 : List (S51)) (x3 x61 x62 : Int) : Option (Bool) := lim (fun k => impl_ValidSail.l2 k x0 x3 x61 x62)
theorem impl_ValidSail.L2_lim (x0 : List (S51)) (x3 x61 x62 : Int) : Lim (fun k => impl_ValidSail.l2 k x0 x3 x61 x62) (impl_ValidSail.L2 x0 x3 x61 x62) := Lim.of (fun k => (impl_ValidSail.mono_l k).2.2.2.1 x0 x3 x61 x62)
noncomputable def impl_ValidSail.L3 (x0 : List (S51)) (x3 x7 x8 x61 x62 : Int) : Option (Bool) := lim (fun k => impl_ValidSail.l3 k x0 x3 x7 x8 x61 x62)
theorem impl_ValidSail.L3_lim (x0 : List (S51)) (x3 x7 x8 x61 x62 : Int) : Lim (fun k => impl_ValidSail.l3 k x0 x3 x7 x8 x61 x62) (impl_ValidSail.L3 x0 x3 x7 x8 x61 x62) := Lim.of (fun k => (impl_ValidSail.mono_l k).2.2.2.2 x0 x3 x7 x8 x61 x62)
noncomputable def impl_ValidSail.F (l0 : List (S51)) : Option (Bool) := lim (fun k => impl_ValidSail.f k l0)
theorem impl_ValidSail.F_lim (l0 : List (S51)) : Lim (fun k => impl_ValidSail.f k l0) (impl_ValidSail.F l0) := Lim.of (fun k => impl_ValidSail.mono l0 k)
theorem impl_ValidSail.J0_eq (x0 : List (S51)) (x3 : Int) (x16 : Bool) : impl_ValidSail.J0 x0 x3 x16 = if x16 = true then (some false) else (impl_ValidSail.L0 x0 x3 x0 (x0.length : Int) 0) := by
  refine Lim.next (fun k => (impl_ValidSail.mono_l k).1 x0 x3 x16) ?_
  simp only [impl_ValidSail.j0]
  repeat' with_reducible first | exact Lim.const _ | exact impl_ValidSail.L0_lim _ _ _ _ _ | refine Lim.ite ?_ ?_ | refine Lim.bind ?_ (fun _ => ?_)
theorem impl_ValidSail.L0_eq (x0 : List (S51)) (x3 : Int) (x17 : List (S51)) (x18 x19 : Int) : impl_ValidSail.L0 x0 x3 x17 x18 x19 = if x19 < x18 then (if 0 ≤ x19 then (if x19 < (x17.length : Int) then ((impl_within.f ((rd_T51 x17 x19).f0) 0 2000).bind fun t351 => (if t351 = true then ((impl_within.f ((rd_T51 x17 x19).f1) 0 2000).bind fun t352 => (if t352 = true then (impl_ValidSail.L0 x0 x3 x17 x18 (wrap64 (x19 + 1))) else (some false))) else (some false))) else (none)) else (none)) else (impl_ValidSail.L1 x0 x3 (x0.length : Int) 0) := by
  refine Lim.next (fun k => (impl_ValidSail.mono_l k).2.1 x0 x3 x17 x18 x19) ?_
  simp only [impl_ValidSail.l0]
  repeat' with_reducible first | exact Lim.const _ | exact impl_ValidSail.L0_lim _ _ _ _ _ | exact impl_ValidSail.L1_lim _ _ _ _ | refine Lim.ite ?_ ?_ | refine Lim.bind ?_ (fun _ => ?_)
theorem impl_ValidSail.L1_eq (x0 : List (S51)) (x3 x35 x36 : Int) : impl_ValidSail.L1 x0 x3 x35 x36 = if x36 < x35 then (if 0 ≤ x36 then (if x36 < (x0.length : Int) then (if x3 = 0 then (none) else (if 0 ≤ (Int.tmod (wrap64 (x36 + 1)) x3) then (if (Int.tmod (wrap64 (x36 + 1)) x3) < (x0.length : Int) then (if 0 ≤ (Int.tmod (wrap64 (x36 + 2)) x3) then (if (Int.tmod (wrap64 (x36 + 2)) x3) < (x0.length : Int) then ((impl_turnAt.f ((rd_T51 x0 x36).f0) ((rd_T51 x0 x36).f1) ((rd_T51 x0 (Int.tmod (wrap64 (x36 + 1)) x3)).f0) ((rd_T51 x0 (Int.tmod (wrap64 (x36 + 1)) x3)).f1) ((rd_T51 x0 (Int.tmod (wrap64 (x36 + 2)) x3)).f0) ((rd_T51 x0 (Int.tmod (wrap64 (x36 + 2)) x3)).f1)).bind fun t356 => (if t356 = 0 then (some false) else (impl_ValidSail.L1 x0 x3 x35 (wrap64 (x36 + 1))))) else (none)) else (none)) else (none)) else (none))) else (none)) else (none)) else (impl_ValidSail.L2 x0 x3 (x0.length : Int) 0) := by
  refine Lim.next (fun k => (impl_ValidSail.mono_l k).2.2.1 x0 x3 x35 x36) ?_
  simp only [impl_ValidSail.l1]
  repeat' with_reducible first | exact Lim.const _ | exact impl_ValidSail.L1_lim _ _ _ _ | exact impl_ValidSail.L2_lim _ _ _ _ | refine Lim.ite ?_ ?_ | refine Lim.bind ?_ (fun _ => ?_)
theorem impl_ValidSail.L2_eq (x0 : List (S51)) (x3 x61 x62 : Int) : impl_ValidSail.L2 x0 x3 x61 x62 = if x62 < x61 then (impl_ValidSail.L3 x0 x3 x62 (wrap64 (x62 + 2)) x61 x62) else ((impl_twiceSail.F x0).bind fun t357 => (some (decide (t357 > 0)))) := by
  refine Lim.next (fun k => (impl_ValidSail.mono_l k).2.2.2.1 x0 x3 x61 x62) ?_
  simp only [impl_ValidSail.l2]
  repeat' with_reducible first | exact Lim.const _ | exact impl_ValidSail.L3_lim _ _ _ _ _ _ | exact impl_twiceSail.F_lim _ | refine Lim.ite ?_ ?_ | refine Lim.bind ?_ (fun _ => ?_)
theorem impl_ValidSail.L3_eq (x0 : List (S51)) (x3 x7 x8 x61 x62 : Int) : impl_ValidSail.L3 x0 x3 x7 x8 x61 x62 = if x8 < x3 then (if x3 = 0 then (none) else (if (Int.tmod (wrap64 (x8 + 1)) x3) = x7 then (impl_ValidSail.L3 x0 x3 x7 (wrap64 (x8 + 1)) x61 x62) else (if 0 ≤ x7 then (if x7 < (x0.length : Int) then (if 0 ≤ (wrap64 (x7 + 1)) then (if (wrap64 (x7 + 1)) < (x0.length : Int) then (if 0 ≤ x8 then (if x8 < (x0.length : Int) then (if 0 ≤ (Int.tmod (wrap64 (x8 + 1)) x3) then (if (Int.tmod (wrap64 (x8 + 1)) x3) < (x0.length : Int) then ((impl_edgesMeet.F ((rd_T51 x0 x7).f0) ((rd_T51 x0 x7).f1) ((rd_T51 x0 (wrap64 (x7 + 1))).f0) ((rd_T51 x0 (wrap64 (x7 + 1))).f1) ((rd_T51 x0 x8).f0) ((rd_T51 x0 x8).f1) ((rd_T51 x0 (Int.tmod (wrap64 (x8 + 1)) x3)).f0) ((rd_T51 x0 (Int.tmod (wrap64 (x8 + 1)) x3)).f1)).bind fun t362 => (if t362 = true then (some false) else (impl_ValidSail.L3 x0 x3 x7 (wrap64 (x8 + 1)) x61 x62))) else (none)) else (none)) else (none)) else (none)) else (none)) else (none)) else (none)) else (none)))) else (impl_ValidSail.L2 x0 x3 x61 (wrap64 (x62 + 1))) := by
  refine Lim.next (fun k => (impl_ValidSail.mono_l k).2.2.2.2 x0 x3 x7 x8 x61 x62) ?_
  simp only [impl_ValidSail.l3]
  repeat' with_reducible first | exact Lim.const _ | exact impl_ValidSail.L2_lim _ _ _ _ | exact impl_ValidSail.L3_lim _ _ _ _ _ _ | exact impl_edgesMeet.F_lim _ _ _ _ _ _ _ _ | refine Lim.ite ?_ ?_ | refine Lim.bind ?_ (fun _ => ?_)
theorem impl_ValidSail.F_eq (l0 : List (S51)) : impl_ValidSail.F l0 = if (l0.length : Int) < 3 then (impl_ValidSail.J0 l0 (l0.length : Int) true) else (impl_ValidSail.J0 l0 (l0.length : Int) (decide ((l0.length : Int) > 8))) := by
  refine Lim.eq (g := fun k => impl_ValidSail.f k l0) ?_
  unfold impl_ValidSail.f
  repeat' with_reducible first | exact Lim.const _ | exact impl_ValidSail.J0_lim _ _ _ | refine Lim.ite ?_ ?_ | refine Lim.bind ?_ (fun _ => ?_)

noncomputable def impl_isBulged.L0 (x0 : List (S51)) (x3 x8 x9 : Int) : Option (Bool) := lim (fun k => impl_isBulged.l0 k x0 x3 x8 x9)
theorem impl_isBulged.L0_lim (x0 : List (S51)) (x3 x8 x9 : Int) : Lim (fun k => impl_isBulged.l0 k x0 x3 x8 x9) (impl_isBulged.L0 x0 x3 x8 x9) := Lim.of (fun k => (impl_isBulged.mono_l k) x0 x3 x8 x9)
noncomputable def impl_isBulged.F (l0 : List (S51)) : Option (Bool) := lim (fun k => impl_isBulged.f k l0)
theorem impl_isBulged.F_lim (l0 : List (S51)) : Lim (fun k => impl_isBulged.f k l0) (impl_isBulged.F l0) := Lim.of (fun k => impl_isBulged.mono l0 k)
theorem impl_isBulged.L0_eq (x0 : List (S51)) (x3 x8 x9 : Int) : impl_isBulged.L0 x0 x3 x8 x9 = if x9 < x8 then (if 0 ≤ x9 then (if x9 < (x0.length : Int) then (if x3 = 0 then (none) else (if 0 ≤ (Int.tmod (wrap64 (x9 + 1)) x3) then (if (Int.tmod (wrap64 (x9 + 1)) x3) < (x0.length : Int) then (if 0 ≤ (Int.tmod (wrap64 (x9 + 2)) x3) then (if (Int.tmod (wrap64 (x9 + 2)) x3) < (x0.length : Int) then ((impl_turnAt.f ((rd_T51 x0 x9).f0) ((rd_T51 x0 x9).f1) ((rd_T51 x0 (Int.tmod (wrap64 (x9 + 1)) x3)).f0) ((rd_T51 x0 (Int.tmod (wrap64 (x9 + 1)) x3)).f1) ((rd_T51 x0 (Int.tmod (wrap64 (x9 + 2)) x3)).f0) ((rd_T51 x0 (Int.tmod (wrap64 (x9 + 2)) x3)).f1)).bind fun t370 => (if t370 < 0 then (some false) else (impl_isBulged.L0 x0 x3 x8 (wrap64 (x9 + 1))))) else (none)) else (none)) else (none)) else (none))) else (none)) else (none)) else (some true) := by
  refine Lim.next (fun k => (impl_isBulged.mono_l k) x0 x3 x8 x9) ?_
  simp only [impl_isBulged.l0]
  repeat' with_reducible first | exact Lim.const _ | exact impl_isBulged.L0_lim _ _ _ _ | refine Lim.ite ?_ ?_ | refine Lim.bind ?_ (fun _ => ?_)
theorem impl_isBulged.F_eq (l0 : List (S51)) : impl_isBulged.F l0 = impl_isBulged.L0 l0 (l0.length : Int) (l0.length : Int) 0 := by
  refine Lim.eq (g := fun k => impl_isBulged.f k l0) ?_
  unfold impl_isBulged.f
  repeat' with_reducible first | exact Lim.const _ | exact impl_isBulged.L0_lim _ _ _ _ | refine Lim.ite ?_ ?_ | refine Lim.bind ?_ (fun _ => ?_)

noncomputable def impl_weaveCode.J0 (x0 : List (S51)) (x5 : Bool) (x372000 x372001 x372002 : Int) : Option (Int) := lim (fun k => impl_weaveCode.j0 k x0 x5 x372000 x372001 x372002)
theorem impl_weaveCode.J0_lim (x0 : List (S51)) (x5 : Bool) (x372000 x372001 x372002 : Int) : Lim (fun k => impl_weaveCode.j0 k x0 x5 x372000 x372001 x372002) (impl_weaveCode.J0 x0 x5 x372000 x372001 x372002) := Lim.of (fun k => (impl_weaveCode.mono_l k) x0 x5 x372000 x372001 x372002)
noncomputable def impl_weaveCode.F (l0 : List (S51)) (a1_0 a1_1 a1_2 : Int) : Option (Int) := lim (fun k => impl_weaveCode.f k l0 a1_0 a1_1 a1_2)
theorem impl_weaveCode.F_lim (l0 : List (S51)) (a1_0 a1_1 a1_2 : Int) : Lim (fun k => impl_weaveCode.f k l0 a1_0 a1_1 a1_2) (impl_weaveCode.F l0 a1_0 a1_1 a1_2) := Lim.of (fun k => impl_weaveCode.mono l0 a1_0 a1_1 a1_2 k)
theorem impl_weaveCode.J0_eq (x0 : List (S51)) (x5 : Bool) (x372000 x372001 x372002 : Int) : impl_weaveCode.J0 x0 x5 x372000 x372001 x372002 = if x5 = true then (some 1) else ((impl_isBulged.F x0).bind fun t374 => (if t374 = true then ((impl_panelEdges.F x0 x372000 x372001 x372002).bind fun t375 => (if (t375.length : Int) > 41 then (some 5) else (some 0))) else (some 6))) := by
  refine Lim.next (fun k => (impl_weaveCode.mono_l k) x0 x5 x372000 x372001 x372002) ?_
  simp only [impl_weaveCode.j0]
  repeat' with_reducible first | exact Lim.const _ | exact impl_isBulged.F_lim _ | exact impl_panelEdges.F_lim _ _ _ _ | refine Lim.ite ?_ ?_ | refine Lim.bind ?_ (fun _ => ?_)
theorem impl_weaveCode.F_eq (l0 : List (S51)) (a1_0 a1_1 a1_2 : Int) : impl_weaveCode.F l0 a1_0 a1_1 a1_2 = (impl_ValidSail.F l0).bind fun t372 => (if t372 = true then ((impl_ValidWeave.f a1_0 a1_1 a1_2).bind fun t373 => (impl_weaveCode.J0 l0 (!t373) a1_0 a1_1 a1_2)) else (impl_weaveCode.J0 l0 true a1_0 a1_1 a1_2)) := by
  refine Lim.eq (g := fun k => impl_weaveCode.f k l0 a1_0 a1_1 a1_2) ?_
  unfold impl_weaveCode.f
  repeat' with_reducible first | exact Lim.const _ | exact impl_ValidSail.F_lim _ | exact impl_weaveCode.J0_lim _ _ _ _ _ | refine Lim.ite ?_ ?_ | refine Lim.bind ?_ (fun _ => ?_)

noncomputable def impl_clothLength.L0 (x3 : Int) (x6 : List (S60)) (x7 x8 : Int) : Option (Int) := lim (fun k => impl_clothLength.l0 k x3 x6 x7 x8)
theorem impl_clothLength.L0_lim (x3 : Int) (x6 : List (S60)) (x7 x8 : Int) : Lim (fun k => impl_clothLength.l0 k x3 x6 x7 x8) (impl_clothLength.L0 x3 x6 x7 x8) := Lim.of (fun k => (impl_clothLength.mono_l k) x3 x6 x7 x8)
noncomputable def impl_clothLength.F (l0 : List (S60)) : Option (Int) := lim (fun k => impl_clothLength.f k l0)
theorem impl_clothLength.F_lim (l0 : List (S60)) : Lim (fun k => impl_clothLength.f k l0) (impl_clothLength.F l0) := Lim.of (fun k => impl_clothLength.mono l0 k)
theorem impl_clothLength.L0_eq (x3 : Int) (x6 : List (S60)) (x7 x8 : Int) : impl_clothLength.L0 x3 x6 x7 x8 = if x8 < x7 then (if 0 ≤ x8 then (if x8 < (x6.length : Int) then (impl_clothLength.L0 (wrap64 (x3 + ((rd_T60 x6 x8).f0))) x6 x7 (wrap64 (x8 + 1))) else (none)) else (none)) else (some x3) := by
  refine Lim.next (fun k => (impl_clothLength.mono_l k) x3 x6 x7 x8) ?_
  simp only [impl_clothLength.l0]
  repeat' with_reducible first | exact Lim.const _ | exact impl_clothLength.L0_lim _ _ _ _ | refine Lim.ite ?_ ?_ | refine Lim.bind ?_ (fun _ => ?_)
theorem impl_clothLength.F_eq (l0 : List (S60)) : impl_clothLength.F l0 = impl_clothLength.L0 0 l0 (l0.length : Int) 0 := by
  refine Lim.eq (g := fun k => impl_clothLength.f k l0) ?_
  unfold impl_clothLength.f
  repeat' with_reducible first | exact Lim.const _ | exact impl_clothLength.L0_lim _ _ _ _ | refine Lim.ite ?_ ?_ | refine Lim.bind ?_ (fun _ => ?_)

noncomputable def impl_gcd.J0 (x0 x1 : Int) : Option (Int) := lim (fun k => impl_gcd.j0 k x0 x1)
theorem impl_gcd.J0_lim (x0 x1 : Int) : Lim (fun k => impl_gcd.j0 k x0 x1) (impl_gcd.J0 x0 x1) := Lim.of (fun k => (impl_gcd.mono_l k).1 x0 x1)
noncomputable def impl_gcd.L0 (x0 x1 : Int) : Option (Int) := lim (fun k => impl_gcd.l0 k x0 x1)
theorem impl_gcd.L0_lim (x0 x1 : Int) : Lim (fun k => impl_gcd.l0 k x0 x1) (impl_gcd.L0 x0 x1) := Lim.of (fun k => (impl_gcd.mono_l k).2 x0 x1)
noncomputable def impl_gcd.F (a0 a1 : Int) : Option (Int) := lim (fun k => impl_gcd.f k a0 a1)
theorem impl_gcd.F_lim (a0 a1 : Int) : Lim (fun k => impl_gcd.f k a0 a1) (impl_gcd.F a0 a1) := Lim.of (fun k => impl_gcd.mono a0 a1 k)
theorem impl_gcd.J0_eq (x0 x1 : Int) : impl_gcd.J0 x0 x1 = impl_gcd.L0 x0 x1 := by
  refine Lim.next (fun k => (impl_gcd.mono_l k).1 x0 x1) ?_
  simp only [impl_gcd.j0]
  repeat' with_reducible first | exact Lim.const _ | exact impl_gcd.L0_lim _ _ | refine Lim.ite ?_ ?_ | refine Lim.bind ?_ (fun _ => ?_)
theorem impl_gcd.L0_eq (x0 x1 : Int) : impl_gcd.L0 x0 x1 = if x1 = 0 then (some x0) else (impl_gcd.L0 x1 (Int.tmod x0 x1)) := by
  refine Lim.next (fun k => (impl_gcd.mono_l k).2 x0 x1) ?_
  simp only [impl_gcd.l0]
  repeat' with_reducible first | exact Lim.const _ | exact impl_gcd.L0_lim _ _ | refine Lim.ite ?_ ?_ | refine Lim.bind ?_ (fun _ => ?_)
theorem impl_gcd.F_eq (a0 a1 : Int) : impl_gcd.F a0 a1 = if a0 < 0 then (impl_gcd.J0 (wrap64 (-a0)) a1) else (impl_gcd.J0 a0 a1) := by
  refine Lim.eq (g := fun k => impl_gcd.f k a0 a1) ?_
  unfold impl_gcd.f
  repeat' with_reducible first | exact Lim.const _ | exact impl_gcd.J0_lim _ _ | refine Lim.ite ?_ ?_ | refine Lim.bind ?_ (fun _ => ?_)

noncomputable def impl_fraction.F (a0 a1 : Int) : Option (Int × Int) := lim (fun k => impl_fraction.f k a0 a1)
theorem impl_fraction.F_lim (a0 a1 : Int) : Lim (fun k => impl_fraction.f k a0 a1) (impl_fraction.F a0 a1) := Lim.of (fun k => impl_fraction.mono a0 a1 k)
theorem impl_fraction.F_eq (a0 a1 : Int) : impl_fraction.F a0 a1 = if a1 < 0 then ((impl_gcd.F (wrap64 (-a0)) (wrap64 (-a1))).bind fun t381 => (if t381 = 0 then (none) else (some (wrap64 (Int.tdiv (wrap64 (-a0)) t381), wrap64 (Int.tdiv (wrap64 (-a1)) t381))))) else ((impl_gcd.F a0 a1).bind fun t382 => (if t382 = 0 then (none) else (some (wrap64 (Int.tdiv a0 t382), wrap64 (Int.tdiv a1 t382))))) := by
  refine Lim.eq (g := fun k => impl_fraction.f k a0 a1) ?_
  unfold impl_fraction.f
  repeat' with_reducible first | exact Lim.const _ | exact impl_gcd.F_lim _ _ | refine Lim.ite ?_ ?_ | refine Lim.bind ?_ (fun _ => ?_)

noncomputable def cmp_Or_int.L0 (x3 : Int) (x6 : List Int) (x7 x8 : Int) : Option (Int) := lim (fun k => cmp_Or_int.l0 k x3 x6 x7 x8)
theorem cmp_Or_int.L0_lim (x3 : Int) (x6 : List Int) (x7 x8 : Int) : Lim (fun k => cmp_Or_int.l0 k x3 x6 x7 x8) (cmp_Or_int.L0 x3 x6 x7 x8) := Lim.of (fun k => (cmp_Or_int.mono_l k) x3 x6 x7 x8)
noncomputable def cmp_Or_int.F (l0 : List Int) : Option (Int) := lim (fun k => cmp_Or_int.f k l0)
theorem cmp_Or_int.F_lim (l0 : List Int) : Lim (fun k => cmp_Or_int.f k l0) (cmp_Or_int.F l0) := Lim.of (fun k => cmp_Or_int.mono l0 k)
theorem cmp_Or_int.L0_eq (x3 : Int) (x6 : List Int) (x7 x8 : Int) : cmp_Or_int.L0 x3 x6 x7 x8 = if x8 < x7 then (if 0 ≤ x8 then (if x8 < (x6.length : Int) then (if (rd x6 x8) = x3 then (cmp_Or_int.L0 x3 x6 x7 (wrap64 (x8 + 1))) else (some (rd x6 x8))) else (none)) else (none)) else (some x3) := by
  refine Lim.next (fun k => (cmp_Or_int.mono_l k) x3 x6 x7 x8) ?_
  simp only [cmp_Or_int.l0]
  repeat' with_reducible first | exact Lim.const _ | exact cmp_Or_int.L0_lim _ _ _ _ | refine Lim.ite ?_ ?_ | refine Lim.bind ?_ (fun _ => ?_)
theorem cmp_Or_int.F_eq (l0 : List Int) : cmp_Or_int.F l0 = cmp_Or_int.L0 0 l0 (l0.length : Int) 0 := by
  refine Lim.eq (g := fun k => cmp_Or_int.f k l0) ?_
  unfold cmp_Or_int.f
  repeat' with_reducible first | exact Lim.const _ | exact cmp_Or_int.L0_lim _ _ _ _ | refine Lim.ite ?_ ?_ | refine Lim.bind ?_ (fun _ => ?_)

noncomputable def impl_compareProducts.F (a0 a1 a2 a3 : Int) : Option (Int) := lim (fun k => impl_compareProducts.f k a0 a1 a2 a3)
theorem impl_compareProducts.F_lim (a0 a1 a2 a3 : Int) : Lim (fun k => impl_compareProducts.f k a0 a1 a2 a3) (impl_compareProducts.F a0 a1 a2 a3) := Lim.of (fun k => impl_compareProducts.mono a0 a1 a2 a3 k)
theorem impl_compareProducts.F_eq (a0 a1 a2 a3 : Int) : impl_compareProducts.F a0 a1 a2 a3 = (bits_Mul64.f a0 a1).bind fun bt388 => ((bits_Mul64.f a2 a3).bind fun bt390 => ((cmp_Compare_uint64.f bt388.1 bt390.1).bind fun t392 => ((cmp_Compare_uint64.f bt388.2 bt390.2).bind fun t393 => ((cmp_Or_int.F (([t392, t393] : List Int))).bind fun t397 => (some t397))))) := by
  refine Lim.eq (g := fun k => impl_compareProducts.f k a0 a1 a2 a3) ?_
  unfold impl_compareProducts.f
  repeat' with_reducible first | exact Lim.const _ | exact cmp_Or_int.F_lim _ | refine Lim.ite ?_ ?_ | refine Lim.bind ?_ (fun _ => ?_)

noncomputable def impl_compareFractions.F (a0_0 a0_1 a1_0 a1_1 : Int) : Option (Int) := lim (fun k => impl_compareFractions.f k a0_0 a0_1 a1_0 a1_1)
theorem impl_compareFractions.F_lim (a0_0 a0_1 a1_0 a1_1 : Int) : Lim (fun k => impl_compareFractions.f k a0_0 a0_1 a1_0 a1_1) (impl_compareFractions.F a0_0 a0_1 a1_0 a1_1) := Lim.of (fun k => impl_compareFractions.mono a0_0 a0_1 a1_0 a1_1 k)
theorem impl_compareFractions.F_eq (a0_0 a0_1 a1_0 a1_1 : Int) : impl_compareFractions.F a0_0 a0_1 a1_0 a1_1 = (impl_sign.f a0_0).bind fun t400 => ((impl_sign.f a1_0).bind fun t401 => ((cmp_Compare_int64.f t400 t401).bind fun t402 => ((impl_sign.f a0_0).bind fun t403 => ((impl_size.f a0_0).bind fun t404 => ((impl_size.f a1_1).bind fun t405 => ((impl_size.f a1_0).bind fun t406 => ((impl_size.f a0_1).bind fun t407 => ((impl_compareProducts.F t404 t405 t406 t407).bind fun t408 => ((cmp_Or_int.F (([t402, wrap64 (t403 * t408)] : List Int))).bind fun t412 => (some t412)))))))))) := by
  refine Lim.eq (g := fun k => impl_compareFractions.f k a0_0 a0_1 a1_0 a1_1) ?_
  unfold impl_compareFractions.f
  repeat' with_reducible first | exact Lim.const _ | exact cmp_Or_int.F_lim _ | exact impl_compareProducts.F_lim _ _ _ _ | refine Lim.ite ?_ ?_ | refine Lim.bind ?_ (fun _ => ?_)

noncomputable def impl_addFractions.F (a0_0 a0_1 a1_0 a1_1 : Int) : Option (Int × Int) := lim (fun k => impl_addFractions.f k a0_0 a0_1 a1_0 a1_1)
theorem impl_addFractions.F_lim (a0_0 a0_1 a1_0 a1_1 : Int) : Lim (fun k => impl_addFractions.f k a0_0 a0_1 a1_0 a1_1) (impl_addFractions.F a0_0 a0_1 a1_0 a1_1) := Lim.of (fun k => impl_addFractions.mono a0_0 a0_1 a1_0 a1_1 k)
theorem impl_addFractions.F_eq (a0_0 a0_1 a1_0 a1_1 : Int) : impl_addFractions.F a0_0 a0_1 a1_0 a1_1 = (impl_gcd.F a0_1 a1_1).bind fun t416 => (if t416 = 0 then (none) else ((impl_fraction.F (wrap64 ((wrap64 (a0_0 * (wrap64 (Int.tdiv a1_1 t416)))) + (wrap64 (a1_0 * (wrap64 (Int.tdiv a0_1 t416)))))) (wrap64 ((wrap64 (Int.tdiv a0_1 t416)) * a1_1))).bind fun bt417 => (some (bt417.1, bt417.2)))) := by
  refine Lim.eq (g := fun k => impl_addFractions.f k a0_0 a0_1 a1_0 a1_1) ?_
  unfold impl_addFractions.f
  repeat' with_reducible first | exact Lim.const _ | exact impl_fraction.F_lim _ _ | exact impl_gcd.F_lim _ _ | refine Lim.ite ?_ ?_ | refine Lim.bind ?_ (fun _ => ?_)

noncomputable def impl_widthAt.L0 (x0 : List (S51)) (x1 : Int) (x5 : List (S67)) (x12 : List (S51)) (x13 x14 : Int) : Option (Int × Int) := lim (fun k => impl_widthAt.l0 k x0 x1 x5 x12 x13 x14)
theorem impl_widthAt.L0_lim (x0 : List (S51)) (x1 : Int) (x5 : List (S67)) (x12 : List (S51)) (x13 x14 : Int) : Lim (fun k => impl_widthAt.l0 k x0 x1 x5 x12 x13 x14) (impl_widthAt.L0 x0 x1 x5 x12 x13 x14) := Lim.of (fun k => (impl_widthAt.mono_l k).1 x0 x1 x5 x12 x13 x14)
noncomputable def impl_widthAt.J1 (x0 : List (S51)) (x1 : Int) (x5 : List (S67)) (x12 : List (S51)) (x13 x14 x433000 x433001 x435000 x435001 : Int) : Option (Int × Int) := lim (fun k => impl_widthAt.j1 k x0 x1 x5 x12 x13 x14 x433000 x433001 x435000 x435001)
theorem impl_widthAt.J1_lim (x0 : List (S51)) (x1 : Int) (x5 : List (S67)) (x12 : List (S51)) (x13 x14 x433000 x433001 x435000 x435001 : Int) : Lim (fun k => impl_widthAt.j1 k x0 x1 x5 x12 x13 x14 x433000 x433001 x435000 x435001) (impl_widthAt.J1 x0 x1 x5 x12 x13 x14 x433000 x433001 x435000 x435001) := Lim.of (fun k => (impl_widthAt.mono_l k).2.1 x0 x1 x5 x12 x13 x14 x433000 x433001 x435000 x435001)
noncomputable def impl_widthAt.J2 (x0 : List (S51)) (x1 : Int) (x5 : List (S67)) (x12 : List (S51)) (x13 x14 : Int) (x57 : Bool) (x433000 x433001 x435000 x435001 : Int) : Option (Int × Int) := lim (fun k => impl_widthAt.j2 k x0 x1 x5 x12 x13 x14 x57 x433000 x433001 x435000 x435001)
theorem impl_widthAt.J2_lim (x0 : List (S51)) (x1 : Int) (x5 : List (S67)) (x12 : List (S51)) (x13 x14 : Int) (x57 : Bool) (x433000 x433001 x435000 x435001 : Int) : Lim (fun k => impl_widthAt.j2 k x0 x1 x5 x12 x13 x14 x57 x433000 x433001 x435000 x435001) (impl_widthAt.J2 x0 x1 x5 x12 x13 x14 x57 x433000 x433001 x435000 x435001) := Lim.of (fun k => (impl_widthAt.mono_l k).2.2 x0 x1 x5 x12 x13 x14 x57 x433000 x433001 x435000 x435001)
noncomputable def impl_widthAt.F (l0 : List (S51)) (a1 : Int) : Option (Int × Int) := lim (fun k => impl_widthAt.f k l0 a1)
theorem impl_widthAt.F_lim (l0 : List (S51)) (a1 : Int) : Lim (fun k => impl_widthAt.f k l0 a1) (impl_widthAt.F l0 a1) := Lim.of (fun k => impl_widthAt.mono l0 a1 k)
theorem impl_widthAt.L0_eq (x0 : List (S51)) (x1 : Int) (x5 : List (S67)) (x12 : List (S51)) (x13 x14 : Int) : impl_widthAt.L0 x0 x1 x5 x12 x13 x14 = if x14 < x13 then (if 0 ≤ x14 then (if x14 < (x12.length : Int) then (if (x0.length : Int) = 0 then (none) else (if 0 ≤ (Int.tmod (wrap64 (x14 + 1)) (x0.length : Int)) then (if (Int.tmod (wrap64 (x14 + 1)) (x0.length : Int)) < (x0.length : Int) then (if ((rd_T51 x12 x14).f1) = x1 then ((impl_fraction.F ((rd_T51 x12 x14).f0) 1).bind fun bt435 => (if x5.length < 8796093022208 then (impl_widthAt.J1 x0 x1 (x5 ++ [(⟨bt435.1, bt435.2⟩ : S67)]) x12 x13 x14 ((rd_T51 x12 x14).f0) ((rd_T51 x12 x14).f1) ((rd_T51 x0 (Int.tmod (wrap64 (x14 + 1)) (x0.length : Int))).f0) ((rd_T51 x0 (Int.tmod (wrap64 (x14 + 1)) (x0.length : Int))).f1)) else (none))) else (impl_widthAt.J1 x0 x1 x5 x12 x13 x14 ((rd_T51 x12 x14).f0) ((rd_T51 x12 x14).f1) ((rd_T51 x0 (Int.tmod (wrap64 (x14 + 1)) (x0.length : Int))).f0) ((rd_T51 x0 (Int.tmod (wrap64 (x14 + 1)) (x0.length : Int))).f1))) else (none)) else (none))) else (none)) else (none)) else ((impl_Fraction_67.f x5).bind fun bt423 => ((impl_Fraction_68.f x5).bind fun bt426 => ((impl_addFractions.F bt426.1 bt426.2 (wrap64 (-bt423.1)) bt423.2).bind fun bt429 => (some (bt429.1, bt429.2))))) := by
  refine Lim.next (fun k => (impl_widthAt.mono_l k).1 x0 x1 x5 x12 x13 x14) ?_
  simp only [impl_widthAt.l0]
  repeat' with_reducible first | exact Lim.const _ | exact impl_addFractions.F_lim _ _ _ _ | exact impl_fraction.F_lim _ _ | exact impl_widthAt.J1_lim _ _ _ _ _ _ _ _ _ _ | refine Lim.ite ?_ ?_ | refine Lim.bind ?_ (fun _ => ?_)
theorem impl_widthAt.J1_eq (x0 : List (S51)) (x1 : Int) (x5 : List (S67)) (x12 : List (S51)) (x13 x14 x433000 x433001 x435000 x435001 : Int) : impl_widthAt.J1 x0 x1 x5 x12 x13 x14 x433000 x433001 x435000 x435001 = if ((decide (x433001 < x1)) != (decide (x435001 < x1))) = true then (if x433001 = x1 then (impl_widthAt.J2 x0 x1 x5 x12 x13 x14 false x433000 x433001 x435000 x435001) else (impl_widthAt.J2 x0 x1 x5 x12 x13 x14 (x435001 != x1) x433000 x433001 x435000 x435001)) else (impl_widthAt.J2 x0 x1 x5 x12 x13 x14 false x433000 x433001 x435000 x435001) := by
  refine Lim.next (fun k => (impl_widthAt.mono_l k).2.1 x0 x1 x5 x12 x13 x14 x433000 x433001 x435000 x435001) ?_
  simp only [impl_widthAt.j1]
  repeat' with_reducible first | exact Lim.const _ | exact impl_widthAt.J2_lim _ _ _ _ _ _ _ _ _ _ _ | refine Lim.ite ?_ ?_ | refine Lim.bind ?_ (fun _ => ?_)
theorem impl_widthAt.J2_eq (x0 : List (S51)) (x1 : Int) (x5 : List (S67)) (x12 : List (S51)) (x13 x14 : Int) (x57 : Bool) (x433000 x433001 x435000 x435001 : Int) : impl_widthAt.J2 x0 x1 x5 x12 x13 x14 x57 x433000 x433001 x435000 x435001 = if x57 = true then ((impl_fraction.F x433000 1).bind fun bt440 => ((impl_fraction.F (wrap64 ((wrap64 (x435000 - x433000)) * (wrap64 (x1 - x433001)))) (wrap64 (x435001 - x433001))).bind fun bt442 => ((impl_addFractions.F bt440.1 bt440.2 bt442.1 bt442.2).bind fun bt444 => (if x5.length < 8796093022208 then (impl_widthAt.L0 x0 x1 (x5 ++ [(⟨bt444.1, bt444.2⟩ : S67)]) x12 x13 (wrap64 (x14 + 1))) else (none))))) else (impl_widthAt.L0 x0 x1 x5 x12 x13 (wrap64 (x14 + 1))) := by
  refine Lim.next (fun k => (impl_widthAt.mono_l k).2.2 x0 x1 x5 x12 x13 x14 x57 x433000 x433001 x435000 x435001) ?_
  simp only [impl_widthAt.j2]
  repeat' with_reducible first | exact Lim.const _ | exact impl_addFractions.F_lim _ _ _ _ | exact impl_fraction.F_lim _ _ | exact impl_widthAt.L0_lim _ _ _ _ _ _ | refine Lim.ite ?_ ?_ | refine Lim.bind ?_ (fun _ => ?_)
theorem impl_widthAt.F_eq (l0 : List (S51)) (a1 : Int) : impl_widthAt.F l0 a1 = impl_widthAt.L0 l0 a1 (([] : List (S67))) l0 (l0.length : Int) 0 := by
  refine Lim.eq (g := fun k => impl_widthAt.f k l0 a1) ?_
  unfold impl_widthAt.f
  repeat' with_reducible first | exact Lim.const _ | exact impl_widthAt.L0_lim _ _ _ _ _ _ | refine Lim.ite ?_ ?_ | refine Lim.bind ?_ (fun _ => ?_)

noncomputable def impl_panelsOf.L0 (x0 : List (S51)) (x5 : List (S60)) (x6 : List Int) (x7 x450000 x450001 x450002 : Int) : Option ((List (S60))) := lim (fun k => impl_panelsOf.l0 k x0 x5 x6 x7 x450000 x450001 x450002)
theorem impl_panelsOf.L0_lim (x0 : List (S51)) (x5 : List (S60)) (x6 : List Int) (x7 x450000 x450001 x450002 : Int) : Lim (fun k => impl_panelsOf.l0 k x0 x5 x6 x7 x450000 x450001 x450002) (impl_panelsOf.L0 x0 x5 x6 x7 x450000 x450001 x450002) := Lim.of (fun k => (impl_panelsOf.mono_l k).1 x0 x5 x6 x7 x450000 x450001 x450002)
noncomputable def impl_panelsOf.L1 (x0 : List (S51)) (x5 : List (S60)) (x6 : List Int) (x7 x8 x9 : Int) (x10 : List Int) (x40 : List (S51)) (x41 x42 x450000 x450001 x450002 : Int) : Option ((List (S60))) := lim (fun k => impl_panelsOf.l1 k x0 x5 x6 x7 x8 x9 x10 x40 x41 x42 x450000 x450001 x450002)
theorem impl_panelsOf.L1_lim (x0 : List (S51)) (x5 : List (S60)) (x6 : List Int) (x7 x8 x9 : Int) (x10 : List Int) (x40 : List (S51)) (x41 x42 x450000 x450001 x450002 : Int) : Lim (fun k => impl_panelsOf.l1 k x0 x5 x6 x7 x8 x9 x10 x40 x41 x42 x450000 x450001 x450002) (impl_panelsOf.L1 x0 x5 x6 x7 x8 x9 x10 x40 x41 x42 x450000 x450001 x450002) := Lim.of (fun k => (impl_panelsOf.mono_l k).2.1 x0 x5 x6 x7 x8 x9 x10 x40 x41 x42 x450000 x450001 x450002)
noncomputable def impl_panelsOf.L2 (x0 : List (S51)) (x5 : List (S60)) (x6 : List Int) (x7 x8 x9 : Int) (x58 : List Int) (x59 x60 x450000 x450001 x450002 x470000 x470001 : Int) : Option ((List (S60))) := lim (fun k => impl_panelsOf.l2 k x0 x5 x6 x7 x8 x9 x58 x59 x60 x450000 x450001 x450002 x470000 x470001)
theorem impl_panelsOf.L2_lim (x0 : List (S51)) (x5 : List (S60)) (x6 : List Int) (x7 x8 x9 : Int) (x58 : List Int) (x59 x60 x450000 x450001 x450002 x470000 x470001 : Int) : Lim (fun k => impl_panelsOf.l2 k x0 x5 x6 x7 x8 x9 x58 x59 x60 x450000 x450001 x450002 x470000 x470001) (impl_panelsOf.L2 x0 x5 x6 x7 x8 x9 x58 x59 x60 x450000 x450001 x450002 x470000 x470001) := Lim.of (fun k => (impl_panelsOf.mono_l k).2.2 x0 x5 x6 x7 x8 x9 x58 x59 x60 x450000 x450001 x450002 x470000 x470001)
noncomputable def impl_panelsOf.F (l0 : List (S51)) (a1_0 a1_1 a1_2 : Int) : Option ((List (S60))) := lim (fun k => impl_panelsOf.f k l0 a1_0 a1_1 a1_2)
theorem impl_panelsOf.F_lim (l0 : List (S51)) (a1_0 a1_1 a1_2 : Int) : Lim (fun k => impl_panelsOf.f k l0 a1_0 a1_1 a1_2) (impl_panelsOf.F l0 a1_0 a1_1 a1_2) := Lim.of (fun k => impl_panelsOf.mono l0 a1_0 a1_1 a1_2 k)
theorem impl_panelsOf.L0_eq (x0 : List (S51)) (x5 : List (S60)) (x6 : List Int) (x7 x450000 x450001 x450002 : Int) : impl_panelsOf.L0 x0 x5 x6 x7 x450000 x450001 x450002 = if x7 < (x6.length : Int) then (if 0 ≤ (wrap64 (x7 - 1)) then (if (wrap64 (x7 - 1)) < (x6.length : Int) then (if 0 ≤ x7 then (impl_panelsOf.L1 x0 x5 x6 x7 (rd x6 (wrap64 (x7 - 1))) (rd x6 x7) (([rd x6 (wrap64 (x7 - 1)), rd x6 x7] : List Int)) x0 (x0.length : Int) 0 x450000 x450001 x450002) else (none)) else (none)) else (none)) else (some x5) := by
  refine Lim.next (fun k => (impl_panelsOf.mono_l k).1 x0 x5 x6 x7 x450000 x450001 x450002) ?_
  simp only [impl_panelsOf.l0]
  repeat' with_reducible first | exact Lim.const _ | exact impl_panelsOf.L1_lim _ _ _ _ _ _ _ _ _ _ _ _ _ | refine Lim.ite ?_ ?_ | refine Lim.bind ?_ (fun _ => ?_)
theorem impl_panelsOf.L1_eq (x0 : List (S51)) (x5 : List (S60)) (x6 : List Int) (x7 x8 x9 : Int) (x10 : List Int) (x40 : List (S51)) (x41 x42 x450000 x450001 x450002 : Int) : impl_panelsOf.L1 x0 x5 x6 x7 x8 x9 x10 x40 x41 x42 x450000 x450001 x450002 = if x42 < x41 then (if 0 ≤ x42 then (if x42 < (x40.length : Int) then ((impl_within.f ((rd_T51 x40 x42).f1) x8 x9).bind fun t463 => (if t463 = true then (if x10.length < 17592186044416 then (impl_panelsOf.L1 x0 x5 x6 x7 x8 x9 (x10 ++ [(rd_T51 x40 x42).f1]) x40 x41 (wrap64 (x42 + 1)) x450000 x450001 x450002) else (none)) else (impl_panelsOf.L1 x0 x5 x6 x7 x8 x9 x10 x40 x41 (wrap64 (x42 + 1)) x450000 x450001 x450002))) else (none)) else (none)) else ((impl_fraction.F 0 1).bind fun bt467 => (impl_panelsOf.L2 x0 x5 x6 x7 x8 x9 x10 (x10.length : Int) 0 x450000 x450001 x450002 bt467.1 bt467.2)) := by
  refine Lim.next (fun k => (impl_panelsOf.mono_l k).2.1 x0 x5 x6 x7 x8 x9 x10 x40 x41 x42 x450000 x450001 x450002) ?_
  simp only [impl_panelsOf.l1]
  repeat' with_reducible first | exact Lim.const _ | exact impl_fraction.F_lim _ _ | exact impl_panelsOf.L1_lim _ _ _ _ _ _ _ _ _ _ _ _ _ | exact impl_panelsOf.L2_lim _ _ _ _ _ _ _ _ _ _ _ _ _ _ | refine Lim.ite ?_ ?_ | refine Lim.bind ?_ (fun _ => ?_)
theorem impl_panelsOf.L2_eq (x0 : List (S51)) (x5 : List (S60)) (x6 : List Int) (x7 x8 x9 : Int) (x58 : List Int) (x59 x60 x450000 x450001 x450002 x470000 x470001 : Int) : impl_panelsOf.L2 x0 x5 x6 x7 x8 x9 x58 x59 x60 x450000 x450001 x450002 x470000 x470001 = if x60 < x59 then (if 0 ≤ x60 then (if x60 < (x58.length : Int) then ((impl_widthAt.F x0 (rd x58 x60)).bind fun bt475 => ((impl_compareFractions.F bt475.1 bt475.2 x470000 x470001).bind fun t478 => (if t478 > 0 then (impl_panelsOf.L2 x0 x5 x6 x7 x8 x9 x58 x59 (wrap64 (x60 + 1)) x450000 x450001 x450002 bt475.1 bt475.2) else (impl_panelsOf.L2 x0 x5 x6 x7 x8 x9 x58 x59 (wrap64 (x60 + 1)) x450000 x450001 x450002 x470000 x470001)))) else (none)) else (none)) else ((impl_ceilDiv.f x470000 x470001).bind fun t470 => (if x5.length < 8796093022208 then (impl_panelsOf.L0 x0 (x5 ++ [(⟨wrap64 (t470 + (wrap64 (2 * x450002))), mn x450000 (wrap64 ((wrap64 (x9 - x8)) + x450001))⟩ : S60)]) x6 (wrap64 (x7 + 1)) x450000 x450001 x450002) else (none))) := by
  refine Lim.next (fun k => (impl_panelsOf.mono_l k).2.2 x0 x5 x6 x7 x8 x9 x58 x59 x60 x450000 x450001 x450002 x470000 x470001) ?_
  simp only [impl_panelsOf.l2]
  repeat' with_reducible first | exact Lim.const _ | exact impl_compareFractions.F_lim _ _ _ _ | exact impl_panelsOf.L0_lim _ _ _ _ _ _ _ | exact impl_panelsOf.L2_lim _ _ _ _ _ _ _ _ _ _ _ _ _ _ | exact impl_widthAt.F_lim _ _ | refine Lim.ite ?_ ?_ | refine Lim.bind ?_ (fun _ => ?_)
theorem impl_panelsOf.F_eq (l0 : List (S51)) (a1_0 a1_1 a1_2 : Int) : impl_panelsOf.F l0 a1_0 a1_1 a1_2 = (impl_panelEdges.F l0 a1_0 a1_1 a1_2).bind fun t453 => (impl_panelsOf.L0 l0 (([] : List (S60))) t453 1 a1_0 a1_1 a1_2) := by
  refine Lim.eq (g := fun k => impl_panelsOf.f k l0 a1_0 a1_1 a1_2) ?_
  unfold impl_panelsOf.f
  repeat' with_reducible first | exact Lim.const _ | exact impl_panelEdges.F_lim _ _ _ _ | exact impl_panelsOf.L0_lim _ _ _ _ _ _ _ | refine Lim.ite ?_ ?_ | refine Lim.bind ?_ (fun _ => ?_)

noncomputable def impl_BestCloth.J0 (x0 : List (S51)) (x2 : List Int) (x13 : Bool) (x480000 x480001 x480002 : Int) : Option (Int × Int) := lim (fun k => impl_BestCloth.j0 k x0 x2 x13 x480000 x480001 x480002)
theorem impl_BestCloth.J0_lim (x0 : List (S51)) (x2 : List Int) (x13 : Bool) (x480000 x480001 x480002 : Int) : Lim (fun k => impl_BestCloth.j0 k x0 x2 x13 x480000 x480001 x480002) (impl_BestCloth.J0 x0 x2 x13 x480000 x480001 x480002) := Lim.of (fun k => (impl_BestCloth.mono_l k).1 x0 x2 x13 x480000 x480001 x480002)
noncomputable def impl_BestCloth.L0 (x0 : List (S51)) (x8 x9 : Int) (x30 : List Int) (x31 x32 x480000 x480001 x480002 : Int) : Option (Int × Int) := lim (fun k => impl_BestCloth.l0 k x0 x8 x9 x30 x31 x32 x480000 x480001 x480002)
theorem impl_BestCloth.L0_lim (x0 : List (S51)) (x8 x9 : Int) (x30 : List Int) (x31 x32 x480000 x480001 x480002 : Int) : Lim (fun k => impl_BestCloth.l0 k x0 x8 x9 x30 x31 x32 x480000 x480001 x480002) (impl_BestCloth.L0 x0 x8 x9 x30 x31 x32 x480000 x480001 x480002) := Lim.of (fun k => (impl_BestCloth.mono_l k).2 x0 x8 x9 x30 x31 x32 x480000 x480001 x480002)
noncomputable def impl_BestCloth.F (l0 : List (S51)) (a1_0 a1_1 a1_2 : Int) (l2 : List Int) : Option (Int × Int) := lim (fun k => impl_BestCloth.f k l0 a1_0 a1_1 a1_2 l2)
theorem impl_BestCloth.F_lim (l0 : List (S51)) (a1_0 a1_1 a1_2 : Int) (l2 : List Int) : Lim (fun k => impl_BestCloth.f k l0 a1_0 a1_1 a1_2 l2) (impl_BestCloth.F l0 a1_0 a1_1 a1_2 l2) := Lim.of (fun k => impl_BestCloth.mono l0 a1_0 a1_1 a1_2 l2 k)
theorem impl_BestCloth.J0_eq (x0 : List (S51)) (x2 : List Int) (x13 : Bool) (x480000 x480001 x480002 : Int) : impl_BestCloth.J0 x0 x2 x13 x480000 x480001 x480002 = if x13 = true then (some (0, 1)) else (if (x2.length : Int) > 10 then (some (0, 2)) else ((impl_isBulged.F x0).bind fun t482 => (if t482 = true then (impl_BestCloth.L0 x0 (-1) 0 x2 (x2.length : Int) 0 x480000 x480001 x480002) else (some (0, 6))))) := by
  refine Lim.next (fun k => (impl_BestCloth.mono_l k).1 x0 x2 x13 x480000 x480001 x480002) ?_
  simp only [impl_BestCloth.j0]
  repeat' with_reducible first | exact Lim.const _ | exact impl_BestCloth.L0_lim _ _ _ _ _ _ _ _ _ | exact impl_isBulged.F_lim _ | refine Lim.ite ?_ ?_ | refine Lim.bind ?_ (fun _ => ?_)
theorem impl_BestCloth.L0_eq (x0 : List (S51)) (x8 x9 : Int) (x30 : List Int) (x31 x32 x480000 x480001 x480002 : Int) : impl_BestCloth.L0 x0 x8 x9 x30 x31 x32 x480000 x480001 x480002 = if x32 < x31 then (if 0 ≤ x32 then (if x32 < (x30.length : Int) then ((impl_weaveCode.F x0 (rd x30 x32) x480001 x480002).bind fun t484 => (if t484 = 0 then ((impl_panelsOf.F x0 (rd x30 x32) x480001 x480002).bind fun t485 => ((impl_clothLength.F t485).bind fun t488 => (if x8 < 0 then (impl_BestCloth.L0 x0 x32 (wrap64 (t488 * (rd x30 x32))) x30 x31 (wrap64 (x32 + 1)) (rd x30 x32) x480001 x480002) else (if (wrap64 (t488 * (rd x30 x32))) < x9 then (impl_BestCloth.L0 x0 x32 (wrap64 (t488 * (rd x30 x32))) x30 x31 (wrap64 (x32 + 1)) (rd x30 x32) x480001 x480002) else (impl_BestCloth.L0 x0 x8 x9 x30 x31 (wrap64 (x32 + 1)) (rd x30 x32) x480001 x480002))))) else (impl_BestCloth.L0 x0 x8 x9 x30 x31 (wrap64 (x32 + 1)) (rd x30 x32) x480001 x480002))) else (none)) else (none)) else (if x8 < 0 then (some (0, 3)) else (some (x8, 0))) := by
  refine Lim.next (fun k => (impl_BestCloth.mono_l k).2 x0 x8 x9 x30 x31 x32 x480000 x480001 x480002) ?_
  simp only [impl_BestCloth.l0]
  repeat' with_reducible first | exact Lim.const _ | exact impl_BestCloth.L0_lim _ _ _ _ _ _ _ _ _ | exact impl_clothLength.F_lim _ | exact impl_panelsOf.F_lim _ _ _ _ | exact impl_weaveCode.F_lim _ _ _ _ | refine Lim.ite ?_ ?_ | refine Lim.bind ?_ (fun _ => ?_)
theorem impl_BestCloth.F_eq (l0 : List (S51)) (a1_0 a1_1 a1_2 : Int) (l2 : List Int) : impl_BestCloth.F l0 a1_0 a1_1 a1_2 l2 = (impl_ValidSail.F l0).bind fun t480 => (if t480 = true then ((impl_ValidWeave.f a1_0 a1_1 a1_2).bind fun t481 => (impl_BestCloth.J0 l0 l2 (!t481) a1_0 a1_1 a1_2)) else (impl_BestCloth.J0 l0 l2 true a1_0 a1_1 a1_2)) := by
  refine Lim.eq (g := fun k => impl_BestCloth.f k l0 a1_0 a1_1 a1_2 l2) ?_
  unfold impl_BestCloth.f
  repeat' with_reducible first | exact Lim.const _ | exact impl_BestCloth.J0_lim _ _ _ _ _ _ | exact impl_ValidSail.F_lim _ | refine Lim.ite ?_ ?_ | refine Lim.bind ?_ (fun _ => ?_)

noncomputable def laws_FnExactBestCloth.J0 (x0 : List (S53)) (x2 : List Int) (x10 : List (S51)) (x11 : List Int) (x51 : Bool) : Option (Bool) := lim (fun k => laws_FnExactBestCloth.j0 k x0 x2 x10 x11 x51)
theorem laws_FnExactBestCloth.J0_lim (x0 : List (S53)) (x2 : List Int) (x10 : List (S51)) (x11 : List Int) (x51 : Bool) : Lim (fun k => laws_FnExactBestCloth.j0 k x0 x2 x10 x11 x51) (laws_FnExactBestCloth.J0 x0 x2 x10 x11 x51) := Lim.of (fun k => (laws_FnExactBestCloth.mono_l k) x0 x2 x10 x11 x51)
noncomputable def laws_FnExactBestCloth.F (l0 : List (S53)) (a1_0 a1_1 a1_2 : Int) (l2 : List Int) : Option (Bool) := lim (fun k => laws_FnExactBestCloth.f k l0 a1_0 a1_1 a1_2 l2)
theorem laws_FnExactBestCloth.F_lim (l0 : List (S53)) (a1_0 a1_1 a1_2 : Int) (l2 : List Int) : Lim (fun k => laws_FnExactBestCloth.f k l0 a1_0 a1_1 a1_2 l2) (laws_FnExactBestCloth.F l0 a1_0 a1_1 a1_2 l2) := Lim.of (fun k => laws_FnExactBestCloth.mono l0 a1_0 a1_1 a1_2 l2 k)
theorem laws_FnExactBestCloth.J0_eq (x0 : List (S53)) (x2 : List Int) (x10 : List (S51)) (x11 : List Int) (x51 : Bool) : laws_FnExactBestCloth.J0 x0 x2 x10 x11 x51 = if x51 = true then (some false) else ((laws_toSpotS.F x0).bind fun t513 => ((laws_eqSpotS.F x10 t513).bind fun t516 => (if t516 = true then ((laws_toInt64S.F x2).bind fun t517 => ((laws_eqInt64S.F x11 t517).bind fun t520 => (if t520 = true then (some true) else (some false)))) else (some false)))) := by
  refine Lim.next (fun k => (laws_FnExactBestCloth.mono_l k) x0 x2 x10 x11 x51) ?_
  simp only [laws_FnExactBestCloth.j0]
  repeat' with_reducible first | exact Lim.const _ | exact laws_eqInt64S.F_lim _ _ | exact laws_eqSpotS.F_lim _ _ | exact laws_toInt64S.F_lim _ | exact laws_toSpotS.F_lim _ | refine Lim.ite ?_ ?_ | refine Lim.bind ?_ (fun _ => ?_)
theorem laws_FnExactBestCloth.F_eq (l0 : List (S53)) (a1_0 a1_1 a1_2 : Int) (l2 : List Int) : laws_FnExactBestCloth.F l0 a1_0 a1_1 a1_2 l2 = if (l2.length : Int) > 1048576 then (some true) else ((laws_szSpotS.f l0 1048576).bind fun t490 => (if t490 < 0 then (some true) else ((laws_toSpotS.F l0).bind fun t491 => ((laws_toWeave.f a1_0 a1_1 a1_2).bind fun bt494 => ((laws_toInt64S.F l2).bind fun t497 => ((spec_BestCloth.F t491 bt494.1 bt494.2.1 bt494.2.2 t497).bind fun bt500 => ((laws_toSpotS.F l0).bind fun t502 => ((laws_toInt64S.F l2).bind fun t505 => ((laws_toWeave.f a1_0 a1_1 a1_2).bind fun bt508 => ((impl_BestCloth.F t502 bt508.1 bt508.2.1 bt508.2.2 t505).bind fun bt511 => (if bt511.1 = bt500.1 then (laws_FnExactBestCloth.J0 l0 l2 t502 t505 (bt511.2 != bt500.2)) else (laws_FnExactBestCloth.J0 l0 l2 t502 t505 true)))))))))))) := by
  refine Lim.eq (g := fun k => laws_FnExactBestCloth.f k l0 a1_0 a1_1 a1_2 l2) ?_
  unfold laws_FnExactBestCloth.f
  repeat' with_reducible first | exact Lim.const _ | exact impl_BestCloth.F_lim _ _ _ _ _ | exact laws_FnExactBestCloth.J0_lim _ _ _ _ _ | exact laws_toInt64S.F_lim _ | exact laws_toSpotS.F_lim _ | exact spec_BestCloth.F_lim _ _ _ _ _ | refine Lim.ite ?_ ?_ | refine Lim.bind ?_ (fun _ => ?_)

end Go.Proofs.Ytmljmfepnlpgfaa.PFnExactBestCloth
