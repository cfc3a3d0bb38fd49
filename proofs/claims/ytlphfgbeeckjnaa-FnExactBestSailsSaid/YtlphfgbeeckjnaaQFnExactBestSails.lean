/-
  Written by a program of this session (wip/tools/lims.py): the printed functions without their bound on rounds.
-/
import Derived.Test.YtlphfgbeeckjnaaPFnExactBestSailsx1
import Derived.Test.YtlphfgbeeckjnaaPFnExactBestSailsx2
import Derived.Test.YtlphfgbeeckjnaaPFnExactBestSailsx3
import Derived.Test.YtlphfgbeeckjnaaPFnExactBestSailsx4
import Derived.Test.YtlphfgbeeckjnaaPFnExactBestSailsx5
import Derived.Test.YtlphfgbeeckjnaaPFnExactBestSailsx6
import Derived.Test.YtlphfgbeeckjnaaPFnExactBestSailsx7
import Derived.Test.YtlphfgbeeckjnaaPFnExactBestSailsx8
import Derived.Test.YtlphfgbeeckjnaaPFnExactBestSailsx9
import Derived.Test.YtlphfgbeeckjnaaPFnExactBestSailsx10
import Derived.Test.YtlphfgbeeckjnaaPFnExactBestSailsx11
import Derived.Test.YtlphfgbeeckjnaaPFnExactBestSailsx12
import Derived.Test.YtlphfgbeeckjnaaPFnExactBestSailsx13
import Derived.Test.YtlphfgbeeckjnaaPFnExactBestSailsx14
import Derived.Test.YtlphfgbeeckjnaaPFnExactBestSailsx15
import Derived.Test.YtlphfgbeeckjnaaPFnExactBestSailsx16
import Derived.Test.YtlphfgbeeckjnaaPFnExactBestSailsx17
import Derived.Test.YtlphfgbeeckjnaaPFnExactBestSailsx18
import Derived.Test.YtlphfgbeeckjnaaPFnExactBestSailsx19
import Derived.Test.YtlphfgbeeckjnaaPFnExactBestSailsx20
import Derived.Test.YtlphfgbeeckjnaaPFnExactBestSailsx21
import Derived.Test.YtlphfgbeeckjnaaKit
set_option linter.unusedVariables false
set_option linter.unusedSimpArgs false
namespace Go.Proofs.Ytlphfgbeeckjnaa.PFnExactBestSails
open Go.RowKit Go.Proofs.Ytlphfgbeeckjnaa.Kit Go.Proofs.YtlphfgbeeckjnaaW.PrintWords Go.Proofs.YtlphfgbeeckjnaaW.PrintLast Go.Proofs.YtlphfgbeeckjnaaW.PrintMore

noncomputable def laws_szHungS.L0 (x0 : List (S74)) (x1 : Int) (x5 : Int) : Option (Int) := lim (fun k => laws_szHungS.l0 k x0 x1 x5)
theorem laws_szHungS.L0_lim (x0 : List (S74)) (x1 : Int) (x5 : Int) : Lim (fun k => laws_szHungS.l0 k x0 x1 x5) (laws_szHungS.L0 x0 x1 x5) := Lim.of (fun k => (laws_szHungS.mono_l k) x0 x1 x5)
noncomputable def laws_szHungS.F (l0 : List (S74)) (a1 : Int) : Option (Int) := lim (fun k => laws_szHungS.f k l0 a1)
theorem laws_szHungS.F_lim (l0 : List (S74)) (a1 : Int) : Lim (fun k => laws_szHungS.f k l0 a1) (laws_szHungS.F l0 a1) := Lim.of (fun k => laws_szHungS.mono l0 a1 k)
theorem laws_szHungS.L0_eq (x0 : List (S74)) (x1 : Int) (x5 : Int) : laws_szHungS.L0 x0 x1 x5 = if x5 < (x0.length : Int) then (if 0 ≤ x5 then ((laws_szHung.f ((rd_T74 x0 x5).f0) ((rd_T74 x0 x5).f1) ((rd_T74 x0 x5).f2) x1).bind fun t104 => (if t104 < 0 then (some (-1)) else (laws_szHungS.L0 x0 t104 (wrap64 (x5 + 1))))) else (none)) else (some x1) := by
  refine Lim.step (f := fun k => if x5 < (x0.length : Int) then (if 0 ≤ x5 then ((laws_szHung.f ((rd_T74 x0 x5).f0) ((rd_T74 x0 x5).f1) ((rd_T74 x0 x5).f2) x1).bind fun t104 => (if t104 < 0 then (some (-1)) else (laws_szHungS.l0 k x0 t104 (wrap64 (x5 + 1))))) else (none)) else (some x1)) (fun k => (laws_szHungS.mono_l k) x0 x1 x5) (fun k => by simp only [laws_szHungS.l0]) ?_
  repeat' first
    | with_reducible exact Lim.const _
    | with_reducible exact laws_szHungS.L0_lim _ _ _
    | with_reducible refine Lim.ite ?_ ?_
    | with_reducible refine Lim.bind ?_ (fun _ => ?_)
theorem laws_szHungS.F_eq (l0 : List (S74)) (a1 : Int) : laws_szHungS.F l0 a1 = if (wrap64 (a1 - (l0.length : Int))) < 0 then (some (-1)) else (laws_szHungS.L0 l0 (wrap64 (a1 - (l0.length : Int))) 0) := by
  refine Lim.eq (g := fun k => laws_szHungS.f k l0 a1) ?_
  unfold laws_szHungS.f
  repeat' first
    | with_reducible exact Lim.const _
    | with_reducible exact laws_szHungS.L0_lim _ _ _
    | with_reducible refine Lim.ite ?_ ?_
    | with_reducible refine Lim.bind ?_ (fun _ => ?_)

noncomputable def laws_szPlan.F (l0_0 : List (S74)) (a0_1 : Int) (a0_2 : Int) (a1 : Int) : Option (Int) := lim (fun k => laws_szPlan.f k l0_0 a0_1 a0_2 a1)
theorem laws_szPlan.F_lim (l0_0 : List (S74)) (a0_1 : Int) (a0_2 : Int) (a1 : Int) : Lim (fun k => laws_szPlan.f k l0_0 a0_1 a0_2 a1) (laws_szPlan.F l0_0 a0_1 a0_2 a1) := Lim.of (fun k => laws_szPlan.mono l0_0 a0_1 a0_2 a1 k)
theorem laws_szPlan.F_eq (l0_0 : List (S74)) (a0_1 : Int) (a0_2 : Int) (a1 : Int) : laws_szPlan.F l0_0 a0_1 a0_2 a1 = (laws_szHungS.F l0_0 a1).bind fun t106 => (if t106 < 0 then (some (-1)) else (some t106)) := by
  refine Lim.eq (g := fun k => laws_szPlan.f k l0_0 a0_1 a0_2 a1) ?_
  unfold laws_szPlan.f
  repeat' first
    | with_reducible exact Lim.const _
    | with_reducible exact laws_szHungS.F_lim _ _
    | with_reducible refine Lim.ite ?_ ?_
    | with_reducible refine Lim.bind ?_ (fun _ => ?_)

noncomputable def laws_toSpotS.L0 (x0 : List (S176)) (x3 : List (S129)) (x4 : Int) : Option ((List (S129))) := lim (fun k => laws_toSpotS.l0 k x0 x3 x4)
theorem laws_toSpotS.L0_lim (x0 : List (S176)) (x3 : List (S129)) (x4 : Int) : Lim (fun k => laws_toSpotS.l0 k x0 x3 x4) (laws_toSpotS.L0 x0 x3 x4) := Lim.of (fun k => (laws_toSpotS.mono_l k) x0 x3 x4)
noncomputable def laws_toSpotS.F (l0 : List (S176)) : Option ((List (S129))) := lim (fun k => laws_toSpotS.f k l0)
theorem laws_toSpotS.F_lim (l0 : List (S176)) : Lim (fun k => laws_toSpotS.f k l0) (laws_toSpotS.F l0) := Lim.of (fun k => laws_toSpotS.mono l0 k)
theorem laws_toSpotS.L0_eq (x0 : List (S176)) (x3 : List (S129)) (x4 : Int) : laws_toSpotS.L0 x0 x3 x4 = if x4 < (x0.length : Int) then (if 0 ≤ x4 then ((laws_toSpot.f ((rd_T176 x0 x4).f0) ((rd_T176 x0 x4).f1)).bind fun bt114 => (if x4 < (x3.length : Int) then (laws_toSpotS.L0 x0 (x3.set (x4 : Int).toNat (⟨bt114.1, bt114.2⟩ : S129)) (wrap64 (x4 + 1))) else (none))) else (none)) else (some x3) := by
  refine Lim.step (f := fun k => if x4 < (x0.length : Int) then (if 0 ≤ x4 then ((laws_toSpot.f ((rd_T176 x0 x4).f0) ((rd_T176 x0 x4).f1)).bind fun bt114 => (if x4 < (x3.length : Int) then (laws_toSpotS.l0 k x0 (x3.set (x4 : Int).toNat (⟨bt114.1, bt114.2⟩ : S129)) (wrap64 (x4 + 1))) else (none))) else (none)) else (some x3)) (fun k => (laws_toSpotS.mono_l k) x0 x3 x4) (fun k => by simp only [laws_toSpotS.l0]) ?_
  repeat' first
    | with_reducible exact Lim.const _
    | with_reducible exact laws_toSpotS.L0_lim _ _ _
    | with_reducible refine Lim.ite ?_ ?_
    | with_reducible refine Lim.bind ?_ (fun _ => ?_)
theorem laws_toSpotS.F_eq (l0 : List (S176)) : laws_toSpotS.F l0 = if 0 ≤ (l0.length : Int) then (if ((l0.length : Int) : Int).toNat ≤ 17592186044416 then (laws_toSpotS.L0 l0 (List.replicate ((l0.length : Int) : Int).toNat z129) 0) else (none)) else (none) := by
  refine Lim.eq (g := fun k => laws_toSpotS.f k l0) ?_
  unfold laws_toSpotS.f
  repeat' first
    | with_reducible exact Lim.const _
    | with_reducible exact laws_toSpotS.L0_lim _ _ _
    | with_reducible refine Lim.ite ?_ ?_
    | with_reducible refine Lim.bind ?_ (fun _ => ?_)

noncomputable def laws_toHung.F (a0_0 : ByteArray) (l0_1 : List (S176)) (a0_2 : Bool) : Option (ByteArray × (List (S129)) × Bool) := lim (fun k => laws_toHung.f k a0_0 l0_1 a0_2)
theorem laws_toHung.F_lim (a0_0 : ByteArray) (l0_1 : List (S176)) (a0_2 : Bool) : Lim (fun k => laws_toHung.f k a0_0 l0_1 a0_2) (laws_toHung.F a0_0 l0_1 a0_2) := Lim.of (fun k => laws_toHung.mono a0_0 l0_1 a0_2 k)
theorem laws_toHung.F_eq (a0_0 : ByteArray) (l0_1 : List (S176)) (a0_2 : Bool) : laws_toHung.F a0_0 l0_1 a0_2 = (laws_toSpotS.F l0_1).bind fun t120 => (some (a0_0, t120, a0_2)) := by
  refine Lim.eq (g := fun k => laws_toHung.f k a0_0 l0_1 a0_2) ?_
  unfold laws_toHung.f
  repeat' first
    | with_reducible exact Lim.const _
    | with_reducible exact laws_toSpotS.F_lim _
    | with_reducible refine Lim.ite ?_ ?_
    | with_reducible refine Lim.bind ?_ (fun _ => ?_)

noncomputable def laws_toHungS.L0 (x0 : List (S74)) (x3 : List (S79)) (x4 : Int) : Option ((List (S79))) := lim (fun k => laws_toHungS.l0 k x0 x3 x4)
theorem laws_toHungS.L0_lim (x0 : List (S74)) (x3 : List (S79)) (x4 : Int) : Lim (fun k => laws_toHungS.l0 k x0 x3 x4) (laws_toHungS.L0 x0 x3 x4) := Lim.of (fun k => (laws_toHungS.mono_l k) x0 x3 x4)
noncomputable def laws_toHungS.F (l0 : List (S74)) : Option ((List (S79))) := lim (fun k => laws_toHungS.f k l0)
theorem laws_toHungS.F_lim (l0 : List (S74)) : Lim (fun k => laws_toHungS.f k l0) (laws_toHungS.F l0) := Lim.of (fun k => laws_toHungS.mono l0 k)
theorem laws_toHungS.L0_eq (x0 : List (S74)) (x3 : List (S79)) (x4 : Int) : laws_toHungS.L0 x0 x3 x4 = if x4 < (x0.length : Int) then (if 0 ≤ x4 then ((laws_toHung.F ((rd_T74 x0 x4).f0) ((rd_T74 x0 x4).f1) ((rd_T74 x0 x4).f2)).bind fun bt127 => (if x4 < (x3.length : Int) then (laws_toHungS.L0 x0 (x3.set (x4 : Int).toNat (⟨bt127.1, bt127.2.1, bt127.2.2⟩ : S79)) (wrap64 (x4 + 1))) else (none))) else (none)) else (some x3) := by
  refine Lim.step (f := fun k => if x4 < (x0.length : Int) then (if 0 ≤ x4 then ((laws_toHung.f k ((rd_T74 x0 x4).f0) ((rd_T74 x0 x4).f1) ((rd_T74 x0 x4).f2)).bind fun bt127 => (if x4 < (x3.length : Int) then (laws_toHungS.l0 k x0 (x3.set (x4 : Int).toNat (⟨bt127.1, bt127.2.1, bt127.2.2⟩ : S79)) (wrap64 (x4 + 1))) else (none))) else (none)) else (some x3)) (fun k => (laws_toHungS.mono_l k) x0 x3 x4) (fun k => by simp only [laws_toHungS.l0]) ?_
  repeat' first
    | with_reducible exact Lim.const _
    | with_reducible exact laws_toHung.F_lim _ _ _
    | with_reducible exact laws_toHungS.L0_lim _ _ _
    | with_reducible refine Lim.ite ?_ ?_
    | with_reducible refine Lim.bind ?_ (fun _ => ?_)
theorem laws_toHungS.F_eq (l0 : List (S74)) : laws_toHungS.F l0 = if 0 ≤ (l0.length : Int) then (if ((l0.length : Int) : Int).toNat ≤ 5864062014805 then (laws_toHungS.L0 l0 (List.replicate ((l0.length : Int) : Int).toNat z79) 0) else (none)) else (none) := by
  refine Lim.eq (g := fun k => laws_toHungS.f k l0) ?_
  unfold laws_toHungS.f
  repeat' first
    | with_reducible exact Lim.const _
    | with_reducible exact laws_toHungS.L0_lim _ _ _
    | with_reducible refine Lim.ite ?_ ?_
    | with_reducible refine Lim.bind ?_ (fun _ => ?_)

noncomputable def laws_toPlan.F (l0_0 : List (S74)) (a0_1 : Int) (a0_2 : Int) : Option ((List (S79)) × Int × Int) := lim (fun k => laws_toPlan.f k l0_0 a0_1 a0_2)
theorem laws_toPlan.F_lim (l0_0 : List (S74)) (a0_1 : Int) (a0_2 : Int) : Lim (fun k => laws_toPlan.f k l0_0 a0_1 a0_2) (laws_toPlan.F l0_0 a0_1 a0_2) := Lim.of (fun k => laws_toPlan.mono l0_0 a0_1 a0_2 k)
theorem laws_toPlan.F_eq (l0_0 : List (S74)) (a0_1 : Int) (a0_2 : Int) : laws_toPlan.F l0_0 a0_1 a0_2 = (laws_toHungS.F l0_0).bind fun t136 => (some (t136, a0_1, a0_2)) := by
  refine Lim.eq (g := fun k => laws_toPlan.f k l0_0 a0_1 a0_2) ?_
  unfold laws_toPlan.f
  repeat' first
    | with_reducible exact Lim.const _
    | with_reducible exact laws_toHungS.F_lim _
    | with_reducible refine Lim.ite ?_ ?_
    | with_reducible refine Lim.bind ?_ (fun _ => ?_)

noncomputable def laws_eqSpotS.L0 (x0 : List (S129)) (x1 : List (S129)) (x5 : Int) : Option (Bool) := lim (fun k => laws_eqSpotS.l0 k x0 x1 x5)
theorem laws_eqSpotS.L0_lim (x0 : List (S129)) (x1 : List (S129)) (x5 : Int) : Lim (fun k => laws_eqSpotS.l0 k x0 x1 x5) (laws_eqSpotS.L0 x0 x1 x5) := Lim.of (fun k => (laws_eqSpotS.mono_l k) x0 x1 x5)
noncomputable def laws_eqSpotS.F (l0 : List (S129)) (l1 : List (S129)) : Option (Bool) := lim (fun k => laws_eqSpotS.f k l0 l1)
theorem laws_eqSpotS.F_lim (l0 : List (S129)) (l1 : List (S129)) : Lim (fun k => laws_eqSpotS.f k l0 l1) (laws_eqSpotS.F l0 l1) := Lim.of (fun k => laws_eqSpotS.mono l0 l1 k)
theorem laws_eqSpotS.L0_eq (x0 : List (S129)) (x1 : List (S129)) (x5 : Int) : laws_eqSpotS.L0 x0 x1 x5 = if x5 < (x0.length : Int) then (if 0 ≤ x5 then (if x5 < (x1.length : Int) then ((laws_eqSpot.f ((rd_T129 x0 x5).f0) ((rd_T129 x0 x5).f1) ((rd_T129 x1 x5).f0) ((rd_T129 x1 x5).f1)).bind fun t143 => (if t143 = true then (laws_eqSpotS.L0 x0 x1 (wrap64 (x5 + 1))) else (some false))) else (none)) else (none)) else (some true) := by
  refine Lim.step (f := fun k => if x5 < (x0.length : Int) then (if 0 ≤ x5 then (if x5 < (x1.length : Int) then ((laws_eqSpot.f ((rd_T129 x0 x5).f0) ((rd_T129 x0 x5).f1) ((rd_T129 x1 x5).f0) ((rd_T129 x1 x5).f1)).bind fun t143 => (if t143 = true then (laws_eqSpotS.l0 k x0 x1 (wrap64 (x5 + 1))) else (some false))) else (none)) else (none)) else (some true)) (fun k => (laws_eqSpotS.mono_l k) x0 x1 x5) (fun k => by simp only [laws_eqSpotS.l0]) ?_
  repeat' first
    | with_reducible exact Lim.const _
    | with_reducible exact laws_eqSpotS.L0_lim _ _ _
    | with_reducible refine Lim.ite ?_ ?_
    | with_reducible refine Lim.bind ?_ (fun _ => ?_)
theorem laws_eqSpotS.F_eq (l0 : List (S129)) (l1 : List (S129)) : laws_eqSpotS.F l0 l1 = if (l0.length : Int) = (l1.length : Int) then (laws_eqSpotS.L0 l0 l1 0) else (some false) := by
  refine Lim.eq (g := fun k => laws_eqSpotS.f k l0 l1) ?_
  unfold laws_eqSpotS.f
  repeat' first
    | with_reducible exact Lim.const _
    | with_reducible exact laws_eqSpotS.L0_lim _ _ _
    | with_reducible refine Lim.ite ?_ ?_
    | with_reducible refine Lim.bind ?_ (fun _ => ?_)

noncomputable def laws_eqHung.F (a0_0 : ByteArray) (l0_1 : List (S129)) (a0_2 : Bool) (a1_0 : ByteArray) (l1_1 : List (S129)) (a1_2 : Bool) : Option (Bool) := lim (fun k => laws_eqHung.f k a0_0 l0_1 a0_2 a1_0 l1_1 a1_2)
theorem laws_eqHung.F_lim (a0_0 : ByteArray) (l0_1 : List (S129)) (a0_2 : Bool) (a1_0 : ByteArray) (l1_1 : List (S129)) (a1_2 : Bool) : Lim (fun k => laws_eqHung.f k a0_0 l0_1 a0_2 a1_0 l1_1 a1_2) (laws_eqHung.F a0_0 l0_1 a0_2 a1_0 l1_1 a1_2) := Lim.of (fun k => laws_eqHung.mono a0_0 l0_1 a0_2 a1_0 l1_1 a1_2 k)
theorem laws_eqHung.F_eq (a0_0 : ByteArray) (l0_1 : List (S129)) (a0_2 : Bool) (a1_0 : ByteArray) (l1_1 : List (S129)) (a1_2 : Bool) : laws_eqHung.F a0_0 l0_1 a0_2 a1_0 l1_1 a1_2 = if a0_0.toList = a1_0.toList then ((laws_eqSpotS.F l0_1 l1_1).bind fun t146 => (if t146 = true then (if (a0_2 != a1_2) = true then (some false) else (some true)) else (some false))) else (some false) := by
  refine Lim.eq (g := fun k => laws_eqHung.f k a0_0 l0_1 a0_2 a1_0 l1_1 a1_2) ?_
  unfold laws_eqHung.f
  repeat' first
    | with_reducible exact Lim.const _
    | with_reducible exact laws_eqSpotS.F_lim _ _
    | with_reducible refine Lim.ite ?_ ?_
    | with_reducible refine Lim.bind ?_ (fun _ => ?_)

noncomputable def laws_eqHungS.L0 (x0 : List (S79)) (x1 : List (S79)) (x5 : Int) : Option (Bool) := lim (fun k => laws_eqHungS.l0 k x0 x1 x5)
theorem laws_eqHungS.L0_lim (x0 : List (S79)) (x1 : List (S79)) (x5 : Int) : Lim (fun k => laws_eqHungS.l0 k x0 x1 x5) (laws_eqHungS.L0 x0 x1 x5) := Lim.of (fun k => (laws_eqHungS.mono_l k) x0 x1 x5)
noncomputable def laws_eqHungS.F (l0 : List (S79)) (l1 : List (S79)) : Option (Bool) := lim (fun k => laws_eqHungS.f k l0 l1)
theorem laws_eqHungS.F_lim (l0 : List (S79)) (l1 : List (S79)) : Lim (fun k => laws_eqHungS.f k l0 l1) (laws_eqHungS.F l0 l1) := Lim.of (fun k => laws_eqHungS.mono l0 l1 k)
theorem laws_eqHungS.L0_eq (x0 : List (S79)) (x1 : List (S79)) (x5 : Int) : laws_eqHungS.L0 x0 x1 x5 = if x5 < (x0.length : Int) then (if 0 ≤ x5 then (if x5 < (x1.length : Int) then ((laws_eqHung.F ((rd_T79 x0 x5).f0) ((rd_T79 x0 x5).f1) ((rd_T79 x0 x5).f2) ((rd_T79 x1 x5).f0) ((rd_T79 x1 x5).f1) ((rd_T79 x1 x5).f2)).bind fun t149 => (if t149 = true then (laws_eqHungS.L0 x0 x1 (wrap64 (x5 + 1))) else (some false))) else (none)) else (none)) else (some true) := by
  refine Lim.step (f := fun k => if x5 < (x0.length : Int) then (if 0 ≤ x5 then (if x5 < (x1.length : Int) then ((laws_eqHung.f k ((rd_T79 x0 x5).f0) ((rd_T79 x0 x5).f1) ((rd_T79 x0 x5).f2) ((rd_T79 x1 x5).f0) ((rd_T79 x1 x5).f1) ((rd_T79 x1 x5).f2)).bind fun t149 => (if t149 = true then (laws_eqHungS.l0 k x0 x1 (wrap64 (x5 + 1))) else (some false))) else (none)) else (none)) else (some true)) (fun k => (laws_eqHungS.mono_l k) x0 x1 x5) (fun k => by simp only [laws_eqHungS.l0]) ?_
  repeat' first
    | with_reducible exact Lim.const _
    | with_reducible exact laws_eqHung.F_lim _ _ _ _ _ _
    | with_reducible exact laws_eqHungS.L0_lim _ _ _
    | with_reducible refine Lim.ite ?_ ?_
    | with_reducible refine Lim.bind ?_ (fun _ => ?_)
theorem laws_eqHungS.F_eq (l0 : List (S79)) (l1 : List (S79)) : laws_eqHungS.F l0 l1 = if (l0.length : Int) = (l1.length : Int) then (laws_eqHungS.L0 l0 l1 0) else (some false) := by
  refine Lim.eq (g := fun k => laws_eqHungS.f k l0 l1) ?_
  unfold laws_eqHungS.f
  repeat' first
    | with_reducible exact Lim.const _
    | with_reducible exact laws_eqHungS.L0_lim _ _ _
    | with_reducible refine Lim.ite ?_ ?_
    | with_reducible refine Lim.bind ?_ (fun _ => ?_)

noncomputable def laws_eqPlan.F (l0_0 : List (S79)) (a0_1 : Int) (a0_2 : Int) (l1_0 : List (S79)) (a1_1 : Int) (a1_2 : Int) : Option (Bool) := lim (fun k => laws_eqPlan.f k l0_0 a0_1 a0_2 l1_0 a1_1 a1_2)
theorem laws_eqPlan.F_lim (l0_0 : List (S79)) (a0_1 : Int) (a0_2 : Int) (l1_0 : List (S79)) (a1_1 : Int) (a1_2 : Int) : Lim (fun k => laws_eqPlan.f k l0_0 a0_1 a0_2 l1_0 a1_1 a1_2) (laws_eqPlan.F l0_0 a0_1 a0_2 l1_0 a1_1 a1_2) := Lim.of (fun k => laws_eqPlan.mono l0_0 a0_1 a0_2 l1_0 a1_1 a1_2 k)
theorem laws_eqPlan.F_eq (l0_0 : List (S79)) (a0_1 : Int) (a0_2 : Int) (l1_0 : List (S79)) (a1_1 : Int) (a1_2 : Int) : laws_eqPlan.F l0_0 a0_1 a0_2 l1_0 a1_1 a1_2 = (laws_eqHungS.F l0_0 l1_0).bind fun t152 => (if t152 = true then (if a0_1 = a1_1 then (if a0_2 = a1_2 then (some true) else (some false)) else (some false)) else (some false)) := by
  refine Lim.eq (g := fun k => laws_eqPlan.f k l0_0 a0_1 a0_2 l1_0 a1_1 a1_2) ?_
  unfold laws_eqPlan.f
  repeat' first
    | with_reducible exact Lim.const _
    | with_reducible exact laws_eqHungS.F_lim _ _
    | with_reducible refine Lim.ite ?_ ?_
    | with_reducible refine Lim.bind ?_ (fun _ => ?_)

noncomputable def laws_markSpotS.L0 (x0 : List (S129)) (x1 : Int) (x5 : Int) : Option (Int × (List (S129))) := lim (fun k => laws_markSpotS.l0 k x0 x1 x5)
theorem laws_markSpotS.L0_lim (x0 : List (S129)) (x1 : Int) (x5 : Int) : Lim (fun k => laws_markSpotS.l0 k x0 x1 x5) (laws_markSpotS.L0 x0 x1 x5) := Lim.of (fun k => (laws_markSpotS.mono_l k) x0 x1 x5)
noncomputable def laws_markSpotS.F (l0 : List (S129)) (a1 : Int) : Option (Int × (List (S129))) := lim (fun k => laws_markSpotS.f k l0 a1)
theorem laws_markSpotS.F_lim (l0 : List (S129)) (a1 : Int) : Lim (fun k => laws_markSpotS.f k l0 a1) (laws_markSpotS.F l0 a1) := Lim.of (fun k => laws_markSpotS.mono l0 a1 k)
theorem laws_markSpotS.L0_eq (x0 : List (S129)) (x1 : Int) (x5 : Int) : laws_markSpotS.L0 x0 x1 x5 = if x5 < (x0.length : Int) then (if 0 ≤ x5 then ((some (x0.set (x5 : Int).toNat (⟨x1, (rd_T129 x0 x5).f1⟩ : S129) : List (S129))).bind fun y153 => (laws_markSpotS.L0 (y153.set (x5 : Int).toNat (⟨(rd_T129 y153 x5).f0, wrap64 (x1 + 1)⟩ : S129)) (wrap64 ((wrap64 (x1 + 1)) + 1)) (wrap64 (x5 + 1)))) else (none)) else (some (x1, x0)) := by
  refine Lim.step (f := fun k => if x5 < (x0.length : Int) then (if 0 ≤ x5 then ((some (x0.set (x5 : Int).toNat (⟨x1, (rd_T129 x0 x5).f1⟩ : S129) : List (S129))).bind fun y153 => (laws_markSpotS.l0 k (y153.set (x5 : Int).toNat (⟨(rd_T129 y153 x5).f0, wrap64 (x1 + 1)⟩ : S129)) (wrap64 ((wrap64 (x1 + 1)) + 1)) (wrap64 (x5 + 1)))) else (none)) else (some (x1, x0))) (fun k => (laws_markSpotS.mono_l k) x0 x1 x5) (fun k => by simp only [laws_markSpotS.l0]) ?_
  repeat' first
    | with_reducible exact Lim.const _
    | with_reducible exact laws_markSpotS.L0_lim _ _ _
    | with_reducible refine Lim.ite ?_ ?_
    | with_reducible refine Lim.bind ?_ (fun _ => ?_)
theorem laws_markSpotS.F_eq (l0 : List (S129)) (a1 : Int) : laws_markSpotS.F l0 a1 = laws_markSpotS.L0 l0 a1 0 := by
  refine Lim.eq (g := fun k => laws_markSpotS.f k l0 a1) ?_
  unfold laws_markSpotS.f
  repeat' first
    | with_reducible exact Lim.const _
    | with_reducible exact laws_markSpotS.L0_lim _ _ _
    | with_reducible refine Lim.ite ?_ ?_
    | with_reducible refine Lim.bind ?_ (fun _ => ?_)

noncomputable def laws_markText.L0 (x0 : Int) (x3 : ByteArray) : Option (ByteArray) := lim (fun k => laws_markText.l0 k x0 x3)
theorem laws_markText.L0_lim (x0 : Int) (x3 : ByteArray) : Lim (fun k => laws_markText.l0 k x0 x3) (laws_markText.L0 x0 x3) := Lim.of (fun k => (laws_markText.mono_l k) x0 x3)
noncomputable def laws_markText.F (a0 : Int) : Option (ByteArray) := lim (fun k => laws_markText.f k a0)
theorem laws_markText.F_lim (a0 : Int) : Lim (fun k => laws_markText.f k a0) (laws_markText.F a0) := Lim.of (fun k => laws_markText.mono a0 k)
theorem laws_markText.L0_eq (x0 : Int) (x3 : ByteArray) : laws_markText.L0 x0 x3 = if x0 > 0 then ((some (([(wrap64 (48 + (Int.tmod x0 10))) % 256] : List Int) : List Int)).bind fun y155 => (if (strOfNums y155).size + x3.size ≤ 9223372036854775807 then (laws_markText.L0 (wrap64 (Int.tdiv x0 10)) ((strOfNums y155) ++ x3)) else (none))) else (if 1 + x3.size ≤ 9223372036854775807 then (some ((⟨#[109]⟩ : ByteArray) ++ x3)) else (none)) := by
  refine Lim.step (f := fun k => if x0 > 0 then ((some (([(wrap64 (48 + (Int.tmod x0 10))) % 256] : List Int) : List Int)).bind fun y155 => (if (strOfNums y155).size + x3.size ≤ 9223372036854775807 then (laws_markText.l0 k (wrap64 (Int.tdiv x0 10)) ((strOfNums y155) ++ x3)) else (none))) else (if 1 + x3.size ≤ 9223372036854775807 then (some ((⟨#[109]⟩ : ByteArray) ++ x3)) else (none))) (fun k => (laws_markText.mono_l k) x0 x3) (fun k => by simp only [laws_markText.l0]) ?_
  repeat' first
    | with_reducible exact Lim.const _
    | with_reducible exact laws_markText.L0_lim _ _
    | with_reducible refine Lim.ite ?_ ?_
    | with_reducible refine Lim.bind ?_ (fun _ => ?_)
theorem laws_markText.F_eq (a0 : Int) : laws_markText.F a0 = if a0 ≤ 0 then (some (⟨#[109, 48]⟩ : ByteArray)) else (laws_markText.L0 a0 (⟨#[]⟩ : ByteArray)) := by
  refine Lim.eq (g := fun k => laws_markText.f k a0) ?_
  unfold laws_markText.f
  repeat' first
    | with_reducible exact Lim.const _
    | with_reducible exact laws_markText.L0_lim _ _
    | with_reducible refine Lim.ite ?_ ?_
    | with_reducible refine Lim.bind ?_ (fun _ => ?_)

noncomputable def laws_markHungS.L0 (x0 : List (S79)) (x1 : Int) (x2 : Int) : Option (Int × (List (S79))) := lim (fun k => laws_markHungS.l0 k x0 x1 x2)
theorem laws_markHungS.L0_lim (x0 : List (S79)) (x1 : Int) (x2 : Int) : Lim (fun k => laws_markHungS.l0 k x0 x1 x2) (laws_markHungS.L0 x0 x1 x2) := Lim.of (fun k => (laws_markHungS.mono_l k) x0 x1 x2)
noncomputable def laws_markHungS.F (l0 : List (S79)) (a1 : Int) : Option (Int × (List (S79))) := lim (fun k => laws_markHungS.f k l0 a1)
theorem laws_markHungS.F_lim (l0 : List (S79)) (a1 : Int) : Lim (fun k => laws_markHungS.f k l0 a1) (laws_markHungS.F l0 a1) := Lim.of (fun k => laws_markHungS.mono l0 a1 k)
theorem laws_markHungS.L0_eq (x0 : List (S79)) (x1 : Int) (x2 : Int) : laws_markHungS.L0 x0 x1 x2 = if x2 < (x0.length : Int) then (if 0 ≤ x2 then ((laws_markText.F x1).bind fun t1 => ((laws_markSpotS.F ((rd_T79 x0 x2).f1) (wrap64 (x1 + 1))).bind fun bt1 => (laws_markHungS.L0 (x0.set (x2 : Int).toNat (⟨t1, bt1.2, (Int.tmod bt1.1 3) == 0⟩ : S79)) (wrap64 (bt1.1 + 1)) (wrap64 (x2 + 1))))) else (none)) else (some (x1, x0)) := by
  refine Lim.step (f := fun k => if x2 < (x0.length : Int) then (if 0 ≤ x2 then ((laws_markText.f k x1).bind fun t1 => ((laws_markSpotS.f k ((rd_T79 x0 x2).f1) (wrap64 (x1 + 1))).bind fun bt1 => (laws_markHungS.l0 k (x0.set (x2 : Int).toNat (⟨t1, bt1.2, (Int.tmod bt1.1 3) == 0⟩ : S79)) (wrap64 (bt1.1 + 1)) (wrap64 (x2 + 1))))) else (none)) else (some (x1, x0))) (fun k => (laws_markHungS.mono_l k) x0 x1 x2) (fun k => by simp only [laws_markHungS.l0]) ?_
  repeat' first
    | with_reducible exact Lim.const _
    | with_reducible exact laws_markHungS.L0_lim _ _ _
    | with_reducible exact laws_markSpotS.F_lim _ _
    | with_reducible exact laws_markText.F_lim _
    | with_reducible refine Lim.ite ?_ ?_
    | with_reducible refine Lim.bind ?_ (fun _ => ?_)
theorem laws_markHungS.F_eq (l0 : List (S79)) (a1 : Int) : laws_markHungS.F l0 a1 = laws_markHungS.L0 l0 a1 0 := by
  refine Lim.eq (g := fun k => laws_markHungS.f k l0 a1) ?_
  unfold laws_markHungS.f
  repeat' first
    | with_reducible exact Lim.const _
    | with_reducible exact laws_markHungS.L0_lim _ _ _
    | with_reducible refine Lim.ite ?_ ?_
    | with_reducible refine Lim.bind ?_ (fun _ => ?_)

noncomputable def laws_markPlan.F (l0_0 : List (S79)) (a0_1 : Int) (a0_2 : Int) (a1 : Int) : Option (Int × (List (S79))) := lim (fun k => laws_markPlan.f k l0_0 a0_1 a0_2 a1)
theorem laws_markPlan.F_lim (l0_0 : List (S79)) (a0_1 : Int) (a0_2 : Int) (a1 : Int) : Lim (fun k => laws_markPlan.f k l0_0 a0_1 a0_2 a1) (laws_markPlan.F l0_0 a0_1 a0_2 a1) := Lim.of (fun k => laws_markPlan.mono l0_0 a0_1 a0_2 a1 k)
theorem laws_markPlan.F_eq (l0_0 : List (S79)) (a0_1 : Int) (a0_2 : Int) (a1 : Int) : laws_markPlan.F l0_0 a0_1 a0_2 a1 = laws_markHungS.F l0_0 a1 := by
  refine Lim.eq (g := fun k => laws_markPlan.f k l0_0 a0_1 a0_2 a1) ?_
  unfold laws_markPlan.f
  repeat' first
    | with_reducible exact Lim.const _
    | with_reducible exact laws_markHungS.F_lim _ _
    | with_reducible refine Lim.ite ?_ ?_
    | with_reducible refine Lim.bind ?_ (fun _ => ?_)

noncomputable def spec_l17Find.L0 (x0 : List (S64)) (x1 : ByteArray) (x5 : Int) : Option (Int) := lim (fun k => spec_l17Find.l0 k x0 x1 x5)
theorem spec_l17Find.L0_lim (x0 : List (S64)) (x1 : ByteArray) (x5 : Int) : Lim (fun k => spec_l17Find.l0 k x0 x1 x5) (spec_l17Find.L0 x0 x1 x5) := Lim.of (fun k => (spec_l17Find.mono_l k) x0 x1 x5)
noncomputable def spec_l17Find.F (l0 : List (S64)) (a1 : ByteArray) : Option (Int) := lim (fun k => spec_l17Find.f k l0 a1)
theorem spec_l17Find.F_lim (l0 : List (S64)) (a1 : ByteArray) : Lim (fun k => spec_l17Find.f k l0 a1) (spec_l17Find.F l0 a1) := Lim.of (fun k => spec_l17Find.mono l0 a1 k)
theorem spec_l17Find.L0_eq (x0 : List (S64)) (x1 : ByteArray) (x5 : Int) : spec_l17Find.L0 x0 x1 x5 = if x5 < (((rd_T64 x0 0).f0).length : Int) then (if 0 ≤ x5 then (if ((rd_T79 ((rd_T64 x0 0).f0) x5).f0).toList = x1.toList then (some x5) else (spec_l17Find.L0 x0 x1 (wrap64 (x5 + 1)))) else (none)) else (some (-1)) := by
  refine Lim.step (f := fun k => if x5 < (((rd_T64 x0 0).f0).length : Int) then (if 0 ≤ x5 then (if ((rd_T79 ((rd_T64 x0 0).f0) x5).f0).toList = x1.toList then (some x5) else (spec_l17Find.l0 k x0 x1 (wrap64 (x5 + 1)))) else (none)) else (some (-1))) (fun k => (spec_l17Find.mono_l k) x0 x1 x5) (fun k => by simp only [spec_l17Find.l0]) ?_
  repeat' first
    | with_reducible exact Lim.const _
    | with_reducible exact spec_l17Find.L0_lim _ _ _
    | with_reducible refine Lim.ite ?_ ?_
    | with_reducible refine Lim.bind ?_ (fun _ => ?_)
theorem spec_l17Find.F_eq (l0 : List (S64)) (a1 : ByteArray) : spec_l17Find.F l0 a1 = if 0 < (l0.length : Int) then (spec_l17Find.L0 l0 a1 0) else (none) := by
  refine Lim.eq (g := fun k => spec_l17Find.f k l0 a1) ?_
  unfold spec_l17Find.f
  repeat' first
    | with_reducible exact Lim.const _
    | with_reducible exact spec_l17Find.L0_lim _ _ _
    | with_reducible refine Lim.ite ?_ ?_
    | with_reducible refine Lim.bind ?_ (fun _ => ?_)

noncomputable def spec_IsName.J0 (x0 : ByteArray) (x16 : Bool) : Option (Bool) := lim (fun k => spec_IsName.j0 k x0 x16)
theorem spec_IsName.J0_lim (x0 : ByteArray) (x16 : Bool) : Lim (fun k => spec_IsName.j0 k x0 x16) (spec_IsName.J0 x0 x16) := Lim.of (fun k => (spec_IsName.mono_l k).1 x0 x16)
noncomputable def spec_IsName.L0 (x0 : ByteArray) (x3 : Int) : Option (Bool) := lim (fun k => spec_IsName.l0 k x0 x3)
theorem spec_IsName.L0_lim (x0 : ByteArray) (x3 : Int) : Lim (fun k => spec_IsName.l0 k x0 x3) (spec_IsName.L0 x0 x3) := Lim.of (fun k => (spec_IsName.mono_l k).2 x0 x3)
noncomputable def spec_IsName.F (a0 : ByteArray) : Option (Bool) := lim (fun k => spec_IsName.f k a0)
theorem spec_IsName.F_lim (a0 : ByteArray) : Lim (fun k => spec_IsName.f k a0) (spec_IsName.F a0) := Lim.of (fun k => spec_IsName.mono a0 k)
theorem spec_IsName.J0_eq (x0 : ByteArray) (x16 : Bool) : spec_IsName.J0 x0 x16 = if x16 = true then (some false) else (spec_IsName.L0 x0 0) := by
  refine Lim.step (f := fun k => if x16 = true then (some false) else (spec_IsName.l0 k x0 0)) (fun k => (spec_IsName.mono_l k).1 x0 x16) (fun k => by simp only [spec_IsName.j0]) ?_
  repeat' first
    | with_reducible exact Lim.const _
    | with_reducible exact spec_IsName.L0_lim _ _
    | with_reducible refine Lim.ite ?_ ?_
    | with_reducible refine Lim.bind ?_ (fun _ => ?_)
theorem spec_IsName.L0_eq (x0 : ByteArray) (x3 : Int) : spec_IsName.L0 x0 x3 = if x3 < (x0.size : Int) then (if 0 ≤ x3 then ((spec_l01Small.f (bt x0 x3)).bind fun t163 => (if t163 = true then (spec_IsName.L0 x0 (wrap64 (x3 + 1))) else ((spec_l01Digit.f (bt x0 x3)).bind fun t164 => (if t164 = true then (spec_IsName.L0 x0 (wrap64 (x3 + 1))) else (if (bt x0 x3) = 45 then (spec_IsName.L0 x0 (wrap64 (x3 + 1))) else (some false)))))) else (none)) else (some true) := by
  refine Lim.step (f := fun k => if x3 < (x0.size : Int) then (if 0 ≤ x3 then ((spec_l01Small.f (bt x0 x3)).bind fun t163 => (if t163 = true then (spec_IsName.l0 k x0 (wrap64 (x3 + 1))) else ((spec_l01Digit.f (bt x0 x3)).bind fun t164 => (if t164 = true then (spec_IsName.l0 k x0 (wrap64 (x3 + 1))) else (if (bt x0 x3) = 45 then (spec_IsName.l0 k x0 (wrap64 (x3 + 1))) else (some false)))))) else (none)) else (some true)) (fun k => (spec_IsName.mono_l k).2 x0 x3) (fun k => by simp only [spec_IsName.l0]) ?_
  repeat' first
    | with_reducible exact Lim.const _
    | with_reducible exact spec_IsName.L0_lim _ _
    | with_reducible refine Lim.ite ?_ ?_
    | with_reducible refine Lim.bind ?_ (fun _ => ?_)
theorem spec_IsName.F_eq (a0 : ByteArray) : spec_IsName.F a0 = if a0.toList = ([] : List UInt8) then (spec_IsName.J0 a0 true) else (if (a0.size : Int) > 12 then (spec_IsName.J0 a0 true) else (if 0 < (a0.size : Int) then ((spec_l01Small.f (bt a0 0)).bind fun t162 => (spec_IsName.J0 a0 (!t162))) else (none))) := by
  refine Lim.eq (g := fun k => spec_IsName.f k a0) ?_
  unfold spec_IsName.f
  repeat' first
    | with_reducible exact Lim.const _
    | with_reducible exact spec_IsName.J0_lim _ _
    | with_reducible refine Lim.ite ?_ ?_
    | with_reducible refine Lim.bind ?_ (fun _ => ?_)

noncomputable def spec_l13Meet.J0 (x30 : Bool) (x185000 : Int) (x185001 : Int) (x186000 : Int) (x186001 : Int) (x187000 : Int) (x187001 : Int) (x188000 : Int) (x188001 : Int) : Option (Bool) := lim (fun k => spec_l13Meet.j0 k x30 x185000 x185001 x186000 x186001 x187000 x187001 x188000 x188001)
theorem spec_l13Meet.J0_lim (x30 : Bool) (x185000 : Int) (x185001 : Int) (x186000 : Int) (x186001 : Int) (x187000 : Int) (x187001 : Int) (x188000 : Int) (x188001 : Int) : Lim (fun k => spec_l13Meet.j0 k x30 x185000 x185001 x186000 x186001 x187000 x187001 x188000 x188001) (spec_l13Meet.J0 x30 x185000 x185001 x186000 x186001 x187000 x187001 x188000 x188001) := Lim.of (fun k => (spec_l13Meet.mono_l k) x30 x185000 x185001 x186000 x186001 x187000 x187001 x188000 x188001)
noncomputable def spec_l13Meet.F (a0_0 : Int) (a0_1 : Int) (a1_0 : Int) (a1_1 : Int) (a2_0 : Int) (a2_1 : Int) (a3_0 : Int) (a3_1 : Int) : Option (Bool) := lim (fun k => spec_l13Meet.f k a0_0 a0_1 a1_0 a1_1 a2_0 a2_1 a3_0 a3_1)
theorem spec_l13Meet.F_lim (a0_0 : Int) (a0_1 : Int) (a1_0 : Int) (a1_1 : Int) (a2_0 : Int) (a2_1 : Int) (a3_0 : Int) (a3_1 : Int) : Lim (fun k => spec_l13Meet.f k a0_0 a0_1 a1_0 a1_1 a2_0 a2_1 a3_0 a3_1) (spec_l13Meet.F a0_0 a0_1 a1_0 a1_1 a2_0 a2_1 a3_0 a3_1) := Lim.of (fun k => spec_l13Meet.mono a0_0 a0_1 a1_0 a1_1 a2_0 a2_1 a3_0 a3_1 k)
theorem spec_l13Meet.J0_eq (x30 : Bool) (x185000 : Int) (x185001 : Int) (x186000 : Int) (x186001 : Int) (x187000 : Int) (x187001 : Int) (x188000 : Int) (x188001 : Int) : spec_l13Meet.J0 x30 x185000 x185001 x186000 x186001 x187000 x187001 x188000 x188001 = if x30 = true then (some true) else ((spec_l13Sides.f x185000 x185001 x186000 x186001 x187000 x187001 x188000 x188001).bind fun t192 => (if t192 = true then ((spec_l13Sides.f x187000 x187001 x188000 x188001 x185000 x185001 x186000 x186001).bind fun t193 => (some t193)) else (some false))) := by
  refine Lim.step (f := fun k => if x30 = true then (some true) else ((spec_l13Sides.f x185000 x185001 x186000 x186001 x187000 x187001 x188000 x188001).bind fun t192 => (if t192 = true then ((spec_l13Sides.f x187000 x187001 x188000 x188001 x185000 x185001 x186000 x186001).bind fun t193 => (some t193)) else (some false)))) (fun k => (spec_l13Meet.mono_l k) x30 x185000 x185001 x186000 x186001 x187000 x187001 x188000 x188001) (fun k => by simp only [spec_l13Meet.j0]) ?_
  repeat' first
    | with_reducible exact Lim.const _
    | with_reducible refine Lim.ite ?_ ?_
    | with_reducible refine Lim.bind ?_ (fun _ => ?_)
theorem spec_l13Meet.F_eq (a0_0 : Int) (a0_1 : Int) (a1_0 : Int) (a1_1 : Int) (a2_0 : Int) (a2_1 : Int) (a3_0 : Int) (a3_1 : Int) : spec_l13Meet.F a0_0 a0_1 a1_0 a1_1 a2_0 a2_1 a3_0 a3_1 = (spec_l13On.f a0_0 a0_1 a1_0 a1_1 a2_0 a2_1).bind fun t188 => (if t188 = true then (spec_l13Meet.J0 true a0_0 a0_1 a1_0 a1_1 a2_0 a2_1 a3_0 a3_1) else ((spec_l13On.f a0_0 a0_1 a1_0 a1_1 a3_0 a3_1).bind fun t189 => (if t189 = true then (spec_l13Meet.J0 true a0_0 a0_1 a1_0 a1_1 a2_0 a2_1 a3_0 a3_1) else ((spec_l13On.f a2_0 a2_1 a3_0 a3_1 a0_0 a0_1).bind fun t190 => (if t190 = true then (spec_l13Meet.J0 true a0_0 a0_1 a1_0 a1_1 a2_0 a2_1 a3_0 a3_1) else ((spec_l13On.f a2_0 a2_1 a3_0 a3_1 a1_0 a1_1).bind fun t191 => (spec_l13Meet.J0 t191 a0_0 a0_1 a1_0 a1_1 a2_0 a2_1 a3_0 a3_1))))))) := by
  refine Lim.eq (g := fun k => spec_l13Meet.f k a0_0 a0_1 a1_0 a1_1 a2_0 a2_1 a3_0 a3_1) ?_
  unfold spec_l13Meet.f
  repeat' first
    | with_reducible exact Lim.const _
    | with_reducible exact spec_l13Meet.J0_lim _ _ _ _ _ _ _ _ _
    | with_reducible refine Lim.ite ?_ ?_
    | with_reducible refine Lim.bind ?_ (fun _ => ?_)

noncomputable def spec_l13Twice.L0 (x0 : List (S129)) (x3 : Int) (x4 : Int) : Option (Int) := lim (fun k => spec_l13Twice.l0 k x0 x3 x4)
theorem spec_l13Twice.L0_lim (x0 : List (S129)) (x3 : Int) (x4 : Int) : Lim (fun k => spec_l13Twice.l0 k x0 x3 x4) (spec_l13Twice.L0 x0 x3 x4) := Lim.of (fun k => (spec_l13Twice.mono_l k) x0 x3 x4)
noncomputable def spec_l13Twice.F (l0 : List (S129)) : Option (Int) := lim (fun k => spec_l13Twice.f k l0)
theorem spec_l13Twice.F_lim (l0 : List (S129)) : Lim (fun k => spec_l13Twice.f k l0) (spec_l13Twice.F l0) := Lim.of (fun k => spec_l13Twice.mono l0 k)
theorem spec_l13Twice.L0_eq (x0 : List (S129)) (x3 : Int) (x4 : Int) : spec_l13Twice.L0 x0 x3 x4 = if x4 < (x0.length : Int) then (if (x0.length : Int) = 0 then (none) else (if 0 ≤ (Int.tmod (wrap64 (x4 + 1)) (x0.length : Int)) then (if (Int.tmod (wrap64 (x4 + 1)) (x0.length : Int)) < (x0.length : Int) then (if 0 ≤ x4 then (spec_l13Twice.L0 x0 (wrap64 (x3 + (wrap64 ((wrap64 (((rd_T129 x0 x4).f0) * ((rd_T129 x0 (Int.tmod (wrap64 (x4 + 1)) (x0.length : Int))).f1))) - (wrap64 (((rd_T129 x0 (Int.tmod (wrap64 (x4 + 1)) (x0.length : Int))).f0) * ((rd_T129 x0 x4).f1))))))) (wrap64 (x4 + 1))) else (none)) else (none)) else (none))) else (some x3) := by
  refine Lim.step (f := fun k => if x4 < (x0.length : Int) then (if (x0.length : Int) = 0 then (none) else (if 0 ≤ (Int.tmod (wrap64 (x4 + 1)) (x0.length : Int)) then (if (Int.tmod (wrap64 (x4 + 1)) (x0.length : Int)) < (x0.length : Int) then (if 0 ≤ x4 then (spec_l13Twice.l0 k x0 (wrap64 (x3 + (wrap64 ((wrap64 (((rd_T129 x0 x4).f0) * ((rd_T129 x0 (Int.tmod (wrap64 (x4 + 1)) (x0.length : Int))).f1))) - (wrap64 (((rd_T129 x0 (Int.tmod (wrap64 (x4 + 1)) (x0.length : Int))).f0) * ((rd_T129 x0 x4).f1))))))) (wrap64 (x4 + 1))) else (none)) else (none)) else (none))) else (some x3)) (fun k => (spec_l13Twice.mono_l k) x0 x3 x4) (fun k => by simp only [spec_l13Twice.l0]) ?_
  repeat' first
    | with_reducible exact Lim.const _
    | with_reducible exact spec_l13Twice.L0_lim _ _ _
    | with_reducible refine Lim.ite ?_ ?_
    | with_reducible refine Lim.bind ?_ (fun _ => ?_)
theorem spec_l13Twice.F_eq (l0 : List (S129)) : spec_l13Twice.F l0 = spec_l13Twice.L0 l0 0 0 := by
  refine Lim.eq (g := fun k => spec_l13Twice.f k l0) ?_
  unfold spec_l13Twice.f
  repeat' first
    | with_reducible exact Lim.const _
    | with_reducible exact spec_l13Twice.L0_lim _ _ _
    | with_reducible refine Lim.ite ?_ ?_
    | with_reducible refine Lim.bind ?_ (fun _ => ?_)

noncomputable def spec_l13Ok.L0 (x0 : List (S129)) (x3 : Int) (x4 : Int) : Option (Bool) := lim (fun k => spec_l13Ok.l0 k x0 x3 x4)
theorem spec_l13Ok.L0_lim (x0 : List (S129)) (x3 : Int) (x4 : Int) : Lim (fun k => spec_l13Ok.l0 k x0 x3 x4) (spec_l13Ok.L0 x0 x3 x4) := Lim.of (fun k => (spec_l13Ok.mono_l k).1 x0 x3 x4)
noncomputable def spec_l13Ok.L1 (x0 : List (S129)) (x3 : Int) (x5 : Int) : Option (Bool) := lim (fun k => spec_l13Ok.l1 k x0 x3 x5)
theorem spec_l13Ok.L1_lim (x0 : List (S129)) (x3 : Int) (x5 : Int) : Lim (fun k => spec_l13Ok.l1 k x0 x3 x5) (spec_l13Ok.L1 x0 x3 x5) := Lim.of (fun k => (spec_l13Ok.mono_l k).2.1 x0 x3 x5)
noncomputable def spec_l13Ok.L2 (x0 : List (S129)) (x3 : Int) (x5 : Int) (x8 : Int) (x206000 : Int) (x206001 : Int) (x208000 : Int) (x208001 : Int) : Option (Bool) := lim (fun k => spec_l13Ok.l2 k x0 x3 x5 x8 x206000 x206001 x208000 x208001)
theorem spec_l13Ok.L2_lim (x0 : List (S129)) (x3 : Int) (x5 : Int) (x8 : Int) (x206000 : Int) (x206001 : Int) (x208000 : Int) (x208001 : Int) : Lim (fun k => spec_l13Ok.l2 k x0 x3 x5 x8 x206000 x206001 x208000 x208001) (spec_l13Ok.L2 x0 x3 x5 x8 x206000 x206001 x208000 x208001) := Lim.of (fun k => (spec_l13Ok.mono_l k).2.2 x0 x3 x5 x8 x206000 x206001 x208000 x208001)
noncomputable def spec_l13Ok.F (l0 : List (S129)) : Option (Bool) := lim (fun k => spec_l13Ok.f k l0)
theorem spec_l13Ok.F_lim (l0 : List (S129)) : Lim (fun k => spec_l13Ok.f k l0) (spec_l13Ok.F l0) := Lim.of (fun k => spec_l13Ok.mono l0 k)
theorem spec_l13Ok.L0_eq (x0 : List (S129)) (x3 : Int) (x4 : Int) : spec_l13Ok.L0 x0 x3 x4 = if x4 < x3 then (if 0 ≤ x4 then (if x4 < (x0.length : Int) then ((spec_l00In.f ((rd_T129 x0 x4).f0) 0 2000).bind fun t200 => (if t200 = true then ((spec_l00In.f ((rd_T129 x0 x4).f1) 0 2000).bind fun t202 => (if t202 = true then (spec_l13Ok.L0 x0 x3 (wrap64 (x4 + 1))) else (some false))) else (some false))) else (none)) else (none)) else (spec_l13Ok.L1 x0 x3 0) := by
  refine Lim.step (f := fun k => if x4 < x3 then (if 0 ≤ x4 then (if x4 < (x0.length : Int) then ((spec_l00In.f ((rd_T129 x0 x4).f0) 0 2000).bind fun t200 => (if t200 = true then ((spec_l00In.f ((rd_T129 x0 x4).f1) 0 2000).bind fun t202 => (if t202 = true then (spec_l13Ok.l0 k x0 x3 (wrap64 (x4 + 1))) else (some false))) else (some false))) else (none)) else (none)) else (spec_l13Ok.l1 k x0 x3 0)) (fun k => (spec_l13Ok.mono_l k).1 x0 x3 x4) (fun k => by simp only [spec_l13Ok.l0]) ?_
  repeat' first
    | with_reducible exact Lim.const _
    | with_reducible exact spec_l13Ok.L0_lim _ _ _
    | with_reducible exact spec_l13Ok.L1_lim _ _ _
    | with_reducible refine Lim.ite ?_ ?_
    | with_reducible refine Lim.bind ?_ (fun _ => ?_)
theorem spec_l13Ok.L1_eq (x0 : List (S129)) (x3 : Int) (x5 : Int) : spec_l13Ok.L1 x0 x3 x5 = if x5 < x3 then (if 0 ≤ x5 then (if x5 < (x0.length : Int) then (if x3 = 0 then (none) else (if 0 ≤ (Int.tmod (wrap64 (x5 + 1)) x3) then (if (Int.tmod (wrap64 (x5 + 1)) x3) < (x0.length : Int) then (if 0 ≤ (Int.tmod (wrap64 (x5 + 2)) x3) then (if (Int.tmod (wrap64 (x5 + 2)) x3) < (x0.length : Int) then ((spec_l13Cross.f ((rd_T129 x0 x5).f0) ((rd_T129 x0 x5).f1) ((rd_T129 x0 (Int.tmod (wrap64 (x5 + 1)) x3)).f0) ((rd_T129 x0 (Int.tmod (wrap64 (x5 + 1)) x3)).f1) ((rd_T129 x0 (Int.tmod (wrap64 (x5 + 2)) x3)).f0) ((rd_T129 x0 (Int.tmod (wrap64 (x5 + 2)) x3)).f1)).bind fun t209 => (if t209 = 0 then (some false) else (spec_l13Ok.L2 x0 x3 x5 (wrap64 (x5 + 2)) ((rd_T129 x0 x5).f0) ((rd_T129 x0 x5).f1) ((rd_T129 x0 (Int.tmod (wrap64 (x5 + 1)) x3)).f0) ((rd_T129 x0 (Int.tmod (wrap64 (x5 + 1)) x3)).f1)))) else (none)) else (none)) else (none)) else (none))) else (none)) else (none)) else ((spec_l13Twice.F x0).bind fun t203 => (some (decide (t203 > 0)))) := by
  refine Lim.step (f := fun k => if x5 < x3 then (if 0 ≤ x5 then (if x5 < (x0.length : Int) then (if x3 = 0 then (none) else (if 0 ≤ (Int.tmod (wrap64 (x5 + 1)) x3) then (if (Int.tmod (wrap64 (x5 + 1)) x3) < (x0.length : Int) then (if 0 ≤ (Int.tmod (wrap64 (x5 + 2)) x3) then (if (Int.tmod (wrap64 (x5 + 2)) x3) < (x0.length : Int) then ((spec_l13Cross.f ((rd_T129 x0 x5).f0) ((rd_T129 x0 x5).f1) ((rd_T129 x0 (Int.tmod (wrap64 (x5 + 1)) x3)).f0) ((rd_T129 x0 (Int.tmod (wrap64 (x5 + 1)) x3)).f1) ((rd_T129 x0 (Int.tmod (wrap64 (x5 + 2)) x3)).f0) ((rd_T129 x0 (Int.tmod (wrap64 (x5 + 2)) x3)).f1)).bind fun t209 => (if t209 = 0 then (some false) else (spec_l13Ok.l2 k x0 x3 x5 (wrap64 (x5 + 2)) ((rd_T129 x0 x5).f0) ((rd_T129 x0 x5).f1) ((rd_T129 x0 (Int.tmod (wrap64 (x5 + 1)) x3)).f0) ((rd_T129 x0 (Int.tmod (wrap64 (x5 + 1)) x3)).f1)))) else (none)) else (none)) else (none)) else (none))) else (none)) else (none)) else ((spec_l13Twice.f k x0).bind fun t203 => (some (decide (t203 > 0))))) (fun k => (spec_l13Ok.mono_l k).2.1 x0 x3 x5) (fun k => by simp only [spec_l13Ok.l1]) ?_
  repeat' first
    | with_reducible exact Lim.const _
    | with_reducible exact spec_l13Ok.L2_lim _ _ _ _ _ _ _ _
    | with_reducible exact spec_l13Twice.F_lim _
    | with_reducible refine Lim.ite ?_ ?_
    | with_reducible refine Lim.bind ?_ (fun _ => ?_)
theorem spec_l13Ok.L2_eq (x0 : List (S129)) (x3 : Int) (x5 : Int) (x8 : Int) (x206000 : Int) (x206001 : Int) (x208000 : Int) (x208001 : Int) : spec_l13Ok.L2 x0 x3 x5 x8 x206000 x206001 x208000 x208001 = if x8 < x3 then (if x5 > 0 then (if 0 ≤ x8 then (if x8 < (x0.length : Int) then (if x3 = 0 then (none) else (if 0 ≤ (Int.tmod (wrap64 (x8 + 1)) x3) then (if (Int.tmod (wrap64 (x8 + 1)) x3) < (x0.length : Int) then ((spec_l13Meet.F x206000 x206001 x208000 x208001 ((rd_T129 x0 x8).f0) ((rd_T129 x0 x8).f1) ((rd_T129 x0 (Int.tmod (wrap64 (x8 + 1)) x3)).f0) ((rd_T129 x0 (Int.tmod (wrap64 (x8 + 1)) x3)).f1)).bind fun t212 => (if t212 = true then (some false) else (spec_l13Ok.L2 x0 x3 x5 (wrap64 (x8 + 1)) x206000 x206001 x208000 x208001))) else (none)) else (none))) else (none)) else (none)) else (if x8 < (wrap64 (x3 - 1)) then (if 0 ≤ x8 then (if x8 < (x0.length : Int) then (if x3 = 0 then (none) else (if 0 ≤ (Int.tmod (wrap64 (x8 + 1)) x3) then (if (Int.tmod (wrap64 (x8 + 1)) x3) < (x0.length : Int) then ((spec_l13Meet.F x206000 x206001 x208000 x208001 ((rd_T129 x0 x8).f0) ((rd_T129 x0 x8).f1) ((rd_T129 x0 (Int.tmod (wrap64 (x8 + 1)) x3)).f0) ((rd_T129 x0 (Int.tmod (wrap64 (x8 + 1)) x3)).f1)).bind fun t215 => (if t215 = true then (some false) else (spec_l13Ok.L2 x0 x3 x5 (wrap64 (x8 + 1)) x206000 x206001 x208000 x208001))) else (none)) else (none))) else (none)) else (none)) else (spec_l13Ok.L2 x0 x3 x5 (wrap64 (x8 + 1)) x206000 x206001 x208000 x208001))) else (spec_l13Ok.L1 x0 x3 (wrap64 (x5 + 1))) := by
  refine Lim.step (f := fun k => if x8 < x3 then (if x5 > 0 then (if 0 ≤ x8 then (if x8 < (x0.length : Int) then (if x3 = 0 then (none) else (if 0 ≤ (Int.tmod (wrap64 (x8 + 1)) x3) then (if (Int.tmod (wrap64 (x8 + 1)) x3) < (x0.length : Int) then ((spec_l13Meet.f k x206000 x206001 x208000 x208001 ((rd_T129 x0 x8).f0) ((rd_T129 x0 x8).f1) ((rd_T129 x0 (Int.tmod (wrap64 (x8 + 1)) x3)).f0) ((rd_T129 x0 (Int.tmod (wrap64 (x8 + 1)) x3)).f1)).bind fun t212 => (if t212 = true then (some false) else (spec_l13Ok.l2 k x0 x3 x5 (wrap64 (x8 + 1)) x206000 x206001 x208000 x208001))) else (none)) else (none))) else (none)) else (none)) else (if x8 < (wrap64 (x3 - 1)) then (if 0 ≤ x8 then (if x8 < (x0.length : Int) then (if x3 = 0 then (none) else (if 0 ≤ (Int.tmod (wrap64 (x8 + 1)) x3) then (if (Int.tmod (wrap64 (x8 + 1)) x3) < (x0.length : Int) then ((spec_l13Meet.f k x206000 x206001 x208000 x208001 ((rd_T129 x0 x8).f0) ((rd_T129 x0 x8).f1) ((rd_T129 x0 (Int.tmod (wrap64 (x8 + 1)) x3)).f0) ((rd_T129 x0 (Int.tmod (wrap64 (x8 + 1)) x3)).f1)).bind fun t215 => (if t215 = true then (some false) else (spec_l13Ok.l2 k x0 x3 x5 (wrap64 (x8 + 1)) x206000 x206001 x208000 x208001))) else (none)) else (none))) else (none)) else (none)) else (spec_l13Ok.l2 k x0 x3 x5 (wrap64 (x8 + 1)) x206000 x206001 x208000 x208001))) else (spec_l13Ok.l1 k x0 x3 (wrap64 (x5 + 1)))) (fun k => (spec_l13Ok.mono_l k).2.2 x0 x3 x5 x8 x206000 x206001 x208000 x208001) (fun k => by simp only [spec_l13Ok.l2]) ?_
  repeat' first
    | with_reducible exact Lim.const _
    | with_reducible exact spec_l13Meet.F_lim _ _ _ _ _ _ _ _
    | with_reducible exact spec_l13Ok.L1_lim _ _ _
    | with_reducible exact spec_l13Ok.L2_lim _ _ _ _ _ _ _ _
    | with_reducible refine Lim.ite ?_ ?_
    | with_reducible refine Lim.bind ?_ (fun _ => ?_)
theorem spec_l13Ok.F_eq (l0 : List (S129)) : spec_l13Ok.F l0 = (spec_l00In.f (l0.length : Int) 3 8).bind fun t198 => (if t198 = true then (spec_l13Ok.L0 l0 (l0.length : Int) 0) else (some false)) := by
  refine Lim.eq (g := fun k => spec_l13Ok.f k l0) ?_
  unfold spec_l13Ok.f
  repeat' first
    | with_reducible exact Lim.const _
    | with_reducible exact spec_l13Ok.L0_lim _ _ _
    | with_reducible refine Lim.ite ?_ ?_
    | with_reducible refine Lim.bind ?_ (fun _ => ?_)

noncomputable def spec_l17Ok.L0 (x0 : List (S64)) (x3 : Int) : Option (Bool) := lim (fun k => spec_l17Ok.l0 k x0 x3)
theorem spec_l17Ok.L0_lim (x0 : List (S64)) (x3 : Int) : Lim (fun k => spec_l17Ok.l0 k x0 x3) (spec_l17Ok.L0 x0 x3) := Lim.of (fun k => (spec_l17Ok.mono_l k) x0 x3)
noncomputable def spec_l17Ok.F (l0 : List (S64)) : Option (Bool) := lim (fun k => spec_l17Ok.f k l0)
theorem spec_l17Ok.F_lim (l0 : List (S64)) : Lim (fun k => spec_l17Ok.f k l0) (spec_l17Ok.F l0) := Lim.of (fun k => spec_l17Ok.mono l0 k)
theorem spec_l17Ok.L0_eq (x0 : List (S64)) (x3 : Int) : spec_l17Ok.L0 x0 x3 = if x3 < (((rd_T64 x0 0).f0).length : Int) then (if 0 ≤ x3 then ((spec_IsName.F ((rd_T79 ((rd_T64 x0 0).f0) x3).f0)).bind fun t226 => (if t226 = true then ((spec_l17Find.F x0 ((rd_T79 ((rd_T64 x0 0).f0) x3).f0)).bind fun t227 => (if t227 = x3 then ((spec_l13Ok.F ((rd_T79 ((rd_T64 x0 0).f0) x3).f1)).bind fun t228 => (if t228 = true then (spec_l17Ok.L0 x0 (wrap64 (x3 + 1))) else (some false))) else (some false))) else (some false))) else (none)) else (if (((rd_T64 x0 0).f0).length : Int) ≤ 8 then ((spec_l00In.f ((rd_T64 x0 0).f2) 1 5000).bind fun t220 => (if t220 = true then ((spec_l00In.f ((rd_T64 x0 0).f1) 0 ((rd_T64 x0 0).f2)).bind fun t223 => (some t223)) else (some false))) else (some false)) := by
  refine Lim.step (f := fun k => if x3 < (((rd_T64 x0 0).f0).length : Int) then (if 0 ≤ x3 then ((spec_IsName.f k ((rd_T79 ((rd_T64 x0 0).f0) x3).f0)).bind fun t226 => (if t226 = true then ((spec_l17Find.f k x0 ((rd_T79 ((rd_T64 x0 0).f0) x3).f0)).bind fun t227 => (if t227 = x3 then ((spec_l13Ok.f k ((rd_T79 ((rd_T64 x0 0).f0) x3).f1)).bind fun t228 => (if t228 = true then (spec_l17Ok.l0 k x0 (wrap64 (x3 + 1))) else (some false))) else (some false))) else (some false))) else (none)) else (if (((rd_T64 x0 0).f0).length : Int) ≤ 8 then ((spec_l00In.f ((rd_T64 x0 0).f2) 1 5000).bind fun t220 => (if t220 = true then ((spec_l00In.f ((rd_T64 x0 0).f1) 0 ((rd_T64 x0 0).f2)).bind fun t223 => (some t223)) else (some false))) else (some false))) (fun k => (spec_l17Ok.mono_l k) x0 x3) (fun k => by simp only [spec_l17Ok.l0]) ?_
  repeat' first
    | with_reducible exact Lim.const _
    | with_reducible exact spec_IsName.F_lim _
    | with_reducible exact spec_l13Ok.F_lim _
    | with_reducible exact spec_l17Find.F_lim _ _
    | with_reducible exact spec_l17Ok.L0_lim _ _
    | with_reducible refine Lim.ite ?_ ?_
    | with_reducible refine Lim.bind ?_ (fun _ => ?_)
theorem spec_l17Ok.F_eq (l0 : List (S64)) : spec_l17Ok.F l0 = if 0 < (l0.length : Int) then (spec_l17Ok.L0 l0 0) else (none) := by
  refine Lim.eq (g := fun k => spec_l17Ok.f k l0) ?_
  unfold spec_l17Ok.f
  repeat' first
    | with_reducible exact Lim.const _
    | with_reducible exact spec_l17Ok.L0_lim _ _
    | with_reducible refine Lim.ite ?_ ?_
    | with_reducible refine Lim.bind ?_ (fun _ => ?_)

noncomputable def spec_l17Area.L0 (x0 : List (S64)) (x3 : Int) (x4 : Int) : Option (Int) := lim (fun k => spec_l17Area.l0 k x0 x3 x4)
theorem spec_l17Area.L0_lim (x0 : List (S64)) (x3 : Int) (x4 : Int) : Lim (fun k => spec_l17Area.l0 k x0 x3 x4) (spec_l17Area.L0 x0 x3 x4) := Lim.of (fun k => (spec_l17Area.mono_l k) x0 x3 x4)
noncomputable def spec_l17Area.F (l0 : List (S64)) : Option (Int) := lim (fun k => spec_l17Area.f k l0)
theorem spec_l17Area.F_lim (l0 : List (S64)) : Lim (fun k => spec_l17Area.f k l0) (spec_l17Area.F l0) := Lim.of (fun k => spec_l17Area.mono l0 k)
theorem spec_l17Area.L0_eq (x0 : List (S64)) (x3 : Int) (x4 : Int) : spec_l17Area.L0 x0 x3 x4 = if x4 < (((rd_T64 x0 0).f0).length : Int) then (if 0 ≤ x4 then (if (rd_T79 ((rd_T64 x0 0).f0) x4).f2 = true then ((spec_l13Twice.F ((rd_T79 ((rd_T64 x0 0).f0) x4).f1)).bind fun t237 => (spec_l17Area.L0 x0 (wrap64 (x3 + t237)) (wrap64 (x4 + 1)))) else (spec_l17Area.L0 x0 x3 (wrap64 (x4 + 1)))) else (none)) else (some x3) := by
  refine Lim.step (f := fun k => if x4 < (((rd_T64 x0 0).f0).length : Int) then (if 0 ≤ x4 then (if (rd_T79 ((rd_T64 x0 0).f0) x4).f2 = true then ((spec_l13Twice.f k ((rd_T79 ((rd_T64 x0 0).f0) x4).f1)).bind fun t237 => (spec_l17Area.l0 k x0 (wrap64 (x3 + t237)) (wrap64 (x4 + 1)))) else (spec_l17Area.l0 k x0 x3 (wrap64 (x4 + 1)))) else (none)) else (some x3)) (fun k => (spec_l17Area.mono_l k) x0 x3 x4) (fun k => by simp only [spec_l17Area.l0]) ?_
  repeat' first
    | with_reducible exact Lim.const _
    | with_reducible exact spec_l13Twice.F_lim _
    | with_reducible exact spec_l17Area.L0_lim _ _ _
    | with_reducible refine Lim.ite ?_ ?_
    | with_reducible refine Lim.bind ?_ (fun _ => ?_)
theorem spec_l17Area.F_eq (l0 : List (S64)) : spec_l17Area.F l0 = if 0 < (l0.length : Int) then (spec_l17Area.L0 l0 0 0) else (none) := by
  refine Lim.eq (g := fun k => spec_l17Area.f k l0) ?_
  unfold spec_l17Area.f
  repeat' first
    | with_reducible exact Lim.const _
    | with_reducible exact spec_l17Area.L0_lim _ _ _
    | with_reducible refine Lim.ite ?_ ?_
    | with_reducible refine Lim.bind ?_ (fun _ => ?_)

noncomputable def spec_l13Moments.L0 (x0 : List (S129)) (x4 : Int) (x5 : Int) (x6 : Int) : Option (Int × Int) := lim (fun k => spec_l13Moments.l0 k x0 x4 x5 x6)
theorem spec_l13Moments.L0_lim (x0 : List (S129)) (x4 : Int) (x5 : Int) (x6 : Int) : Lim (fun k => spec_l13Moments.l0 k x0 x4 x5 x6) (spec_l13Moments.L0 x0 x4 x5 x6) := Lim.of (fun k => (spec_l13Moments.mono_l k) x0 x4 x5 x6)
noncomputable def spec_l13Moments.F (l0 : List (S129)) : Option (Int × Int) := lim (fun k => spec_l13Moments.f k l0)
theorem spec_l13Moments.F_lim (l0 : List (S129)) : Lim (fun k => spec_l13Moments.f k l0) (spec_l13Moments.F l0) := Lim.of (fun k => spec_l13Moments.mono l0 k)
theorem spec_l13Moments.L0_eq (x0 : List (S129)) (x4 : Int) (x5 : Int) (x6 : Int) : spec_l13Moments.L0 x0 x4 x5 x6 = if x6 < (x0.length : Int) then (if 0 ≤ x6 then (if (x0.length : Int) = 0 then (none) else (if 0 ≤ (Int.tmod (wrap64 (x6 + 1)) (x0.length : Int)) then (if (Int.tmod (wrap64 (x6 + 1)) (x0.length : Int)) < (x0.length : Int) then (spec_l13Moments.L0 x0 (wrap64 (x4 + (wrap64 ((wrap64 (((rd_T129 x0 x6).f0) + ((rd_T129 x0 (Int.tmod (wrap64 (x6 + 1)) (x0.length : Int))).f0))) * (wrap64 ((wrap64 (((rd_T129 x0 x6).f0) * ((rd_T129 x0 (Int.tmod (wrap64 (x6 + 1)) (x0.length : Int))).f1))) - (wrap64 (((rd_T129 x0 (Int.tmod (wrap64 (x6 + 1)) (x0.length : Int))).f0) * ((rd_T129 x0 x6).f1))))))))) (wrap64 (x5 + (wrap64 ((wrap64 (((rd_T129 x0 x6).f1) + ((rd_T129 x0 (Int.tmod (wrap64 (x6 + 1)) (x0.length : Int))).f1))) * (wrap64 ((wrap64 (((rd_T129 x0 x6).f0) * ((rd_T129 x0 (Int.tmod (wrap64 (x6 + 1)) (x0.length : Int))).f1))) - (wrap64 (((rd_T129 x0 (Int.tmod (wrap64 (x6 + 1)) (x0.length : Int))).f0) * ((rd_T129 x0 x6).f1))))))))) (wrap64 (x6 + 1))) else (none)) else (none))) else (none)) else (some (x4, x5)) := by
  refine Lim.step (f := fun k => if x6 < (x0.length : Int) then (if 0 ≤ x6 then (if (x0.length : Int) = 0 then (none) else (if 0 ≤ (Int.tmod (wrap64 (x6 + 1)) (x0.length : Int)) then (if (Int.tmod (wrap64 (x6 + 1)) (x0.length : Int)) < (x0.length : Int) then (spec_l13Moments.l0 k x0 (wrap64 (x4 + (wrap64 ((wrap64 (((rd_T129 x0 x6).f0) + ((rd_T129 x0 (Int.tmod (wrap64 (x6 + 1)) (x0.length : Int))).f0))) * (wrap64 ((wrap64 (((rd_T129 x0 x6).f0) * ((rd_T129 x0 (Int.tmod (wrap64 (x6 + 1)) (x0.length : Int))).f1))) - (wrap64 (((rd_T129 x0 (Int.tmod (wrap64 (x6 + 1)) (x0.length : Int))).f0) * ((rd_T129 x0 x6).f1))))))))) (wrap64 (x5 + (wrap64 ((wrap64 (((rd_T129 x0 x6).f1) + ((rd_T129 x0 (Int.tmod (wrap64 (x6 + 1)) (x0.length : Int))).f1))) * (wrap64 ((wrap64 (((rd_T129 x0 x6).f0) * ((rd_T129 x0 (Int.tmod (wrap64 (x6 + 1)) (x0.length : Int))).f1))) - (wrap64 (((rd_T129 x0 (Int.tmod (wrap64 (x6 + 1)) (x0.length : Int))).f0) * ((rd_T129 x0 x6).f1))))))))) (wrap64 (x6 + 1))) else (none)) else (none))) else (none)) else (some (x4, x5))) (fun k => (spec_l13Moments.mono_l k) x0 x4 x5 x6) (fun k => by simp only [spec_l13Moments.l0]) ?_
  repeat' first
    | with_reducible exact Lim.const _
    | with_reducible exact spec_l13Moments.L0_lim _ _ _ _
    | with_reducible refine Lim.ite ?_ ?_
    | with_reducible refine Lim.bind ?_ (fun _ => ?_)
theorem spec_l13Moments.F_eq (l0 : List (S129)) : spec_l13Moments.F l0 = spec_l13Moments.L0 l0 0 0 0 := by
  refine Lim.eq (g := fun k => spec_l13Moments.f k l0) ?_
  unfold spec_l13Moments.f
  repeat' first
    | with_reducible exact Lim.const _
    | with_reducible exact spec_l13Moments.L0_lim _ _ _ _
    | with_reducible refine Lim.ite ?_ ?_
    | with_reducible refine Lim.bind ?_ (fun _ => ?_)

noncomputable def spec_l17Moments.L0 (x0 : List (S64)) (x4 : Int) (x5 : Int) (x6 : Int) : Option (Int × Int) := lim (fun k => spec_l17Moments.l0 k x0 x4 x5 x6)
theorem spec_l17Moments.L0_lim (x0 : List (S64)) (x4 : Int) (x5 : Int) (x6 : Int) : Lim (fun k => spec_l17Moments.l0 k x0 x4 x5 x6) (spec_l17Moments.L0 x0 x4 x5 x6) := Lim.of (fun k => (spec_l17Moments.mono_l k) x0 x4 x5 x6)
noncomputable def spec_l17Moments.F (l0 : List (S64)) : Option (Int × Int) := lim (fun k => spec_l17Moments.f k l0)
theorem spec_l17Moments.F_lim (l0 : List (S64)) : Lim (fun k => spec_l17Moments.f k l0) (spec_l17Moments.F l0) := Lim.of (fun k => spec_l17Moments.mono l0 k)
theorem spec_l17Moments.L0_eq (x0 : List (S64)) (x4 : Int) (x5 : Int) (x6 : Int) : spec_l17Moments.L0 x0 x4 x5 x6 = if x6 < (((rd_T64 x0 0).f0).length : Int) then (if 0 ≤ x6 then (if (rd_T79 ((rd_T64 x0 0).f0) x6).f2 = true then ((spec_l13Moments.F ((rd_T79 ((rd_T64 x0 0).f0) x6).f1)).bind fun bt248 => (spec_l17Moments.L0 x0 (wrap64 (x4 + bt248.1)) (wrap64 (x5 + bt248.2)) (wrap64 (x6 + 1)))) else (spec_l17Moments.L0 x0 x4 x5 (wrap64 (x6 + 1)))) else (none)) else (some (x4, x5)) := by
  refine Lim.step (f := fun k => if x6 < (((rd_T64 x0 0).f0).length : Int) then (if 0 ≤ x6 then (if (rd_T79 ((rd_T64 x0 0).f0) x6).f2 = true then ((spec_l13Moments.f k ((rd_T79 ((rd_T64 x0 0).f0) x6).f1)).bind fun bt248 => (spec_l17Moments.l0 k x0 (wrap64 (x4 + bt248.1)) (wrap64 (x5 + bt248.2)) (wrap64 (x6 + 1)))) else (spec_l17Moments.l0 k x0 x4 x5 (wrap64 (x6 + 1)))) else (none)) else (some (x4, x5))) (fun k => (spec_l17Moments.mono_l k) x0 x4 x5 x6) (fun k => by simp only [spec_l17Moments.l0]) ?_
  repeat' first
    | with_reducible exact Lim.const _
    | with_reducible exact spec_l13Moments.F_lim _
    | with_reducible exact spec_l17Moments.L0_lim _ _ _ _
    | with_reducible refine Lim.ite ?_ ?_
    | with_reducible refine Lim.bind ?_ (fun _ => ?_)
theorem spec_l17Moments.F_eq (l0 : List (S64)) : spec_l17Moments.F l0 = if 0 < (l0.length : Int) then (spec_l17Moments.L0 l0 0 0 0) else (none) := by
  refine Lim.eq (g := fun k => spec_l17Moments.f k l0) ?_
  unfold spec_l17Moments.f
  repeat' first
    | with_reducible exact Lim.const _
    | with_reducible exact spec_l17Moments.L0_lim _ _ _ _
    | with_reducible refine Lim.ite ?_ ?_
    | with_reducible refine Lim.bind ?_ (fun _ => ?_)

noncomputable def spec_l17Lead.F (l0 : List (S64)) : Option (Int × Int) := lim (fun k => spec_l17Lead.f k l0)
theorem spec_l17Lead.F_lim (l0 : List (S64)) : Lim (fun k => spec_l17Lead.f k l0) (spec_l17Lead.F l0) := Lim.of (fun k => spec_l17Lead.mono l0 k)
theorem spec_l17Lead.F_eq (l0 : List (S64)) : spec_l17Lead.F l0 = if 0 < (l0.length : Int) then ((spec_l17Moments.F l0).bind fun bt251 => ((spec_l17Area.F l0).bind fun t253 => (some (wrap64 (bt251.1 - (wrap64 (((rd_T64 l0 0).f1) * (wrap64 (3 * t253))))), wrap64 (3 * t253))))) else (none) := by
  refine Lim.eq (g := fun k => spec_l17Lead.f k l0) ?_
  unfold spec_l17Lead.f
  repeat' first
    | with_reducible exact Lim.const _
    | with_reducible exact spec_l17Area.F_lim _
    | with_reducible exact spec_l17Moments.F_lim _
    | with_reducible refine Lim.ite ?_ ?_
    | with_reducible refine Lim.bind ?_ (fun _ => ?_)

noncomputable def spec_l17Helm.F (l0 : List (S64)) (a1 : Int) (a2 : Int) : Option (ByteArray) := lim (fun k => spec_l17Helm.f k l0 a1 a2)
theorem spec_l17Helm.F_lim (l0 : List (S64)) (a1 : Int) (a2 : Int) : Lim (fun k => spec_l17Helm.f k l0 a1 a2) (spec_l17Helm.F l0 a1 a2) := Lim.of (fun k => spec_l17Helm.mono l0 a1 a2 k)
theorem spec_l17Helm.F_eq (l0 : List (S64)) (a1 : Int) (a2 : Int) : spec_l17Helm.F l0 a1 a2 = if 0 < (l0.length : Int) then ((spec_l17Lead.F l0).bind fun bt256 => ((spec_l00Floor.f (wrap64 (1000 * bt256.1)) bt256.2).bind fun t258 => (if t258 < (wrap64 (a1 * ((rd_T64 l0 0).f2))) then (some (⟨#[119, 101, 97, 116, 104, 101, 114]⟩ : ByteArray)) else ((spec_l00Floor.f (wrap64 ((-1000) * bt256.1)) bt256.2).bind fun t260 => (if t260 < (wrap64 ((wrap64 (-a2)) * ((rd_T64 l0 0).f2))) then (some (⟨#[108, 101, 101]⟩ : ByteArray)) else (some (⟨#[98, 97, 108, 97, 110, 99, 101, 100]⟩ : ByteArray))))))) else (none) := by
  refine Lim.eq (g := fun k => spec_l17Helm.f k l0 a1 a2) ?_
  unfold spec_l17Helm.f
  repeat' first
    | with_reducible exact Lim.const _
    | with_reducible exact spec_l17Lead.F_lim _
    | with_reducible refine Lim.ite ?_ ?_
    | with_reducible refine Lim.bind ?_ (fun _ => ?_)

noncomputable def spec_BestSails.J0 (x1 : Int) (x2 : Int) (x3 : Int) (x28 : Bool) (x263000 : List (S79)) (x263001 : Int) (x263002 : Int) : Option (List ByteArray × Int) := lim (fun k => spec_BestSails.j0 k x1 x2 x3 x28 x263000 x263001 x263002)
theorem spec_BestSails.J0_lim (x1 : Int) (x2 : Int) (x3 : Int) (x28 : Bool) (x263000 : List (S79)) (x263001 : Int) (x263002 : Int) : Lim (fun k => spec_BestSails.j0 k x1 x2 x3 x28 x263000 x263001 x263002) (spec_BestSails.J0 x1 x2 x3 x28 x263000 x263001 x263002) := Lim.of (fun k => (spec_BestSails.mono_l k).1 x1 x2 x3 x28 x263000 x263001 x263002)
noncomputable def spec_BestSails.L0 (x1 : Int) (x2 : Int) (x3 : Int) (x10 : Int) (x11 : Int) (x12 : Int) (x263000 : List (S79)) (x263001 : Int) (x263002 : Int) : Option (List ByteArray × Int) := lim (fun k => spec_BestSails.l0 k x1 x2 x3 x10 x11 x12 x263000 x263001 x263002)
theorem spec_BestSails.L0_lim (x1 : Int) (x2 : Int) (x3 : Int) (x10 : Int) (x11 : Int) (x12 : Int) (x263000 : List (S79)) (x263001 : Int) (x263002 : Int) : Lim (fun k => spec_BestSails.l0 k x1 x2 x3 x10 x11 x12 x263000 x263001 x263002) (spec_BestSails.L0 x1 x2 x3 x10 x11 x12 x263000 x263001 x263002) := Lim.of (fun k => (spec_BestSails.mono_l k).2.1 x1 x2 x3 x10 x11 x12 x263000 x263001 x263002)
noncomputable def spec_BestSails.L1 (x1 : Int) (x2 : Int) (x3 : Int) (x10 : Int) (x11 : Int) (x12 : Int) (x14 : Int) (x263000 : List (S79)) (x263001 : Int) (x263002 : Int) (x268000 : List (S79)) (x268001 : Int) (x268002 : Int) : Option (List ByteArray × Int) := lim (fun k => spec_BestSails.l1 k x1 x2 x3 x10 x11 x12 x14 x263000 x263001 x263002 x268000 x268001 x268002)
theorem spec_BestSails.L1_lim (x1 : Int) (x2 : Int) (x3 : Int) (x10 : Int) (x11 : Int) (x12 : Int) (x14 : Int) (x263000 : List (S79)) (x263001 : Int) (x263002 : Int) (x268000 : List (S79)) (x268001 : Int) (x268002 : Int) : Lim (fun k => spec_BestSails.l1 k x1 x2 x3 x10 x11 x12 x14 x263000 x263001 x263002 x268000 x268001 x268002) (spec_BestSails.L1 x1 x2 x3 x10 x11 x12 x14 x263000 x263001 x263002 x268000 x268001 x268002) := Lim.of (fun k => (spec_BestSails.mono_l k).2.2.1 x1 x2 x3 x10 x11 x12 x14 x263000 x263001 x263002 x268000 x268001 x268002)
noncomputable def spec_BestSails.L2 (x10 : Int) (x16 : List ByteArray) (x17 : Int) (x263000 : List (S79)) (x263001 : Int) (x263002 : Int) : Option (List ByteArray × Int) := lim (fun k => spec_BestSails.l2 k x10 x16 x17 x263000 x263001 x263002)
theorem spec_BestSails.L2_lim (x10 : Int) (x16 : List ByteArray) (x17 : Int) (x263000 : List (S79)) (x263001 : Int) (x263002 : Int) : Lim (fun k => spec_BestSails.l2 k x10 x16 x17 x263000 x263001 x263002) (spec_BestSails.L2 x10 x16 x17 x263000 x263001 x263002) := Lim.of (fun k => (spec_BestSails.mono_l k).2.2.2 x10 x16 x17 x263000 x263001 x263002)
noncomputable def spec_BestSails.F (l0_0 : List (S79)) (a0_1 : Int) (a0_2 : Int) (a1 : Int) (a2 : Int) (a3 : Int) : Option (List ByteArray × Int) := lim (fun k => spec_BestSails.f k l0_0 a0_1 a0_2 a1 a2 a3)
theorem spec_BestSails.F_lim (l0_0 : List (S79)) (a0_1 : Int) (a0_2 : Int) (a1 : Int) (a2 : Int) (a3 : Int) : Lim (fun k => spec_BestSails.f k l0_0 a0_1 a0_2 a1 a2 a3) (spec_BestSails.F l0_0 a0_1 a0_2 a1 a2 a3) := Lim.of (fun k => spec_BestSails.mono l0_0 a0_1 a0_2 a1 a2 a3 k)
theorem spec_BestSails.J0_eq (x1 : Int) (x2 : Int) (x3 : Int) (x28 : Bool) (x263000 : List (S79)) (x263001 : Int) (x263002 : Int) : spec_BestSails.J0 x1 x2 x3 x28 x263000 x263001 x263002 = if x28 = true then (some (([] : List ByteArray), 2)) else (spec_BestSails.L0 x1 x2 x3 0 0 1 x263000 x263001 x263002) := by
  refine Lim.step (f := fun k => if x28 = true then (some (([] : List ByteArray), 2)) else (spec_BestSails.l0 k x1 x2 x3 0 0 1 x263000 x263001 x263002)) (fun k => (spec_BestSails.mono_l k).1 x1 x2 x3 x28 x263000 x263001 x263002) (fun k => by simp only [spec_BestSails.j0]) ?_
  repeat' first
    | with_reducible exact Lim.const _
    | with_reducible exact spec_BestSails.L0_lim _ _ _ _ _ _ _ _ _
    | with_reducible refine Lim.ite ?_ ?_
    | with_reducible refine Lim.bind ?_ (fun _ => ?_)
theorem spec_BestSails.L0_eq (x1 : Int) (x2 : Int) (x3 : Int) (x10 : Int) (x11 : Int) (x12 : Int) (x263000 : List (S79)) (x263001 : Int) (x263002 : Int) : spec_BestSails.L0 x1 x2 x3 x10 x11 x12 x263000 x263001 x263002 = if 0 ≤ (IntKind.u64.wrap ((x263000.length : Int))) then (if x12 < (shl .i64 1 (IntKind.u64.wrap ((x263000.length : Int)))) then (spec_BestSails.L1 x1 x2 x3 x10 x11 x12 0 x263000 x263001 x263002 (([] : List (S79))) x263001 x263002) else (if x10 = 0 then (some (([] : List ByteArray), 3)) else (spec_BestSails.L2 x10 (([] : List ByteArray)) 0 x263000 x263001 x263002))) else (none) := by
  refine Lim.step (f := fun k => if 0 ≤ (IntKind.u64.wrap ((x263000.length : Int))) then (if x12 < (shl .i64 1 (IntKind.u64.wrap ((x263000.length : Int)))) then (spec_BestSails.l1 k x1 x2 x3 x10 x11 x12 0 x263000 x263001 x263002 (([] : List (S79))) x263001 x263002) else (if x10 = 0 then (some (([] : List ByteArray), 3)) else (spec_BestSails.l2 k x10 (([] : List ByteArray)) 0 x263000 x263001 x263002))) else (none)) (fun k => (spec_BestSails.mono_l k).2.1 x1 x2 x3 x10 x11 x12 x263000 x263001 x263002) (fun k => by simp only [spec_BestSails.l0]) ?_
  repeat' first
    | with_reducible exact Lim.const _
    | with_reducible exact spec_BestSails.L1_lim _ _ _ _ _ _ _ _ _ _ _ _ _
    | with_reducible exact spec_BestSails.L2_lim _ _ _ _ _ _
    | with_reducible refine Lim.ite ?_ ?_
    | with_reducible refine Lim.bind ?_ (fun _ => ?_)
theorem spec_BestSails.L1_eq (x1 : Int) (x2 : Int) (x3 : Int) (x10 : Int) (x11 : Int) (x12 : Int) (x14 : Int) (x263000 : List (S79)) (x263001 : Int) (x263002 : Int) (x268000 : List (S79)) (x268001 : Int) (x268002 : Int) : spec_BestSails.L1 x1 x2 x3 x10 x11 x12 x14 x263000 x263001 x263002 x268000 x268001 x268002 = if x14 < (x263000.length : Int) then (if 0 ≤ (IntKind.u64.wrap (x14)) then (if (Go.bits .and .i64 (shr .i64 x12 (IntKind.u64.wrap (x14))) 1) = 1 then (if 0 ≤ x14 then (if x268000.length < 2932031007402 then (spec_BestSails.L1 x1 x2 x3 x10 x11 x12 (wrap64 (x14 + 1)) x263000 x263001 x263002 (x268000 ++ [(⟨(⟨#[]⟩ : ByteArray), (rd_T79 x263000 x14).f1, true⟩ : S79)]) x268001 x268002) else (none)) else (none)) else (spec_BestSails.L1 x1 x2 x3 x10 x11 x12 (wrap64 (x14 + 1)) x263000 x263001 x263002 x268000 x268001 x268002)) else (none)) else ((spec_l17Area.F [(⟨x268000, x268001, x268002⟩ : S64)]).bind fun t276 => (if t276 ≤ x1 then (if t276 > x11 then ((spec_l17Helm.F [(⟨x268000, x268001, x268002⟩ : S64)] x2 x3).bind fun t278 => (if t278.toList = ([98, 97, 108, 97, 110, 99, 101, 100] : List UInt8) then (spec_BestSails.L0 x1 x2 x3 x12 t276 (wrap64 (x12 + 1)) x263000 x263001 x263002) else (spec_BestSails.L0 x1 x2 x3 x10 x11 (wrap64 (x12 + 1)) x263000 x263001 x263002))) else (spec_BestSails.L0 x1 x2 x3 x10 x11 (wrap64 (x12 + 1)) x263000 x263001 x263002)) else (spec_BestSails.L0 x1 x2 x3 x10 x11 (wrap64 (x12 + 1)) x263000 x263001 x263002))) := by
  refine Lim.step (f := fun k => if x14 < (x263000.length : Int) then (if 0 ≤ (IntKind.u64.wrap (x14)) then (if (Go.bits .and .i64 (shr .i64 x12 (IntKind.u64.wrap (x14))) 1) = 1 then (if 0 ≤ x14 then (if x268000.length < 2932031007402 then (spec_BestSails.l1 k x1 x2 x3 x10 x11 x12 (wrap64 (x14 + 1)) x263000 x263001 x263002 (x268000 ++ [(⟨(⟨#[]⟩ : ByteArray), (rd_T79 x263000 x14).f1, true⟩ : S79)]) x268001 x268002) else (none)) else (none)) else (spec_BestSails.l1 k x1 x2 x3 x10 x11 x12 (wrap64 (x14 + 1)) x263000 x263001 x263002 x268000 x268001 x268002)) else (none)) else ((spec_l17Area.f k [(⟨x268000, x268001, x268002⟩ : S64)]).bind fun t276 => (if t276 ≤ x1 then (if t276 > x11 then ((spec_l17Helm.f k [(⟨x268000, x268001, x268002⟩ : S64)] x2 x3).bind fun t278 => (if t278.toList = ([98, 97, 108, 97, 110, 99, 101, 100] : List UInt8) then (spec_BestSails.l0 k x1 x2 x3 x12 t276 (wrap64 (x12 + 1)) x263000 x263001 x263002) else (spec_BestSails.l0 k x1 x2 x3 x10 x11 (wrap64 (x12 + 1)) x263000 x263001 x263002))) else (spec_BestSails.l0 k x1 x2 x3 x10 x11 (wrap64 (x12 + 1)) x263000 x263001 x263002)) else (spec_BestSails.l0 k x1 x2 x3 x10 x11 (wrap64 (x12 + 1)) x263000 x263001 x263002)))) (fun k => (spec_BestSails.mono_l k).2.2.1 x1 x2 x3 x10 x11 x12 x14 x263000 x263001 x263002 x268000 x268001 x268002) (fun k => by simp only [spec_BestSails.l1]) ?_
  repeat' first
    | with_reducible exact Lim.const _
    | with_reducible exact spec_BestSails.L0_lim _ _ _ _ _ _ _ _ _
    | with_reducible exact spec_BestSails.L1_lim _ _ _ _ _ _ _ _ _ _ _ _ _
    | with_reducible exact spec_l17Area.F_lim _
    | with_reducible exact spec_l17Helm.F_lim _ _ _
    | with_reducible refine Lim.ite ?_ ?_
    | with_reducible refine Lim.bind ?_ (fun _ => ?_)
theorem spec_BestSails.L2_eq (x10 : Int) (x16 : List ByteArray) (x17 : Int) (x263000 : List (S79)) (x263001 : Int) (x263002 : Int) : spec_BestSails.L2 x10 x16 x17 x263000 x263001 x263002 = if x17 < (x263000.length : Int) then (if 0 ≤ (IntKind.u64.wrap (x17)) then (if (Go.bits .and .i64 (shr .i64 x10 (IntKind.u64.wrap (x17))) 1) = 1 then (if 0 ≤ x17 then (if x16.length < 8796093022208 then (spec_BestSails.L2 x10 (x16 ++ [(rd_T79 x263000 x17).f0]) (wrap64 (x17 + 1)) x263000 x263001 x263002) else (none)) else (none)) else (spec_BestSails.L2 x10 x16 (wrap64 (x17 + 1)) x263000 x263001 x263002)) else (none)) else (some (x16, 0)) := by
  refine Lim.step (f := fun k => if x17 < (x263000.length : Int) then (if 0 ≤ (IntKind.u64.wrap (x17)) then (if (Go.bits .and .i64 (shr .i64 x10 (IntKind.u64.wrap (x17))) 1) = 1 then (if 0 ≤ x17 then (if x16.length < 8796093022208 then (spec_BestSails.l2 k x10 (x16 ++ [(rd_T79 x263000 x17).f0]) (wrap64 (x17 + 1)) x263000 x263001 x263002) else (none)) else (none)) else (spec_BestSails.l2 k x10 x16 (wrap64 (x17 + 1)) x263000 x263001 x263002)) else (none)) else (some (x16, 0))) (fun k => (spec_BestSails.mono_l k).2.2.2 x10 x16 x17 x263000 x263001 x263002) (fun k => by simp only [spec_BestSails.l2]) ?_
  repeat' first
    | with_reducible exact Lim.const _
    | with_reducible exact spec_BestSails.L2_lim _ _ _ _ _ _
    | with_reducible refine Lim.ite ?_ ?_
    | with_reducible refine Lim.bind ?_ (fun _ => ?_)
theorem spec_BestSails.F_eq (l0_0 : List (S79)) (a0_1 : Int) (a0_2 : Int) (a1 : Int) (a2 : Int) (a3 : Int) : spec_BestSails.F l0_0 a0_1 a0_2 a1 a2 a3 = (spec_l17Ok.F [(⟨l0_0, a0_1, a0_2⟩ : S64)]).bind fun t264 => (if t264 = true then ((spec_l00In.f a1 0 100000000).bind fun t265 => (if t265 = true then ((spec_l17Range.f a2 a3).bind fun t266 => (spec_BestSails.J0 a1 a2 a3 (!t266) l0_0 a0_1 a0_2)) else (spec_BestSails.J0 a1 a2 a3 true l0_0 a0_1 a0_2))) else (some (([] : List ByteArray), 1))) := by
  refine Lim.eq (g := fun k => spec_BestSails.f k l0_0 a0_1 a0_2 a1 a2 a3) ?_
  unfold spec_BestSails.f
  repeat' first
    | with_reducible exact Lim.const _
    | with_reducible exact spec_BestSails.J0_lim _ _ _ _ _ _ _
    | with_reducible exact spec_l17Ok.F_lim _
    | with_reducible refine Lim.ite ?_ ?_
    | with_reducible refine Lim.bind ?_ (fun _ => ?_)

noncomputable def impl_IsName.J0 (x0 : ByteArray) (x21 : Bool) : Option (Bool) := lim (fun k => impl_IsName.j0 k x0 x21)
theorem impl_IsName.J0_lim (x0 : ByteArray) (x21 : Bool) : Lim (fun k => impl_IsName.j0 k x0 x21) (impl_IsName.J0 x0 x21) := Lim.of (fun k => (impl_IsName.mono_l k).1 x0 x21)
noncomputable def impl_IsName.L0 (x0 : ByteArray) (x3 : Int) : Option (Bool) := lim (fun k => impl_IsName.l0 k x0 x3)
theorem impl_IsName.L0_lim (x0 : ByteArray) (x3 : Int) : Lim (fun k => impl_IsName.l0 k x0 x3) (impl_IsName.L0 x0 x3) := Lim.of (fun k => (impl_IsName.mono_l k).2 x0 x3)
noncomputable def impl_IsName.F (a0 : ByteArray) : Option (Bool) := lim (fun k => impl_IsName.f k a0)
theorem impl_IsName.F_lim (a0 : ByteArray) : Lim (fun k => impl_IsName.f k a0) (impl_IsName.F a0) := Lim.of (fun k => impl_IsName.mono a0 k)
theorem impl_IsName.J0_eq (x0 : ByteArray) (x21 : Bool) : impl_IsName.J0 x0 x21 = if x21 = true then (some false) else (impl_IsName.L0 x0 0) := by
  refine Lim.step (f := fun k => if x21 = true then (some false) else (impl_IsName.l0 k x0 0)) (fun k => (impl_IsName.mono_l k).1 x0 x21) (fun k => by simp only [impl_IsName.j0]) ?_
  repeat' first
    | with_reducible exact Lim.const _
    | with_reducible exact impl_IsName.L0_lim _ _
    | with_reducible refine Lim.ite ?_ ?_
    | with_reducible refine Lim.bind ?_ (fun _ => ?_)
theorem impl_IsName.L0_eq (x0 : ByteArray) (x3 : Int) : impl_IsName.L0 x0 x3 = if x3 < (x0.size : Int) then (if 0 ≤ x3 then (if (bt x0 x3) < 97 then (if (bt x0 x3) < 48 then (if (bt x0 x3) = 45 then (impl_IsName.L0 x0 (wrap64 (x3 + 1))) else (some false)) else (if (bt x0 x3) > 57 then (if (bt x0 x3) = 45 then (impl_IsName.L0 x0 (wrap64 (x3 + 1))) else (some false)) else (impl_IsName.L0 x0 (wrap64 (x3 + 1))))) else (if (bt x0 x3) > 122 then (if (bt x0 x3) < 48 then (if (bt x0 x3) = 45 then (impl_IsName.L0 x0 (wrap64 (x3 + 1))) else (some false)) else (if (bt x0 x3) > 57 then (if (bt x0 x3) = 45 then (impl_IsName.L0 x0 (wrap64 (x3 + 1))) else (some false)) else (impl_IsName.L0 x0 (wrap64 (x3 + 1))))) else (impl_IsName.L0 x0 (wrap64 (x3 + 1))))) else (none)) else (some true) := by
  refine Lim.step (f := fun k => if x3 < (x0.size : Int) then (if 0 ≤ x3 then (if (bt x0 x3) < 97 then (if (bt x0 x3) < 48 then (if (bt x0 x3) = 45 then (impl_IsName.l0 k x0 (wrap64 (x3 + 1))) else (some false)) else (if (bt x0 x3) > 57 then (if (bt x0 x3) = 45 then (impl_IsName.l0 k x0 (wrap64 (x3 + 1))) else (some false)) else (impl_IsName.l0 k x0 (wrap64 (x3 + 1))))) else (if (bt x0 x3) > 122 then (if (bt x0 x3) < 48 then (if (bt x0 x3) = 45 then (impl_IsName.l0 k x0 (wrap64 (x3 + 1))) else (some false)) else (if (bt x0 x3) > 57 then (if (bt x0 x3) = 45 then (impl_IsName.l0 k x0 (wrap64 (x3 + 1))) else (some false)) else (impl_IsName.l0 k x0 (wrap64 (x3 + 1))))) else (impl_IsName.l0 k x0 (wrap64 (x3 + 1))))) else (none)) else (some true)) (fun k => (impl_IsName.mono_l k).2 x0 x3) (fun k => by simp only [impl_IsName.l0]) ?_
  repeat' first
    | with_reducible exact Lim.const _
    | with_reducible exact impl_IsName.L0_lim _ _
    | with_reducible refine Lim.ite ?_ ?_
    | with_reducible refine Lim.bind ?_ (fun _ => ?_)
theorem impl_IsName.F_eq (a0 : ByteArray) : impl_IsName.F a0 = if (a0.size : Int) < 1 then (impl_IsName.J0 a0 true) else (if (a0.size : Int) > 12 then (impl_IsName.J0 a0 true) else (if 0 < (a0.size : Int) then (if (bt a0 0) < 97 then (impl_IsName.J0 a0 true) else (impl_IsName.J0 a0 (decide ((bt a0 0) > 122)))) else (none))) := by
  refine Lim.eq (g := fun k => impl_IsName.f k a0) ?_
  unfold impl_IsName.f
  repeat' first
    | with_reducible exact Lim.const _
    | with_reducible exact impl_IsName.J0_lim _ _
    | with_reducible refine Lim.ite ?_ ?_
    | with_reducible refine Lim.bind ?_ (fun _ => ?_)

noncomputable def impl_edgesMeet.J0 (x9 : Int) (x10 : Int) (x11 : Int) (x12 : Int) (x42 : Bool) (x295000 : Int) (x295001 : Int) (x296000 : Int) (x296001 : Int) (x297000 : Int) (x297001 : Int) (x298000 : Int) (x298001 : Int) : Option (Bool) := lim (fun k => impl_edgesMeet.j0 k x9 x10 x11 x12 x42 x295000 x295001 x296000 x296001 x297000 x297001 x298000 x298001)
theorem impl_edgesMeet.J0_lim (x9 : Int) (x10 : Int) (x11 : Int) (x12 : Int) (x42 : Bool) (x295000 : Int) (x295001 : Int) (x296000 : Int) (x296001 : Int) (x297000 : Int) (x297001 : Int) (x298000 : Int) (x298001 : Int) : Lim (fun k => impl_edgesMeet.j0 k x9 x10 x11 x12 x42 x295000 x295001 x296000 x296001 x297000 x297001 x298000 x298001) (impl_edgesMeet.J0 x9 x10 x11 x12 x42 x295000 x295001 x296000 x296001 x297000 x297001 x298000 x298001) := Lim.of (fun k => (impl_edgesMeet.mono_l k) x9 x10 x11 x12 x42 x295000 x295001 x296000 x296001 x297000 x297001 x298000 x298001)
noncomputable def impl_edgesMeet.F (a0_0 : Int) (a0_1 : Int) (a1_0 : Int) (a1_1 : Int) (a2_0 : Int) (a2_1 : Int) (a3_0 : Int) (a3_1 : Int) : Option (Bool) := lim (fun k => impl_edgesMeet.f k a0_0 a0_1 a1_0 a1_1 a2_0 a2_1 a3_0 a3_1)
theorem impl_edgesMeet.F_lim (a0_0 : Int) (a0_1 : Int) (a1_0 : Int) (a1_1 : Int) (a2_0 : Int) (a2_1 : Int) (a3_0 : Int) (a3_1 : Int) : Lim (fun k => impl_edgesMeet.f k a0_0 a0_1 a1_0 a1_1 a2_0 a2_1 a3_0 a3_1) (impl_edgesMeet.F a0_0 a0_1 a1_0 a1_1 a2_0 a2_1 a3_0 a3_1) := Lim.of (fun k => impl_edgesMeet.mono a0_0 a0_1 a1_0 a1_1 a2_0 a2_1 a3_0 a3_1 k)
theorem impl_edgesMeet.J0_eq (x9 : Int) (x10 : Int) (x11 : Int) (x12 : Int) (x42 : Bool) (x295000 : Int) (x295001 : Int) (x296000 : Int) (x296001 : Int) (x297000 : Int) (x297001 : Int) (x298000 : Int) (x298001 : Int) : impl_edgesMeet.J0 x9 x10 x11 x12 x42 x295000 x295001 x296000 x296001 x297000 x297001 x298000 x298001 = if x42 = true then (some true) else (if x9 = 0 then ((impl_between.f x295000 x295001 x296000 x296001 x297000 x297001).bind fun t306 => (if t306 = true then (some true) else (if x10 = 0 then ((impl_between.f x295000 x295001 x296000 x296001 x298000 x298001).bind fun t307 => (if t307 = true then (some true) else (if x11 = 0 then ((impl_between.f x297000 x297001 x298000 x298001 x295000 x295001).bind fun t308 => (if t308 = true then (some true) else (if x12 = 0 then ((impl_between.f x297000 x297001 x298000 x298001 x296000 x296001).bind fun t309 => (some t309)) else (some false)))) else (if x12 = 0 then ((impl_between.f x297000 x297001 x298000 x298001 x296000 x296001).bind fun t310 => (some t310)) else (some false))))) else (if x11 = 0 then ((impl_between.f x297000 x297001 x298000 x298001 x295000 x295001).bind fun t311 => (if t311 = true then (some true) else (if x12 = 0 then ((impl_between.f x297000 x297001 x298000 x298001 x296000 x296001).bind fun t312 => (some t312)) else (some false)))) else (if x12 = 0 then ((impl_between.f x297000 x297001 x298000 x298001 x296000 x296001).bind fun t313 => (some t313)) else (some false)))))) else (if x10 = 0 then ((impl_between.f x295000 x295001 x296000 x296001 x298000 x298001).bind fun t314 => (if t314 = true then (some true) else (if x11 = 0 then ((impl_between.f x297000 x297001 x298000 x298001 x295000 x295001).bind fun t315 => (if t315 = true then (some true) else (if x12 = 0 then ((impl_between.f x297000 x297001 x298000 x298001 x296000 x296001).bind fun t316 => (some t316)) else (some false)))) else (if x12 = 0 then ((impl_between.f x297000 x297001 x298000 x298001 x296000 x296001).bind fun t317 => (some t317)) else (some false))))) else (if x11 = 0 then ((impl_between.f x297000 x297001 x298000 x298001 x295000 x295001).bind fun t318 => (if t318 = true then (some true) else (if x12 = 0 then ((impl_between.f x297000 x297001 x298000 x298001 x296000 x296001).bind fun t319 => (some t319)) else (some false)))) else (if x12 = 0 then ((impl_between.f x297000 x297001 x298000 x298001 x296000 x296001).bind fun t320 => (some t320)) else (some false))))) := by
  refine Lim.step (f := fun k => if x42 = true then (some true) else (if x9 = 0 then ((impl_between.f x295000 x295001 x296000 x296001 x297000 x297001).bind fun t306 => (if t306 = true then (some true) else (if x10 = 0 then ((impl_between.f x295000 x295001 x296000 x296001 x298000 x298001).bind fun t307 => (if t307 = true then (some true) else (if x11 = 0 then ((impl_between.f x297000 x297001 x298000 x298001 x295000 x295001).bind fun t308 => (if t308 = true then (some true) else (if x12 = 0 then ((impl_between.f x297000 x297001 x298000 x298001 x296000 x296001).bind fun t309 => (some t309)) else (some false)))) else (if x12 = 0 then ((impl_between.f x297000 x297001 x298000 x298001 x296000 x296001).bind fun t310 => (some t310)) else (some false))))) else (if x11 = 0 then ((impl_between.f x297000 x297001 x298000 x298001 x295000 x295001).bind fun t311 => (if t311 = true then (some true) else (if x12 = 0 then ((impl_between.f x297000 x297001 x298000 x298001 x296000 x296001).bind fun t312 => (some t312)) else (some false)))) else (if x12 = 0 then ((impl_between.f x297000 x297001 x298000 x298001 x296000 x296001).bind fun t313 => (some t313)) else (some false)))))) else (if x10 = 0 then ((impl_between.f x295000 x295001 x296000 x296001 x298000 x298001).bind fun t314 => (if t314 = true then (some true) else (if x11 = 0 then ((impl_between.f x297000 x297001 x298000 x298001 x295000 x295001).bind fun t315 => (if t315 = true then (some true) else (if x12 = 0 then ((impl_between.f x297000 x297001 x298000 x298001 x296000 x296001).bind fun t316 => (some t316)) else (some false)))) else (if x12 = 0 then ((impl_between.f x297000 x297001 x298000 x298001 x296000 x296001).bind fun t317 => (some t317)) else (some false))))) else (if x11 = 0 then ((impl_between.f x297000 x297001 x298000 x298001 x295000 x295001).bind fun t318 => (if t318 = true then (some true) else (if x12 = 0 then ((impl_between.f x297000 x297001 x298000 x298001 x296000 x296001).bind fun t319 => (some t319)) else (some false)))) else (if x12 = 0 then ((impl_between.f x297000 x297001 x298000 x298001 x296000 x296001).bind fun t320 => (some t320)) else (some false)))))) (fun k => (impl_edgesMeet.mono_l k) x9 x10 x11 x12 x42 x295000 x295001 x296000 x296001 x297000 x297001 x298000 x298001) (fun k => by simp only [impl_edgesMeet.j0]) ?_
  repeat' first
    | with_reducible exact Lim.const _
    | with_reducible refine Lim.ite ?_ ?_
    | with_reducible refine Lim.bind ?_ (fun _ => ?_)
theorem impl_edgesMeet.F_eq (a0_0 : Int) (a0_1 : Int) (a1_0 : Int) (a1_1 : Int) (a2_0 : Int) (a2_1 : Int) (a3_0 : Int) (a3_1 : Int) : impl_edgesMeet.F a0_0 a0_1 a1_0 a1_1 a2_0 a2_1 a3_0 a3_1 = (impl_turnAt.f a0_0 a0_1 a1_0 a1_1 a2_0 a2_1).bind fun t298 => ((impl_turnAt.f a0_0 a0_1 a1_0 a1_1 a3_0 a3_1).bind fun t299 => ((impl_turnAt.f a2_0 a2_1 a3_0 a3_1 a0_0 a0_1).bind fun t300 => ((impl_turnAt.f a2_0 a2_1 a3_0 a3_1 a1_0 a1_1).bind fun t301 => ((impl_sign.f t298).bind fun t302 => ((impl_sign.f t299).bind fun t303 => (if (wrap64 (t302 * t303)) < 0 then ((impl_sign.f t300).bind fun t304 => ((impl_sign.f t301).bind fun t305 => (impl_edgesMeet.J0 t298 t299 t300 t301 (decide ((wrap64 (t304 * t305)) < 0)) a0_0 a0_1 a1_0 a1_1 a2_0 a2_1 a3_0 a3_1))) else (impl_edgesMeet.J0 t298 t299 t300 t301 false a0_0 a0_1 a1_0 a1_1 a2_0 a2_1 a3_0 a3_1))))))) := by
  refine Lim.eq (g := fun k => impl_edgesMeet.f k a0_0 a0_1 a1_0 a1_1 a2_0 a2_1 a3_0 a3_1) ?_
  unfold impl_edgesMeet.f
  repeat' first
    | with_reducible exact Lim.const _
    | with_reducible exact impl_edgesMeet.J0_lim _ _ _ _ _ _ _ _ _ _ _ _ _
    | with_reducible refine Lim.ite ?_ ?_
    | with_reducible refine Lim.bind ?_ (fun _ => ?_)

noncomputable def impl_twiceSail.L0 (x0 : List (S129)) (x3 : Int) (x7 : List (S129)) (x8 : Int) (x9 : Int) : Option (Int) := lim (fun k => impl_twiceSail.l0 k x0 x3 x7 x8 x9)
theorem impl_twiceSail.L0_lim (x0 : List (S129)) (x3 : Int) (x7 : List (S129)) (x8 : Int) (x9 : Int) : Lim (fun k => impl_twiceSail.l0 k x0 x3 x7 x8 x9) (impl_twiceSail.L0 x0 x3 x7 x8 x9) := Lim.of (fun k => (impl_twiceSail.mono_l k) x0 x3 x7 x8 x9)
noncomputable def impl_twiceSail.F (l0 : List (S129)) : Option (Int) := lim (fun k => impl_twiceSail.f k l0)
theorem impl_twiceSail.F_lim (l0 : List (S129)) : Lim (fun k => impl_twiceSail.f k l0) (impl_twiceSail.F l0) := Lim.of (fun k => impl_twiceSail.mono l0 k)
theorem impl_twiceSail.L0_eq (x0 : List (S129)) (x3 : Int) (x7 : List (S129)) (x8 : Int) (x9 : Int) : impl_twiceSail.L0 x0 x3 x7 x8 x9 = if x9 < x8 then (if 0 ≤ x9 then (if x9 < (x7.length : Int) then (if (x0.length : Int) = 0 then (none) else (if 0 ≤ (Int.tmod (wrap64 (x9 + 1)) (x0.length : Int)) then (if (Int.tmod (wrap64 (x9 + 1)) (x0.length : Int)) < (x0.length : Int) then (impl_twiceSail.L0 x0 (wrap64 (x3 + (wrap64 ((wrap64 (((rd_T129 x7 x9).f0) * ((rd_T129 x0 (Int.tmod (wrap64 (x9 + 1)) (x0.length : Int))).f1))) - (wrap64 (((rd_T129 x0 (Int.tmod (wrap64 (x9 + 1)) (x0.length : Int))).f0) * ((rd_T129 x7 x9).f1))))))) x7 x8 (wrap64 (x9 + 1))) else (none)) else (none))) else (none)) else (none)) else (some x3) := by
  refine Lim.step (f := fun k => if x9 < x8 then (if 0 ≤ x9 then (if x9 < (x7.length : Int) then (if (x0.length : Int) = 0 then (none) else (if 0 ≤ (Int.tmod (wrap64 (x9 + 1)) (x0.length : Int)) then (if (Int.tmod (wrap64 (x9 + 1)) (x0.length : Int)) < (x0.length : Int) then (impl_twiceSail.l0 k x0 (wrap64 (x3 + (wrap64 ((wrap64 (((rd_T129 x7 x9).f0) * ((rd_T129 x0 (Int.tmod (wrap64 (x9 + 1)) (x0.length : Int))).f1))) - (wrap64 (((rd_T129 x0 (Int.tmod (wrap64 (x9 + 1)) (x0.length : Int))).f0) * ((rd_T129 x7 x9).f1))))))) x7 x8 (wrap64 (x9 + 1))) else (none)) else (none))) else (none)) else (none)) else (some x3)) (fun k => (impl_twiceSail.mono_l k) x0 x3 x7 x8 x9) (fun k => by simp only [impl_twiceSail.l0]) ?_
  repeat' first
    | with_reducible exact Lim.const _
    | with_reducible exact impl_twiceSail.L0_lim _ _ _ _ _
    | with_reducible refine Lim.ite ?_ ?_
    | with_reducible refine Lim.bind ?_ (fun _ => ?_)
theorem impl_twiceSail.F_eq (l0 : List (S129)) : impl_twiceSail.F l0 = impl_twiceSail.L0 l0 0 l0 (l0.length : Int) 0 := by
  refine Lim.eq (g := fun k => impl_twiceSail.f k l0) ?_
  unfold impl_twiceSail.f
  repeat' first
    | with_reducible exact Lim.const _
    | with_reducible exact impl_twiceSail.L0_lim _ _ _ _ _
    | with_reducible refine Lim.ite ?_ ?_
    | with_reducible refine Lim.bind ?_ (fun _ => ?_)

noncomputable def impl_ValidSail.J0 (x0 : List (S129)) (x3 : Int) (x16 : Bool) : Option (Bool) := lim (fun k => impl_ValidSail.j0 k x0 x3 x16)
theorem impl_ValidSail.J0_lim (x0 : List (S129)) (x3 : Int) (x16 : Bool) : Lim (fun k => impl_ValidSail.j0 k x0 x3 x16) (impl_ValidSail.J0 x0 x3 x16) := Lim.of (fun k => (impl_ValidSail.mono_l k).1 x0 x3 x16)
noncomputable def impl_ValidSail.L0 (x0 : List (S129)) (x3 : Int) (x17 : List (S129)) (x18 : Int) (x19 : Int) : Option (Bool) := lim (fun k => impl_ValidSail.l0 k x0 x3 x17 x18 x19)
theorem impl_ValidSail.L0_lim (x0 : List (S129)) (x3 : Int) (x17 : List (S129)) (x18 : Int) (x19 : Int) : Lim (fun k => impl_ValidSail.l0 k x0 x3 x17 x18 x19) (impl_ValidSail.L0 x0 x3 x17 x18 x19) := Lim.of (fun k => (impl_ValidSail.mono_l k).2.1 x0 x3 x17 x18 x19)
noncomputable def impl_ValidSail.L1 (x0 : List (S129)) (x3 : Int) (x35 : Int) (x36 : Int) : Option (Bool) := lim (fun k => impl_ValidSail.l1 k x0 x3 x35 x36)
theorem impl_ValidSail.L1_lim (x0 : List (S129)) (x3 : Int) (x35 : Int) (x36 : Int) : Lim (fun k => impl_ValidSail.l1 k x0 x3 x35 x36) (impl_ValidSail.L1 x0 x3 x35 x36) := Lim.of (fun k => (impl_ValidSail.mono_l k).2.2.1 x0 x3 x35 x36)
noncomputable def impl_ValidSail.L2 (x0 : List (S129)) (x3 : Int) (x61 : Int) (x62 : Int) : Option (Bool) := lim (fun k => impl_ValidSail.l2 k x0 x3 x61 x62)
theorem impl_ValidSail.L2_lim (x0 : List (S129)) (x3 : Int) (x61 : Int) (x62 : Int) : Lim (fun k => impl_ValidSail.l2 k x0 x3 x61 x62) (impl_ValidSail.L2 x0 x3 x61 x62) := Lim.of (fun k => (impl_ValidSail.mono_l k).2.2.2.1 x0 x3 x61 x62)
noncomputable def impl_ValidSail.L3 (x0 : List (S129)) (x3 : Int) (x7 : Int) (x8 : Int) (x61 : Int) (x62 : Int) : Option (Bool) := lim (fun k => impl_ValidSail.l3 k x0 x3 x7 x8 x61 x62)
theorem impl_ValidSail.L3_lim (x0 : List (S129)) (x3 : Int) (x7 : Int) (x8 : Int) (x61 : Int) (x62 : Int) : Lim (fun k => impl_ValidSail.l3 k x0 x3 x7 x8 x61 x62) (impl_ValidSail.L3 x0 x3 x7 x8 x61 x62) := Lim.of (fun k => (impl_ValidSail.mono_l k).2.2.2.2 x0 x3 x7 x8 x61 x62)
noncomputable def impl_ValidSail.F (l0 : List (S129)) : Option (Bool) := lim (fun k => impl_ValidSail.f k l0)
theorem impl_ValidSail.F_lim (l0 : List (S129)) : Lim (fun k => impl_ValidSail.f k l0) (impl_ValidSail.F l0) := Lim.of (fun k => impl_ValidSail.mono l0 k)
theorem impl_ValidSail.J0_eq (x0 : List (S129)) (x3 : Int) (x16 : Bool) : impl_ValidSail.J0 x0 x3 x16 = if x16 = true then (some false) else (impl_ValidSail.L0 x0 x3 x0 (x0.length : Int) 0) := by
  refine Lim.step (f := fun k => if x16 = true then (some false) else (impl_ValidSail.l0 k x0 x3 x0 (x0.length : Int) 0)) (fun k => (impl_ValidSail.mono_l k).1 x0 x3 x16) (fun k => by simp only [impl_ValidSail.j0]) ?_
  repeat' first
    | with_reducible exact Lim.const _
    | with_reducible exact impl_ValidSail.L0_lim _ _ _ _ _
    | with_reducible refine Lim.ite ?_ ?_
    | with_reducible refine Lim.bind ?_ (fun _ => ?_)
theorem impl_ValidSail.L0_eq (x0 : List (S129)) (x3 : Int) (x17 : List (S129)) (x18 : Int) (x19 : Int) : impl_ValidSail.L0 x0 x3 x17 x18 x19 = if x19 < x18 then (if 0 ≤ x19 then (if x19 < (x17.length : Int) then ((impl_within.f ((rd_T129 x17 x19).f0) 0 2000).bind fun t327 => (if t327 = true then ((impl_within.f ((rd_T129 x17 x19).f1) 0 2000).bind fun t328 => (if t328 = true then (impl_ValidSail.L0 x0 x3 x17 x18 (wrap64 (x19 + 1))) else (some false))) else (some false))) else (none)) else (none)) else (impl_ValidSail.L1 x0 x3 (x0.length : Int) 0) := by
  refine Lim.step (f := fun k => if x19 < x18 then (if 0 ≤ x19 then (if x19 < (x17.length : Int) then ((impl_within.f ((rd_T129 x17 x19).f0) 0 2000).bind fun t327 => (if t327 = true then ((impl_within.f ((rd_T129 x17 x19).f1) 0 2000).bind fun t328 => (if t328 = true then (impl_ValidSail.l0 k x0 x3 x17 x18 (wrap64 (x19 + 1))) else (some false))) else (some false))) else (none)) else (none)) else (impl_ValidSail.l1 k x0 x3 (x0.length : Int) 0)) (fun k => (impl_ValidSail.mono_l k).2.1 x0 x3 x17 x18 x19) (fun k => by simp only [impl_ValidSail.l0]) ?_
  repeat' first
    | with_reducible exact Lim.const _
    | with_reducible exact impl_ValidSail.L0_lim _ _ _ _ _
    | with_reducible exact impl_ValidSail.L1_lim _ _ _ _
    | with_reducible refine Lim.ite ?_ ?_
    | with_reducible refine Lim.bind ?_ (fun _ => ?_)
theorem impl_ValidSail.L1_eq (x0 : List (S129)) (x3 : Int) (x35 : Int) (x36 : Int) : impl_ValidSail.L1 x0 x3 x35 x36 = if x36 < x35 then (if 0 ≤ x36 then (if x36 < (x0.length : Int) then (if x3 = 0 then (none) else (if 0 ≤ (Int.tmod (wrap64 (x36 + 1)) x3) then (if (Int.tmod (wrap64 (x36 + 1)) x3) < (x0.length : Int) then (if 0 ≤ (Int.tmod (wrap64 (x36 + 2)) x3) then (if (Int.tmod (wrap64 (x36 + 2)) x3) < (x0.length : Int) then ((impl_turnAt.f ((rd_T129 x0 x36).f0) ((rd_T129 x0 x36).f1) ((rd_T129 x0 (Int.tmod (wrap64 (x36 + 1)) x3)).f0) ((rd_T129 x0 (Int.tmod (wrap64 (x36 + 1)) x3)).f1) ((rd_T129 x0 (Int.tmod (wrap64 (x36 + 2)) x3)).f0) ((rd_T129 x0 (Int.tmod (wrap64 (x36 + 2)) x3)).f1)).bind fun t332 => (if t332 = 0 then (some false) else (impl_ValidSail.L1 x0 x3 x35 (wrap64 (x36 + 1))))) else (none)) else (none)) else (none)) else (none))) else (none)) else (none)) else (impl_ValidSail.L2 x0 x3 (x0.length : Int) 0) := by
  refine Lim.step (f := fun k => if x36 < x35 then (if 0 ≤ x36 then (if x36 < (x0.length : Int) then (if x3 = 0 then (none) else (if 0 ≤ (Int.tmod (wrap64 (x36 + 1)) x3) then (if (Int.tmod (wrap64 (x36 + 1)) x3) < (x0.length : Int) then (if 0 ≤ (Int.tmod (wrap64 (x36 + 2)) x3) then (if (Int.tmod (wrap64 (x36 + 2)) x3) < (x0.length : Int) then ((impl_turnAt.f ((rd_T129 x0 x36).f0) ((rd_T129 x0 x36).f1) ((rd_T129 x0 (Int.tmod (wrap64 (x36 + 1)) x3)).f0) ((rd_T129 x0 (Int.tmod (wrap64 (x36 + 1)) x3)).f1) ((rd_T129 x0 (Int.tmod (wrap64 (x36 + 2)) x3)).f0) ((rd_T129 x0 (Int.tmod (wrap64 (x36 + 2)) x3)).f1)).bind fun t332 => (if t332 = 0 then (some false) else (impl_ValidSail.l1 k x0 x3 x35 (wrap64 (x36 + 1))))) else (none)) else (none)) else (none)) else (none))) else (none)) else (none)) else (impl_ValidSail.l2 k x0 x3 (x0.length : Int) 0)) (fun k => (impl_ValidSail.mono_l k).2.2.1 x0 x3 x35 x36) (fun k => by simp only [impl_ValidSail.l1]) ?_
  repeat' first
    | with_reducible exact Lim.const _
    | with_reducible exact impl_ValidSail.L1_lim _ _ _ _
    | with_reducible exact impl_ValidSail.L2_lim _ _ _ _
    | with_reducible refine Lim.ite ?_ ?_
    | with_reducible refine Lim.bind ?_ (fun _ => ?_)
theorem impl_ValidSail.L2_eq (x0 : List (S129)) (x3 : Int) (x61 : Int) (x62 : Int) : impl_ValidSail.L2 x0 x3 x61 x62 = if x62 < x61 then (impl_ValidSail.L3 x0 x3 x62 (wrap64 (x62 + 2)) x61 x62) else ((impl_twiceSail.F x0).bind fun t333 => (some (decide (t333 > 0)))) := by
  refine Lim.step (f := fun k => if x62 < x61 then (impl_ValidSail.l3 k x0 x3 x62 (wrap64 (x62 + 2)) x61 x62) else ((impl_twiceSail.f k x0).bind fun t333 => (some (decide (t333 > 0))))) (fun k => (impl_ValidSail.mono_l k).2.2.2.1 x0 x3 x61 x62) (fun k => by simp only [impl_ValidSail.l2]) ?_
  repeat' first
    | with_reducible exact Lim.const _
    | with_reducible exact impl_ValidSail.L3_lim _ _ _ _ _ _
    | with_reducible exact impl_twiceSail.F_lim _
    | with_reducible refine Lim.ite ?_ ?_
    | with_reducible refine Lim.bind ?_ (fun _ => ?_)
theorem impl_ValidSail.L3_eq (x0 : List (S129)) (x3 : Int) (x7 : Int) (x8 : Int) (x61 : Int) (x62 : Int) : impl_ValidSail.L3 x0 x3 x7 x8 x61 x62 = if x8 < x3 then (if x3 = 0 then (none) else (if (Int.tmod (wrap64 (x8 + 1)) x3) = x7 then (impl_ValidSail.L3 x0 x3 x7 (wrap64 (x8 + 1)) x61 x62) else (if 0 ≤ x7 then (if x7 < (x0.length : Int) then (if 0 ≤ (wrap64 (x7 + 1)) then (if (wrap64 (x7 + 1)) < (x0.length : Int) then (if 0 ≤ x8 then (if x8 < (x0.length : Int) then (if 0 ≤ (Int.tmod (wrap64 (x8 + 1)) x3) then (if (Int.tmod (wrap64 (x8 + 1)) x3) < (x0.length : Int) then ((impl_edgesMeet.F ((rd_T129 x0 x7).f0) ((rd_T129 x0 x7).f1) ((rd_T129 x0 (wrap64 (x7 + 1))).f0) ((rd_T129 x0 (wrap64 (x7 + 1))).f1) ((rd_T129 x0 x8).f0) ((rd_T129 x0 x8).f1) ((rd_T129 x0 (Int.tmod (wrap64 (x8 + 1)) x3)).f0) ((rd_T129 x0 (Int.tmod (wrap64 (x8 + 1)) x3)).f1)).bind fun t338 => (if t338 = true then (some false) else (impl_ValidSail.L3 x0 x3 x7 (wrap64 (x8 + 1)) x61 x62))) else (none)) else (none)) else (none)) else (none)) else (none)) else (none)) else (none)) else (none)))) else (impl_ValidSail.L2 x0 x3 x61 (wrap64 (x62 + 1))) := by
  refine Lim.step (f := fun k => if x8 < x3 then (if x3 = 0 then (none) else (if (Int.tmod (wrap64 (x8 + 1)) x3) = x7 then (impl_ValidSail.l3 k x0 x3 x7 (wrap64 (x8 + 1)) x61 x62) else (if 0 ≤ x7 then (if x7 < (x0.length : Int) then (if 0 ≤ (wrap64 (x7 + 1)) then (if (wrap64 (x7 + 1)) < (x0.length : Int) then (if 0 ≤ x8 then (if x8 < (x0.length : Int) then (if 0 ≤ (Int.tmod (wrap64 (x8 + 1)) x3) then (if (Int.tmod (wrap64 (x8 + 1)) x3) < (x0.length : Int) then ((impl_edgesMeet.f k ((rd_T129 x0 x7).f0) ((rd_T129 x0 x7).f1) ((rd_T129 x0 (wrap64 (x7 + 1))).f0) ((rd_T129 x0 (wrap64 (x7 + 1))).f1) ((rd_T129 x0 x8).f0) ((rd_T129 x0 x8).f1) ((rd_T129 x0 (Int.tmod (wrap64 (x8 + 1)) x3)).f0) ((rd_T129 x0 (Int.tmod (wrap64 (x8 + 1)) x3)).f1)).bind fun t338 => (if t338 = true then (some false) else (impl_ValidSail.l3 k x0 x3 x7 (wrap64 (x8 + 1)) x61 x62))) else (none)) else (none)) else (none)) else (none)) else (none)) else (none)) else (none)) else (none)))) else (impl_ValidSail.l2 k x0 x3 x61 (wrap64 (x62 + 1)))) (fun k => (impl_ValidSail.mono_l k).2.2.2.2 x0 x3 x7 x8 x61 x62) (fun k => by simp only [impl_ValidSail.l3]) ?_
  repeat' first
    | with_reducible exact Lim.const _
    | with_reducible exact impl_ValidSail.L2_lim _ _ _ _
    | with_reducible exact impl_ValidSail.L3_lim _ _ _ _ _ _
    | with_reducible exact impl_edgesMeet.F_lim _ _ _ _ _ _ _ _
    | with_reducible refine Lim.ite ?_ ?_
    | with_reducible refine Lim.bind ?_ (fun _ => ?_)
theorem impl_ValidSail.F_eq (l0 : List (S129)) : impl_ValidSail.F l0 = if (l0.length : Int) < 3 then (impl_ValidSail.J0 l0 (l0.length : Int) true) else (impl_ValidSail.J0 l0 (l0.length : Int) (decide ((l0.length : Int) > 8))) := by
  refine Lim.eq (g := fun k => impl_ValidSail.f k l0) ?_
  unfold impl_ValidSail.f
  repeat' first
    | with_reducible exact Lim.const _
    | with_reducible exact impl_ValidSail.J0_lim _ _ _
    | with_reducible refine Lim.ite ?_ ?_
    | with_reducible refine Lim.bind ?_ (fun _ => ?_)

noncomputable def impl_ValidPlan.J0 (x22 : Bool) (x340000 : List (S79)) (x340001 : Int) (x340002 : Int) : Option (Bool) := lim (fun k => impl_ValidPlan.j0 k x22 x340000 x340001 x340002)
theorem impl_ValidPlan.J0_lim (x22 : Bool) (x340000 : List (S79)) (x340001 : Int) (x340002 : Int) : Lim (fun k => impl_ValidPlan.j0 k x22 x340000 x340001 x340002) (impl_ValidPlan.J0 x22 x340000 x340001 x340002) := Lim.of (fun k => (impl_ValidPlan.mono_l k).1 x22 x340000 x340001 x340002)
noncomputable def impl_ValidPlan.L0 (x24 : List (S79)) (x25 : Int) (x26 : Int) (x340000 : List (S79)) (x340001 : Int) (x340002 : Int) : Option (Bool) := lim (fun k => impl_ValidPlan.l0 k x24 x25 x26 x340000 x340001 x340002)
theorem impl_ValidPlan.L0_lim (x24 : List (S79)) (x25 : Int) (x26 : Int) (x340000 : List (S79)) (x340001 : Int) (x340002 : Int) : Lim (fun k => impl_ValidPlan.l0 k x24 x25 x26 x340000 x340001 x340002) (impl_ValidPlan.L0 x24 x25 x26 x340000 x340001 x340002) := Lim.of (fun k => (impl_ValidPlan.mono_l k).2 x24 x25 x26 x340000 x340001 x340002)
noncomputable def impl_ValidPlan.F (l0_0 : List (S79)) (a0_1 : Int) (a0_2 : Int) : Option (Bool) := lim (fun k => impl_ValidPlan.f k l0_0 a0_1 a0_2)
theorem impl_ValidPlan.F_lim (l0_0 : List (S79)) (a0_1 : Int) (a0_2 : Int) : Lim (fun k => impl_ValidPlan.f k l0_0 a0_1 a0_2) (impl_ValidPlan.F l0_0 a0_1 a0_2) := Lim.of (fun k => impl_ValidPlan.mono l0_0 a0_1 a0_2 k)
theorem impl_ValidPlan.J0_eq (x22 : Bool) (x340000 : List (S79)) (x340001 : Int) (x340002 : Int) : impl_ValidPlan.J0 x22 x340000 x340001 x340002 = if x22 = true then (some false) else (impl_ValidPlan.L0 x340000 (x340000.length : Int) 0 x340000 x340001 x340002) := by
  refine Lim.step (f := fun k => if x22 = true then (some false) else (impl_ValidPlan.l0 k x340000 (x340000.length : Int) 0 x340000 x340001 x340002)) (fun k => (impl_ValidPlan.mono_l k).1 x22 x340000 x340001 x340002) (fun k => by simp only [impl_ValidPlan.j0]) ?_
  repeat' first
    | with_reducible exact Lim.const _
    | with_reducible exact impl_ValidPlan.L0_lim _ _ _ _ _ _
    | with_reducible refine Lim.ite ?_ ?_
    | with_reducible refine Lim.bind ?_ (fun _ => ?_)
theorem impl_ValidPlan.L0_eq (x24 : List (S79)) (x25 : Int) (x26 : Int) (x340000 : List (S79)) (x340001 : Int) (x340002 : Int) : impl_ValidPlan.L0 x24 x25 x26 x340000 x340001 x340002 = if x26 < x25 then (if 0 ≤ x26 then (if x26 < (x24.length : Int) then ((impl_IsName.F ((rd_T79 x24 x26).f0)).bind fun t344 => (if t344 = true then ((impl_ValidSail.F ((rd_T79 x24 x26).f1)).bind fun t345 => (if t345 = true then (if x26 ≤ (x340000.length : Int) then ((impl_sailNamed.f (x340000.take (x26 : Int).toNat) ((rd_T79 x24 x26).f0)).bind fun t350 => (if t350 ≥ 0 then (some false) else (impl_ValidPlan.L0 x24 x25 (wrap64 (x26 + 1)) x340000 x340001 x340002))) else (none)) else (some false))) else (some false))) else (none)) else (none)) else (some true) := by
  refine Lim.step (f := fun k => if x26 < x25 then (if 0 ≤ x26 then (if x26 < (x24.length : Int) then ((impl_IsName.f k ((rd_T79 x24 x26).f0)).bind fun t344 => (if t344 = true then ((impl_ValidSail.f k ((rd_T79 x24 x26).f1)).bind fun t345 => (if t345 = true then (if x26 ≤ (x340000.length : Int) then ((impl_sailNamed.f (x340000.take (x26 : Int).toNat) ((rd_T79 x24 x26).f0)).bind fun t350 => (if t350 ≥ 0 then (some false) else (impl_ValidPlan.l0 k x24 x25 (wrap64 (x26 + 1)) x340000 x340001 x340002))) else (none)) else (some false))) else (some false))) else (none)) else (none)) else (some true)) (fun k => (impl_ValidPlan.mono_l k).2 x24 x25 x26 x340000 x340001 x340002) (fun k => by simp only [impl_ValidPlan.l0]) ?_
  repeat' first
    | with_reducible exact Lim.const _
    | with_reducible exact impl_IsName.F_lim _
    | with_reducible exact impl_ValidPlan.L0_lim _ _ _ _ _ _
    | with_reducible exact impl_ValidSail.F_lim _
    | with_reducible refine Lim.ite ?_ ?_
    | with_reducible refine Lim.bind ?_ (fun _ => ?_)
theorem impl_ValidPlan.F_eq (l0_0 : List (S79)) (a0_1 : Int) (a0_2 : Int) : impl_ValidPlan.F l0_0 a0_1 a0_2 = if (l0_0.length : Int) > 8 then (impl_ValidPlan.J0 true l0_0 a0_1 a0_2) else ((impl_within.f a0_2 1 5000).bind fun t340 => (if t340 = true then ((impl_within.f a0_1 0 a0_2).bind fun t341 => (impl_ValidPlan.J0 (!t341) l0_0 a0_1 a0_2)) else (impl_ValidPlan.J0 true l0_0 a0_1 a0_2))) := by
  refine Lim.eq (g := fun k => impl_ValidPlan.f k l0_0 a0_1 a0_2) ?_
  unfold impl_ValidPlan.f
  repeat' first
    | with_reducible exact Lim.const _
    | with_reducible exact impl_ValidPlan.J0_lim _ _ _ _
    | with_reducible refine Lim.ite ?_ ?_
    | with_reducible refine Lim.bind ?_ (fun _ => ?_)

noncomputable def impl_withSet.L0 (x1 : Int) (x14 : List (S79)) (x15 : Int) (x16 : Int) (x354000 : List (S79)) (x354001 : Int) (x354002 : Int) : Option ((List (S79)) × Int × Int) := lim (fun k => impl_withSet.l0 k x1 x14 x15 x16 x354000 x354001 x354002)
theorem impl_withSet.L0_lim (x1 : Int) (x14 : List (S79)) (x15 : Int) (x16 : Int) (x354000 : List (S79)) (x354001 : Int) (x354002 : Int) : Lim (fun k => impl_withSet.l0 k x1 x14 x15 x16 x354000 x354001 x354002) (impl_withSet.L0 x1 x14 x15 x16 x354000 x354001 x354002) := Lim.of (fun k => (impl_withSet.mono_l k) x1 x14 x15 x16 x354000 x354001 x354002)
noncomputable def impl_withSet.F (l0_0 : List (S79)) (a0_1 : Int) (a0_2 : Int) (a1 : Int) : Option ((List (S79)) × Int × Int) := lim (fun k => impl_withSet.f k l0_0 a0_1 a0_2 a1)
theorem impl_withSet.F_lim (l0_0 : List (S79)) (a0_1 : Int) (a0_2 : Int) (a1 : Int) : Lim (fun k => impl_withSet.f k l0_0 a0_1 a0_2 a1) (impl_withSet.F l0_0 a0_1 a0_2 a1) := Lim.of (fun k => impl_withSet.mono l0_0 a0_1 a0_2 a1 k)
theorem impl_withSet.L0_eq (x1 : Int) (x14 : List (S79)) (x15 : Int) (x16 : Int) (x354000 : List (S79)) (x354001 : Int) (x354002 : Int) : impl_withSet.L0 x1 x14 x15 x16 x354000 x354001 x354002 = if x16 < x15 then (if 0 ≤ x16 then (if x16 < (x14.length : Int) then (if x354000.length < 2932031007402 then (impl_withSet.L0 x1 x14 x15 (wrap64 (x16 + 1)) (x354000 ++ [(⟨(rd_T79 x14 x16).f0, (rd_T79 x14 x16).f1, ((Go.bits .and .i64 (shr .i64 x1 x16) 1) == 1)⟩ : S79)]) x354001 x354002) else (none)) else (none)) else (none)) else (some (x354000, x354001, x354002)) := by
  refine Lim.step (f := fun k => if x16 < x15 then (if 0 ≤ x16 then (if x16 < (x14.length : Int) then (if x354000.length < 2932031007402 then (impl_withSet.l0 k x1 x14 x15 (wrap64 (x16 + 1)) (x354000 ++ [(⟨(rd_T79 x14 x16).f0, (rd_T79 x14 x16).f1, ((Go.bits .and .i64 (shr .i64 x1 x16) 1) == 1)⟩ : S79)]) x354001 x354002) else (none)) else (none)) else (none)) else (some (x354000, x354001, x354002))) (fun k => (impl_withSet.mono_l k) x1 x14 x15 x16 x354000 x354001 x354002) (fun k => by simp only [impl_withSet.l0]) ?_
  repeat' first
    | with_reducible exact Lim.const _
    | with_reducible exact impl_withSet.L0_lim _ _ _ _ _ _ _
    | with_reducible refine Lim.ite ?_ ?_
    | with_reducible refine Lim.bind ?_ (fun _ => ?_)
theorem impl_withSet.F_eq (l0_0 : List (S79)) (a0_1 : Int) (a0_2 : Int) (a1 : Int) : impl_withSet.F l0_0 a0_1 a0_2 a1 = impl_withSet.L0 a1 l0_0 (l0_0.length : Int) 0 ([] : List (S79)) a0_1 a0_2 := by
  refine Lim.eq (g := fun k => impl_withSet.f k l0_0 a0_1 a0_2 a1) ?_
  unfold impl_withSet.f
  repeat' first
    | with_reducible exact Lim.const _
    | with_reducible exact impl_withSet.L0_lim _ _ _ _ _ _ _
    | with_reducible refine Lim.ite ?_ ?_
    | with_reducible refine Lim.bind ?_ (fun _ => ?_)

noncomputable def impl_planSums.L0 (x5 : Int) (x6 : Int) (x7 : Int) (x15 : List (S79)) (x16 : Int) (x17 : Int) : Option (Int × Int × Int) := lim (fun k => impl_planSums.l0 k x5 x6 x7 x15 x16 x17)
theorem impl_planSums.L0_lim (x5 : Int) (x6 : Int) (x7 : Int) (x15 : List (S79)) (x16 : Int) (x17 : Int) : Lim (fun k => impl_planSums.l0 k x5 x6 x7 x15 x16 x17) (impl_planSums.L0 x5 x6 x7 x15 x16 x17) := Lim.of (fun k => (impl_planSums.mono_l k).1 x5 x6 x7 x15 x16 x17)
noncomputable def impl_planSums.L1 (x5 : Int) (x6 : Int) (x7 : Int) (x15 : List (S79)) (x16 : Int) (x17 : Int) (x30 : List (S129)) (x31 : Int) (x32 : Int) (x362000 : ByteArray) (x362001 : List (S129)) (x362002 : Bool) : Option (Int × Int × Int) := lim (fun k => impl_planSums.l1 k x5 x6 x7 x15 x16 x17 x30 x31 x32 x362000 x362001 x362002)
theorem impl_planSums.L1_lim (x5 : Int) (x6 : Int) (x7 : Int) (x15 : List (S79)) (x16 : Int) (x17 : Int) (x30 : List (S129)) (x31 : Int) (x32 : Int) (x362000 : ByteArray) (x362001 : List (S129)) (x362002 : Bool) : Lim (fun k => impl_planSums.l1 k x5 x6 x7 x15 x16 x17 x30 x31 x32 x362000 x362001 x362002) (impl_planSums.L1 x5 x6 x7 x15 x16 x17 x30 x31 x32 x362000 x362001 x362002) := Lim.of (fun k => (impl_planSums.mono_l k).2 x5 x6 x7 x15 x16 x17 x30 x31 x32 x362000 x362001 x362002)
noncomputable def impl_planSums.F (l0_0 : List (S79)) (a0_1 : Int) (a0_2 : Int) : Option (Int × Int × Int) := lim (fun k => impl_planSums.f k l0_0 a0_1 a0_2)
theorem impl_planSums.F_lim (l0_0 : List (S79)) (a0_1 : Int) (a0_2 : Int) : Lim (fun k => impl_planSums.f k l0_0 a0_1 a0_2) (impl_planSums.F l0_0 a0_1 a0_2) := Lim.of (fun k => impl_planSums.mono l0_0 a0_1 a0_2 k)
theorem impl_planSums.L0_eq (x5 : Int) (x6 : Int) (x7 : Int) (x15 : List (S79)) (x16 : Int) (x17 : Int) : impl_planSums.L0 x5 x6 x7 x15 x16 x17 = if x17 < x16 then (if 0 ≤ x17 then (if x17 < (x15.length : Int) then (if ((rd_T79 x15 x17).f2 = true) then ((impl_twiceSail.F ((rd_T79 x15 x17).f1)).bind fun t362 => (impl_planSums.L1 (wrap64 (x5 + t362)) x6 x7 x15 x16 x17 ((rd_T79 x15 x17).f1) (((rd_T79 x15 x17).f1).length : Int) 0 ((rd_T79 x15 x17).f0) ((rd_T79 x15 x17).f1) ((rd_T79 x15 x17).f2))) else (impl_planSums.L0 x5 x6 x7 x15 x16 (wrap64 (x17 + 1)))) else (none)) else (none)) else (some (x5, x6, x7)) := by
  refine Lim.step (f := fun k => if x17 < x16 then (if 0 ≤ x17 then (if x17 < (x15.length : Int) then (if ((rd_T79 x15 x17).f2 = true) then ((impl_twiceSail.f k ((rd_T79 x15 x17).f1)).bind fun t362 => (impl_planSums.l1 k (wrap64 (x5 + t362)) x6 x7 x15 x16 x17 ((rd_T79 x15 x17).f1) (((rd_T79 x15 x17).f1).length : Int) 0 ((rd_T79 x15 x17).f0) ((rd_T79 x15 x17).f1) ((rd_T79 x15 x17).f2))) else (impl_planSums.l0 k x5 x6 x7 x15 x16 (wrap64 (x17 + 1)))) else (none)) else (none)) else (some (x5, x6, x7))) (fun k => (impl_planSums.mono_l k).1 x5 x6 x7 x15 x16 x17) (fun k => by simp only [impl_planSums.l0]) ?_
  repeat' first
    | with_reducible exact Lim.const _
    | with_reducible exact impl_planSums.L0_lim _ _ _ _ _ _
    | with_reducible exact impl_planSums.L1_lim _ _ _ _ _ _ _ _ _ _ _ _
    | with_reducible exact impl_twiceSail.F_lim _
    | with_reducible refine Lim.ite ?_ ?_
    | with_reducible refine Lim.bind ?_ (fun _ => ?_)
theorem impl_planSums.L1_eq (x5 : Int) (x6 : Int) (x7 : Int) (x15 : List (S79)) (x16 : Int) (x17 : Int) (x30 : List (S129)) (x31 : Int) (x32 : Int) (x362000 : ByteArray) (x362001 : List (S129)) (x362002 : Bool) : impl_planSums.L1 x5 x6 x7 x15 x16 x17 x30 x31 x32 x362000 x362001 x362002 = if x32 < x31 then (if 0 ≤ x32 then (if x32 < (x30.length : Int) then (if (x362001.length : Int) = 0 then (none) else (if 0 ≤ (Int.tmod (wrap64 (x32 + 1)) (x362001.length : Int)) then (if (Int.tmod (wrap64 (x32 + 1)) (x362001.length : Int)) < (x362001.length : Int) then (impl_planSums.L1 x5 (wrap64 (x6 + (wrap64 ((wrap64 (((rd_T129 x30 x32).f0) + ((rd_T129 x362001 (Int.tmod (wrap64 (x32 + 1)) (x362001.length : Int))).f0))) * (wrap64 ((wrap64 (((rd_T129 x30 x32).f0) * ((rd_T129 x362001 (Int.tmod (wrap64 (x32 + 1)) (x362001.length : Int))).f1))) - (wrap64 (((rd_T129 x362001 (Int.tmod (wrap64 (x32 + 1)) (x362001.length : Int))).f0) * ((rd_T129 x30 x32).f1))))))))) (wrap64 (x7 + (wrap64 ((wrap64 (((rd_T129 x30 x32).f1) + ((rd_T129 x362001 (Int.tmod (wrap64 (x32 + 1)) (x362001.length : Int))).f1))) * (wrap64 ((wrap64 (((rd_T129 x30 x32).f0) * ((rd_T129 x362001 (Int.tmod (wrap64 (x32 + 1)) (x362001.length : Int))).f1))) - (wrap64 (((rd_T129 x362001 (Int.tmod (wrap64 (x32 + 1)) (x362001.length : Int))).f0) * ((rd_T129 x30 x32).f1))))))))) x15 x16 x17 x30 x31 (wrap64 (x32 + 1)) x362000 x362001 x362002) else (none)) else (none))) else (none)) else (none)) else (impl_planSums.L0 x5 x6 x7 x15 x16 (wrap64 (x17 + 1))) := by
  refine Lim.step (f := fun k => if x32 < x31 then (if 0 ≤ x32 then (if x32 < (x30.length : Int) then (if (x362001.length : Int) = 0 then (none) else (if 0 ≤ (Int.tmod (wrap64 (x32 + 1)) (x362001.length : Int)) then (if (Int.tmod (wrap64 (x32 + 1)) (x362001.length : Int)) < (x362001.length : Int) then (impl_planSums.l1 k x5 (wrap64 (x6 + (wrap64 ((wrap64 (((rd_T129 x30 x32).f0) + ((rd_T129 x362001 (Int.tmod (wrap64 (x32 + 1)) (x362001.length : Int))).f0))) * (wrap64 ((wrap64 (((rd_T129 x30 x32).f0) * ((rd_T129 x362001 (Int.tmod (wrap64 (x32 + 1)) (x362001.length : Int))).f1))) - (wrap64 (((rd_T129 x362001 (Int.tmod (wrap64 (x32 + 1)) (x362001.length : Int))).f0) * ((rd_T129 x30 x32).f1))))))))) (wrap64 (x7 + (wrap64 ((wrap64 (((rd_T129 x30 x32).f1) + ((rd_T129 x362001 (Int.tmod (wrap64 (x32 + 1)) (x362001.length : Int))).f1))) * (wrap64 ((wrap64 (((rd_T129 x30 x32).f0) * ((rd_T129 x362001 (Int.tmod (wrap64 (x32 + 1)) (x362001.length : Int))).f1))) - (wrap64 (((rd_T129 x362001 (Int.tmod (wrap64 (x32 + 1)) (x362001.length : Int))).f0) * ((rd_T129 x30 x32).f1))))))))) x15 x16 x17 x30 x31 (wrap64 (x32 + 1)) x362000 x362001 x362002) else (none)) else (none))) else (none)) else (none)) else (impl_planSums.l0 k x5 x6 x7 x15 x16 (wrap64 (x17 + 1)))) (fun k => (impl_planSums.mono_l k).2 x5 x6 x7 x15 x16 x17 x30 x31 x32 x362000 x362001 x362002) (fun k => by simp only [impl_planSums.l1]) ?_
  repeat' first
    | with_reducible exact Lim.const _
    | with_reducible exact impl_planSums.L0_lim _ _ _ _ _ _
    | with_reducible exact impl_planSums.L1_lim _ _ _ _ _ _ _ _ _ _ _ _
    | with_reducible refine Lim.ite ?_ ?_
    | with_reducible refine Lim.bind ?_ (fun _ => ?_)
theorem impl_planSums.F_eq (l0_0 : List (S79)) (a0_1 : Int) (a0_2 : Int) : impl_planSums.F l0_0 a0_1 a0_2 = impl_planSums.L0 0 0 0 l0_0 (l0_0.length : Int) 0 := by
  refine Lim.eq (g := fun k => impl_planSums.f k l0_0 a0_1 a0_2) ?_
  unfold impl_planSums.f
  repeat' first
    | with_reducible exact Lim.const _
    | with_reducible exact impl_planSums.L0_lim _ _ _ _ _ _
    | with_reducible refine Lim.ite ?_ ?_
    | with_reducible refine Lim.bind ?_ (fun _ => ?_)

noncomputable def impl_gcd.J0 (x0 : Int) (x1 : Int) : Option (Int) := lim (fun k => impl_gcd.j0 k x0 x1)
theorem impl_gcd.J0_lim (x0 : Int) (x1 : Int) : Lim (fun k => impl_gcd.j0 k x0 x1) (impl_gcd.J0 x0 x1) := Lim.of (fun k => (impl_gcd.mono_l k).1 x0 x1)
noncomputable def impl_gcd.L0 (x0 : Int) (x1 : Int) : Option (Int) := lim (fun k => impl_gcd.l0 k x0 x1)
theorem impl_gcd.L0_lim (x0 : Int) (x1 : Int) : Lim (fun k => impl_gcd.l0 k x0 x1) (impl_gcd.L0 x0 x1) := Lim.of (fun k => (impl_gcd.mono_l k).2 x0 x1)
noncomputable def impl_gcd.F (a0 : Int) (a1 : Int) : Option (Int) := lim (fun k => impl_gcd.f k a0 a1)
theorem impl_gcd.F_lim (a0 : Int) (a1 : Int) : Lim (fun k => impl_gcd.f k a0 a1) (impl_gcd.F a0 a1) := Lim.of (fun k => impl_gcd.mono a0 a1 k)
theorem impl_gcd.J0_eq (x0 : Int) (x1 : Int) : impl_gcd.J0 x0 x1 = impl_gcd.L0 x0 x1 := by
  refine Lim.step (f := fun k => impl_gcd.l0 k x0 x1) (fun k => (impl_gcd.mono_l k).1 x0 x1) (fun k => by simp only [impl_gcd.j0]) ?_
  repeat' first
    | with_reducible exact Lim.const _
    | with_reducible exact impl_gcd.L0_lim _ _
    | with_reducible refine Lim.ite ?_ ?_
    | with_reducible refine Lim.bind ?_ (fun _ => ?_)
theorem impl_gcd.L0_eq (x0 : Int) (x1 : Int) : impl_gcd.L0 x0 x1 = if x1 = 0 then (some x0) else (impl_gcd.L0 x1 (Int.tmod x0 x1)) := by
  refine Lim.step (f := fun k => if x1 = 0 then (some x0) else (impl_gcd.l0 k x1 (Int.tmod x0 x1))) (fun k => (impl_gcd.mono_l k).2 x0 x1) (fun k => by simp only [impl_gcd.l0]) ?_
  repeat' first
    | with_reducible exact Lim.const _
    | with_reducible exact impl_gcd.L0_lim _ _
    | with_reducible refine Lim.ite ?_ ?_
    | with_reducible refine Lim.bind ?_ (fun _ => ?_)
theorem impl_gcd.F_eq (a0 : Int) (a1 : Int) : impl_gcd.F a0 a1 = if a0 < 0 then (impl_gcd.J0 (wrap64 (-a0)) a1) else (impl_gcd.J0 a0 a1) := by
  refine Lim.eq (g := fun k => impl_gcd.f k a0 a1) ?_
  unfold impl_gcd.f
  repeat' first
    | with_reducible exact Lim.const _
    | with_reducible exact impl_gcd.J0_lim _ _
    | with_reducible refine Lim.ite ?_ ?_
    | with_reducible refine Lim.bind ?_ (fun _ => ?_)

noncomputable def impl_fraction.F (a0 : Int) (a1 : Int) : Option (Int × Int) := lim (fun k => impl_fraction.f k a0 a1)
theorem impl_fraction.F_lim (a0 : Int) (a1 : Int) : Lim (fun k => impl_fraction.f k a0 a1) (impl_fraction.F a0 a1) := Lim.of (fun k => impl_fraction.mono a0 a1 k)
theorem impl_fraction.F_eq (a0 : Int) (a1 : Int) : impl_fraction.F a0 a1 = if a1 < 0 then ((impl_gcd.F (wrap64 (-a0)) (wrap64 (-a1))).bind fun t368 => (if t368 = 0 then (none) else (some (wrap64 (Int.tdiv (wrap64 (-a0)) t368), wrap64 (Int.tdiv (wrap64 (-a1)) t368))))) else ((impl_gcd.F a0 a1).bind fun t369 => (if t369 = 0 then (none) else (some (wrap64 (Int.tdiv a0 t369), wrap64 (Int.tdiv a1 t369))))) := by
  refine Lim.eq (g := fun k => impl_fraction.f k a0 a1) ?_
  unfold impl_fraction.f
  repeat' first
    | with_reducible exact Lim.const _
    | with_reducible exact impl_gcd.F_lim _ _
    | with_reducible refine Lim.ite ?_ ?_
    | with_reducible refine Lim.bind ?_ (fun _ => ?_)

noncomputable def impl_leadOf.F (l0_0 : List (S79)) (a0_1 : Int) (a0_2 : Int) : Option (Int × Int × Bool) := lim (fun k => impl_leadOf.f k l0_0 a0_1 a0_2)
theorem impl_leadOf.F_lim (l0_0 : List (S79)) (a0_1 : Int) (a0_2 : Int) : Lim (fun k => impl_leadOf.f k l0_0 a0_1 a0_2) (impl_leadOf.F l0_0 a0_1 a0_2) := Lim.of (fun k => impl_leadOf.mono l0_0 a0_1 a0_2 k)
theorem impl_leadOf.F_eq (l0_0 : List (S79)) (a0_1 : Int) (a0_2 : Int) : impl_leadOf.F l0_0 a0_1 a0_2 = (impl_planSums.F l0_0 a0_1 a0_2).bind fun bt372 => (if bt372.1 = 0 then (some (0, 0, false)) else ((impl_fraction.F (wrap64 (bt372.2.1 - (wrap64 ((wrap64 (3 * bt372.1)) * a0_1)))) (wrap64 (3 * bt372.1))).bind fun bt375 => (some (bt375.1, bt375.2, true)))) := by
  refine Lim.eq (g := fun k => impl_leadOf.f k l0_0 a0_1 a0_2) ?_
  unfold impl_leadOf.f
  repeat' first
    | with_reducible exact Lim.const _
    | with_reducible exact impl_fraction.F_lim _ _
    | with_reducible exact impl_planSums.F_lim _ _ _
    | with_reducible refine Lim.ite ?_ ?_
    | with_reducible refine Lim.bind ?_ (fun _ => ?_)

noncomputable def impl_helmOf.F (l0_0 : List (S79)) (a0_1 : Int) (a0_2 : Int) (a1 : Int) (a2 : Int) : Option (ByteArray) := lim (fun k => impl_helmOf.f k l0_0 a0_1 a0_2 a1 a2)
theorem impl_helmOf.F_lim (l0_0 : List (S79)) (a0_1 : Int) (a0_2 : Int) (a1 : Int) (a2 : Int) : Lim (fun k => impl_helmOf.f k l0_0 a0_1 a0_2 a1 a2) (impl_helmOf.F l0_0 a0_1 a0_2 a1 a2) := Lim.of (fun k => impl_helmOf.mono l0_0 a0_1 a0_2 a1 a2 k)
theorem impl_helmOf.F_eq (l0_0 : List (S79)) (a0_1 : Int) (a0_2 : Int) (a1 : Int) (a2 : Int) : impl_helmOf.F l0_0 a0_1 a0_2 a1 a2 = (impl_leadOf.F l0_0 a0_1 a0_2).bind fun bt378 => (if bt378.2.2 = true then (if (wrap64 (1000 * bt378.1)) < (wrap64 ((wrap64 (a1 * a0_2)) * bt378.2.1)) then (some (⟨#[119, 101, 97, 116, 104, 101, 114]⟩ : ByteArray)) else (if (wrap64 (1000 * bt378.1)) > (wrap64 ((wrap64 (a2 * a0_2)) * bt378.2.1)) then (some (⟨#[108, 101, 101]⟩ : ByteArray)) else (some (⟨#[98, 97, 108, 97, 110, 99, 101, 100]⟩ : ByteArray)))) else (some (⟨#[]⟩ : ByteArray))) := by
  refine Lim.eq (g := fun k => impl_helmOf.f k l0_0 a0_1 a0_2 a1 a2) ?_
  unfold impl_helmOf.f
  repeat' first
    | with_reducible exact Lim.const _
    | with_reducible exact impl_leadOf.F_lim _ _ _
    | with_reducible refine Lim.ite ?_ ?_
    | with_reducible refine Lim.bind ?_ (fun _ => ?_)

noncomputable def impl_BestSails.J0 (x1 : Int) (x2 : Int) (x3 : Int) (x38 : Bool) (x383000 : List (S79)) (x383001 : Int) (x383002 : Int) : Option (List ByteArray × Int) := lim (fun k => impl_BestSails.j0 k x1 x2 x3 x38 x383000 x383001 x383002)
theorem impl_BestSails.J0_lim (x1 : Int) (x2 : Int) (x3 : Int) (x38 : Bool) (x383000 : List (S79)) (x383001 : Int) (x383002 : Int) : Lim (fun k => impl_BestSails.j0 k x1 x2 x3 x38 x383000 x383001 x383002) (impl_BestSails.J0 x1 x2 x3 x38 x383000 x383001 x383002) := Lim.of (fun k => (impl_BestSails.mono_l k).1 x1 x2 x3 x38 x383000 x383001 x383002)
noncomputable def impl_BestSails.L0 (x1 : Int) (x2 : Int) (x3 : Int) (x10 : Int) (x11 : Int) (x12 : Int) (x383000 : List (S79)) (x383001 : Int) (x383002 : Int) : Option (List ByteArray × Int) := lim (fun k => impl_BestSails.l0 k x1 x2 x3 x10 x11 x12 x383000 x383001 x383002)
theorem impl_BestSails.L0_lim (x1 : Int) (x2 : Int) (x3 : Int) (x10 : Int) (x11 : Int) (x12 : Int) (x383000 : List (S79)) (x383001 : Int) (x383002 : Int) : Lim (fun k => impl_BestSails.l0 k x1 x2 x3 x10 x11 x12 x383000 x383001 x383002) (impl_BestSails.L0 x1 x2 x3 x10 x11 x12 x383000 x383001 x383002) := Lim.of (fun k => (impl_BestSails.mono_l k).2.1 x1 x2 x3 x10 x11 x12 x383000 x383001 x383002)
noncomputable def impl_BestSails.L1 (x10 : Int) (x17 : List ByteArray) (x81 : List (S79)) (x82 : Int) (x83 : Int) : Option (List ByteArray × Int) := lim (fun k => impl_BestSails.l1 k x10 x17 x81 x82 x83)
theorem impl_BestSails.L1_lim (x10 : Int) (x17 : List ByteArray) (x81 : List (S79)) (x82 : Int) (x83 : Int) : Lim (fun k => impl_BestSails.l1 k x10 x17 x81 x82 x83) (impl_BestSails.L1 x10 x17 x81 x82 x83) := Lim.of (fun k => (impl_BestSails.mono_l k).2.2 x10 x17 x81 x82 x83)
noncomputable def impl_BestSails.F (l0_0 : List (S79)) (a0_1 : Int) (a0_2 : Int) (a1 : Int) (a2 : Int) (a3 : Int) : Option (List ByteArray × Int) := lim (fun k => impl_BestSails.f k l0_0 a0_1 a0_2 a1 a2 a3)
theorem impl_BestSails.F_lim (l0_0 : List (S79)) (a0_1 : Int) (a0_2 : Int) (a1 : Int) (a2 : Int) (a3 : Int) : Lim (fun k => impl_BestSails.f k l0_0 a0_1 a0_2 a1 a2 a3) (impl_BestSails.F l0_0 a0_1 a0_2 a1 a2 a3) := Lim.of (fun k => impl_BestSails.mono l0_0 a0_1 a0_2 a1 a2 a3 k)
theorem impl_BestSails.J0_eq (x1 : Int) (x2 : Int) (x3 : Int) (x38 : Bool) (x383000 : List (S79)) (x383001 : Int) (x383002 : Int) : impl_BestSails.J0 x1 x2 x3 x38 x383000 x383001 x383002 = if x38 = true then (some (([] : List ByteArray), 2)) else (impl_BestSails.L0 x1 x2 x3 (-1) 0 0 x383000 x383001 x383002) := by
  refine Lim.step (f := fun k => if x38 = true then (some (([] : List ByteArray), 2)) else (impl_BestSails.l0 k x1 x2 x3 (-1) 0 0 x383000 x383001 x383002)) (fun k => (impl_BestSails.mono_l k).1 x1 x2 x3 x38 x383000 x383001 x383002) (fun k => by simp only [impl_BestSails.j0]) ?_
  repeat' first
    | with_reducible exact Lim.const _
    | with_reducible exact impl_BestSails.L0_lim _ _ _ _ _ _ _ _ _
    | with_reducible refine Lim.ite ?_ ?_
    | with_reducible refine Lim.bind ?_ (fun _ => ?_)
theorem impl_BestSails.L0_eq (x1 : Int) (x2 : Int) (x3 : Int) (x10 : Int) (x11 : Int) (x12 : Int) (x383000 : List (S79)) (x383001 : Int) (x383002 : Int) : impl_BestSails.L0 x1 x2 x3 x10 x11 x12 x383000 x383001 x383002 = if x12 < (shl .i64 1 (x383000.length : Int)) then ((impl_withSet.F x383000 x383001 x383002 x12).bind fun bt385 => ((impl_planSums.F bt385.1 bt385.2.1 bt385.2.2).bind fun bt391 => (if bt391.1 ≤ x1 then ((impl_helmOf.F bt385.1 bt385.2.1 bt385.2.2 x2 x3).bind fun t394 => (if t394.toList = ([98, 97, 108, 97, 110, 99, 101, 100] : List UInt8) then (if x10 < 0 then (impl_BestSails.L0 x1 x2 x3 x12 bt391.1 (wrap64 (x12 + 1)) x383000 x383001 x383002) else (if bt391.1 > x11 then (impl_BestSails.L0 x1 x2 x3 x12 bt391.1 (wrap64 (x12 + 1)) x383000 x383001 x383002) else (impl_BestSails.L0 x1 x2 x3 x10 x11 (wrap64 (x12 + 1)) x383000 x383001 x383002))) else (impl_BestSails.L0 x1 x2 x3 x10 x11 (wrap64 (x12 + 1)) x383000 x383001 x383002))) else (impl_BestSails.L0 x1 x2 x3 x10 x11 (wrap64 (x12 + 1)) x383000 x383001 x383002)))) else (if x10 < 0 then (some (([] : List ByteArray), 3)) else (impl_BestSails.L1 x10 (([] : List ByteArray)) x383000 (x383000.length : Int) 0)) := by
  refine Lim.step (f := fun k => if x12 < (shl .i64 1 (x383000.length : Int)) then ((impl_withSet.f k x383000 x383001 x383002 x12).bind fun bt385 => ((impl_planSums.f k bt385.1 bt385.2.1 bt385.2.2).bind fun bt391 => (if bt391.1 ≤ x1 then ((impl_helmOf.f k bt385.1 bt385.2.1 bt385.2.2 x2 x3).bind fun t394 => (if t394.toList = ([98, 97, 108, 97, 110, 99, 101, 100] : List UInt8) then (if x10 < 0 then (impl_BestSails.l0 k x1 x2 x3 x12 bt391.1 (wrap64 (x12 + 1)) x383000 x383001 x383002) else (if bt391.1 > x11 then (impl_BestSails.l0 k x1 x2 x3 x12 bt391.1 (wrap64 (x12 + 1)) x383000 x383001 x383002) else (impl_BestSails.l0 k x1 x2 x3 x10 x11 (wrap64 (x12 + 1)) x383000 x383001 x383002))) else (impl_BestSails.l0 k x1 x2 x3 x10 x11 (wrap64 (x12 + 1)) x383000 x383001 x383002))) else (impl_BestSails.l0 k x1 x2 x3 x10 x11 (wrap64 (x12 + 1)) x383000 x383001 x383002)))) else (if x10 < 0 then (some (([] : List ByteArray), 3)) else (impl_BestSails.l1 k x10 (([] : List ByteArray)) x383000 (x383000.length : Int) 0))) (fun k => (impl_BestSails.mono_l k).2.1 x1 x2 x3 x10 x11 x12 x383000 x383001 x383002) (fun k => by simp only [impl_BestSails.l0]) ?_
  repeat' first
    | with_reducible exact Lim.const _
    | with_reducible exact impl_BestSails.L0_lim _ _ _ _ _ _ _ _ _
    | with_reducible exact impl_BestSails.L1_lim _ _ _ _ _
    | with_reducible exact impl_helmOf.F_lim _ _ _ _ _
    | with_reducible exact impl_planSums.F_lim _ _ _
    | with_reducible exact impl_withSet.F_lim _ _ _ _
    | with_reducible refine Lim.ite ?_ ?_
    | with_reducible refine Lim.bind ?_ (fun _ => ?_)
theorem impl_BestSails.L1_eq (x10 : Int) (x17 : List ByteArray) (x81 : List (S79)) (x82 : Int) (x83 : Int) : impl_BestSails.L1 x10 x17 x81 x82 x83 = if x83 < x82 then (if 0 ≤ x83 then (if x83 < (x81.length : Int) then (if (Go.bits .and .i64 (shr .i64 x10 x83) 1) = 1 then (if x17.length < 8796093022208 then (impl_BestSails.L1 x10 (x17 ++ [(rd_T79 x81 x83).f0]) x81 x82 (wrap64 (x83 + 1))) else (none)) else (impl_BestSails.L1 x10 x17 x81 x82 (wrap64 (x83 + 1)))) else (none)) else (none)) else (some (x17, 0)) := by
  refine Lim.step (f := fun k => if x83 < x82 then (if 0 ≤ x83 then (if x83 < (x81.length : Int) then (if (Go.bits .and .i64 (shr .i64 x10 x83) 1) = 1 then (if x17.length < 8796093022208 then (impl_BestSails.l1 k x10 (x17 ++ [(rd_T79 x81 x83).f0]) x81 x82 (wrap64 (x83 + 1))) else (none)) else (impl_BestSails.l1 k x10 x17 x81 x82 (wrap64 (x83 + 1)))) else (none)) else (none)) else (some (x17, 0))) (fun k => (impl_BestSails.mono_l k).2.2 x10 x17 x81 x82 x83) (fun k => by simp only [impl_BestSails.l1]) ?_
  repeat' first
    | with_reducible exact Lim.const _
    | with_reducible exact impl_BestSails.L1_lim _ _ _ _ _
    | with_reducible refine Lim.ite ?_ ?_
    | with_reducible refine Lim.bind ?_ (fun _ => ?_)
theorem impl_BestSails.F_eq (l0_0 : List (S79)) (a0_1 : Int) (a0_2 : Int) (a1 : Int) (a2 : Int) (a3 : Int) : impl_BestSails.F l0_0 a0_1 a0_2 a1 a2 a3 = (impl_ValidPlan.F l0_0 a0_1 a0_2).bind fun t383 => (if t383 = true then (if a2 < (-1000) then (impl_BestSails.J0 a1 a2 a3 true l0_0 a0_1 a0_2) else (if a2 > a3 then (impl_BestSails.J0 a1 a2 a3 true l0_0 a0_1 a0_2) else (if a3 > 1000 then (impl_BestSails.J0 a1 a2 a3 true l0_0 a0_1 a0_2) else ((impl_within.f a1 0 100000000).bind fun t384 => (impl_BestSails.J0 a1 a2 a3 (!t384) l0_0 a0_1 a0_2))))) else (some (([] : List ByteArray), 1))) := by
  refine Lim.eq (g := fun k => impl_BestSails.f k l0_0 a0_1 a0_2 a1 a2 a3) ?_
  unfold impl_BestSails.f
  repeat' first
    | with_reducible exact Lim.const _
    | with_reducible exact impl_BestSails.J0_lim _ _ _ _ _ _ _
    | with_reducible exact impl_ValidPlan.F_lim _ _ _
    | with_reducible refine Lim.ite ?_ ?_
    | with_reducible refine Lim.bind ?_ (fun _ => ?_)

noncomputable def laws_eqStringS.L0 (x0 : List ByteArray) (x1 : List ByteArray) (x5 : Int) : Option (Bool) := lim (fun k => laws_eqStringS.l0 k x0 x1 x5)
theorem laws_eqStringS.L0_lim (x0 : List ByteArray) (x1 : List ByteArray) (x5 : Int) : Lim (fun k => laws_eqStringS.l0 k x0 x1 x5) (laws_eqStringS.L0 x0 x1 x5) := Lim.of (fun k => (laws_eqStringS.mono_l k) x0 x1 x5)
noncomputable def laws_eqStringS.F (l0 : List ByteArray) (l1 : List ByteArray) : Option (Bool) := lim (fun k => laws_eqStringS.f k l0 l1)
theorem laws_eqStringS.F_lim (l0 : List ByteArray) (l1 : List ByteArray) : Lim (fun k => laws_eqStringS.f k l0 l1) (laws_eqStringS.F l0 l1) := Lim.of (fun k => laws_eqStringS.mono l0 l1 k)
theorem laws_eqStringS.L0_eq (x0 : List ByteArray) (x1 : List ByteArray) (x5 : Int) : laws_eqStringS.L0 x0 x1 x5 = if x5 < (x0.length : Int) then (if 0 ≤ x5 then (if x5 < (x1.length : Int) then (if (rdOf ByteArray.empty x0 x5).toList = (rdOf ByteArray.empty x1 x5).toList then (laws_eqStringS.L0 x0 x1 (wrap64 (x5 + 1))) else (some false)) else (none)) else (none)) else (some true) := by
  refine Lim.step (f := fun k => if x5 < (x0.length : Int) then (if 0 ≤ x5 then (if x5 < (x1.length : Int) then (if (rdOf ByteArray.empty x0 x5).toList = (rdOf ByteArray.empty x1 x5).toList then (laws_eqStringS.l0 k x0 x1 (wrap64 (x5 + 1))) else (some false)) else (none)) else (none)) else (some true)) (fun k => (laws_eqStringS.mono_l k) x0 x1 x5) (fun k => by simp only [laws_eqStringS.l0]) ?_
  repeat' first
    | with_reducible exact Lim.const _
    | with_reducible exact laws_eqStringS.L0_lim _ _ _
    | with_reducible refine Lim.ite ?_ ?_
    | with_reducible refine Lim.bind ?_ (fun _ => ?_)
theorem laws_eqStringS.F_eq (l0 : List ByteArray) (l1 : List ByteArray) : laws_eqStringS.F l0 l1 = if (l0.length : Int) = (l1.length : Int) then (laws_eqStringS.L0 l0 l1 0) else (some false) := by
  refine Lim.eq (g := fun k => laws_eqStringS.f k l0 l1) ?_
  unfold laws_eqStringS.f
  repeat' first
    | with_reducible exact Lim.const _
    | with_reducible exact laws_eqStringS.L0_lim _ _ _
    | with_reducible refine Lim.ite ?_ ?_
    | with_reducible refine Lim.bind ?_ (fun _ => ?_)

noncomputable def laws_markStringS.L0 (x0 : List ByteArray) (x1 : Int) (x5 : Int) : Option (Int × List ByteArray) := lim (fun k => laws_markStringS.l0 k x0 x1 x5)
theorem laws_markStringS.L0_lim (x0 : List ByteArray) (x1 : Int) (x5 : Int) : Lim (fun k => laws_markStringS.l0 k x0 x1 x5) (laws_markStringS.L0 x0 x1 x5) := Lim.of (fun k => (laws_markStringS.mono_l k) x0 x1 x5)
noncomputable def laws_markStringS.F (l0 : List ByteArray) (a1 : Int) : Option (Int × List ByteArray) := lim (fun k => laws_markStringS.f k l0 a1)
theorem laws_markStringS.F_lim (l0 : List ByteArray) (a1 : Int) : Lim (fun k => laws_markStringS.f k l0 a1) (laws_markStringS.F l0 a1) := Lim.of (fun k => laws_markStringS.mono l0 a1 k)
theorem laws_markStringS.L0_eq (x0 : List ByteArray) (x1 : Int) (x5 : Int) : laws_markStringS.L0 x0 x1 x5 = if x5 < (x0.length : Int) then ((laws_markText.F x1).bind fun t405 => (if 0 ≤ x5 then (laws_markStringS.L0 (x0.set (x5 : Int).toNat t405) (wrap64 (x1 + 1)) (wrap64 (x5 + 1))) else (none))) else (some (x1, x0)) := by
  refine Lim.step (f := fun k => if x5 < (x0.length : Int) then ((laws_markText.f k x1).bind fun t405 => (if 0 ≤ x5 then (laws_markStringS.l0 k (x0.set (x5 : Int).toNat t405) (wrap64 (x1 + 1)) (wrap64 (x5 + 1))) else (none))) else (some (x1, x0))) (fun k => (laws_markStringS.mono_l k) x0 x1 x5) (fun k => by simp only [laws_markStringS.l0]) ?_
  repeat' first
    | with_reducible exact Lim.const _
    | with_reducible exact laws_markStringS.L0_lim _ _ _
    | with_reducible exact laws_markText.F_lim _
    | with_reducible refine Lim.ite ?_ ?_
    | with_reducible refine Lim.bind ?_ (fun _ => ?_)
theorem laws_markStringS.F_eq (l0 : List ByteArray) (a1 : Int) : laws_markStringS.F l0 a1 = laws_markStringS.L0 l0 a1 0 := by
  refine Lim.eq (g := fun k => laws_markStringS.f k l0 a1) ?_
  unfold laws_markStringS.f
  repeat' first
    | with_reducible exact Lim.const _
    | with_reducible exact laws_markStringS.L0_lim _ _ _
    | with_reducible refine Lim.ite ?_ ?_
    | with_reducible refine Lim.bind ?_ (fun _ => ?_)

noncomputable def laws_heldStringS.L0 (x0 : List ByteArray) (x1 : Int) (x5 : Int) : Option (Int) := lim (fun k => laws_heldStringS.l0 k x0 x1 x5)
theorem laws_heldStringS.L0_lim (x0 : List ByteArray) (x1 : Int) (x5 : Int) : Lim (fun k => laws_heldStringS.l0 k x0 x1 x5) (laws_heldStringS.L0 x0 x1 x5) := Lim.of (fun k => (laws_heldStringS.mono_l k) x0 x1 x5)
noncomputable def laws_heldStringS.F (l0 : List ByteArray) (a1 : Int) : Option (Int) := lim (fun k => laws_heldStringS.f k l0 a1)
theorem laws_heldStringS.F_lim (l0 : List ByteArray) (a1 : Int) : Lim (fun k => laws_heldStringS.f k l0 a1) (laws_heldStringS.F l0 a1) := Lim.of (fun k => laws_heldStringS.mono l0 a1 k)
theorem laws_heldStringS.L0_eq (x0 : List ByteArray) (x1 : Int) (x5 : Int) : laws_heldStringS.L0 x0 x1 x5 = if x5 < (x0.length : Int) then (if 0 ≤ x5 then ((laws_markText.F x1).bind fun t408 => (if (rdOf ByteArray.empty x0 x5).toList = t408.toList then (laws_heldStringS.L0 x0 (wrap64 (x1 + 1)) (wrap64 (x5 + 1))) else (some (-1)))) else (none)) else (some x1) := by
  refine Lim.step (f := fun k => if x5 < (x0.length : Int) then (if 0 ≤ x5 then ((laws_markText.f k x1).bind fun t408 => (if (rdOf ByteArray.empty x0 x5).toList = t408.toList then (laws_heldStringS.l0 k x0 (wrap64 (x1 + 1)) (wrap64 (x5 + 1))) else (some (-1)))) else (none)) else (some x1)) (fun k => (laws_heldStringS.mono_l k) x0 x1 x5) (fun k => by simp only [laws_heldStringS.l0]) ?_
  repeat' first
    | with_reducible exact Lim.const _
    | with_reducible exact laws_heldStringS.L0_lim _ _ _
    | with_reducible exact laws_markText.F_lim _
    | with_reducible refine Lim.ite ?_ ?_
    | with_reducible refine Lim.bind ?_ (fun _ => ?_)
theorem laws_heldStringS.F_eq (l0 : List ByteArray) (a1 : Int) : laws_heldStringS.F l0 a1 = laws_heldStringS.L0 l0 a1 0 := by
  refine Lim.eq (g := fun k => laws_heldStringS.f k l0 a1) ?_
  unfold laws_heldStringS.f
  repeat' first
    | with_reducible exact Lim.const _
    | with_reducible exact laws_heldStringS.L0_lim _ _ _
    | with_reducible refine Lim.ite ?_ ?_
    | with_reducible refine Lim.bind ?_ (fun _ => ?_)

noncomputable def laws_FnExactBestSails.J0 (x1 : Int) (x2 : Int) (x3 : Int) (x10 : List ByteArray) (x11 : Int) (x13 : List ByteArray) (x14 : Int) (x52 : Bool) (x410000 : List (S74)) (x410001 : Int) (x410002 : Int) (x426000 : List (S79)) (x426001 : Int) (x426002 : Int) : Option (Bool) := lim (fun k => laws_FnExactBestSails.j0 k x1 x2 x3 x10 x11 x13 x14 x52 x410000 x410001 x410002 x426000 x426001 x426002)
theorem laws_FnExactBestSails.J0_lim (x1 : Int) (x2 : Int) (x3 : Int) (x10 : List ByteArray) (x11 : Int) (x13 : List ByteArray) (x14 : Int) (x52 : Bool) (x410000 : List (S74)) (x410001 : Int) (x410002 : Int) (x426000 : List (S79)) (x426001 : Int) (x426002 : Int) : Lim (fun k => laws_FnExactBestSails.j0 k x1 x2 x3 x10 x11 x13 x14 x52 x410000 x410001 x410002 x426000 x426001 x426002) (laws_FnExactBestSails.J0 x1 x2 x3 x10 x11 x13 x14 x52 x410000 x410001 x410002 x426000 x426001 x426002) := Lim.of (fun k => (laws_FnExactBestSails.mono_l k).1 x1 x2 x3 x10 x11 x13 x14 x52 x410000 x410001 x410002 x426000 x426001 x426002)
noncomputable def laws_FnExactBestSails.J1 (x1 : Int) (x2 : Int) (x3 : Int) (x10 : List ByteArray) (x11 : Int) (x13 : List ByteArray) (x73 : Bool) (x410000 : List (S74)) (x410001 : Int) (x410002 : Int) : Option (Bool) := lim (fun k => laws_FnExactBestSails.j1 k x1 x2 x3 x10 x11 x13 x73 x410000 x410001 x410002)
theorem laws_FnExactBestSails.J1_lim (x1 : Int) (x2 : Int) (x3 : Int) (x10 : List ByteArray) (x11 : Int) (x13 : List ByteArray) (x73 : Bool) (x410000 : List (S74)) (x410001 : Int) (x410002 : Int) : Lim (fun k => laws_FnExactBestSails.j1 k x1 x2 x3 x10 x11 x13 x73 x410000 x410001 x410002) (laws_FnExactBestSails.J1 x1 x2 x3 x10 x11 x13 x73 x410000 x410001 x410002) := Lim.of (fun k => (laws_FnExactBestSails.mono_l k).2.1 x1 x2 x3 x10 x11 x13 x73 x410000 x410001 x410002)
noncomputable def laws_FnExactBestSails.J2 (x13 : List ByteArray) (x16 : Int) (x102 : Bool) : Option (Bool) := lim (fun k => laws_FnExactBestSails.j2 k x13 x16 x102)
theorem laws_FnExactBestSails.J2_lim (x13 : List ByteArray) (x16 : Int) (x102 : Bool) : Lim (fun k => laws_FnExactBestSails.j2 k x13 x16 x102) (laws_FnExactBestSails.J2 x13 x16 x102) := Lim.of (fun k => (laws_FnExactBestSails.mono_l k).2.2 x13 x16 x102)
noncomputable def laws_FnExactBestSails.F (l0_0 : List (S74)) (a0_1 : Int) (a0_2 : Int) (a1 : Int) (a2 : Int) (a3 : Int) : Option (Bool) := lim (fun k => laws_FnExactBestSails.f k l0_0 a0_1 a0_2 a1 a2 a3)
theorem laws_FnExactBestSails.F_lim (l0_0 : List (S74)) (a0_1 : Int) (a0_2 : Int) (a1 : Int) (a2 : Int) (a3 : Int) : Lim (fun k => laws_FnExactBestSails.f k l0_0 a0_1 a0_2 a1 a2 a3) (laws_FnExactBestSails.F l0_0 a0_1 a0_2 a1 a2 a3) := Lim.of (fun k => laws_FnExactBestSails.mono l0_0 a0_1 a0_2 a1 a2 a3 k)
theorem laws_FnExactBestSails.J0_eq (x1 : Int) (x2 : Int) (x3 : Int) (x10 : List ByteArray) (x11 : Int) (x13 : List ByteArray) (x14 : Int) (x52 : Bool) (x410000 : List (S74)) (x410001 : Int) (x410002 : Int) (x426000 : List (S79)) (x426001 : Int) (x426002 : Int) : laws_FnExactBestSails.J0 x1 x2 x3 x10 x11 x13 x14 x52 x410000 x410001 x410002 x426000 x426001 x426002 = if x52 = true then (some false) else ((laws_toPlan.F x410000 x410001 x410002).bind fun bt431 => ((laws_eqPlan.F x426000 x426001 x426002 bt431.1 bt431.2.1 bt431.2.2).bind fun t436 => (if t436 = true then ((laws_markPlan.F x426000 x426001 x426002 1).bind fun bt437 => (if bt437.1 < 0 then (laws_FnExactBestSails.J1 x1 x2 x3 x10 x11 x13 true x410000 x410001 x410002) else ((laws_eqStringS.F x13 x10).bind fun t439 => (if t439 = true then (laws_FnExactBestSails.J1 x1 x2 x3 x10 x11 x13 (x14 != x11) x410000 x410001 x410002) else (laws_FnExactBestSails.J1 x1 x2 x3 x10 x11 x13 true x410000 x410001 x410002))))) else (some false)))) := by
  refine Lim.step (f := fun k => if x52 = true then (some false) else ((laws_toPlan.f k x410000 x410001 x410002).bind fun bt431 => ((laws_eqPlan.f k x426000 x426001 x426002 bt431.1 bt431.2.1 bt431.2.2).bind fun t436 => (if t436 = true then ((laws_markPlan.f k x426000 x426001 x426002 1).bind fun bt437 => (if bt437.1 < 0 then (laws_FnExactBestSails.j1 k x1 x2 x3 x10 x11 x13 true x410000 x410001 x410002) else ((laws_eqStringS.f k x13 x10).bind fun t439 => (if t439 = true then (laws_FnExactBestSails.j1 k x1 x2 x3 x10 x11 x13 (x14 != x11) x410000 x410001 x410002) else (laws_FnExactBestSails.j1 k x1 x2 x3 x10 x11 x13 true x410000 x410001 x410002))))) else (some false))))) (fun k => (laws_FnExactBestSails.mono_l k).1 x1 x2 x3 x10 x11 x13 x14 x52 x410000 x410001 x410002 x426000 x426001 x426002) (fun k => by simp only [laws_FnExactBestSails.j0]) ?_
  repeat' first
    | with_reducible exact Lim.const _
    | with_reducible exact laws_FnExactBestSails.J1_lim _ _ _ _ _ _ _ _ _ _
    | with_reducible exact laws_eqPlan.F_lim _ _ _ _ _ _
    | with_reducible exact laws_eqStringS.F_lim _ _
    | with_reducible exact laws_markPlan.F_lim _ _ _ _
    | with_reducible exact laws_toPlan.F_lim _ _ _
    | with_reducible refine Lim.ite ?_ ?_
    | with_reducible refine Lim.bind ?_ (fun _ => ?_)
theorem laws_FnExactBestSails.J1_eq (x1 : Int) (x2 : Int) (x3 : Int) (x10 : List ByteArray) (x11 : Int) (x13 : List ByteArray) (x73 : Bool) (x410000 : List (S74)) (x410001 : Int) (x410002 : Int) : laws_FnExactBestSails.J1 x1 x2 x3 x10 x11 x13 x73 x410000 x410001 x410002 = if x73 = true then (some false) else ((laws_markStringS.F x13 1).bind fun bt440 => ((laws_heldStringS.F bt440.2 1).bind fun t442 => (if t442 < 0 then (some false) else (if t442 = bt440.1 then ((laws_toPlan.F x410000 x410001 x410002).bind fun bt443 => ((impl_BestSails.F bt443.1 bt443.2.1 bt443.2.2 x1 x2 x3).bind fun bt448 => ((laws_eqStringS.F bt448.1 x10).bind fun t452 => (if t452 = true then (laws_FnExactBestSails.J2 bt440.2 bt440.1 (bt448.2 != x11)) else (laws_FnExactBestSails.J2 bt440.2 bt440.1 true))))) else (some false))))) := by
  refine Lim.step (f := fun k => if x73 = true then (some false) else ((laws_markStringS.f k x13 1).bind fun bt440 => ((laws_heldStringS.f k bt440.2 1).bind fun t442 => (if t442 < 0 then (some false) else (if t442 = bt440.1 then ((laws_toPlan.f k x410000 x410001 x410002).bind fun bt443 => ((impl_BestSails.f k bt443.1 bt443.2.1 bt443.2.2 x1 x2 x3).bind fun bt448 => ((laws_eqStringS.f k bt448.1 x10).bind fun t452 => (if t452 = true then (laws_FnExactBestSails.j2 k bt440.2 bt440.1 (bt448.2 != x11)) else (laws_FnExactBestSails.j2 k bt440.2 bt440.1 true))))) else (some false)))))) (fun k => (laws_FnExactBestSails.mono_l k).2.1 x1 x2 x3 x10 x11 x13 x73 x410000 x410001 x410002) (fun k => by simp only [laws_FnExactBestSails.j1]) ?_
  repeat' first
    | with_reducible exact Lim.const _
    | with_reducible exact impl_BestSails.F_lim _ _ _ _ _ _
    | with_reducible exact laws_FnExactBestSails.J2_lim _ _ _
    | with_reducible exact laws_eqStringS.F_lim _ _
    | with_reducible exact laws_heldStringS.F_lim _ _
    | with_reducible exact laws_markStringS.F_lim _ _
    | with_reducible exact laws_toPlan.F_lim _ _ _
    | with_reducible refine Lim.ite ?_ ?_
    | with_reducible refine Lim.bind ?_ (fun _ => ?_)
theorem laws_FnExactBestSails.J2_eq (x13 : List ByteArray) (x16 : Int) (x102 : Bool) : laws_FnExactBestSails.J2 x13 x16 x102 = if x102 = true then (some false) else ((laws_heldStringS.F x13 1).bind fun t453 => (if t453 < 0 then (some false) else (if t453 = x16 then (some true) else (some false)))) := by
  refine Lim.step (f := fun k => if x102 = true then (some false) else ((laws_heldStringS.f k x13 1).bind fun t453 => (if t453 < 0 then (some false) else (if t453 = x16 then (some true) else (some false))))) (fun k => (laws_FnExactBestSails.mono_l k).2.2 x13 x16 x102) (fun k => by simp only [laws_FnExactBestSails.j2]) ?_
  repeat' first
    | with_reducible exact Lim.const _
    | with_reducible exact laws_heldStringS.F_lim _ _
    | with_reducible refine Lim.ite ?_ ?_
    | with_reducible refine Lim.bind ?_ (fun _ => ?_)
theorem laws_FnExactBestSails.F_eq (l0_0 : List (S74)) (a0_1 : Int) (a0_2 : Int) (a1 : Int) (a2 : Int) (a3 : Int) : laws_FnExactBestSails.F l0_0 a0_1 a0_2 a1 a2 a3 = (laws_szPlan.F l0_0 a0_1 a0_2 1048576).bind fun t410 => (if t410 < 0 then (some true) else ((laws_toPlan.F l0_0 a0_1 a0_2).bind fun bt411 => ((spec_BestSails.F bt411.1 bt411.2.1 bt411.2.2 a1 a2 a3).bind fun bt416 => ((laws_toPlan.F l0_0 a0_1 a0_2).bind fun bt420 => ((impl_BestSails.F bt420.1 bt420.2.1 bt420.2.2 a1 a2 a3).bind fun bt426 => ((laws_eqStringS.F bt426.1 bt416.1).bind fun t430 => (if t430 = true then (laws_FnExactBestSails.J0 a1 a2 a3 bt416.1 bt416.2 bt426.1 bt426.2 (bt426.2 != bt416.2) l0_0 a0_1 a0_2 bt420.1 bt420.2.1 bt420.2.2) else (laws_FnExactBestSails.J0 a1 a2 a3 bt416.1 bt416.2 bt426.1 bt426.2 true l0_0 a0_1 a0_2 bt420.1 bt420.2.1 bt420.2.2)))))))) := by
  refine Lim.eq (g := fun k => laws_FnExactBestSails.f k l0_0 a0_1 a0_2 a1 a2 a3) ?_
  unfold laws_FnExactBestSails.f
  repeat' first
    | with_reducible exact Lim.const _
    | with_reducible exact impl_BestSails.F_lim _ _ _ _ _ _
    | with_reducible exact laws_FnExactBestSails.J0_lim _ _ _ _ _ _ _ _ _ _ _ _ _ _
    | with_reducible exact laws_eqStringS.F_lim _ _
    | with_reducible exact laws_szPlan.F_lim _ _ _ _
    | with_reducible exact laws_toPlan.F_lim _ _ _
    | with_reducible exact spec_BestSails.F_lim _ _ _ _ _ _
    | with_reducible refine Lim.ite ?_ ?_
    | with_reducible refine Lim.bind ?_ (fun _ => ?_)

end Go.Proofs.Ytlphfgbeeckjnaa.PFnExactBestSails
