/-
  Written by a program of this session (wip/tools/lims.py): the printed functions without their bound on rounds.
-/
import Derived.Test.YtlphfgbeeckjnaaPFnExactSetSailx1
import Derived.Test.YtlphfgbeeckjnaaPFnExactSetSailx2
import Derived.Test.YtlphfgbeeckjnaaPFnExactSetSailx3
import Derived.Test.YtlphfgbeeckjnaaPFnExactSetSailx4
import Derived.Test.YtlphfgbeeckjnaaPFnExactSetSailx5
import Derived.Test.YtlphfgbeeckjnaaPFnExactSetSailx6
import Derived.Test.YtlphfgbeeckjnaaPFnExactSetSailx7
import Derived.Test.YtlphfgbeeckjnaaPFnExactSetSailx8
import Derived.Test.YtlphfgbeeckjnaaPFnExactSetSailx9
import Derived.Test.YtlphfgbeeckjnaaPFnExactSetSailx10
import Derived.Test.YtlphfgbeeckjnaaPFnExactSetSailx11
import Derived.Test.YtlphfgbeeckjnaaPFnExactSetSailx12
import Derived.Test.YtlphfgbeeckjnaaPFnExactSetSailx13
import Derived.Test.YtlphfgbeeckjnaaPFnExactSetSailx14
import Derived.Test.YtlphfgbeeckjnaaPFnExactSetSailx15
import Derived.Test.YtlphfgbeeckjnaaPFnExactSetSailx16
import Derived.Test.YtlphfgbeeckjnaaPFnExactSetSailx17
import Derived.Test.YtlphfgbeeckjnaaKit
set_option linter.unusedVariables false
set_option linter.unusedSimpArgs false
namespace Go.Proofs.Ytlphfgbeeckjnaa.PFnExactSetSail
open Go.RowKit Go.Proofs.Ytlphfgbeeckjnaa.Kit Go.Proofs.YtlphfgbeeckjnaaW.PrintWords Go.Proofs.YtlphfgbeeckjnaaW.PrintLast Go.Proofs.YtlphfgbeeckjnaaW.PrintMore

noncomputable def laws_szHungS.L0 (x0 : List (S74)) (x1 : Int) (x5 : Int) : Option (Int) := lim (fun k => laws_szHungS.l0 k x0 x1 x5)
theorem laws_szHungS.L0_lim (x0 : List (S74)) (x1 : Int) (x5 : Int) : Lim (fun k => laws_szHungS.l0 k x0 x1 x5) (laws_szHungS.L0 x0 x1 x5) := Lim.of (fun k => (laws_szHungS.mono_l k) x0 x1 x5)
noncomputable def laws_szHungS.F (l0 : List (S74)) (a1 : Int) : Option (Int) := lim (fun k => laws_szHungS.f k l0 a1)
theorem laws_szHungS.F_lim (l0 : List (S74)) (a1 : Int) : Lim (fun k => laws_szHungS.f k l0 a1) (laws_szHungS.F l0 a1) := Lim.of (fun k => laws_szHungS.mono l0 a1 k)
theorem laws_szHungS.L0_eq (x0 : List (S74)) (x1 : Int) (x5 : Int) : laws_szHungS.L0 x0 x1 x5 = if x5 < (x0.length : Int) then (if 0 ≤ x5 then ((laws_szHung.f ((rd_T74 x0 x5).f0) ((rd_T74 x0 x5).f1) ((rd_T74 x0 x5).f2) x1).bind fun t104 => (if t104 < 0 then (some (-1)) else (laws_szHungS.L0 x0 t104 (wrap64 (x5 + 1))))) else (none)) else (some x1) := by
  refine Lim.step (f := fun k => if x5 < (x0.length : Int) then (if 0 ≤ x5 then ((laws_szHung.f ((rd_T74 x0 x5).f0) ((rd_T74 x0 x5).f1) ((rd_T74 x0 x5).f2) x1).bind fun t104 => (if t104 < 0 then (some (-1)) else (laws_szHungS.l0 k x0 t104 (wrap64 (x5 + 1))))) else (none)) else (some x1)) (fun k => (laws_szHungS.mono_l k) x0 x1 x5) (fun k => by simp only [laws_szHungS.l0]) ?_
  repeat' first
    | with_reducible exact Lim.const _
    | with_reducible exact laws_szHungS.L0_lim _ _ _
    | with_reducible refine Lim.ite ?_ ?_
    | with_reducible refine Lim.bind ?_ (fun _ => ?_)
theorem laws_szHungS.F_eq (l0 : List (S74)) (a1 : Int) : laws_szHungS.F l0 a1 = if (wrap64 (a1 - (l0.length : Int))) < 0 then (some (-1)) else (laws_szHungS.L0 l0 (wrap64 (a1 - (l0.length : Int))) 0) := by
  refine Lim.eq (g := fun k => laws_szHungS.f k l0 a1) ?_
  unfold laws_szHungS.f
  repeat' first
    | with_reducible exact Lim.const _
    | with_reducible exact laws_szHungS.L0_lim _ _ _
    | with_reducible refine Lim.ite ?_ ?_
    | with_reducible refine Lim.bind ?_ (fun _ => ?_)

noncomputable def laws_szPlan.F (l0_0 : List (S74)) (a0_1 : Int) (a0_2 : Int) (a1 : Int) : Option (Int) := lim (fun k => laws_szPlan.f k l0_0 a0_1 a0_2 a1)
theorem laws_szPlan.F_lim (l0_0 : List (S74)) (a0_1 : Int) (a0_2 : Int) (a1 : Int) : Lim (fun k => laws_szPlan.f k l0_0 a0_1 a0_2 a1) (laws_szPlan.F l0_0 a0_1 a0_2 a1) := Lim.of (fun k => laws_szPlan.mono l0_0 a0_1 a0_2 a1 k)
theorem laws_szPlan.F_eq (l0_0 : List (S74)) (a0_1 : Int) (a0_2 : Int) (a1 : Int) : laws_szPlan.F l0_0 a0_1 a0_2 a1 = (laws_szHungS.F l0_0 a1).bind fun t106 => (if t106 < 0 then (some (-1)) else (some t106)) := by
  refine Lim.eq (g := fun k => laws_szPlan.f k l0_0 a0_1 a0_2 a1) ?_
  unfold laws_szPlan.f
  repeat' first
    | with_reducible exact Lim.const _
    | with_reducible exact laws_szHungS.F_lim _ _
    | with_reducible refine Lim.ite ?_ ?_
    | with_reducible refine Lim.bind ?_ (fun _ => ?_)

noncomputable def laws_toSpotS.L0 (x0 : List (S176)) (x3 : List (S129)) (x4 : Int) : Option ((List (S129))) := lim (fun k => laws_toSpotS.l0 k x0 x3 x4)
theorem laws_toSpotS.L0_lim (x0 : List (S176)) (x3 : List (S129)) (x4 : Int) : Lim (fun k => laws_toSpotS.l0 k x0 x3 x4) (laws_toSpotS.L0 x0 x3 x4) := Lim.of (fun k => (laws_toSpotS.mono_l k) x0 x3 x4)
noncomputable def laws_toSpotS.F (l0 : List (S176)) : Option ((List (S129))) := lim (fun k => laws_toSpotS.f k l0)
theorem laws_toSpotS.F_lim (l0 : List (S176)) : Lim (fun k => laws_toSpotS.f k l0) (laws_toSpotS.F l0) := Lim.of (fun k => laws_toSpotS.mono l0 k)
theorem laws_toSpotS.L0_eq (x0 : List (S176)) (x3 : List (S129)) (x4 : Int) : laws_toSpotS.L0 x0 x3 x4 = if x4 < (x0.length : Int) then (if 0 ≤ x4 then ((laws_toSpot.f ((rd_T176 x0 x4).f0) ((rd_T176 x0 x4).f1)).bind fun bt114 => (if x4 < (x3.length : Int) then (laws_toSpotS.L0 x0 (x3.set (x4 : Int).toNat (⟨bt114.1, bt114.2⟩ : S129)) (wrap64 (x4 + 1))) else (none))) else (none)) else (some x3) := by
  refine Lim.step (f := fun k => if x4 < (x0.length : Int) then (if 0 ≤ x4 then ((laws_toSpot.f ((rd_T176 x0 x4).f0) ((rd_T176 x0 x4).f1)).bind fun bt114 => (if x4 < (x3.length : Int) then (laws_toSpotS.l0 k x0 (x3.set (x4 : Int).toNat (⟨bt114.1, bt114.2⟩ : S129)) (wrap64 (x4 + 1))) else (none))) else (none)) else (some x3)) (fun k => (laws_toSpotS.mono_l k) x0 x3 x4) (fun k => by simp only [laws_toSpotS.l0]) ?_
  repeat' first
    | with_reducible exact Lim.const _
    | with_reducible exact laws_toSpotS.L0_lim _ _ _
    | with_reducible refine Lim.ite ?_ ?_
    | with_reducible refine Lim.bind ?_ (fun _ => ?_)
theorem laws_toSpotS.F_eq (l0 : List (S176)) : laws_toSpotS.F l0 = if 0 ≤ (l0.length : Int) then (if ((l0.length : Int) : Int).toNat ≤ 17592186044416 then (laws_toSpotS.L0 l0 (List.replicate ((l0.length : Int) : Int).toNat z129) 0) else (none)) else (none) := by
  refine Lim.eq (g := fun k => laws_toSpotS.f k l0) ?_
  unfold laws_toSpotS.f
  repeat' first
    | with_reducible exact Lim.const _
    | with_reducible exact laws_toSpotS.L0_lim _ _ _
    | with_reducible refine Lim.ite ?_ ?_
    | with_reducible refine Lim.bind ?_ (fun _ => ?_)

noncomputable def laws_toHung.F (a0_0 : ByteArray) (l0_1 : List (S176)) (a0_2 : Bool) : Option (ByteArray × (List (S129)) × Bool) := lim (fun k => laws_toHung.f k a0_0 l0_1 a0_2)
theorem laws_toHung.F_lim (a0_0 : ByteArray) (l0_1 : List (S176)) (a0_2 : Bool) : Lim (fun k => laws_toHung.f k a0_0 l0_1 a0_2) (laws_toHung.F a0_0 l0_1 a0_2) := Lim.of (fun k => laws_toHung.mono a0_0 l0_1 a0_2 k)
theorem laws_toHung.F_eq (a0_0 : ByteArray) (l0_1 : List (S176)) (a0_2 : Bool) : laws_toHung.F a0_0 l0_1 a0_2 = (laws_toSpotS.F l0_1).bind fun t120 => (some (a0_0, t120, a0_2)) := by
  refine Lim.eq (g := fun k => laws_toHung.f k a0_0 l0_1 a0_2) ?_
  unfold laws_toHung.f
  repeat' first
    | with_reducible exact Lim.const _
    | with_reducible exact laws_toSpotS.F_lim _
    | with_reducible refine Lim.ite ?_ ?_
    | with_reducible refine Lim.bind ?_ (fun _ => ?_)

noncomputable def laws_toHungS.L0 (x0 : List (S74)) (x3 : List (S79)) (x4 : Int) : Option ((List (S79))) := lim (fun k => laws_toHungS.l0 k x0 x3 x4)
theorem laws_toHungS.L0_lim (x0 : List (S74)) (x3 : List (S79)) (x4 : Int) : Lim (fun k => laws_toHungS.l0 k x0 x3 x4) (laws_toHungS.L0 x0 x3 x4) := Lim.of (fun k => (laws_toHungS.mono_l k) x0 x3 x4)
noncomputable def laws_toHungS.F (l0 : List (S74)) : Option ((List (S79))) := lim (fun k => laws_toHungS.f k l0)
theorem laws_toHungS.F_lim (l0 : List (S74)) : Lim (fun k => laws_toHungS.f k l0) (laws_toHungS.F l0) := Lim.of (fun k => laws_toHungS.mono l0 k)
theorem laws_toHungS.L0_eq (x0 : List (S74)) (x3 : List (S79)) (x4 : Int) : laws_toHungS.L0 x0 x3 x4 = if x4 < (x0.length : Int) then (if 0 ≤ x4 then ((laws_toHung.F ((rd_T74 x0 x4).f0) ((rd_T74 x0 x4).f1) ((rd_T74 x0 x4).f2)).bind fun bt127 => (if x4 < (x3.length : Int) then (laws_toHungS.L0 x0 (x3.set (x4 : Int).toNat (⟨bt127.1, bt127.2.1, bt127.2.2⟩ : S79)) (wrap64 (x4 + 1))) else (none))) else (none)) else (some x3) := by
  refine Lim.step (f := fun k => if x4 < (x0.length : Int) then (if 0 ≤ x4 then ((laws_toHung.f k ((rd_T74 x0 x4).f0) ((rd_T74 x0 x4).f1) ((rd_T74 x0 x4).f2)).bind fun bt127 => (if x4 < (x3.length : Int) then (laws_toHungS.l0 k x0 (x3.set (x4 : Int).toNat (⟨bt127.1, bt127.2.1, bt127.2.2⟩ : S79)) (wrap64 (x4 + 1))) else (none))) else (none)) else (some x3)) (fun k => (laws_toHungS.mono_l k) x0 x3 x4) (fun k => by simp only [laws_toHungS.l0]) ?_
  repeat' first
    | with_reducible exact Lim.const _
    | with_reducible exact laws_toHung.F_lim _ _ _
    | with_reducible exact laws_toHungS.L0_lim _ _ _
    | with_reducible refine Lim.ite ?_ ?_
    | with_reducible refine Lim.bind ?_ (fun _ => ?_)
theorem laws_toHungS.F_eq (l0 : List (S74)) : laws_toHungS.F l0 = if 0 ≤ (l0.length : Int) then (if ((l0.length : Int) : Int).toNat ≤ 5864062014805 then (laws_toHungS.L0 l0 (List.replicate ((l0.length : Int) : Int).toNat z79) 0) else (none)) else (none) := by
  refine Lim.eq (g := fun k => laws_toHungS.f k l0) ?_
  unfold laws_toHungS.f
  repeat' first
    | with_reducible exact Lim.const _
    | with_reducible exact laws_toHungS.L0_lim _ _ _
    | with_reducible refine Lim.ite ?_ ?_
    | with_reducible refine Lim.bind ?_ (fun _ => ?_)

noncomputable def laws_toPlan.F (l0_0 : List (S74)) (a0_1 : Int) (a0_2 : Int) : Option ((List (S79)) × Int × Int) := lim (fun k => laws_toPlan.f k l0_0 a0_1 a0_2)
theorem laws_toPlan.F_lim (l0_0 : List (S74)) (a0_1 : Int) (a0_2 : Int) : Lim (fun k => laws_toPlan.f k l0_0 a0_1 a0_2) (laws_toPlan.F l0_0 a0_1 a0_2) := Lim.of (fun k => laws_toPlan.mono l0_0 a0_1 a0_2 k)
theorem laws_toPlan.F_eq (l0_0 : List (S74)) (a0_1 : Int) (a0_2 : Int) : laws_toPlan.F l0_0 a0_1 a0_2 = (laws_toHungS.F l0_0).bind fun t136 => (some (t136, a0_1, a0_2)) := by
  refine Lim.eq (g := fun k => laws_toPlan.f k l0_0 a0_1 a0_2) ?_
  unfold laws_toPlan.f
  repeat' first
    | with_reducible exact Lim.const _
    | with_reducible exact laws_toHungS.F_lim _
    | with_reducible refine Lim.ite ?_ ?_
    | with_reducible refine Lim.bind ?_ (fun _ => ?_)

noncomputable def laws_eqSpotS.L0 (x0 : List (S129)) (x1 : List (S129)) (x5 : Int) : Option (Bool) := lim (fun k => laws_eqSpotS.l0 k x0 x1 x5)
theorem laws_eqSpotS.L0_lim (x0 : List (S129)) (x1 : List (S129)) (x5 : Int) : Lim (fun k => laws_eqSpotS.l0 k x0 x1 x5) (laws_eqSpotS.L0 x0 x1 x5) := Lim.of (fun k => (laws_eqSpotS.mono_l k) x0 x1 x5)
noncomputable def laws_eqSpotS.F (l0 : List (S129)) (l1 : List (S129)) : Option (Bool) := lim (fun k => laws_eqSpotS.f k l0 l1)
theorem laws_eqSpotS.F_lim (l0 : List (S129)) (l1 : List (S129)) : Lim (fun k => laws_eqSpotS.f k l0 l1) (laws_eqSpotS.F l0 l1) := Lim.of (fun k => laws_eqSpotS.mono l0 l1 k)
theorem laws_eqSpotS.L0_eq (x0 : List (S129)) (x1 : List (S129)) (x5 : Int) : laws_eqSpotS.L0 x0 x1 x5 = if x5 < (x0.length : Int) then (if 0 ≤ x5 then (if x5 < (x1.length : Int) then ((laws_eqSpot.f ((rd_T129 x0 x5).f0) ((rd_T129 x0 x5).f1) ((rd_T129 x1 x5).f0) ((rd_T129 x1 x5).f1)).bind fun t143 => (if t143 = true then (laws_eqSpotS.L0 x0 x1 (wrap64 (x5 + 1))) else (some false))) else (none)) else (none)) else (some true) := by
  refine Lim.step (f := fun k => if x5 < (x0.length : Int) then (if 0 ≤ x5 then (if x5 < (x1.length : Int) then ((laws_eqSpot.f ((rd_T129 x0 x5).f0) ((rd_T129 x0 x5).f1) ((rd_T129 x1 x5).f0) ((rd_T129 x1 x5).f1)).bind fun t143 => (if t143 = true then (laws_eqSpotS.l0 k x0 x1 (wrap64 (x5 + 1))) else (some false))) else (none)) else (none)) else (some true)) (fun k => (laws_eqSpotS.mono_l k) x0 x1 x5) (fun k => by simp only [laws_eqSpotS.l0]) ?_
  repeat' first
    | with_reducible exact Lim.const _
    | with_reducible exact laws_eqSpotS.L0_lim _ _ _
    | with_reducible refine Lim.ite ?_ ?_
    | with_reducible refine Lim.bind ?_ (fun _ => ?_)
theorem laws_eqSpotS.F_eq (l0 : List (S129)) (l1 : List (S129)) : laws_eqSpotS.F l0 l1 = if (l0.length : Int) = (l1.length : Int) then (laws_eqSpotS.L0 l0 l1 0) else (some false) := by
  refine Lim.eq (g := fun k => laws_eqSpotS.f k l0 l1) ?_
  unfold laws_eqSpotS.f
  repeat' first
    | with_reducible exact Lim.const _
    | with_reducible exact laws_eqSpotS.L0_lim _ _ _
    | with_reducible refine Lim.ite ?_ ?_
    | with_reducible refine Lim.bind ?_ (fun _ => ?_)

noncomputable def laws_eqHung.F (a0_0 : ByteArray) (l0_1 : List (S129)) (a0_2 : Bool) (a1_0 : ByteArray) (l1_1 : List (S129)) (a1_2 : Bool) : Option (Bool) := lim (fun k => laws_eqHung.f k a0_0 l0_1 a0_2 a1_0 l1_1 a1_2)
theorem laws_eqHung.F_lim (a0_0 : ByteArray) (l0_1 : List (S129)) (a0_2 : Bool) (a1_0 : ByteArray) (l1_1 : List (S129)) (a1_2 : Bool) : Lim (fun k => laws_eqHung.f k a0_0 l0_1 a0_2 a1_0 l1_1 a1_2) (laws_eqHung.F a0_0 l0_1 a0_2 a1_0 l1_1 a1_2) := Lim.of (fun k => laws_eqHung.mono a0_0 l0_1 a0_2 a1_0 l1_1 a1_2 k)
theorem laws_eqHung.F_eq (a0_0 : ByteArray) (l0_1 : List (S129)) (a0_2 : Bool) (a1_0 : ByteArray) (l1_1 : List (S129)) (a1_2 : Bool) : laws_eqHung.F a0_0 l0_1 a0_2 a1_0 l1_1 a1_2 = if a0_0.toList = a1_0.toList then ((laws_eqSpotS.F l0_1 l1_1).bind fun t146 => (if t146 = true then (if (a0_2 != a1_2) = true then (some false) else (some true)) else (some false))) else (some false) := by
  refine Lim.eq (g := fun k => laws_eqHung.f k a0_0 l0_1 a0_2 a1_0 l1_1 a1_2) ?_
  unfold laws_eqHung.f
  repeat' first
    | with_reducible exact Lim.const _
    | with_reducible exact laws_eqSpotS.F_lim _ _
    | with_reducible refine Lim.ite ?_ ?_
    | with_reducible refine Lim.bind ?_ (fun _ => ?_)

noncomputable def laws_eqHungS.L0 (x0 : List (S79)) (x1 : List (S79)) (x5 : Int) : Option (Bool) := lim (fun k => laws_eqHungS.l0 k x0 x1 x5)
theorem laws_eqHungS.L0_lim (x0 : List (S79)) (x1 : List (S79)) (x5 : Int) : Lim (fun k => laws_eqHungS.l0 k x0 x1 x5) (laws_eqHungS.L0 x0 x1 x5) := Lim.of (fun k => (laws_eqHungS.mono_l k) x0 x1 x5)
noncomputable def laws_eqHungS.F (l0 : List (S79)) (l1 : List (S79)) : Option (Bool) := lim (fun k => laws_eqHungS.f k l0 l1)
theorem laws_eqHungS.F_lim (l0 : List (S79)) (l1 : List (S79)) : Lim (fun k => laws_eqHungS.f k l0 l1) (laws_eqHungS.F l0 l1) := Lim.of (fun k => laws_eqHungS.mono l0 l1 k)
theorem laws_eqHungS.L0_eq (x0 : List (S79)) (x1 : List (S79)) (x5 : Int) : laws_eqHungS.L0 x0 x1 x5 = if x5 < (x0.length : Int) then (if 0 ≤ x5 then (if x5 < (x1.length : Int) then ((laws_eqHung.F ((rd_T79 x0 x5).f0) ((rd_T79 x0 x5).f1) ((rd_T79 x0 x5).f2) ((rd_T79 x1 x5).f0) ((rd_T79 x1 x5).f1) ((rd_T79 x1 x5).f2)).bind fun t149 => (if t149 = true then (laws_eqHungS.L0 x0 x1 (wrap64 (x5 + 1))) else (some false))) else (none)) else (none)) else (some true) := by
  refine Lim.step (f := fun k => if x5 < (x0.length : Int) then (if 0 ≤ x5 then (if x5 < (x1.length : Int) then ((laws_eqHung.f k ((rd_T79 x0 x5).f0) ((rd_T79 x0 x5).f1) ((rd_T79 x0 x5).f2) ((rd_T79 x1 x5).f0) ((rd_T79 x1 x5).f1) ((rd_T79 x1 x5).f2)).bind fun t149 => (if t149 = true then (laws_eqHungS.l0 k x0 x1 (wrap64 (x5 + 1))) else (some false))) else (none)) else (none)) else (some true)) (fun k => (laws_eqHungS.mono_l k) x0 x1 x5) (fun k => by simp only [laws_eqHungS.l0]) ?_
  repeat' first
    | with_reducible exact Lim.const _
    | with_reducible exact laws_eqHung.F_lim _ _ _ _ _ _
    | with_reducible exact laws_eqHungS.L0_lim _ _ _
    | with_reducible refine Lim.ite ?_ ?_
    | with_reducible refine Lim.bind ?_ (fun _ => ?_)
theorem laws_eqHungS.F_eq (l0 : List (S79)) (l1 : List (S79)) : laws_eqHungS.F l0 l1 = if (l0.length : Int) = (l1.length : Int) then (laws_eqHungS.L0 l0 l1 0) else (some false) := by
  refine Lim.eq (g := fun k => laws_eqHungS.f k l0 l1) ?_
  unfold laws_eqHungS.f
  repeat' first
    | with_reducible exact Lim.const _
    | with_reducible exact laws_eqHungS.L0_lim _ _ _
    | with_reducible refine Lim.ite ?_ ?_
    | with_reducible refine Lim.bind ?_ (fun _ => ?_)

noncomputable def laws_eqPlan.F (l0_0 : List (S79)) (a0_1 : Int) (a0_2 : Int) (l1_0 : List (S79)) (a1_1 : Int) (a1_2 : Int) : Option (Bool) := lim (fun k => laws_eqPlan.f k l0_0 a0_1 a0_2 l1_0 a1_1 a1_2)
theorem laws_eqPlan.F_lim (l0_0 : List (S79)) (a0_1 : Int) (a0_2 : Int) (l1_0 : List (S79)) (a1_1 : Int) (a1_2 : Int) : Lim (fun k => laws_eqPlan.f k l0_0 a0_1 a0_2 l1_0 a1_1 a1_2) (laws_eqPlan.F l0_0 a0_1 a0_2 l1_0 a1_1 a1_2) := Lim.of (fun k => laws_eqPlan.mono l0_0 a0_1 a0_2 l1_0 a1_1 a1_2 k)
theorem laws_eqPlan.F_eq (l0_0 : List (S79)) (a0_1 : Int) (a0_2 : Int) (l1_0 : List (S79)) (a1_1 : Int) (a1_2 : Int) : laws_eqPlan.F l0_0 a0_1 a0_2 l1_0 a1_1 a1_2 = (laws_eqHungS.F l0_0 l1_0).bind fun t152 => (if t152 = true then (if a0_1 = a1_1 then (if a0_2 = a1_2 then (some true) else (some false)) else (some false)) else (some false)) := by
  refine Lim.eq (g := fun k => laws_eqPlan.f k l0_0 a0_1 a0_2 l1_0 a1_1 a1_2) ?_
  unfold laws_eqPlan.f
  repeat' first
    | with_reducible exact Lim.const _
    | with_reducible exact laws_eqHungS.F_lim _ _
    | with_reducible refine Lim.ite ?_ ?_
    | with_reducible refine Lim.bind ?_ (fun _ => ?_)

noncomputable def laws_markSpotS.L0 (x0 : List (S129)) (x1 : Int) (x5 : Int) : Option (Int × (List (S129))) := lim (fun k => laws_markSpotS.l0 k x0 x1 x5)
theorem laws_markSpotS.L0_lim (x0 : List (S129)) (x1 : Int) (x5 : Int) : Lim (fun k => laws_markSpotS.l0 k x0 x1 x5) (laws_markSpotS.L0 x0 x1 x5) := Lim.of (fun k => (laws_markSpotS.mono_l k) x0 x1 x5)
noncomputable def laws_markSpotS.F (l0 : List (S129)) (a1 : Int) : Option (Int × (List (S129))) := lim (fun k => laws_markSpotS.f k l0 a1)
theorem laws_markSpotS.F_lim (l0 : List (S129)) (a1 : Int) : Lim (fun k => laws_markSpotS.f k l0 a1) (laws_markSpotS.F l0 a1) := Lim.of (fun k => laws_markSpotS.mono l0 a1 k)
theorem laws_markSpotS.L0_eq (x0 : List (S129)) (x1 : Int) (x5 : Int) : laws_markSpotS.L0 x0 x1 x5 = if x5 < (x0.length : Int) then (if 0 ≤ x5 then ((some (x0.set (x5 : Int).toNat (⟨x1, (rd_T129 x0 x5).f1⟩ : S129) : List (S129))).bind fun y153 => (laws_markSpotS.L0 (y153.set (x5 : Int).toNat (⟨(rd_T129 y153 x5).f0, wrap64 (x1 + 1)⟩ : S129)) (wrap64 ((wrap64 (x1 + 1)) + 1)) (wrap64 (x5 + 1)))) else (none)) else (some (x1, x0)) := by
  refine Lim.step (f := fun k => if x5 < (x0.length : Int) then (if 0 ≤ x5 then ((some (x0.set (x5 : Int).toNat (⟨x1, (rd_T129 x0 x5).f1⟩ : S129) : List (S129))).bind fun y153 => (laws_markSpotS.l0 k (y153.set (x5 : Int).toNat (⟨(rd_T129 y153 x5).f0, wrap64 (x1 + 1)⟩ : S129)) (wrap64 ((wrap64 (x1 + 1)) + 1)) (wrap64 (x5 + 1)))) else (none)) else (some (x1, x0))) (fun k => (laws_markSpotS.mono_l k) x0 x1 x5) (fun k => by simp only [laws_markSpotS.l0]) ?_
  repeat' first
    | with_reducible exact Lim.const _
    | with_reducible exact laws_markSpotS.L0_lim _ _ _
    | with_reducible refine Lim.ite ?_ ?_
    | with_reducible refine Lim.bind ?_ (fun _ => ?_)
theorem laws_markSpotS.F_eq (l0 : List (S129)) (a1 : Int) : laws_markSpotS.F l0 a1 = laws_markSpotS.L0 l0 a1 0 := by
  refine Lim.eq (g := fun k => laws_markSpotS.f k l0 a1) ?_
  unfold laws_markSpotS.f
  repeat' first
    | with_reducible exact Lim.const _
    | with_reducible exact laws_markSpotS.L0_lim _ _ _
    | with_reducible refine Lim.ite ?_ ?_
    | with_reducible refine Lim.bind ?_ (fun _ => ?_)

noncomputable def laws_markText.L0 (x0 : Int) (x3 : ByteArray) : Option (ByteArray) := lim (fun k => laws_markText.l0 k x0 x3)
theorem laws_markText.L0_lim (x0 : Int) (x3 : ByteArray) : Lim (fun k => laws_markText.l0 k x0 x3) (laws_markText.L0 x0 x3) := Lim.of (fun k => (laws_markText.mono_l k) x0 x3)
noncomputable def laws_markText.F (a0 : Int) : Option (ByteArray) := lim (fun k => laws_markText.f k a0)
theorem laws_markText.F_lim (a0 : Int) : Lim (fun k => laws_markText.f k a0) (laws_markText.F a0) := Lim.of (fun k => laws_markText.mono a0 k)
theorem laws_markText.L0_eq (x0 : Int) (x3 : ByteArray) : laws_markText.L0 x0 x3 = if x0 > 0 then ((some (([(wrap64 (48 + (Int.tmod x0 10))) % 256] : List Int) : List Int)).bind fun y155 => (if (strOfNums y155).size + x3.size ≤ 9223372036854775807 then (laws_markText.L0 (wrap64 (Int.tdiv x0 10)) ((strOfNums y155) ++ x3)) else (none))) else (if 1 + x3.size ≤ 9223372036854775807 then (some ((⟨#[109]⟩ : ByteArray) ++ x3)) else (none)) := by
  refine Lim.step (f := fun k => if x0 > 0 then ((some (([(wrap64 (48 + (Int.tmod x0 10))) % 256] : List Int) : List Int)).bind fun y155 => (if (strOfNums y155).size + x3.size ≤ 9223372036854775807 then (laws_markText.l0 k (wrap64 (Int.tdiv x0 10)) ((strOfNums y155) ++ x3)) else (none))) else (if 1 + x3.size ≤ 9223372036854775807 then (some ((⟨#[109]⟩ : ByteArray) ++ x3)) else (none))) (fun k => (laws_markText.mono_l k) x0 x3) (fun k => by simp only [laws_markText.l0]) ?_
  repeat' first
    | with_reducible exact Lim.const _
    | with_reducible exact laws_markText.L0_lim _ _
    | with_reducible refine Lim.ite ?_ ?_
    | with_reducible refine Lim.bind ?_ (fun _ => ?_)
theorem laws_markText.F_eq (a0 : Int) : laws_markText.F a0 = if a0 ≤ 0 then (some (⟨#[109, 48]⟩ : ByteArray)) else (laws_markText.L0 a0 (⟨#[]⟩ : ByteArray)) := by
  refine Lim.eq (g := fun k => laws_markText.f k a0) ?_
  unfold laws_markText.f
  repeat' first
    | with_reducible exact Lim.const _
    | with_reducible exact laws_markText.L0_lim _ _
    | with_reducible refine Lim.ite ?_ ?_
    | with_reducible refine Lim.bind ?_ (fun _ => ?_)

noncomputable def laws_markHungS.L0 (x0 : List (S79)) (x1 : Int) (x2 : Int) : Option (Int × (List (S79))) := lim (fun k => laws_markHungS.l0 k x0 x1 x2)
theorem laws_markHungS.L0_lim (x0 : List (S79)) (x1 : Int) (x2 : Int) : Lim (fun k => laws_markHungS.l0 k x0 x1 x2) (laws_markHungS.L0 x0 x1 x2) := Lim.of (fun k => (laws_markHungS.mono_l k) x0 x1 x2)
noncomputable def laws_markHungS.F (l0 : List (S79)) (a1 : Int) : Option (Int × (List (S79))) := lim (fun k => laws_markHungS.f k l0 a1)
theorem laws_markHungS.F_lim (l0 : List (S79)) (a1 : Int) : Lim (fun k => laws_markHungS.f k l0 a1) (laws_markHungS.F l0 a1) := Lim.of (fun k => laws_markHungS.mono l0 a1 k)
theorem laws_markHungS.L0_eq (x0 : List (S79)) (x1 : Int) (x2 : Int) : laws_markHungS.L0 x0 x1 x2 = if x2 < (x0.length : Int) then (if 0 ≤ x2 then ((laws_markText.F x1).bind fun t1 => ((laws_markSpotS.F ((rd_T79 x0 x2).f1) (wrap64 (x1 + 1))).bind fun bt1 => (laws_markHungS.L0 (x0.set (x2 : Int).toNat (⟨t1, bt1.2, (Int.tmod bt1.1 3) == 0⟩ : S79)) (wrap64 (bt1.1 + 1)) (wrap64 (x2 + 1))))) else (none)) else (some (x1, x0)) := by
  refine Lim.step (f := fun k => if x2 < (x0.length : Int) then (if 0 ≤ x2 then ((laws_markText.f k x1).bind fun t1 => ((laws_markSpotS.f k ((rd_T79 x0 x2).f1) (wrap64 (x1 + 1))).bind fun bt1 => (laws_markHungS.l0 k (x0.set (x2 : Int).toNat (⟨t1, bt1.2, (Int.tmod bt1.1 3) == 0⟩ : S79)) (wrap64 (bt1.1 + 1)) (wrap64 (x2 + 1))))) else (none)) else (some (x1, x0))) (fun k => (laws_markHungS.mono_l k) x0 x1 x2) (fun k => by simp only [laws_markHungS.l0]) ?_
  repeat' first
    | with_reducible exact Lim.const _
    | with_reducible exact laws_markHungS.L0_lim _ _ _
    | with_reducible exact laws_markSpotS.F_lim _ _
    | with_reducible exact laws_markText.F_lim _
    | with_reducible refine Lim.ite ?_ ?_
    | with_reducible refine Lim.bind ?_ (fun _ => ?_)
theorem laws_markHungS.F_eq (l0 : List (S79)) (a1 : Int) : laws_markHungS.F l0 a1 = laws_markHungS.L0 l0 a1 0 := by
  refine Lim.eq (g := fun k => laws_markHungS.f k l0 a1) ?_
  unfold laws_markHungS.f
  repeat' first
    | with_reducible exact Lim.const _
    | with_reducible exact laws_markHungS.L0_lim _ _ _
    | with_reducible refine Lim.ite ?_ ?_
    | with_reducible refine Lim.bind ?_ (fun _ => ?_)

noncomputable def laws_markPlan.F (l0_0 : List (S79)) (a0_1 : Int) (a0_2 : Int) (a1 : Int) : Option (Int × (List (S79))) := lim (fun k => laws_markPlan.f k l0_0 a0_1 a0_2 a1)
theorem laws_markPlan.F_lim (l0_0 : List (S79)) (a0_1 : Int) (a0_2 : Int) (a1 : Int) : Lim (fun k => laws_markPlan.f k l0_0 a0_1 a0_2 a1) (laws_markPlan.F l0_0 a0_1 a0_2 a1) := Lim.of (fun k => laws_markPlan.mono l0_0 a0_1 a0_2 a1 k)
theorem laws_markPlan.F_eq (l0_0 : List (S79)) (a0_1 : Int) (a0_2 : Int) (a1 : Int) : laws_markPlan.F l0_0 a0_1 a0_2 a1 = laws_markHungS.F l0_0 a1 := by
  refine Lim.eq (g := fun k => laws_markPlan.f k l0_0 a0_1 a0_2 a1) ?_
  unfold laws_markPlan.f
  repeat' first
    | with_reducible exact Lim.const _
    | with_reducible exact laws_markHungS.F_lim _ _
    | with_reducible refine Lim.ite ?_ ?_
    | with_reducible refine Lim.bind ?_ (fun _ => ?_)

noncomputable def spec_l17Find.L0 (x0 : List (S64)) (x1 : ByteArray) (x5 : Int) : Option (Int) := lim (fun k => spec_l17Find.l0 k x0 x1 x5)
theorem spec_l17Find.L0_lim (x0 : List (S64)) (x1 : ByteArray) (x5 : Int) : Lim (fun k => spec_l17Find.l0 k x0 x1 x5) (spec_l17Find.L0 x0 x1 x5) := Lim.of (fun k => (spec_l17Find.mono_l k) x0 x1 x5)
noncomputable def spec_l17Find.F (l0 : List (S64)) (a1 : ByteArray) : Option (Int) := lim (fun k => spec_l17Find.f k l0 a1)
theorem spec_l17Find.F_lim (l0 : List (S64)) (a1 : ByteArray) : Lim (fun k => spec_l17Find.f k l0 a1) (spec_l17Find.F l0 a1) := Lim.of (fun k => spec_l17Find.mono l0 a1 k)
theorem spec_l17Find.L0_eq (x0 : List (S64)) (x1 : ByteArray) (x5 : Int) : spec_l17Find.L0 x0 x1 x5 = if x5 < (((rd_T64 x0 0).f0).length : Int) then (if 0 ≤ x5 then (if ((rd_T79 ((rd_T64 x0 0).f0) x5).f0).toList = x1.toList then (some x5) else (spec_l17Find.L0 x0 x1 (wrap64 (x5 + 1)))) else (none)) else (some (-1)) := by
  refine Lim.step (f := fun k => if x5 < (((rd_T64 x0 0).f0).length : Int) then (if 0 ≤ x5 then (if ((rd_T79 ((rd_T64 x0 0).f0) x5).f0).toList = x1.toList then (some x5) else (spec_l17Find.l0 k x0 x1 (wrap64 (x5 + 1)))) else (none)) else (some (-1))) (fun k => (spec_l17Find.mono_l k) x0 x1 x5) (fun k => by simp only [spec_l17Find.l0]) ?_
  repeat' first
    | with_reducible exact Lim.const _
    | with_reducible exact spec_l17Find.L0_lim _ _ _
    | with_reducible refine Lim.ite ?_ ?_
    | with_reducible refine Lim.bind ?_ (fun _ => ?_)
theorem spec_l17Find.F_eq (l0 : List (S64)) (a1 : ByteArray) : spec_l17Find.F l0 a1 = if 0 < (l0.length : Int) then (spec_l17Find.L0 l0 a1 0) else (none) := by
  refine Lim.eq (g := fun k => spec_l17Find.f k l0 a1) ?_
  unfold spec_l17Find.f
  repeat' first
    | with_reducible exact Lim.const _
    | with_reducible exact spec_l17Find.L0_lim _ _ _
    | with_reducible refine Lim.ite ?_ ?_
    | with_reducible refine Lim.bind ?_ (fun _ => ?_)

noncomputable def spec_IsName.J0 (x0 : ByteArray) (x16 : Bool) : Option (Bool) := lim (fun k => spec_IsName.j0 k x0 x16)
theorem spec_IsName.J0_lim (x0 : ByteArray) (x16 : Bool) : Lim (fun k => spec_IsName.j0 k x0 x16) (spec_IsName.J0 x0 x16) := Lim.of (fun k => (spec_IsName.mono_l k).1 x0 x16)
noncomputable def spec_IsName.L0 (x0 : ByteArray) (x3 : Int) : Option (Bool) := lim (fun k => spec_IsName.l0 k x0 x3)
theorem spec_IsName.L0_lim (x0 : ByteArray) (x3 : Int) : Lim (fun k => spec_IsName.l0 k x0 x3) (spec_IsName.L0 x0 x3) := Lim.of (fun k => (spec_IsName.mono_l k).2 x0 x3)
noncomputable def spec_IsName.F (a0 : ByteArray) : Option (Bool) := lim (fun k => spec_IsName.f k a0)
theorem spec_IsName.F_lim (a0 : ByteArray) : Lim (fun k => spec_IsName.f k a0) (spec_IsName.F a0) := Lim.of (fun k => spec_IsName.mono a0 k)
theorem spec_IsName.J0_eq (x0 : ByteArray) (x16 : Bool) : spec_IsName.J0 x0 x16 = if x16 = true then (some false) else (spec_IsName.L0 x0 0) := by
  refine Lim.step (f := fun k => if x16 = true then (some false) else (spec_IsName.l0 k x0 0)) (fun k => (spec_IsName.mono_l k).1 x0 x16) (fun k => by simp only [spec_IsName.j0]) ?_
  repeat' first
    | with_reducible exact Lim.const _
    | with_reducible exact spec_IsName.L0_lim _ _
    | with_reducible refine Lim.ite ?_ ?_
    | with_reducible refine Lim.bind ?_ (fun _ => ?_)
theorem spec_IsName.L0_eq (x0 : ByteArray) (x3 : Int) : spec_IsName.L0 x0 x3 = if x3 < (x0.size : Int) then (if 0 ≤ x3 then ((spec_l01Small.f (bt x0 x3)).bind fun t163 => (if t163 = true then (spec_IsName.L0 x0 (wrap64 (x3 + 1))) else ((spec_l01Digit.f (bt x0 x3)).bind fun t164 => (if t164 = true then (spec_IsName.L0 x0 (wrap64 (x3 + 1))) else (if (bt x0 x3) = 45 then (spec_IsName.L0 x0 (wrap64 (x3 + 1))) else (some false)))))) else (none)) else (some true) := by
  refine Lim.step (f := fun k => if x3 < (x0.size : Int) then (if 0 ≤ x3 then ((spec_l01Small.f (bt x0 x3)).bind fun t163 => (if t163 = true then (spec_IsName.l0 k x0 (wrap64 (x3 + 1))) else ((spec_l01Digit.f (bt x0 x3)).bind fun t164 => (if t164 = true then (spec_IsName.l0 k x0 (wrap64 (x3 + 1))) else (if (bt x0 x3) = 45 then (spec_IsName.l0 k x0 (wrap64 (x3 + 1))) else (some false)))))) else (none)) else (some true)) (fun k => (spec_IsName.mono_l k).2 x0 x3) (fun k => by simp only [spec_IsName.l0]) ?_
  repeat' first
    | with_reducible exact Lim.const _
    | with_reducible exact spec_IsName.L0_lim _ _
    | with_reducible refine Lim.ite ?_ ?_
    | with_reducible refine Lim.bind ?_ (fun _ => ?_)
theorem spec_IsName.F_eq (a0 : ByteArray) : spec_IsName.F a0 = if a0.toList = ([] : List UInt8) then (spec_IsName.J0 a0 true) else (if (a0.size : Int) > 12 then (spec_IsName.J0 a0 true) else (if 0 < (a0.size : Int) then ((spec_l01Small.f (bt a0 0)).bind fun t162 => (spec_IsName.J0 a0 (!t162))) else (none))) := by
  refine Lim.eq (g := fun k => spec_IsName.f k a0) ?_
  unfold spec_IsName.f
  repeat' first
    | with_reducible exact Lim.const _
    | with_reducible exact spec_IsName.J0_lim _ _
    | with_reducible refine Lim.ite ?_ ?_
    | with_reducible refine Lim.bind ?_ (fun _ => ?_)

noncomputable def spec_l13Meet.J0 (x30 : Bool) (x185000 : Int) (x185001 : Int) (x186000 : Int) (x186001 : Int) (x187000 : Int) (x187001 : Int) (x188000 : Int) (x188001 : Int) : Option (Bool) := lim (fun k => spec_l13Meet.j0 k x30 x185000 x185001 x186000 x186001 x187000 x187001 x188000 x188001)
theorem spec_l13Meet.J0_lim (x30 : Bool) (x185000 : Int) (x185001 : Int) (x186000 : Int) (x186001 : Int) (x187000 : Int) (x187001 : Int) (x188000 : Int) (x188001 : Int) : Lim (fun k => spec_l13Meet.j0 k x30 x185000 x185001 x186000 x186001 x187000 x187001 x188000 x188001) (spec_l13Meet.J0 x30 x185000 x185001 x186000 x186001 x187000 x187001 x188000 x188001) := Lim.of (fun k => (spec_l13Meet.mono_l k) x30 x185000 x185001 x186000 x186001 x187000 x187001 x188000 x188001)
noncomputable def spec_l13Meet.F (a0_0 : Int) (a0_1 : Int) (a1_0 : Int) (a1_1 : Int) (a2_0 : Int) (a2_1 : Int) (a3_0 : Int) (a3_1 : Int) : Option (Bool) := lim (fun k => spec_l13Meet.f k a0_0 a0_1 a1_0 a1_1 a2_0 a2_1 a3_0 a3_1)
theorem spec_l13Meet.F_lim (a0_0 : Int) (a0_1 : Int) (a1_0 : Int) (a1_1 : Int) (a2_0 : Int) (a2_1 : Int) (a3_0 : Int) (a3_1 : Int) : Lim (fun k => spec_l13Meet.f k a0_0 a0_1 a1_0 a1_1 a2_0 a2_1 a3_0 a3_1) (spec_l13Meet.F a0_0 a0_1 a1_0 a1_1 a2_0 a2_1 a3_0 a3_1) := Lim.of (fun k => spec_l13Meet.mono a0_0 a0_1 a1_0 a1_1 a2_0 a2_1 a3_0 a3_1 k)
theorem spec_l13Meet.J0_eq (x30 : Bool) (x185000 : Int) (x185001 : Int) (x186000 : Int) (x186001 : Int) (x187000 : Int) (x187001 : Int) (x188000 : Int) (x188001 : Int) : spec_l13Meet.J0 x30 x185000 x185001 x186000 x186001 x187000 x187001 x188000 x188001 = if x30 = true then (some true) else ((spec_l13Sides.f x185000 x185001 x186000 x186001 x187000 x187001 x188000 x188001).bind fun t192 => (if t192 = true then ((spec_l13Sides.f x187000 x187001 x188000 x188001 x185000 x185001 x186000 x186001).bind fun t193 => (some t193)) else (some false))) := by
  refine Lim.step (f := fun k => if x30 = true then (some true) else ((spec_l13Sides.f x185000 x185001 x186000 x186001 x187000 x187001 x188000 x188001).bind fun t192 => (if t192 = true then ((spec_l13Sides.f x187000 x187001 x188000 x188001 x185000 x185001 x186000 x186001).bind fun t193 => (some t193)) else (some false)))) (fun k => (spec_l13Meet.mono_l k) x30 x185000 x185001 x186000 x186001 x187000 x187001 x188000 x188001) (fun k => by simp only [spec_l13Meet.j0]) ?_
  repeat' first
    | with_reducible exact Lim.const _
    | with_reducible refine Lim.ite ?_ ?_
    | with_reducible refine Lim.bind ?_ (fun _ => ?_)
theorem spec_l13Meet.F_eq (a0_0 : Int) (a0_1 : Int) (a1_0 : Int) (a1_1 : Int) (a2_0 : Int) (a2_1 : Int) (a3_0 : Int) (a3_1 : Int) : spec_l13Meet.F a0_0 a0_1 a1_0 a1_1 a2_0 a2_1 a3_0 a3_1 = (spec_l13On.f a0_0 a0_1 a1_0 a1_1 a2_0 a2_1).bind fun t188 => (if t188 = true then (spec_l13Meet.J0 true a0_0 a0_1 a1_0 a1_1 a2_0 a2_1 a3_0 a3_1) else ((spec_l13On.f a0_0 a0_1 a1_0 a1_1 a3_0 a3_1).bind fun t189 => (if t189 = true then (spec_l13Meet.J0 true a0_0 a0_1 a1_0 a1_1 a2_0 a2_1 a3_0 a3_1) else ((spec_l13On.f a2_0 a2_1 a3_0 a3_1 a0_0 a0_1).bind fun t190 => (if t190 = true then (spec_l13Meet.J0 true a0_0 a0_1 a1_0 a1_1 a2_0 a2_1 a3_0 a3_1) else ((spec_l13On.f a2_0 a2_1 a3_0 a3_1 a1_0 a1_1).bind fun t191 => (spec_l13Meet.J0 t191 a0_0 a0_1 a1_0 a1_1 a2_0 a2_1 a3_0 a3_1))))))) := by
  refine Lim.eq (g := fun k => spec_l13Meet.f k a0_0 a0_1 a1_0 a1_1 a2_0 a2_1 a3_0 a3_1) ?_
  unfold spec_l13Meet.f
  repeat' first
    | with_reducible exact Lim.const _
    | with_reducible exact spec_l13Meet.J0_lim _ _ _ _ _ _ _ _ _
    | with_reducible refine Lim.ite ?_ ?_
    | with_reducible refine Lim.bind ?_ (fun _ => ?_)

noncomputable def spec_l13Twice.L0 (x0 : List (S129)) (x3 : Int) (x4 : Int) : Option (Int) := lim (fun k => spec_l13Twice.l0 k x0 x3 x4)
theorem spec_l13Twice.L0_lim (x0 : List (S129)) (x3 : Int) (x4 : Int) : Lim (fun k => spec_l13Twice.l0 k x0 x3 x4) (spec_l13Twice.L0 x0 x3 x4) := Lim.of (fun k => (spec_l13Twice.mono_l k) x0 x3 x4)
noncomputable def spec_l13Twice.F (l0 : List (S129)) : Option (Int) := lim (fun k => spec_l13Twice.f k l0)
theorem spec_l13Twice.F_lim (l0 : List (S129)) : Lim (fun k => spec_l13Twice.f k l0) (spec_l13Twice.F l0) := Lim.of (fun k => spec_l13Twice.mono l0 k)
theorem spec_l13Twice.L0_eq (x0 : List (S129)) (x3 : Int) (x4 : Int) : spec_l13Twice.L0 x0 x3 x4 = if x4 < (x0.length : Int) then (if (x0.length : Int) = 0 then (none) else (if 0 ≤ (Int.tmod (wrap64 (x4 + 1)) (x0.length : Int)) then (if (Int.tmod (wrap64 (x4 + 1)) (x0.length : Int)) < (x0.length : Int) then (if 0 ≤ x4 then (spec_l13Twice.L0 x0 (wrap64 (x3 + (wrap64 ((wrap64 (((rd_T129 x0 x4).f0) * ((rd_T129 x0 (Int.tmod (wrap64 (x4 + 1)) (x0.length : Int))).f1))) - (wrap64 (((rd_T129 x0 (Int.tmod (wrap64 (x4 + 1)) (x0.length : Int))).f0) * ((rd_T129 x0 x4).f1))))))) (wrap64 (x4 + 1))) else (none)) else (none)) else (none))) else (some x3) := by
  refine Lim.step (f := fun k => if x4 < (x0.length : Int) then (if (x0.length : Int) = 0 then (none) else (if 0 ≤ (Int.tmod (wrap64 (x4 + 1)) (x0.length : Int)) then (if (Int.tmod (wrap64 (x4 + 1)) (x0.length : Int)) < (x0.length : Int) then (if 0 ≤ x4 then (spec_l13Twice.l0 k x0 (wrap64 (x3 + (wrap64 ((wrap64 (((rd_T129 x0 x4).f0) * ((rd_T129 x0 (Int.tmod (wrap64 (x4 + 1)) (x0.length : Int))).f1))) - (wrap64 (((rd_T129 x0 (Int.tmod (wrap64 (x4 + 1)) (x0.length : Int))).f0) * ((rd_T129 x0 x4).f1))))))) (wrap64 (x4 + 1))) else (none)) else (none)) else (none))) else (some x3)) (fun k => (spec_l13Twice.mono_l k) x0 x3 x4) (fun k => by simp only [spec_l13Twice.l0]) ?_
  repeat' first
    | with_reducible exact Lim.const _
    | with_reducible exact spec_l13Twice.L0_lim _ _ _
    | with_reducible refine Lim.ite ?_ ?_
    | with_reducible refine Lim.bind ?_ (fun _ => ?_)
theorem spec_l13Twice.F_eq (l0 : List (S129)) : spec_l13Twice.F l0 = spec_l13Twice.L0 l0 0 0 := by
  refine Lim.eq (g := fun k => spec_l13Twice.f k l0) ?_
  unfold spec_l13Twice.f
  repeat' first
    | with_reducible exact Lim.const _
    | with_reducible exact spec_l13Twice.L0_lim _ _ _
    | with_reducible refine Lim.ite ?_ ?_
    | with_reducible refine Lim.bind ?_ (fun _ => ?_)

noncomputable def spec_l13Ok.L0 (x0 : List (S129)) (x3 : Int) (x4 : Int) : Option (Bool) := lim (fun k => spec_l13Ok.l0 k x0 x3 x4)
theorem spec_l13Ok.L0_lim (x0 : List (S129)) (x3 : Int) (x4 : Int) : Lim (fun k => spec_l13Ok.l0 k x0 x3 x4) (spec_l13Ok.L0 x0 x3 x4) := Lim.of (fun k => (spec_l13Ok.mono_l k).1 x0 x3 x4)
noncomputable def spec_l13Ok.L1 (x0 : List (S129)) (x3 : Int) (x5 : Int) : Option (Bool) := lim (fun k => spec_l13Ok.l1 k x0 x3 x5)
theorem spec_l13Ok.L1_lim (x0 : List (S129)) (x3 : Int) (x5 : Int) : Lim (fun k => spec_l13Ok.l1 k x0 x3 x5) (spec_l13Ok.L1 x0 x3 x5) := Lim.of (fun k => (spec_l13Ok.mono_l k).2.1 x0 x3 x5)
noncomputable def spec_l13Ok.L2 (x0 : List (S129)) (x3 : Int) (x5 : Int) (x8 : Int) (x206000 : Int) (x206001 : Int) (x208000 : Int) (x208001 : Int) : Option (Bool) := lim (fun k => spec_l13Ok.l2 k x0 x3 x5 x8 x206000 x206001 x208000 x208001)
theorem spec_l13Ok.L2_lim (x0 : List (S129)) (x3 : Int) (x5 : Int) (x8 : Int) (x206000 : Int) (x206001 : Int) (x208000 : Int) (x208001 : Int) : Lim (fun k => spec_l13Ok.l2 k x0 x3 x5 x8 x206000 x206001 x208000 x208001) (spec_l13Ok.L2 x0 x3 x5 x8 x206000 x206001 x208000 x208001) := Lim.of (fun k => (spec_l13Ok.mono_l k).2.2 x0 x3 x5 x8 x206000 x206001 x208000 x208001)
noncomputable def spec_l13Ok.F (l0 : List (S129)) : Option (Bool) := lim (fun k => spec_l13Ok.f k l0)
theorem spec_l13Ok.F_lim (l0 : List (S129)) : Lim (fun k => spec_l13Ok.f k l0) (spec_l13Ok.F l0) := Lim.of (fun k => spec_l13Ok.mono l0 k)
theorem spec_l13Ok.L0_eq (x0 : List (S129)) (x3 : Int) (x4 : Int) : spec_l13Ok.L0 x0 x3 x4 = if x4 < x3 then (if 0 ≤ x4 then (if x4 < (x0.length : Int) then ((spec_l00In.f ((rd_T129 x0 x4).f0) 0 2000).bind fun t200 => (if t200 = true then ((spec_l00In.f ((rd_T129 x0 x4).f1) 0 2000).bind fun t202 => (if t202 = true then (spec_l13Ok.L0 x0 x3 (wrap64 (x4 + 1))) else (some false))) else (some false))) else (none)) else (none)) else (spec_l13Ok.L1 x0 x3 0) := by
  refine Lim.step (f := fun k => if x4 < x3 then (if 0 ≤ x4 then (if x4 < (x0.length : Int) then ((spec_l00In.f ((rd_T129 x0 x4).f0) 0 2000).bind fun t200 => (if t200 = true then ((spec_l00In.f ((rd_T129 x0 x4).f1) 0 2000).bind fun t202 => (if t202 = true then (spec_l13Ok.l0 k x0 x3 (wrap64 (x4 + 1))) else (some false))) else (some false))) else (none)) else (none)) else (spec_l13Ok.l1 k x0 x3 0)) (fun k => (spec_l13Ok.mono_l k).1 x0 x3 x4) (fun k => by simp only [spec_l13Ok.l0]) ?_
  repeat' first
    | with_reducible exact Lim.const _
    | with_reducible exact spec_l13Ok.L0_lim _ _ _
    | with_reducible exact spec_l13Ok.L1_lim _ _ _
    | with_reducible refine Lim.ite ?_ ?_
    | with_reducible refine Lim.bind ?_ (fun _ => ?_)
theorem spec_l13Ok.L1_eq (x0 : List (S129)) (x3 : Int) (x5 : Int) : spec_l13Ok.L1 x0 x3 x5 = if x5 < x3 then (if 0 ≤ x5 then (if x5 < (x0.length : Int) then (if x3 = 0 then (none) else (if 0 ≤ (Int.tmod (wrap64 (x5 + 1)) x3) then (if (Int.tmod (wrap64 (x5 + 1)) x3) < (x0.length : Int) then (if 0 ≤ (Int.tmod (wrap64 (x5 + 2)) x3) then (if (Int.tmod (wrap64 (x5 + 2)) x3) < (x0.length : Int) then ((spec_l13Cross.f ((rd_T129 x0 x5).f0) ((rd_T129 x0 x5).f1) ((rd_T129 x0 (Int.tmod (wrap64 (x5 + 1)) x3)).f0) ((rd_T129 x0 (Int.tmod (wrap64 (x5 + 1)) x3)).f1) ((rd_T129 x0 (Int.tmod (wrap64 (x5 + 2)) x3)).f0) ((rd_T129 x0 (Int.tmod (wrap64 (x5 + 2)) x3)).f1)).bind fun t209 => (if t209 = 0 then (some false) else (spec_l13Ok.L2 x0 x3 x5 (wrap64 (x5 + 2)) ((rd_T129 x0 x5).f0) ((rd_T129 x0 x5).f1) ((rd_T129 x0 (Int.tmod (wrap64 (x5 + 1)) x3)).f0) ((rd_T129 x0 (Int.tmod (wrap64 (x5 + 1)) x3)).f1)))) else (none)) else (none)) else (none)) else (none))) else (none)) else (none)) else ((spec_l13Twice.F x0).bind fun t203 => (some (decide (t203 > 0)))) := by
  refine Lim.step (f := fun k => if x5 < x3 then (if 0 ≤ x5 then (if x5 < (x0.length : Int) then (if x3 = 0 then (none) else (if 0 ≤ (Int.tmod (wrap64 (x5 + 1)) x3) then (if (Int.tmod (wrap64 (x5 + 1)) x3) < (x0.length : Int) then (if 0 ≤ (Int.tmod (wrap64 (x5 + 2)) x3) then (if (Int.tmod (wrap64 (x5 + 2)) x3) < (x0.length : Int) then ((spec_l13Cross.f ((rd_T129 x0 x5).f0) ((rd_T129 x0 x5).f1) ((rd_T129 x0 (Int.tmod (wrap64 (x5 + 1)) x3)).f0) ((rd_T129 x0 (Int.tmod (wrap64 (x5 + 1)) x3)).f1) ((rd_T129 x0 (Int.tmod (wrap64 (x5 + 2)) x3)).f0) ((rd_T129 x0 (Int.tmod (wrap64 (x5 + 2)) x3)).f1)).bind fun t209 => (if t209 = 0 then (some false) else (spec_l13Ok.l2 k x0 x3 x5 (wrap64 (x5 + 2)) ((rd_T129 x0 x5).f0) ((rd_T129 x0 x5).f1) ((rd_T129 x0 (Int.tmod (wrap64 (x5 + 1)) x3)).f0) ((rd_T129 x0 (Int.tmod (wrap64 (x5 + 1)) x3)).f1)))) else (none)) else (none)) else (none)) else (none))) else (none)) else (none)) else ((spec_l13Twice.f k x0).bind fun t203 => (some (decide (t203 > 0))))) (fun k => (spec_l13Ok.mono_l k).2.1 x0 x3 x5) (fun k => by simp only [spec_l13Ok.l1]) ?_
  repeat' first
    | with_reducible exact Lim.const _
    | with_reducible exact spec_l13Ok.L2_lim _ _ _ _ _ _ _ _
    | with_reducible exact spec_l13Twice.F_lim _
    | with_reducible refine Lim.ite ?_ ?_
    | with_reducible refine Lim.bind ?_ (fun _ => ?_)
theorem spec_l13Ok.L2_eq (x0 : List (S129)) (x3 : Int) (x5 : Int) (x8 : Int) (x206000 : Int) (x206001 : Int) (x208000 : Int) (x208001 : Int) : spec_l13Ok.L2 x0 x3 x5 x8 x206000 x206001 x208000 x208001 = if x8 < x3 then (if x5 > 0 then (if 0 ≤ x8 then (if x8 < (x0.length : Int) then (if x3 = 0 then (none) else (if 0 ≤ (Int.tmod (wrap64 (x8 + 1)) x3) then (if (Int.tmod (wrap64 (x8 + 1)) x3) < (x0.length : Int) then ((spec_l13Meet.F x206000 x206001 x208000 x208001 ((rd_T129 x0 x8).f0) ((rd_T129 x0 x8).f1) ((rd_T129 x0 (Int.tmod (wrap64 (x8 + 1)) x3)).f0) ((rd_T129 x0 (Int.tmod (wrap64 (x8 + 1)) x3)).f1)).bind fun t212 => (if t212 = true then (some false) else (spec_l13Ok.L2 x0 x3 x5 (wrap64 (x8 + 1)) x206000 x206001 x208000 x208001))) else (none)) else (none))) else (none)) else (none)) else (if x8 < (wrap64 (x3 - 1)) then (if 0 ≤ x8 then (if x8 < (x0.length : Int) then (if x3 = 0 then (none) else (if 0 ≤ (Int.tmod (wrap64 (x8 + 1)) x3) then (if (Int.tmod (wrap64 (x8 + 1)) x3) < (x0.length : Int) then ((spec_l13Meet.F x206000 x206001 x208000 x208001 ((rd_T129 x0 x8).f0) ((rd_T129 x0 x8).f1) ((rd_T129 x0 (Int.tmod (wrap64 (x8 + 1)) x3)).f0) ((rd_T129 x0 (Int.tmod (wrap64 (x8 + 1)) x3)).f1)).bind fun t215 => (if t215 = true then (some false) else (spec_l13Ok.L2 x0 x3 x5 (wrap64 (x8 + 1)) x206000 x206001 x208000 x208001))) else (none)) else (none))) else (none)) else (none)) else (spec_l13Ok.L2 x0 x3 x5 (wrap64 (x8 + 1)) x206000 x206001 x208000 x208001))) else (spec_l13Ok.L1 x0 x3 (wrap64 (x5 + 1))) := by
  refine Lim.step (f := fun k => if x8 < x3 then (if x5 > 0 then (if 0 ≤ x8 then (if x8 < (x0.length : Int) then (if x3 = 0 then (none) else (if 0 ≤ (Int.tmod (wrap64 (x8 + 1)) x3) then (if (Int.tmod (wrap64 (x8 + 1)) x3) < (x0.length : Int) then ((spec_l13Meet.f k x206000 x206001 x208000 x208001 ((rd_T129 x0 x8).f0) ((rd_T129 x0 x8).f1) ((rd_T129 x0 (Int.tmod (wrap64 (x8 + 1)) x3)).f0) ((rd_T129 x0 (Int.tmod (wrap64 (x8 + 1)) x3)).f1)).bind fun t212 => (if t212 = true then (some false) else (spec_l13Ok.l2 k x0 x3 x5 (wrap64 (x8 + 1)) x206000 x206001 x208000 x208001))) else (none)) else (none))) else (none)) else (none)) else (if x8 < (wrap64 (x3 - 1)) then (if 0 ≤ x8 then (if x8 < (x0.length : Int) then (if x3 = 0 then (none) else (if 0 ≤ (Int.tmod (wrap64 (x8 + 1)) x3) then (if (Int.tmod (wrap64 (x8 + 1)) x3) < (x0.length : Int) then ((spec_l13Meet.f k x206000 x206001 x208000 x208001 ((rd_T129 x0 x8).f0) ((rd_T129 x0 x8).f1) ((rd_T129 x0 (Int.tmod (wrap64 (x8 + 1)) x3)).f0) ((rd_T129 x0 (Int.tmod (wrap64 (x8 + 1)) x3)).f1)).bind fun t215 => (if t215 = true then (some false) else (spec_l13Ok.l2 k x0 x3 x5 (wrap64 (x8 + 1)) x206000 x206001 x208000 x208001))) else (none)) else (none))) else (none)) else (none)) else (spec_l13Ok.l2 k x0 x3 x5 (wrap64 (x8 + 1)) x206000 x206001 x208000 x208001))) else (spec_l13Ok.l1 k x0 x3 (wrap64 (x5 + 1)))) (fun k => (spec_l13Ok.mono_l k).2.2 x0 x3 x5 x8 x206000 x206001 x208000 x208001) (fun k => by simp only [spec_l13Ok.l2]) ?_
  repeat' first
    | with_reducible exact Lim.const _
    | with_reducible exact spec_l13Meet.F_lim _ _ _ _ _ _ _ _
    | with_reducible exact spec_l13Ok.L1_lim _ _ _
    | with_reducible exact spec_l13Ok.L2_lim _ _ _ _ _ _ _ _
    | with_reducible refine Lim.ite ?_ ?_
    | with_reducible refine Lim.bind ?_ (fun _ => ?_)
theorem spec_l13Ok.F_eq (l0 : List (S129)) : spec_l13Ok.F l0 = (spec_l00In.f (l0.length : Int) 3 8).bind fun t198 => (if t198 = true then (spec_l13Ok.L0 l0 (l0.length : Int) 0) else (some false)) := by
  refine Lim.eq (g := fun k => spec_l13Ok.f k l0) ?_
  unfold spec_l13Ok.f
  repeat' first
    | with_reducible exact Lim.const _
    | with_reducible exact spec_l13Ok.L0_lim _ _ _
    | with_reducible refine Lim.ite ?_ ?_
    | with_reducible refine Lim.bind ?_ (fun _ => ?_)

noncomputable def spec_l17Ok.L0 (x0 : List (S64)) (x3 : Int) : Option (Bool) := lim (fun k => spec_l17Ok.l0 k x0 x3)
theorem spec_l17Ok.L0_lim (x0 : List (S64)) (x3 : Int) : Lim (fun k => spec_l17Ok.l0 k x0 x3) (spec_l17Ok.L0 x0 x3) := Lim.of (fun k => (spec_l17Ok.mono_l k) x0 x3)
noncomputable def spec_l17Ok.F (l0 : List (S64)) : Option (Bool) := lim (fun k => spec_l17Ok.f k l0)
theorem spec_l17Ok.F_lim (l0 : List (S64)) : Lim (fun k => spec_l17Ok.f k l0) (spec_l17Ok.F l0) := Lim.of (fun k => spec_l17Ok.mono l0 k)
theorem spec_l17Ok.L0_eq (x0 : List (S64)) (x3 : Int) : spec_l17Ok.L0 x0 x3 = if x3 < (((rd_T64 x0 0).f0).length : Int) then (if 0 ≤ x3 then ((spec_IsName.F ((rd_T79 ((rd_T64 x0 0).f0) x3).f0)).bind fun t226 => (if t226 = true then ((spec_l17Find.F x0 ((rd_T79 ((rd_T64 x0 0).f0) x3).f0)).bind fun t227 => (if t227 = x3 then ((spec_l13Ok.F ((rd_T79 ((rd_T64 x0 0).f0) x3).f1)).bind fun t228 => (if t228 = true then (spec_l17Ok.L0 x0 (wrap64 (x3 + 1))) else (some false))) else (some false))) else (some false))) else (none)) else (if (((rd_T64 x0 0).f0).length : Int) ≤ 8 then ((spec_l00In.f ((rd_T64 x0 0).f2) 1 5000).bind fun t220 => (if t220 = true then ((spec_l00In.f ((rd_T64 x0 0).f1) 0 ((rd_T64 x0 0).f2)).bind fun t223 => (some t223)) else (some false))) else (some false)) := by
  refine Lim.step (f := fun k => if x3 < (((rd_T64 x0 0).f0).length : Int) then (if 0 ≤ x3 then ((spec_IsName.f k ((rd_T79 ((rd_T64 x0 0).f0) x3).f0)).bind fun t226 => (if t226 = true then ((spec_l17Find.f k x0 ((rd_T79 ((rd_T64 x0 0).f0) x3).f0)).bind fun t227 => (if t227 = x3 then ((spec_l13Ok.f k ((rd_T79 ((rd_T64 x0 0).f0) x3).f1)).bind fun t228 => (if t228 = true then (spec_l17Ok.l0 k x0 (wrap64 (x3 + 1))) else (some false))) else (some false))) else (some false))) else (none)) else (if (((rd_T64 x0 0).f0).length : Int) ≤ 8 then ((spec_l00In.f ((rd_T64 x0 0).f2) 1 5000).bind fun t220 => (if t220 = true then ((spec_l00In.f ((rd_T64 x0 0).f1) 0 ((rd_T64 x0 0).f2)).bind fun t223 => (some t223)) else (some false))) else (some false))) (fun k => (spec_l17Ok.mono_l k) x0 x3) (fun k => by simp only [spec_l17Ok.l0]) ?_
  repeat' first
    | with_reducible exact Lim.const _
    | with_reducible exact spec_IsName.F_lim _
    | with_reducible exact spec_l13Ok.F_lim _
    | with_reducible exact spec_l17Find.F_lim _ _
    | with_reducible exact spec_l17Ok.L0_lim _ _
    | with_reducible refine Lim.ite ?_ ?_
    | with_reducible refine Lim.bind ?_ (fun _ => ?_)
theorem spec_l17Ok.F_eq (l0 : List (S64)) : spec_l17Ok.F l0 = if 0 < (l0.length : Int) then (spec_l17Ok.L0 l0 0) else (none) := by
  refine Lim.eq (g := fun k => spec_l17Ok.f k l0) ?_
  unfold spec_l17Ok.f
  repeat' first
    | with_reducible exact Lim.const _
    | with_reducible exact spec_l17Ok.L0_lim _ _
    | with_reducible refine Lim.ite ?_ ?_
    | with_reducible refine Lim.bind ?_ (fun _ => ?_)

noncomputable def spec_l17Own.L0 (x0 : List (S64)) (x4 : Int) (x237000 : List (S79)) (x237001 : Int) (x237002 : Int) : Option ((List (S79)) × Int × Int) := lim (fun k => spec_l17Own.l0 k x0 x4 x237000 x237001 x237002)
theorem spec_l17Own.L0_lim (x0 : List (S64)) (x4 : Int) (x237000 : List (S79)) (x237001 : Int) (x237002 : Int) : Lim (fun k => spec_l17Own.l0 k x0 x4 x237000 x237001 x237002) (spec_l17Own.L0 x0 x4 x237000 x237001 x237002) := Lim.of (fun k => (spec_l17Own.mono_l k) x0 x4 x237000 x237001 x237002)
noncomputable def spec_l17Own.F (l0 : List (S64)) : Option ((List (S79)) × Int × Int) := lim (fun k => spec_l17Own.f k l0)
theorem spec_l17Own.F_lim (l0 : List (S64)) : Lim (fun k => spec_l17Own.f k l0) (spec_l17Own.F l0) := Lim.of (fun k => spec_l17Own.mono l0 k)
theorem spec_l17Own.L0_eq (x0 : List (S64)) (x4 : Int) (x237000 : List (S79)) (x237001 : Int) (x237002 : Int) : spec_l17Own.L0 x0 x4 x237000 x237001 x237002 = if x4 < (((rd_T64 x0 0).f0).length : Int) then (if 0 ≤ x4 then ((some (([] : List (S129)) : List (S129))).bind fun y241 => (if y241.length + ((rd_T79 ((rd_T64 x0 0).f0) x4).f1).length < 8796093022208 then (if x237000.length < 2932031007402 then (spec_l17Own.L0 x0 (wrap64 (x4 + 1)) (x237000 ++ [(⟨(rd_T79 ((rd_T64 x0 0).f0) x4).f0, (y241 ++ ((rd_T79 ((rd_T64 x0 0).f0) x4).f1)), (rd_T79 ((rd_T64 x0 0).f0) x4).f2⟩ : S79)]) x237001 x237002) else (none)) else (none))) else (none)) else (some (x237000, x237001, x237002)) := by
  refine Lim.step (f := fun k => if x4 < (((rd_T64 x0 0).f0).length : Int) then (if 0 ≤ x4 then ((some (([] : List (S129)) : List (S129))).bind fun y241 => (if y241.length + ((rd_T79 ((rd_T64 x0 0).f0) x4).f1).length < 8796093022208 then (if x237000.length < 2932031007402 then (spec_l17Own.l0 k x0 (wrap64 (x4 + 1)) (x237000 ++ [(⟨(rd_T79 ((rd_T64 x0 0).f0) x4).f0, (y241 ++ ((rd_T79 ((rd_T64 x0 0).f0) x4).f1)), (rd_T79 ((rd_T64 x0 0).f0) x4).f2⟩ : S79)]) x237001 x237002) else (none)) else (none))) else (none)) else (some (x237000, x237001, x237002))) (fun k => (spec_l17Own.mono_l k) x0 x4 x237000 x237001 x237002) (fun k => by simp only [spec_l17Own.l0]) ?_
  repeat' first
    | with_reducible exact Lim.const _
    | with_reducible exact spec_l17Own.L0_lim _ _ _ _ _
    | with_reducible refine Lim.ite ?_ ?_
    | with_reducible refine Lim.bind ?_ (fun _ => ?_)
theorem spec_l17Own.F_eq (l0 : List (S64)) : spec_l17Own.F l0 = if 0 < (l0.length : Int) then (spec_l17Own.L0 l0 0 (([] : List (S79))) ((rd_T64 l0 0).f1) ((rd_T64 l0 0).f2)) else (none) := by
  refine Lim.eq (g := fun k => spec_l17Own.f k l0) ?_
  unfold spec_l17Own.f
  repeat' first
    | with_reducible exact Lim.const _
    | with_reducible exact spec_l17Own.L0_lim _ _ _ _ _
    | with_reducible refine Lim.ite ?_ ?_
    | with_reducible refine Lim.bind ?_ (fun _ => ?_)

noncomputable def spec_SetSail.F (l0_0 : List (S79)) (a0_1 : Int) (a0_2 : Int) (a1 : ByteArray) (a2 : Bool) : Option ((List (S79)) × Int × Int × Int) := lim (fun k => spec_SetSail.f k l0_0 a0_1 a0_2 a1 a2)
theorem spec_SetSail.F_lim (l0_0 : List (S79)) (a0_1 : Int) (a0_2 : Int) (a1 : ByteArray) (a2 : Bool) : Lim (fun k => spec_SetSail.f k l0_0 a0_1 a0_2 a1 a2) (spec_SetSail.F l0_0 a0_1 a0_2 a1 a2) := Lim.of (fun k => spec_SetSail.mono l0_0 a0_1 a0_2 a1 a2 k)
theorem spec_SetSail.F_eq (l0_0 : List (S79)) (a0_1 : Int) (a0_2 : Int) (a1 : ByteArray) (a2 : Bool) : spec_SetSail.F l0_0 a0_1 a0_2 a1 a2 = (spec_l17Ok.F [(⟨l0_0, a0_1, a0_2⟩ : S64)]).bind fun t253 => (if t253 = true then ((spec_l17Find.F [(⟨l0_0, a0_1, a0_2⟩ : S64)] a1).bind fun t255 => (if t255 < 0 then (some (([] : List (S79)), 0, 0, 3)) else (if 0 ≤ t255 then (if t255 < (l0_0.length : Int) then (if (((rd_T79 l0_0 t255).f2) == a2) = true then (some (([] : List (S79)), 0, 0, 6)) else ((spec_l17Own.F [(⟨l0_0, a0_1, a0_2⟩ : S64)]).bind fun bt258 => (if t255 < (bt258.1.length : Int) then (some ((bt258.1.set (t255 : Int).toNat (⟨(rd_T79 bt258.1 t255).f0, (rd_T79 bt258.1 t255).f1, a2⟩ : S79)), bt258.2.1, bt258.2.2, 0)) else (none)))) else (none)) else (none)))) else (some (([] : List (S79)), 0, 0, 1))) := by
  refine Lim.eq (g := fun k => spec_SetSail.f k l0_0 a0_1 a0_2 a1 a2) ?_
  unfold spec_SetSail.f
  repeat' first
    | with_reducible exact Lim.const _
    | with_reducible exact spec_l17Find.F_lim _ _
    | with_reducible exact spec_l17Ok.F_lim _
    | with_reducible exact spec_l17Own.F_lim _
    | with_reducible refine Lim.ite ?_ ?_
    | with_reducible refine Lim.bind ?_ (fun _ => ?_)

noncomputable def impl_IsName.J0 (x0 : ByteArray) (x21 : Bool) : Option (Bool) := lim (fun k => impl_IsName.j0 k x0 x21)
theorem impl_IsName.J0_lim (x0 : ByteArray) (x21 : Bool) : Lim (fun k => impl_IsName.j0 k x0 x21) (impl_IsName.J0 x0 x21) := Lim.of (fun k => (impl_IsName.mono_l k).1 x0 x21)
noncomputable def impl_IsName.L0 (x0 : ByteArray) (x3 : Int) : Option (Bool) := lim (fun k => impl_IsName.l0 k x0 x3)
theorem impl_IsName.L0_lim (x0 : ByteArray) (x3 : Int) : Lim (fun k => impl_IsName.l0 k x0 x3) (impl_IsName.L0 x0 x3) := Lim.of (fun k => (impl_IsName.mono_l k).2 x0 x3)
noncomputable def impl_IsName.F (a0 : ByteArray) : Option (Bool) := lim (fun k => impl_IsName.f k a0)
theorem impl_IsName.F_lim (a0 : ByteArray) : Lim (fun k => impl_IsName.f k a0) (impl_IsName.F a0) := Lim.of (fun k => impl_IsName.mono a0 k)
theorem impl_IsName.J0_eq (x0 : ByteArray) (x21 : Bool) : impl_IsName.J0 x0 x21 = if x21 = true then (some false) else (impl_IsName.L0 x0 0) := by
  refine Lim.step (f := fun k => if x21 = true then (some false) else (impl_IsName.l0 k x0 0)) (fun k => (impl_IsName.mono_l k).1 x0 x21) (fun k => by simp only [impl_IsName.j0]) ?_
  repeat' first
    | with_reducible exact Lim.const _
    | with_reducible exact impl_IsName.L0_lim _ _
    | with_reducible refine Lim.ite ?_ ?_
    | with_reducible refine Lim.bind ?_ (fun _ => ?_)
theorem impl_IsName.L0_eq (x0 : ByteArray) (x3 : Int) : impl_IsName.L0 x0 x3 = if x3 < (x0.size : Int) then (if 0 ≤ x3 then (if (bt x0 x3) < 97 then (if (bt x0 x3) < 48 then (if (bt x0 x3) = 45 then (impl_IsName.L0 x0 (wrap64 (x3 + 1))) else (some false)) else (if (bt x0 x3) > 57 then (if (bt x0 x3) = 45 then (impl_IsName.L0 x0 (wrap64 (x3 + 1))) else (some false)) else (impl_IsName.L0 x0 (wrap64 (x3 + 1))))) else (if (bt x0 x3) > 122 then (if (bt x0 x3) < 48 then (if (bt x0 x3) = 45 then (impl_IsName.L0 x0 (wrap64 (x3 + 1))) else (some false)) else (if (bt x0 x3) > 57 then (if (bt x0 x3) = 45 then (impl_IsName.L0 x0 (wrap64 (x3 + 1))) else (some false)) else (impl_IsName.L0 x0 (wrap64 (x3 + 1))))) else (impl_IsName.L0 x0 (wrap64 (x3 + 1))))) else (none)) else (some true) := by
  refine Lim.step (f := fun k => if x3 < (x0.size : Int) then (if 0 ≤ x3 then (if (bt x0 x3) < 97 then (if (bt x0 x3) < 48 then (if (bt x0 x3) = 45 then (impl_IsName.l0 k x0 (wrap64 (x3 + 1))) else (some false)) else (if (bt x0 x3) > 57 then (if (bt x0 x3) = 45 then (impl_IsName.l0 k x0 (wrap64 (x3 + 1))) else (some false)) else (impl_IsName.l0 k x0 (wrap64 (x3 + 1))))) else (if (bt x0 x3) > 122 then (if (bt x0 x3) < 48 then (if (bt x0 x3) = 45 then (impl_IsName.l0 k x0 (wrap64 (x3 + 1))) else (some false)) else (if (bt x0 x3) > 57 then (if (bt x0 x3) = 45 then (impl_IsName.l0 k x0 (wrap64 (x3 + 1))) else (some false)) else (impl_IsName.l0 k x0 (wrap64 (x3 + 1))))) else (impl_IsName.l0 k x0 (wrap64 (x3 + 1))))) else (none)) else (some true)) (fun k => (impl_IsName.mono_l k).2 x0 x3) (fun k => by simp only [impl_IsName.l0]) ?_
  repeat' first
    | with_reducible exact Lim.const _
    | with_reducible exact impl_IsName.L0_lim _ _
    | with_reducible refine Lim.ite ?_ ?_
    | with_reducible refine Lim.bind ?_ (fun _ => ?_)
theorem impl_IsName.F_eq (a0 : ByteArray) : impl_IsName.F a0 = if (a0.size : Int) < 1 then (impl_IsName.J0 a0 true) else (if (a0.size : Int) > 12 then (impl_IsName.J0 a0 true) else (if 0 < (a0.size : Int) then (if (bt a0 0) < 97 then (impl_IsName.J0 a0 true) else (impl_IsName.J0 a0 (decide ((bt a0 0) > 122)))) else (none))) := by
  refine Lim.eq (g := fun k => impl_IsName.f k a0) ?_
  unfold impl_IsName.f
  repeat' first
    | with_reducible exact Lim.const _
    | with_reducible exact impl_IsName.J0_lim _ _
    | with_reducible refine Lim.ite ?_ ?_
    | with_reducible refine Lim.bind ?_ (fun _ => ?_)

noncomputable def impl_edgesMeet.J0 (x9 : Int) (x10 : Int) (x11 : Int) (x12 : Int) (x42 : Bool) (x274000 : Int) (x274001 : Int) (x275000 : Int) (x275001 : Int) (x276000 : Int) (x276001 : Int) (x277000 : Int) (x277001 : Int) : Option (Bool) := lim (fun k => impl_edgesMeet.j0 k x9 x10 x11 x12 x42 x274000 x274001 x275000 x275001 x276000 x276001 x277000 x277001)
theorem impl_edgesMeet.J0_lim (x9 : Int) (x10 : Int) (x11 : Int) (x12 : Int) (x42 : Bool) (x274000 : Int) (x274001 : Int) (x275000 : Int) (x275001 : Int) (x276000 : Int) (x276001 : Int) (x277000 : Int) (x277001 : Int) : Lim (fun k => impl_edgesMeet.j0 k x9 x10 x11 x12 x42 x274000 x274001 x275000 x275001 x276000 x276001 x277000 x277001) (impl_edgesMeet.J0 x9 x10 x11 x12 x42 x274000 x274001 x275000 x275001 x276000 x276001 x277000 x277001) := Lim.of (fun k => (impl_edgesMeet.mono_l k) x9 x10 x11 x12 x42 x274000 x274001 x275000 x275001 x276000 x276001 x277000 x277001)
noncomputable def impl_edgesMeet.F (a0_0 : Int) (a0_1 : Int) (a1_0 : Int) (a1_1 : Int) (a2_0 : Int) (a2_1 : Int) (a3_0 : Int) (a3_1 : Int) : Option (Bool) := lim (fun k => impl_edgesMeet.f k a0_0 a0_1 a1_0 a1_1 a2_0 a2_1 a3_0 a3_1)
theorem impl_edgesMeet.F_lim (a0_0 : Int) (a0_1 : Int) (a1_0 : Int) (a1_1 : Int) (a2_0 : Int) (a2_1 : Int) (a3_0 : Int) (a3_1 : Int) : Lim (fun k => impl_edgesMeet.f k a0_0 a0_1 a1_0 a1_1 a2_0 a2_1 a3_0 a3_1) (impl_edgesMeet.F a0_0 a0_1 a1_0 a1_1 a2_0 a2_1 a3_0 a3_1) := Lim.of (fun k => impl_edgesMeet.mono a0_0 a0_1 a1_0 a1_1 a2_0 a2_1 a3_0 a3_1 k)
theorem impl_edgesMeet.J0_eq (x9 : Int) (x10 : Int) (x11 : Int) (x12 : Int) (x42 : Bool) (x274000 : Int) (x274001 : Int) (x275000 : Int) (x275001 : Int) (x276000 : Int) (x276001 : Int) (x277000 : Int) (x277001 : Int) : impl_edgesMeet.J0 x9 x10 x11 x12 x42 x274000 x274001 x275000 x275001 x276000 x276001 x277000 x277001 = if x42 = true then (some true) else (if x9 = 0 then ((impl_between.f x274000 x274001 x275000 x275001 x276000 x276001).bind fun t285 => (if t285 = true then (some true) else (if x10 = 0 then ((impl_between.f x274000 x274001 x275000 x275001 x277000 x277001).bind fun t286 => (if t286 = true then (some true) else (if x11 = 0 then ((impl_between.f x276000 x276001 x277000 x277001 x274000 x274001).bind fun t287 => (if t287 = true then (some true) else (if x12 = 0 then ((impl_between.f x276000 x276001 x277000 x277001 x275000 x275001).bind fun t288 => (some t288)) else (some false)))) else (if x12 = 0 then ((impl_between.f x276000 x276001 x277000 x277001 x275000 x275001).bind fun t289 => (some t289)) else (some false))))) else (if x11 = 0 then ((impl_between.f x276000 x276001 x277000 x277001 x274000 x274001).bind fun t290 => (if t290 = true then (some true) else (if x12 = 0 then ((impl_between.f x276000 x276001 x277000 x277001 x275000 x275001).bind fun t291 => (some t291)) else (some false)))) else (if x12 = 0 then ((impl_between.f x276000 x276001 x277000 x277001 x275000 x275001).bind fun t292 => (some t292)) else (some false)))))) else (if x10 = 0 then ((impl_between.f x274000 x274001 x275000 x275001 x277000 x277001).bind fun t293 => (if t293 = true then (some true) else (if x11 = 0 then ((impl_between.f x276000 x276001 x277000 x277001 x274000 x274001).bind fun t294 => (if t294 = true then (some true) else (if x12 = 0 then ((impl_between.f x276000 x276001 x277000 x277001 x275000 x275001).bind fun t295 => (some t295)) else (some false)))) else (if x12 = 0 then ((impl_between.f x276000 x276001 x277000 x277001 x275000 x275001).bind fun t296 => (some t296)) else (some false))))) else (if x11 = 0 then ((impl_between.f x276000 x276001 x277000 x277001 x274000 x274001).bind fun t297 => (if t297 = true then (some true) else (if x12 = 0 then ((impl_between.f x276000 x276001 x277000 x277001 x275000 x275001).bind fun t298 => (some t298)) else (some false)))) else (if x12 = 0 then ((impl_between.f x276000 x276001 x277000 x277001 x275000 x275001).bind fun t299 => (some t299)) else (some false))))) := by
  refine Lim.step (f := fun k => if x42 = true then (some true) else (if x9 = 0 then ((impl_between.f x274000 x274001 x275000 x275001 x276000 x276001).bind fun t285 => (if t285 = true then (some true) else (if x10 = 0 then ((impl_between.f x274000 x274001 x275000 x275001 x277000 x277001).bind fun t286 => (if t286 = true then (some true) else (if x11 = 0 then ((impl_between.f x276000 x276001 x277000 x277001 x274000 x274001).bind fun t287 => (if t287 = true then (some true) else (if x12 = 0 then ((impl_between.f x276000 x276001 x277000 x277001 x275000 x275001).bind fun t288 => (some t288)) else (some false)))) else (if x12 = 0 then ((impl_between.f x276000 x276001 x277000 x277001 x275000 x275001).bind fun t289 => (some t289)) else (some false))))) else (if x11 = 0 then ((impl_between.f x276000 x276001 x277000 x277001 x274000 x274001).bind fun t290 => (if t290 = true then (some true) else (if x12 = 0 then ((impl_between.f x276000 x276001 x277000 x277001 x275000 x275001).bind fun t291 => (some t291)) else (some false)))) else (if x12 = 0 then ((impl_between.f x276000 x276001 x277000 x277001 x275000 x275001).bind fun t292 => (some t292)) else (some false)))))) else (if x10 = 0 then ((impl_between.f x274000 x274001 x275000 x275001 x277000 x277001).bind fun t293 => (if t293 = true then (some true) else (if x11 = 0 then ((impl_between.f x276000 x276001 x277000 x277001 x274000 x274001).bind fun t294 => (if t294 = true then (some true) else (if x12 = 0 then ((impl_between.f x276000 x276001 x277000 x277001 x275000 x275001).bind fun t295 => (some t295)) else (some false)))) else (if x12 = 0 then ((impl_between.f x276000 x276001 x277000 x277001 x275000 x275001).bind fun t296 => (some t296)) else (some false))))) else (if x11 = 0 then ((impl_between.f x276000 x276001 x277000 x277001 x274000 x274001).bind fun t297 => (if t297 = true then (some true) else (if x12 = 0 then ((impl_between.f x276000 x276001 x277000 x277001 x275000 x275001).bind fun t298 => (some t298)) else (some false)))) else (if x12 = 0 then ((impl_between.f x276000 x276001 x277000 x277001 x275000 x275001).bind fun t299 => (some t299)) else (some false)))))) (fun k => (impl_edgesMeet.mono_l k) x9 x10 x11 x12 x42 x274000 x274001 x275000 x275001 x276000 x276001 x277000 x277001) (fun k => by simp only [impl_edgesMeet.j0]) ?_
  repeat' first
    | with_reducible exact Lim.const _
    | with_reducible refine Lim.ite ?_ ?_
    | with_reducible refine Lim.bind ?_ (fun _ => ?_)
theorem impl_edgesMeet.F_eq (a0_0 : Int) (a0_1 : Int) (a1_0 : Int) (a1_1 : Int) (a2_0 : Int) (a2_1 : Int) (a3_0 : Int) (a3_1 : Int) : impl_edgesMeet.F a0_0 a0_1 a1_0 a1_1 a2_0 a2_1 a3_0 a3_1 = (impl_turnAt.f a0_0 a0_1 a1_0 a1_1 a2_0 a2_1).bind fun t277 => ((impl_turnAt.f a0_0 a0_1 a1_0 a1_1 a3_0 a3_1).bind fun t278 => ((impl_turnAt.f a2_0 a2_1 a3_0 a3_1 a0_0 a0_1).bind fun t279 => ((impl_turnAt.f a2_0 a2_1 a3_0 a3_1 a1_0 a1_1).bind fun t280 => ((impl_sign.f t277).bind fun t281 => ((impl_sign.f t278).bind fun t282 => (if (wrap64 (t281 * t282)) < 0 then ((impl_sign.f t279).bind fun t283 => ((impl_sign.f t280).bind fun t284 => (impl_edgesMeet.J0 t277 t278 t279 t280 (decide ((wrap64 (t283 * t284)) < 0)) a0_0 a0_1 a1_0 a1_1 a2_0 a2_1 a3_0 a3_1))) else (impl_edgesMeet.J0 t277 t278 t279 t280 false a0_0 a0_1 a1_0 a1_1 a2_0 a2_1 a3_0 a3_1))))))) := by
  refine Lim.eq (g := fun k => impl_edgesMeet.f k a0_0 a0_1 a1_0 a1_1 a2_0 a2_1 a3_0 a3_1) ?_
  unfold impl_edgesMeet.f
  repeat' first
    | with_reducible exact Lim.const _
    | with_reducible exact impl_edgesMeet.J0_lim _ _ _ _ _ _ _ _ _ _ _ _ _
    | with_reducible refine Lim.ite ?_ ?_
    | with_reducible refine Lim.bind ?_ (fun _ => ?_)

noncomputable def impl_twiceSail.L0 (x0 : List (S129)) (x3 : Int) (x7 : List (S129)) (x8 : Int) (x9 : Int) : Option (Int) := lim (fun k => impl_twiceSail.l0 k x0 x3 x7 x8 x9)
theorem impl_twiceSail.L0_lim (x0 : List (S129)) (x3 : Int) (x7 : List (S129)) (x8 : Int) (x9 : Int) : Lim (fun k => impl_twiceSail.l0 k x0 x3 x7 x8 x9) (impl_twiceSail.L0 x0 x3 x7 x8 x9) := Lim.of (fun k => (impl_twiceSail.mono_l k) x0 x3 x7 x8 x9)
noncomputable def impl_twiceSail.F (l0 : List (S129)) : Option (Int) := lim (fun k => impl_twiceSail.f k l0)
theorem impl_twiceSail.F_lim (l0 : List (S129)) : Lim (fun k => impl_twiceSail.f k l0) (impl_twiceSail.F l0) := Lim.of (fun k => impl_twiceSail.mono l0 k)
theorem impl_twiceSail.L0_eq (x0 : List (S129)) (x3 : Int) (x7 : List (S129)) (x8 : Int) (x9 : Int) : impl_twiceSail.L0 x0 x3 x7 x8 x9 = if x9 < x8 then (if 0 ≤ x9 then (if x9 < (x7.length : Int) then (if (x0.length : Int) = 0 then (none) else (if 0 ≤ (Int.tmod (wrap64 (x9 + 1)) (x0.length : Int)) then (if (Int.tmod (wrap64 (x9 + 1)) (x0.length : Int)) < (x0.length : Int) then (impl_twiceSail.L0 x0 (wrap64 (x3 + (wrap64 ((wrap64 (((rd_T129 x7 x9).f0) * ((rd_T129 x0 (Int.tmod (wrap64 (x9 + 1)) (x0.length : Int))).f1))) - (wrap64 (((rd_T129 x0 (Int.tmod (wrap64 (x9 + 1)) (x0.length : Int))).f0) * ((rd_T129 x7 x9).f1))))))) x7 x8 (wrap64 (x9 + 1))) else (none)) else (none))) else (none)) else (none)) else (some x3) := by
  refine Lim.step (f := fun k => if x9 < x8 then (if 0 ≤ x9 then (if x9 < (x7.length : Int) then (if (x0.length : Int) = 0 then (none) else (if 0 ≤ (Int.tmod (wrap64 (x9 + 1)) (x0.length : Int)) then (if (Int.tmod (wrap64 (x9 + 1)) (x0.length : Int)) < (x0.length : Int) then (impl_twiceSail.l0 k x0 (wrap64 (x3 + (wrap64 ((wrap64 (((rd_T129 x7 x9).f0) * ((rd_T129 x0 (Int.tmod (wrap64 (x9 + 1)) (x0.length : Int))).f1))) - (wrap64 (((rd_T129 x0 (Int.tmod (wrap64 (x9 + 1)) (x0.length : Int))).f0) * ((rd_T129 x7 x9).f1))))))) x7 x8 (wrap64 (x9 + 1))) else (none)) else (none))) else (none)) else (none)) else (some x3)) (fun k => (impl_twiceSail.mono_l k) x0 x3 x7 x8 x9) (fun k => by simp only [impl_twiceSail.l0]) ?_
  repeat' first
    | with_reducible exact Lim.const _
    | with_reducible exact impl_twiceSail.L0_lim _ _ _ _ _
    | with_reducible refine Lim.ite ?_ ?_
    | with_reducible refine Lim.bind ?_ (fun _ => ?_)
theorem impl_twiceSail.F_eq (l0 : List (S129)) : impl_twiceSail.F l0 = impl_twiceSail.L0 l0 0 l0 (l0.length : Int) 0 := by
  refine Lim.eq (g := fun k => impl_twiceSail.f k l0) ?_
  unfold impl_twiceSail.f
  repeat' first
    | with_reducible exact Lim.const _
    | with_reducible exact impl_twiceSail.L0_lim _ _ _ _ _
    | with_reducible refine Lim.ite ?_ ?_
    | with_reducible refine Lim.bind ?_ (fun _ => ?_)

noncomputable def impl_ValidSail.J0 (x0 : List (S129)) (x3 : Int) (x16 : Bool) : Option (Bool) := lim (fun k => impl_ValidSail.j0 k x0 x3 x16)
theorem impl_ValidSail.J0_lim (x0 : List (S129)) (x3 : Int) (x16 : Bool) : Lim (fun k => impl_ValidSail.j0 k x0 x3 x16) (impl_ValidSail.J0 x0 x3 x16) := Lim.of (fun k => (impl_ValidSail.mono_l k).1 x0 x3 x16)
noncomputable def impl_ValidSail.L0 (x0 : List (S129)) (x3 : Int) (x17 : List (S129)) (x18 : Int) (x19 : Int) : Option (Bool) := lim (fun k => impl_ValidSail.l0 k x0 x3 x17 x18 x19)
theorem impl_ValidSail.L0_lim (x0 : List (S129)) (x3 : Int) (x17 : List (S129)) (x18 : Int) (x19 : Int) : Lim (fun k => impl_ValidSail.l0 k x0 x3 x17 x18 x19) (impl_ValidSail.L0 x0 x3 x17 x18 x19) := Lim.of (fun k => (impl_ValidSail.mono_l k).2.1 x0 x3 x17 x18 x19)
noncomputable def impl_ValidSail.L1 (x0 : List (S129)) (x3 : Int) (x35 : Int) (x36 : Int) : Option (Bool) := lim (fun k => impl_ValidSail.l1 k x0 x3 x35 x36)
theorem impl_ValidSail.L1_lim (x0 : List (S129)) (x3 : Int) (x35 : Int) (x36 : Int) : Lim (fun k => impl_ValidSail.l1 k x0 x3 x35 x36) (impl_ValidSail.L1 x0 x3 x35 x36) := Lim.of (fun k => (impl_ValidSail.mono_l k).2.2.1 x0 x3 x35 x36)
noncomputable def impl_ValidSail.L2 (x0 : List (S129)) (x3 : Int) (x61 : Int) (x62 : Int) : Option (Bool) := lim (fun k => impl_ValidSail.l2 k x0 x3 x61 x62)
theorem impl_ValidSail.L2_lim (x0 : List (S129)) (x3 : Int) (x61 : Int) (x62 : Int) : Lim (fun k => impl_ValidSail.l2 k x0 x3 x61 x62) (impl_ValidSail.L2 x0 x3 x61 x62) := Lim.of (fun k => (impl_ValidSail.mono_l k).2.2.2.1 x0 x3 x61 x62)
noncomputable def impl_ValidSail.L3 (x0 : List (S129)) (x3 : Int) (x7 : Int) (x8 : Int) (x61 : Int) (x62 : Int) : Option (Bool) := lim (fun k => impl_ValidSail.l3 k x0 x3 x7 x8 x61 x62)
theorem impl_ValidSail.L3_lim (x0 : List (S129)) (x3 : Int) (x7 : Int) (x8 : Int) (x61 : Int) (x62 : Int) : Lim (fun k => impl_ValidSail.l3 k x0 x3 x7 x8 x61 x62) (impl_ValidSail.L3 x0 x3 x7 x8 x61 x62) := Lim.of (fun k => (impl_ValidSail.mono_l k).2.2.2.2 x0 x3 x7 x8 x61 x62)
noncomputable def impl_ValidSail.F (l0 : List (S129)) : Option (Bool) := lim (fun k => impl_ValidSail.f k l0)
theorem impl_ValidSail.F_lim (l0 : List (S129)) : Lim (fun k => impl_ValidSail.f k l0) (impl_ValidSail.F l0) := Lim.of (fun k => impl_ValidSail.mono l0 k)
theorem impl_ValidSail.J0_eq (x0 : List (S129)) (x3 : Int) (x16 : Bool) : impl_ValidSail.J0 x0 x3 x16 = if x16 = true then (some false) else (impl_ValidSail.L0 x0 x3 x0 (x0.length : Int) 0) := by
  refine Lim.step (f := fun k => if x16 = true then (some false) else (impl_ValidSail.l0 k x0 x3 x0 (x0.length : Int) 0)) (fun k => (impl_ValidSail.mono_l k).1 x0 x3 x16) (fun k => by simp only [impl_ValidSail.j0]) ?_
  repeat' first
    | with_reducible exact Lim.const _
    | with_reducible exact impl_ValidSail.L0_lim _ _ _ _ _
    | with_reducible refine Lim.ite ?_ ?_
    | with_reducible refine Lim.bind ?_ (fun _ => ?_)
theorem impl_ValidSail.L0_eq (x0 : List (S129)) (x3 : Int) (x17 : List (S129)) (x18 : Int) (x19 : Int) : impl_ValidSail.L0 x0 x3 x17 x18 x19 = if x19 < x18 then (if 0 ≤ x19 then (if x19 < (x17.length : Int) then ((impl_within.f ((rd_T129 x17 x19).f0) 0 2000).bind fun t306 => (if t306 = true then ((impl_within.f ((rd_T129 x17 x19).f1) 0 2000).bind fun t307 => (if t307 = true then (impl_ValidSail.L0 x0 x3 x17 x18 (wrap64 (x19 + 1))) else (some false))) else (some false))) else (none)) else (none)) else (impl_ValidSail.L1 x0 x3 (x0.length : Int) 0) := by
  refine Lim.step (f := fun k => if x19 < x18 then (if 0 ≤ x19 then (if x19 < (x17.length : Int) then ((impl_within.f ((rd_T129 x17 x19).f0) 0 2000).bind fun t306 => (if t306 = true then ((impl_within.f ((rd_T129 x17 x19).f1) 0 2000).bind fun t307 => (if t307 = true then (impl_ValidSail.l0 k x0 x3 x17 x18 (wrap64 (x19 + 1))) else (some false))) else (some false))) else (none)) else (none)) else (impl_ValidSail.l1 k x0 x3 (x0.length : Int) 0)) (fun k => (impl_ValidSail.mono_l k).2.1 x0 x3 x17 x18 x19) (fun k => by simp only [impl_ValidSail.l0]) ?_
  repeat' first
    | with_reducible exact Lim.const _
    | with_reducible exact impl_ValidSail.L0_lim _ _ _ _ _
    | with_reducible exact impl_ValidSail.L1_lim _ _ _ _
    | with_reducible refine Lim.ite ?_ ?_
    | with_reducible refine Lim.bind ?_ (fun _ => ?_)
theorem impl_ValidSail.L1_eq (x0 : List (S129)) (x3 : Int) (x35 : Int) (x36 : Int) : impl_ValidSail.L1 x0 x3 x35 x36 = if x36 < x35 then (if 0 ≤ x36 then (if x36 < (x0.length : Int) then (if x3 = 0 then (none) else (if 0 ≤ (Int.tmod (wrap64 (x36 + 1)) x3) then (if (Int.tmod (wrap64 (x36 + 1)) x3) < (x0.length : Int) then (if 0 ≤ (Int.tmod (wrap64 (x36 + 2)) x3) then (if (Int.tmod (wrap64 (x36 + 2)) x3) < (x0.length : Int) then ((impl_turnAt.f ((rd_T129 x0 x36).f0) ((rd_T129 x0 x36).f1) ((rd_T129 x0 (Int.tmod (wrap64 (x36 + 1)) x3)).f0) ((rd_T129 x0 (Int.tmod (wrap64 (x36 + 1)) x3)).f1) ((rd_T129 x0 (Int.tmod (wrap64 (x36 + 2)) x3)).f0) ((rd_T129 x0 (Int.tmod (wrap64 (x36 + 2)) x3)).f1)).bind fun t311 => (if t311 = 0 then (some false) else (impl_ValidSail.L1 x0 x3 x35 (wrap64 (x36 + 1))))) else (none)) else (none)) else (none)) else (none))) else (none)) else (none)) else (impl_ValidSail.L2 x0 x3 (x0.length : Int) 0) := by
  refine Lim.step (f := fun k => if x36 < x35 then (if 0 ≤ x36 then (if x36 < (x0.length : Int) then (if x3 = 0 then (none) else (if 0 ≤ (Int.tmod (wrap64 (x36 + 1)) x3) then (if (Int.tmod (wrap64 (x36 + 1)) x3) < (x0.length : Int) then (if 0 ≤ (Int.tmod (wrap64 (x36 + 2)) x3) then (if (Int.tmod (wrap64 (x36 + 2)) x3) < (x0.length : Int) then ((impl_turnAt.f ((rd_T129 x0 x36).f0) ((rd_T129 x0 x36).f1) ((rd_T129 x0 (Int.tmod (wrap64 (x36 + 1)) x3)).f0) ((rd_T129 x0 (Int.tmod (wrap64 (x36 + 1)) x3)).f1) ((rd_T129 x0 (Int.tmod (wrap64 (x36 + 2)) x3)).f0) ((rd_T129 x0 (Int.tmod (wrap64 (x36 + 2)) x3)).f1)).bind fun t311 => (if t311 = 0 then (some false) else (impl_ValidSail.l1 k x0 x3 x35 (wrap64 (x36 + 1))))) else (none)) else (none)) else (none)) else (none))) else (none)) else (none)) else (impl_ValidSail.l2 k x0 x3 (x0.length : Int) 0)) (fun k => (impl_ValidSail.mono_l k).2.2.1 x0 x3 x35 x36) (fun k => by simp only [impl_ValidSail.l1]) ?_
  repeat' first
    | with_reducible exact Lim.const _
    | with_reducible exact impl_ValidSail.L1_lim _ _ _ _
    | with_reducible exact impl_ValidSail.L2_lim _ _ _ _
    | with_reducible refine Lim.ite ?_ ?_
    | with_reducible refine Lim.bind ?_ (fun _ => ?_)
theorem impl_ValidSail.L2_eq (x0 : List (S129)) (x3 : Int) (x61 : Int) (x62 : Int) : impl_ValidSail.L2 x0 x3 x61 x62 = if x62 < x61 then (impl_ValidSail.L3 x0 x3 x62 (wrap64 (x62 + 2)) x61 x62) else ((impl_twiceSail.F x0).bind fun t312 => (some (decide (t312 > 0)))) := by
  refine Lim.step (f := fun k => if x62 < x61 then (impl_ValidSail.l3 k x0 x3 x62 (wrap64 (x62 + 2)) x61 x62) else ((impl_twiceSail.f k x0).bind fun t312 => (some (decide (t312 > 0))))) (fun k => (impl_ValidSail.mono_l k).2.2.2.1 x0 x3 x61 x62) (fun k => by simp only [impl_ValidSail.l2]) ?_
  repeat' first
    | with_reducible exact Lim.const _
    | with_reducible exact impl_ValidSail.L3_lim _ _ _ _ _ _
    | with_reducible exact impl_twiceSail.F_lim _
    | with_reducible refine Lim.ite ?_ ?_
    | with_reducible refine Lim.bind ?_ (fun _ => ?_)
theorem impl_ValidSail.L3_eq (x0 : List (S129)) (x3 : Int) (x7 : Int) (x8 : Int) (x61 : Int) (x62 : Int) : impl_ValidSail.L3 x0 x3 x7 x8 x61 x62 = if x8 < x3 then (if x3 = 0 then (none) else (if (Int.tmod (wrap64 (x8 + 1)) x3) = x7 then (impl_ValidSail.L3 x0 x3 x7 (wrap64 (x8 + 1)) x61 x62) else (if 0 ≤ x7 then (if x7 < (x0.length : Int) then (if 0 ≤ (wrap64 (x7 + 1)) then (if (wrap64 (x7 + 1)) < (x0.length : Int) then (if 0 ≤ x8 then (if x8 < (x0.length : Int) then (if 0 ≤ (Int.tmod (wrap64 (x8 + 1)) x3) then (if (Int.tmod (wrap64 (x8 + 1)) x3) < (x0.length : Int) then ((impl_edgesMeet.F ((rd_T129 x0 x7).f0) ((rd_T129 x0 x7).f1) ((rd_T129 x0 (wrap64 (x7 + 1))).f0) ((rd_T129 x0 (wrap64 (x7 + 1))).f1) ((rd_T129 x0 x8).f0) ((rd_T129 x0 x8).f1) ((rd_T129 x0 (Int.tmod (wrap64 (x8 + 1)) x3)).f0) ((rd_T129 x0 (Int.tmod (wrap64 (x8 + 1)) x3)).f1)).bind fun t317 => (if t317 = true then (some false) else (impl_ValidSail.L3 x0 x3 x7 (wrap64 (x8 + 1)) x61 x62))) else (none)) else (none)) else (none)) else (none)) else (none)) else (none)) else (none)) else (none)))) else (impl_ValidSail.L2 x0 x3 x61 (wrap64 (x62 + 1))) := by
  refine Lim.step (f := fun k => if x8 < x3 then (if x3 = 0 then (none) else (if (Int.tmod (wrap64 (x8 + 1)) x3) = x7 then (impl_ValidSail.l3 k x0 x3 x7 (wrap64 (x8 + 1)) x61 x62) else (if 0 ≤ x7 then (if x7 < (x0.length : Int) then (if 0 ≤ (wrap64 (x7 + 1)) then (if (wrap64 (x7 + 1)) < (x0.length : Int) then (if 0 ≤ x8 then (if x8 < (x0.length : Int) then (if 0 ≤ (Int.tmod (wrap64 (x8 + 1)) x3) then (if (Int.tmod (wrap64 (x8 + 1)) x3) < (x0.length : Int) then ((impl_edgesMeet.f k ((rd_T129 x0 x7).f0) ((rd_T129 x0 x7).f1) ((rd_T129 x0 (wrap64 (x7 + 1))).f0) ((rd_T129 x0 (wrap64 (x7 + 1))).f1) ((rd_T129 x0 x8).f0) ((rd_T129 x0 x8).f1) ((rd_T129 x0 (Int.tmod (wrap64 (x8 + 1)) x3)).f0) ((rd_T129 x0 (Int.tmod (wrap64 (x8 + 1)) x3)).f1)).bind fun t317 => (if t317 = true then (some false) else (impl_ValidSail.l3 k x0 x3 x7 (wrap64 (x8 + 1)) x61 x62))) else (none)) else (none)) else (none)) else (none)) else (none)) else (none)) else (none)) else (none)))) else (impl_ValidSail.l2 k x0 x3 x61 (wrap64 (x62 + 1)))) (fun k => (impl_ValidSail.mono_l k).2.2.2.2 x0 x3 x7 x8 x61 x62) (fun k => by simp only [impl_ValidSail.l3]) ?_
  repeat' first
    | with_reducible exact Lim.const _
    | with_reducible exact impl_ValidSail.L2_lim _ _ _ _
    | with_reducible exact impl_ValidSail.L3_lim _ _ _ _ _ _
    | with_reducible exact impl_edgesMeet.F_lim _ _ _ _ _ _ _ _
    | with_reducible refine Lim.ite ?_ ?_
    | with_reducible refine Lim.bind ?_ (fun _ => ?_)
theorem impl_ValidSail.F_eq (l0 : List (S129)) : impl_ValidSail.F l0 = if (l0.length : Int) < 3 then (impl_ValidSail.J0 l0 (l0.length : Int) true) else (impl_ValidSail.J0 l0 (l0.length : Int) (decide ((l0.length : Int) > 8))) := by
  refine Lim.eq (g := fun k => impl_ValidSail.f k l0) ?_
  unfold impl_ValidSail.f
  repeat' first
    | with_reducible exact Lim.const _
    | with_reducible exact impl_ValidSail.J0_lim _ _ _
    | with_reducible refine Lim.ite ?_ ?_
    | with_reducible refine Lim.bind ?_ (fun _ => ?_)

noncomputable def impl_ValidPlan.J0 (x22 : Bool) (x319000 : List (S79)) (x319001 : Int) (x319002 : Int) : Option (Bool) := lim (fun k => impl_ValidPlan.j0 k x22 x319000 x319001 x319002)
theorem impl_ValidPlan.J0_lim (x22 : Bool) (x319000 : List (S79)) (x319001 : Int) (x319002 : Int) : Lim (fun k => impl_ValidPlan.j0 k x22 x319000 x319001 x319002) (impl_ValidPlan.J0 x22 x319000 x319001 x319002) := Lim.of (fun k => (impl_ValidPlan.mono_l k).1 x22 x319000 x319001 x319002)
noncomputable def impl_ValidPlan.L0 (x24 : List (S79)) (x25 : Int) (x26 : Int) (x319000 : List (S79)) (x319001 : Int) (x319002 : Int) : Option (Bool) := lim (fun k => impl_ValidPlan.l0 k x24 x25 x26 x319000 x319001 x319002)
theorem impl_ValidPlan.L0_lim (x24 : List (S79)) (x25 : Int) (x26 : Int) (x319000 : List (S79)) (x319001 : Int) (x319002 : Int) : Lim (fun k => impl_ValidPlan.l0 k x24 x25 x26 x319000 x319001 x319002) (impl_ValidPlan.L0 x24 x25 x26 x319000 x319001 x319002) := Lim.of (fun k => (impl_ValidPlan.mono_l k).2 x24 x25 x26 x319000 x319001 x319002)
noncomputable def impl_ValidPlan.F (l0_0 : List (S79)) (a0_1 : Int) (a0_2 : Int) : Option (Bool) := lim (fun k => impl_ValidPlan.f k l0_0 a0_1 a0_2)
theorem impl_ValidPlan.F_lim (l0_0 : List (S79)) (a0_1 : Int) (a0_2 : Int) : Lim (fun k => impl_ValidPlan.f k l0_0 a0_1 a0_2) (impl_ValidPlan.F l0_0 a0_1 a0_2) := Lim.of (fun k => impl_ValidPlan.mono l0_0 a0_1 a0_2 k)
theorem impl_ValidPlan.J0_eq (x22 : Bool) (x319000 : List (S79)) (x319001 : Int) (x319002 : Int) : impl_ValidPlan.J0 x22 x319000 x319001 x319002 = if x22 = true then (some false) else (impl_ValidPlan.L0 x319000 (x319000.length : Int) 0 x319000 x319001 x319002) := by
  refine Lim.step (f := fun k => if x22 = true then (some false) else (impl_ValidPlan.l0 k x319000 (x319000.length : Int) 0 x319000 x319001 x319002)) (fun k => (impl_ValidPlan.mono_l k).1 x22 x319000 x319001 x319002) (fun k => by simp only [impl_ValidPlan.j0]) ?_
  repeat' first
    | with_reducible exact Lim.const _
    | with_reducible exact impl_ValidPlan.L0_lim _ _ _ _ _ _
    | with_reducible refine Lim.ite ?_ ?_
    | with_reducible refine Lim.bind ?_ (fun _ => ?_)
theorem impl_ValidPlan.L0_eq (x24 : List (S79)) (x25 : Int) (x26 : Int) (x319000 : List (S79)) (x319001 : Int) (x319002 : Int) : impl_ValidPlan.L0 x24 x25 x26 x319000 x319001 x319002 = if x26 < x25 then (if 0 ≤ x26 then (if x26 < (x24.length : Int) then ((impl_IsName.F ((rd_T79 x24 x26).f0)).bind fun t323 => (if t323 = true then ((impl_ValidSail.F ((rd_T79 x24 x26).f1)).bind fun t324 => (if t324 = true then (if x26 ≤ (x319000.length : Int) then ((impl_sailNamed.f (x319000.take (x26 : Int).toNat) ((rd_T79 x24 x26).f0)).bind fun t329 => (if t329 ≥ 0 then (some false) else (impl_ValidPlan.L0 x24 x25 (wrap64 (x26 + 1)) x319000 x319001 x319002))) else (none)) else (some false))) else (some false))) else (none)) else (none)) else (some true) := by
  refine Lim.step (f := fun k => if x26 < x25 then (if 0 ≤ x26 then (if x26 < (x24.length : Int) then ((impl_IsName.f k ((rd_T79 x24 x26).f0)).bind fun t323 => (if t323 = true then ((impl_ValidSail.f k ((rd_T79 x24 x26).f1)).bind fun t324 => (if t324 = true then (if x26 ≤ (x319000.length : Int) then ((impl_sailNamed.f (x319000.take (x26 : Int).toNat) ((rd_T79 x24 x26).f0)).bind fun t329 => (if t329 ≥ 0 then (some false) else (impl_ValidPlan.l0 k x24 x25 (wrap64 (x26 + 1)) x319000 x319001 x319002))) else (none)) else (some false))) else (some false))) else (none)) else (none)) else (some true)) (fun k => (impl_ValidPlan.mono_l k).2 x24 x25 x26 x319000 x319001 x319002) (fun k => by simp only [impl_ValidPlan.l0]) ?_
  repeat' first
    | with_reducible exact Lim.const _
    | with_reducible exact impl_IsName.F_lim _
    | with_reducible exact impl_ValidPlan.L0_lim _ _ _ _ _ _
    | with_reducible exact impl_ValidSail.F_lim _
    | with_reducible refine Lim.ite ?_ ?_
    | with_reducible refine Lim.bind ?_ (fun _ => ?_)
theorem impl_ValidPlan.F_eq (l0_0 : List (S79)) (a0_1 : Int) (a0_2 : Int) : impl_ValidPlan.F l0_0 a0_1 a0_2 = if (l0_0.length : Int) > 8 then (impl_ValidPlan.J0 true l0_0 a0_1 a0_2) else ((impl_within.f a0_2 1 5000).bind fun t319 => (if t319 = true then ((impl_within.f a0_1 0 a0_2).bind fun t320 => (impl_ValidPlan.J0 (!t320) l0_0 a0_1 a0_2)) else (impl_ValidPlan.J0 true l0_0 a0_1 a0_2))) := by
  refine Lim.eq (g := fun k => impl_ValidPlan.f k l0_0 a0_1 a0_2) ?_
  unfold impl_ValidPlan.f
  repeat' first
    | with_reducible exact Lim.const _
    | with_reducible exact impl_ValidPlan.J0_lim _ _ _ _
    | with_reducible refine Lim.ite ?_ ?_
    | with_reducible refine Lim.bind ?_ (fun _ => ?_)

noncomputable def impl_copyPlan.L0 (x12 : List (S79)) (x13 : Int) (x14 : Int) (x333000 : List (S79)) (x333001 : Int) (x333002 : Int) : Option ((List (S79)) × Int × Int) := lim (fun k => impl_copyPlan.l0 k x12 x13 x14 x333000 x333001 x333002)
theorem impl_copyPlan.L0_lim (x12 : List (S79)) (x13 : Int) (x14 : Int) (x333000 : List (S79)) (x333001 : Int) (x333002 : Int) : Lim (fun k => impl_copyPlan.l0 k x12 x13 x14 x333000 x333001 x333002) (impl_copyPlan.L0 x12 x13 x14 x333000 x333001 x333002) := Lim.of (fun k => (impl_copyPlan.mono_l k) x12 x13 x14 x333000 x333001 x333002)
noncomputable def impl_copyPlan.F (l0_0 : List (S79)) (a0_1 : Int) (a0_2 : Int) : Option ((List (S79)) × Int × Int) := lim (fun k => impl_copyPlan.f k l0_0 a0_1 a0_2)
theorem impl_copyPlan.F_lim (l0_0 : List (S79)) (a0_1 : Int) (a0_2 : Int) : Lim (fun k => impl_copyPlan.f k l0_0 a0_1 a0_2) (impl_copyPlan.F l0_0 a0_1 a0_2) := Lim.of (fun k => impl_copyPlan.mono l0_0 a0_1 a0_2 k)
theorem impl_copyPlan.L0_eq (x12 : List (S79)) (x13 : Int) (x14 : Int) (x333000 : List (S79)) (x333001 : Int) (x333002 : Int) : impl_copyPlan.L0 x12 x13 x14 x333000 x333001 x333002 = if x14 < x13 then (if 0 ≤ x14 then (if x14 < (x12.length : Int) then ((some (([] : List (S129)) : List (S129))).bind fun y335 => (if y335.length + ((rd_T79 x12 x14).f1).length < 8796093022208 then (if x333000.length < 2932031007402 then (impl_copyPlan.L0 x12 x13 (wrap64 (x14 + 1)) (x333000 ++ [(⟨(rd_T79 x12 x14).f0, (y335 ++ ((rd_T79 x12 x14).f1)), (rd_T79 x12 x14).f2⟩ : S79)]) x333001 x333002) else (none)) else (none))) else (none)) else (none)) else (some (x333000, x333001, x333002)) := by
  refine Lim.step (f := fun k => if x14 < x13 then (if 0 ≤ x14 then (if x14 < (x12.length : Int) then ((some (([] : List (S129)) : List (S129))).bind fun y335 => (if y335.length + ((rd_T79 x12 x14).f1).length < 8796093022208 then (if x333000.length < 2932031007402 then (impl_copyPlan.l0 k x12 x13 (wrap64 (x14 + 1)) (x333000 ++ [(⟨(rd_T79 x12 x14).f0, (y335 ++ ((rd_T79 x12 x14).f1)), (rd_T79 x12 x14).f2⟩ : S79)]) x333001 x333002) else (none)) else (none))) else (none)) else (none)) else (some (x333000, x333001, x333002))) (fun k => (impl_copyPlan.mono_l k) x12 x13 x14 x333000 x333001 x333002) (fun k => by simp only [impl_copyPlan.l0]) ?_
  repeat' first
    | with_reducible exact Lim.const _
    | with_reducible exact impl_copyPlan.L0_lim _ _ _ _ _ _
    | with_reducible refine Lim.ite ?_ ?_
    | with_reducible refine Lim.bind ?_ (fun _ => ?_)
theorem impl_copyPlan.F_eq (l0_0 : List (S79)) (a0_1 : Int) (a0_2 : Int) : impl_copyPlan.F l0_0 a0_1 a0_2 = impl_copyPlan.L0 l0_0 (l0_0.length : Int) 0 ([] : List (S79)) a0_1 a0_2 := by
  refine Lim.eq (g := fun k => impl_copyPlan.f k l0_0 a0_1 a0_2) ?_
  unfold impl_copyPlan.f
  repeat' first
    | with_reducible exact Lim.const _
    | with_reducible exact impl_copyPlan.L0_lim _ _ _ _ _ _
    | with_reducible refine Lim.ite ?_ ?_
    | with_reducible refine Lim.bind ?_ (fun _ => ?_)

noncomputable def impl_SetSail.F (l0_0 : List (S79)) (a0_1 : Int) (a0_2 : Int) (a1 : ByteArray) (a2 : Bool) : Option ((List (S79)) × Int × Int × Int) := lim (fun k => impl_SetSail.f k l0_0 a0_1 a0_2 a1 a2)
theorem impl_SetSail.F_lim (l0_0 : List (S79)) (a0_1 : Int) (a0_2 : Int) (a1 : ByteArray) (a2 : Bool) : Lim (fun k => impl_SetSail.f k l0_0 a0_1 a0_2 a1 a2) (impl_SetSail.F l0_0 a0_1 a0_2 a1 a2) := Lim.of (fun k => impl_SetSail.mono l0_0 a0_1 a0_2 a1 a2 k)
theorem impl_SetSail.F_eq (l0_0 : List (S79)) (a0_1 : Int) (a0_2 : Int) (a1 : ByteArray) (a2 : Bool) : impl_SetSail.F l0_0 a0_1 a0_2 a1 a2 = (impl_ValidPlan.F l0_0 a0_1 a0_2).bind fun t346 => (if t346 = true then ((impl_sailNamed.f l0_0 a1).bind fun t347 => (if t347 < 0 then (some (([] : List (S79)), 0, 0, 3)) else (if 0 ≤ t347 then (if t347 < (l0_0.length : Int) then (if (((rd_T79 l0_0 t347).f2) == a2) = true then (some (([] : List (S79)), 0, 0, 6)) else ((impl_copyPlan.F l0_0 a0_1 a0_2).bind fun bt349 => (if t347 < (bt349.1.length : Int) then (some ((bt349.1.set (t347 : Int).toNat (⟨(rd_T79 bt349.1 t347).f0, (rd_T79 bt349.1 t347).f1, a2⟩ : S79)), bt349.2.1, bt349.2.2, 0)) else (none)))) else (none)) else (none)))) else (some (([] : List (S79)), 0, 0, 1))) := by
  refine Lim.eq (g := fun k => impl_SetSail.f k l0_0 a0_1 a0_2 a1 a2) ?_
  unfold impl_SetSail.f
  repeat' first
    | with_reducible exact Lim.const _
    | with_reducible exact impl_ValidPlan.F_lim _ _ _
    | with_reducible exact impl_copyPlan.F_lim _ _ _
    | with_reducible refine Lim.ite ?_ ?_
    | with_reducible refine Lim.bind ?_ (fun _ => ?_)

noncomputable def laws_heldSpotS.L0 (x0 : List (S129)) (x1 : Int) (x5 : Int) : Option (Int) := lim (fun k => laws_heldSpotS.l0 k x0 x1 x5)
theorem laws_heldSpotS.L0_lim (x0 : List (S129)) (x1 : Int) (x5 : Int) : Lim (fun k => laws_heldSpotS.l0 k x0 x1 x5) (laws_heldSpotS.L0 x0 x1 x5) := Lim.of (fun k => (laws_heldSpotS.mono_l k) x0 x1 x5)
noncomputable def laws_heldSpotS.F (l0 : List (S129)) (a1 : Int) : Option (Int) := lim (fun k => laws_heldSpotS.f k l0 a1)
theorem laws_heldSpotS.F_lim (l0 : List (S129)) (a1 : Int) : Lim (fun k => laws_heldSpotS.f k l0 a1) (laws_heldSpotS.F l0 a1) := Lim.of (fun k => laws_heldSpotS.mono l0 a1 k)
theorem laws_heldSpotS.L0_eq (x0 : List (S129)) (x1 : Int) (x5 : Int) : laws_heldSpotS.L0 x0 x1 x5 = if x5 < (x0.length : Int) then (if 0 ≤ x5 then (if ((rd_T129 x0 x5).f0) = x1 then (if ((rd_T129 x0 x5).f1) = (wrap64 (x1 + 1)) then (laws_heldSpotS.L0 x0 (wrap64 ((wrap64 (x1 + 1)) + 1)) (wrap64 (x5 + 1))) else (some (-1))) else (some (-1))) else (none)) else (some x1) := by
  refine Lim.step (f := fun k => if x5 < (x0.length : Int) then (if 0 ≤ x5 then (if ((rd_T129 x0 x5).f0) = x1 then (if ((rd_T129 x0 x5).f1) = (wrap64 (x1 + 1)) then (laws_heldSpotS.l0 k x0 (wrap64 ((wrap64 (x1 + 1)) + 1)) (wrap64 (x5 + 1))) else (some (-1))) else (some (-1))) else (none)) else (some x1)) (fun k => (laws_heldSpotS.mono_l k) x0 x1 x5) (fun k => by simp only [laws_heldSpotS.l0]) ?_
  repeat' first
    | with_reducible exact Lim.const _
    | with_reducible exact laws_heldSpotS.L0_lim _ _ _
    | with_reducible refine Lim.ite ?_ ?_
    | with_reducible refine Lim.bind ?_ (fun _ => ?_)
theorem laws_heldSpotS.F_eq (l0 : List (S129)) (a1 : Int) : laws_heldSpotS.F l0 a1 = laws_heldSpotS.L0 l0 a1 0 := by
  refine Lim.eq (g := fun k => laws_heldSpotS.f k l0 a1) ?_
  unfold laws_heldSpotS.f
  repeat' first
    | with_reducible exact Lim.const _
    | with_reducible exact laws_heldSpotS.L0_lim _ _ _
    | with_reducible refine Lim.ite ?_ ?_
    | with_reducible refine Lim.bind ?_ (fun _ => ?_)

noncomputable def laws_heldHungS.L0 (x0 : List (S79)) (x1 : Int) (x5 : Int) : Option (Int) := lim (fun k => laws_heldHungS.l0 k x0 x1 x5)
theorem laws_heldHungS.L0_lim (x0 : List (S79)) (x1 : Int) (x5 : Int) : Lim (fun k => laws_heldHungS.l0 k x0 x1 x5) (laws_heldHungS.L0 x0 x1 x5) := Lim.of (fun k => (laws_heldHungS.mono_l k) x0 x1 x5)
noncomputable def laws_heldHungS.F (l0 : List (S79)) (a1 : Int) : Option (Int) := lim (fun k => laws_heldHungS.f k l0 a1)
theorem laws_heldHungS.F_lim (l0 : List (S79)) (a1 : Int) : Lim (fun k => laws_heldHungS.f k l0 a1) (laws_heldHungS.F l0 a1) := Lim.of (fun k => laws_heldHungS.mono l0 a1 k)
theorem laws_heldHungS.L0_eq (x0 : List (S79)) (x1 : Int) (x5 : Int) : laws_heldHungS.L0 x0 x1 x5 = if x5 < (x0.length : Int) then (if 0 ≤ x5 then ((laws_markText.F x1).bind fun t359 => (if ((rd_T79 x0 x5).f0).toList = t359.toList then ((laws_heldSpotS.F ((rd_T79 x0 x5).f1) (wrap64 (x1 + 1))).bind fun t361 => (if t361 < 0 then (some (-1)) else (if (((rd_T79 x0 x5).f2) != ((Int.tmod t361 3) == 0)) = true then (some (-1)) else (laws_heldHungS.L0 x0 (wrap64 (t361 + 1)) (wrap64 (x5 + 1)))))) else (some (-1)))) else (none)) else (some x1) := by
  refine Lim.step (f := fun k => if x5 < (x0.length : Int) then (if 0 ≤ x5 then ((laws_markText.f k x1).bind fun t359 => (if ((rd_T79 x0 x5).f0).toList = t359.toList then ((laws_heldSpotS.f k ((rd_T79 x0 x5).f1) (wrap64 (x1 + 1))).bind fun t361 => (if t361 < 0 then (some (-1)) else (if (((rd_T79 x0 x5).f2) != ((Int.tmod t361 3) == 0)) = true then (some (-1)) else (laws_heldHungS.l0 k x0 (wrap64 (t361 + 1)) (wrap64 (x5 + 1)))))) else (some (-1)))) else (none)) else (some x1)) (fun k => (laws_heldHungS.mono_l k) x0 x1 x5) (fun k => by simp only [laws_heldHungS.l0]) ?_
  repeat' first
    | with_reducible exact Lim.const _
    | with_reducible exact laws_heldHungS.L0_lim _ _ _
    | with_reducible exact laws_heldSpotS.F_lim _ _
    | with_reducible exact laws_markText.F_lim _
    | with_reducible refine Lim.ite ?_ ?_
    | with_reducible refine Lim.bind ?_ (fun _ => ?_)
theorem laws_heldHungS.F_eq (l0 : List (S79)) (a1 : Int) : laws_heldHungS.F l0 a1 = laws_heldHungS.L0 l0 a1 0 := by
  refine Lim.eq (g := fun k => laws_heldHungS.f k l0 a1) ?_
  unfold laws_heldHungS.f
  repeat' first
    | with_reducible exact Lim.const _
    | with_reducible exact laws_heldHungS.L0_lim _ _ _
    | with_reducible refine Lim.ite ?_ ?_
    | with_reducible refine Lim.bind ?_ (fun _ => ?_)

noncomputable def laws_heldPlan.F (l0_0 : List (S79)) (a0_1 : Int) (a0_2 : Int) (a1 : Int) : Option (Int) := lim (fun k => laws_heldPlan.f k l0_0 a0_1 a0_2 a1)
theorem laws_heldPlan.F_lim (l0_0 : List (S79)) (a0_1 : Int) (a0_2 : Int) (a1 : Int) : Lim (fun k => laws_heldPlan.f k l0_0 a0_1 a0_2 a1) (laws_heldPlan.F l0_0 a0_1 a0_2 a1) := Lim.of (fun k => laws_heldPlan.mono l0_0 a0_1 a0_2 a1 k)
theorem laws_heldPlan.F_eq (l0_0 : List (S79)) (a0_1 : Int) (a0_2 : Int) (a1 : Int) : laws_heldPlan.F l0_0 a0_1 a0_2 a1 = (laws_heldHungS.F l0_0 a1).bind fun t364 => (if t364 < 0 then (some (-1)) else (some t364)) := by
  refine Lim.eq (g := fun k => laws_heldPlan.f k l0_0 a0_1 a0_2 a1) ?_
  unfold laws_heldPlan.f
  repeat' first
    | with_reducible exact Lim.const _
    | with_reducible exact laws_heldHungS.F_lim _ _
    | with_reducible refine Lim.ite ?_ ?_
    | with_reducible refine Lim.bind ?_ (fun _ => ?_)

noncomputable def laws_FnExactSetSail.J0 (x1 : ByteArray) (x2 : Bool) (x9 : Int) (x12 : Int) (x51 : Bool) (x366000 : List (S74)) (x366001 : Int) (x366002 : Int) (x379000 : List (S79)) (x379001 : Int) (x379002 : Int) (x385000 : List (S79)) (x385001 : Int) (x385002 : Int) (x392000 : List (S79)) (x392001 : Int) (x392002 : Int) : Option (Bool) := lim (fun k => laws_FnExactSetSail.j0 k x1 x2 x9 x12 x51 x366000 x366001 x366002 x379000 x379001 x379002 x385000 x385001 x385002 x392000 x392001 x392002)
theorem laws_FnExactSetSail.J0_lim (x1 : ByteArray) (x2 : Bool) (x9 : Int) (x12 : Int) (x51 : Bool) (x366000 : List (S74)) (x366001 : Int) (x366002 : Int) (x379000 : List (S79)) (x379001 : Int) (x379002 : Int) (x385000 : List (S79)) (x385001 : Int) (x385002 : Int) (x392000 : List (S79)) (x392001 : Int) (x392002 : Int) : Lim (fun k => laws_FnExactSetSail.j0 k x1 x2 x9 x12 x51 x366000 x366001 x366002 x379000 x379001 x379002 x385000 x385001 x385002 x392000 x392001 x392002) (laws_FnExactSetSail.J0 x1 x2 x9 x12 x51 x366000 x366001 x366002 x379000 x379001 x379002 x385000 x385001 x385002 x392000 x392001 x392002) := Lim.of (fun k => (laws_FnExactSetSail.mono_l k).1 x1 x2 x9 x12 x51 x366000 x366001 x366002 x379000 x379001 x379002 x385000 x385001 x385002 x392000 x392001 x392002)
noncomputable def laws_FnExactSetSail.J1 (x1 : ByteArray) (x2 : Bool) (x9 : Int) (x72 : Bool) (x366000 : List (S74)) (x366001 : Int) (x366002 : Int) (x379000 : List (S79)) (x379001 : Int) (x379002 : Int) (x392000 : List (S79)) (x392001 : Int) (x392002 : Int) : Option (Bool) := lim (fun k => laws_FnExactSetSail.j1 k x1 x2 x9 x72 x366000 x366001 x366002 x379000 x379001 x379002 x392000 x392001 x392002)
theorem laws_FnExactSetSail.J1_lim (x1 : ByteArray) (x2 : Bool) (x9 : Int) (x72 : Bool) (x366000 : List (S74)) (x366001 : Int) (x366002 : Int) (x379000 : List (S79)) (x379001 : Int) (x379002 : Int) (x392000 : List (S79)) (x392001 : Int) (x392002 : Int) : Lim (fun k => laws_FnExactSetSail.j1 k x1 x2 x9 x72 x366000 x366001 x366002 x379000 x379001 x379002 x392000 x392001 x392002) (laws_FnExactSetSail.J1 x1 x2 x9 x72 x366000 x366001 x366002 x379000 x379001 x379002 x392000 x392001 x392002) := Lim.of (fun k => (laws_FnExactSetSail.mono_l k).2.1 x1 x2 x9 x72 x366000 x366001 x366002 x379000 x379001 x379002 x392000 x392001 x392002)
noncomputable def laws_FnExactSetSail.J2 (x14 : Int) (x100 : Bool) (x392000 : List (S79)) (x392001 : Int) (x392002 : Int) : Option (Bool) := lim (fun k => laws_FnExactSetSail.j2 k x14 x100 x392000 x392001 x392002)
theorem laws_FnExactSetSail.J2_lim (x14 : Int) (x100 : Bool) (x392000 : List (S79)) (x392001 : Int) (x392002 : Int) : Lim (fun k => laws_FnExactSetSail.j2 k x14 x100 x392000 x392001 x392002) (laws_FnExactSetSail.J2 x14 x100 x392000 x392001 x392002) := Lim.of (fun k => (laws_FnExactSetSail.mono_l k).2.2 x14 x100 x392000 x392001 x392002)
noncomputable def laws_FnExactSetSail.F (l0_0 : List (S74)) (a0_1 : Int) (a0_2 : Int) (a1 : ByteArray) (a2 : Bool) : Option (Bool) := lim (fun k => laws_FnExactSetSail.f k l0_0 a0_1 a0_2 a1 a2)
theorem laws_FnExactSetSail.F_lim (l0_0 : List (S74)) (a0_1 : Int) (a0_2 : Int) (a1 : ByteArray) (a2 : Bool) : Lim (fun k => laws_FnExactSetSail.f k l0_0 a0_1 a0_2 a1 a2) (laws_FnExactSetSail.F l0_0 a0_1 a0_2 a1 a2) := Lim.of (fun k => laws_FnExactSetSail.mono l0_0 a0_1 a0_2 a1 a2 k)
theorem laws_FnExactSetSail.J0_eq (x1 : ByteArray) (x2 : Bool) (x9 : Int) (x12 : Int) (x51 : Bool) (x366000 : List (S74)) (x366001 : Int) (x366002 : Int) (x379000 : List (S79)) (x379001 : Int) (x379002 : Int) (x385000 : List (S79)) (x385001 : Int) (x385002 : Int) (x392000 : List (S79)) (x392001 : Int) (x392002 : Int) : laws_FnExactSetSail.J0 x1 x2 x9 x12 x51 x366000 x366001 x366002 x379000 x379001 x379002 x385000 x385001 x385002 x392000 x392001 x392002 = if x51 = true then (some false) else ((laws_toPlan.F x366000 x366001 x366002).bind fun bt393 => ((laws_eqPlan.F x385000 x385001 x385002 bt393.1 bt393.2.1 bt393.2.2).bind fun t398 => (if t398 = true then ((laws_markPlan.F x385000 x385001 x385002 1).bind fun bt399 => (if bt399.1 < 0 then (laws_FnExactSetSail.J1 x1 x2 x9 true x366000 x366001 x366002 x379000 x379001 x379002 x392000 x392001 x392002) else ((laws_eqPlan.F x392000 x392001 x392002 x379000 x379001 x379002).bind fun t401 => (if t401 = true then (laws_FnExactSetSail.J1 x1 x2 x9 (x12 != x9) x366000 x366001 x366002 x379000 x379001 x379002 x392000 x392001 x392002) else (laws_FnExactSetSail.J1 x1 x2 x9 true x366000 x366001 x366002 x379000 x379001 x379002 x392000 x392001 x392002))))) else (some false)))) := by
  refine Lim.step (f := fun k => if x51 = true then (some false) else ((laws_toPlan.f k x366000 x366001 x366002).bind fun bt393 => ((laws_eqPlan.f k x385000 x385001 x385002 bt393.1 bt393.2.1 bt393.2.2).bind fun t398 => (if t398 = true then ((laws_markPlan.f k x385000 x385001 x385002 1).bind fun bt399 => (if bt399.1 < 0 then (laws_FnExactSetSail.j1 k x1 x2 x9 true x366000 x366001 x366002 x379000 x379001 x379002 x392000 x392001 x392002) else ((laws_eqPlan.f k x392000 x392001 x392002 x379000 x379001 x379002).bind fun t401 => (if t401 = true then (laws_FnExactSetSail.j1 k x1 x2 x9 (x12 != x9) x366000 x366001 x366002 x379000 x379001 x379002 x392000 x392001 x392002) else (laws_FnExactSetSail.j1 k x1 x2 x9 true x366000 x366001 x366002 x379000 x379001 x379002 x392000 x392001 x392002))))) else (some false))))) (fun k => (laws_FnExactSetSail.mono_l k).1 x1 x2 x9 x12 x51 x366000 x366001 x366002 x379000 x379001 x379002 x385000 x385001 x385002 x392000 x392001 x392002) (fun k => by simp only [laws_FnExactSetSail.j0]) ?_
  repeat' first
    | with_reducible exact Lim.const _
    | with_reducible exact laws_FnExactSetSail.J1_lim _ _ _ _ _ _ _ _ _ _ _ _ _
    | with_reducible exact laws_eqPlan.F_lim _ _ _ _ _ _
    | with_reducible exact laws_markPlan.F_lim _ _ _ _
    | with_reducible exact laws_toPlan.F_lim _ _ _
    | with_reducible refine Lim.ite ?_ ?_
    | with_reducible refine Lim.bind ?_ (fun _ => ?_)
theorem laws_FnExactSetSail.J1_eq (x1 : ByteArray) (x2 : Bool) (x9 : Int) (x72 : Bool) (x366000 : List (S74)) (x366001 : Int) (x366002 : Int) (x379000 : List (S79)) (x379001 : Int) (x379002 : Int) (x392000 : List (S79)) (x392001 : Int) (x392002 : Int) : laws_FnExactSetSail.J1 x1 x2 x9 x72 x366000 x366001 x366002 x379000 x379001 x379002 x392000 x392001 x392002 = if x72 = true then (some false) else ((laws_markPlan.F x392000 x392001 x392002 1).bind fun bt402 => ((laws_heldPlan.F bt402.2 x392001 x392002 1).bind fun t404 => (if t404 < 0 then (some false) else (if t404 = bt402.1 then ((laws_toPlan.F x366000 x366001 x366002).bind fun bt405 => ((impl_SetSail.F bt405.1 bt405.2.1 bt405.2.2 x1 x2).bind fun bt410 => ((laws_eqPlan.F bt410.1 bt410.2.1 bt410.2.2.1 x379000 x379001 x379002).bind fun t417 => (if t417 = true then (laws_FnExactSetSail.J2 bt402.1 (bt410.2.2.2 != x9) bt402.2 x392001 x392002) else (laws_FnExactSetSail.J2 bt402.1 true bt402.2 x392001 x392002))))) else (some false))))) := by
  refine Lim.step (f := fun k => if x72 = true then (some false) else ((laws_markPlan.f k x392000 x392001 x392002 1).bind fun bt402 => ((laws_heldPlan.f k bt402.2 x392001 x392002 1).bind fun t404 => (if t404 < 0 then (some false) else (if t404 = bt402.1 then ((laws_toPlan.f k x366000 x366001 x366002).bind fun bt405 => ((impl_SetSail.f k bt405.1 bt405.2.1 bt405.2.2 x1 x2).bind fun bt410 => ((laws_eqPlan.f k bt410.1 bt410.2.1 bt410.2.2.1 x379000 x379001 x379002).bind fun t417 => (if t417 = true then (laws_FnExactSetSail.j2 k bt402.1 (bt410.2.2.2 != x9) bt402.2 x392001 x392002) else (laws_FnExactSetSail.j2 k bt402.1 true bt402.2 x392001 x392002))))) else (some false)))))) (fun k => (laws_FnExactSetSail.mono_l k).2.1 x1 x2 x9 x72 x366000 x366001 x366002 x379000 x379001 x379002 x392000 x392001 x392002) (fun k => by simp only [laws_FnExactSetSail.j1]) ?_
  repeat' first
    | with_reducible exact Lim.const _
    | with_reducible exact impl_SetSail.F_lim _ _ _ _ _
    | with_reducible exact laws_FnExactSetSail.J2_lim _ _ _ _ _
    | with_reducible exact laws_eqPlan.F_lim _ _ _ _ _ _
    | with_reducible exact laws_heldPlan.F_lim _ _ _ _
    | with_reducible exact laws_markPlan.F_lim _ _ _ _
    | with_reducible exact laws_toPlan.F_lim _ _ _
    | with_reducible refine Lim.ite ?_ ?_
    | with_reducible refine Lim.bind ?_ (fun _ => ?_)
theorem laws_FnExactSetSail.J2_eq (x14 : Int) (x100 : Bool) (x392000 : List (S79)) (x392001 : Int) (x392002 : Int) : laws_FnExactSetSail.J2 x14 x100 x392000 x392001 x392002 = if x100 = true then (some false) else ((laws_heldPlan.F x392000 x392001 x392002 1).bind fun t418 => (if t418 < 0 then (some false) else (if t418 = x14 then (some true) else (some false)))) := by
  refine Lim.step (f := fun k => if x100 = true then (some false) else ((laws_heldPlan.f k x392000 x392001 x392002 1).bind fun t418 => (if t418 < 0 then (some false) else (if t418 = x14 then (some true) else (some false))))) (fun k => (laws_FnExactSetSail.mono_l k).2.2 x14 x100 x392000 x392001 x392002) (fun k => by simp only [laws_FnExactSetSail.j2]) ?_
  repeat' first
    | with_reducible exact Lim.const _
    | with_reducible exact laws_heldPlan.F_lim _ _ _ _
    | with_reducible refine Lim.ite ?_ ?_
    | with_reducible refine Lim.bind ?_ (fun _ => ?_)
theorem laws_FnExactSetSail.F_eq (l0_0 : List (S74)) (a0_1 : Int) (a0_2 : Int) (a1 : ByteArray) (a2 : Bool) : laws_FnExactSetSail.F l0_0 a0_1 a0_2 a1 a2 = if (a1.size : Int) > 1048576 then (some true) else ((laws_szPlan.F l0_0 a0_1 a0_2 1048576).bind fun t366 => (if t366 < 0 then (some true) else ((laws_toPlan.F l0_0 a0_1 a0_2).bind fun bt367 => ((spec_SetSail.F bt367.1 bt367.2.1 bt367.2.2 a1 a2).bind fun bt372 => ((laws_toPlan.F l0_0 a0_1 a0_2).bind fun bt379 => ((impl_SetSail.F bt379.1 bt379.2.1 bt379.2.2 a1 a2).bind fun bt385 => ((laws_eqPlan.F bt385.1 bt385.2.1 bt385.2.2.1 bt372.1 bt372.2.1 bt372.2.2.1).bind fun t392 => (if t392 = true then (laws_FnExactSetSail.J0 a1 a2 bt372.2.2.2 bt385.2.2.2 (bt385.2.2.2 != bt372.2.2.2) l0_0 a0_1 a0_2 bt372.1 bt372.2.1 bt372.2.2.1 bt379.1 bt379.2.1 bt379.2.2 bt385.1 bt385.2.1 bt385.2.2.1) else (laws_FnExactSetSail.J0 a1 a2 bt372.2.2.2 bt385.2.2.2 true l0_0 a0_1 a0_2 bt372.1 bt372.2.1 bt372.2.2.1 bt379.1 bt379.2.1 bt379.2.2 bt385.1 bt385.2.1 bt385.2.2.1))))))))) := by
  refine Lim.eq (g := fun k => laws_FnExactSetSail.f k l0_0 a0_1 a0_2 a1 a2) ?_
  unfold laws_FnExactSetSail.f
  repeat' first
    | with_reducible exact Lim.const _
    | with_reducible exact impl_SetSail.F_lim _ _ _ _ _
    | with_reducible exact laws_FnExactSetSail.J0_lim _ _ _ _ _ _ _ _ _ _ _ _ _ _ _ _ _
    | with_reducible exact laws_eqPlan.F_lim _ _ _ _ _ _
    | with_reducible exact laws_szPlan.F_lim _ _ _ _
    | with_reducible exact laws_toPlan.F_lim _ _ _
    | with_reducible exact spec_SetSail.F_lim _ _ _ _ _
    | with_reducible refine Lim.ite ?_ ?_
    | with_reducible refine Lim.bind ?_ (fun _ => ?_)

end Go.Proofs.Ytlphfgbeeckjnaa.PFnExactSetSail
