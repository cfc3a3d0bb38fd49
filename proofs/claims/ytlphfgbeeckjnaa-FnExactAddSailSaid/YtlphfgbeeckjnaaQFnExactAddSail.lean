/-
  Written by a program of this session (wip/tools/lims.py): the printed functions without their bound on rounds.
-/
import Derived.Test.YtlphfgbeeckjnaaPFnExactAddSailx1
import Derived.Test.YtlphfgbeeckjnaaPFnExactAddSailx2
import Derived.Test.YtlphfgbeeckjnaaPFnExactAddSailx3
import Derived.Test.YtlphfgbeeckjnaaPFnExactAddSailx4
import Derived.Test.YtlphfgbeeckjnaaPFnExactAddSailx5
import Derived.Test.YtlphfgbeeckjnaaPFnExactAddSailx6
import Derived.Test.YtlphfgbeeckjnaaPFnExactAddSailx7
import Derived.Test.YtlphfgbeeckjnaaPFnExactAddSailx8
import Derived.Test.YtlphfgbeeckjnaaPFnExactAddSailx9
import Derived.Test.YtlphfgbeeckjnaaPFnExactAddSailx10
import Derived.Test.YtlphfgbeeckjnaaPFnExactAddSailx11
import Derived.Test.YtlphfgbeeckjnaaPFnExactAddSailx12
import Derived.Test.YtlphfgbeeckjnaaPFnExactAddSailx13
import Derived.Test.YtlphfgbeeckjnaaPFnExactAddSailx14
import Derived.Test.YtlphfgbeeckjnaaPFnExactAddSailx15
import Derived.Test.YtlphfgbeeckjnaaPFnExactAddSailx16
import Derived.Test.YtlphfgbeeckjnaaPFnExactAddSailx17
import Derived.Test.YtlphfgbeeckjnaaKit
set_option linter.unusedVariables false
set_option linter.unusedSimpArgs false
namespace Go.Proofs.Ytlphfgbeeckjnaa.PFnExactAddSail
open Go.RowKit Go.Proofs.Ytlphfgbeeckjnaa.Kit Go.Proofs.YtlphfgbeeckjnaaW.PrintWords Go.Proofs.YtlphfgbeeckjnaaW.PrintLast Go.Proofs.YtlphfgbeeckjnaaW.PrintMore

noncomputable def laws_szHungS.L0 (x0 : List (S74)) (x1 : Int) (x5 : Int) : Option (Int) := lim (fun k => laws_szHungS.l0 k x0 x1 x5)
theorem laws_szHungS.L0_lim (x0 : List (S74)) (x1 : Int) (x5 : Int) : Lim (fun k => laws_szHungS.l0 k x0 x1 x5) (laws_szHungS.L0 x0 x1 x5) := Lim.of (fun k => (laws_szHungS.mono_l k) x0 x1 x5)
noncomputable def laws_szHungS.F (l0 : List (S74)) (a1 : Int) : Option (Int) := lim (fun k => laws_szHungS.f k l0 a1)
theorem laws_szHungS.F_lim (l0 : List (S74)) (a1 : Int) : Lim (fun k => laws_szHungS.f k l0 a1) (laws_szHungS.F l0 a1) := Lim.of (fun k => laws_szHungS.mono l0 a1 k)
theorem laws_szHungS.L0_eq (x0 : List (S74)) (x1 : Int) (x5 : Int) : laws_szHungS.L0 x0 x1 x5 = if x5 < (x0.length : Int) then (if 0 ≤ x5 then ((laws_szHung.f ((rd_T74 x0 x5).f0) ((rd_T74 x0 x5).f1) ((rd_T74 x0 x5).f2) x1).bind fun t104 => (if t104 < 0 then (some (-1)) else (laws_szHungS.L0 x0 t104 (wrap64 (x5 + 1))))) else (none)) else (some x1) := by
  refine Lim.step (f := fun k => if x5 < (x0.length : Int) then (if 0 ≤ x5 then ((laws_szHung.f ((rd_T74 x0 x5).f0) ((rd_T74 x0 x5).f1) ((rd_T74 x0 x5).f2) x1).bind fun t104 => (if t104 < 0 then (some (-1)) else (laws_szHungS.l0 k x0 t104 (wrap64 (x5 + 1))))) else (none)) else (some x1)) (fun k => (laws_szHungS.mono_l k) x0 x1 x5) (fun k => by simp only [laws_szHungS.l0]) ?_
  repeat' first
    | with_reducible exact Lim.const _
    | with_reducible exact laws_szHungS.L0_lim _ _ _
    | with_reducible refine Lim.ite ?_ ?_
    | with_reducible refine Lim.bind ?_ (fun _ => ?_)
theorem laws_szHungS.F_eq (l0 : List (S74)) (a1 : Int) : laws_szHungS.F l0 a1 = if (wrap64 (a1 - (l0.length : Int))) < 0 then (some (-1)) else (laws_szHungS.L0 l0 (wrap64 (a1 - (l0.length : Int))) 0) := by
  refine Lim.eq (g := fun k => laws_szHungS.f k l0 a1) ?_
  unfold laws_szHungS.f
  repeat' first
    | with_reducible exact Lim.const _
    | with_reducible exact laws_szHungS.L0_lim _ _ _
    | with_reducible refine Lim.ite ?_ ?_
    | with_reducible refine Lim.bind ?_ (fun _ => ?_)

noncomputable def laws_szPlan.F (l0_0 : List (S74)) (a0_1 : Int) (a0_2 : Int) (a1 : Int) : Option (Int) := lim (fun k => laws_szPlan.f k l0_0 a0_1 a0_2 a1)
theorem laws_szPlan.F_lim (l0_0 : List (S74)) (a0_1 : Int) (a0_2 : Int) (a1 : Int) : Lim (fun k => laws_szPlan.f k l0_0 a0_1 a0_2 a1) (laws_szPlan.F l0_0 a0_1 a0_2 a1) := Lim.of (fun k => laws_szPlan.mono l0_0 a0_1 a0_2 a1 k)
theorem laws_szPlan.F_eq (l0_0 : List (S74)) (a0_1 : Int) (a0_2 : Int) (a1 : Int) : laws_szPlan.F l0_0 a0_1 a0_2 a1 = (laws_szHungS.F l0_0 a1).bind fun t106 => (if t106 < 0 then (some (-1)) else (some t106)) := by
  refine Lim.eq (g := fun k => laws_szPlan.f k l0_0 a0_1 a0_2 a1) ?_
  unfold laws_szPlan.f
  repeat' first
    | with_reducible exact Lim.const _
    | with_reducible exact laws_szHungS.F_lim _ _
    | with_reducible refine Lim.ite ?_ ?_
    | with_reducible refine Lim.bind ?_ (fun _ => ?_)

noncomputable def laws_toSpotS.L0 (x0 : List (S176)) (x3 : List (S129)) (x4 : Int) : Option ((List (S129))) := lim (fun k => laws_toSpotS.l0 k x0 x3 x4)
theorem laws_toSpotS.L0_lim (x0 : List (S176)) (x3 : List (S129)) (x4 : Int) : Lim (fun k => laws_toSpotS.l0 k x0 x3 x4) (laws_toSpotS.L0 x0 x3 x4) := Lim.of (fun k => (laws_toSpotS.mono_l k) x0 x3 x4)
noncomputable def laws_toSpotS.F (l0 : List (S176)) : Option ((List (S129))) := lim (fun k => laws_toSpotS.f k l0)
theorem laws_toSpotS.F_lim (l0 : List (S176)) : Lim (fun k => laws_toSpotS.f k l0) (laws_toSpotS.F l0) := Lim.of (fun k => laws_toSpotS.mono l0 k)
theorem laws_toSpotS.L0_eq (x0 : List (S176)) (x3 : List (S129)) (x4 : Int) : laws_toSpotS.L0 x0 x3 x4 = if x4 < (x0.length : Int) then (if 0 ≤ x4 then ((laws_toSpot.f ((rd_T176 x0 x4).f0) ((rd_T176 x0 x4).f1)).bind fun bt114 => (if x4 < (x3.length : Int) then (laws_toSpotS.L0 x0 (x3.set (x4 : Int).toNat (⟨bt114.1, bt114.2⟩ : S129)) (wrap64 (x4 + 1))) else (none))) else (none)) else (some x3) := by
  refine Lim.step (f := fun k => if x4 < (x0.length : Int) then (if 0 ≤ x4 then ((laws_toSpot.f ((rd_T176 x0 x4).f0) ((rd_T176 x0 x4).f1)).bind fun bt114 => (if x4 < (x3.length : Int) then (laws_toSpotS.l0 k x0 (x3.set (x4 : Int).toNat (⟨bt114.1, bt114.2⟩ : S129)) (wrap64 (x4 + 1))) else (none))) else (none)) else (some x3)) (fun k => (laws_toSpotS.mono_l k) x0 x3 x4) (fun k => by simp only [laws_toSpotS.l0]) ?_
  repeat' first
    | with_reducible exact Lim.const _
    | with_reducible exact laws_toSpotS.L0_lim _ _ _
    | with_reducible refine Lim.ite ?_ ?_
    | with_reducible refine Lim.bind ?_ (fun _ => ?_)
theorem laws_toSpotS.F_eq (l0 : List (S176)) : laws_toSpotS.F l0 = if 0 ≤ (l0.length : Int) then (if ((l0.length : Int) : Int).toNat ≤ 17592186044416 then (laws_toSpotS.L0 l0 (List.replicate ((l0.length : Int) : Int).toNat z129) 0) else (none)) else (none) := by
  refine Lim.eq (g := fun k => laws_toSpotS.f k l0) ?_
  unfold laws_toSpotS.f
  repeat' first
    | with_reducible exact Lim.const _
    | with_reducible exact laws_toSpotS.L0_lim _ _ _
    | with_reducible refine Lim.ite ?_ ?_
    | with_reducible refine Lim.bind ?_ (fun _ => ?_)

noncomputable def laws_toHung.F (a0_0 : ByteArray) (l0_1 : List (S176)) (a0_2 : Bool) : Option (ByteArray × (List (S129)) × Bool) := lim (fun k => laws_toHung.f k a0_0 l0_1 a0_2)
theorem laws_toHung.F_lim (a0_0 : ByteArray) (l0_1 : List (S176)) (a0_2 : Bool) : Lim (fun k => laws_toHung.f k a0_0 l0_1 a0_2) (laws_toHung.F a0_0 l0_1 a0_2) := Lim.of (fun k => laws_toHung.mono a0_0 l0_1 a0_2 k)
theorem laws_toHung.F_eq (a0_0 : ByteArray) (l0_1 : List (S176)) (a0_2 : Bool) : laws_toHung.F a0_0 l0_1 a0_2 = (laws_toSpotS.F l0_1).bind fun t120 => (some (a0_0, t120, a0_2)) := by
  refine Lim.eq (g := fun k => laws_toHung.f k a0_0 l0_1 a0_2) ?_
  unfold laws_toHung.f
  repeat' first
    | with_reducible exact Lim.const _
    | with_reducible exact laws_toSpotS.F_lim _
    | with_reducible refine Lim.ite ?_ ?_
    | with_reducible refine Lim.bind ?_ (fun _ => ?_)

noncomputable def laws_toHungS.L0 (x0 : List (S74)) (x3 : List (S79)) (x4 : Int) : Option ((List (S79))) := lim (fun k => laws_toHungS.l0 k x0 x3 x4)
theorem laws_toHungS.L0_lim (x0 : List (S74)) (x3 : List (S79)) (x4 : Int) : Lim (fun k => laws_toHungS.l0 k x0 x3 x4) (laws_toHungS.L0 x0 x3 x4) := Lim.of (fun k => (laws_toHungS.mono_l k) x0 x3 x4)
noncomputable def laws_toHungS.F (l0 : List (S74)) : Option ((List (S79))) := lim (fun k => laws_toHungS.f k l0)
theorem laws_toHungS.F_lim (l0 : List (S74)) : Lim (fun k => laws_toHungS.f k l0) (laws_toHungS.F l0) := Lim.of (fun k => laws_toHungS.mono l0 k)
theorem laws_toHungS.L0_eq (x0 : List (S74)) (x3 : List (S79)) (x4 : Int) : laws_toHungS.L0 x0 x3 x4 = if x4 < (x0.length : Int) then (if 0 ≤ x4 then ((laws_toHung.F ((rd_T74 x0 x4).f0) ((rd_T74 x0 x4).f1) ((rd_T74 x0 x4).f2)).bind fun bt127 => (if x4 < (x3.length : Int) then (laws_toHungS.L0 x0 (x3.set (x4 : Int).toNat (⟨bt127.1, bt127.2.1, bt127.2.2⟩ : S79)) (wrap64 (x4 + 1))) else (none))) else (none)) else (some x3) := by
  refine Lim.step (f := fun k => if x4 < (x0.length : Int) then (if 0 ≤ x4 then ((laws_toHung.f k ((rd_T74 x0 x4).f0) ((rd_T74 x0 x4).f1) ((rd_T74 x0 x4).f2)).bind fun bt127 => (if x4 < (x3.length : Int) then (laws_toHungS.l0 k x0 (x3.set (x4 : Int).toNat (⟨bt127.1, bt127.2.1, bt127.2.2⟩ : S79)) (wrap64 (x4 + 1))) else (none))) else (none)) else (some x3)) (fun k => (laws_toHungS.mono_l k) x0 x3 x4) (fun k => by simp only [laws_toHungS.l0]) ?_
  repeat' first
    | with_reducible exact Lim.const _
    | with_reducible exact laws_toHung.F_lim _ _ _
    | with_reducible exact laws_toHungS.L0_lim _ _ _
    | with_reducible refine Lim.ite ?_ ?_
    | with_reducible refine Lim.bind ?_ (fun _ => ?_)
theorem laws_toHungS.F_eq (l0 : List (S74)) : laws_toHungS.F l0 = if 0 ≤ (l0.length : Int) then (if ((l0.length : Int) : Int).toNat ≤ 5864062014805 then (laws_toHungS.L0 l0 (List.replicate ((l0.length : Int) : Int).toNat z79) 0) else (none)) else (none) := by
  refine Lim.eq (g := fun k => laws_toHungS.f k l0) ?_
  unfold laws_toHungS.f
  repeat' first
    | with_reducible exact Lim.const _
    | with_reducible exact laws_toHungS.L0_lim _ _ _
    | with_reducible refine Lim.ite ?_ ?_
    | with_reducible refine Lim.bind ?_ (fun _ => ?_)

noncomputable def laws_toPlan.F (l0_0 : List (S74)) (a0_1 : Int) (a0_2 : Int) : Option ((List (S79)) × Int × Int) := lim (fun k => laws_toPlan.f k l0_0 a0_1 a0_2)
theorem laws_toPlan.F_lim (l0_0 : List (S74)) (a0_1 : Int) (a0_2 : Int) : Lim (fun k => laws_toPlan.f k l0_0 a0_1 a0_2) (laws_toPlan.F l0_0 a0_1 a0_2) := Lim.of (fun k => laws_toPlan.mono l0_0 a0_1 a0_2 k)
theorem laws_toPlan.F_eq (l0_0 : List (S74)) (a0_1 : Int) (a0_2 : Int) : laws_toPlan.F l0_0 a0_1 a0_2 = (laws_toHungS.F l0_0).bind fun t136 => (some (t136, a0_1, a0_2)) := by
  refine Lim.eq (g := fun k => laws_toPlan.f k l0_0 a0_1 a0_2) ?_
  unfold laws_toPlan.f
  repeat' first
    | with_reducible exact Lim.const _
    | with_reducible exact laws_toHungS.F_lim _
    | with_reducible refine Lim.ite ?_ ?_
    | with_reducible refine Lim.bind ?_ (fun _ => ?_)

noncomputable def laws_eqSpotS.L0 (x0 : List (S129)) (x1 : List (S129)) (x5 : Int) : Option (Bool) := lim (fun k => laws_eqSpotS.l0 k x0 x1 x5)
theorem laws_eqSpotS.L0_lim (x0 : List (S129)) (x1 : List (S129)) (x5 : Int) : Lim (fun k => laws_eqSpotS.l0 k x0 x1 x5) (laws_eqSpotS.L0 x0 x1 x5) := Lim.of (fun k => (laws_eqSpotS.mono_l k) x0 x1 x5)
noncomputable def laws_eqSpotS.F (l0 : List (S129)) (l1 : List (S129)) : Option (Bool) := lim (fun k => laws_eqSpotS.f k l0 l1)
theorem laws_eqSpotS.F_lim (l0 : List (S129)) (l1 : List (S129)) : Lim (fun k => laws_eqSpotS.f k l0 l1) (laws_eqSpotS.F l0 l1) := Lim.of (fun k => laws_eqSpotS.mono l0 l1 k)
theorem laws_eqSpotS.L0_eq (x0 : List (S129)) (x1 : List (S129)) (x5 : Int) : laws_eqSpotS.L0 x0 x1 x5 = if x5 < (x0.length : Int) then (if 0 ≤ x5 then (if x5 < (x1.length : Int) then ((laws_eqSpot.f ((rd_T129 x0 x5).f0) ((rd_T129 x0 x5).f1) ((rd_T129 x1 x5).f0) ((rd_T129 x1 x5).f1)).bind fun t143 => (if t143 = true then (laws_eqSpotS.L0 x0 x1 (wrap64 (x5 + 1))) else (some false))) else (none)) else (none)) else (some true) := by
  refine Lim.step (f := fun k => if x5 < (x0.length : Int) then (if 0 ≤ x5 then (if x5 < (x1.length : Int) then ((laws_eqSpot.f ((rd_T129 x0 x5).f0) ((rd_T129 x0 x5).f1) ((rd_T129 x1 x5).f0) ((rd_T129 x1 x5).f1)).bind fun t143 => (if t143 = true then (laws_eqSpotS.l0 k x0 x1 (wrap64 (x5 + 1))) else (some false))) else (none)) else (none)) else (some true)) (fun k => (laws_eqSpotS.mono_l k) x0 x1 x5) (fun k => by simp only [laws_eqSpotS.l0]) ?_
  repeat' first
    | with_reducible exact Lim.const _
    | with_reducible exact laws_eqSpotS.L0_lim _ _ _
    | with_reducible refine Lim.ite ?_ ?_
    | with_reducible refine Lim.bind ?_ (fun _ => ?_)
theorem laws_eqSpotS.F_eq (l0 : List (S129)) (l1 : List (S129)) : laws_eqSpotS.F l0 l1 = if (l0.length : Int) = (l1.length : Int) then (laws_eqSpotS.L0 l0 l1 0) else (some false) := by
  refine Lim.eq (g := fun k => laws_eqSpotS.f k l0 l1) ?_
  unfold laws_eqSpotS.f
  repeat' first
    | with_reducible exact Lim.const _
    | with_reducible exact laws_eqSpotS.L0_lim _ _ _
    | with_reducible refine Lim.ite ?_ ?_
    | with_reducible refine Lim.bind ?_ (fun _ => ?_)

noncomputable def laws_eqHung.F (a0_0 : ByteArray) (l0_1 : List (S129)) (a0_2 : Bool) (a1_0 : ByteArray) (l1_1 : List (S129)) (a1_2 : Bool) : Option (Bool) := lim (fun k => laws_eqHung.f k a0_0 l0_1 a0_2 a1_0 l1_1 a1_2)
theorem laws_eqHung.F_lim (a0_0 : ByteArray) (l0_1 : List (S129)) (a0_2 : Bool) (a1_0 : ByteArray) (l1_1 : List (S129)) (a1_2 : Bool) : Lim (fun k => laws_eqHung.f k a0_0 l0_1 a0_2 a1_0 l1_1 a1_2) (laws_eqHung.F a0_0 l0_1 a0_2 a1_0 l1_1 a1_2) := Lim.of (fun k => laws_eqHung.mono a0_0 l0_1 a0_2 a1_0 l1_1 a1_2 k)
theorem laws_eqHung.F_eq (a0_0 : ByteArray) (l0_1 : List (S129)) (a0_2 : Bool) (a1_0 : ByteArray) (l1_1 : List (S129)) (a1_2 : Bool) : laws_eqHung.F a0_0 l0_1 a0_2 a1_0 l1_1 a1_2 = if a0_0.toList = a1_0.toList then ((laws_eqSpotS.F l0_1 l1_1).bind fun t146 => (if t146 = true then (if (a0_2 != a1_2) = true then (some false) else (some true)) else (some false))) else (some false) := by
  refine Lim.eq (g := fun k => laws_eqHung.f k a0_0 l0_1 a0_2 a1_0 l1_1 a1_2) ?_
  unfold laws_eqHung.f
  repeat' first
    | with_reducible exact Lim.const _
    | with_reducible exact laws_eqSpotS.F_lim _ _
    | with_reducible refine Lim.ite ?_ ?_
    | with_reducible refine Lim.bind ?_ (fun _ => ?_)

noncomputable def laws_eqHungS.L0 (x0 : List (S79)) (x1 : List (S79)) (x5 : Int) : Option (Bool) := lim (fun k => laws_eqHungS.l0 k x0 x1 x5)
theorem laws_eqHungS.L0_lim (x0 : List (S79)) (x1 : List (S79)) (x5 : Int) : Lim (fun k => laws_eqHungS.l0 k x0 x1 x5) (laws_eqHungS.L0 x0 x1 x5) := Lim.of (fun k => (laws_eqHungS.mono_l k) x0 x1 x5)
noncomputable def laws_eqHungS.F (l0 : List (S79)) (l1 : List (S79)) : Option (Bool) := lim (fun k => laws_eqHungS.f k l0 l1)
theorem laws_eqHungS.F_lim (l0 : List (S79)) (l1 : List (S79)) : Lim (fun k => laws_eqHungS.f k l0 l1) (laws_eqHungS.F l0 l1) := Lim.of (fun k => laws_eqHungS.mono l0 l1 k)
theorem laws_eqHungS.L0_eq (x0 : List (S79)) (x1 : List (S79)) (x5 : Int) : laws_eqHungS.L0 x0 x1 x5 = if x5 < (x0.length : Int) then (if 0 ≤ x5 then (if x5 < (x1.length : Int) then ((laws_eqHung.F ((rd_T79 x0 x5).f0) ((rd_T79 x0 x5).f1) ((rd_T79 x0 x5).f2) ((rd_T79 x1 x5).f0) ((rd_T79 x1 x5).f1) ((rd_T79 x1 x5).f2)).bind fun t149 => (if t149 = true then (laws_eqHungS.L0 x0 x1 (wrap64 (x5 + 1))) else (some false))) else (none)) else (none)) else (some true) := by
  refine Lim.step (f := fun k => if x5 < (x0.length : Int) then (if 0 ≤ x5 then (if x5 < (x1.length : Int) then ((laws_eqHung.f k ((rd_T79 x0 x5).f0) ((rd_T79 x0 x5).f1) ((rd_T79 x0 x5).f2) ((rd_T79 x1 x5).f0) ((rd_T79 x1 x5).f1) ((rd_T79 x1 x5).f2)).bind fun t149 => (if t149 = true then (laws_eqHungS.l0 k x0 x1 (wrap64 (x5 + 1))) else (some false))) else (none)) else (none)) else (some true)) (fun k => (laws_eqHungS.mono_l k) x0 x1 x5) (fun k => by simp only [laws_eqHungS.l0]) ?_
  repeat' first
    | with_reducible exact Lim.const _
    | with_reducible exact laws_eqHung.F_lim _ _ _ _ _ _
    | with_reducible exact laws_eqHungS.L0_lim _ _ _
    | with_reducible refine Lim.ite ?_ ?_
    | with_reducible refine Lim.bind ?_ (fun _ => ?_)
theorem laws_eqHungS.F_eq (l0 : List (S79)) (l1 : List (S79)) : laws_eqHungS.F l0 l1 = if (l0.length : Int) = (l1.length : Int) then (laws_eqHungS.L0 l0 l1 0) else (some false) := by
  refine Lim.eq (g := fun k => laws_eqHungS.f k l0 l1) ?_
  unfold laws_eqHungS.f
  repeat' first
    | with_reducible exact Lim.const _
    | with_reducible exact laws_eqHungS.L0_lim _ _ _
    | with_reducible refine Lim.ite ?_ ?_
    | with_reducible refine Lim.bind ?_ (fun _ => ?_)

noncomputable def laws_eqPlan.F (l0_0 : List (S79)) (a0_1 : Int) (a0_2 : Int) (l1_0 : List (S79)) (a1_1 : Int) (a1_2 : Int) : Option (Bool) := lim (fun k => laws_eqPlan.f k l0_0 a0_1 a0_2 l1_0 a1_1 a1_2)
theorem laws_eqPlan.F_lim (l0_0 : List (S79)) (a0_1 : Int) (a0_2 : Int) (l1_0 : List (S79)) (a1_1 : Int) (a1_2 : Int) : Lim (fun k => laws_eqPlan.f k l0_0 a0_1 a0_2 l1_0 a1_1 a1_2) (laws_eqPlan.F l0_0 a0_1 a0_2 l1_0 a1_1 a1_2) := Lim.of (fun k => laws_eqPlan.mono l0_0 a0_1 a0_2 l1_0 a1_1 a1_2 k)
theorem laws_eqPlan.F_eq (l0_0 : List (S79)) (a0_1 : Int) (a0_2 : Int) (l1_0 : List (S79)) (a1_1 : Int) (a1_2 : Int) : laws_eqPlan.F l0_0 a0_1 a0_2 l1_0 a1_1 a1_2 = (laws_eqHungS.F l0_0 l1_0).bind fun t152 => (if t152 = true then (if a0_1 = a1_1 then (if a0_2 = a1_2 then (some true) else (some false)) else (some false)) else (some false)) := by
  refine Lim.eq (g := fun k => laws_eqPlan.f k l0_0 a0_1 a0_2 l1_0 a1_1 a1_2) ?_
  unfold laws_eqPlan.f
  repeat' first
    | with_reducible exact Lim.const _
    | with_reducible exact laws_eqHungS.F_lim _ _
    | with_reducible refine Lim.ite ?_ ?_
    | with_reducible refine Lim.bind ?_ (fun _ => ?_)

noncomputable def laws_markSpotS.L0 (x0 : List (S129)) (x1 : Int) (x5 : Int) : Option (Int × (List (S129))) := lim (fun k => laws_markSpotS.l0 k x0 x1 x5)
theorem laws_markSpotS.L0_lim (x0 : List (S129)) (x1 : Int) (x5 : Int) : Lim (fun k => laws_markSpotS.l0 k x0 x1 x5) (laws_markSpotS.L0 x0 x1 x5) := Lim.of (fun k => (laws_markSpotS.mono_l k) x0 x1 x5)
noncomputable def laws_markSpotS.F (l0 : List (S129)) (a1 : Int) : Option (Int × (List (S129))) := lim (fun k => laws_markSpotS.f k l0 a1)
theorem laws_markSpotS.F_lim (l0 : List (S129)) (a1 : Int) : Lim (fun k => laws_markSpotS.f k l0 a1) (laws_markSpotS.F l0 a1) := Lim.of (fun k => laws_markSpotS.mono l0 a1 k)
theorem laws_markSpotS.L0_eq (x0 : List (S129)) (x1 : Int) (x5 : Int) : laws_markSpotS.L0 x0 x1 x5 = if x5 < (x0.length : Int) then (if 0 ≤ x5 then ((some (x0.set (x5 : Int).toNat (⟨x1, (rd_T129 x0 x5).f1⟩ : S129) : List (S129))).bind fun y153 => (laws_markSpotS.L0 (y153.set (x5 : Int).toNat (⟨(rd_T129 y153 x5).f0, wrap64 (x1 + 1)⟩ : S129)) (wrap64 ((wrap64 (x1 + 1)) + 1)) (wrap64 (x5 + 1)))) else (none)) else (some (x1, x0)) := by
  refine Lim.step (f := fun k => if x5 < (x0.length : Int) then (if 0 ≤ x5 then ((some (x0.set (x5 : Int).toNat (⟨x1, (rd_T129 x0 x5).f1⟩ : S129) : List (S129))).bind fun y153 => (laws_markSpotS.l0 k (y153.set (x5 : Int).toNat (⟨(rd_T129 y153 x5).f0, wrap64 (x1 + 1)⟩ : S129)) (wrap64 ((wrap64 (x1 + 1)) + 1)) (wrap64 (x5 + 1)))) else (none)) else (some (x1, x0))) (fun k => (laws_markSpotS.mono_l k) x0 x1 x5) (fun k => by simp only [laws_markSpotS.l0]) ?_
  repeat' first
    | with_reducible exact Lim.const _
    | with_reducible exact laws_markSpotS.L0_lim _ _ _
    | with_reducible refine Lim.ite ?_ ?_
    | with_reducible refine Lim.bind ?_ (fun _ => ?_)
theorem laws_markSpotS.F_eq (l0 : List (S129)) (a1 : Int) : laws_markSpotS.F l0 a1 = laws_markSpotS.L0 l0 a1 0 := by
  refine Lim.eq (g := fun k => laws_markSpotS.f k l0 a1) ?_
  unfold laws_markSpotS.f
  repeat' first
    | with_reducible exact Lim.const _
    | with_reducible exact laws_markSpotS.L0_lim _ _ _
    | with_reducible refine Lim.ite ?_ ?_
    | with_reducible refine Lim.bind ?_ (fun _ => ?_)

noncomputable def laws_markText.L0 (x0 : Int) (x3 : ByteArray) : Option (ByteArray) := lim (fun k => laws_markText.l0 k x0 x3)
theorem laws_markText.L0_lim (x0 : Int) (x3 : ByteArray) : Lim (fun k => laws_markText.l0 k x0 x3) (laws_markText.L0 x0 x3) := Lim.of (fun k => (laws_markText.mono_l k) x0 x3)
noncomputable def laws_markText.F (a0 : Int) : Option (ByteArray) := lim (fun k => laws_markText.f k a0)
theorem laws_markText.F_lim (a0 : Int) : Lim (fun k => laws_markText.f k a0) (laws_markText.F a0) := Lim.of (fun k => laws_markText.mono a0 k)
theorem laws_markText.L0_eq (x0 : Int) (x3 : ByteArray) : laws_markText.L0 x0 x3 = if x0 > 0 then ((some (([(wrap64 (48 + (Int.tmod x0 10))) % 256] : List Int) : List Int)).bind fun y155 => (if (strOfNums y155).size + x3.size ≤ 9223372036854775807 then (laws_markText.L0 (wrap64 (Int.tdiv x0 10)) ((strOfNums y155) ++ x3)) else (none))) else (if 1 + x3.size ≤ 9223372036854775807 then (some ((⟨#[109]⟩ : ByteArray) ++ x3)) else (none)) := by
  refine Lim.step (f := fun k => if x0 > 0 then ((some (([(wrap64 (48 + (Int.tmod x0 10))) % 256] : List Int) : List Int)).bind fun y155 => (if (strOfNums y155).size + x3.size ≤ 9223372036854775807 then (laws_markText.l0 k (wrap64 (Int.tdiv x0 10)) ((strOfNums y155) ++ x3)) else (none))) else (if 1 + x3.size ≤ 9223372036854775807 then (some ((⟨#[109]⟩ : ByteArray) ++ x3)) else (none))) (fun k => (laws_markText.mono_l k) x0 x3) (fun k => by simp only [laws_markText.l0]) ?_
  repeat' first
    | with_reducible exact Lim.const _
    | with_reducible exact laws_markText.L0_lim _ _
    | with_reducible refine Lim.ite ?_ ?_
    | with_reducible refine Lim.bind ?_ (fun _ => ?_)
theorem laws_markText.F_eq (a0 : Int) : laws_markText.F a0 = if a0 ≤ 0 then (some (⟨#[109, 48]⟩ : ByteArray)) else (laws_markText.L0 a0 (⟨#[]⟩ : ByteArray)) := by
  refine Lim.eq (g := fun k => laws_markText.f k a0) ?_
  unfold laws_markText.f
  repeat' first
    | with_reducible exact Lim.const _
    | with_reducible exact laws_markText.L0_lim _ _
    | with_reducible refine Lim.ite ?_ ?_
    | with_reducible refine Lim.bind ?_ (fun _ => ?_)

noncomputable def laws_markHungS.L0 (x0 : List (S79)) (x1 : Int) (x2 : Int) : Option (Int × (List (S79))) := lim (fun k => laws_markHungS.l0 k x0 x1 x2)
theorem laws_markHungS.L0_lim (x0 : List (S79)) (x1 : Int) (x2 : Int) : Lim (fun k => laws_markHungS.l0 k x0 x1 x2) (laws_markHungS.L0 x0 x1 x2) := Lim.of (fun k => (laws_markHungS.mono_l k) x0 x1 x2)
noncomputable def laws_markHungS.F (l0 : List (S79)) (a1 : Int) : Option (Int × (List (S79))) := lim (fun k => laws_markHungS.f k l0 a1)
theorem laws_markHungS.F_lim (l0 : List (S79)) (a1 : Int) : Lim (fun k => laws_markHungS.f k l0 a1) (laws_markHungS.F l0 a1) := Lim.of (fun k => laws_markHungS.mono l0 a1 k)
theorem laws_markHungS.L0_eq (x0 : List (S79)) (x1 : Int) (x2 : Int) : laws_markHungS.L0 x0 x1 x2 = if x2 < (x0.length : Int) then (if 0 ≤ x2 then ((laws_markText.F x1).bind fun t1 => ((laws_markSpotS.F ((rd_T79 x0 x2).f1) (wrap64 (x1 + 1))).bind fun bt1 => (laws_markHungS.L0 (x0.set (x2 : Int).toNat (⟨t1, bt1.2, (Int.tmod bt1.1 3) == 0⟩ : S79)) (wrap64 (bt1.1 + 1)) (wrap64 (x2 + 1))))) else (none)) else (some (x1, x0)) := by
  refine Lim.step (f := fun k => if x2 < (x0.length : Int) then (if 0 ≤ x2 then ((laws_markText.f k x1).bind fun t1 => ((laws_markSpotS.f k ((rd_T79 x0 x2).f1) (wrap64 (x1 + 1))).bind fun bt1 => (laws_markHungS.l0 k (x0.set (x2 : Int).toNat (⟨t1, bt1.2, (Int.tmod bt1.1 3) == 0⟩ : S79)) (wrap64 (bt1.1 + 1)) (wrap64 (x2 + 1))))) else (none)) else (some (x1, x0))) (fun k => (laws_markHungS.mono_l k) x0 x1 x2) (fun k => by simp only [laws_markHungS.l0]) ?_
  repeat' first
    | with_reducible exact Lim.const _
    | with_reducible exact laws_markHungS.L0_lim _ _ _
    | with_reducible exact laws_markSpotS.F_lim _ _
    | with_reducible exact laws_markText.F_lim _
    | with_reducible refine Lim.ite ?_ ?_
    | with_reducible refine Lim.bind ?_ (fun _ => ?_)
theorem laws_markHungS.F_eq (l0 : List (S79)) (a1 : Int) : laws_markHungS.F l0 a1 = laws_markHungS.L0 l0 a1 0 := by
  refine Lim.eq (g := fun k => laws_markHungS.f k l0 a1) ?_
  unfold laws_markHungS.f
  repeat' first
    | with_reducible exact Lim.const _
    | with_reducible exact laws_markHungS.L0_lim _ _ _
    | with_reducible refine Lim.ite ?_ ?_
    | with_reducible refine Lim.bind ?_ (fun _ => ?_)

noncomputable def laws_markPlan.F (l0_0 : List (S79)) (a0_1 : Int) (a0_2 : Int) (a1 : Int) : Option (Int × (List (S79))) := lim (fun k => laws_markPlan.f k l0_0 a0_1 a0_2 a1)
theorem laws_markPlan.F_lim (l0_0 : List (S79)) (a0_1 : Int) (a0_2 : Int) (a1 : Int) : Lim (fun k => laws_markPlan.f k l0_0 a0_1 a0_2 a1) (laws_markPlan.F l0_0 a0_1 a0_2 a1) := Lim.of (fun k => laws_markPlan.mono l0_0 a0_1 a0_2 a1 k)
theorem laws_markPlan.F_eq (l0_0 : List (S79)) (a0_1 : Int) (a0_2 : Int) (a1 : Int) : laws_markPlan.F l0_0 a0_1 a0_2 a1 = laws_markHungS.F l0_0 a1 := by
  refine Lim.eq (g := fun k => laws_markPlan.f k l0_0 a0_1 a0_2 a1) ?_
  unfold laws_markPlan.f
  repeat' first
    | with_reducible exact Lim.const _
    | with_reducible exact laws_markHungS.F_lim _ _
    | with_reducible refine Lim.ite ?_ ?_
    | with_reducible refine Lim.bind ?_ (fun _ => ?_)

noncomputable def laws_heldSpotS.L0 (x0 : List (S129)) (x1 : Int) (x5 : Int) : Option (Int) := lim (fun k => laws_heldSpotS.l0 k x0 x1 x5)
theorem laws_heldSpotS.L0_lim (x0 : List (S129)) (x1 : Int) (x5 : Int) : Lim (fun k => laws_heldSpotS.l0 k x0 x1 x5) (laws_heldSpotS.L0 x0 x1 x5) := Lim.of (fun k => (laws_heldSpotS.mono_l k) x0 x1 x5)
noncomputable def laws_heldSpotS.F (l0 : List (S129)) (a1 : Int) : Option (Int) := lim (fun k => laws_heldSpotS.f k l0 a1)
theorem laws_heldSpotS.F_lim (l0 : List (S129)) (a1 : Int) : Lim (fun k => laws_heldSpotS.f k l0 a1) (laws_heldSpotS.F l0 a1) := Lim.of (fun k => laws_heldSpotS.mono l0 a1 k)
theorem laws_heldSpotS.L0_eq (x0 : List (S129)) (x1 : Int) (x5 : Int) : laws_heldSpotS.L0 x0 x1 x5 = if x5 < (x0.length : Int) then (if 0 ≤ x5 then (if ((rd_T129 x0 x5).f0) = x1 then (if ((rd_T129 x0 x5).f1) = (wrap64 (x1 + 1)) then (laws_heldSpotS.L0 x0 (wrap64 ((wrap64 (x1 + 1)) + 1)) (wrap64 (x5 + 1))) else (some (-1))) else (some (-1))) else (none)) else (some x1) := by
  refine Lim.step (f := fun k => if x5 < (x0.length : Int) then (if 0 ≤ x5 then (if ((rd_T129 x0 x5).f0) = x1 then (if ((rd_T129 x0 x5).f1) = (wrap64 (x1 + 1)) then (laws_heldSpotS.l0 k x0 (wrap64 ((wrap64 (x1 + 1)) + 1)) (wrap64 (x5 + 1))) else (some (-1))) else (some (-1))) else (none)) else (some x1)) (fun k => (laws_heldSpotS.mono_l k) x0 x1 x5) (fun k => by simp only [laws_heldSpotS.l0]) ?_
  repeat' first
    | with_reducible exact Lim.const _
    | with_reducible exact laws_heldSpotS.L0_lim _ _ _
    | with_reducible refine Lim.ite ?_ ?_
    | with_reducible refine Lim.bind ?_ (fun _ => ?_)
theorem laws_heldSpotS.F_eq (l0 : List (S129)) (a1 : Int) : laws_heldSpotS.F l0 a1 = laws_heldSpotS.L0 l0 a1 0 := by
  refine Lim.eq (g := fun k => laws_heldSpotS.f k l0 a1) ?_
  unfold laws_heldSpotS.f
  repeat' first
    | with_reducible exact Lim.const _
    | with_reducible exact laws_heldSpotS.L0_lim _ _ _
    | with_reducible refine Lim.ite ?_ ?_
    | with_reducible refine Lim.bind ?_ (fun _ => ?_)

noncomputable def laws_heldHungS.L0 (x0 : List (S79)) (x1 : Int) (x5 : Int) : Option (Int) := lim (fun k => laws_heldHungS.l0 k x0 x1 x5)
theorem laws_heldHungS.L0_lim (x0 : List (S79)) (x1 : Int) (x5 : Int) : Lim (fun k => laws_heldHungS.l0 k x0 x1 x5) (laws_heldHungS.L0 x0 x1 x5) := Lim.of (fun k => (laws_heldHungS.mono_l k) x0 x1 x5)
noncomputable def laws_heldHungS.F (l0 : List (S79)) (a1 : Int) : Option (Int) := lim (fun k => laws_heldHungS.f k l0 a1)
theorem laws_heldHungS.F_lim (l0 : List (S79)) (a1 : Int) : Lim (fun k => laws_heldHungS.f k l0 a1) (laws_heldHungS.F l0 a1) := Lim.of (fun k => laws_heldHungS.mono l0 a1 k)
theorem laws_heldHungS.L0_eq (x0 : List (S79)) (x1 : Int) (x5 : Int) : laws_heldHungS.L0 x0 x1 x5 = if x5 < (x0.length : Int) then (if 0 ≤ x5 then ((laws_markText.F x1).bind fun t161 => (if ((rd_T79 x0 x5).f0).toList = t161.toList then ((laws_heldSpotS.F ((rd_T79 x0 x5).f1) (wrap64 (x1 + 1))).bind fun t163 => (if t163 < 0 then (some (-1)) else (if (((rd_T79 x0 x5).f2) != ((Int.tmod t163 3) == 0)) = true then (some (-1)) else (laws_heldHungS.L0 x0 (wrap64 (t163 + 1)) (wrap64 (x5 + 1)))))) else (some (-1)))) else (none)) else (some x1) := by
  refine Lim.step (f := fun k => if x5 < (x0.length : Int) then (if 0 ≤ x5 then ((laws_markText.f k x1).bind fun t161 => (if ((rd_T79 x0 x5).f0).toList = t161.toList then ((laws_heldSpotS.f k ((rd_T79 x0 x5).f1) (wrap64 (x1 + 1))).bind fun t163 => (if t163 < 0 then (some (-1)) else (if (((rd_T79 x0 x5).f2) != ((Int.tmod t163 3) == 0)) = true then (some (-1)) else (laws_heldHungS.l0 k x0 (wrap64 (t163 + 1)) (wrap64 (x5 + 1)))))) else (some (-1)))) else (none)) else (some x1)) (fun k => (laws_heldHungS.mono_l k) x0 x1 x5) (fun k => by simp only [laws_heldHungS.l0]) ?_
  repeat' first
    | with_reducible exact Lim.const _
    | with_reducible exact laws_heldHungS.L0_lim _ _ _
    | with_reducible exact laws_heldSpotS.F_lim _ _
    | with_reducible exact laws_markText.F_lim _
    | with_reducible refine Lim.ite ?_ ?_
    | with_reducible refine Lim.bind ?_ (fun _ => ?_)
theorem laws_heldHungS.F_eq (l0 : List (S79)) (a1 : Int) : laws_heldHungS.F l0 a1 = laws_heldHungS.L0 l0 a1 0 := by
  refine Lim.eq (g := fun k => laws_heldHungS.f k l0 a1) ?_
  unfold laws_heldHungS.f
  repeat' first
    | with_reducible exact Lim.const _
    | with_reducible exact laws_heldHungS.L0_lim _ _ _
    | with_reducible refine Lim.ite ?_ ?_
    | with_reducible refine Lim.bind ?_ (fun _ => ?_)

noncomputable def laws_heldPlan.F (l0_0 : List (S79)) (a0_1 : Int) (a0_2 : Int) (a1 : Int) : Option (Int) := lim (fun k => laws_heldPlan.f k l0_0 a0_1 a0_2 a1)
theorem laws_heldPlan.F_lim (l0_0 : List (S79)) (a0_1 : Int) (a0_2 : Int) (a1 : Int) : Lim (fun k => laws_heldPlan.f k l0_0 a0_1 a0_2 a1) (laws_heldPlan.F l0_0 a0_1 a0_2 a1) := Lim.of (fun k => laws_heldPlan.mono l0_0 a0_1 a0_2 a1 k)
theorem laws_heldPlan.F_eq (l0_0 : List (S79)) (a0_1 : Int) (a0_2 : Int) (a1 : Int) : laws_heldPlan.F l0_0 a0_1 a0_2 a1 = (laws_heldHungS.F l0_0 a1).bind fun t166 => (if t166 < 0 then (some (-1)) else (some t166)) := by
  refine Lim.eq (g := fun k => laws_heldPlan.f k l0_0 a0_1 a0_2 a1) ?_
  unfold laws_heldPlan.f
  repeat' first
    | with_reducible exact Lim.const _
    | with_reducible exact laws_heldHungS.F_lim _ _
    | with_reducible refine Lim.ite ?_ ?_
    | with_reducible refine Lim.bind ?_ (fun _ => ?_)

noncomputable def spec_l17Find.L0 (x0 : List (S64)) (x1 : ByteArray) (x5 : Int) : Option (Int) := lim (fun k => spec_l17Find.l0 k x0 x1 x5)
theorem spec_l17Find.L0_lim (x0 : List (S64)) (x1 : ByteArray) (x5 : Int) : Lim (fun k => spec_l17Find.l0 k x0 x1 x5) (spec_l17Find.L0 x0 x1 x5) := Lim.of (fun k => (spec_l17Find.mono_l k) x0 x1 x5)
noncomputable def spec_l17Find.F (l0 : List (S64)) (a1 : ByteArray) : Option (Int) := lim (fun k => spec_l17Find.f k l0 a1)
theorem spec_l17Find.F_lim (l0 : List (S64)) (a1 : ByteArray) : Lim (fun k => spec_l17Find.f k l0 a1) (spec_l17Find.F l0 a1) := Lim.of (fun k => spec_l17Find.mono l0 a1 k)
theorem spec_l17Find.L0_eq (x0 : List (S64)) (x1 : ByteArray) (x5 : Int) : spec_l17Find.L0 x0 x1 x5 = if x5 < (((rd_T64 x0 0).f0).length : Int) then (if 0 ≤ x5 then (if ((rd_T79 ((rd_T64 x0 0).f0) x5).f0).toList = x1.toList then (some x5) else (spec_l17Find.L0 x0 x1 (wrap64 (x5 + 1)))) else (none)) else (some (-1)) := by
  refine Lim.step (f := fun k => if x5 < (((rd_T64 x0 0).f0).length : Int) then (if 0 ≤ x5 then (if ((rd_T79 ((rd_T64 x0 0).f0) x5).f0).toList = x1.toList then (some x5) else (spec_l17Find.l0 k x0 x1 (wrap64 (x5 + 1)))) else (none)) else (some (-1))) (fun k => (spec_l17Find.mono_l k) x0 x1 x5) (fun k => by simp only [spec_l17Find.l0]) ?_
  repeat' first
    | with_reducible exact Lim.const _
    | with_reducible exact spec_l17Find.L0_lim _ _ _
    | with_reducible refine Lim.ite ?_ ?_
    | with_reducible refine Lim.bind ?_ (fun _ => ?_)
theorem spec_l17Find.F_eq (l0 : List (S64)) (a1 : ByteArray) : spec_l17Find.F l0 a1 = if 0 < (l0.length : Int) then (spec_l17Find.L0 l0 a1 0) else (none) := by
  refine Lim.eq (g := fun k => spec_l17Find.f k l0 a1) ?_
  unfold spec_l17Find.f
  repeat' first
    | with_reducible exact Lim.const _
    | with_reducible exact spec_l17Find.L0_lim _ _ _
    | with_reducible refine Lim.ite ?_ ?_
    | with_reducible refine Lim.bind ?_ (fun _ => ?_)

noncomputable def spec_IsName.J0 (x0 : ByteArray) (x16 : Bool) : Option (Bool) := lim (fun k => spec_IsName.j0 k x0 x16)
theorem spec_IsName.J0_lim (x0 : ByteArray) (x16 : Bool) : Lim (fun k => spec_IsName.j0 k x0 x16) (spec_IsName.J0 x0 x16) := Lim.of (fun k => (spec_IsName.mono_l k).1 x0 x16)
noncomputable def spec_IsName.L0 (x0 : ByteArray) (x3 : Int) : Option (Bool) := lim (fun k => spec_IsName.l0 k x0 x3)
theorem spec_IsName.L0_lim (x0 : ByteArray) (x3 : Int) : Lim (fun k => spec_IsName.l0 k x0 x3) (spec_IsName.L0 x0 x3) := Lim.of (fun k => (spec_IsName.mono_l k).2 x0 x3)
noncomputable def spec_IsName.F (a0 : ByteArray) : Option (Bool) := lim (fun k => spec_IsName.f k a0)
theorem spec_IsName.F_lim (a0 : ByteArray) : Lim (fun k => spec_IsName.f k a0) (spec_IsName.F a0) := Lim.of (fun k => spec_IsName.mono a0 k)
theorem spec_IsName.J0_eq (x0 : ByteArray) (x16 : Bool) : spec_IsName.J0 x0 x16 = if x16 = true then (some false) else (spec_IsName.L0 x0 0) := by
  refine Lim.step (f := fun k => if x16 = true then (some false) else (spec_IsName.l0 k x0 0)) (fun k => (spec_IsName.mono_l k).1 x0 x16) (fun k => by simp only [spec_IsName.j0]) ?_
  repeat' first
    | with_reducible exact Lim.const _
    | with_reducible exact spec_IsName.L0_lim _ _
    | with_reducible refine Lim.ite ?_ ?_
    | with_reducible refine Lim.bind ?_ (fun _ => ?_)
theorem spec_IsName.L0_eq (x0 : ByteArray) (x3 : Int) : spec_IsName.L0 x0 x3 = if x3 < (x0.size : Int) then (if 0 ≤ x3 then ((spec_l01Small.f (bt x0 x3)).bind fun t172 => (if t172 = true then (spec_IsName.L0 x0 (wrap64 (x3 + 1))) else ((spec_l01Digit.f (bt x0 x3)).bind fun t173 => (if t173 = true then (spec_IsName.L0 x0 (wrap64 (x3 + 1))) else (if (bt x0 x3) = 45 then (spec_IsName.L0 x0 (wrap64 (x3 + 1))) else (some false)))))) else (none)) else (some true) := by
  refine Lim.step (f := fun k => if x3 < (x0.size : Int) then (if 0 ≤ x3 then ((spec_l01Small.f (bt x0 x3)).bind fun t172 => (if t172 = true then (spec_IsName.l0 k x0 (wrap64 (x3 + 1))) else ((spec_l01Digit.f (bt x0 x3)).bind fun t173 => (if t173 = true then (spec_IsName.l0 k x0 (wrap64 (x3 + 1))) else (if (bt x0 x3) = 45 then (spec_IsName.l0 k x0 (wrap64 (x3 + 1))) else (some false)))))) else (none)) else (some true)) (fun k => (spec_IsName.mono_l k).2 x0 x3) (fun k => by simp only [spec_IsName.l0]) ?_
  repeat' first
    | with_reducible exact Lim.const _
    | with_reducible exact spec_IsName.L0_lim _ _
    | with_reducible refine Lim.ite ?_ ?_
    | with_reducible refine Lim.bind ?_ (fun _ => ?_)
theorem spec_IsName.F_eq (a0 : ByteArray) : spec_IsName.F a0 = if a0.toList = ([] : List UInt8) then (spec_IsName.J0 a0 true) else (if (a0.size : Int) > 12 then (spec_IsName.J0 a0 true) else (if 0 < (a0.size : Int) then ((spec_l01Small.f (bt a0 0)).bind fun t171 => (spec_IsName.J0 a0 (!t171))) else (none))) := by
  refine Lim.eq (g := fun k => spec_IsName.f k a0) ?_
  unfold spec_IsName.f
  repeat' first
    | with_reducible exact Lim.const _
    | with_reducible exact spec_IsName.J0_lim _ _
    | with_reducible refine Lim.ite ?_ ?_
    | with_reducible refine Lim.bind ?_ (fun _ => ?_)

noncomputable def spec_l13Meet.J0 (x30 : Bool) (x194000 : Int) (x194001 : Int) (x195000 : Int) (x195001 : Int) (x196000 : Int) (x196001 : Int) (x197000 : Int) (x197001 : Int) : Option (Bool) := lim (fun k => spec_l13Meet.j0 k x30 x194000 x194001 x195000 x195001 x196000 x196001 x197000 x197001)
theorem spec_l13Meet.J0_lim (x30 : Bool) (x194000 : Int) (x194001 : Int) (x195000 : Int) (x195001 : Int) (x196000 : Int) (x196001 : Int) (x197000 : Int) (x197001 : Int) : Lim (fun k => spec_l13Meet.j0 k x30 x194000 x194001 x195000 x195001 x196000 x196001 x197000 x197001) (spec_l13Meet.J0 x30 x194000 x194001 x195000 x195001 x196000 x196001 x197000 x197001) := Lim.of (fun k => (spec_l13Meet.mono_l k) x30 x194000 x194001 x195000 x195001 x196000 x196001 x197000 x197001)
noncomputable def spec_l13Meet.F (a0_0 : Int) (a0_1 : Int) (a1_0 : Int) (a1_1 : Int) (a2_0 : Int) (a2_1 : Int) (a3_0 : Int) (a3_1 : Int) : Option (Bool) := lim (fun k => spec_l13Meet.f k a0_0 a0_1 a1_0 a1_1 a2_0 a2_1 a3_0 a3_1)
theorem spec_l13Meet.F_lim (a0_0 : Int) (a0_1 : Int) (a1_0 : Int) (a1_1 : Int) (a2_0 : Int) (a2_1 : Int) (a3_0 : Int) (a3_1 : Int) : Lim (fun k => spec_l13Meet.f k a0_0 a0_1 a1_0 a1_1 a2_0 a2_1 a3_0 a3_1) (spec_l13Meet.F a0_0 a0_1 a1_0 a1_1 a2_0 a2_1 a3_0 a3_1) := Lim.of (fun k => spec_l13Meet.mono a0_0 a0_1 a1_0 a1_1 a2_0 a2_1 a3_0 a3_1 k)
theorem spec_l13Meet.J0_eq (x30 : Bool) (x194000 : Int) (x194001 : Int) (x195000 : Int) (x195001 : Int) (x196000 : Int) (x196001 : Int) (x197000 : Int) (x197001 : Int) : spec_l13Meet.J0 x30 x194000 x194001 x195000 x195001 x196000 x196001 x197000 x197001 = if x30 = true then (some true) else ((spec_l13Sides.f x194000 x194001 x195000 x195001 x196000 x196001 x197000 x197001).bind fun t201 => (if t201 = true then ((spec_l13Sides.f x196000 x196001 x197000 x197001 x194000 x194001 x195000 x195001).bind fun t202 => (some t202)) else (some false))) := by
  refine Lim.step (f := fun k => if x30 = true then (some true) else ((spec_l13Sides.f x194000 x194001 x195000 x195001 x196000 x196001 x197000 x197001).bind fun t201 => (if t201 = true then ((spec_l13Sides.f x196000 x196001 x197000 x197001 x194000 x194001 x195000 x195001).bind fun t202 => (some t202)) else (some false)))) (fun k => (spec_l13Meet.mono_l k) x30 x194000 x194001 x195000 x195001 x196000 x196001 x197000 x197001) (fun k => by simp only [spec_l13Meet.j0]) ?_
  repeat' first
    | with_reducible exact Lim.const _
    | with_reducible refine Lim.ite ?_ ?_
    | with_reducible refine Lim.bind ?_ (fun _ => ?_)
theorem spec_l13Meet.F_eq (a0_0 : Int) (a0_1 : Int) (a1_0 : Int) (a1_1 : Int) (a2_0 : Int) (a2_1 : Int) (a3_0 : Int) (a3_1 : Int) : spec_l13Meet.F a0_0 a0_1 a1_0 a1_1 a2_0 a2_1 a3_0 a3_1 = (spec_l13On.f a0_0 a0_1 a1_0 a1_1 a2_0 a2_1).bind fun t197 => (if t197 = true then (spec_l13Meet.J0 true a0_0 a0_1 a1_0 a1_1 a2_0 a2_1 a3_0 a3_1) else ((spec_l13On.f a0_0 a0_1 a1_0 a1_1 a3_0 a3_1).bind fun t198 => (if t198 = true then (spec_l13Meet.J0 true a0_0 a0_1 a1_0 a1_1 a2_0 a2_1 a3_0 a3_1) else ((spec_l13On.f a2_0 a2_1 a3_0 a3_1 a0_0 a0_1).bind fun t199 => (if t199 = true then (spec_l13Meet.J0 true a0_0 a0_1 a1_0 a1_1 a2_0 a2_1 a3_0 a3_1) else ((spec_l13On.f a2_0 a2_1 a3_0 a3_1 a1_0 a1_1).bind fun t200 => (spec_l13Meet.J0 t200 a0_0 a0_1 a1_0 a1_1 a2_0 a2_1 a3_0 a3_1))))))) := by
  refine Lim.eq (g := fun k => spec_l13Meet.f k a0_0 a0_1 a1_0 a1_1 a2_0 a2_1 a3_0 a3_1) ?_
  unfold spec_l13Meet.f
  repeat' first
    | with_reducible exact Lim.const _
    | with_reducible exact spec_l13Meet.J0_lim _ _ _ _ _ _ _ _ _
    | with_reducible refine Lim.ite ?_ ?_
    | with_reducible refine Lim.bind ?_ (fun _ => ?_)

noncomputable def spec_l13Twice.L0 (x0 : List (S129)) (x3 : Int) (x4 : Int) : Option (Int) := lim (fun k => spec_l13Twice.l0 k x0 x3 x4)
theorem spec_l13Twice.L0_lim (x0 : List (S129)) (x3 : Int) (x4 : Int) : Lim (fun k => spec_l13Twice.l0 k x0 x3 x4) (spec_l13Twice.L0 x0 x3 x4) := Lim.of (fun k => (spec_l13Twice.mono_l k) x0 x3 x4)
noncomputable def spec_l13Twice.F (l0 : List (S129)) : Option (Int) := lim (fun k => spec_l13Twice.f k l0)
theorem spec_l13Twice.F_lim (l0 : List (S129)) : Lim (fun k => spec_l13Twice.f k l0) (spec_l13Twice.F l0) := Lim.of (fun k => spec_l13Twice.mono l0 k)
theorem spec_l13Twice.L0_eq (x0 : List (S129)) (x3 : Int) (x4 : Int) : spec_l13Twice.L0 x0 x3 x4 = if x4 < (x0.length : Int) then (if (x0.length : Int) = 0 then (none) else (if 0 ≤ (Int.tmod (wrap64 (x4 + 1)) (x0.length : Int)) then (if (Int.tmod (wrap64 (x4 + 1)) (x0.length : Int)) < (x0.length : Int) then (if 0 ≤ x4 then (spec_l13Twice.L0 x0 (wrap64 (x3 + (wrap64 ((wrap64 (((rd_T129 x0 x4).f0) * ((rd_T129 x0 (Int.tmod (wrap64 (x4 + 1)) (x0.length : Int))).f1))) - (wrap64 (((rd_T129 x0 (Int.tmod (wrap64 (x4 + 1)) (x0.length : Int))).f0) * ((rd_T129 x0 x4).f1))))))) (wrap64 (x4 + 1))) else (none)) else (none)) else (none))) else (some x3) := by
  refine Lim.step (f := fun k => if x4 < (x0.length : Int) then (if (x0.length : Int) = 0 then (none) else (if 0 ≤ (Int.tmod (wrap64 (x4 + 1)) (x0.length : Int)) then (if (Int.tmod (wrap64 (x4 + 1)) (x0.length : Int)) < (x0.length : Int) then (if 0 ≤ x4 then (spec_l13Twice.l0 k x0 (wrap64 (x3 + (wrap64 ((wrap64 (((rd_T129 x0 x4).f0) * ((rd_T129 x0 (Int.tmod (wrap64 (x4 + 1)) (x0.length : Int))).f1))) - (wrap64 (((rd_T129 x0 (Int.tmod (wrap64 (x4 + 1)) (x0.length : Int))).f0) * ((rd_T129 x0 x4).f1))))))) (wrap64 (x4 + 1))) else (none)) else (none)) else (none))) else (some x3)) (fun k => (spec_l13Twice.mono_l k) x0 x3 x4) (fun k => by simp only [spec_l13Twice.l0]) ?_
  repeat' first
    | with_reducible exact Lim.const _
    | with_reducible exact spec_l13Twice.L0_lim _ _ _
    | with_reducible refine Lim.ite ?_ ?_
    | with_reducible refine Lim.bind ?_ (fun _ => ?_)
theorem spec_l13Twice.F_eq (l0 : List (S129)) : spec_l13Twice.F l0 = spec_l13Twice.L0 l0 0 0 := by
  refine Lim.eq (g := fun k => spec_l13Twice.f k l0) ?_
  unfold spec_l13Twice.f
  repeat' first
    | with_reducible exact Lim.const _
    | with_reducible exact spec_l13Twice.L0_lim _ _ _
    | with_reducible refine Lim.ite ?_ ?_
    | with_reducible refine Lim.bind ?_ (fun _ => ?_)

noncomputable def spec_l13Ok.L0 (x0 : List (S129)) (x3 : Int) (x4 : Int) : Option (Bool) := lim (fun k => spec_l13Ok.l0 k x0 x3 x4)
theorem spec_l13Ok.L0_lim (x0 : List (S129)) (x3 : Int) (x4 : Int) : Lim (fun k => spec_l13Ok.l0 k x0 x3 x4) (spec_l13Ok.L0 x0 x3 x4) := Lim.of (fun k => (spec_l13Ok.mono_l k).1 x0 x3 x4)
noncomputable def spec_l13Ok.L1 (x0 : List (S129)) (x3 : Int) (x5 : Int) : Option (Bool) := lim (fun k => spec_l13Ok.l1 k x0 x3 x5)
theorem spec_l13Ok.L1_lim (x0 : List (S129)) (x3 : Int) (x5 : Int) : Lim (fun k => spec_l13Ok.l1 k x0 x3 x5) (spec_l13Ok.L1 x0 x3 x5) := Lim.of (fun k => (spec_l13Ok.mono_l k).2.1 x0 x3 x5)
noncomputable def spec_l13Ok.L2 (x0 : List (S129)) (x3 : Int) (x5 : Int) (x8 : Int) (x215000 : Int) (x215001 : Int) (x217000 : Int) (x217001 : Int) : Option (Bool) := lim (fun k => spec_l13Ok.l2 k x0 x3 x5 x8 x215000 x215001 x217000 x217001)
theorem spec_l13Ok.L2_lim (x0 : List (S129)) (x3 : Int) (x5 : Int) (x8 : Int) (x215000 : Int) (x215001 : Int) (x217000 : Int) (x217001 : Int) : Lim (fun k => spec_l13Ok.l2 k x0 x3 x5 x8 x215000 x215001 x217000 x217001) (spec_l13Ok.L2 x0 x3 x5 x8 x215000 x215001 x217000 x217001) := Lim.of (fun k => (spec_l13Ok.mono_l k).2.2 x0 x3 x5 x8 x215000 x215001 x217000 x217001)
noncomputable def spec_l13Ok.F (l0 : List (S129)) : Option (Bool) := lim (fun k => spec_l13Ok.f k l0)
theorem spec_l13Ok.F_lim (l0 : List (S129)) : Lim (fun k => spec_l13Ok.f k l0) (spec_l13Ok.F l0) := Lim.of (fun k => spec_l13Ok.mono l0 k)
theorem spec_l13Ok.L0_eq (x0 : List (S129)) (x3 : Int) (x4 : Int) : spec_l13Ok.L0 x0 x3 x4 = if x4 < x3 then (if 0 ≤ x4 then (if x4 < (x0.length : Int) then ((spec_l00In.f ((rd_T129 x0 x4).f0) 0 2000).bind fun t209 => (if t209 = true then ((spec_l00In.f ((rd_T129 x0 x4).f1) 0 2000).bind fun t211 => (if t211 = true then (spec_l13Ok.L0 x0 x3 (wrap64 (x4 + 1))) else (some false))) else (some false))) else (none)) else (none)) else (spec_l13Ok.L1 x0 x3 0) := by
  refine Lim.step (f := fun k => if x4 < x3 then (if 0 ≤ x4 then (if x4 < (x0.length : Int) then ((spec_l00In.f ((rd_T129 x0 x4).f0) 0 2000).bind fun t209 => (if t209 = true then ((spec_l00In.f ((rd_T129 x0 x4).f1) 0 2000).bind fun t211 => (if t211 = true then (spec_l13Ok.l0 k x0 x3 (wrap64 (x4 + 1))) else (some false))) else (some false))) else (none)) else (none)) else (spec_l13Ok.l1 k x0 x3 0)) (fun k => (spec_l13Ok.mono_l k).1 x0 x3 x4) (fun k => by simp only [spec_l13Ok.l0]) ?_
  repeat' first
    | with_reducible exact Lim.const _
    | with_reducible exact spec_l13Ok.L0_lim _ _ _
    | with_reducible exact spec_l13Ok.L1_lim _ _ _
    | with_reducible refine Lim.ite ?_ ?_
    | with_reducible refine Lim.bind ?_ (fun _ => ?_)
theorem spec_l13Ok.L1_eq (x0 : List (S129)) (x3 : Int) (x5 : Int) : spec_l13Ok.L1 x0 x3 x5 = if x5 < x3 then (if 0 ≤ x5 then (if x5 < (x0.length : Int) then (if x3 = 0 then (none) else (if 0 ≤ (Int.tmod (wrap64 (x5 + 1)) x3) then (if (Int.tmod (wrap64 (x5 + 1)) x3) < (x0.length : Int) then (if 0 ≤ (Int.tmod (wrap64 (x5 + 2)) x3) then (if (Int.tmod (wrap64 (x5 + 2)) x3) < (x0.length : Int) then ((spec_l13Cross.f ((rd_T129 x0 x5).f0) ((rd_T129 x0 x5).f1) ((rd_T129 x0 (Int.tmod (wrap64 (x5 + 1)) x3)).f0) ((rd_T129 x0 (Int.tmod (wrap64 (x5 + 1)) x3)).f1) ((rd_T129 x0 (Int.tmod (wrap64 (x5 + 2)) x3)).f0) ((rd_T129 x0 (Int.tmod (wrap64 (x5 + 2)) x3)).f1)).bind fun t218 => (if t218 = 0 then (some false) else (spec_l13Ok.L2 x0 x3 x5 (wrap64 (x5 + 2)) ((rd_T129 x0 x5).f0) ((rd_T129 x0 x5).f1) ((rd_T129 x0 (Int.tmod (wrap64 (x5 + 1)) x3)).f0) ((rd_T129 x0 (Int.tmod (wrap64 (x5 + 1)) x3)).f1)))) else (none)) else (none)) else (none)) else (none))) else (none)) else (none)) else ((spec_l13Twice.F x0).bind fun t212 => (some (decide (t212 > 0)))) := by
  refine Lim.step (f := fun k => if x5 < x3 then (if 0 ≤ x5 then (if x5 < (x0.length : Int) then (if x3 = 0 then (none) else (if 0 ≤ (Int.tmod (wrap64 (x5 + 1)) x3) then (if (Int.tmod (wrap64 (x5 + 1)) x3) < (x0.length : Int) then (if 0 ≤ (Int.tmod (wrap64 (x5 + 2)) x3) then (if (Int.tmod (wrap64 (x5 + 2)) x3) < (x0.length : Int) then ((spec_l13Cross.f ((rd_T129 x0 x5).f0) ((rd_T129 x0 x5).f1) ((rd_T129 x0 (Int.tmod (wrap64 (x5 + 1)) x3)).f0) ((rd_T129 x0 (Int.tmod (wrap64 (x5 + 1)) x3)).f1) ((rd_T129 x0 (Int.tmod (wrap64 (x5 + 2)) x3)).f0) ((rd_T129 x0 (Int.tmod (wrap64 (x5 + 2)) x3)).f1)).bind fun t218 => (if t218 = 0 then (some false) else (spec_l13Ok.l2 k x0 x3 x5 (wrap64 (x5 + 2)) ((rd_T129 x0 x5).f0) ((rd_T129 x0 x5).f1) ((rd_T129 x0 (Int.tmod (wrap64 (x5 + 1)) x3)).f0) ((rd_T129 x0 (Int.tmod (wrap64 (x5 + 1)) x3)).f1)))) else (none)) else (none)) else (none)) else (none))) else (none)) else (none)) else ((spec_l13Twice.f k x0).bind fun t212 => (some (decide (t212 > 0))))) (fun k => (spec_l13Ok.mono_l k).2.1 x0 x3 x5) (fun k => by simp only [spec_l13Ok.l1]) ?_
  repeat' first
    | with_reducible exact Lim.const _
    | with_reducible exact spec_l13Ok.L2_lim _ _ _ _ _ _ _ _
    | with_reducible exact spec_l13Twice.F_lim _
    | with_reducible refine Lim.ite ?_ ?_
    | with_reducible refine Lim.bind ?_ (fun _ => ?_)
theorem spec_l13Ok.L2_eq (x0 : List (S129)) (x3 : Int) (x5 : Int) (x8 : Int) (x215000 : Int) (x215001 : Int) (x217000 : Int) (x217001 : Int) : spec_l13Ok.L2 x0 x3 x5 x8 x215000 x215001 x217000 x217001 = if x8 < x3 then (if x5 > 0 then (if 0 ≤ x8 then (if x8 < (x0.length : Int) then (if x3 = 0 then (none) else (if 0 ≤ (Int.tmod (wrap64 (x8 + 1)) x3) then (if (Int.tmod (wrap64 (x8 + 1)) x3) < (x0.length : Int) then ((spec_l13Meet.F x215000 x215001 x217000 x217001 ((rd_T129 x0 x8).f0) ((rd_T129 x0 x8).f1) ((rd_T129 x0 (Int.tmod (wrap64 (x8 + 1)) x3)).f0) ((rd_T129 x0 (Int.tmod (wrap64 (x8 + 1)) x3)).f1)).bind fun t221 => (if t221 = true then (some false) else (spec_l13Ok.L2 x0 x3 x5 (wrap64 (x8 + 1)) x215000 x215001 x217000 x217001))) else (none)) else (none))) else (none)) else (none)) else (if x8 < (wrap64 (x3 - 1)) then (if 0 ≤ x8 then (if x8 < (x0.length : Int) then (if x3 = 0 then (none) else (if 0 ≤ (Int.tmod (wrap64 (x8 + 1)) x3) then (if (Int.tmod (wrap64 (x8 + 1)) x3) < (x0.length : Int) then ((spec_l13Meet.F x215000 x215001 x217000 x217001 ((rd_T129 x0 x8).f0) ((rd_T129 x0 x8).f1) ((rd_T129 x0 (Int.tmod (wrap64 (x8 + 1)) x3)).f0) ((rd_T129 x0 (Int.tmod (wrap64 (x8 + 1)) x3)).f1)).bind fun t224 => (if t224 = true then (some false) else (spec_l13Ok.L2 x0 x3 x5 (wrap64 (x8 + 1)) x215000 x215001 x217000 x217001))) else (none)) else (none))) else (none)) else (none)) else (spec_l13Ok.L2 x0 x3 x5 (wrap64 (x8 + 1)) x215000 x215001 x217000 x217001))) else (spec_l13Ok.L1 x0 x3 (wrap64 (x5 + 1))) := by
  refine Lim.step (f := fun k => if x8 < x3 then (if x5 > 0 then (if 0 ≤ x8 then (if x8 < (x0.length : Int) then (if x3 = 0 then (none) else (if 0 ≤ (Int.tmod (wrap64 (x8 + 1)) x3) then (if (Int.tmod (wrap64 (x8 + 1)) x3) < (x0.length : Int) then ((spec_l13Meet.f k x215000 x215001 x217000 x217001 ((rd_T129 x0 x8).f0) ((rd_T129 x0 x8).f1) ((rd_T129 x0 (Int.tmod (wrap64 (x8 + 1)) x3)).f0) ((rd_T129 x0 (Int.tmod (wrap64 (x8 + 1)) x3)).f1)).bind fun t221 => (if t221 = true then (some false) else (spec_l13Ok.l2 k x0 x3 x5 (wrap64 (x8 + 1)) x215000 x215001 x217000 x217001))) else (none)) else (none))) else (none)) else (none)) else (if x8 < (wrap64 (x3 - 1)) then (if 0 ≤ x8 then (if x8 < (x0.length : Int) then (if x3 = 0 then (none) else (if 0 ≤ (Int.tmod (wrap64 (x8 + 1)) x3) then (if (Int.tmod (wrap64 (x8 + 1)) x3) < (x0.length : Int) then ((spec_l13Meet.f k x215000 x215001 x217000 x217001 ((rd_T129 x0 x8).f0) ((rd_T129 x0 x8).f1) ((rd_T129 x0 (Int.tmod (wrap64 (x8 + 1)) x3)).f0) ((rd_T129 x0 (Int.tmod (wrap64 (x8 + 1)) x3)).f1)).bind fun t224 => (if t224 = true then (some false) else (spec_l13Ok.l2 k x0 x3 x5 (wrap64 (x8 + 1)) x215000 x215001 x217000 x217001))) else (none)) else (none))) else (none)) else (none)) else (spec_l13Ok.l2 k x0 x3 x5 (wrap64 (x8 + 1)) x215000 x215001 x217000 x217001))) else (spec_l13Ok.l1 k x0 x3 (wrap64 (x5 + 1)))) (fun k => (spec_l13Ok.mono_l k).2.2 x0 x3 x5 x8 x215000 x215001 x217000 x217001) (fun k => by simp only [spec_l13Ok.l2]) ?_
  repeat' first
    | with_reducible exact Lim.const _
    | with_reducible exact spec_l13Meet.F_lim _ _ _ _ _ _ _ _
    | with_reducible exact spec_l13Ok.L1_lim _ _ _
    | with_reducible exact spec_l13Ok.L2_lim _ _ _ _ _ _ _ _
    | with_reducible refine Lim.ite ?_ ?_
    | with_reducible refine Lim.bind ?_ (fun _ => ?_)
theorem spec_l13Ok.F_eq (l0 : List (S129)) : spec_l13Ok.F l0 = (spec_l00In.f (l0.length : Int) 3 8).bind fun t207 => (if t207 = true then (spec_l13Ok.L0 l0 (l0.length : Int) 0) else (some false)) := by
  refine Lim.eq (g := fun k => spec_l13Ok.f k l0) ?_
  unfold spec_l13Ok.f
  repeat' first
    | with_reducible exact Lim.const _
    | with_reducible exact spec_l13Ok.L0_lim _ _ _
    | with_reducible refine Lim.ite ?_ ?_
    | with_reducible refine Lim.bind ?_ (fun _ => ?_)

noncomputable def spec_l17Ok.L0 (x0 : List (S64)) (x3 : Int) : Option (Bool) := lim (fun k => spec_l17Ok.l0 k x0 x3)
theorem spec_l17Ok.L0_lim (x0 : List (S64)) (x3 : Int) : Lim (fun k => spec_l17Ok.l0 k x0 x3) (spec_l17Ok.L0 x0 x3) := Lim.of (fun k => (spec_l17Ok.mono_l k) x0 x3)
noncomputable def spec_l17Ok.F (l0 : List (S64)) : Option (Bool) := lim (fun k => spec_l17Ok.f k l0)
theorem spec_l17Ok.F_lim (l0 : List (S64)) : Lim (fun k => spec_l17Ok.f k l0) (spec_l17Ok.F l0) := Lim.of (fun k => spec_l17Ok.mono l0 k)
theorem spec_l17Ok.L0_eq (x0 : List (S64)) (x3 : Int) : spec_l17Ok.L0 x0 x3 = if x3 < (((rd_T64 x0 0).f0).length : Int) then (if 0 ≤ x3 then ((spec_IsName.F ((rd_T79 ((rd_T64 x0 0).f0) x3).f0)).bind fun t235 => (if t235 = true then ((spec_l17Find.F x0 ((rd_T79 ((rd_T64 x0 0).f0) x3).f0)).bind fun t236 => (if t236 = x3 then ((spec_l13Ok.F ((rd_T79 ((rd_T64 x0 0).f0) x3).f1)).bind fun t237 => (if t237 = true then (spec_l17Ok.L0 x0 (wrap64 (x3 + 1))) else (some false))) else (some false))) else (some false))) else (none)) else (if (((rd_T64 x0 0).f0).length : Int) ≤ 8 then ((spec_l00In.f ((rd_T64 x0 0).f2) 1 5000).bind fun t229 => (if t229 = true then ((spec_l00In.f ((rd_T64 x0 0).f1) 0 ((rd_T64 x0 0).f2)).bind fun t232 => (some t232)) else (some false))) else (some false)) := by
  refine Lim.step (f := fun k => if x3 < (((rd_T64 x0 0).f0).length : Int) then (if 0 ≤ x3 then ((spec_IsName.f k ((rd_T79 ((rd_T64 x0 0).f0) x3).f0)).bind fun t235 => (if t235 = true then ((spec_l17Find.f k x0 ((rd_T79 ((rd_T64 x0 0).f0) x3).f0)).bind fun t236 => (if t236 = x3 then ((spec_l13Ok.f k ((rd_T79 ((rd_T64 x0 0).f0) x3).f1)).bind fun t237 => (if t237 = true then (spec_l17Ok.l0 k x0 (wrap64 (x3 + 1))) else (some false))) else (some false))) else (some false))) else (none)) else (if (((rd_T64 x0 0).f0).length : Int) ≤ 8 then ((spec_l00In.f ((rd_T64 x0 0).f2) 1 5000).bind fun t229 => (if t229 = true then ((spec_l00In.f ((rd_T64 x0 0).f1) 0 ((rd_T64 x0 0).f2)).bind fun t232 => (some t232)) else (some false))) else (some false))) (fun k => (spec_l17Ok.mono_l k) x0 x3) (fun k => by simp only [spec_l17Ok.l0]) ?_
  repeat' first
    | with_reducible exact Lim.const _
    | with_reducible exact spec_IsName.F_lim _
    | with_reducible exact spec_l13Ok.F_lim _
    | with_reducible exact spec_l17Find.F_lim _ _
    | with_reducible exact spec_l17Ok.L0_lim _ _
    | with_reducible refine Lim.ite ?_ ?_
    | with_reducible refine Lim.bind ?_ (fun _ => ?_)
theorem spec_l17Ok.F_eq (l0 : List (S64)) : spec_l17Ok.F l0 = if 0 < (l0.length : Int) then (spec_l17Ok.L0 l0 0) else (none) := by
  refine Lim.eq (g := fun k => spec_l17Ok.f k l0) ?_
  unfold spec_l17Ok.f
  repeat' first
    | with_reducible exact Lim.const _
    | with_reducible exact spec_l17Ok.L0_lim _ _
    | with_reducible refine Lim.ite ?_ ?_
    | with_reducible refine Lim.bind ?_ (fun _ => ?_)

noncomputable def spec_l17Own.L0 (x0 : List (S64)) (x4 : Int) (x246000 : List (S79)) (x246001 : Int) (x246002 : Int) : Option ((List (S79)) × Int × Int) := lim (fun k => spec_l17Own.l0 k x0 x4 x246000 x246001 x246002)
theorem spec_l17Own.L0_lim (x0 : List (S64)) (x4 : Int) (x246000 : List (S79)) (x246001 : Int) (x246002 : Int) : Lim (fun k => spec_l17Own.l0 k x0 x4 x246000 x246001 x246002) (spec_l17Own.L0 x0 x4 x246000 x246001 x246002) := Lim.of (fun k => (spec_l17Own.mono_l k) x0 x4 x246000 x246001 x246002)
noncomputable def spec_l17Own.F (l0 : List (S64)) : Option ((List (S79)) × Int × Int) := lim (fun k => spec_l17Own.f k l0)
theorem spec_l17Own.F_lim (l0 : List (S64)) : Lim (fun k => spec_l17Own.f k l0) (spec_l17Own.F l0) := Lim.of (fun k => spec_l17Own.mono l0 k)
theorem spec_l17Own.L0_eq (x0 : List (S64)) (x4 : Int) (x246000 : List (S79)) (x246001 : Int) (x246002 : Int) : spec_l17Own.L0 x0 x4 x246000 x246001 x246002 = if x4 < (((rd_T64 x0 0).f0).length : Int) then (if 0 ≤ x4 then ((some (([] : List (S129)) : List (S129))).bind fun y250 => (if y250.length + ((rd_T79 ((rd_T64 x0 0).f0) x4).f1).length < 8796093022208 then (if x246000.length < 2932031007402 then (spec_l17Own.L0 x0 (wrap64 (x4 + 1)) (x246000 ++ [(⟨(rd_T79 ((rd_T64 x0 0).f0) x4).f0, (y250 ++ ((rd_T79 ((rd_T64 x0 0).f0) x4).f1)), (rd_T79 ((rd_T64 x0 0).f0) x4).f2⟩ : S79)]) x246001 x246002) else (none)) else (none))) else (none)) else (some (x246000, x246001, x246002)) := by
  refine Lim.step (f := fun k => if x4 < (((rd_T64 x0 0).f0).length : Int) then (if 0 ≤ x4 then ((some (([] : List (S129)) : List (S129))).bind fun y250 => (if y250.length + ((rd_T79 ((rd_T64 x0 0).f0) x4).f1).length < 8796093022208 then (if x246000.length < 2932031007402 then (spec_l17Own.l0 k x0 (wrap64 (x4 + 1)) (x246000 ++ [(⟨(rd_T79 ((rd_T64 x0 0).f0) x4).f0, (y250 ++ ((rd_T79 ((rd_T64 x0 0).f0) x4).f1)), (rd_T79 ((rd_T64 x0 0).f0) x4).f2⟩ : S79)]) x246001 x246002) else (none)) else (none))) else (none)) else (some (x246000, x246001, x246002))) (fun k => (spec_l17Own.mono_l k) x0 x4 x246000 x246001 x246002) (fun k => by simp only [spec_l17Own.l0]) ?_
  repeat' first
    | with_reducible exact Lim.const _
    | with_reducible exact spec_l17Own.L0_lim _ _ _ _ _
    | with_reducible refine Lim.ite ?_ ?_
    | with_reducible refine Lim.bind ?_ (fun _ => ?_)
theorem spec_l17Own.F_eq (l0 : List (S64)) : spec_l17Own.F l0 = if 0 < (l0.length : Int) then (spec_l17Own.L0 l0 0 (([] : List (S79))) ((rd_T64 l0 0).f1) ((rd_T64 l0 0).f2)) else (none) := by
  refine Lim.eq (g := fun k => spec_l17Own.f k l0) ?_
  unfold spec_l17Own.f
  repeat' first
    | with_reducible exact Lim.const _
    | with_reducible exact spec_l17Own.L0_lim _ _ _ _ _
    | with_reducible refine Lim.ite ?_ ?_
    | with_reducible refine Lim.bind ?_ (fun _ => ?_)

noncomputable def spec_AddSail.J0 (x19 : Bool) (x260000 : List (S79)) (x260001 : Int) (x260002 : Int) (x261000 : ByteArray) (x261001 : List (S129)) (x261002 : Bool) : Option ((List (S79)) × Int × Int × Int) := lim (fun k => spec_AddSail.j0 k x19 x260000 x260001 x260002 x261000 x261001 x261002)
theorem spec_AddSail.J0_lim (x19 : Bool) (x260000 : List (S79)) (x260001 : Int) (x260002 : Int) (x261000 : ByteArray) (x261001 : List (S129)) (x261002 : Bool) : Lim (fun k => spec_AddSail.j0 k x19 x260000 x260001 x260002 x261000 x261001 x261002) (spec_AddSail.J0 x19 x260000 x260001 x260002 x261000 x261001 x261002) := Lim.of (fun k => (spec_AddSail.mono_l k) x19 x260000 x260001 x260002 x261000 x261001 x261002)
noncomputable def spec_AddSail.F (l0_0 : List (S79)) (a0_1 : Int) (a0_2 : Int) (a1_0 : ByteArray) (l1_1 : List (S129)) (a1_2 : Bool) : Option ((List (S79)) × Int × Int × Int) := lim (fun k => spec_AddSail.f k l0_0 a0_1 a0_2 a1_0 l1_1 a1_2)
theorem spec_AddSail.F_lim (l0_0 : List (S79)) (a0_1 : Int) (a0_2 : Int) (a1_0 : ByteArray) (l1_1 : List (S129)) (a1_2 : Bool) : Lim (fun k => spec_AddSail.f k l0_0 a0_1 a0_2 a1_0 l1_1 a1_2) (spec_AddSail.F l0_0 a0_1 a0_2 a1_0 l1_1 a1_2) := Lim.of (fun k => spec_AddSail.mono l0_0 a0_1 a0_2 a1_0 l1_1 a1_2 k)
theorem spec_AddSail.J0_eq (x19 : Bool) (x260000 : List (S79)) (x260001 : Int) (x260002 : Int) (x261000 : ByteArray) (x261001 : List (S129)) (x261002 : Bool) : spec_AddSail.J0 x19 x260000 x260001 x260002 x261000 x261001 x261002 = if x19 = true then (some (([] : List (S79)), 0, 0, 2)) else ((spec_l17Find.F [(⟨x260000, x260001, x260002⟩ : S64)] x261000).bind fun t267 => (if t267 ≥ 0 then (some (([] : List (S79)), 0, 0, 4)) else (if (x260000.length : Int) ≥ 8 then (some (([] : List (S79)), 0, 0, 5)) else ((spec_l17Own.F [(⟨x260000, x260001, x260002⟩ : S64)]).bind fun bt269 => ((some (([] : List (S129)) : List (S129))).bind fun y275 => (if y275.length + x261001.length < 8796093022208 then (if bt269.1.length < 2932031007402 then (some ((bt269.1 ++ [(⟨x261000, (y275 ++ x261001), x261002⟩ : S79)]), bt269.2.1, bt269.2.2, 0)) else (none)) else (none))))))) := by
  refine Lim.step (f := fun k => if x19 = true then (some (([] : List (S79)), 0, 0, 2)) else ((spec_l17Find.f k [(⟨x260000, x260001, x260002⟩ : S64)] x261000).bind fun t267 => (if t267 ≥ 0 then (some (([] : List (S79)), 0, 0, 4)) else (if (x260000.length : Int) ≥ 8 then (some (([] : List (S79)), 0, 0, 5)) else ((spec_l17Own.f k [(⟨x260000, x260001, x260002⟩ : S64)]).bind fun bt269 => ((some (([] : List (S129)) : List (S129))).bind fun y275 => (if y275.length + x261001.length < 8796093022208 then (if bt269.1.length < 2932031007402 then (some ((bt269.1 ++ [(⟨x261000, (y275 ++ x261001), x261002⟩ : S79)]), bt269.2.1, bt269.2.2, 0)) else (none)) else (none)))))))) (fun k => (spec_AddSail.mono_l k) x19 x260000 x260001 x260002 x261000 x261001 x261002) (fun k => by simp only [spec_AddSail.j0]) ?_
  repeat' first
    | with_reducible exact Lim.const _
    | with_reducible exact spec_l17Find.F_lim _ _
    | with_reducible exact spec_l17Own.F_lim _
    | with_reducible refine Lim.ite ?_ ?_
    | with_reducible refine Lim.bind ?_ (fun _ => ?_)
theorem spec_AddSail.F_eq (l0_0 : List (S79)) (a0_1 : Int) (a0_2 : Int) (a1_0 : ByteArray) (l1_1 : List (S129)) (a1_2 : Bool) : spec_AddSail.F l0_0 a0_1 a0_2 a1_0 l1_1 a1_2 = (spec_l17Ok.F [(⟨l0_0, a0_1, a0_2⟩ : S64)]).bind fun t263 => (if t263 = true then ((spec_IsName.F a1_0).bind fun t264 => (if t264 = true then ((spec_l13Ok.F l1_1).bind fun t265 => (spec_AddSail.J0 (!t265) l0_0 a0_1 a0_2 a1_0 l1_1 a1_2)) else (spec_AddSail.J0 true l0_0 a0_1 a0_2 a1_0 l1_1 a1_2))) else (some (([] : List (S79)), 0, 0, 1))) := by
  refine Lim.eq (g := fun k => spec_AddSail.f k l0_0 a0_1 a0_2 a1_0 l1_1 a1_2) ?_
  unfold spec_AddSail.f
  repeat' first
    | with_reducible exact Lim.const _
    | with_reducible exact spec_AddSail.J0_lim _ _ _ _ _ _ _
    | with_reducible exact spec_IsName.F_lim _
    | with_reducible exact spec_l13Ok.F_lim _
    | with_reducible exact spec_l17Ok.F_lim _
    | with_reducible refine Lim.ite ?_ ?_
    | with_reducible refine Lim.bind ?_ (fun _ => ?_)

noncomputable def impl_IsName.J0 (x0 : ByteArray) (x21 : Bool) : Option (Bool) := lim (fun k => impl_IsName.j0 k x0 x21)
theorem impl_IsName.J0_lim (x0 : ByteArray) (x21 : Bool) : Lim (fun k => impl_IsName.j0 k x0 x21) (impl_IsName.J0 x0 x21) := Lim.of (fun k => (impl_IsName.mono_l k).1 x0 x21)
noncomputable def impl_IsName.L0 (x0 : ByteArray) (x3 : Int) : Option (Bool) := lim (fun k => impl_IsName.l0 k x0 x3)
theorem impl_IsName.L0_lim (x0 : ByteArray) (x3 : Int) : Lim (fun k => impl_IsName.l0 k x0 x3) (impl_IsName.L0 x0 x3) := Lim.of (fun k => (impl_IsName.mono_l k).2 x0 x3)
noncomputable def impl_IsName.F (a0 : ByteArray) : Option (Bool) := lim (fun k => impl_IsName.f k a0)
theorem impl_IsName.F_lim (a0 : ByteArray) : Lim (fun k => impl_IsName.f k a0) (impl_IsName.F a0) := Lim.of (fun k => impl_IsName.mono a0 k)
theorem impl_IsName.J0_eq (x0 : ByteArray) (x21 : Bool) : impl_IsName.J0 x0 x21 = if x21 = true then (some false) else (impl_IsName.L0 x0 0) := by
  refine Lim.step (f := fun k => if x21 = true then (some false) else (impl_IsName.l0 k x0 0)) (fun k => (impl_IsName.mono_l k).1 x0 x21) (fun k => by simp only [impl_IsName.j0]) ?_
  repeat' first
    | with_reducible exact Lim.const _
    | with_reducible exact impl_IsName.L0_lim _ _
    | with_reducible refine Lim.ite ?_ ?_
    | with_reducible refine Lim.bind ?_ (fun _ => ?_)
theorem impl_IsName.L0_eq (x0 : ByteArray) (x3 : Int) : impl_IsName.L0 x0 x3 = if x3 < (x0.size : Int) then (if 0 ≤ x3 then (if (bt x0 x3) < 97 then (if (bt x0 x3) < 48 then (if (bt x0 x3) = 45 then (impl_IsName.L0 x0 (wrap64 (x3 + 1))) else (some false)) else (if (bt x0 x3) > 57 then (if (bt x0 x3) = 45 then (impl_IsName.L0 x0 (wrap64 (x3 + 1))) else (some false)) else (impl_IsName.L0 x0 (wrap64 (x3 + 1))))) else (if (bt x0 x3) > 122 then (if (bt x0 x3) < 48 then (if (bt x0 x3) = 45 then (impl_IsName.L0 x0 (wrap64 (x3 + 1))) else (some false)) else (if (bt x0 x3) > 57 then (if (bt x0 x3) = 45 then (impl_IsName.L0 x0 (wrap64 (x3 + 1))) else (some false)) else (impl_IsName.L0 x0 (wrap64 (x3 + 1))))) else (impl_IsName.L0 x0 (wrap64 (x3 + 1))))) else (none)) else (some true) := by
  refine Lim.step (f := fun k => if x3 < (x0.size : Int) then (if 0 ≤ x3 then (if (bt x0 x3) < 97 then (if (bt x0 x3) < 48 then (if (bt x0 x3) = 45 then (impl_IsName.l0 k x0 (wrap64 (x3 + 1))) else (some false)) else (if (bt x0 x3) > 57 then (if (bt x0 x3) = 45 then (impl_IsName.l0 k x0 (wrap64 (x3 + 1))) else (some false)) else (impl_IsName.l0 k x0 (wrap64 (x3 + 1))))) else (if (bt x0 x3) > 122 then (if (bt x0 x3) < 48 then (if (bt x0 x3) = 45 then (impl_IsName.l0 k x0 (wrap64 (x3 + 1))) else (some false)) else (if (bt x0 x3) > 57 then (if (bt x0 x3) = 45 then (impl_IsName.l0 k x0 (wrap64 (x3 + 1))) else (some false)) else (impl_IsName.l0 k x0 (wrap64 (x3 + 1))))) else (impl_IsName.l0 k x0 (wrap64 (x3 + 1))))) else (none)) else (some true)) (fun k => (impl_IsName.mono_l k).2 x0 x3) (fun k => by simp only [impl_IsName.l0]) ?_
  repeat' first
    | with_reducible exact Lim.const _
    | with_reducible exact impl_IsName.L0_lim _ _
    | with_reducible refine Lim.ite ?_ ?_
    | with_reducible refine Lim.bind ?_ (fun _ => ?_)
theorem impl_IsName.F_eq (a0 : ByteArray) : impl_IsName.F a0 = if (a0.size : Int) < 1 then (impl_IsName.J0 a0 true) else (if (a0.size : Int) > 12 then (impl_IsName.J0 a0 true) else (if 0 < (a0.size : Int) then (if (bt a0 0) < 97 then (impl_IsName.J0 a0 true) else (impl_IsName.J0 a0 (decide ((bt a0 0) > 122)))) else (none))) := by
  refine Lim.eq (g := fun k => impl_IsName.f k a0) ?_
  unfold impl_IsName.f
  repeat' first
    | with_reducible exact Lim.const _
    | with_reducible exact impl_IsName.J0_lim _ _
    | with_reducible refine Lim.ite ?_ ?_
    | with_reducible refine Lim.bind ?_ (fun _ => ?_)

noncomputable def impl_edgesMeet.J0 (x9 : Int) (x10 : Int) (x11 : Int) (x12 : Int) (x42 : Bool) (x293000 : Int) (x293001 : Int) (x294000 : Int) (x294001 : Int) (x295000 : Int) (x295001 : Int) (x296000 : Int) (x296001 : Int) : Option (Bool) := lim (fun k => impl_edgesMeet.j0 k x9 x10 x11 x12 x42 x293000 x293001 x294000 x294001 x295000 x295001 x296000 x296001)
theorem impl_edgesMeet.J0_lim (x9 : Int) (x10 : Int) (x11 : Int) (x12 : Int) (x42 : Bool) (x293000 : Int) (x293001 : Int) (x294000 : Int) (x294001 : Int) (x295000 : Int) (x295001 : Int) (x296000 : Int) (x296001 : Int) : Lim (fun k => impl_edgesMeet.j0 k x9 x10 x11 x12 x42 x293000 x293001 x294000 x294001 x295000 x295001 x296000 x296001) (impl_edgesMeet.J0 x9 x10 x11 x12 x42 x293000 x293001 x294000 x294001 x295000 x295001 x296000 x296001) := Lim.of (fun k => (impl_edgesMeet.mono_l k) x9 x10 x11 x12 x42 x293000 x293001 x294000 x294001 x295000 x295001 x296000 x296001)
noncomputable def impl_edgesMeet.F (a0_0 : Int) (a0_1 : Int) (a1_0 : Int) (a1_1 : Int) (a2_0 : Int) (a2_1 : Int) (a3_0 : Int) (a3_1 : Int) : Option (Bool) := lim (fun k => impl_edgesMeet.f k a0_0 a0_1 a1_0 a1_1 a2_0 a2_1 a3_0 a3_1)
theorem impl_edgesMeet.F_lim (a0_0 : Int) (a0_1 : Int) (a1_0 : Int) (a1_1 : Int) (a2_0 : Int) (a2_1 : Int) (a3_0 : Int) (a3_1 : Int) : Lim (fun k => impl_edgesMeet.f k a0_0 a0_1 a1_0 a1_1 a2_0 a2_1 a3_0 a3_1) (impl_edgesMeet.F a0_0 a0_1 a1_0 a1_1 a2_0 a2_1 a3_0 a3_1) := Lim.of (fun k => impl_edgesMeet.mono a0_0 a0_1 a1_0 a1_1 a2_0 a2_1 a3_0 a3_1 k)
theorem impl_edgesMeet.J0_eq (x9 : Int) (x10 : Int) (x11 : Int) (x12 : Int) (x42 : Bool) (x293000 : Int) (x293001 : Int) (x294000 : Int) (x294001 : Int) (x295000 : Int) (x295001 : Int) (x296000 : Int) (x296001 : Int) : impl_edgesMeet.J0 x9 x10 x11 x12 x42 x293000 x293001 x294000 x294001 x295000 x295001 x296000 x296001 = if x42 = true then (some true) else (if x9 = 0 then ((impl_between.f x293000 x293001 x294000 x294001 x295000 x295001).bind fun t304 => (if t304 = true then (some true) else (if x10 = 0 then ((impl_between.f x293000 x293001 x294000 x294001 x296000 x296001).bind fun t305 => (if t305 = true then (some true) else (if x11 = 0 then ((impl_between.f x295000 x295001 x296000 x296001 x293000 x293001).bind fun t306 => (if t306 = true then (some true) else (if x12 = 0 then ((impl_between.f x295000 x295001 x296000 x296001 x294000 x294001).bind fun t307 => (some t307)) else (some false)))) else (if x12 = 0 then ((impl_between.f x295000 x295001 x296000 x296001 x294000 x294001).bind fun t308 => (some t308)) else (some false))))) else (if x11 = 0 then ((impl_between.f x295000 x295001 x296000 x296001 x293000 x293001).bind fun t309 => (if t309 = true then (some true) else (if x12 = 0 then ((impl_between.f x295000 x295001 x296000 x296001 x294000 x294001).bind fun t310 => (some t310)) else (some false)))) else (if x12 = 0 then ((impl_between.f x295000 x295001 x296000 x296001 x294000 x294001).bind fun t311 => (some t311)) else (some false)))))) else (if x10 = 0 then ((impl_between.f x293000 x293001 x294000 x294001 x296000 x296001).bind fun t312 => (if t312 = true then (some true) else (if x11 = 0 then ((impl_between.f x295000 x295001 x296000 x296001 x293000 x293001).bind fun t313 => (if t313 = true then (some true) else (if x12 = 0 then ((impl_between.f x295000 x295001 x296000 x296001 x294000 x294001).bind fun t314 => (some t314)) else (some false)))) else (if x12 = 0 then ((impl_between.f x295000 x295001 x296000 x296001 x294000 x294001).bind fun t315 => (some t315)) else (some false))))) else (if x11 = 0 then ((impl_between.f x295000 x295001 x296000 x296001 x293000 x293001).bind fun t316 => (if t316 = true then (some true) else (if x12 = 0 then ((impl_between.f x295000 x295001 x296000 x296001 x294000 x294001).bind fun t317 => (some t317)) else (some false)))) else (if x12 = 0 then ((impl_between.f x295000 x295001 x296000 x296001 x294000 x294001).bind fun t318 => (some t318)) else (some false))))) := by
  refine Lim.step (f := fun k => if x42 = true then (some true) else (if x9 = 0 then ((impl_between.f x293000 x293001 x294000 x294001 x295000 x295001).bind fun t304 => (if t304 = true then (some true) else (if x10 = 0 then ((impl_between.f x293000 x293001 x294000 x294001 x296000 x296001).bind fun t305 => (if t305 = true then (some true) else (if x11 = 0 then ((impl_between.f x295000 x295001 x296000 x296001 x293000 x293001).bind fun t306 => (if t306 = true then (some true) else (if x12 = 0 then ((impl_between.f x295000 x295001 x296000 x296001 x294000 x294001).bind fun t307 => (some t307)) else (some false)))) else (if x12 = 0 then ((impl_between.f x295000 x295001 x296000 x296001 x294000 x294001).bind fun t308 => (some t308)) else (some false))))) else (if x11 = 0 then ((impl_between.f x295000 x295001 x296000 x296001 x293000 x293001).bind fun t309 => (if t309 = true then (some true) else (if x12 = 0 then ((impl_between.f x295000 x295001 x296000 x296001 x294000 x294001).bind fun t310 => (some t310)) else (some false)))) else (if x12 = 0 then ((impl_between.f x295000 x295001 x296000 x296001 x294000 x294001).bind fun t311 => (some t311)) else (some false)))))) else (if x10 = 0 then ((impl_between.f x293000 x293001 x294000 x294001 x296000 x296001).bind fun t312 => (if t312 = true then (some true) else (if x11 = 0 then ((impl_between.f x295000 x295001 x296000 x296001 x293000 x293001).bind fun t313 => (if t313 = true then (some true) else (if x12 = 0 then ((impl_between.f x295000 x295001 x296000 x296001 x294000 x294001).bind fun t314 => (some t314)) else (some false)))) else (if x12 = 0 then ((impl_between.f x295000 x295001 x296000 x296001 x294000 x294001).bind fun t315 => (some t315)) else (some false))))) else (if x11 = 0 then ((impl_between.f x295000 x295001 x296000 x296001 x293000 x293001).bind fun t316 => (if t316 = true then (some true) else (if x12 = 0 then ((impl_between.f x295000 x295001 x296000 x296001 x294000 x294001).bind fun t317 => (some t317)) else (some false)))) else (if x12 = 0 then ((impl_between.f x295000 x295001 x296000 x296001 x294000 x294001).bind fun t318 => (some t318)) else (some false)))))) (fun k => (impl_edgesMeet.mono_l k) x9 x10 x11 x12 x42 x293000 x293001 x294000 x294001 x295000 x295001 x296000 x296001) (fun k => by simp only [impl_edgesMeet.j0]) ?_
  repeat' first
    | with_reducible exact Lim.const _
    | with_reducible refine Lim.ite ?_ ?_
    | with_reducible refine Lim.bind ?_ (fun _ => ?_)
theorem impl_edgesMeet.F_eq (a0_0 : Int) (a0_1 : Int) (a1_0 : Int) (a1_1 : Int) (a2_0 : Int) (a2_1 : Int) (a3_0 : Int) (a3_1 : Int) : impl_edgesMeet.F a0_0 a0_1 a1_0 a1_1 a2_0 a2_1 a3_0 a3_1 = (impl_turnAt.f a0_0 a0_1 a1_0 a1_1 a2_0 a2_1).bind fun t296 => ((impl_turnAt.f a0_0 a0_1 a1_0 a1_1 a3_0 a3_1).bind fun t297 => ((impl_turnAt.f a2_0 a2_1 a3_0 a3_1 a0_0 a0_1).bind fun t298 => ((impl_turnAt.f a2_0 a2_1 a3_0 a3_1 a1_0 a1_1).bind fun t299 => ((impl_sign.f t296).bind fun t300 => ((impl_sign.f t297).bind fun t301 => (if (wrap64 (t300 * t301)) < 0 then ((impl_sign.f t298).bind fun t302 => ((impl_sign.f t299).bind fun t303 => (impl_edgesMeet.J0 t296 t297 t298 t299 (decide ((wrap64 (t302 * t303)) < 0)) a0_0 a0_1 a1_0 a1_1 a2_0 a2_1 a3_0 a3_1))) else (impl_edgesMeet.J0 t296 t297 t298 t299 false a0_0 a0_1 a1_0 a1_1 a2_0 a2_1 a3_0 a3_1))))))) := by
  refine Lim.eq (g := fun k => impl_edgesMeet.f k a0_0 a0_1 a1_0 a1_1 a2_0 a2_1 a3_0 a3_1) ?_
  unfold impl_edgesMeet.f
  repeat' first
    | with_reducible exact Lim.const _
    | with_reducible exact impl_edgesMeet.J0_lim _ _ _ _ _ _ _ _ _ _ _ _ _
    | with_reducible refine Lim.ite ?_ ?_
    | with_reducible refine Lim.bind ?_ (fun _ => ?_)

noncomputable def impl_twiceSail.L0 (x0 : List (S129)) (x3 : Int) (x7 : List (S129)) (x8 : Int) (x9 : Int) : Option (Int) := lim (fun k => impl_twiceSail.l0 k x0 x3 x7 x8 x9)
theorem impl_twiceSail.L0_lim (x0 : List (S129)) (x3 : Int) (x7 : List (S129)) (x8 : Int) (x9 : Int) : Lim (fun k => impl_twiceSail.l0 k x0 x3 x7 x8 x9) (impl_twiceSail.L0 x0 x3 x7 x8 x9) := Lim.of (fun k => (impl_twiceSail.mono_l k) x0 x3 x7 x8 x9)
noncomputable def impl_twiceSail.F (l0 : List (S129)) : Option (Int) := lim (fun k => impl_twiceSail.f k l0)
theorem impl_twiceSail.F_lim (l0 : List (S129)) : Lim (fun k => impl_twiceSail.f k l0) (impl_twiceSail.F l0) := Lim.of (fun k => impl_twiceSail.mono l0 k)
theorem impl_twiceSail.L0_eq (x0 : List (S129)) (x3 : Int) (x7 : List (S129)) (x8 : Int) (x9 : Int) : impl_twiceSail.L0 x0 x3 x7 x8 x9 = if x9 < x8 then (if 0 ≤ x9 then (if x9 < (x7.length : Int) then (if (x0.length : Int) = 0 then (none) else (if 0 ≤ (Int.tmod (wrap64 (x9 + 1)) (x0.length : Int)) then (if (Int.tmod (wrap64 (x9 + 1)) (x0.length : Int)) < (x0.length : Int) then (impl_twiceSail.L0 x0 (wrap64 (x3 + (wrap64 ((wrap64 (((rd_T129 x7 x9).f0) * ((rd_T129 x0 (Int.tmod (wrap64 (x9 + 1)) (x0.length : Int))).f1))) - (wrap64 (((rd_T129 x0 (Int.tmod (wrap64 (x9 + 1)) (x0.length : Int))).f0) * ((rd_T129 x7 x9).f1))))))) x7 x8 (wrap64 (x9 + 1))) else (none)) else (none))) else (none)) else (none)) else (some x3) := by
  refine Lim.step (f := fun k => if x9 < x8 then (if 0 ≤ x9 then (if x9 < (x7.length : Int) then (if (x0.length : Int) = 0 then (none) else (if 0 ≤ (Int.tmod (wrap64 (x9 + 1)) (x0.length : Int)) then (if (Int.tmod (wrap64 (x9 + 1)) (x0.length : Int)) < (x0.length : Int) then (impl_twiceSail.l0 k x0 (wrap64 (x3 + (wrap64 ((wrap64 (((rd_T129 x7 x9).f0) * ((rd_T129 x0 (Int.tmod (wrap64 (x9 + 1)) (x0.length : Int))).f1))) - (wrap64 (((rd_T129 x0 (Int.tmod (wrap64 (x9 + 1)) (x0.length : Int))).f0) * ((rd_T129 x7 x9).f1))))))) x7 x8 (wrap64 (x9 + 1))) else (none)) else (none))) else (none)) else (none)) else (some x3)) (fun k => (impl_twiceSail.mono_l k) x0 x3 x7 x8 x9) (fun k => by simp only [impl_twiceSail.l0]) ?_
  repeat' first
    | with_reducible exact Lim.const _
    | with_reducible exact impl_twiceSail.L0_lim _ _ _ _ _
    | with_reducible refine Lim.ite ?_ ?_
    | with_reducible refine Lim.bind ?_ (fun _ => ?_)
theorem impl_twiceSail.F_eq (l0 : List (S129)) : impl_twiceSail.F l0 = impl_twiceSail.L0 l0 0 l0 (l0.length : Int) 0 := by
  refine Lim.eq (g := fun k => impl_twiceSail.f k l0) ?_
  unfold impl_twiceSail.f
  repeat' first
    | with_reducible exact Lim.const _
    | with_reducible exact impl_twiceSail.L0_lim _ _ _ _ _
    | with_reducible refine Lim.ite ?_ ?_
    | with_reducible refine Lim.bind ?_ (fun _ => ?_)

noncomputable def impl_ValidSail.J0 (x0 : List (S129)) (x3 : Int) (x16 : Bool) : Option (Bool) := lim (fun k => impl_ValidSail.j0 k x0 x3 x16)
theorem impl_ValidSail.J0_lim (x0 : List (S129)) (x3 : Int) (x16 : Bool) : Lim (fun k => impl_ValidSail.j0 k x0 x3 x16) (impl_ValidSail.J0 x0 x3 x16) := Lim.of (fun k => (impl_ValidSail.mono_l k).1 x0 x3 x16)
noncomputable def impl_ValidSail.L0 (x0 : List (S129)) (x3 : Int) (x17 : List (S129)) (x18 : Int) (x19 : Int) : Option (Bool) := lim (fun k => impl_ValidSail.l0 k x0 x3 x17 x18 x19)
theorem impl_ValidSail.L0_lim (x0 : List (S129)) (x3 : Int) (x17 : List (S129)) (x18 : Int) (x19 : Int) : Lim (fun k => impl_ValidSail.l0 k x0 x3 x17 x18 x19) (impl_ValidSail.L0 x0 x3 x17 x18 x19) := Lim.of (fun k => (impl_ValidSail.mono_l k).2.1 x0 x3 x17 x18 x19)
noncomputable def impl_ValidSail.L1 (x0 : List (S129)) (x3 : Int) (x35 : Int) (x36 : Int) : Option (Bool) := lim (fun k => impl_ValidSail.l1 k x0 x3 x35 x36)
theorem impl_ValidSail.L1_lim (x0 : List (S129)) (x3 : Int) (x35 : Int) (x36 : Int) : Lim (fun k => impl_ValidSail.l1 k x0 x3 x35 x36) (impl_ValidSail.L1 x0 x3 x35 x36) := Lim.of (fun k => (impl_ValidSail.mono_l k).2.2.1 x0 x3 x35 x36)
noncomputable def impl_ValidSail.L2 (x0 : List (S129)) (x3 : Int) (x61 : Int) (x62 : Int) : Option (Bool) := lim (fun k => impl_ValidSail.l2 k x0 x3 x61 x62)
theorem impl_ValidSail.L2_lim (x0 : List (S129)) (x3 : Int) (x61 : Int) (x62 : Int) : Lim (fun k => impl_ValidSail.l2 k x0 x3 x61 x62) (impl_ValidSail.L2 x0 x3 x61 x62) := Lim.of (fun k => (impl_ValidSail.mono_l k).2.2.2.1 x0 x3 x61 x62)
noncomputable def impl_ValidSail.L3 (x0 : List (S129)) (x3 : Int) (x7 : Int) (x8 : Int) (x61 : Int) (x62 : Int) : Option (Bool) := lim (fun k => impl_ValidSail.l3 k x0 x3 x7 x8 x61 x62)
theorem impl_ValidSail.L3_lim (x0 : List (S129)) (x3 : Int) (x7 : Int) (x8 : Int) (x61 : Int) (x62 : Int) : Lim (fun k => impl_ValidSail.l3 k x0 x3 x7 x8 x61 x62) (impl_ValidSail.L3 x0 x3 x7 x8 x61 x62) := Lim.of (fun k => (impl_ValidSail.mono_l k).2.2.2.2 x0 x3 x7 x8 x61 x62)
noncomputable def impl_ValidSail.F (l0 : List (S129)) : Option (Bool) := lim (fun k => impl_ValidSail.f k l0)
theorem impl_ValidSail.F_lim (l0 : List (S129)) : Lim (fun k => impl_ValidSail.f k l0) (impl_ValidSail.F l0) := Lim.of (fun k => impl_ValidSail.mono l0 k)
theorem impl_ValidSail.J0_eq (x0 : List (S129)) (x3 : Int) (x16 : Bool) : impl_ValidSail.J0 x0 x3 x16 = if x16 = true then (some false) else (impl_ValidSail.L0 x0 x3 x0 (x0.length : Int) 0) := by
  refine Lim.step (f := fun k => if x16 = true then (some false) else (impl_ValidSail.l0 k x0 x3 x0 (x0.length : Int) 0)) (fun k => (impl_ValidSail.mono_l k).1 x0 x3 x16) (fun k => by simp only [impl_ValidSail.j0]) ?_
  repeat' first
    | with_reducible exact Lim.const _
    | with_reducible exact impl_ValidSail.L0_lim _ _ _ _ _
    | with_reducible refine Lim.ite ?_ ?_
    | with_reducible refine Lim.bind ?_ (fun _ => ?_)
theorem impl_ValidSail.L0_eq (x0 : List (S129)) (x3 : Int) (x17 : List (S129)) (x18 : Int) (x19 : Int) : impl_ValidSail.L0 x0 x3 x17 x18 x19 = if x19 < x18 then (if 0 ≤ x19 then (if x19 < (x17.length : Int) then ((impl_within.f ((rd_T129 x17 x19).f0) 0 2000).bind fun t325 => (if t325 = true then ((impl_within.f ((rd_T129 x17 x19).f1) 0 2000).bind fun t326 => (if t326 = true then (impl_ValidSail.L0 x0 x3 x17 x18 (wrap64 (x19 + 1))) else (some false))) else (some false))) else (none)) else (none)) else (impl_ValidSail.L1 x0 x3 (x0.length : Int) 0) := by
  refine Lim.step (f := fun k => if x19 < x18 then (if 0 ≤ x19 then (if x19 < (x17.length : Int) then ((impl_within.f ((rd_T129 x17 x19).f0) 0 2000).bind fun t325 => (if t325 = true then ((impl_within.f ((rd_T129 x17 x19).f1) 0 2000).bind fun t326 => (if t326 = true then (impl_ValidSail.l0 k x0 x3 x17 x18 (wrap64 (x19 + 1))) else (some false))) else (some false))) else (none)) else (none)) else (impl_ValidSail.l1 k x0 x3 (x0.length : Int) 0)) (fun k => (impl_ValidSail.mono_l k).2.1 x0 x3 x17 x18 x19) (fun k => by simp only [impl_ValidSail.l0]) ?_
  repeat' first
    | with_reducible exact Lim.const _
    | with_reducible exact impl_ValidSail.L0_lim _ _ _ _ _
    | with_reducible exact impl_ValidSail.L1_lim _ _ _ _
    | with_reducible refine Lim.ite ?_ ?_
    | with_reducible refine Lim.bind ?_ (fun _ => ?_)
theorem impl_ValidSail.L1_eq (x0 : List (S129)) (x3 : Int) (x35 : Int) (x36 : Int) : impl_ValidSail.L1 x0 x3 x35 x36 = if x36 < x35 then (if 0 ≤ x36 then (if x36 < (x0.length : Int) then (if x3 = 0 then (none) else (if 0 ≤ (Int.tmod (wrap64 (x36 + 1)) x3) then (if (Int.tmod (wrap64 (x36 + 1)) x3) < (x0.length : Int) then (if 0 ≤ (Int.tmod (wrap64 (x36 + 2)) x3) then (if (Int.tmod (wrap64 (x36 + 2)) x3) < (x0.length : Int) then ((impl_turnAt.f ((rd_T129 x0 x36).f0) ((rd_T129 x0 x36).f1) ((rd_T129 x0 (Int.tmod (wrap64 (x36 + 1)) x3)).f0) ((rd_T129 x0 (Int.tmod (wrap64 (x36 + 1)) x3)).f1) ((rd_T129 x0 (Int.tmod (wrap64 (x36 + 2)) x3)).f0) ((rd_T129 x0 (Int.tmod (wrap64 (x36 + 2)) x3)).f1)).bind fun t330 => (if t330 = 0 then (some false) else (impl_ValidSail.L1 x0 x3 x35 (wrap64 (x36 + 1))))) else (none)) else (none)) else (none)) else (none))) else (none)) else (none)) else (impl_ValidSail.L2 x0 x3 (x0.length : Int) 0) := by
  refine Lim.step (f := fun k => if x36 < x35 then (if 0 ≤ x36 then (if x36 < (x0.length : Int) then (if x3 = 0 then (none) else (if 0 ≤ (Int.tmod (wrap64 (x36 + 1)) x3) then (if (Int.tmod (wrap64 (x36 + 1)) x3) < (x0.length : Int) then (if 0 ≤ (Int.tmod (wrap64 (x36 + 2)) x3) then (if (Int.tmod (wrap64 (x36 + 2)) x3) < (x0.length : Int) then ((impl_turnAt.f ((rd_T129 x0 x36).f0) ((rd_T129 x0 x36).f1) ((rd_T129 x0 (Int.tmod (wrap64 (x36 + 1)) x3)).f0) ((rd_T129 x0 (Int.tmod (wrap64 (x36 + 1)) x3)).f1) ((rd_T129 x0 (Int.tmod (wrap64 (x36 + 2)) x3)).f0) ((rd_T129 x0 (Int.tmod (wrap64 (x36 + 2)) x3)).f1)).bind fun t330 => (if t330 = 0 then (some false) else (impl_ValidSail.l1 k x0 x3 x35 (wrap64 (x36 + 1))))) else (none)) else (none)) else (none)) else (none))) else (none)) else (none)) else (impl_ValidSail.l2 k x0 x3 (x0.length : Int) 0)) (fun k => (impl_ValidSail.mono_l k).2.2.1 x0 x3 x35 x36) (fun k => by simp only [impl_ValidSail.l1]) ?_
  repeat' first
    | with_reducible exact Lim.const _
    | with_reducible exact impl_ValidSail.L1_lim _ _ _ _
    | with_reducible exact impl_ValidSail.L2_lim _ _ _ _
    | with_reducible refine Lim.ite ?_ ?_
    | with_reducible refine Lim.bind ?_ (fun _ => ?_)
theorem impl_ValidSail.L2_eq (x0 : List (S129)) (x3 : Int) (x61 : Int) (x62 : Int) : impl_ValidSail.L2 x0 x3 x61 x62 = if x62 < x61 then (impl_ValidSail.L3 x0 x3 x62 (wrap64 (x62 + 2)) x61 x62) else ((impl_twiceSail.F x0).bind fun t331 => (some (decide (t331 > 0)))) := by
  refine Lim.step (f := fun k => if x62 < x61 then (impl_ValidSail.l3 k x0 x3 x62 (wrap64 (x62 + 2)) x61 x62) else ((impl_twiceSail.f k x0).bind fun t331 => (some (decide (t331 > 0))))) (fun k => (impl_ValidSail.mono_l k).2.2.2.1 x0 x3 x61 x62) (fun k => by simp only [impl_ValidSail.l2]) ?_
  repeat' first
    | with_reducible exact Lim.const _
    | with_reducible exact impl_ValidSail.L3_lim _ _ _ _ _ _
    | with_reducible exact impl_twiceSail.F_lim _
    | with_reducible refine Lim.ite ?_ ?_
    | with_reducible refine Lim.bind ?_ (fun _ => ?_)
theorem impl_ValidSail.L3_eq (x0 : List (S129)) (x3 : Int) (x7 : Int) (x8 : Int) (x61 : Int) (x62 : Int) : impl_ValidSail.L3 x0 x3 x7 x8 x61 x62 = if x8 < x3 then (if x3 = 0 then (none) else (if (Int.tmod (wrap64 (x8 + 1)) x3) = x7 then (impl_ValidSail.L3 x0 x3 x7 (wrap64 (x8 + 1)) x61 x62) else (if 0 ≤ x7 then (if x7 < (x0.length : Int) then (if 0 ≤ (wrap64 (x7 + 1)) then (if (wrap64 (x7 + 1)) < (x0.length : Int) then (if 0 ≤ x8 then (if x8 < (x0.length : Int) then (if 0 ≤ (Int.tmod (wrap64 (x8 + 1)) x3) then (if (Int.tmod (wrap64 (x8 + 1)) x3) < (x0.length : Int) then ((impl_edgesMeet.F ((rd_T129 x0 x7).f0) ((rd_T129 x0 x7).f1) ((rd_T129 x0 (wrap64 (x7 + 1))).f0) ((rd_T129 x0 (wrap64 (x7 + 1))).f1) ((rd_T129 x0 x8).f0) ((rd_T129 x0 x8).f1) ((rd_T129 x0 (Int.tmod (wrap64 (x8 + 1)) x3)).f0) ((rd_T129 x0 (Int.tmod (wrap64 (x8 + 1)) x3)).f1)).bind fun t336 => (if t336 = true then (some false) else (impl_ValidSail.L3 x0 x3 x7 (wrap64 (x8 + 1)) x61 x62))) else (none)) else (none)) else (none)) else (none)) else (none)) else (none)) else (none)) else (none)))) else (impl_ValidSail.L2 x0 x3 x61 (wrap64 (x62 + 1))) := by
  refine Lim.step (f := fun k => if x8 < x3 then (if x3 = 0 then (none) else (if (Int.tmod (wrap64 (x8 + 1)) x3) = x7 then (impl_ValidSail.l3 k x0 x3 x7 (wrap64 (x8 + 1)) x61 x62) else (if 0 ≤ x7 then (if x7 < (x0.length : Int) then (if 0 ≤ (wrap64 (x7 + 1)) then (if (wrap64 (x7 + 1)) < (x0.length : Int) then (if 0 ≤ x8 then (if x8 < (x0.length : Int) then (if 0 ≤ (Int.tmod (wrap64 (x8 + 1)) x3) then (if (Int.tmod (wrap64 (x8 + 1)) x3) < (x0.length : Int) then ((impl_edgesMeet.f k ((rd_T129 x0 x7).f0) ((rd_T129 x0 x7).f1) ((rd_T129 x0 (wrap64 (x7 + 1))).f0) ((rd_T129 x0 (wrap64 (x7 + 1))).f1) ((rd_T129 x0 x8).f0) ((rd_T129 x0 x8).f1) ((rd_T129 x0 (Int.tmod (wrap64 (x8 + 1)) x3)).f0) ((rd_T129 x0 (Int.tmod (wrap64 (x8 + 1)) x3)).f1)).bind fun t336 => (if t336 = true then (some false) else (impl_ValidSail.l3 k x0 x3 x7 (wrap64 (x8 + 1)) x61 x62))) else (none)) else (none)) else (none)) else (none)) else (none)) else (none)) else (none)) else (none)))) else (impl_ValidSail.l2 k x0 x3 x61 (wrap64 (x62 + 1)))) (fun k => (impl_ValidSail.mono_l k).2.2.2.2 x0 x3 x7 x8 x61 x62) (fun k => by simp only [impl_ValidSail.l3]) ?_
  repeat' first
    | with_reducible exact Lim.const _
    | with_reducible exact impl_ValidSail.L2_lim _ _ _ _
    | with_reducible exact impl_ValidSail.L3_lim _ _ _ _ _ _
    | with_reducible exact impl_edgesMeet.F_lim _ _ _ _ _ _ _ _
    | with_reducible refine Lim.ite ?_ ?_
    | with_reducible refine Lim.bind ?_ (fun _ => ?_)
theorem impl_ValidSail.F_eq (l0 : List (S129)) : impl_ValidSail.F l0 = if (l0.length : Int) < 3 then (impl_ValidSail.J0 l0 (l0.length : Int) true) else (impl_ValidSail.J0 l0 (l0.length : Int) (decide ((l0.length : Int) > 8))) := by
  refine Lim.eq (g := fun k => impl_ValidSail.f k l0) ?_
  unfold impl_ValidSail.f
  repeat' first
    | with_reducible exact Lim.const _
    | with_reducible exact impl_ValidSail.J0_lim _ _ _
    | with_reducible refine Lim.ite ?_ ?_
    | with_reducible refine Lim.bind ?_ (fun _ => ?_)

noncomputable def impl_ValidPlan.J0 (x22 : Bool) (x338000 : List (S79)) (x338001 : Int) (x338002 : Int) : Option (Bool) := lim (fun k => impl_ValidPlan.j0 k x22 x338000 x338001 x338002)
theorem impl_ValidPlan.J0_lim (x22 : Bool) (x338000 : List (S79)) (x338001 : Int) (x338002 : Int) : Lim (fun k => impl_ValidPlan.j0 k x22 x338000 x338001 x338002) (impl_ValidPlan.J0 x22 x338000 x338001 x338002) := Lim.of (fun k => (impl_ValidPlan.mono_l k).1 x22 x338000 x338001 x338002)
noncomputable def impl_ValidPlan.L0 (x24 : List (S79)) (x25 : Int) (x26 : Int) (x338000 : List (S79)) (x338001 : Int) (x338002 : Int) : Option (Bool) := lim (fun k => impl_ValidPlan.l0 k x24 x25 x26 x338000 x338001 x338002)
theorem impl_ValidPlan.L0_lim (x24 : List (S79)) (x25 : Int) (x26 : Int) (x338000 : List (S79)) (x338001 : Int) (x338002 : Int) : Lim (fun k => impl_ValidPlan.l0 k x24 x25 x26 x338000 x338001 x338002) (impl_ValidPlan.L0 x24 x25 x26 x338000 x338001 x338002) := Lim.of (fun k => (impl_ValidPlan.mono_l k).2 x24 x25 x26 x338000 x338001 x338002)
noncomputable def impl_ValidPlan.F (l0_0 : List (S79)) (a0_1 : Int) (a0_2 : Int) : Option (Bool) := lim (fun k => impl_ValidPlan.f k l0_0 a0_1 a0_2)
theorem impl_ValidPlan.F_lim (l0_0 : List (S79)) (a0_1 : Int) (a0_2 : Int) : Lim (fun k => impl_ValidPlan.f k l0_0 a0_1 a0_2) (impl_ValidPlan.F l0_0 a0_1 a0_2) := Lim.of (fun k => impl_ValidPlan.mono l0_0 a0_1 a0_2 k)
theorem impl_ValidPlan.J0_eq (x22 : Bool) (x338000 : List (S79)) (x338001 : Int) (x338002 : Int) : impl_ValidPlan.J0 x22 x338000 x338001 x338002 = if x22 = true then (some false) else (impl_ValidPlan.L0 x338000 (x338000.length : Int) 0 x338000 x338001 x338002) := by
  refine Lim.step (f := fun k => if x22 = true then (some false) else (impl_ValidPlan.l0 k x338000 (x338000.length : Int) 0 x338000 x338001 x338002)) (fun k => (impl_ValidPlan.mono_l k).1 x22 x338000 x338001 x338002) (fun k => by simp only [impl_ValidPlan.j0]) ?_
  repeat' first
    | with_reducible exact Lim.const _
    | with_reducible exact impl_ValidPlan.L0_lim _ _ _ _ _ _
    | with_reducible refine Lim.ite ?_ ?_
    | with_reducible refine Lim.bind ?_ (fun _ => ?_)
theorem impl_ValidPlan.L0_eq (x24 : List (S79)) (x25 : Int) (x26 : Int) (x338000 : List (S79)) (x338001 : Int) (x338002 : Int) : impl_ValidPlan.L0 x24 x25 x26 x338000 x338001 x338002 = if x26 < x25 then (if 0 ≤ x26 then (if x26 < (x24.length : Int) then ((impl_IsName.F ((rd_T79 x24 x26).f0)).bind fun t342 => (if t342 = true then ((impl_ValidSail.F ((rd_T79 x24 x26).f1)).bind fun t343 => (if t343 = true then (if x26 ≤ (x338000.length : Int) then ((impl_sailNamed.f (x338000.take (x26 : Int).toNat) ((rd_T79 x24 x26).f0)).bind fun t348 => (if t348 ≥ 0 then (some false) else (impl_ValidPlan.L0 x24 x25 (wrap64 (x26 + 1)) x338000 x338001 x338002))) else (none)) else (some false))) else (some false))) else (none)) else (none)) else (some true) := by
  refine Lim.step (f := fun k => if x26 < x25 then (if 0 ≤ x26 then (if x26 < (x24.length : Int) then ((impl_IsName.f k ((rd_T79 x24 x26).f0)).bind fun t342 => (if t342 = true then ((impl_ValidSail.f k ((rd_T79 x24 x26).f1)).bind fun t343 => (if t343 = true then (if x26 ≤ (x338000.length : Int) then ((impl_sailNamed.f (x338000.take (x26 : Int).toNat) ((rd_T79 x24 x26).f0)).bind fun t348 => (if t348 ≥ 0 then (some false) else (impl_ValidPlan.l0 k x24 x25 (wrap64 (x26 + 1)) x338000 x338001 x338002))) else (none)) else (some false))) else (some false))) else (none)) else (none)) else (some true)) (fun k => (impl_ValidPlan.mono_l k).2 x24 x25 x26 x338000 x338001 x338002) (fun k => by simp only [impl_ValidPlan.l0]) ?_
  repeat' first
    | with_reducible exact Lim.const _
    | with_reducible exact impl_IsName.F_lim _
    | with_reducible exact impl_ValidPlan.L0_lim _ _ _ _ _ _
    | with_reducible exact impl_ValidSail.F_lim _
    | with_reducible refine Lim.ite ?_ ?_
    | with_reducible refine Lim.bind ?_ (fun _ => ?_)
theorem impl_ValidPlan.F_eq (l0_0 : List (S79)) (a0_1 : Int) (a0_2 : Int) : impl_ValidPlan.F l0_0 a0_1 a0_2 = if (l0_0.length : Int) > 8 then (impl_ValidPlan.J0 true l0_0 a0_1 a0_2) else ((impl_within.f a0_2 1 5000).bind fun t338 => (if t338 = true then ((impl_within.f a0_1 0 a0_2).bind fun t339 => (impl_ValidPlan.J0 (!t339) l0_0 a0_1 a0_2)) else (impl_ValidPlan.J0 true l0_0 a0_1 a0_2))) := by
  refine Lim.eq (g := fun k => impl_ValidPlan.f k l0_0 a0_1 a0_2) ?_
  unfold impl_ValidPlan.f
  repeat' first
    | with_reducible exact Lim.const _
    | with_reducible exact impl_ValidPlan.J0_lim _ _ _ _
    | with_reducible refine Lim.ite ?_ ?_
    | with_reducible refine Lim.bind ?_ (fun _ => ?_)

noncomputable def impl_copyPlan.L0 (x12 : List (S79)) (x13 : Int) (x14 : Int) (x352000 : List (S79)) (x352001 : Int) (x352002 : Int) : Option ((List (S79)) × Int × Int) := lim (fun k => impl_copyPlan.l0 k x12 x13 x14 x352000 x352001 x352002)
theorem impl_copyPlan.L0_lim (x12 : List (S79)) (x13 : Int) (x14 : Int) (x352000 : List (S79)) (x352001 : Int) (x352002 : Int) : Lim (fun k => impl_copyPlan.l0 k x12 x13 x14 x352000 x352001 x352002) (impl_copyPlan.L0 x12 x13 x14 x352000 x352001 x352002) := Lim.of (fun k => (impl_copyPlan.mono_l k) x12 x13 x14 x352000 x352001 x352002)
noncomputable def impl_copyPlan.F (l0_0 : List (S79)) (a0_1 : Int) (a0_2 : Int) : Option ((List (S79)) × Int × Int) := lim (fun k => impl_copyPlan.f k l0_0 a0_1 a0_2)
theorem impl_copyPlan.F_lim (l0_0 : List (S79)) (a0_1 : Int) (a0_2 : Int) : Lim (fun k => impl_copyPlan.f k l0_0 a0_1 a0_2) (impl_copyPlan.F l0_0 a0_1 a0_2) := Lim.of (fun k => impl_copyPlan.mono l0_0 a0_1 a0_2 k)
theorem impl_copyPlan.L0_eq (x12 : List (S79)) (x13 : Int) (x14 : Int) (x352000 : List (S79)) (x352001 : Int) (x352002 : Int) : impl_copyPlan.L0 x12 x13 x14 x352000 x352001 x352002 = if x14 < x13 then (if 0 ≤ x14 then (if x14 < (x12.length : Int) then ((some (([] : List (S129)) : List (S129))).bind fun y354 => (if y354.length + ((rd_T79 x12 x14).f1).length < 8796093022208 then (if x352000.length < 2932031007402 then (impl_copyPlan.L0 x12 x13 (wrap64 (x14 + 1)) (x352000 ++ [(⟨(rd_T79 x12 x14).f0, (y354 ++ ((rd_T79 x12 x14).f1)), (rd_T79 x12 x14).f2⟩ : S79)]) x352001 x352002) else (none)) else (none))) else (none)) else (none)) else (some (x352000, x352001, x352002)) := by
  refine Lim.step (f := fun k => if x14 < x13 then (if 0 ≤ x14 then (if x14 < (x12.length : Int) then ((some (([] : List (S129)) : List (S129))).bind fun y354 => (if y354.length + ((rd_T79 x12 x14).f1).length < 8796093022208 then (if x352000.length < 2932031007402 then (impl_copyPlan.l0 k x12 x13 (wrap64 (x14 + 1)) (x352000 ++ [(⟨(rd_T79 x12 x14).f0, (y354 ++ ((rd_T79 x12 x14).f1)), (rd_T79 x12 x14).f2⟩ : S79)]) x352001 x352002) else (none)) else (none))) else (none)) else (none)) else (some (x352000, x352001, x352002))) (fun k => (impl_copyPlan.mono_l k) x12 x13 x14 x352000 x352001 x352002) (fun k => by simp only [impl_copyPlan.l0]) ?_
  repeat' first
    | with_reducible exact Lim.const _
    | with_reducible exact impl_copyPlan.L0_lim _ _ _ _ _ _
    | with_reducible refine Lim.ite ?_ ?_
    | with_reducible refine Lim.bind ?_ (fun _ => ?_)
theorem impl_copyPlan.F_eq (l0_0 : List (S79)) (a0_1 : Int) (a0_2 : Int) : impl_copyPlan.F l0_0 a0_1 a0_2 = impl_copyPlan.L0 l0_0 (l0_0.length : Int) 0 ([] : List (S79)) a0_1 a0_2 := by
  refine Lim.eq (g := fun k => impl_copyPlan.f k l0_0 a0_1 a0_2) ?_
  unfold impl_copyPlan.f
  repeat' first
    | with_reducible exact Lim.const _
    | with_reducible exact impl_copyPlan.L0_lim _ _ _ _ _ _
    | with_reducible refine Lim.ite ?_ ?_
    | with_reducible refine Lim.bind ?_ (fun _ => ?_)

noncomputable def impl_AddSail.J0 (x12 : Bool) (x364000 : List (S79)) (x364001 : Int) (x364002 : Int) (x365000 : ByteArray) (x365001 : List (S129)) (x365002 : Bool) : Option ((List (S79)) × Int × Int × Int) := lim (fun k => impl_AddSail.j0 k x12 x364000 x364001 x364002 x365000 x365001 x365002)
theorem impl_AddSail.J0_lim (x12 : Bool) (x364000 : List (S79)) (x364001 : Int) (x364002 : Int) (x365000 : ByteArray) (x365001 : List (S129)) (x365002 : Bool) : Lim (fun k => impl_AddSail.j0 k x12 x364000 x364001 x364002 x365000 x365001 x365002) (impl_AddSail.J0 x12 x364000 x364001 x364002 x365000 x365001 x365002) := Lim.of (fun k => (impl_AddSail.mono_l k) x12 x364000 x364001 x364002 x365000 x365001 x365002)
noncomputable def impl_AddSail.F (l0_0 : List (S79)) (a0_1 : Int) (a0_2 : Int) (a1_0 : ByteArray) (l1_1 : List (S129)) (a1_2 : Bool) : Option ((List (S79)) × Int × Int × Int) := lim (fun k => impl_AddSail.f k l0_0 a0_1 a0_2 a1_0 l1_1 a1_2)
theorem impl_AddSail.F_lim (l0_0 : List (S79)) (a0_1 : Int) (a0_2 : Int) (a1_0 : ByteArray) (l1_1 : List (S129)) (a1_2 : Bool) : Lim (fun k => impl_AddSail.f k l0_0 a0_1 a0_2 a1_0 l1_1 a1_2) (impl_AddSail.F l0_0 a0_1 a0_2 a1_0 l1_1 a1_2) := Lim.of (fun k => impl_AddSail.mono l0_0 a0_1 a0_2 a1_0 l1_1 a1_2 k)
theorem impl_AddSail.J0_eq (x12 : Bool) (x364000 : List (S79)) (x364001 : Int) (x364002 : Int) (x365000 : ByteArray) (x365001 : List (S129)) (x365002 : Bool) : impl_AddSail.J0 x12 x364000 x364001 x364002 x365000 x365001 x365002 = if x12 = true then (some (([] : List (S79)), 0, 0, 2)) else ((impl_sailNamed.f x364000 x365000).bind fun t369 => (if t369 ≥ 0 then (some (([] : List (S79)), 0, 0, 4)) else (if (x364000.length : Int) = 8 then (some (([] : List (S79)), 0, 0, 5)) else ((impl_copyPlan.F x364000 x364001 x364002).bind fun bt370 => ((some (([] : List (S129)) : List (S129))).bind fun y376 => (if y376.length + x365001.length < 8796093022208 then (if bt370.1.length < 2932031007402 then (some ((bt370.1 ++ [(⟨x365000, (y376 ++ x365001), x365002⟩ : S79)]), bt370.2.1, bt370.2.2, 0)) else (none)) else (none))))))) := by
  refine Lim.step (f := fun k => if x12 = true then (some (([] : List (S79)), 0, 0, 2)) else ((impl_sailNamed.f x364000 x365000).bind fun t369 => (if t369 ≥ 0 then (some (([] : List (S79)), 0, 0, 4)) else (if (x364000.length : Int) = 8 then (some (([] : List (S79)), 0, 0, 5)) else ((impl_copyPlan.f k x364000 x364001 x364002).bind fun bt370 => ((some (([] : List (S129)) : List (S129))).bind fun y376 => (if y376.length + x365001.length < 8796093022208 then (if bt370.1.length < 2932031007402 then (some ((bt370.1 ++ [(⟨x365000, (y376 ++ x365001), x365002⟩ : S79)]), bt370.2.1, bt370.2.2, 0)) else (none)) else (none)))))))) (fun k => (impl_AddSail.mono_l k) x12 x364000 x364001 x364002 x365000 x365001 x365002) (fun k => by simp only [impl_AddSail.j0]) ?_
  repeat' first
    | with_reducible exact Lim.const _
    | with_reducible exact impl_copyPlan.F_lim _ _ _
    | with_reducible refine Lim.ite ?_ ?_
    | with_reducible refine Lim.bind ?_ (fun _ => ?_)
theorem impl_AddSail.F_eq (l0_0 : List (S79)) (a0_1 : Int) (a0_2 : Int) (a1_0 : ByteArray) (l1_1 : List (S129)) (a1_2 : Bool) : impl_AddSail.F l0_0 a0_1 a0_2 a1_0 l1_1 a1_2 = (impl_ValidPlan.F l0_0 a0_1 a0_2).bind fun t366 => (if t366 = true then ((impl_IsName.F a1_0).bind fun t367 => (if t367 = true then ((impl_ValidSail.F l1_1).bind fun t368 => (impl_AddSail.J0 (!t368) l0_0 a0_1 a0_2 a1_0 l1_1 a1_2)) else (impl_AddSail.J0 true l0_0 a0_1 a0_2 a1_0 l1_1 a1_2))) else (some (([] : List (S79)), 0, 0, 1))) := by
  refine Lim.eq (g := fun k => impl_AddSail.f k l0_0 a0_1 a0_2 a1_0 l1_1 a1_2) ?_
  unfold impl_AddSail.f
  repeat' first
    | with_reducible exact Lim.const _
    | with_reducible exact impl_AddSail.J0_lim _ _ _ _ _ _ _
    | with_reducible exact impl_IsName.F_lim _
    | with_reducible exact impl_ValidPlan.F_lim _ _ _
    | with_reducible exact impl_ValidSail.F_lim _
    | with_reducible refine Lim.ite ?_ ?_
    | with_reducible refine Lim.bind ?_ (fun _ => ?_)

noncomputable def laws_markHung.F (a0_0 : ByteArray) (l0_1 : List (S129)) (a0_2 : Bool) (a1 : Int) : Option (Int × (List (S129))) := lim (fun k => laws_markHung.f k a0_0 l0_1 a0_2 a1)
theorem laws_markHung.F_lim (a0_0 : ByteArray) (l0_1 : List (S129)) (a0_2 : Bool) (a1 : Int) : Lim (fun k => laws_markHung.f k a0_0 l0_1 a0_2 a1) (laws_markHung.F a0_0 l0_1 a0_2 a1) := Lim.of (fun k => laws_markHung.mono a0_0 l0_1 a0_2 a1 k)
theorem laws_markHung.F_eq (a0_0 : ByteArray) (l0_1 : List (S129)) (a0_2 : Bool) (a1 : Int) : laws_markHung.F a0_0 l0_1 a0_2 a1 = (laws_markSpotS.F l0_1 a1).bind fun bt386 => (some (bt386.1, bt386.2)) := by
  refine Lim.eq (g := fun k => laws_markHung.f k a0_0 l0_1 a0_2 a1) ?_
  unfold laws_markHung.f
  repeat' first
    | with_reducible exact Lim.const _
    | with_reducible exact laws_markSpotS.F_lim _ _
    | with_reducible refine Lim.ite ?_ ?_
    | with_reducible refine Lim.bind ?_ (fun _ => ?_)

noncomputable def laws_FnExactAddSail.J0 (x7 : Int) (x11 : Int) (x53 : Bool) (x389000 : List (S74)) (x389001 : Int) (x389002 : Int) (x390000 : ByteArray) (x390001 : List (S176)) (x390002 : Bool) (x409000 : List (S79)) (x409001 : Int) (x409002 : Int) (x415000 : List (S79)) (x415001 : Int) (x415002 : Int) (x421000 : ByteArray) (x421001 : List (S129)) (x421002 : Bool) (x428000 : List (S79)) (x428001 : Int) (x428002 : Int) : Option (Bool) := lim (fun k => laws_FnExactAddSail.j0 k x7 x11 x53 x389000 x389001 x389002 x390000 x390001 x390002 x409000 x409001 x409002 x415000 x415001 x415002 x421000 x421001 x421002 x428000 x428001 x428002)
theorem laws_FnExactAddSail.J0_lim (x7 : Int) (x11 : Int) (x53 : Bool) (x389000 : List (S74)) (x389001 : Int) (x389002 : Int) (x390000 : ByteArray) (x390001 : List (S176)) (x390002 : Bool) (x409000 : List (S79)) (x409001 : Int) (x409002 : Int) (x415000 : List (S79)) (x415001 : Int) (x415002 : Int) (x421000 : ByteArray) (x421001 : List (S129)) (x421002 : Bool) (x428000 : List (S79)) (x428001 : Int) (x428002 : Int) : Lim (fun k => laws_FnExactAddSail.j0 k x7 x11 x53 x389000 x389001 x389002 x390000 x390001 x390002 x409000 x409001 x409002 x415000 x415001 x415002 x421000 x421001 x421002 x428000 x428001 x428002) (laws_FnExactAddSail.J0 x7 x11 x53 x389000 x389001 x389002 x390000 x390001 x390002 x409000 x409001 x409002 x415000 x415001 x415002 x421000 x421001 x421002 x428000 x428001 x428002) := Lim.of (fun k => (laws_FnExactAddSail.mono_l k).1 x7 x11 x53 x389000 x389001 x389002 x390000 x390001 x390002 x409000 x409001 x409002 x415000 x415001 x415002 x421000 x421001 x421002 x428000 x428001 x428002)
noncomputable def laws_FnExactAddSail.J1 (x7 : Int) (x82 : Bool) (x389000 : List (S74)) (x389001 : Int) (x389002 : Int) (x390000 : ByteArray) (x390001 : List (S176)) (x390002 : Bool) (x409000 : List (S79)) (x409001 : Int) (x409002 : Int) (x428000 : List (S79)) (x428001 : Int) (x428002 : Int) : Option (Bool) := lim (fun k => laws_FnExactAddSail.j1 k x7 x82 x389000 x389001 x389002 x390000 x390001 x390002 x409000 x409001 x409002 x428000 x428001 x428002)
theorem laws_FnExactAddSail.J1_lim (x7 : Int) (x82 : Bool) (x389000 : List (S74)) (x389001 : Int) (x389002 : Int) (x390000 : ByteArray) (x390001 : List (S176)) (x390002 : Bool) (x409000 : List (S79)) (x409001 : Int) (x409002 : Int) (x428000 : List (S79)) (x428001 : Int) (x428002 : Int) : Lim (fun k => laws_FnExactAddSail.j1 k x7 x82 x389000 x389001 x389002 x390000 x390001 x390002 x409000 x409001 x409002 x428000 x428001 x428002) (laws_FnExactAddSail.J1 x7 x82 x389000 x389001 x389002 x390000 x390001 x390002 x409000 x409001 x409002 x428000 x428001 x428002) := Lim.of (fun k => (laws_FnExactAddSail.mono_l k).2.1 x7 x82 x389000 x389001 x389002 x390000 x390001 x390002 x409000 x409001 x409002 x428000 x428001 x428002)
noncomputable def laws_FnExactAddSail.J2 (x13 : Int) (x110 : Bool) (x428000 : List (S79)) (x428001 : Int) (x428002 : Int) : Option (Bool) := lim (fun k => laws_FnExactAddSail.j2 k x13 x110 x428000 x428001 x428002)
theorem laws_FnExactAddSail.J2_lim (x13 : Int) (x110 : Bool) (x428000 : List (S79)) (x428001 : Int) (x428002 : Int) : Lim (fun k => laws_FnExactAddSail.j2 k x13 x110 x428000 x428001 x428002) (laws_FnExactAddSail.J2 x13 x110 x428000 x428001 x428002) := Lim.of (fun k => (laws_FnExactAddSail.mono_l k).2.2 x13 x110 x428000 x428001 x428002)
noncomputable def laws_FnExactAddSail.F (l0_0 : List (S74)) (a0_1 : Int) (a0_2 : Int) (a1_0 : ByteArray) (l1_1 : List (S176)) (a1_2 : Bool) : Option (Bool) := lim (fun k => laws_FnExactAddSail.f k l0_0 a0_1 a0_2 a1_0 l1_1 a1_2)
theorem laws_FnExactAddSail.F_lim (l0_0 : List (S74)) (a0_1 : Int) (a0_2 : Int) (a1_0 : ByteArray) (l1_1 : List (S176)) (a1_2 : Bool) : Lim (fun k => laws_FnExactAddSail.f k l0_0 a0_1 a0_2 a1_0 l1_1 a1_2) (laws_FnExactAddSail.F l0_0 a0_1 a0_2 a1_0 l1_1 a1_2) := Lim.of (fun k => laws_FnExactAddSail.mono l0_0 a0_1 a0_2 a1_0 l1_1 a1_2 k)
theorem laws_FnExactAddSail.J0_eq (x7 : Int) (x11 : Int) (x53 : Bool) (x389000 : List (S74)) (x389001 : Int) (x389002 : Int) (x390000 : ByteArray) (x390001 : List (S176)) (x390002 : Bool) (x409000 : List (S79)) (x409001 : Int) (x409002 : Int) (x415000 : List (S79)) (x415001 : Int) (x415002 : Int) (x421000 : ByteArray) (x421001 : List (S129)) (x421002 : Bool) (x428000 : List (S79)) (x428001 : Int) (x428002 : Int) : laws_FnExactAddSail.J0 x7 x11 x53 x389000 x389001 x389002 x390000 x390001 x390002 x409000 x409001 x409002 x415000 x415001 x415002 x421000 x421001 x421002 x428000 x428001 x428002 = if x53 = true then (some false) else ((laws_toPlan.F x389000 x389001 x389002).bind fun bt429 => ((laws_eqPlan.F x415000 x415001 x415002 bt429.1 bt429.2.1 bt429.2.2).bind fun t434 => (if t434 = true then ((laws_toHung.F x390000 x390001 x390002).bind fun bt435 => ((laws_eqHung.F x421000 x421001 x421002 bt435.1 bt435.2.1 bt435.2.2).bind fun t440 => (if t440 = true then ((laws_markPlan.F x415000 x415001 x415002 1).bind fun bt441 => ((laws_markHung.F x421000 x421001 x421002 bt441.1).bind fun bt443 => (if bt443.1 < 0 then (laws_FnExactAddSail.J1 x7 true x389000 x389001 x389002 x390000 x390001 x390002 x409000 x409001 x409002 x428000 x428001 x428002) else ((laws_eqPlan.F x428000 x428001 x428002 x409000 x409001 x409002).bind fun t445 => (if t445 = true then (laws_FnExactAddSail.J1 x7 (x11 != x7) x389000 x389001 x389002 x390000 x390001 x390002 x409000 x409001 x409002 x428000 x428001 x428002) else (laws_FnExactAddSail.J1 x7 true x389000 x389001 x389002 x390000 x390001 x390002 x409000 x409001 x409002 x428000 x428001 x428002)))))) else (some false)))) else (some false)))) := by
  refine Lim.step (f := fun k => if x53 = true then (some false) else ((laws_toPlan.f k x389000 x389001 x389002).bind fun bt429 => ((laws_eqPlan.f k x415000 x415001 x415002 bt429.1 bt429.2.1 bt429.2.2).bind fun t434 => (if t434 = true then ((laws_toHung.f k x390000 x390001 x390002).bind fun bt435 => ((laws_eqHung.f k x421000 x421001 x421002 bt435.1 bt435.2.1 bt435.2.2).bind fun t440 => (if t440 = true then ((laws_markPlan.f k x415000 x415001 x415002 1).bind fun bt441 => ((laws_markHung.f k x421000 x421001 x421002 bt441.1).bind fun bt443 => (if bt443.1 < 0 then (laws_FnExactAddSail.j1 k x7 true x389000 x389001 x389002 x390000 x390001 x390002 x409000 x409001 x409002 x428000 x428001 x428002) else ((laws_eqPlan.f k x428000 x428001 x428002 x409000 x409001 x409002).bind fun t445 => (if t445 = true then (laws_FnExactAddSail.j1 k x7 (x11 != x7) x389000 x389001 x389002 x390000 x390001 x390002 x409000 x409001 x409002 x428000 x428001 x428002) else (laws_FnExactAddSail.j1 k x7 true x389000 x389001 x389002 x390000 x390001 x390002 x409000 x409001 x409002 x428000 x428001 x428002)))))) else (some false)))) else (some false))))) (fun k => (laws_FnExactAddSail.mono_l k).1 x7 x11 x53 x389000 x389001 x389002 x390000 x390001 x390002 x409000 x409001 x409002 x415000 x415001 x415002 x421000 x421001 x421002 x428000 x428001 x428002) (fun k => by simp only [laws_FnExactAddSail.j0]) ?_
  repeat' first
    | with_reducible exact Lim.const _
    | with_reducible exact laws_FnExactAddSail.J1_lim _ _ _ _ _ _ _ _ _ _ _ _ _ _
    | with_reducible exact laws_eqHung.F_lim _ _ _ _ _ _
    | with_reducible exact laws_eqPlan.F_lim _ _ _ _ _ _
    | with_reducible exact laws_markHung.F_lim _ _ _ _
    | with_reducible exact laws_markPlan.F_lim _ _ _ _
    | with_reducible exact laws_toHung.F_lim _ _ _
    | with_reducible exact laws_toPlan.F_lim _ _ _
    | with_reducible refine Lim.ite ?_ ?_
    | with_reducible refine Lim.bind ?_ (fun _ => ?_)
theorem laws_FnExactAddSail.J1_eq (x7 : Int) (x82 : Bool) (x389000 : List (S74)) (x389001 : Int) (x389002 : Int) (x390000 : ByteArray) (x390001 : List (S176)) (x390002 : Bool) (x409000 : List (S79)) (x409001 : Int) (x409002 : Int) (x428000 : List (S79)) (x428001 : Int) (x428002 : Int) : laws_FnExactAddSail.J1 x7 x82 x389000 x389001 x389002 x390000 x390001 x390002 x409000 x409001 x409002 x428000 x428001 x428002 = if x82 = true then (some false) else ((laws_markPlan.F x428000 x428001 x428002 1).bind fun bt446 => ((laws_heldPlan.F bt446.2 x428001 x428002 1).bind fun t448 => (if t448 < 0 then (some false) else (if t448 = bt446.1 then ((laws_toPlan.F x389000 x389001 x389002).bind fun bt449 => ((laws_toHung.F x390000 x390001 x390002).bind fun bt454 => ((impl_AddSail.F bt449.1 bt449.2.1 bt449.2.2 bt454.1 bt454.2.1 bt454.2.2).bind fun bt459 => ((laws_eqPlan.F bt459.1 bt459.2.1 bt459.2.2.1 x409000 x409001 x409002).bind fun t466 => (if t466 = true then (laws_FnExactAddSail.J2 bt446.1 (bt459.2.2.2 != x7) bt446.2 x428001 x428002) else (laws_FnExactAddSail.J2 bt446.1 true bt446.2 x428001 x428002)))))) else (some false))))) := by
  refine Lim.step (f := fun k => if x82 = true then (some false) else ((laws_markPlan.f k x428000 x428001 x428002 1).bind fun bt446 => ((laws_heldPlan.f k bt446.2 x428001 x428002 1).bind fun t448 => (if t448 < 0 then (some false) else (if t448 = bt446.1 then ((laws_toPlan.f k x389000 x389001 x389002).bind fun bt449 => ((laws_toHung.f k x390000 x390001 x390002).bind fun bt454 => ((impl_AddSail.f k bt449.1 bt449.2.1 bt449.2.2 bt454.1 bt454.2.1 bt454.2.2).bind fun bt459 => ((laws_eqPlan.f k bt459.1 bt459.2.1 bt459.2.2.1 x409000 x409001 x409002).bind fun t466 => (if t466 = true then (laws_FnExactAddSail.j2 k bt446.1 (bt459.2.2.2 != x7) bt446.2 x428001 x428002) else (laws_FnExactAddSail.j2 k bt446.1 true bt446.2 x428001 x428002)))))) else (some false)))))) (fun k => (laws_FnExactAddSail.mono_l k).2.1 x7 x82 x389000 x389001 x389002 x390000 x390001 x390002 x409000 x409001 x409002 x428000 x428001 x428002) (fun k => by simp only [laws_FnExactAddSail.j1]) ?_
  repeat' first
    | with_reducible exact Lim.const _
    | with_reducible exact impl_AddSail.F_lim _ _ _ _ _ _
    | with_reducible exact laws_FnExactAddSail.J2_lim _ _ _ _ _
    | with_reducible exact laws_eqPlan.F_lim _ _ _ _ _ _
    | with_reducible exact laws_heldPlan.F_lim _ _ _ _
    | with_reducible exact laws_markPlan.F_lim _ _ _ _
    | with_reducible exact laws_toHung.F_lim _ _ _
    | with_reducible exact laws_toPlan.F_lim _ _ _
    | with_reducible refine Lim.ite ?_ ?_
    | with_reducible refine Lim.bind ?_ (fun _ => ?_)
theorem laws_FnExactAddSail.J2_eq (x13 : Int) (x110 : Bool) (x428000 : List (S79)) (x428001 : Int) (x428002 : Int) : laws_FnExactAddSail.J2 x13 x110 x428000 x428001 x428002 = if x110 = true then (some false) else ((laws_heldPlan.F x428000 x428001 x428002 1).bind fun t467 => (if t467 < 0 then (some false) else (if t467 = x13 then (some true) else (some false)))) := by
  refine Lim.step (f := fun k => if x110 = true then (some false) else ((laws_heldPlan.f k x428000 x428001 x428002 1).bind fun t467 => (if t467 < 0 then (some false) else (if t467 = x13 then (some true) else (some false))))) (fun k => (laws_FnExactAddSail.mono_l k).2.2 x13 x110 x428000 x428001 x428002) (fun k => by simp only [laws_FnExactAddSail.j2]) ?_
  repeat' first
    | with_reducible exact Lim.const _
    | with_reducible exact laws_heldPlan.F_lim _ _ _ _
    | with_reducible refine Lim.ite ?_ ?_
    | with_reducible refine Lim.bind ?_ (fun _ => ?_)
theorem laws_FnExactAddSail.F_eq (l0_0 : List (S74)) (a0_1 : Int) (a0_2 : Int) (a1_0 : ByteArray) (l1_1 : List (S176)) (a1_2 : Bool) : laws_FnExactAddSail.F l0_0 a0_1 a0_2 a1_0 l1_1 a1_2 = (laws_szPlan.F l0_0 a0_1 a0_2 1048576).bind fun t390 => (if t390 < 0 then (some true) else ((laws_szHung.f a1_0 l1_1 a1_2 t390).bind fun t391 => (if t391 < 0 then (some true) else ((laws_toPlan.F l0_0 a0_1 a0_2).bind fun bt392 => ((laws_toHung.F a1_0 l1_1 a1_2).bind fun bt397 => ((spec_AddSail.F bt392.1 bt392.2.1 bt392.2.2 bt397.1 bt397.2.1 bt397.2.2).bind fun bt402 => ((laws_toPlan.F l0_0 a0_1 a0_2).bind fun bt409 => ((laws_toHung.F a1_0 l1_1 a1_2).bind fun bt415 => ((impl_AddSail.F bt409.1 bt409.2.1 bt409.2.2 bt415.1 bt415.2.1 bt415.2.2).bind fun bt421 => ((laws_eqPlan.F bt421.1 bt421.2.1 bt421.2.2.1 bt402.1 bt402.2.1 bt402.2.2.1).bind fun t428 => (if t428 = true then (laws_FnExactAddSail.J0 bt402.2.2.2 bt421.2.2.2 (bt421.2.2.2 != bt402.2.2.2) l0_0 a0_1 a0_2 a1_0 l1_1 a1_2 bt402.1 bt402.2.1 bt402.2.2.1 bt409.1 bt409.2.1 bt409.2.2 bt415.1 bt415.2.1 bt415.2.2 bt421.1 bt421.2.1 bt421.2.2.1) else (laws_FnExactAddSail.J0 bt402.2.2.2 bt421.2.2.2 true l0_0 a0_1 a0_2 a1_0 l1_1 a1_2 bt402.1 bt402.2.1 bt402.2.2.1 bt409.1 bt409.2.1 bt409.2.2 bt415.1 bt415.2.1 bt415.2.2 bt421.1 bt421.2.1 bt421.2.2.1)))))))))))) := by
  refine Lim.eq (g := fun k => laws_FnExactAddSail.f k l0_0 a0_1 a0_2 a1_0 l1_1 a1_2) ?_
  unfold laws_FnExactAddSail.f
  repeat' first
    | with_reducible exact Lim.const _
    | with_reducible exact impl_AddSail.F_lim _ _ _ _ _ _
    | with_reducible exact laws_FnExactAddSail.J0_lim _ _ _ _ _ _ _ _ _ _ _ _ _ _ _ _ _ _ _ _ _
    | with_reducible exact laws_eqPlan.F_lim _ _ _ _ _ _
    | with_reducible exact laws_szPlan.F_lim _ _ _ _
    | with_reducible exact laws_toHung.F_lim _ _ _
    | with_reducible exact laws_toPlan.F_lim _ _ _
    | with_reducible exact spec_AddSail.F_lim _ _ _ _ _ _
    | with_reducible refine Lim.ite ?_ ?_
    | with_reducible refine Lim.bind ?_ (fun _ => ?_)

end Go.Proofs.Ytlphfgbeeckjnaa.PFnExactAddSail
