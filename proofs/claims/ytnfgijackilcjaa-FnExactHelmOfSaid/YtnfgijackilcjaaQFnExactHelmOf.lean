/-
  Written by a program of this session (wip/tools/lims.py): the printed functions without their bound on rounds.
-/
import Derived.Test.YtnfgijackilcjaaPFnExactHelmOfx1
import Derived.Test.YtnfgijackilcjaaPFnExactHelmOfx2
import Derived.Test.YtnfgijackilcjaaPFnExactHelmOfx3
import Derived.Test.YtnfgijackilcjaaPFnExactHelmOfx4
import Derived.Test.YtnfgijackilcjaaPFnExactHelmOfx5
import Derived.Test.YtnfgijackilcjaaPFnExactHelmOfx6
import Derived.Test.YtnfgijackilcjaaPFnExactHelmOfx7
import Derived.Test.YtnfgijackilcjaaPFnExactHelmOfx8
import Derived.Test.YtnfgijackilcjaaPFnExactHelmOfx9
import Derived.Test.YtnfgijackilcjaaPFnExactHelmOfx10
import Derived.Test.YtnfgijackilcjaaPFnExactHelmOfx11
import Derived.Test.YtnfgijackilcjaaPFnExactHelmOfx12
import Derived.Test.YtnfgijackilcjaaPFnExactHelmOfx13
import Derived.Test.YtnfgijackilcjaaPFnExactHelmOfx14
import Derived.Test.YtnfgijackilcjaaPFnExactHelmOfx15
import Derived.Test.YtnfgijackilcjaaPFnExactHelmOfx16
import Derived.Test.YtnfgijackilcjaaKit
set_option linter.unusedVariables false
set_option linter.unusedSimpArgs false
namespace Go.Proofs.Ytnfgijackilcjaa.PFnExactHelmOf
open Go.RowKit Go.Proofs.Ytnfgijackilcjaa.Kit Go.Proofs.YtnfgijackilcjaaW.PrintWords Go.Proofs.YtnfgijackilcjaaW.PrintLast Go.Proofs.YtnfgijackilcjaaW.PrintMore

noncomputable def laws_szHungS.L0 (x0 : List (S72)) (x1 : Int) (x5 : Int) : Option (Int) := lim (fun k => laws_szHungS.l0 k x0 x1 x5)
theorem laws_szHungS.L0_lim (x0 : List (S72)) (x1 : Int) (x5 : Int) : Lim (fun k => laws_szHungS.l0 k x0 x1 x5) (laws_szHungS.L0 x0 x1 x5) := Lim.of (fun k => (laws_szHungS.mono_l k) x0 x1 x5)
noncomputable def laws_szHungS.F (l0 : List (S72)) (a1 : Int) : Option (Int) := lim (fun k => laws_szHungS.f k l0 a1)
theorem laws_szHungS.F_lim (l0 : List (S72)) (a1 : Int) : Lim (fun k => laws_szHungS.f k l0 a1) (laws_szHungS.F l0 a1) := Lim.of (fun k => laws_szHungS.mono l0 a1 k)
theorem laws_szHungS.L0_eq (x0 : List (S72)) (x1 : Int) (x5 : Int) : laws_szHungS.L0 x0 x1 x5 = if x5 < (x0.length : Int) then (if 0 ≤ x5 then ((laws_szHung.f ((rd_T72 x0 x5).f0) ((rd_T72 x0 x5).f1) ((rd_T72 x0 x5).f2) x1).bind fun t104 => (if t104 < 0 then (some (-1)) else (laws_szHungS.L0 x0 t104 (wrap64 (x5 + 1))))) else (none)) else (some x1) := by
  refine Lim.step (f := fun k => if x5 < (x0.length : Int) then (if 0 ≤ x5 then ((laws_szHung.f ((rd_T72 x0 x5).f0) ((rd_T72 x0 x5).f1) ((rd_T72 x0 x5).f2) x1).bind fun t104 => (if t104 < 0 then (some (-1)) else (laws_szHungS.l0 k x0 t104 (wrap64 (x5 + 1))))) else (none)) else (some x1)) (fun k => (laws_szHungS.mono_l k) x0 x1 x5) (fun k => by simp only [laws_szHungS.l0]) ?_
  repeat' first
    | with_reducible exact Lim.const _
    | with_reducible exact laws_szHungS.L0_lim _ _ _
    | with_reducible refine Lim.ite ?_ ?_
    | with_reducible refine Lim.bind ?_ (fun _ => ?_)
theorem laws_szHungS.F_eq (l0 : List (S72)) (a1 : Int) : laws_szHungS.F l0 a1 = if (wrap64 (a1 - (l0.length : Int))) < 0 then (some (-1)) else (laws_szHungS.L0 l0 (wrap64 (a1 - (l0.length : Int))) 0) := by
  refine Lim.eq (g := fun k => laws_szHungS.f k l0 a1) ?_
  unfold laws_szHungS.f
  repeat' first
    | with_reducible exact Lim.const _
    | with_reducible exact laws_szHungS.L0_lim _ _ _
    | with_reducible refine Lim.ite ?_ ?_
    | with_reducible refine Lim.bind ?_ (fun _ => ?_)

noncomputable def laws_szPlan.F (l0_0 : List (S72)) (a0_1 : Int) (a0_2 : Int) (a1 : Int) : Option (Int) := lim (fun k => laws_szPlan.f k l0_0 a0_1 a0_2 a1)
theorem laws_szPlan.F_lim (l0_0 : List (S72)) (a0_1 : Int) (a0_2 : Int) (a1 : Int) : Lim (fun k => laws_szPlan.f k l0_0 a0_1 a0_2 a1) (laws_szPlan.F l0_0 a0_1 a0_2 a1) := Lim.of (fun k => laws_szPlan.mono l0_0 a0_1 a0_2 a1 k)
theorem laws_szPlan.F_eq (l0_0 : List (S72)) (a0_1 : Int) (a0_2 : Int) (a1 : Int) : laws_szPlan.F l0_0 a0_1 a0_2 a1 = (laws_szHungS.F l0_0 a1).bind fun t106 => (if t106 < 0 then (some (-1)) else (some t106)) := by
  refine Lim.eq (g := fun k => laws_szPlan.f k l0_0 a0_1 a0_2 a1) ?_
  unfold laws_szPlan.f
  repeat' first
    | with_reducible exact Lim.const _
    | with_reducible exact laws_szHungS.F_lim _ _
    | with_reducible refine Lim.ite ?_ ?_
    | with_reducible refine Lim.bind ?_ (fun _ => ?_)

noncomputable def laws_toSpotS.L0 (x0 : List (S93)) (x3 : List (S77)) (x4 : Int) : Option ((List (S77))) := lim (fun k => laws_toSpotS.l0 k x0 x3 x4)
theorem laws_toSpotS.L0_lim (x0 : List (S93)) (x3 : List (S77)) (x4 : Int) : Lim (fun k => laws_toSpotS.l0 k x0 x3 x4) (laws_toSpotS.L0 x0 x3 x4) := Lim.of (fun k => (laws_toSpotS.mono_l k) x0 x3 x4)
noncomputable def laws_toSpotS.F (l0 : List (S93)) : Option ((List (S77))) := lim (fun k => laws_toSpotS.f k l0)
theorem laws_toSpotS.F_lim (l0 : List (S93)) : Lim (fun k => laws_toSpotS.f k l0) (laws_toSpotS.F l0) := Lim.of (fun k => laws_toSpotS.mono l0 k)
theorem laws_toSpotS.L0_eq (x0 : List (S93)) (x3 : List (S77)) (x4 : Int) : laws_toSpotS.L0 x0 x3 x4 = if x4 < (x0.length : Int) then (if 0 ≤ x4 then ((laws_toSpot.f ((rd_T93 x0 x4).f0) ((rd_T93 x0 x4).f1)).bind fun bt114 => (if x4 < (x3.length : Int) then (laws_toSpotS.L0 x0 (x3.set (x4 : Int).toNat (⟨bt114.1, bt114.2⟩ : S77)) (wrap64 (x4 + 1))) else (none))) else (none)) else (some x3) := by
  refine Lim.step (f := fun k => if x4 < (x0.length : Int) then (if 0 ≤ x4 then ((laws_toSpot.f ((rd_T93 x0 x4).f0) ((rd_T93 x0 x4).f1)).bind fun bt114 => (if x4 < (x3.length : Int) then (laws_toSpotS.l0 k x0 (x3.set (x4 : Int).toNat (⟨bt114.1, bt114.2⟩ : S77)) (wrap64 (x4 + 1))) else (none))) else (none)) else (some x3)) (fun k => (laws_toSpotS.mono_l k) x0 x3 x4) (fun k => by simp only [laws_toSpotS.l0]) ?_
  repeat' first
    | with_reducible exact Lim.const _
    | with_reducible exact laws_toSpotS.L0_lim _ _ _
    | with_reducible refine Lim.ite ?_ ?_
    | with_reducible refine Lim.bind ?_ (fun _ => ?_)
theorem laws_toSpotS.F_eq (l0 : List (S93)) : laws_toSpotS.F l0 = if 0 ≤ (l0.length : Int) then (if ((l0.length : Int) : Int).toNat ≤ 17592186044416 then (laws_toSpotS.L0 l0 (List.replicate ((l0.length : Int) : Int).toNat z77) 0) else (none)) else (none) := by
  refine Lim.eq (g := fun k => laws_toSpotS.f k l0) ?_
  unfold laws_toSpotS.f
  repeat' first
    | with_reducible exact Lim.const _
    | with_reducible exact laws_toSpotS.L0_lim _ _ _
    | with_reducible refine Lim.ite ?_ ?_
    | with_reducible refine Lim.bind ?_ (fun _ => ?_)

noncomputable def laws_toHung.F (a0_0 : ByteArray) (l0_1 : List (S93)) (a0_2 : Bool) : Option (ByteArray × (List (S77)) × Bool) := lim (fun k => laws_toHung.f k a0_0 l0_1 a0_2)
theorem laws_toHung.F_lim (a0_0 : ByteArray) (l0_1 : List (S93)) (a0_2 : Bool) : Lim (fun k => laws_toHung.f k a0_0 l0_1 a0_2) (laws_toHung.F a0_0 l0_1 a0_2) := Lim.of (fun k => laws_toHung.mono a0_0 l0_1 a0_2 k)
theorem laws_toHung.F_eq (a0_0 : ByteArray) (l0_1 : List (S93)) (a0_2 : Bool) : laws_toHung.F a0_0 l0_1 a0_2 = (laws_toSpotS.F l0_1).bind fun t120 => (some (a0_0, t120, a0_2)) := by
  refine Lim.eq (g := fun k => laws_toHung.f k a0_0 l0_1 a0_2) ?_
  unfold laws_toHung.f
  repeat' first
    | with_reducible exact Lim.const _
    | with_reducible exact laws_toSpotS.F_lim _
    | with_reducible refine Lim.ite ?_ ?_
    | with_reducible refine Lim.bind ?_ (fun _ => ?_)

noncomputable def laws_toHungS.L0 (x0 : List (S72)) (x3 : List (S54)) (x4 : Int) : Option ((List (S54))) := lim (fun k => laws_toHungS.l0 k x0 x3 x4)
theorem laws_toHungS.L0_lim (x0 : List (S72)) (x3 : List (S54)) (x4 : Int) : Lim (fun k => laws_toHungS.l0 k x0 x3 x4) (laws_toHungS.L0 x0 x3 x4) := Lim.of (fun k => (laws_toHungS.mono_l k) x0 x3 x4)
noncomputable def laws_toHungS.F (l0 : List (S72)) : Option ((List (S54))) := lim (fun k => laws_toHungS.f k l0)
theorem laws_toHungS.F_lim (l0 : List (S72)) : Lim (fun k => laws_toHungS.f k l0) (laws_toHungS.F l0) := Lim.of (fun k => laws_toHungS.mono l0 k)
theorem laws_toHungS.L0_eq (x0 : List (S72)) (x3 : List (S54)) (x4 : Int) : laws_toHungS.L0 x0 x3 x4 = if x4 < (x0.length : Int) then (if 0 ≤ x4 then ((laws_toHung.F ((rd_T72 x0 x4).f0) ((rd_T72 x0 x4).f1) ((rd_T72 x0 x4).f2)).bind fun bt127 => (if x4 < (x3.length : Int) then (laws_toHungS.L0 x0 (x3.set (x4 : Int).toNat (⟨bt127.1, bt127.2.1, bt127.2.2⟩ : S54)) (wrap64 (x4 + 1))) else (none))) else (none)) else (some x3) := by
  refine Lim.step (f := fun k => if x4 < (x0.length : Int) then (if 0 ≤ x4 then ((laws_toHung.f k ((rd_T72 x0 x4).f0) ((rd_T72 x0 x4).f1) ((rd_T72 x0 x4).f2)).bind fun bt127 => (if x4 < (x3.length : Int) then (laws_toHungS.l0 k x0 (x3.set (x4 : Int).toNat (⟨bt127.1, bt127.2.1, bt127.2.2⟩ : S54)) (wrap64 (x4 + 1))) else (none))) else (none)) else (some x3)) (fun k => (laws_toHungS.mono_l k) x0 x3 x4) (fun k => by simp only [laws_toHungS.l0]) ?_
  repeat' first
    | with_reducible exact Lim.const _
    | with_reducible exact laws_toHung.F_lim _ _ _
    | with_reducible exact laws_toHungS.L0_lim _ _ _
    | with_reducible refine Lim.ite ?_ ?_
    | with_reducible refine Lim.bind ?_ (fun _ => ?_)
theorem laws_toHungS.F_eq (l0 : List (S72)) : laws_toHungS.F l0 = if 0 ≤ (l0.length : Int) then (if ((l0.length : Int) : Int).toNat ≤ 5864062014805 then (laws_toHungS.L0 l0 (List.replicate ((l0.length : Int) : Int).toNat z54) 0) else (none)) else (none) := by
  refine Lim.eq (g := fun k => laws_toHungS.f k l0) ?_
  unfold laws_toHungS.f
  repeat' first
    | with_reducible exact Lim.const _
    | with_reducible exact laws_toHungS.L0_lim _ _ _
    | with_reducible refine Lim.ite ?_ ?_
    | with_reducible refine Lim.bind ?_ (fun _ => ?_)

noncomputable def laws_toPlan.F (l0_0 : List (S72)) (a0_1 : Int) (a0_2 : Int) : Option ((List (S54)) × Int × Int) := lim (fun k => laws_toPlan.f k l0_0 a0_1 a0_2)
theorem laws_toPlan.F_lim (l0_0 : List (S72)) (a0_1 : Int) (a0_2 : Int) : Lim (fun k => laws_toPlan.f k l0_0 a0_1 a0_2) (laws_toPlan.F l0_0 a0_1 a0_2) := Lim.of (fun k => laws_toPlan.mono l0_0 a0_1 a0_2 k)
theorem laws_toPlan.F_eq (l0_0 : List (S72)) (a0_1 : Int) (a0_2 : Int) : laws_toPlan.F l0_0 a0_1 a0_2 = (laws_toHungS.F l0_0).bind fun t136 => (some (t136, a0_1, a0_2)) := by
  refine Lim.eq (g := fun k => laws_toPlan.f k l0_0 a0_1 a0_2) ?_
  unfold laws_toPlan.f
  repeat' first
    | with_reducible exact Lim.const _
    | with_reducible exact laws_toHungS.F_lim _
    | with_reducible refine Lim.ite ?_ ?_
    | with_reducible refine Lim.bind ?_ (fun _ => ?_)

noncomputable def laws_eqSpotS.L0 (x0 : List (S77)) (x1 : List (S77)) (x5 : Int) : Option (Bool) := lim (fun k => laws_eqSpotS.l0 k x0 x1 x5)
theorem laws_eqSpotS.L0_lim (x0 : List (S77)) (x1 : List (S77)) (x5 : Int) : Lim (fun k => laws_eqSpotS.l0 k x0 x1 x5) (laws_eqSpotS.L0 x0 x1 x5) := Lim.of (fun k => (laws_eqSpotS.mono_l k) x0 x1 x5)
noncomputable def laws_eqSpotS.F (l0 : List (S77)) (l1 : List (S77)) : Option (Bool) := lim (fun k => laws_eqSpotS.f k l0 l1)
theorem laws_eqSpotS.F_lim (l0 : List (S77)) (l1 : List (S77)) : Lim (fun k => laws_eqSpotS.f k l0 l1) (laws_eqSpotS.F l0 l1) := Lim.of (fun k => laws_eqSpotS.mono l0 l1 k)
theorem laws_eqSpotS.L0_eq (x0 : List (S77)) (x1 : List (S77)) (x5 : Int) : laws_eqSpotS.L0 x0 x1 x5 = if x5 < (x0.length : Int) then (if 0 ≤ x5 then (if x5 < (x1.length : Int) then ((laws_eqSpot.f ((rd_T77 x0 x5).f0) ((rd_T77 x0 x5).f1) ((rd_T77 x1 x5).f0) ((rd_T77 x1 x5).f1)).bind fun t143 => (if t143 = true then (laws_eqSpotS.L0 x0 x1 (wrap64 (x5 + 1))) else (some false))) else (none)) else (none)) else (some true) := by
  refine Lim.step (f := fun k => if x5 < (x0.length : Int) then (if 0 ≤ x5 then (if x5 < (x1.length : Int) then ((laws_eqSpot.f ((rd_T77 x0 x5).f0) ((rd_T77 x0 x5).f1) ((rd_T77 x1 x5).f0) ((rd_T77 x1 x5).f1)).bind fun t143 => (if t143 = true then (laws_eqSpotS.l0 k x0 x1 (wrap64 (x5 + 1))) else (some false))) else (none)) else (none)) else (some true)) (fun k => (laws_eqSpotS.mono_l k) x0 x1 x5) (fun k => by simp only [laws_eqSpotS.l0]) ?_
  repeat' first
    | with_reducible exact Lim.const _
    | with_reducible exact laws_eqSpotS.L0_lim _ _ _
    | with_reducible refine Lim.ite ?_ ?_
    | with_reducible refine Lim.bind ?_ (fun _ => ?_)
theorem laws_eqSpotS.F_eq (l0 : List (S77)) (l1 : List (S77)) : laws_eqSpotS.F l0 l1 = if (l0.length : Int) = (l1.length : Int) then (laws_eqSpotS.L0 l0 l1 0) else (some false) := by
  refine Lim.eq (g := fun k => laws_eqSpotS.f k l0 l1) ?_
  unfold laws_eqSpotS.f
  repeat' first
    | with_reducible exact Lim.const _
    | with_reducible exact laws_eqSpotS.L0_lim _ _ _
    | with_reducible refine Lim.ite ?_ ?_
    | with_reducible refine Lim.bind ?_ (fun _ => ?_)

noncomputable def laws_eqHung.F (a0_0 : ByteArray) (l0_1 : List (S77)) (a0_2 : Bool) (a1_0 : ByteArray) (l1_1 : List (S77)) (a1_2 : Bool) : Option (Bool) := lim (fun k => laws_eqHung.f k a0_0 l0_1 a0_2 a1_0 l1_1 a1_2)
theorem laws_eqHung.F_lim (a0_0 : ByteArray) (l0_1 : List (S77)) (a0_2 : Bool) (a1_0 : ByteArray) (l1_1 : List (S77)) (a1_2 : Bool) : Lim (fun k => laws_eqHung.f k a0_0 l0_1 a0_2 a1_0 l1_1 a1_2) (laws_eqHung.F a0_0 l0_1 a0_2 a1_0 l1_1 a1_2) := Lim.of (fun k => laws_eqHung.mono a0_0 l0_1 a0_2 a1_0 l1_1 a1_2 k)
theorem laws_eqHung.F_eq (a0_0 : ByteArray) (l0_1 : List (S77)) (a0_2 : Bool) (a1_0 : ByteArray) (l1_1 : List (S77)) (a1_2 : Bool) : laws_eqHung.F a0_0 l0_1 a0_2 a1_0 l1_1 a1_2 = if a0_0.toList = a1_0.toList then ((laws_eqSpotS.F l0_1 l1_1).bind fun t146 => (if t146 = true then (if (a0_2 != a1_2) = true then (some false) else (some true)) else (some false))) else (some false) := by
  refine Lim.eq (g := fun k => laws_eqHung.f k a0_0 l0_1 a0_2 a1_0 l1_1 a1_2) ?_
  unfold laws_eqHung.f
  repeat' first
    | with_reducible exact Lim.const _
    | with_reducible exact laws_eqSpotS.F_lim _ _
    | with_reducible refine Lim.ite ?_ ?_
    | with_reducible refine Lim.bind ?_ (fun _ => ?_)

noncomputable def laws_eqHungS.L0 (x0 : List (S54)) (x1 : List (S54)) (x5 : Int) : Option (Bool) := lim (fun k => laws_eqHungS.l0 k x0 x1 x5)
theorem laws_eqHungS.L0_lim (x0 : List (S54)) (x1 : List (S54)) (x5 : Int) : Lim (fun k => laws_eqHungS.l0 k x0 x1 x5) (laws_eqHungS.L0 x0 x1 x5) := Lim.of (fun k => (laws_eqHungS.mono_l k) x0 x1 x5)
noncomputable def laws_eqHungS.F (l0 : List (S54)) (l1 : List (S54)) : Option (Bool) := lim (fun k => laws_eqHungS.f k l0 l1)
theorem laws_eqHungS.F_lim (l0 : List (S54)) (l1 : List (S54)) : Lim (fun k => laws_eqHungS.f k l0 l1) (laws_eqHungS.F l0 l1) := Lim.of (fun k => laws_eqHungS.mono l0 l1 k)
theorem laws_eqHungS.L0_eq (x0 : List (S54)) (x1 : List (S54)) (x5 : Int) : laws_eqHungS.L0 x0 x1 x5 = if x5 < (x0.length : Int) then (if 0 ≤ x5 then (if x5 < (x1.length : Int) then ((laws_eqHung.F ((rd_T54 x0 x5).f0) ((rd_T54 x0 x5).f1) ((rd_T54 x0 x5).f2) ((rd_T54 x1 x5).f0) ((rd_T54 x1 x5).f1) ((rd_T54 x1 x5).f2)).bind fun t149 => (if t149 = true then (laws_eqHungS.L0 x0 x1 (wrap64 (x5 + 1))) else (some false))) else (none)) else (none)) else (some true) := by
  refine Lim.step (f := fun k => if x5 < (x0.length : Int) then (if 0 ≤ x5 then (if x5 < (x1.length : Int) then ((laws_eqHung.f k ((rd_T54 x0 x5).f0) ((rd_T54 x0 x5).f1) ((rd_T54 x0 x5).f2) ((rd_T54 x1 x5).f0) ((rd_T54 x1 x5).f1) ((rd_T54 x1 x5).f2)).bind fun t149 => (if t149 = true then (laws_eqHungS.l0 k x0 x1 (wrap64 (x5 + 1))) else (some false))) else (none)) else (none)) else (some true)) (fun k => (laws_eqHungS.mono_l k) x0 x1 x5) (fun k => by simp only [laws_eqHungS.l0]) ?_
  repeat' first
    | with_reducible exact Lim.const _
    | with_reducible exact laws_eqHung.F_lim _ _ _ _ _ _
    | with_reducible exact laws_eqHungS.L0_lim _ _ _
    | with_reducible refine Lim.ite ?_ ?_
    | with_reducible refine Lim.bind ?_ (fun _ => ?_)
theorem laws_eqHungS.F_eq (l0 : List (S54)) (l1 : List (S54)) : laws_eqHungS.F l0 l1 = if (l0.length : Int) = (l1.length : Int) then (laws_eqHungS.L0 l0 l1 0) else (some false) := by
  refine Lim.eq (g := fun k => laws_eqHungS.f k l0 l1) ?_
  unfold laws_eqHungS.f
  repeat' first
    | with_reducible exact Lim.const _
    | with_reducible exact laws_eqHungS.L0_lim _ _ _
    | with_reducible refine Lim.ite ?_ ?_
    | with_reducible refine Lim.bind ?_ (fun _ => ?_)

noncomputable def laws_eqPlan.F (l0_0 : List (S54)) (a0_1 : Int) (a0_2 : Int) (l1_0 : List (S54)) (a1_1 : Int) (a1_2 : Int) : Option (Bool) := lim (fun k => laws_eqPlan.f k l0_0 a0_1 a0_2 l1_0 a1_1 a1_2)
theorem laws_eqPlan.F_lim (l0_0 : List (S54)) (a0_1 : Int) (a0_2 : Int) (l1_0 : List (S54)) (a1_1 : Int) (a1_2 : Int) : Lim (fun k => laws_eqPlan.f k l0_0 a0_1 a0_2 l1_0 a1_1 a1_2) (laws_eqPlan.F l0_0 a0_1 a0_2 l1_0 a1_1 a1_2) := Lim.of (fun k => laws_eqPlan.mono l0_0 a0_1 a0_2 l1_0 a1_1 a1_2 k)
theorem laws_eqPlan.F_eq (l0_0 : List (S54)) (a0_1 : Int) (a0_2 : Int) (l1_0 : List (S54)) (a1_1 : Int) (a1_2 : Int) : laws_eqPlan.F l0_0 a0_1 a0_2 l1_0 a1_1 a1_2 = (laws_eqHungS.F l0_0 l1_0).bind fun t152 => (if t152 = true then (if a0_1 = a1_1 then (if a0_2 = a1_2 then (some true) else (some false)) else (some false)) else (some false)) := by
  refine Lim.eq (g := fun k => laws_eqPlan.f k l0_0 a0_1 a0_2 l1_0 a1_1 a1_2) ?_
  unfold laws_eqPlan.f
  repeat' first
    | with_reducible exact Lim.const _
    | with_reducible exact laws_eqHungS.F_lim _ _
    | with_reducible refine Lim.ite ?_ ?_
    | with_reducible refine Lim.bind ?_ (fun _ => ?_)

noncomputable def spec_IsName.J0 (x0 : ByteArray) (x16 : Bool) : Option (Bool) := lim (fun k => spec_IsName.j0 k x0 x16)
theorem spec_IsName.J0_lim (x0 : ByteArray) (x16 : Bool) : Lim (fun k => spec_IsName.j0 k x0 x16) (spec_IsName.J0 x0 x16) := Lim.of (fun k => (spec_IsName.mono_l k).1 x0 x16)
noncomputable def spec_IsName.L0 (x0 : ByteArray) (x3 : Int) : Option (Bool) := lim (fun k => spec_IsName.l0 k x0 x3)
theorem spec_IsName.L0_lim (x0 : ByteArray) (x3 : Int) : Lim (fun k => spec_IsName.l0 k x0 x3) (spec_IsName.L0 x0 x3) := Lim.of (fun k => (spec_IsName.mono_l k).2 x0 x3)
noncomputable def spec_IsName.F (a0 : ByteArray) : Option (Bool) := lim (fun k => spec_IsName.f k a0)
theorem spec_IsName.F_lim (a0 : ByteArray) : Lim (fun k => spec_IsName.f k a0) (spec_IsName.F a0) := Lim.of (fun k => spec_IsName.mono a0 k)
theorem spec_IsName.J0_eq (x0 : ByteArray) (x16 : Bool) : spec_IsName.J0 x0 x16 = if x16 = true then (some false) else (spec_IsName.L0 x0 0) := by
  refine Lim.step (f := fun k => if x16 = true then (some false) else (spec_IsName.l0 k x0 0)) (fun k => (spec_IsName.mono_l k).1 x0 x16) (fun k => by simp only [spec_IsName.j0]) ?_
  repeat' first
    | with_reducible exact Lim.const _
    | with_reducible exact spec_IsName.L0_lim _ _
    | with_reducible refine Lim.ite ?_ ?_
    | with_reducible refine Lim.bind ?_ (fun _ => ?_)
theorem spec_IsName.L0_eq (x0 : ByteArray) (x3 : Int) : spec_IsName.L0 x0 x3 = if x3 < (x0.size : Int) then (if 0 ≤ x3 then ((spec_l01Small.f (bt x0 x3)).bind fun t154 => (if t154 = true then (spec_IsName.L0 x0 (wrap64 (x3 + 1))) else ((spec_l01Digit.f (bt x0 x3)).bind fun t155 => (if t155 = true then (spec_IsName.L0 x0 (wrap64 (x3 + 1))) else (if (bt x0 x3) = 45 then (spec_IsName.L0 x0 (wrap64 (x3 + 1))) else (some false)))))) else (none)) else (some true) := by
  refine Lim.step (f := fun k => if x3 < (x0.size : Int) then (if 0 ≤ x3 then ((spec_l01Small.f (bt x0 x3)).bind fun t154 => (if t154 = true then (spec_IsName.l0 k x0 (wrap64 (x3 + 1))) else ((spec_l01Digit.f (bt x0 x3)).bind fun t155 => (if t155 = true then (spec_IsName.l0 k x0 (wrap64 (x3 + 1))) else (if (bt x0 x3) = 45 then (spec_IsName.l0 k x0 (wrap64 (x3 + 1))) else (some false)))))) else (none)) else (some true)) (fun k => (spec_IsName.mono_l k).2 x0 x3) (fun k => by simp only [spec_IsName.l0]) ?_
  repeat' first
    | with_reducible exact Lim.const _
    | with_reducible exact spec_IsName.L0_lim _ _
    | with_reducible refine Lim.ite ?_ ?_
    | with_reducible refine Lim.bind ?_ (fun _ => ?_)
theorem spec_IsName.F_eq (a0 : ByteArray) : spec_IsName.F a0 = if a0.toList = ([] : List UInt8) then (spec_IsName.J0 a0 true) else (if (a0.size : Int) > 12 then (spec_IsName.J0 a0 true) else (if 0 < (a0.size : Int) then ((spec_l01Small.f (bt a0 0)).bind fun t153 => (spec_IsName.J0 a0 (!t153))) else (none))) := by
  refine Lim.eq (g := fun k => spec_IsName.f k a0) ?_
  unfold spec_IsName.f
  repeat' first
    | with_reducible exact Lim.const _
    | with_reducible exact spec_IsName.J0_lim _ _
    | with_reducible refine Lim.ite ?_ ?_
    | with_reducible refine Lim.bind ?_ (fun _ => ?_)

noncomputable def spec_l17Find.L0 (x0 : List (S29)) (x1 : ByteArray) (x5 : Int) : Option (Int) := lim (fun k => spec_l17Find.l0 k x0 x1 x5)
theorem spec_l17Find.L0_lim (x0 : List (S29)) (x1 : ByteArray) (x5 : Int) : Lim (fun k => spec_l17Find.l0 k x0 x1 x5) (spec_l17Find.L0 x0 x1 x5) := Lim.of (fun k => (spec_l17Find.mono_l k) x0 x1 x5)
noncomputable def spec_l17Find.F (l0 : List (S29)) (a1 : ByteArray) : Option (Int) := lim (fun k => spec_l17Find.f k l0 a1)
theorem spec_l17Find.F_lim (l0 : List (S29)) (a1 : ByteArray) : Lim (fun k => spec_l17Find.f k l0 a1) (spec_l17Find.F l0 a1) := Lim.of (fun k => spec_l17Find.mono l0 a1 k)
theorem spec_l17Find.L0_eq (x0 : List (S29)) (x1 : ByteArray) (x5 : Int) : spec_l17Find.L0 x0 x1 x5 = if x5 < (((rd_T29 x0 0).f0).length : Int) then (if 0 ≤ x5 then (if ((rd_T54 ((rd_T29 x0 0).f0) x5).f0).toList = x1.toList then (some x5) else (spec_l17Find.L0 x0 x1 (wrap64 (x5 + 1)))) else (none)) else (some (-1)) := by
  refine Lim.step (f := fun k => if x5 < (((rd_T29 x0 0).f0).length : Int) then (if 0 ≤ x5 then (if ((rd_T54 ((rd_T29 x0 0).f0) x5).f0).toList = x1.toList then (some x5) else (spec_l17Find.l0 k x0 x1 (wrap64 (x5 + 1)))) else (none)) else (some (-1))) (fun k => (spec_l17Find.mono_l k) x0 x1 x5) (fun k => by simp only [spec_l17Find.l0]) ?_
  repeat' first
    | with_reducible exact Lim.const _
    | with_reducible exact spec_l17Find.L0_lim _ _ _
    | with_reducible refine Lim.ite ?_ ?_
    | with_reducible refine Lim.bind ?_ (fun _ => ?_)
theorem spec_l17Find.F_eq (l0 : List (S29)) (a1 : ByteArray) : spec_l17Find.F l0 a1 = if 0 < (l0.length : Int) then (spec_l17Find.L0 l0 a1 0) else (none) := by
  refine Lim.eq (g := fun k => spec_l17Find.f k l0 a1) ?_
  unfold spec_l17Find.f
  repeat' first
    | with_reducible exact Lim.const _
    | with_reducible exact spec_l17Find.L0_lim _ _ _
    | with_reducible refine Lim.ite ?_ ?_
    | with_reducible refine Lim.bind ?_ (fun _ => ?_)

noncomputable def spec_l13Twice.L0 (x0 : List (S77)) (x3 : Int) (x4 : Int) : Option (Int) := lim (fun k => spec_l13Twice.l0 k x0 x3 x4)
theorem spec_l13Twice.L0_lim (x0 : List (S77)) (x3 : Int) (x4 : Int) : Lim (fun k => spec_l13Twice.l0 k x0 x3 x4) (spec_l13Twice.L0 x0 x3 x4) := Lim.of (fun k => (spec_l13Twice.mono_l k) x0 x3 x4)
noncomputable def spec_l13Twice.F (l0 : List (S77)) : Option (Int) := lim (fun k => spec_l13Twice.f k l0)
theorem spec_l13Twice.F_lim (l0 : List (S77)) : Lim (fun k => spec_l13Twice.f k l0) (spec_l13Twice.F l0) := Lim.of (fun k => spec_l13Twice.mono l0 k)
theorem spec_l13Twice.L0_eq (x0 : List (S77)) (x3 : Int) (x4 : Int) : spec_l13Twice.L0 x0 x3 x4 = if x4 < (x0.length : Int) then (if (x0.length : Int) = 0 then (none) else (if 0 ≤ (Int.tmod (wrap64 (x4 + 1)) (x0.length : Int)) then (if (Int.tmod (wrap64 (x4 + 1)) (x0.length : Int)) < (x0.length : Int) then (if 0 ≤ x4 then (spec_l13Twice.L0 x0 (wrap64 (x3 + (wrap64 ((wrap64 (((rd_T77 x0 x4).f0) * ((rd_T77 x0 (Int.tmod (wrap64 (x4 + 1)) (x0.length : Int))).f1))) - (wrap64 (((rd_T77 x0 (Int.tmod (wrap64 (x4 + 1)) (x0.length : Int))).f0) * ((rd_T77 x0 x4).f1))))))) (wrap64 (x4 + 1))) else (none)) else (none)) else (none))) else (some x3) := by
  refine Lim.step (f := fun k => if x4 < (x0.length : Int) then (if (x0.length : Int) = 0 then (none) else (if 0 ≤ (Int.tmod (wrap64 (x4 + 1)) (x0.length : Int)) then (if (Int.tmod (wrap64 (x4 + 1)) (x0.length : Int)) < (x0.length : Int) then (if 0 ≤ x4 then (spec_l13Twice.l0 k x0 (wrap64 (x3 + (wrap64 ((wrap64 (((rd_T77 x0 x4).f0) * ((rd_T77 x0 (Int.tmod (wrap64 (x4 + 1)) (x0.length : Int))).f1))) - (wrap64 (((rd_T77 x0 (Int.tmod (wrap64 (x4 + 1)) (x0.length : Int))).f0) * ((rd_T77 x0 x4).f1))))))) (wrap64 (x4 + 1))) else (none)) else (none)) else (none))) else (some x3)) (fun k => (spec_l13Twice.mono_l k) x0 x3 x4) (fun k => by simp only [spec_l13Twice.l0]) ?_
  repeat' first
    | with_reducible exact Lim.const _
    | with_reducible exact spec_l13Twice.L0_lim _ _ _
    | with_reducible refine Lim.ite ?_ ?_
    | with_reducible refine Lim.bind ?_ (fun _ => ?_)
theorem spec_l13Twice.F_eq (l0 : List (S77)) : spec_l13Twice.F l0 = spec_l13Twice.L0 l0 0 0 := by
  refine Lim.eq (g := fun k => spec_l13Twice.f k l0) ?_
  unfold spec_l13Twice.f
  repeat' first
    | with_reducible exact Lim.const _
    | with_reducible exact spec_l13Twice.L0_lim _ _ _
    | with_reducible refine Lim.ite ?_ ?_
    | with_reducible refine Lim.bind ?_ (fun _ => ?_)

noncomputable def spec_l13Meet.J0 (x30 : Bool) (x184000 : Int) (x184001 : Int) (x185000 : Int) (x185001 : Int) (x186000 : Int) (x186001 : Int) (x187000 : Int) (x187001 : Int) : Option (Bool) := lim (fun k => spec_l13Meet.j0 k x30 x184000 x184001 x185000 x185001 x186000 x186001 x187000 x187001)
theorem spec_l13Meet.J0_lim (x30 : Bool) (x184000 : Int) (x184001 : Int) (x185000 : Int) (x185001 : Int) (x186000 : Int) (x186001 : Int) (x187000 : Int) (x187001 : Int) : Lim (fun k => spec_l13Meet.j0 k x30 x184000 x184001 x185000 x185001 x186000 x186001 x187000 x187001) (spec_l13Meet.J0 x30 x184000 x184001 x185000 x185001 x186000 x186001 x187000 x187001) := Lim.of (fun k => (spec_l13Meet.mono_l k) x30 x184000 x184001 x185000 x185001 x186000 x186001 x187000 x187001)
noncomputable def spec_l13Meet.F (a0_0 : Int) (a0_1 : Int) (a1_0 : Int) (a1_1 : Int) (a2_0 : Int) (a2_1 : Int) (a3_0 : Int) (a3_1 : Int) : Option (Bool) := lim (fun k => spec_l13Meet.f k a0_0 a0_1 a1_0 a1_1 a2_0 a2_1 a3_0 a3_1)
theorem spec_l13Meet.F_lim (a0_0 : Int) (a0_1 : Int) (a1_0 : Int) (a1_1 : Int) (a2_0 : Int) (a2_1 : Int) (a3_0 : Int) (a3_1 : Int) : Lim (fun k => spec_l13Meet.f k a0_0 a0_1 a1_0 a1_1 a2_0 a2_1 a3_0 a3_1) (spec_l13Meet.F a0_0 a0_1 a1_0 a1_1 a2_0 a2_1 a3_0 a3_1) := Lim.of (fun k => spec_l13Meet.mono a0_0 a0_1 a1_0 a1_1 a2_0 a2_1 a3_0 a3_1 k)
theorem spec_l13Meet.J0_eq (x30 : Bool) (x184000 : Int) (x184001 : Int) (x185000 : Int) (x185001 : Int) (x186000 : Int) (x186001 : Int) (x187000 : Int) (x187001 : Int) : spec_l13Meet.J0 x30 x184000 x184001 x185000 x185001 x186000 x186001 x187000 x187001 = if x30 = true then (some true) else ((spec_l13Sides.f x184000 x184001 x185000 x185001 x186000 x186001 x187000 x187001).bind fun t191 => (if t191 = true then ((spec_l13Sides.f x186000 x186001 x187000 x187001 x184000 x184001 x185000 x185001).bind fun t192 => (some t192)) else (some false))) := by
  refine Lim.step (f := fun k => if x30 = true then (some true) else ((spec_l13Sides.f x184000 x184001 x185000 x185001 x186000 x186001 x187000 x187001).bind fun t191 => (if t191 = true then ((spec_l13Sides.f x186000 x186001 x187000 x187001 x184000 x184001 x185000 x185001).bind fun t192 => (some t192)) else (some false)))) (fun k => (spec_l13Meet.mono_l k) x30 x184000 x184001 x185000 x185001 x186000 x186001 x187000 x187001) (fun k => by simp only [spec_l13Meet.j0]) ?_
  repeat' first
    | with_reducible exact Lim.const _
    | with_reducible refine Lim.ite ?_ ?_
    | with_reducible refine Lim.bind ?_ (fun _ => ?_)
theorem spec_l13Meet.F_eq (a0_0 : Int) (a0_1 : Int) (a1_0 : Int) (a1_1 : Int) (a2_0 : Int) (a2_1 : Int) (a3_0 : Int) (a3_1 : Int) : spec_l13Meet.F a0_0 a0_1 a1_0 a1_1 a2_0 a2_1 a3_0 a3_1 = (spec_l13On.f a0_0 a0_1 a1_0 a1_1 a2_0 a2_1).bind fun t187 => (if t187 = true then (spec_l13Meet.J0 true a0_0 a0_1 a1_0 a1_1 a2_0 a2_1 a3_0 a3_1) else ((spec_l13On.f a0_0 a0_1 a1_0 a1_1 a3_0 a3_1).bind fun t188 => (if t188 = true then (spec_l13Meet.J0 true a0_0 a0_1 a1_0 a1_1 a2_0 a2_1 a3_0 a3_1) else ((spec_l13On.f a2_0 a2_1 a3_0 a3_1 a0_0 a0_1).bind fun t189 => (if t189 = true then (spec_l13Meet.J0 true a0_0 a0_1 a1_0 a1_1 a2_0 a2_1 a3_0 a3_1) else ((spec_l13On.f a2_0 a2_1 a3_0 a3_1 a1_0 a1_1).bind fun t190 => (spec_l13Meet.J0 t190 a0_0 a0_1 a1_0 a1_1 a2_0 a2_1 a3_0 a3_1))))))) := by
  refine Lim.eq (g := fun k => spec_l13Meet.f k a0_0 a0_1 a1_0 a1_1 a2_0 a2_1 a3_0 a3_1) ?_
  unfold spec_l13Meet.f
  repeat' first
    | with_reducible exact Lim.const _
    | with_reducible exact spec_l13Meet.J0_lim _ _ _ _ _ _ _ _ _
    | with_reducible refine Lim.ite ?_ ?_
    | with_reducible refine Lim.bind ?_ (fun _ => ?_)

noncomputable def spec_l13Ok.L0 (x0 : List (S77)) (x3 : Int) (x4 : Int) : Option (Bool) := lim (fun k => spec_l13Ok.l0 k x0 x3 x4)
theorem spec_l13Ok.L0_lim (x0 : List (S77)) (x3 : Int) (x4 : Int) : Lim (fun k => spec_l13Ok.l0 k x0 x3 x4) (spec_l13Ok.L0 x0 x3 x4) := Lim.of (fun k => (spec_l13Ok.mono_l k).1 x0 x3 x4)
noncomputable def spec_l13Ok.L1 (x0 : List (S77)) (x3 : Int) (x5 : Int) : Option (Bool) := lim (fun k => spec_l13Ok.l1 k x0 x3 x5)
theorem spec_l13Ok.L1_lim (x0 : List (S77)) (x3 : Int) (x5 : Int) : Lim (fun k => spec_l13Ok.l1 k x0 x3 x5) (spec_l13Ok.L1 x0 x3 x5) := Lim.of (fun k => (spec_l13Ok.mono_l k).2.1 x0 x3 x5)
noncomputable def spec_l13Ok.L2 (x0 : List (S77)) (x3 : Int) (x5 : Int) (x8 : Int) (x201000 : Int) (x201001 : Int) (x203000 : Int) (x203001 : Int) : Option (Bool) := lim (fun k => spec_l13Ok.l2 k x0 x3 x5 x8 x201000 x201001 x203000 x203001)
theorem spec_l13Ok.L2_lim (x0 : List (S77)) (x3 : Int) (x5 : Int) (x8 : Int) (x201000 : Int) (x201001 : Int) (x203000 : Int) (x203001 : Int) : Lim (fun k => spec_l13Ok.l2 k x0 x3 x5 x8 x201000 x201001 x203000 x203001) (spec_l13Ok.L2 x0 x3 x5 x8 x201000 x201001 x203000 x203001) := Lim.of (fun k => (spec_l13Ok.mono_l k).2.2 x0 x3 x5 x8 x201000 x201001 x203000 x203001)
noncomputable def spec_l13Ok.F (l0 : List (S77)) : Option (Bool) := lim (fun k => spec_l13Ok.f k l0)
theorem spec_l13Ok.F_lim (l0 : List (S77)) : Lim (fun k => spec_l13Ok.f k l0) (spec_l13Ok.F l0) := Lim.of (fun k => spec_l13Ok.mono l0 k)
theorem spec_l13Ok.L0_eq (x0 : List (S77)) (x3 : Int) (x4 : Int) : spec_l13Ok.L0 x0 x3 x4 = if x4 < x3 then (if 0 ≤ x4 then (if x4 < (x0.length : Int) then ((spec_l00In.f ((rd_T77 x0 x4).f0) 0 2000).bind fun t195 => (if t195 = true then ((spec_l00In.f ((rd_T77 x0 x4).f1) 0 2000).bind fun t197 => (if t197 = true then (spec_l13Ok.L0 x0 x3 (wrap64 (x4 + 1))) else (some false))) else (some false))) else (none)) else (none)) else (spec_l13Ok.L1 x0 x3 0) := by
  refine Lim.step (f := fun k => if x4 < x3 then (if 0 ≤ x4 then (if x4 < (x0.length : Int) then ((spec_l00In.f ((rd_T77 x0 x4).f0) 0 2000).bind fun t195 => (if t195 = true then ((spec_l00In.f ((rd_T77 x0 x4).f1) 0 2000).bind fun t197 => (if t197 = true then (spec_l13Ok.l0 k x0 x3 (wrap64 (x4 + 1))) else (some false))) else (some false))) else (none)) else (none)) else (spec_l13Ok.l1 k x0 x3 0)) (fun k => (spec_l13Ok.mono_l k).1 x0 x3 x4) (fun k => by simp only [spec_l13Ok.l0]) ?_
  repeat' first
    | with_reducible exact Lim.const _
    | with_reducible exact spec_l13Ok.L0_lim _ _ _
    | with_reducible exact spec_l13Ok.L1_lim _ _ _
    | with_reducible refine Lim.ite ?_ ?_
    | with_reducible refine Lim.bind ?_ (fun _ => ?_)
theorem spec_l13Ok.L1_eq (x0 : List (S77)) (x3 : Int) (x5 : Int) : spec_l13Ok.L1 x0 x3 x5 = if x5 < x3 then (if 0 ≤ x5 then (if x5 < (x0.length : Int) then (if x3 = 0 then (none) else (if 0 ≤ (Int.tmod (wrap64 (x5 + 1)) x3) then (if (Int.tmod (wrap64 (x5 + 1)) x3) < (x0.length : Int) then (if 0 ≤ (Int.tmod (wrap64 (x5 + 2)) x3) then (if (Int.tmod (wrap64 (x5 + 2)) x3) < (x0.length : Int) then ((spec_l13Cross.f ((rd_T77 x0 x5).f0) ((rd_T77 x0 x5).f1) ((rd_T77 x0 (Int.tmod (wrap64 (x5 + 1)) x3)).f0) ((rd_T77 x0 (Int.tmod (wrap64 (x5 + 1)) x3)).f1) ((rd_T77 x0 (Int.tmod (wrap64 (x5 + 2)) x3)).f0) ((rd_T77 x0 (Int.tmod (wrap64 (x5 + 2)) x3)).f1)).bind fun t204 => (if t204 = 0 then (some false) else (spec_l13Ok.L2 x0 x3 x5 (wrap64 (x5 + 2)) ((rd_T77 x0 x5).f0) ((rd_T77 x0 x5).f1) ((rd_T77 x0 (Int.tmod (wrap64 (x5 + 1)) x3)).f0) ((rd_T77 x0 (Int.tmod (wrap64 (x5 + 1)) x3)).f1)))) else (none)) else (none)) else (none)) else (none))) else (none)) else (none)) else ((spec_l13Twice.F x0).bind fun t198 => (some (decide (t198 > 0)))) := by
  refine Lim.step (f := fun k => if x5 < x3 then (if 0 ≤ x5 then (if x5 < (x0.length : Int) then (if x3 = 0 then (none) else (if 0 ≤ (Int.tmod (wrap64 (x5 + 1)) x3) then (if (Int.tmod (wrap64 (x5 + 1)) x3) < (x0.length : Int) then (if 0 ≤ (Int.tmod (wrap64 (x5 + 2)) x3) then (if (Int.tmod (wrap64 (x5 + 2)) x3) < (x0.length : Int) then ((spec_l13Cross.f ((rd_T77 x0 x5).f0) ((rd_T77 x0 x5).f1) ((rd_T77 x0 (Int.tmod (wrap64 (x5 + 1)) x3)).f0) ((rd_T77 x0 (Int.tmod (wrap64 (x5 + 1)) x3)).f1) ((rd_T77 x0 (Int.tmod (wrap64 (x5 + 2)) x3)).f0) ((rd_T77 x0 (Int.tmod (wrap64 (x5 + 2)) x3)).f1)).bind fun t204 => (if t204 = 0 then (some false) else (spec_l13Ok.l2 k x0 x3 x5 (wrap64 (x5 + 2)) ((rd_T77 x0 x5).f0) ((rd_T77 x0 x5).f1) ((rd_T77 x0 (Int.tmod (wrap64 (x5 + 1)) x3)).f0) ((rd_T77 x0 (Int.tmod (wrap64 (x5 + 1)) x3)).f1)))) else (none)) else (none)) else (none)) else (none))) else (none)) else (none)) else ((spec_l13Twice.f k x0).bind fun t198 => (some (decide (t198 > 0))))) (fun k => (spec_l13Ok.mono_l k).2.1 x0 x3 x5) (fun k => by simp only [spec_l13Ok.l1]) ?_
  repeat' first
    | with_reducible exact Lim.const _
    | with_reducible exact spec_l13Ok.L2_lim _ _ _ _ _ _ _ _
    | with_reducible exact spec_l13Twice.F_lim _
    | with_reducible refine Lim.ite ?_ ?_
    | with_reducible refine Lim.bind ?_ (fun _ => ?_)
theorem spec_l13Ok.L2_eq (x0 : List (S77)) (x3 : Int) (x5 : Int) (x8 : Int) (x201000 : Int) (x201001 : Int) (x203000 : Int) (x203001 : Int) : spec_l13Ok.L2 x0 x3 x5 x8 x201000 x201001 x203000 x203001 = if x8 < x3 then (if x5 > 0 then (if 0 ≤ x8 then (if x8 < (x0.length : Int) then (if x3 = 0 then (none) else (if 0 ≤ (Int.tmod (wrap64 (x8 + 1)) x3) then (if (Int.tmod (wrap64 (x8 + 1)) x3) < (x0.length : Int) then ((spec_l13Meet.F x201000 x201001 x203000 x203001 ((rd_T77 x0 x8).f0) ((rd_T77 x0 x8).f1) ((rd_T77 x0 (Int.tmod (wrap64 (x8 + 1)) x3)).f0) ((rd_T77 x0 (Int.tmod (wrap64 (x8 + 1)) x3)).f1)).bind fun t207 => (if t207 = true then (some false) else (spec_l13Ok.L2 x0 x3 x5 (wrap64 (x8 + 1)) x201000 x201001 x203000 x203001))) else (none)) else (none))) else (none)) else (none)) else (if x8 < (wrap64 (x3 - 1)) then (if 0 ≤ x8 then (if x8 < (x0.length : Int) then (if x3 = 0 then (none) else (if 0 ≤ (Int.tmod (wrap64 (x8 + 1)) x3) then (if (Int.tmod (wrap64 (x8 + 1)) x3) < (x0.length : Int) then ((spec_l13Meet.F x201000 x201001 x203000 x203001 ((rd_T77 x0 x8).f0) ((rd_T77 x0 x8).f1) ((rd_T77 x0 (Int.tmod (wrap64 (x8 + 1)) x3)).f0) ((rd_T77 x0 (Int.tmod (wrap64 (x8 + 1)) x3)).f1)).bind fun t210 => (if t210 = true then (some false) else (spec_l13Ok.L2 x0 x3 x5 (wrap64 (x8 + 1)) x201000 x201001 x203000 x203001))) else (none)) else (none))) else (none)) else (none)) else (spec_l13Ok.L2 x0 x3 x5 (wrap64 (x8 + 1)) x201000 x201001 x203000 x203001))) else (spec_l13Ok.L1 x0 x3 (wrap64 (x5 + 1))) := by
  refine Lim.step (f := fun k => if x8 < x3 then (if x5 > 0 then (if 0 ≤ x8 then (if x8 < (x0.length : Int) then (if x3 = 0 then (none) else (if 0 ≤ (Int.tmod (wrap64 (x8 + 1)) x3) then (if (Int.tmod (wrap64 (x8 + 1)) x3) < (x0.length : Int) then ((spec_l13Meet.f k x201000 x201001 x203000 x203001 ((rd_T77 x0 x8).f0) ((rd_T77 x0 x8).f1) ((rd_T77 x0 (Int.tmod (wrap64 (x8 + 1)) x3)).f0) ((rd_T77 x0 (Int.tmod (wrap64 (x8 + 1)) x3)).f1)).bind fun t207 => (if t207 = true then (some false) else (spec_l13Ok.l2 k x0 x3 x5 (wrap64 (x8 + 1)) x201000 x201001 x203000 x203001))) else (none)) else (none))) else (none)) else (none)) else (if x8 < (wrap64 (x3 - 1)) then (if 0 ≤ x8 then (if x8 < (x0.length : Int) then (if x3 = 0 then (none) else (if 0 ≤ (Int.tmod (wrap64 (x8 + 1)) x3) then (if (Int.tmod (wrap64 (x8 + 1)) x3) < (x0.length : Int) then ((spec_l13Meet.f k x201000 x201001 x203000 x203001 ((rd_T77 x0 x8).f0) ((rd_T77 x0 x8).f1) ((rd_T77 x0 (Int.tmod (wrap64 (x8 + 1)) x3)).f0) ((rd_T77 x0 (Int.tmod (wrap64 (x8 + 1)) x3)).f1)).bind fun t210 => (if t210 = true then (some false) else (spec_l13Ok.l2 k x0 x3 x5 (wrap64 (x8 + 1)) x201000 x201001 x203000 x203001))) else (none)) else (none))) else (none)) else (none)) else (spec_l13Ok.l2 k x0 x3 x5 (wrap64 (x8 + 1)) x201000 x201001 x203000 x203001))) else (spec_l13Ok.l1 k x0 x3 (wrap64 (x5 + 1)))) (fun k => (spec_l13Ok.mono_l k).2.2 x0 x3 x5 x8 x201000 x201001 x203000 x203001) (fun k => by simp only [spec_l13Ok.l2]) ?_
  repeat' first
    | with_reducible exact Lim.const _
    | with_reducible exact spec_l13Meet.F_lim _ _ _ _ _ _ _ _
    | with_reducible exact spec_l13Ok.L1_lim _ _ _
    | with_reducible exact spec_l13Ok.L2_lim _ _ _ _ _ _ _ _
    | with_reducible refine Lim.ite ?_ ?_
    | with_reducible refine Lim.bind ?_ (fun _ => ?_)
theorem spec_l13Ok.F_eq (l0 : List (S77)) : spec_l13Ok.F l0 = (spec_l00In.f (l0.length : Int) 3 8).bind fun t193 => (if t193 = true then (spec_l13Ok.L0 l0 (l0.length : Int) 0) else (some false)) := by
  refine Lim.eq (g := fun k => spec_l13Ok.f k l0) ?_
  unfold spec_l13Ok.f
  repeat' first
    | with_reducible exact Lim.const _
    | with_reducible exact spec_l13Ok.L0_lim _ _ _
    | with_reducible refine Lim.ite ?_ ?_
    | with_reducible refine Lim.bind ?_ (fun _ => ?_)

noncomputable def spec_l17Ok.L0 (x0 : List (S29)) (x3 : Int) : Option (Bool) := lim (fun k => spec_l17Ok.l0 k x0 x3)
theorem spec_l17Ok.L0_lim (x0 : List (S29)) (x3 : Int) : Lim (fun k => spec_l17Ok.l0 k x0 x3) (spec_l17Ok.L0 x0 x3) := Lim.of (fun k => (spec_l17Ok.mono_l k) x0 x3)
noncomputable def spec_l17Ok.F (l0 : List (S29)) : Option (Bool) := lim (fun k => spec_l17Ok.f k l0)
theorem spec_l17Ok.F_lim (l0 : List (S29)) : Lim (fun k => spec_l17Ok.f k l0) (spec_l17Ok.F l0) := Lim.of (fun k => spec_l17Ok.mono l0 k)
theorem spec_l17Ok.L0_eq (x0 : List (S29)) (x3 : Int) : spec_l17Ok.L0 x0 x3 = if x3 < (((rd_T29 x0 0).f0).length : Int) then (if 0 ≤ x3 then ((spec_IsName.F ((rd_T54 ((rd_T29 x0 0).f0) x3).f0)).bind fun t221 => (if t221 = true then ((spec_l17Find.F x0 ((rd_T54 ((rd_T29 x0 0).f0) x3).f0)).bind fun t222 => (if t222 = x3 then ((spec_l13Ok.F ((rd_T54 ((rd_T29 x0 0).f0) x3).f1)).bind fun t223 => (if t223 = true then (spec_l17Ok.L0 x0 (wrap64 (x3 + 1))) else (some false))) else (some false))) else (some false))) else (none)) else (if (((rd_T29 x0 0).f0).length : Int) ≤ 8 then ((spec_l00In.f ((rd_T29 x0 0).f2) 1 5000).bind fun t215 => (if t215 = true then ((spec_l00In.f ((rd_T29 x0 0).f1) 0 ((rd_T29 x0 0).f2)).bind fun t218 => (some t218)) else (some false))) else (some false)) := by
  refine Lim.step (f := fun k => if x3 < (((rd_T29 x0 0).f0).length : Int) then (if 0 ≤ x3 then ((spec_IsName.f k ((rd_T54 ((rd_T29 x0 0).f0) x3).f0)).bind fun t221 => (if t221 = true then ((spec_l17Find.f k x0 ((rd_T54 ((rd_T29 x0 0).f0) x3).f0)).bind fun t222 => (if t222 = x3 then ((spec_l13Ok.f k ((rd_T54 ((rd_T29 x0 0).f0) x3).f1)).bind fun t223 => (if t223 = true then (spec_l17Ok.l0 k x0 (wrap64 (x3 + 1))) else (some false))) else (some false))) else (some false))) else (none)) else (if (((rd_T29 x0 0).f0).length : Int) ≤ 8 then ((spec_l00In.f ((rd_T29 x0 0).f2) 1 5000).bind fun t215 => (if t215 = true then ((spec_l00In.f ((rd_T29 x0 0).f1) 0 ((rd_T29 x0 0).f2)).bind fun t218 => (some t218)) else (some false))) else (some false))) (fun k => (spec_l17Ok.mono_l k) x0 x3) (fun k => by simp only [spec_l17Ok.l0]) ?_
  repeat' first
    | with_reducible exact Lim.const _
    | with_reducible exact spec_IsName.F_lim _
    | with_reducible exact spec_l13Ok.F_lim _
    | with_reducible exact spec_l17Find.F_lim _ _
    | with_reducible exact spec_l17Ok.L0_lim _ _
    | with_reducible refine Lim.ite ?_ ?_
    | with_reducible refine Lim.bind ?_ (fun _ => ?_)
theorem spec_l17Ok.F_eq (l0 : List (S29)) : spec_l17Ok.F l0 = if 0 < (l0.length : Int) then (spec_l17Ok.L0 l0 0) else (none) := by
  refine Lim.eq (g := fun k => spec_l17Ok.f k l0) ?_
  unfold spec_l17Ok.f
  repeat' first
    | with_reducible exact Lim.const _
    | with_reducible exact spec_l17Ok.L0_lim _ _
    | with_reducible refine Lim.ite ?_ ?_
    | with_reducible refine Lim.bind ?_ (fun _ => ?_)

noncomputable def spec_l17Area.L0 (x0 : List (S29)) (x3 : Int) (x4 : Int) : Option (Int) := lim (fun k => spec_l17Area.l0 k x0 x3 x4)
theorem spec_l17Area.L0_lim (x0 : List (S29)) (x3 : Int) (x4 : Int) : Lim (fun k => spec_l17Area.l0 k x0 x3 x4) (spec_l17Area.L0 x0 x3 x4) := Lim.of (fun k => (spec_l17Area.mono_l k) x0 x3 x4)
noncomputable def spec_l17Area.F (l0 : List (S29)) : Option (Int) := lim (fun k => spec_l17Area.f k l0)
theorem spec_l17Area.F_lim (l0 : List (S29)) : Lim (fun k => spec_l17Area.f k l0) (spec_l17Area.F l0) := Lim.of (fun k => spec_l17Area.mono l0 k)
theorem spec_l17Area.L0_eq (x0 : List (S29)) (x3 : Int) (x4 : Int) : spec_l17Area.L0 x0 x3 x4 = if x4 < (((rd_T29 x0 0).f0).length : Int) then (if 0 ≤ x4 then (if (rd_T54 ((rd_T29 x0 0).f0) x4).f2 = true then ((spec_l13Twice.F ((rd_T54 ((rd_T29 x0 0).f0) x4).f1)).bind fun t230 => (spec_l17Area.L0 x0 (wrap64 (x3 + t230)) (wrap64 (x4 + 1)))) else (spec_l17Area.L0 x0 x3 (wrap64 (x4 + 1)))) else (none)) else (some x3) := by
  refine Lim.step (f := fun k => if x4 < (((rd_T29 x0 0).f0).length : Int) then (if 0 ≤ x4 then (if (rd_T54 ((rd_T29 x0 0).f0) x4).f2 = true then ((spec_l13Twice.f k ((rd_T54 ((rd_T29 x0 0).f0) x4).f1)).bind fun t230 => (spec_l17Area.l0 k x0 (wrap64 (x3 + t230)) (wrap64 (x4 + 1)))) else (spec_l17Area.l0 k x0 x3 (wrap64 (x4 + 1)))) else (none)) else (some x3)) (fun k => (spec_l17Area.mono_l k) x0 x3 x4) (fun k => by simp only [spec_l17Area.l0]) ?_
  repeat' first
    | with_reducible exact Lim.const _
    | with_reducible exact spec_l13Twice.F_lim _
    | with_reducible exact spec_l17Area.L0_lim _ _ _
    | with_reducible refine Lim.ite ?_ ?_
    | with_reducible refine Lim.bind ?_ (fun _ => ?_)
theorem spec_l17Area.F_eq (l0 : List (S29)) : spec_l17Area.F l0 = if 0 < (l0.length : Int) then (spec_l17Area.L0 l0 0 0) else (none) := by
  refine Lim.eq (g := fun k => spec_l17Area.f k l0) ?_
  unfold spec_l17Area.f
  repeat' first
    | with_reducible exact Lim.const _
    | with_reducible exact spec_l17Area.L0_lim _ _ _
    | with_reducible refine Lim.ite ?_ ?_
    | with_reducible refine Lim.bind ?_ (fun _ => ?_)

noncomputable def spec_l17Code.F (l0 : List (S29)) : Option (Int) := lim (fun k => spec_l17Code.f k l0)
theorem spec_l17Code.F_lim (l0 : List (S29)) : Lim (fun k => spec_l17Code.f k l0) (spec_l17Code.F l0) := Lim.of (fun k => spec_l17Code.mono l0 k)
theorem spec_l17Code.F_eq (l0 : List (S29)) : spec_l17Code.F l0 = if 0 < (l0.length : Int) then ((spec_l17Ok.F l0).bind fun t232 => (if t232 = true then ((spec_l17Area.F l0).bind fun t233 => (if t233 = 0 then (some 3) else (some 0))) else (some 1))) else (none) := by
  refine Lim.eq (g := fun k => spec_l17Code.f k l0) ?_
  unfold spec_l17Code.f
  repeat' first
    | with_reducible exact Lim.const _
    | with_reducible exact spec_l17Area.F_lim _
    | with_reducible exact spec_l17Ok.F_lim _
    | with_reducible refine Lim.ite ?_ ?_
    | with_reducible refine Lim.bind ?_ (fun _ => ?_)

noncomputable def spec_l13Moments.L0 (x0 : List (S77)) (x4 : Int) (x5 : Int) (x6 : Int) : Option (Int × Int) := lim (fun k => spec_l13Moments.l0 k x0 x4 x5 x6)
theorem spec_l13Moments.L0_lim (x0 : List (S77)) (x4 : Int) (x5 : Int) (x6 : Int) : Lim (fun k => spec_l13Moments.l0 k x0 x4 x5 x6) (spec_l13Moments.L0 x0 x4 x5 x6) := Lim.of (fun k => (spec_l13Moments.mono_l k) x0 x4 x5 x6)
noncomputable def spec_l13Moments.F (l0 : List (S77)) : Option (Int × Int) := lim (fun k => spec_l13Moments.f k l0)
theorem spec_l13Moments.F_lim (l0 : List (S77)) : Lim (fun k => spec_l13Moments.f k l0) (spec_l13Moments.F l0) := Lim.of (fun k => spec_l13Moments.mono l0 k)
theorem spec_l13Moments.L0_eq (x0 : List (S77)) (x4 : Int) (x5 : Int) (x6 : Int) : spec_l13Moments.L0 x0 x4 x5 x6 = if x6 < (x0.length : Int) then (if 0 ≤ x6 then (if (x0.length : Int) = 0 then (none) else (if 0 ≤ (Int.tmod (wrap64 (x6 + 1)) (x0.length : Int)) then (if (Int.tmod (wrap64 (x6 + 1)) (x0.length : Int)) < (x0.length : Int) then (spec_l13Moments.L0 x0 (wrap64 (x4 + (wrap64 ((wrap64 (((rd_T77 x0 x6).f0) + ((rd_T77 x0 (Int.tmod (wrap64 (x6 + 1)) (x0.length : Int))).f0))) * (wrap64 ((wrap64 (((rd_T77 x0 x6).f0) * ((rd_T77 x0 (Int.tmod (wrap64 (x6 + 1)) (x0.length : Int))).f1))) - (wrap64 (((rd_T77 x0 (Int.tmod (wrap64 (x6 + 1)) (x0.length : Int))).f0) * ((rd_T77 x0 x6).f1))))))))) (wrap64 (x5 + (wrap64 ((wrap64 (((rd_T77 x0 x6).f1) + ((rd_T77 x0 (Int.tmod (wrap64 (x6 + 1)) (x0.length : Int))).f1))) * (wrap64 ((wrap64 (((rd_T77 x0 x6).f0) * ((rd_T77 x0 (Int.tmod (wrap64 (x6 + 1)) (x0.length : Int))).f1))) - (wrap64 (((rd_T77 x0 (Int.tmod (wrap64 (x6 + 1)) (x0.length : Int))).f0) * ((rd_T77 x0 x6).f1))))))))) (wrap64 (x6 + 1))) else (none)) else (none))) else (none)) else (some (x4, x5)) := by
  refine Lim.step (f := fun k => if x6 < (x0.length : Int) then (if 0 ≤ x6 then (if (x0.length : Int) = 0 then (none) else (if 0 ≤ (Int.tmod (wrap64 (x6 + 1)) (x0.length : Int)) then (if (Int.tmod (wrap64 (x6 + 1)) (x0.length : Int)) < (x0.length : Int) then (spec_l13Moments.l0 k x0 (wrap64 (x4 + (wrap64 ((wrap64 (((rd_T77 x0 x6).f0) + ((rd_T77 x0 (Int.tmod (wrap64 (x6 + 1)) (x0.length : Int))).f0))) * (wrap64 ((wrap64 (((rd_T77 x0 x6).f0) * ((rd_T77 x0 (Int.tmod (wrap64 (x6 + 1)) (x0.length : Int))).f1))) - (wrap64 (((rd_T77 x0 (Int.tmod (wrap64 (x6 + 1)) (x0.length : Int))).f0) * ((rd_T77 x0 x6).f1))))))))) (wrap64 (x5 + (wrap64 ((wrap64 (((rd_T77 x0 x6).f1) + ((rd_T77 x0 (Int.tmod (wrap64 (x6 + 1)) (x0.length : Int))).f1))) * (wrap64 ((wrap64 (((rd_T77 x0 x6).f0) * ((rd_T77 x0 (Int.tmod (wrap64 (x6 + 1)) (x0.length : Int))).f1))) - (wrap64 (((rd_T77 x0 (Int.tmod (wrap64 (x6 + 1)) (x0.length : Int))).f0) * ((rd_T77 x0 x6).f1))))))))) (wrap64 (x6 + 1))) else (none)) else (none))) else (none)) else (some (x4, x5))) (fun k => (spec_l13Moments.mono_l k) x0 x4 x5 x6) (fun k => by simp only [spec_l13Moments.l0]) ?_
  repeat' first
    | with_reducible exact Lim.const _
    | with_reducible exact spec_l13Moments.L0_lim _ _ _ _
    | with_reducible refine Lim.ite ?_ ?_
    | with_reducible refine Lim.bind ?_ (fun _ => ?_)
theorem spec_l13Moments.F_eq (l0 : List (S77)) : spec_l13Moments.F l0 = spec_l13Moments.L0 l0 0 0 0 := by
  refine Lim.eq (g := fun k => spec_l13Moments.f k l0) ?_
  unfold spec_l13Moments.f
  repeat' first
    | with_reducible exact Lim.const _
    | with_reducible exact spec_l13Moments.L0_lim _ _ _ _
    | with_reducible refine Lim.ite ?_ ?_
    | with_reducible refine Lim.bind ?_ (fun _ => ?_)

noncomputable def spec_l17Moments.L0 (x0 : List (S29)) (x4 : Int) (x5 : Int) (x6 : Int) : Option (Int × Int) := lim (fun k => spec_l17Moments.l0 k x0 x4 x5 x6)
theorem spec_l17Moments.L0_lim (x0 : List (S29)) (x4 : Int) (x5 : Int) (x6 : Int) : Lim (fun k => spec_l17Moments.l0 k x0 x4 x5 x6) (spec_l17Moments.L0 x0 x4 x5 x6) := Lim.of (fun k => (spec_l17Moments.mono_l k) x0 x4 x5 x6)
noncomputable def spec_l17Moments.F (l0 : List (S29)) : Option (Int × Int) := lim (fun k => spec_l17Moments.f k l0)
theorem spec_l17Moments.F_lim (l0 : List (S29)) : Lim (fun k => spec_l17Moments.f k l0) (spec_l17Moments.F l0) := Lim.of (fun k => spec_l17Moments.mono l0 k)
theorem spec_l17Moments.L0_eq (x0 : List (S29)) (x4 : Int) (x5 : Int) (x6 : Int) : spec_l17Moments.L0 x0 x4 x5 x6 = if x6 < (((rd_T29 x0 0).f0).length : Int) then (if 0 ≤ x6 then (if (rd_T54 ((rd_T29 x0 0).f0) x6).f2 = true then ((spec_l13Moments.F ((rd_T54 ((rd_T29 x0 0).f0) x6).f1)).bind fun bt246 => (spec_l17Moments.L0 x0 (wrap64 (x4 + bt246.1)) (wrap64 (x5 + bt246.2)) (wrap64 (x6 + 1)))) else (spec_l17Moments.L0 x0 x4 x5 (wrap64 (x6 + 1)))) else (none)) else (some (x4, x5)) := by
  refine Lim.step (f := fun k => if x6 < (((rd_T29 x0 0).f0).length : Int) then (if 0 ≤ x6 then (if (rd_T54 ((rd_T29 x0 0).f0) x6).f2 = true then ((spec_l13Moments.f k ((rd_T54 ((rd_T29 x0 0).f0) x6).f1)).bind fun bt246 => (spec_l17Moments.l0 k x0 (wrap64 (x4 + bt246.1)) (wrap64 (x5 + bt246.2)) (wrap64 (x6 + 1)))) else (spec_l17Moments.l0 k x0 x4 x5 (wrap64 (x6 + 1)))) else (none)) else (some (x4, x5))) (fun k => (spec_l17Moments.mono_l k) x0 x4 x5 x6) (fun k => by simp only [spec_l17Moments.l0]) ?_
  repeat' first
    | with_reducible exact Lim.const _
    | with_reducible exact spec_l13Moments.F_lim _
    | with_reducible exact spec_l17Moments.L0_lim _ _ _ _
    | with_reducible refine Lim.ite ?_ ?_
    | with_reducible refine Lim.bind ?_ (fun _ => ?_)
theorem spec_l17Moments.F_eq (l0 : List (S29)) : spec_l17Moments.F l0 = if 0 < (l0.length : Int) then (spec_l17Moments.L0 l0 0 0 0) else (none) := by
  refine Lim.eq (g := fun k => spec_l17Moments.f k l0) ?_
  unfold spec_l17Moments.f
  repeat' first
    | with_reducible exact Lim.const _
    | with_reducible exact spec_l17Moments.L0_lim _ _ _ _
    | with_reducible refine Lim.ite ?_ ?_
    | with_reducible refine Lim.bind ?_ (fun _ => ?_)

noncomputable def spec_l17Lead.F (l0 : List (S29)) : Option (Int × Int) := lim (fun k => spec_l17Lead.f k l0)
theorem spec_l17Lead.F_lim (l0 : List (S29)) : Lim (fun k => spec_l17Lead.f k l0) (spec_l17Lead.F l0) := Lim.of (fun k => spec_l17Lead.mono l0 k)
theorem spec_l17Lead.F_eq (l0 : List (S29)) : spec_l17Lead.F l0 = if 0 < (l0.length : Int) then ((spec_l17Moments.F l0).bind fun bt249 => ((spec_l17Area.F l0).bind fun t251 => (some (wrap64 (bt249.1 - (wrap64 (((rd_T29 l0 0).f1) * (wrap64 (3 * t251))))), wrap64 (3 * t251))))) else (none) := by
  refine Lim.eq (g := fun k => spec_l17Lead.f k l0) ?_
  unfold spec_l17Lead.f
  repeat' first
    | with_reducible exact Lim.const _
    | with_reducible exact spec_l17Area.F_lim _
    | with_reducible exact spec_l17Moments.F_lim _
    | with_reducible refine Lim.ite ?_ ?_
    | with_reducible refine Lim.bind ?_ (fun _ => ?_)

noncomputable def spec_l17Helm.F (l0 : List (S29)) (a1 : Int) (a2 : Int) : Option (ByteArray) := lim (fun k => spec_l17Helm.f k l0 a1 a2)
theorem spec_l17Helm.F_lim (l0 : List (S29)) (a1 : Int) (a2 : Int) : Lim (fun k => spec_l17Helm.f k l0 a1 a2) (spec_l17Helm.F l0 a1 a2) := Lim.of (fun k => spec_l17Helm.mono l0 a1 a2 k)
theorem spec_l17Helm.F_eq (l0 : List (S29)) (a1 : Int) (a2 : Int) : spec_l17Helm.F l0 a1 a2 = if 0 < (l0.length : Int) then ((spec_l17Lead.F l0).bind fun bt254 => ((spec_l00Floor.f (wrap64 (1000 * bt254.1)) bt254.2).bind fun t256 => (if t256 < (wrap64 (a1 * ((rd_T29 l0 0).f2))) then (some (⟨#[119, 101, 97, 116, 104, 101, 114]⟩ : ByteArray)) else ((spec_l00Floor.f (wrap64 ((-1000) * bt254.1)) bt254.2).bind fun t258 => (if t258 < (wrap64 ((wrap64 (-a2)) * ((rd_T29 l0 0).f2))) then (some (⟨#[108, 101, 101]⟩ : ByteArray)) else (some (⟨#[98, 97, 108, 97, 110, 99, 101, 100]⟩ : ByteArray))))))) else (none) := by
  refine Lim.eq (g := fun k => spec_l17Helm.f k l0 a1 a2) ?_
  unfold spec_l17Helm.f
  repeat' first
    | with_reducible exact Lim.const _
    | with_reducible exact spec_l17Lead.F_lim _
    | with_reducible refine Lim.ite ?_ ?_
    | with_reducible refine Lim.bind ?_ (fun _ => ?_)

noncomputable def spec_HelmOf.F (l0_0 : List (S54)) (a0_1 : Int) (a0_2 : Int) (a1 : Int) (a2 : Int) : Option (ByteArray × Int) := lim (fun k => spec_HelmOf.f k l0_0 a0_1 a0_2 a1 a2)
theorem spec_HelmOf.F_lim (l0_0 : List (S54)) (a0_1 : Int) (a0_2 : Int) (a1 : Int) (a2 : Int) : Lim (fun k => spec_HelmOf.f k l0_0 a0_1 a0_2 a1 a2) (spec_HelmOf.F l0_0 a0_1 a0_2 a1 a2) := Lim.of (fun k => spec_HelmOf.mono l0_0 a0_1 a0_2 a1 a2 k)
theorem spec_HelmOf.F_eq (l0_0 : List (S54)) (a0_1 : Int) (a0_2 : Int) (a1 : Int) (a2 : Int) : spec_HelmOf.F l0_0 a0_1 a0_2 a1 a2 = (spec_l17Code.F [(⟨l0_0, a0_1, a0_2⟩ : S29)]).bind fun t262 => (if t262 = 1 then (some ((⟨#[]⟩ : ByteArray), t262)) else ((spec_l17Range.f a1 a2).bind fun t263 => (if t263 = true then (if t262 = 0 then ((spec_l17Helm.F [(⟨l0_0, a0_1, a0_2⟩ : S29)] a1 a2).bind fun t265 => (some (t265, 0))) else (some ((⟨#[]⟩ : ByteArray), t262))) else (some ((⟨#[]⟩ : ByteArray), 2))))) := by
  refine Lim.eq (g := fun k => spec_HelmOf.f k l0_0 a0_1 a0_2 a1 a2) ?_
  unfold spec_HelmOf.f
  repeat' first
    | with_reducible exact Lim.const _
    | with_reducible exact spec_l17Code.F_lim _
    | with_reducible exact spec_l17Helm.F_lim _ _ _
    | with_reducible refine Lim.ite ?_ ?_
    | with_reducible refine Lim.bind ?_ (fun _ => ?_)

noncomputable def impl_IsName.J0 (x0 : ByteArray) (x21 : Bool) : Option (Bool) := lim (fun k => impl_IsName.j0 k x0 x21)
theorem impl_IsName.J0_lim (x0 : ByteArray) (x21 : Bool) : Lim (fun k => impl_IsName.j0 k x0 x21) (impl_IsName.J0 x0 x21) := Lim.of (fun k => (impl_IsName.mono_l k).1 x0 x21)
noncomputable def impl_IsName.L0 (x0 : ByteArray) (x3 : Int) : Option (Bool) := lim (fun k => impl_IsName.l0 k x0 x3)
theorem impl_IsName.L0_lim (x0 : ByteArray) (x3 : Int) : Lim (fun k => impl_IsName.l0 k x0 x3) (impl_IsName.L0 x0 x3) := Lim.of (fun k => (impl_IsName.mono_l k).2 x0 x3)
noncomputable def impl_IsName.F (a0 : ByteArray) : Option (Bool) := lim (fun k => impl_IsName.f k a0)
theorem impl_IsName.F_lim (a0 : ByteArray) : Lim (fun k => impl_IsName.f k a0) (impl_IsName.F a0) := Lim.of (fun k => impl_IsName.mono a0 k)
theorem impl_IsName.J0_eq (x0 : ByteArray) (x21 : Bool) : impl_IsName.J0 x0 x21 = if x21 = true then (some false) else (impl_IsName.L0 x0 0) := by
  refine Lim.step (f := fun k => if x21 = true then (some false) else (impl_IsName.l0 k x0 0)) (fun k => (impl_IsName.mono_l k).1 x0 x21) (fun k => by simp only [impl_IsName.j0]) ?_
  repeat' first
    | with_reducible exact Lim.const _
    | with_reducible exact impl_IsName.L0_lim _ _
    | with_reducible refine Lim.ite ?_ ?_
    | with_reducible refine Lim.bind ?_ (fun _ => ?_)
theorem impl_IsName.L0_eq (x0 : ByteArray) (x3 : Int) : impl_IsName.L0 x0 x3 = if x3 < (x0.size : Int) then (if 0 ≤ x3 then (if (bt x0 x3) < 97 then (if (bt x0 x3) < 48 then (if (bt x0 x3) = 45 then (impl_IsName.L0 x0 (wrap64 (x3 + 1))) else (some false)) else (if (bt x0 x3) > 57 then (if (bt x0 x3) = 45 then (impl_IsName.L0 x0 (wrap64 (x3 + 1))) else (some false)) else (impl_IsName.L0 x0 (wrap64 (x3 + 1))))) else (if (bt x0 x3) > 122 then (if (bt x0 x3) < 48 then (if (bt x0 x3) = 45 then (impl_IsName.L0 x0 (wrap64 (x3 + 1))) else (some false)) else (if (bt x0 x3) > 57 then (if (bt x0 x3) = 45 then (impl_IsName.L0 x0 (wrap64 (x3 + 1))) else (some false)) else (impl_IsName.L0 x0 (wrap64 (x3 + 1))))) else (impl_IsName.L0 x0 (wrap64 (x3 + 1))))) else (none)) else (some true) := by
  refine Lim.step (f := fun k => if x3 < (x0.size : Int) then (if 0 ≤ x3 then (if (bt x0 x3) < 97 then (if (bt x0 x3) < 48 then (if (bt x0 x3) = 45 then (impl_IsName.l0 k x0 (wrap64 (x3 + 1))) else (some false)) else (if (bt x0 x3) > 57 then (if (bt x0 x3) = 45 then (impl_IsName.l0 k x0 (wrap64 (x3 + 1))) else (some false)) else (impl_IsName.l0 k x0 (wrap64 (x3 + 1))))) else (if (bt x0 x3) > 122 then (if (bt x0 x3) < 48 then (if (bt x0 x3) = 45 then (impl_IsName.l0 k x0 (wrap64 (x3 + 1))) else (some false)) else (if (bt x0 x3) > 57 then (if (bt x0 x3) = 45 then (impl_IsName.l0 k x0 (wrap64 (x3 + 1))) else (some false)) else (impl_IsName.l0 k x0 (wrap64 (x3 + 1))))) else (impl_IsName.l0 k x0 (wrap64 (x3 + 1))))) else (none)) else (some true)) (fun k => (impl_IsName.mono_l k).2 x0 x3) (fun k => by simp only [impl_IsName.l0]) ?_
  repeat' first
    | with_reducible exact Lim.const _
    | with_reducible exact impl_IsName.L0_lim _ _
    | with_reducible refine Lim.ite ?_ ?_
    | with_reducible refine Lim.bind ?_ (fun _ => ?_)
theorem impl_IsName.F_eq (a0 : ByteArray) : impl_IsName.F a0 = if (a0.size : Int) < 1 then (impl_IsName.J0 a0 true) else (if (a0.size : Int) > 12 then (impl_IsName.J0 a0 true) else (if 0 < (a0.size : Int) then (if (bt a0 0) < 97 then (impl_IsName.J0 a0 true) else (impl_IsName.J0 a0 (decide ((bt a0 0) > 122)))) else (none))) := by
  refine Lim.eq (g := fun k => impl_IsName.f k a0) ?_
  unfold impl_IsName.f
  repeat' first
    | with_reducible exact Lim.const _
    | with_reducible exact impl_IsName.J0_lim _ _
    | with_reducible refine Lim.ite ?_ ?_
    | with_reducible refine Lim.bind ?_ (fun _ => ?_)

noncomputable def impl_edgesMeet.J0 (x9 : Int) (x10 : Int) (x11 : Int) (x12 : Int) (x42 : Bool) (x275000 : Int) (x275001 : Int) (x276000 : Int) (x276001 : Int) (x277000 : Int) (x277001 : Int) (x278000 : Int) (x278001 : Int) : Option (Bool) := lim (fun k => impl_edgesMeet.j0 k x9 x10 x11 x12 x42 x275000 x275001 x276000 x276001 x277000 x277001 x278000 x278001)
theorem impl_edgesMeet.J0_lim (x9 : Int) (x10 : Int) (x11 : Int) (x12 : Int) (x42 : Bool) (x275000 : Int) (x275001 : Int) (x276000 : Int) (x276001 : Int) (x277000 : Int) (x277001 : Int) (x278000 : Int) (x278001 : Int) : Lim (fun k => impl_edgesMeet.j0 k x9 x10 x11 x12 x42 x275000 x275001 x276000 x276001 x277000 x277001 x278000 x278001) (impl_edgesMeet.J0 x9 x10 x11 x12 x42 x275000 x275001 x276000 x276001 x277000 x277001 x278000 x278001) := Lim.of (fun k => (impl_edgesMeet.mono_l k) x9 x10 x11 x12 x42 x275000 x275001 x276000 x276001 x277000 x277001 x278000 x278001)
noncomputable def impl_edgesMeet.F (a0_0 : Int) (a0_1 : Int) (a1_0 : Int) (a1_1 : Int) (a2_0 : Int) (a2_1 : Int) (a3_0 : Int) (a3_1 : Int) : Option (Bool) := lim (fun k => impl_edgesMeet.f k a0_0 a0_1 a1_0 a1_1 a2_0 a2_1 a3_0 a3_1)
theorem impl_edgesMeet.F_lim (a0_0 : Int) (a0_1 : Int) (a1_0 : Int) (a1_1 : Int) (a2_0 : Int) (a2_1 : Int) (a3_0 : Int) (a3_1 : Int) : Lim (fun k => impl_edgesMeet.f k a0_0 a0_1 a1_0 a1_1 a2_0 a2_1 a3_0 a3_1) (impl_edgesMeet.F a0_0 a0_1 a1_0 a1_1 a2_0 a2_1 a3_0 a3_1) := Lim.of (fun k => impl_edgesMeet.mono a0_0 a0_1 a1_0 a1_1 a2_0 a2_1 a3_0 a3_1 k)
theorem impl_edgesMeet.J0_eq (x9 : Int) (x10 : Int) (x11 : Int) (x12 : Int) (x42 : Bool) (x275000 : Int) (x275001 : Int) (x276000 : Int) (x276001 : Int) (x277000 : Int) (x277001 : Int) (x278000 : Int) (x278001 : Int) : impl_edgesMeet.J0 x9 x10 x11 x12 x42 x275000 x275001 x276000 x276001 x277000 x277001 x278000 x278001 = if x42 = true then (some true) else (if x9 = 0 then ((impl_between.f x275000 x275001 x276000 x276001 x277000 x277001).bind fun t286 => (if t286 = true then (some true) else (if x10 = 0 then ((impl_between.f x275000 x275001 x276000 x276001 x278000 x278001).bind fun t287 => (if t287 = true then (some true) else (if x11 = 0 then ((impl_between.f x277000 x277001 x278000 x278001 x275000 x275001).bind fun t288 => (if t288 = true then (some true) else (if x12 = 0 then ((impl_between.f x277000 x277001 x278000 x278001 x276000 x276001).bind fun t289 => (some t289)) else (some false)))) else (if x12 = 0 then ((impl_between.f x277000 x277001 x278000 x278001 x276000 x276001).bind fun t290 => (some t290)) else (some false))))) else (if x11 = 0 then ((impl_between.f x277000 x277001 x278000 x278001 x275000 x275001).bind fun t291 => (if t291 = true then (some true) else (if x12 = 0 then ((impl_between.f x277000 x277001 x278000 x278001 x276000 x276001).bind fun t292 => (some t292)) else (some false)))) else (if x12 = 0 then ((impl_between.f x277000 x277001 x278000 x278001 x276000 x276001).bind fun t293 => (some t293)) else (some false)))))) else (if x10 = 0 then ((impl_between.f x275000 x275001 x276000 x276001 x278000 x278001).bind fun t294 => (if t294 = true then (some true) else (if x11 = 0 then ((impl_between.f x277000 x277001 x278000 x278001 x275000 x275001).bind fun t295 => (if t295 = true then (some true) else (if x12 = 0 then ((impl_between.f x277000 x277001 x278000 x278001 x276000 x276001).bind fun t296 => (some t296)) else (some false)))) else (if x12 = 0 then ((impl_between.f x277000 x277001 x278000 x278001 x276000 x276001).bind fun t297 => (some t297)) else (some false))))) else (if x11 = 0 then ((impl_between.f x277000 x277001 x278000 x278001 x275000 x275001).bind fun t298 => (if t298 = true then (some true) else (if x12 = 0 then ((impl_between.f x277000 x277001 x278000 x278001 x276000 x276001).bind fun t299 => (some t299)) else (some false)))) else (if x12 = 0 then ((impl_between.f x277000 x277001 x278000 x278001 x276000 x276001).bind fun t300 => (some t300)) else (some false))))) := by
  refine Lim.step (f := fun k => if x42 = true then (some true) else (if x9 = 0 then ((impl_between.f x275000 x275001 x276000 x276001 x277000 x277001).bind fun t286 => (if t286 = true then (some true) else (if x10 = 0 then ((impl_between.f x275000 x275001 x276000 x276001 x278000 x278001).bind fun t287 => (if t287 = true then (some true) else (if x11 = 0 then ((impl_between.f x277000 x277001 x278000 x278001 x275000 x275001).bind fun t288 => (if t288 = true then (some true) else (if x12 = 0 then ((impl_between.f x277000 x277001 x278000 x278001 x276000 x276001).bind fun t289 => (some t289)) else (some false)))) else (if x12 = 0 then ((impl_between.f x277000 x277001 x278000 x278001 x276000 x276001).bind fun t290 => (some t290)) else (some false))))) else (if x11 = 0 then ((impl_between.f x277000 x277001 x278000 x278001 x275000 x275001).bind fun t291 => (if t291 = true then (some true) else (if x12 = 0 then ((impl_between.f x277000 x277001 x278000 x278001 x276000 x276001).bind fun t292 => (some t292)) else (some false)))) else (if x12 = 0 then ((impl_between.f x277000 x277001 x278000 x278001 x276000 x276001).bind fun t293 => (some t293)) else (some false)))))) else (if x10 = 0 then ((impl_between.f x275000 x275001 x276000 x276001 x278000 x278001).bind fun t294 => (if t294 = true then (some true) else (if x11 = 0 then ((impl_between.f x277000 x277001 x278000 x278001 x275000 x275001).bind fun t295 => (if t295 = true then (some true) else (if x12 = 0 then ((impl_between.f x277000 x277001 x278000 x278001 x276000 x276001).bind fun t296 => (some t296)) else (some false)))) else (if x12 = 0 then ((impl_between.f x277000 x277001 x278000 x278001 x276000 x276001).bind fun t297 => (some t297)) else (some false))))) else (if x11 = 0 then ((impl_between.f x277000 x277001 x278000 x278001 x275000 x275001).bind fun t298 => (if t298 = true then (some true) else (if x12 = 0 then ((impl_between.f x277000 x277001 x278000 x278001 x276000 x276001).bind fun t299 => (some t299)) else (some false)))) else (if x12 = 0 then ((impl_between.f x277000 x277001 x278000 x278001 x276000 x276001).bind fun t300 => (some t300)) else (some false)))))) (fun k => (impl_edgesMeet.mono_l k) x9 x10 x11 x12 x42 x275000 x275001 x276000 x276001 x277000 x277001 x278000 x278001) (fun k => by simp only [impl_edgesMeet.j0]) ?_
  repeat' first
    | with_reducible exact Lim.const _
    | with_reducible refine Lim.ite ?_ ?_
    | with_reducible refine Lim.bind ?_ (fun _ => ?_)
theorem impl_edgesMeet.F_eq (a0_0 : Int) (a0_1 : Int) (a1_0 : Int) (a1_1 : Int) (a2_0 : Int) (a2_1 : Int) (a3_0 : Int) (a3_1 : Int) : impl_edgesMeet.F a0_0 a0_1 a1_0 a1_1 a2_0 a2_1 a3_0 a3_1 = (impl_turnAt.f a0_0 a0_1 a1_0 a1_1 a2_0 a2_1).bind fun t278 => ((impl_turnAt.f a0_0 a0_1 a1_0 a1_1 a3_0 a3_1).bind fun t279 => ((impl_turnAt.f a2_0 a2_1 a3_0 a3_1 a0_0 a0_1).bind fun t280 => ((impl_turnAt.f a2_0 a2_1 a3_0 a3_1 a1_0 a1_1).bind fun t281 => ((impl_sign.f t278).bind fun t282 => ((impl_sign.f t279).bind fun t283 => (if (wrap64 (t282 * t283)) < 0 then ((impl_sign.f t280).bind fun t284 => ((impl_sign.f t281).bind fun t285 => (impl_edgesMeet.J0 t278 t279 t280 t281 (decide ((wrap64 (t284 * t285)) < 0)) a0_0 a0_1 a1_0 a1_1 a2_0 a2_1 a3_0 a3_1))) else (impl_edgesMeet.J0 t278 t279 t280 t281 false a0_0 a0_1 a1_0 a1_1 a2_0 a2_1 a3_0 a3_1))))))) := by
  refine Lim.eq (g := fun k => impl_edgesMeet.f k a0_0 a0_1 a1_0 a1_1 a2_0 a2_1 a3_0 a3_1) ?_
  unfold impl_edgesMeet.f
  repeat' first
    | with_reducible exact Lim.const _
    | with_reducible exact impl_edgesMeet.J0_lim _ _ _ _ _ _ _ _ _ _ _ _ _
    | with_reducible refine Lim.ite ?_ ?_
    | with_reducible refine Lim.bind ?_ (fun _ => ?_)

noncomputable def impl_twiceSail.L0 (x0 : List (S77)) (x3 : Int) (x7 : List (S77)) (x8 : Int) (x9 : Int) : Option (Int) := lim (fun k => impl_twiceSail.l0 k x0 x3 x7 x8 x9)
theorem impl_twiceSail.L0_lim (x0 : List (S77)) (x3 : Int) (x7 : List (S77)) (x8 : Int) (x9 : Int) : Lim (fun k => impl_twiceSail.l0 k x0 x3 x7 x8 x9) (impl_twiceSail.L0 x0 x3 x7 x8 x9) := Lim.of (fun k => (impl_twiceSail.mono_l k) x0 x3 x7 x8 x9)
noncomputable def impl_twiceSail.F (l0 : List (S77)) : Option (Int) := lim (fun k => impl_twiceSail.f k l0)
theorem impl_twiceSail.F_lim (l0 : List (S77)) : Lim (fun k => impl_twiceSail.f k l0) (impl_twiceSail.F l0) := Lim.of (fun k => impl_twiceSail.mono l0 k)
theorem impl_twiceSail.L0_eq (x0 : List (S77)) (x3 : Int) (x7 : List (S77)) (x8 : Int) (x9 : Int) : impl_twiceSail.L0 x0 x3 x7 x8 x9 = if x9 < x8 then (if 0 ≤ x9 then (if x9 < (x7.length : Int) then (if (x0.length : Int) = 0 then (none) else (if 0 ≤ (Int.tmod (wrap64 (x9 + 1)) (x0.length : Int)) then (if (Int.tmod (wrap64 (x9 + 1)) (x0.length : Int)) < (x0.length : Int) then (impl_twiceSail.L0 x0 (wrap64 (x3 + (wrap64 ((wrap64 (((rd_T77 x7 x9).f0) * ((rd_T77 x0 (Int.tmod (wrap64 (x9 + 1)) (x0.length : Int))).f1))) - (wrap64 (((rd_T77 x0 (Int.tmod (wrap64 (x9 + 1)) (x0.length : Int))).f0) * ((rd_T77 x7 x9).f1))))))) x7 x8 (wrap64 (x9 + 1))) else (none)) else (none))) else (none)) else (none)) else (some x3) := by
  refine Lim.step (f := fun k => if x9 < x8 then (if 0 ≤ x9 then (if x9 < (x7.length : Int) then (if (x0.length : Int) = 0 then (none) else (if 0 ≤ (Int.tmod (wrap64 (x9 + 1)) (x0.length : Int)) then (if (Int.tmod (wrap64 (x9 + 1)) (x0.length : Int)) < (x0.length : Int) then (impl_twiceSail.l0 k x0 (wrap64 (x3 + (wrap64 ((wrap64 (((rd_T77 x7 x9).f0) * ((rd_T77 x0 (Int.tmod (wrap64 (x9 + 1)) (x0.length : Int))).f1))) - (wrap64 (((rd_T77 x0 (Int.tmod (wrap64 (x9 + 1)) (x0.length : Int))).f0) * ((rd_T77 x7 x9).f1))))))) x7 x8 (wrap64 (x9 + 1))) else (none)) else (none))) else (none)) else (none)) else (some x3)) (fun k => (impl_twiceSail.mono_l k) x0 x3 x7 x8 x9) (fun k => by simp only [impl_twiceSail.l0]) ?_
  repeat' first
    | with_reducible exact Lim.const _
    | with_reducible exact impl_twiceSail.L0_lim _ _ _ _ _
    | with_reducible refine Lim.ite ?_ ?_
    | with_reducible refine Lim.bind ?_ (fun _ => ?_)
theorem impl_twiceSail.F_eq (l0 : List (S77)) : impl_twiceSail.F l0 = impl_twiceSail.L0 l0 0 l0 (l0.length : Int) 0 := by
  refine Lim.eq (g := fun k => impl_twiceSail.f k l0) ?_
  unfold impl_twiceSail.f
  repeat' first
    | with_reducible exact Lim.const _
    | with_reducible exact impl_twiceSail.L0_lim _ _ _ _ _
    | with_reducible refine Lim.ite ?_ ?_
    | with_reducible refine Lim.bind ?_ (fun _ => ?_)

noncomputable def impl_ValidSail.J0 (x0 : List (S77)) (x3 : Int) (x16 : Bool) : Option (Bool) := lim (fun k => impl_ValidSail.j0 k x0 x3 x16)
theorem impl_ValidSail.J0_lim (x0 : List (S77)) (x3 : Int) (x16 : Bool) : Lim (fun k => impl_ValidSail.j0 k x0 x3 x16) (impl_ValidSail.J0 x0 x3 x16) := Lim.of (fun k => (impl_ValidSail.mono_l k).1 x0 x3 x16)
noncomputable def impl_ValidSail.L0 (x0 : List (S77)) (x3 : Int) (x17 : List (S77)) (x18 : Int) (x19 : Int) : Option (Bool) := lim (fun k => impl_ValidSail.l0 k x0 x3 x17 x18 x19)
theorem impl_ValidSail.L0_lim (x0 : List (S77)) (x3 : Int) (x17 : List (S77)) (x18 : Int) (x19 : Int) : Lim (fun k => impl_ValidSail.l0 k x0 x3 x17 x18 x19) (impl_ValidSail.L0 x0 x3 x17 x18 x19) := Lim.of (fun k => (impl_ValidSail.mono_l k).2.1 x0 x3 x17 x18 x19)
noncomputable def impl_ValidSail.L1 (x0 : List (S77)) (x3 : Int) (x35 : Int) (x36 : Int) : Option (Bool) := lim (fun k => impl_ValidSail.l1 k x0 x3 x35 x36)
theorem impl_ValidSail.L1_lim (x0 : List (S77)) (x3 : Int) (x35 : Int) (x36 : Int) : Lim (fun k => impl_ValidSail.l1 k x0 x3 x35 x36) (impl_ValidSail.L1 x0 x3 x35 x36) := Lim.of (fun k => (impl_ValidSail.mono_l k).2.2.1 x0 x3 x35 x36)
noncomputable def impl_ValidSail.L2 (x0 : List (S77)) (x3 : Int) (x61 : Int) (x62 : Int) : Option (Bool) := lim (fun k => impl_ValidSail.l2 k x0 x3 x61 x62)
theorem impl_ValidSail.L2_lim (x0 : List (S77)) (x3 : Int) (x61 : Int) (x62 : Int) : Lim (fun k => impl_ValidSail.l2 k x0 x3 x61 x62) (impl_ValidSail.L2 x0 x3 x61 x62) := Lim.of (fun k => (impl_ValidSail.mono_l k).2.2.2.1 x0 x3 x61 x62)
noncomputable def impl_ValidSail.L3 (x0 : List (S77)) (x3 : Int) (x7 : Int) (x8 : Int) (x61 : Int) (x62 : Int) : Option (Bool) := lim (fun k => impl_ValidSail.l3 k x0 x3 x7 x8 x61 x62)
theorem impl_ValidSail.L3_lim (x0 : List (S77)) (x3 : Int) (x7 : Int) (x8 : Int) (x61 : Int) (x62 : Int) : Lim (fun k => impl_ValidSail.l3 k x0 x3 x7 x8 x61 x62) (impl_ValidSail.L3 x0 x3 x7 x8 x61 x62) := Lim.of (fun k => (impl_ValidSail.mono_l k).2.2.2.2 x0 x3 x7 x8 x61 x62)
noncomputable def impl_ValidSail.F (l0 : List (S77)) : Option (Bool) := lim (fun k => impl_ValidSail.f k l0)
theorem impl_ValidSail.F_lim (l0 : List (S77)) : Lim (fun k => impl_ValidSail.f k l0) (impl_ValidSail.F l0) := Lim.of (fun k => impl_ValidSail.mono l0 k)
theorem impl_ValidSail.J0_eq (x0 : List (S77)) (x3 : Int) (x16 : Bool) : impl_ValidSail.J0 x0 x3 x16 = if x16 = true then (some false) else (impl_ValidSail.L0 x0 x3 x0 (x0.length : Int) 0) := by
  refine Lim.step (f := fun k => if x16 = true then (some false) else (impl_ValidSail.l0 k x0 x3 x0 (x0.length : Int) 0)) (fun k => (impl_ValidSail.mono_l k).1 x0 x3 x16) (fun k => by simp only [impl_ValidSail.j0]) ?_
  repeat' first
    | with_reducible exact Lim.const _
    | with_reducible exact impl_ValidSail.L0_lim _ _ _ _ _
    | with_reducible refine Lim.ite ?_ ?_
    | with_reducible refine Lim.bind ?_ (fun _ => ?_)
theorem impl_ValidSail.L0_eq (x0 : List (S77)) (x3 : Int) (x17 : List (S77)) (x18 : Int) (x19 : Int) : impl_ValidSail.L0 x0 x3 x17 x18 x19 = if x19 < x18 then (if 0 ≤ x19 then (if x19 < (x17.length : Int) then ((impl_within.f ((rd_T77 x17 x19).f0) 0 2000).bind fun t307 => (if t307 = true then ((impl_within.f ((rd_T77 x17 x19).f1) 0 2000).bind fun t308 => (if t308 = true then (impl_ValidSail.L0 x0 x3 x17 x18 (wrap64 (x19 + 1))) else (some false))) else (some false))) else (none)) else (none)) else (impl_ValidSail.L1 x0 x3 (x0.length : Int) 0) := by
  refine Lim.step (f := fun k => if x19 < x18 then (if 0 ≤ x19 then (if x19 < (x17.length : Int) then ((impl_within.f ((rd_T77 x17 x19).f0) 0 2000).bind fun t307 => (if t307 = true then ((impl_within.f ((rd_T77 x17 x19).f1) 0 2000).bind fun t308 => (if t308 = true then (impl_ValidSail.l0 k x0 x3 x17 x18 (wrap64 (x19 + 1))) else (some false))) else (some false))) else (none)) else (none)) else (impl_ValidSail.l1 k x0 x3 (x0.length : Int) 0)) (fun k => (impl_ValidSail.mono_l k).2.1 x0 x3 x17 x18 x19) (fun k => by simp only [impl_ValidSail.l0]) ?_
  repeat' first
    | with_reducible exact Lim.const _
    | with_reducible exact impl_ValidSail.L0_lim _ _ _ _ _
    | with_reducible exact impl_ValidSail.L1_lim _ _ _ _
    | with_reducible refine Lim.ite ?_ ?_
    | with_reducible refine Lim.bind ?_ (fun _ => ?_)
theorem impl_ValidSail.L1_eq (x0 : List (S77)) (x3 : Int) (x35 : Int) (x36 : Int) : impl_ValidSail.L1 x0 x3 x35 x36 = if x36 < x35 then (if 0 ≤ x36 then (if x36 < (x0.length : Int) then (if x3 = 0 then (none) else (if 0 ≤ (Int.tmod (wrap64 (x36 + 1)) x3) then (if (Int.tmod (wrap64 (x36 + 1)) x3) < (x0.length : Int) then (if 0 ≤ (Int.tmod (wrap64 (x36 + 2)) x3) then (if (Int.tmod (wrap64 (x36 + 2)) x3) < (x0.length : Int) then ((impl_turnAt.f ((rd_T77 x0 x36).f0) ((rd_T77 x0 x36).f1) ((rd_T77 x0 (Int.tmod (wrap64 (x36 + 1)) x3)).f0) ((rd_T77 x0 (Int.tmod (wrap64 (x36 + 1)) x3)).f1) ((rd_T77 x0 (Int.tmod (wrap64 (x36 + 2)) x3)).f0) ((rd_T77 x0 (Int.tmod (wrap64 (x36 + 2)) x3)).f1)).bind fun t312 => (if t312 = 0 then (some false) else (impl_ValidSail.L1 x0 x3 x35 (wrap64 (x36 + 1))))) else (none)) else (none)) else (none)) else (none))) else (none)) else (none)) else (impl_ValidSail.L2 x0 x3 (x0.length : Int) 0) := by
  refine Lim.step (f := fun k => if x36 < x35 then (if 0 ≤ x36 then (if x36 < (x0.length : Int) then (if x3 = 0 then (none) else (if 0 ≤ (Int.tmod (wrap64 (x36 + 1)) x3) then (if (Int.tmod (wrap64 (x36 + 1)) x3) < (x0.length : Int) then (if 0 ≤ (Int.tmod (wrap64 (x36 + 2)) x3) then (if (Int.tmod (wrap64 (x36 + 2)) x3) < (x0.length : Int) then ((impl_turnAt.f ((rd_T77 x0 x36).f0) ((rd_T77 x0 x36).f1) ((rd_T77 x0 (Int.tmod (wrap64 (x36 + 1)) x3)).f0) ((rd_T77 x0 (Int.tmod (wrap64 (x36 + 1)) x3)).f1) ((rd_T77 x0 (Int.tmod (wrap64 (x36 + 2)) x3)).f0) ((rd_T77 x0 (Int.tmod (wrap64 (x36 + 2)) x3)).f1)).bind fun t312 => (if t312 = 0 then (some false) else (impl_ValidSail.l1 k x0 x3 x35 (wrap64 (x36 + 1))))) else (none)) else (none)) else (none)) else (none))) else (none)) else (none)) else (impl_ValidSail.l2 k x0 x3 (x0.length : Int) 0)) (fun k => (impl_ValidSail.mono_l k).2.2.1 x0 x3 x35 x36) (fun k => by simp only [impl_ValidSail.l1]) ?_
  repeat' first
    | with_reducible exact Lim.const _
    | with_reducible exact impl_ValidSail.L1_lim _ _ _ _
    | with_reducible exact impl_ValidSail.L2_lim _ _ _ _
    | with_reducible refine Lim.ite ?_ ?_
    | with_reducible refine Lim.bind ?_ (fun _ => ?_)
theorem impl_ValidSail.L2_eq (x0 : List (S77)) (x3 : Int) (x61 : Int) (x62 : Int) : impl_ValidSail.L2 x0 x3 x61 x62 = if x62 < x61 then (impl_ValidSail.L3 x0 x3 x62 (wrap64 (x62 + 2)) x61 x62) else ((impl_twiceSail.F x0).bind fun t313 => (some (decide (t313 > 0)))) := by
  refine Lim.step (f := fun k => if x62 < x61 then (impl_ValidSail.l3 k x0 x3 x62 (wrap64 (x62 + 2)) x61 x62) else ((impl_twiceSail.f k x0).bind fun t313 => (some (decide (t313 > 0))))) (fun k => (impl_ValidSail.mono_l k).2.2.2.1 x0 x3 x61 x62) (fun k => by simp only [impl_ValidSail.l2]) ?_
  repeat' first
    | with_reducible exact Lim.const _
    | with_reducible exact impl_ValidSail.L3_lim _ _ _ _ _ _
    | with_reducible exact impl_twiceSail.F_lim _
    | with_reducible refine Lim.ite ?_ ?_
    | with_reducible refine Lim.bind ?_ (fun _ => ?_)
theorem impl_ValidSail.L3_eq (x0 : List (S77)) (x3 : Int) (x7 : Int) (x8 : Int) (x61 : Int) (x62 : Int) : impl_ValidSail.L3 x0 x3 x7 x8 x61 x62 = if x8 < x3 then (if x3 = 0 then (none) else (if (Int.tmod (wrap64 (x8 + 1)) x3) = x7 then (impl_ValidSail.L3 x0 x3 x7 (wrap64 (x8 + 1)) x61 x62) else (if 0 ≤ x7 then (if x7 < (x0.length : Int) then (if 0 ≤ (wrap64 (x7 + 1)) then (if (wrap64 (x7 + 1)) < (x0.length : Int) then (if 0 ≤ x8 then (if x8 < (x0.length : Int) then (if 0 ≤ (Int.tmod (wrap64 (x8 + 1)) x3) then (if (Int.tmod (wrap64 (x8 + 1)) x3) < (x0.length : Int) then ((impl_edgesMeet.F ((rd_T77 x0 x7).f0) ((rd_T77 x0 x7).f1) ((rd_T77 x0 (wrap64 (x7 + 1))).f0) ((rd_T77 x0 (wrap64 (x7 + 1))).f1) ((rd_T77 x0 x8).f0) ((rd_T77 x0 x8).f1) ((rd_T77 x0 (Int.tmod (wrap64 (x8 + 1)) x3)).f0) ((rd_T77 x0 (Int.tmod (wrap64 (x8 + 1)) x3)).f1)).bind fun t318 => (if t318 = true then (some false) else (impl_ValidSail.L3 x0 x3 x7 (wrap64 (x8 + 1)) x61 x62))) else (none)) else (none)) else (none)) else (none)) else (none)) else (none)) else (none)) else (none)))) else (impl_ValidSail.L2 x0 x3 x61 (wrap64 (x62 + 1))) := by
  refine Lim.step (f := fun k => if x8 < x3 then (if x3 = 0 then (none) else (if (Int.tmod (wrap64 (x8 + 1)) x3) = x7 then (impl_ValidSail.l3 k x0 x3 x7 (wrap64 (x8 + 1)) x61 x62) else (if 0 ≤ x7 then (if x7 < (x0.length : Int) then (if 0 ≤ (wrap64 (x7 + 1)) then (if (wrap64 (x7 + 1)) < (x0.length : Int) then (if 0 ≤ x8 then (if x8 < (x0.length : Int) then (if 0 ≤ (Int.tmod (wrap64 (x8 + 1)) x3) then (if (Int.tmod (wrap64 (x8 + 1)) x3) < (x0.length : Int) then ((impl_edgesMeet.f k ((rd_T77 x0 x7).f0) ((rd_T77 x0 x7).f1) ((rd_T77 x0 (wrap64 (x7 + 1))).f0) ((rd_T77 x0 (wrap64 (x7 + 1))).f1) ((rd_T77 x0 x8).f0) ((rd_T77 x0 x8).f1) ((rd_T77 x0 (Int.tmod (wrap64 (x8 + 1)) x3)).f0) ((rd_T77 x0 (Int.tmod (wrap64 (x8 + 1)) x3)).f1)).bind fun t318 => (if t318 = true then (some false) else (impl_ValidSail.l3 k x0 x3 x7 (wrap64 (x8 + 1)) x61 x62))) else (none)) else (none)) else (none)) else (none)) else (none)) else (none)) else (none)) else (none)))) else (impl_ValidSail.l2 k x0 x3 x61 (wrap64 (x62 + 1)))) (fun k => (impl_ValidSail.mono_l k).2.2.2.2 x0 x3 x7 x8 x61 x62) (fun k => by simp only [impl_ValidSail.l3]) ?_
  repeat' first
    | with_reducible exact Lim.const _
    | with_reducible exact impl_ValidSail.L2_lim _ _ _ _
    | with_reducible exact impl_ValidSail.L3_lim _ _ _ _ _ _
    | with_reducible exact impl_edgesMeet.F_lim _ _ _ _ _ _ _ _
    | with_reducible refine Lim.ite ?_ ?_
    | with_reducible refine Lim.bind ?_ (fun _ => ?_)
theorem impl_ValidSail.F_eq (l0 : List (S77)) : impl_ValidSail.F l0 = if (l0.length : Int) < 3 then (impl_ValidSail.J0 l0 (l0.length : Int) true) else (impl_ValidSail.J0 l0 (l0.length : Int) (decide ((l0.length : Int) > 8))) := by
  refine Lim.eq (g := fun k => impl_ValidSail.f k l0) ?_
  unfold impl_ValidSail.f
  repeat' first
    | with_reducible exact Lim.const _
    | with_reducible exact impl_ValidSail.J0_lim _ _ _
    | with_reducible refine Lim.ite ?_ ?_
    | with_reducible refine Lim.bind ?_ (fun _ => ?_)

noncomputable def impl_ValidPlan.J0 (x22 : Bool) (x320000 : List (S54)) (x320001 : Int) (x320002 : Int) : Option (Bool) := lim (fun k => impl_ValidPlan.j0 k x22 x320000 x320001 x320002)
theorem impl_ValidPlan.J0_lim (x22 : Bool) (x320000 : List (S54)) (x320001 : Int) (x320002 : Int) : Lim (fun k => impl_ValidPlan.j0 k x22 x320000 x320001 x320002) (impl_ValidPlan.J0 x22 x320000 x320001 x320002) := Lim.of (fun k => (impl_ValidPlan.mono_l k).1 x22 x320000 x320001 x320002)
noncomputable def impl_ValidPlan.L0 (x24 : List (S54)) (x25 : Int) (x26 : Int) (x320000 : List (S54)) (x320001 : Int) (x320002 : Int) : Option (Bool) := lim (fun k => impl_ValidPlan.l0 k x24 x25 x26 x320000 x320001 x320002)
theorem impl_ValidPlan.L0_lim (x24 : List (S54)) (x25 : Int) (x26 : Int) (x320000 : List (S54)) (x320001 : Int) (x320002 : Int) : Lim (fun k => impl_ValidPlan.l0 k x24 x25 x26 x320000 x320001 x320002) (impl_ValidPlan.L0 x24 x25 x26 x320000 x320001 x320002) := Lim.of (fun k => (impl_ValidPlan.mono_l k).2 x24 x25 x26 x320000 x320001 x320002)
noncomputable def impl_ValidPlan.F (l0_0 : List (S54)) (a0_1 : Int) (a0_2 : Int) : Option (Bool) := lim (fun k => impl_ValidPlan.f k l0_0 a0_1 a0_2)
theorem impl_ValidPlan.F_lim (l0_0 : List (S54)) (a0_1 : Int) (a0_2 : Int) : Lim (fun k => impl_ValidPlan.f k l0_0 a0_1 a0_2) (impl_ValidPlan.F l0_0 a0_1 a0_2) := Lim.of (fun k => impl_ValidPlan.mono l0_0 a0_1 a0_2 k)
theorem impl_ValidPlan.J0_eq (x22 : Bool) (x320000 : List (S54)) (x320001 : Int) (x320002 : Int) : impl_ValidPlan.J0 x22 x320000 x320001 x320002 = if x22 = true then (some false) else (impl_ValidPlan.L0 x320000 (x320000.length : Int) 0 x320000 x320001 x320002) := by
  refine Lim.step (f := fun k => if x22 = true then (some false) else (impl_ValidPlan.l0 k x320000 (x320000.length : Int) 0 x320000 x320001 x320002)) (fun k => (impl_ValidPlan.mono_l k).1 x22 x320000 x320001 x320002) (fun k => by simp only [impl_ValidPlan.j0]) ?_
  repeat' first
    | with_reducible exact Lim.const _
    | with_reducible exact impl_ValidPlan.L0_lim _ _ _ _ _ _
    | with_reducible refine Lim.ite ?_ ?_
    | with_reducible refine Lim.bind ?_ (fun _ => ?_)
theorem impl_ValidPlan.L0_eq (x24 : List (S54)) (x25 : Int) (x26 : Int) (x320000 : List (S54)) (x320001 : Int) (x320002 : Int) : impl_ValidPlan.L0 x24 x25 x26 x320000 x320001 x320002 = if x26 < x25 then (if 0 ≤ x26 then (if x26 < (x24.length : Int) then ((impl_IsName.F ((rd_T54 x24 x26).f0)).bind fun t324 => (if t324 = true then ((impl_ValidSail.F ((rd_T54 x24 x26).f1)).bind fun t325 => (if t325 = true then (if x26 ≤ (x320000.length : Int) then ((impl_sailNamed.f (x320000.take (x26 : Int).toNat) ((rd_T54 x24 x26).f0)).bind fun t330 => (if t330 ≥ 0 then (some false) else (impl_ValidPlan.L0 x24 x25 (wrap64 (x26 + 1)) x320000 x320001 x320002))) else (none)) else (some false))) else (some false))) else (none)) else (none)) else (some true) := by
  refine Lim.step (f := fun k => if x26 < x25 then (if 0 ≤ x26 then (if x26 < (x24.length : Int) then ((impl_IsName.f k ((rd_T54 x24 x26).f0)).bind fun t324 => (if t324 = true then ((impl_ValidSail.f k ((rd_T54 x24 x26).f1)).bind fun t325 => (if t325 = true then (if x26 ≤ (x320000.length : Int) then ((impl_sailNamed.f (x320000.take (x26 : Int).toNat) ((rd_T54 x24 x26).f0)).bind fun t330 => (if t330 ≥ 0 then (some false) else (impl_ValidPlan.l0 k x24 x25 (wrap64 (x26 + 1)) x320000 x320001 x320002))) else (none)) else (some false))) else (some false))) else (none)) else (none)) else (some true)) (fun k => (impl_ValidPlan.mono_l k).2 x24 x25 x26 x320000 x320001 x320002) (fun k => by simp only [impl_ValidPlan.l0]) ?_
  repeat' first
    | with_reducible exact Lim.const _
    | with_reducible exact impl_IsName.F_lim _
    | with_reducible exact impl_ValidPlan.L0_lim _ _ _ _ _ _
    | with_reducible exact impl_ValidSail.F_lim _
    | with_reducible refine Lim.ite ?_ ?_
    | with_reducible refine Lim.bind ?_ (fun _ => ?_)
theorem impl_ValidPlan.F_eq (l0_0 : List (S54)) (a0_1 : Int) (a0_2 : Int) : impl_ValidPlan.F l0_0 a0_1 a0_2 = if (l0_0.length : Int) > 8 then (impl_ValidPlan.J0 true l0_0 a0_1 a0_2) else ((impl_within.f a0_2 1 5000).bind fun t320 => (if t320 = true then ((impl_within.f a0_1 0 a0_2).bind fun t321 => (impl_ValidPlan.J0 (!t321) l0_0 a0_1 a0_2)) else (impl_ValidPlan.J0 true l0_0 a0_1 a0_2))) := by
  refine Lim.eq (g := fun k => impl_ValidPlan.f k l0_0 a0_1 a0_2) ?_
  unfold impl_ValidPlan.f
  repeat' first
    | with_reducible exact Lim.const _
    | with_reducible exact impl_ValidPlan.J0_lim _ _ _ _
    | with_reducible refine Lim.ite ?_ ?_
    | with_reducible refine Lim.bind ?_ (fun _ => ?_)

noncomputable def impl_planSums.L0 (x5 : Int) (x6 : Int) (x7 : Int) (x15 : List (S54)) (x16 : Int) (x17 : Int) : Option (Int × Int × Int) := lim (fun k => impl_planSums.l0 k x5 x6 x7 x15 x16 x17)
theorem impl_planSums.L0_lim (x5 : Int) (x6 : Int) (x7 : Int) (x15 : List (S54)) (x16 : Int) (x17 : Int) : Lim (fun k => impl_planSums.l0 k x5 x6 x7 x15 x16 x17) (impl_planSums.L0 x5 x6 x7 x15 x16 x17) := Lim.of (fun k => (impl_planSums.mono_l k).1 x5 x6 x7 x15 x16 x17)
noncomputable def impl_planSums.L1 (x5 : Int) (x6 : Int) (x7 : Int) (x15 : List (S54)) (x16 : Int) (x17 : Int) (x30 : List (S77)) (x31 : Int) (x32 : Int) (x334000 : ByteArray) (x334001 : List (S77)) (x334002 : Bool) : Option (Int × Int × Int) := lim (fun k => impl_planSums.l1 k x5 x6 x7 x15 x16 x17 x30 x31 x32 x334000 x334001 x334002)
theorem impl_planSums.L1_lim (x5 : Int) (x6 : Int) (x7 : Int) (x15 : List (S54)) (x16 : Int) (x17 : Int) (x30 : List (S77)) (x31 : Int) (x32 : Int) (x334000 : ByteArray) (x334001 : List (S77)) (x334002 : Bool) : Lim (fun k => impl_planSums.l1 k x5 x6 x7 x15 x16 x17 x30 x31 x32 x334000 x334001 x334002) (impl_planSums.L1 x5 x6 x7 x15 x16 x17 x30 x31 x32 x334000 x334001 x334002) := Lim.of (fun k => (impl_planSums.mono_l k).2 x5 x6 x7 x15 x16 x17 x30 x31 x32 x334000 x334001 x334002)
noncomputable def impl_planSums.F (l0_0 : List (S54)) (a0_1 : Int) (a0_2 : Int) : Option (Int × Int × Int) := lim (fun k => impl_planSums.f k l0_0 a0_1 a0_2)
theorem impl_planSums.F_lim (l0_0 : List (S54)) (a0_1 : Int) (a0_2 : Int) : Lim (fun k => impl_planSums.f k l0_0 a0_1 a0_2) (impl_planSums.F l0_0 a0_1 a0_2) := Lim.of (fun k => impl_planSums.mono l0_0 a0_1 a0_2 k)
theorem impl_planSums.L0_eq (x5 : Int) (x6 : Int) (x7 : Int) (x15 : List (S54)) (x16 : Int) (x17 : Int) : impl_planSums.L0 x5 x6 x7 x15 x16 x17 = if x17 < x16 then (if 0 ≤ x17 then (if x17 < (x15.length : Int) then (if ((rd_T54 x15 x17).f2 = true) then ((impl_twiceSail.F ((rd_T54 x15 x17).f1)).bind fun t334 => (impl_planSums.L1 (wrap64 (x5 + t334)) x6 x7 x15 x16 x17 ((rd_T54 x15 x17).f1) (((rd_T54 x15 x17).f1).length : Int) 0 ((rd_T54 x15 x17).f0) ((rd_T54 x15 x17).f1) ((rd_T54 x15 x17).f2))) else (impl_planSums.L0 x5 x6 x7 x15 x16 (wrap64 (x17 + 1)))) else (none)) else (none)) else (some (x5, x6, x7)) := by
  refine Lim.step (f := fun k => if x17 < x16 then (if 0 ≤ x17 then (if x17 < (x15.length : Int) then (if ((rd_T54 x15 x17).f2 = true) then ((impl_twiceSail.f k ((rd_T54 x15 x17).f1)).bind fun t334 => (impl_planSums.l1 k (wrap64 (x5 + t334)) x6 x7 x15 x16 x17 ((rd_T54 x15 x17).f1) (((rd_T54 x15 x17).f1).length : Int) 0 ((rd_T54 x15 x17).f0) ((rd_T54 x15 x17).f1) ((rd_T54 x15 x17).f2))) else (impl_planSums.l0 k x5 x6 x7 x15 x16 (wrap64 (x17 + 1)))) else (none)) else (none)) else (some (x5, x6, x7))) (fun k => (impl_planSums.mono_l k).1 x5 x6 x7 x15 x16 x17) (fun k => by simp only [impl_planSums.l0]) ?_
  repeat' first
    | with_reducible exact Lim.const _
    | with_reducible exact impl_planSums.L0_lim _ _ _ _ _ _
    | with_reducible exact impl_planSums.L1_lim _ _ _ _ _ _ _ _ _ _ _ _
    | with_reducible exact impl_twiceSail.F_lim _
    | with_reducible refine Lim.ite ?_ ?_
    | with_reducible refine Lim.bind ?_ (fun _ => ?_)
theorem impl_planSums.L1_eq (x5 : Int) (x6 : Int) (x7 : Int) (x15 : List (S54)) (x16 : Int) (x17 : Int) (x30 : List (S77)) (x31 : Int) (x32 : Int) (x334000 : ByteArray) (x334001 : List (S77)) (x334002 : Bool) : impl_planSums.L1 x5 x6 x7 x15 x16 x17 x30 x31 x32 x334000 x334001 x334002 = if x32 < x31 then (if 0 ≤ x32 then (if x32 < (x30.length : Int) then (if (x334001.length : Int) = 0 then (none) else (if 0 ≤ (Int.tmod (wrap64 (x32 + 1)) (x334001.length : Int)) then (if (Int.tmod (wrap64 (x32 + 1)) (x334001.length : Int)) < (x334001.length : Int) then (impl_planSums.L1 x5 (wrap64 (x6 + (wrap64 ((wrap64 (((rd_T77 x30 x32).f0) + ((rd_T77 x334001 (Int.tmod (wrap64 (x32 + 1)) (x334001.length : Int))).f0))) * (wrap64 ((wrap64 (((rd_T77 x30 x32).f0) * ((rd_T77 x334001 (Int.tmod (wrap64 (x32 + 1)) (x334001.length : Int))).f1))) - (wrap64 (((rd_T77 x334001 (Int.tmod (wrap64 (x32 + 1)) (x334001.length : Int))).f0) * ((rd_T77 x30 x32).f1))))))))) (wrap64 (x7 + (wrap64 ((wrap64 (((rd_T77 x30 x32).f1) + ((rd_T77 x334001 (Int.tmod (wrap64 (x32 + 1)) (x334001.length : Int))).f1))) * (wrap64 ((wrap64 (((rd_T77 x30 x32).f0) * ((rd_T77 x334001 (Int.tmod (wrap64 (x32 + 1)) (x334001.length : Int))).f1))) - (wrap64 (((rd_T77 x334001 (Int.tmod (wrap64 (x32 + 1)) (x334001.length : Int))).f0) * ((rd_T77 x30 x32).f1))))))))) x15 x16 x17 x30 x31 (wrap64 (x32 + 1)) x334000 x334001 x334002) else (none)) else (none))) else (none)) else (none)) else (impl_planSums.L0 x5 x6 x7 x15 x16 (wrap64 (x17 + 1))) := by
  refine Lim.step (f := fun k => if x32 < x31 then (if 0 ≤ x32 then (if x32 < (x30.length : Int) then (if (x334001.length : Int) = 0 then (none) else (if 0 ≤ (Int.tmod (wrap64 (x32 + 1)) (x334001.length : Int)) then (if (Int.tmod (wrap64 (x32 + 1)) (x334001.length : Int)) < (x334001.length : Int) then (impl_planSums.l1 k x5 (wrap64 (x6 + (wrap64 ((wrap64 (((rd_T77 x30 x32).f0) + ((rd_T77 x334001 (Int.tmod (wrap64 (x32 + 1)) (x334001.length : Int))).f0))) * (wrap64 ((wrap64 (((rd_T77 x30 x32).f0) * ((rd_T77 x334001 (Int.tmod (wrap64 (x32 + 1)) (x334001.length : Int))).f1))) - (wrap64 (((rd_T77 x334001 (Int.tmod (wrap64 (x32 + 1)) (x334001.length : Int))).f0) * ((rd_T77 x30 x32).f1))))))))) (wrap64 (x7 + (wrap64 ((wrap64 (((rd_T77 x30 x32).f1) + ((rd_T77 x334001 (Int.tmod (wrap64 (x32 + 1)) (x334001.length : Int))).f1))) * (wrap64 ((wrap64 (((rd_T77 x30 x32).f0) * ((rd_T77 x334001 (Int.tmod (wrap64 (x32 + 1)) (x334001.length : Int))).f1))) - (wrap64 (((rd_T77 x334001 (Int.tmod (wrap64 (x32 + 1)) (x334001.length : Int))).f0) * ((rd_T77 x30 x32).f1))))))))) x15 x16 x17 x30 x31 (wrap64 (x32 + 1)) x334000 x334001 x334002) else (none)) else (none))) else (none)) else (none)) else (impl_planSums.l0 k x5 x6 x7 x15 x16 (wrap64 (x17 + 1)))) (fun k => (impl_planSums.mono_l k).2 x5 x6 x7 x15 x16 x17 x30 x31 x32 x334000 x334001 x334002) (fun k => by simp only [impl_planSums.l1]) ?_
  repeat' first
    | with_reducible exact Lim.const _
    | with_reducible exact impl_planSums.L0_lim _ _ _ _ _ _
    | with_reducible exact impl_planSums.L1_lim _ _ _ _ _ _ _ _ _ _ _ _
    | with_reducible refine Lim.ite ?_ ?_
    | with_reducible refine Lim.bind ?_ (fun _ => ?_)
theorem impl_planSums.F_eq (l0_0 : List (S54)) (a0_1 : Int) (a0_2 : Int) : impl_planSums.F l0_0 a0_1 a0_2 = impl_planSums.L0 0 0 0 l0_0 (l0_0.length : Int) 0 := by
  refine Lim.eq (g := fun k => impl_planSums.f k l0_0 a0_1 a0_2) ?_
  unfold impl_planSums.f
  repeat' first
    | with_reducible exact Lim.const _
    | with_reducible exact impl_planSums.L0_lim _ _ _ _ _ _
    | with_reducible refine Lim.ite ?_ ?_
    | with_reducible refine Lim.bind ?_ (fun _ => ?_)

noncomputable def impl_gcd.J0 (x0 : Int) (x1 : Int) : Option (Int) := lim (fun k => impl_gcd.j0 k x0 x1)
theorem impl_gcd.J0_lim (x0 : Int) (x1 : Int) : Lim (fun k => impl_gcd.j0 k x0 x1) (impl_gcd.J0 x0 x1) := Lim.of (fun k => (impl_gcd.mono_l k).1 x0 x1)
noncomputable def impl_gcd.L0 (x0 : Int) (x1 : Int) : Option (Int) := lim (fun k => impl_gcd.l0 k x0 x1)
theorem impl_gcd.L0_lim (x0 : Int) (x1 : Int) : Lim (fun k => impl_gcd.l0 k x0 x1) (impl_gcd.L0 x0 x1) := Lim.of (fun k => (impl_gcd.mono_l k).2 x0 x1)
noncomputable def impl_gcd.F (a0 : Int) (a1 : Int) : Option (Int) := lim (fun k => impl_gcd.f k a0 a1)
theorem impl_gcd.F_lim (a0 : Int) (a1 : Int) : Lim (fun k => impl_gcd.f k a0 a1) (impl_gcd.F a0 a1) := Lim.of (fun k => impl_gcd.mono a0 a1 k)
theorem impl_gcd.J0_eq (x0 : Int) (x1 : Int) : impl_gcd.J0 x0 x1 = impl_gcd.L0 x0 x1 := by
  refine Lim.step (f := fun k => impl_gcd.l0 k x0 x1) (fun k => (impl_gcd.mono_l k).1 x0 x1) (fun k => by simp only [impl_gcd.j0]) ?_
  repeat' first
    | with_reducible exact Lim.const _
    | with_reducible exact impl_gcd.L0_lim _ _
    | with_reducible refine Lim.ite ?_ ?_
    | with_reducible refine Lim.bind ?_ (fun _ => ?_)
theorem impl_gcd.L0_eq (x0 : Int) (x1 : Int) : impl_gcd.L0 x0 x1 = if x1 = 0 then (some x0) else (impl_gcd.L0 x1 (Int.tmod x0 x1)) := by
  refine Lim.step (f := fun k => if x1 = 0 then (some x0) else (impl_gcd.l0 k x1 (Int.tmod x0 x1))) (fun k => (impl_gcd.mono_l k).2 x0 x1) (fun k => by simp only [impl_gcd.l0]) ?_
  repeat' first
    | with_reducible exact Lim.const _
    | with_reducible exact impl_gcd.L0_lim _ _
    | with_reducible refine Lim.ite ?_ ?_
    | with_reducible refine Lim.bind ?_ (fun _ => ?_)
theorem impl_gcd.F_eq (a0 : Int) (a1 : Int) : impl_gcd.F a0 a1 = if a0 < 0 then (impl_gcd.J0 (wrap64 (-a0)) a1) else (impl_gcd.J0 a0 a1) := by
  refine Lim.eq (g := fun k => impl_gcd.f k a0 a1) ?_
  unfold impl_gcd.f
  repeat' first
    | with_reducible exact Lim.const _
    | with_reducible exact impl_gcd.J0_lim _ _
    | with_reducible refine Lim.ite ?_ ?_
    | with_reducible refine Lim.bind ?_ (fun _ => ?_)

noncomputable def impl_fraction.F (a0 : Int) (a1 : Int) : Option (Int × Int) := lim (fun k => impl_fraction.f k a0 a1)
theorem impl_fraction.F_lim (a0 : Int) (a1 : Int) : Lim (fun k => impl_fraction.f k a0 a1) (impl_fraction.F a0 a1) := Lim.of (fun k => impl_fraction.mono a0 a1 k)
theorem impl_fraction.F_eq (a0 : Int) (a1 : Int) : impl_fraction.F a0 a1 = if a1 < 0 then ((impl_gcd.F (wrap64 (-a0)) (wrap64 (-a1))).bind fun t340 => (if t340 = 0 then (none) else (some (wrap64 (Int.tdiv (wrap64 (-a0)) t340), wrap64 (Int.tdiv (wrap64 (-a1)) t340))))) else ((impl_gcd.F a0 a1).bind fun t341 => (if t341 = 0 then (none) else (some (wrap64 (Int.tdiv a0 t341), wrap64 (Int.tdiv a1 t341))))) := by
  refine Lim.eq (g := fun k => impl_fraction.f k a0 a1) ?_
  unfold impl_fraction.f
  repeat' first
    | with_reducible exact Lim.const _
    | with_reducible exact impl_gcd.F_lim _ _
    | with_reducible refine Lim.ite ?_ ?_
    | with_reducible refine Lim.bind ?_ (fun _ => ?_)

noncomputable def impl_leadOf.F (l0_0 : List (S54)) (a0_1 : Int) (a0_2 : Int) : Option (Int × Int × Bool) := lim (fun k => impl_leadOf.f k l0_0 a0_1 a0_2)
theorem impl_leadOf.F_lim (l0_0 : List (S54)) (a0_1 : Int) (a0_2 : Int) : Lim (fun k => impl_leadOf.f k l0_0 a0_1 a0_2) (impl_leadOf.F l0_0 a0_1 a0_2) := Lim.of (fun k => impl_leadOf.mono l0_0 a0_1 a0_2 k)
theorem impl_leadOf.F_eq (l0_0 : List (S54)) (a0_1 : Int) (a0_2 : Int) : impl_leadOf.F l0_0 a0_1 a0_2 = (impl_planSums.F l0_0 a0_1 a0_2).bind fun bt344 => (if bt344.1 = 0 then (some (0, 0, false)) else ((impl_fraction.F (wrap64 (bt344.2.1 - (wrap64 ((wrap64 (3 * bt344.1)) * a0_1)))) (wrap64 (3 * bt344.1))).bind fun bt347 => (some (bt347.1, bt347.2, true)))) := by
  refine Lim.eq (g := fun k => impl_leadOf.f k l0_0 a0_1 a0_2) ?_
  unfold impl_leadOf.f
  repeat' first
    | with_reducible exact Lim.const _
    | with_reducible exact impl_fraction.F_lim _ _
    | with_reducible exact impl_planSums.F_lim _ _ _
    | with_reducible refine Lim.ite ?_ ?_
    | with_reducible refine Lim.bind ?_ (fun _ => ?_)

noncomputable def impl_helmOf.F (l0_0 : List (S54)) (a0_1 : Int) (a0_2 : Int) (a1 : Int) (a2 : Int) : Option (ByteArray) := lim (fun k => impl_helmOf.f k l0_0 a0_1 a0_2 a1 a2)
theorem impl_helmOf.F_lim (l0_0 : List (S54)) (a0_1 : Int) (a0_2 : Int) (a1 : Int) (a2 : Int) : Lim (fun k => impl_helmOf.f k l0_0 a0_1 a0_2 a1 a2) (impl_helmOf.F l0_0 a0_1 a0_2 a1 a2) := Lim.of (fun k => impl_helmOf.mono l0_0 a0_1 a0_2 a1 a2 k)
theorem impl_helmOf.F_eq (l0_0 : List (S54)) (a0_1 : Int) (a0_2 : Int) (a1 : Int) (a2 : Int) : impl_helmOf.F l0_0 a0_1 a0_2 a1 a2 = (impl_leadOf.F l0_0 a0_1 a0_2).bind fun bt350 => (if bt350.2.2 = true then (if (wrap64 (1000 * bt350.1)) < (wrap64 ((wrap64 (a1 * a0_2)) * bt350.2.1)) then (some (⟨#[119, 101, 97, 116, 104, 101, 114]⟩ : ByteArray)) else (if (wrap64 (1000 * bt350.1)) > (wrap64 ((wrap64 (a2 * a0_2)) * bt350.2.1)) then (some (⟨#[108, 101, 101]⟩ : ByteArray)) else (some (⟨#[98, 97, 108, 97, 110, 99, 101, 100]⟩ : ByteArray)))) else (some (⟨#[]⟩ : ByteArray))) := by
  refine Lim.eq (g := fun k => impl_helmOf.f k l0_0 a0_1 a0_2 a1 a2) ?_
  unfold impl_helmOf.f
  repeat' first
    | with_reducible exact Lim.const _
    | with_reducible exact impl_leadOf.F_lim _ _ _
    | with_reducible refine Lim.ite ?_ ?_
    | with_reducible refine Lim.bind ?_ (fun _ => ?_)

noncomputable def impl_HelmOf.J0 (x1 : Int) (x2 : Int) (x22 : Bool) (x355000 : List (S54)) (x355001 : Int) (x355002 : Int) : Option (ByteArray × Int) := lim (fun k => impl_HelmOf.j0 k x1 x2 x22 x355000 x355001 x355002)
theorem impl_HelmOf.J0_lim (x1 : Int) (x2 : Int) (x22 : Bool) (x355000 : List (S54)) (x355001 : Int) (x355002 : Int) : Lim (fun k => impl_HelmOf.j0 k x1 x2 x22 x355000 x355001 x355002) (impl_HelmOf.J0 x1 x2 x22 x355000 x355001 x355002) := Lim.of (fun k => (impl_HelmOf.mono_l k) x1 x2 x22 x355000 x355001 x355002)
noncomputable def impl_HelmOf.F (l0_0 : List (S54)) (a0_1 : Int) (a0_2 : Int) (a1 : Int) (a2 : Int) : Option (ByteArray × Int) := lim (fun k => impl_HelmOf.f k l0_0 a0_1 a0_2 a1 a2)
theorem impl_HelmOf.F_lim (l0_0 : List (S54)) (a0_1 : Int) (a0_2 : Int) (a1 : Int) (a2 : Int) : Lim (fun k => impl_HelmOf.f k l0_0 a0_1 a0_2 a1 a2) (impl_HelmOf.F l0_0 a0_1 a0_2 a1 a2) := Lim.of (fun k => impl_HelmOf.mono l0_0 a0_1 a0_2 a1 a2 k)
theorem impl_HelmOf.J0_eq (x1 : Int) (x2 : Int) (x22 : Bool) (x355000 : List (S54)) (x355001 : Int) (x355002 : Int) : impl_HelmOf.J0 x1 x2 x22 x355000 x355001 x355002 = if x22 = true then (some ((⟨#[]⟩ : ByteArray), 2)) else ((impl_helmOf.F x355000 x355001 x355002 x1 x2).bind fun t356 => (if t356.toList = ([] : List UInt8) then (some ((⟨#[]⟩ : ByteArray), 3)) else (some (t356, 0)))) := by
  refine Lim.step (f := fun k => if x22 = true then (some ((⟨#[]⟩ : ByteArray), 2)) else ((impl_helmOf.f k x355000 x355001 x355002 x1 x2).bind fun t356 => (if t356.toList = ([] : List UInt8) then (some ((⟨#[]⟩ : ByteArray), 3)) else (some (t356, 0))))) (fun k => (impl_HelmOf.mono_l k) x1 x2 x22 x355000 x355001 x355002) (fun k => by simp only [impl_HelmOf.j0]) ?_
  repeat' first
    | with_reducible exact Lim.const _
    | with_reducible exact impl_helmOf.F_lim _ _ _ _ _
    | with_reducible refine Lim.ite ?_ ?_
    | with_reducible refine Lim.bind ?_ (fun _ => ?_)
theorem impl_HelmOf.F_eq (l0_0 : List (S54)) (a0_1 : Int) (a0_2 : Int) (a1 : Int) (a2 : Int) : impl_HelmOf.F l0_0 a0_1 a0_2 a1 a2 = (impl_ValidPlan.F l0_0 a0_1 a0_2).bind fun t355 => (if t355 = true then (if a1 < (-1000) then (impl_HelmOf.J0 a1 a2 true l0_0 a0_1 a0_2) else (if a1 > a2 then (impl_HelmOf.J0 a1 a2 true l0_0 a0_1 a0_2) else (impl_HelmOf.J0 a1 a2 (decide (a2 > 1000)) l0_0 a0_1 a0_2))) else (some ((⟨#[]⟩ : ByteArray), 1))) := by
  refine Lim.eq (g := fun k => impl_HelmOf.f k l0_0 a0_1 a0_2 a1 a2) ?_
  unfold impl_HelmOf.f
  repeat' first
    | with_reducible exact Lim.const _
    | with_reducible exact impl_HelmOf.J0_lim _ _ _ _ _ _
    | with_reducible exact impl_ValidPlan.F_lim _ _ _
    | with_reducible refine Lim.ite ?_ ?_
    | with_reducible refine Lim.bind ?_ (fun _ => ?_)

noncomputable def laws_FnExactHelmOf.J0 (x42 : Bool) (x358000 : List (S72)) (x358001 : Int) (x358002 : Int) (x372000 : List (S54)) (x372001 : Int) (x372002 : Int) : Option (Bool) := lim (fun k => laws_FnExactHelmOf.j0 k x42 x358000 x358001 x358002 x372000 x372001 x372002)
theorem laws_FnExactHelmOf.J0_lim (x42 : Bool) (x358000 : List (S72)) (x358001 : Int) (x358002 : Int) (x372000 : List (S54)) (x372001 : Int) (x372002 : Int) : Lim (fun k => laws_FnExactHelmOf.j0 k x42 x358000 x358001 x358002 x372000 x372001 x372002) (laws_FnExactHelmOf.J0 x42 x358000 x358001 x358002 x372000 x372001 x372002) := Lim.of (fun k => (laws_FnExactHelmOf.mono_l k) x42 x358000 x358001 x358002 x372000 x372001 x372002)
noncomputable def laws_FnExactHelmOf.F (l0_0 : List (S72)) (a0_1 : Int) (a0_2 : Int) (a1 : Int) (a2 : Int) : Option (Bool) := lim (fun k => laws_FnExactHelmOf.f k l0_0 a0_1 a0_2 a1 a2)
theorem laws_FnExactHelmOf.F_lim (l0_0 : List (S72)) (a0_1 : Int) (a0_2 : Int) (a1 : Int) (a2 : Int) : Lim (fun k => laws_FnExactHelmOf.f k l0_0 a0_1 a0_2 a1 a2) (laws_FnExactHelmOf.F l0_0 a0_1 a0_2 a1 a2) := Lim.of (fun k => laws_FnExactHelmOf.mono l0_0 a0_1 a0_2 a1 a2 k)
theorem laws_FnExactHelmOf.J0_eq (x42 : Bool) (x358000 : List (S72)) (x358001 : Int) (x358002 : Int) (x372000 : List (S54)) (x372001 : Int) (x372002 : Int) : laws_FnExactHelmOf.J0 x42 x358000 x358001 x358002 x372000 x372001 x372002 = if x42 = true then (some false) else ((laws_toPlan.F x358000 x358001 x358002).bind fun bt374 => ((laws_eqPlan.F x372000 x372001 x372002 bt374.1 bt374.2.1 bt374.2.2).bind fun t379 => (if t379 = true then (some true) else (some false)))) := by
  refine Lim.step (f := fun k => if x42 = true then (some false) else ((laws_toPlan.f k x358000 x358001 x358002).bind fun bt374 => ((laws_eqPlan.f k x372000 x372001 x372002 bt374.1 bt374.2.1 bt374.2.2).bind fun t379 => (if t379 = true then (some true) else (some false))))) (fun k => (laws_FnExactHelmOf.mono_l k) x42 x358000 x358001 x358002 x372000 x372001 x372002) (fun k => by simp only [laws_FnExactHelmOf.j0]) ?_
  repeat' first
    | with_reducible exact Lim.const _
    | with_reducible exact laws_eqPlan.F_lim _ _ _ _ _ _
    | with_reducible exact laws_toPlan.F_lim _ _ _
    | with_reducible refine Lim.ite ?_ ?_
    | with_reducible refine Lim.bind ?_ (fun _ => ?_)
theorem laws_FnExactHelmOf.F_eq (l0_0 : List (S72)) (a0_1 : Int) (a0_2 : Int) (a1 : Int) (a2 : Int) : laws_FnExactHelmOf.F l0_0 a0_1 a0_2 a1 a2 = (laws_szPlan.F l0_0 a0_1 a0_2 1048576).bind fun t358 => (if t358 < 0 then (some true) else ((laws_toPlan.F l0_0 a0_1 a0_2).bind fun bt359 => ((spec_HelmOf.F bt359.1 bt359.2.1 bt359.2.2 a1 a2).bind fun bt364 => ((laws_toPlan.F l0_0 a0_1 a0_2).bind fun bt366 => ((impl_HelmOf.F bt366.1 bt366.2.1 bt366.2.2 a1 a2).bind fun bt372 => (if bt372.1.toList = bt364.1.toList then (laws_FnExactHelmOf.J0 (bt372.2 != bt364.2) l0_0 a0_1 a0_2 bt366.1 bt366.2.1 bt366.2.2) else (laws_FnExactHelmOf.J0 true l0_0 a0_1 a0_2 bt366.1 bt366.2.1 bt366.2.2))))))) := by
  refine Lim.eq (g := fun k => laws_FnExactHelmOf.f k l0_0 a0_1 a0_2 a1 a2) ?_
  unfold laws_FnExactHelmOf.f
  repeat' first
    | with_reducible exact Lim.const _
    | with_reducible exact impl_HelmOf.F_lim _ _ _ _ _
    | with_reducible exact laws_FnExactHelmOf.J0_lim _ _ _ _ _ _ _
    | with_reducible exact laws_szPlan.F_lim _ _ _ _
    | with_reducible exact laws_toPlan.F_lim _ _ _
    | with_reducible exact spec_HelmOf.F_lim _ _ _ _ _
    | with_reducible refine Lim.ite ?_ ?_
    | with_reducible refine Lim.bind ?_ (fun _ => ?_)

end Go.Proofs.Ytnfgijackilcjaa.PFnExactHelmOf
