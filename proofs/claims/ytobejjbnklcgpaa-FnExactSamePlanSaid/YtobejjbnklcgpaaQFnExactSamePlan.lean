/-
  Written by a program of this session (wip/tools/lims.py): the printed functions without their bound on rounds.
-/
import Derived.Test.YtobejjbnklcgpaaPFnExactSamePlanx1
import Derived.Test.YtobejjbnklcgpaaPFnExactSamePlanx2
import Derived.Test.YtobejjbnklcgpaaPFnExactSamePlanx3
import Derived.Test.YtobejjbnklcgpaaPFnExactSamePlanx4
import Derived.Test.YtobejjbnklcgpaaPFnExactSamePlanx5
import Derived.Test.YtobejjbnklcgpaaPFnExactSamePlanx6
import Derived.Test.YtobejjbnklcgpaaPFnExactSamePlanx7
import Derived.Test.YtobejjbnklcgpaaKit
set_option linter.unusedVariables false
set_option linter.unusedSimpArgs false
namespace Go.Proofs.Ytobejjbnklcgpaa.PFnExactSamePlan
open Go.RowKit Go.Proofs.Ytobejjbnklcgpaa.Kit Go.Proofs.YtobejjbnklcgpaaW.PrintWords Go.Proofs.YtobejjbnklcgpaaW.PrintLast Go.Proofs.YtobejjbnklcgpaaW.PrintMore

noncomputable def laws_szHungS.L0 (x0 : List (S153)) (x1 : Int) (x5 : Int) : Option (Int) := lim (fun k => laws_szHungS.l0 k x0 x1 x5)
noncomputable def laws_szHungS.F (l0 : List (S153)) (a1 : Int) : Option (Int) := lim (fun k => laws_szHungS.f k l0 a1)
theorem laws_szHungS.L0_eq (x0 : List (S153)) (x1 : Int) (x5 : Int) : laws_szHungS.L0 x0 x1 x5 = if x5 < (x0.length : Int) then (if 0 ≤ x5 then ((laws_szHung.f ((rd_T153 x0 x5).f0) ((rd_T153 x0 x5).f1) ((rd_T153 x0 x5).f2) x1).bind fun t104 => (if t104 < 0 then (some (-1)) else (laws_szHungS.L0 x0 t104 (wrap64 (x5 + 1))))) else (none)) else (some x1) := by
  refine Lim.step (f := fun k => if x5 < (x0.length : Int) then (if 0 ≤ x5 then ((laws_szHung.f ((rd_T153 x0 x5).f0) ((rd_T153 x0 x5).f1) ((rd_T153 x0 x5).f2) x1).bind fun t104 => (if t104 < 0 then (some (-1)) else (laws_szHungS.l0 k x0 t104 (wrap64 (x5 + 1))))) else (none)) else (some x1)) (fun k => (laws_szHungS.mono_l k) x0 x1 x5) (fun k => by simp only [laws_szHungS.l0]) ?_
  repeat' first
    | exact Lim.const _
    | with_reducible exact Lim.of (fun k => (laws_szHungS.mono_l k) _ _ _)
    | with_reducible refine Lim.ite ?_ ?_
    | with_reducible refine Lim.bind ?_ (fun _ => ?_)
    | exact Lim.of (fun k => (laws_szHungS.mono_l k) _ _ _)
theorem laws_szHungS.F_eq (l0 : List (S153)) (a1 : Int) : laws_szHungS.F l0 a1 = if (wrap64 (a1 - (l0.length : Int))) < 0 then (some (-1)) else (laws_szHungS.L0 l0 (wrap64 (a1 - (l0.length : Int))) 0) := by
  refine Lim.eq (g := fun k => laws_szHungS.f k l0 a1) ?_
  unfold laws_szHungS.f
  repeat' first
    | exact Lim.const _
    | with_reducible exact Lim.of (fun k => (laws_szHungS.mono_l k) _ _ _)
    | with_reducible refine Lim.ite ?_ ?_
    | with_reducible refine Lim.bind ?_ (fun _ => ?_)
    | exact Lim.of (fun k => (laws_szHungS.mono_l k) _ _ _)

noncomputable def laws_szPlan.F (l0_0 : List (S153)) (a0_1 : Int) (a0_2 : Int) (a1 : Int) : Option (Int) := lim (fun k => laws_szPlan.f k l0_0 a0_1 a0_2 a1)
theorem laws_szPlan.F_eq (l0_0 : List (S153)) (a0_1 : Int) (a0_2 : Int) (a1 : Int) : laws_szPlan.F l0_0 a0_1 a0_2 a1 = (laws_szHungS.F l0_0 a1).bind fun t106 => (if t106 < 0 then (some (-1)) else (some t106)) := by
  refine Lim.eq (g := fun k => laws_szPlan.f k l0_0 a0_1 a0_2 a1) ?_
  unfold laws_szPlan.f
  repeat' first
    | exact Lim.const _
    | with_reducible exact Lim.of (fun k => laws_szHungS.mono _ _ k)
    | with_reducible refine Lim.ite ?_ ?_
    | with_reducible refine Lim.bind ?_ (fun _ => ?_)
    | exact Lim.of (fun k => laws_szHungS.mono _ _ k)

noncomputable def spec_SameSail.L0 (x0 : List (S130)) (x1 : List (S130)) (x5 : Int) : Option (Bool) := lim (fun k => spec_SameSail.l0 k x0 x1 x5)
noncomputable def spec_SameSail.F (l0 : List (S130)) (l1 : List (S130)) : Option (Bool) := lim (fun k => spec_SameSail.f k l0 l1)
theorem spec_SameSail.L0_eq (x0 : List (S130)) (x1 : List (S130)) (x5 : Int) : spec_SameSail.L0 x0 x1 x5 = if x5 < (x0.length : Int) then (if 0 ≤ x5 then (if x5 < (x1.length : Int) then (if (!(((rd_T130 x0 x5).f0) == ((rd_T130 x1 x5).f0)) || (!(((rd_T130 x0 x5).f1) == ((rd_T130 x1 x5).f1)))) = true then (some false) else (spec_SameSail.L0 x0 x1 (wrap64 (x5 + 1)))) else (none)) else (none)) else (some true) := by
  refine Lim.step (f := fun k => if x5 < (x0.length : Int) then (if 0 ≤ x5 then (if x5 < (x1.length : Int) then (if (!(((rd_T130 x0 x5).f0) == ((rd_T130 x1 x5).f0)) || (!(((rd_T130 x0 x5).f1) == ((rd_T130 x1 x5).f1)))) = true then (some false) else (spec_SameSail.l0 k x0 x1 (wrap64 (x5 + 1)))) else (none)) else (none)) else (some true)) (fun k => (spec_SameSail.mono_l k) x0 x1 x5) (fun k => by simp only [spec_SameSail.l0]) ?_
  repeat' first
    | exact Lim.const _
    | with_reducible exact Lim.of (fun k => (spec_SameSail.mono_l k) _ _ _)
    | with_reducible refine Lim.ite ?_ ?_
    | with_reducible refine Lim.bind ?_ (fun _ => ?_)
    | exact Lim.of (fun k => (spec_SameSail.mono_l k) _ _ _)
theorem spec_SameSail.F_eq (l0 : List (S130)) (l1 : List (S130)) : spec_SameSail.F l0 l1 = if (l0.length : Int) = (l1.length : Int) then (spec_SameSail.L0 l0 l1 0) else (some false) := by
  refine Lim.eq (g := fun k => spec_SameSail.f k l0 l1) ?_
  unfold spec_SameSail.f
  repeat' first
    | exact Lim.const _
    | with_reducible exact Lim.of (fun k => (spec_SameSail.mono_l k) _ _ _)
    | with_reducible refine Lim.ite ?_ ?_
    | with_reducible refine Lim.bind ?_ (fun _ => ?_)
    | exact Lim.of (fun k => (spec_SameSail.mono_l k) _ _ _)

noncomputable def spec_SamePlan.J0 (x26 : Bool) (x110000 : List (S126)) (x110001 : Int) (x110002 : Int) (x111000 : List (S126)) (x111001 : Int) (x111002 : Int) : Option (Bool) := lim (fun k => spec_SamePlan.j0 k x26 x110000 x110001 x110002 x111000 x111001 x111002)
noncomputable def spec_SamePlan.L0 (x5 : Int) (x110000 : List (S126)) (x110001 : Int) (x110002 : Int) (x111000 : List (S126)) (x111001 : Int) (x111002 : Int) : Option (Bool) := lim (fun k => spec_SamePlan.l0 k x5 x110000 x110001 x110002 x111000 x111001 x111002)
noncomputable def spec_SamePlan.F (l0_0 : List (S126)) (a0_1 : Int) (a0_2 : Int) (l1_0 : List (S126)) (a1_1 : Int) (a1_2 : Int) : Option (Bool) := lim (fun k => spec_SamePlan.f k l0_0 a0_1 a0_2 l1_0 a1_1 a1_2)
theorem spec_SamePlan.J0_eq (x26 : Bool) (x110000 : List (S126)) (x110001 : Int) (x110002 : Int) (x111000 : List (S126)) (x111001 : Int) (x111002 : Int) : spec_SamePlan.J0 x26 x110000 x110001 x110002 x111000 x111001 x111002 = if x26 = true then (some false) else (spec_SamePlan.L0 0 x110000 x110001 x110002 x111000 x111001 x111002) := by
  refine Lim.step (f := fun k => if x26 = true then (some false) else (spec_SamePlan.l0 k 0 x110000 x110001 x110002 x111000 x111001 x111002)) (fun k => (spec_SamePlan.mono_l k).1 x26 x110000 x110001 x110002 x111000 x111001 x111002) (fun k => by simp only [spec_SamePlan.j0]) ?_
  repeat' first
    | exact Lim.const _
    | with_reducible exact Lim.of (fun k => (spec_SamePlan.mono_l k).2 _ _ _ _ _ _ _)
    | with_reducible refine Lim.ite ?_ ?_
    | with_reducible refine Lim.bind ?_ (fun _ => ?_)
    | exact Lim.of (fun k => (spec_SamePlan.mono_l k).2 _ _ _ _ _ _ _)
theorem spec_SamePlan.L0_eq (x5 : Int) (x110000 : List (S126)) (x110001 : Int) (x110002 : Int) (x111000 : List (S126)) (x111001 : Int) (x111002 : Int) : spec_SamePlan.L0 x5 x110000 x110001 x110002 x111000 x111001 x111002 = if x5 < (x110000.length : Int) then (if 0 ≤ x5 then (if x5 < (x111000.length : Int) then (if ((rd_T126 x110000 x5).f0).toList = ((rd_T126 x111000 x5).f0).toList then (if (((rd_T126 x110000 x5).f2) != ((rd_T126 x111000 x5).f2)) = true then (some false) else ((spec_SameSail.F ((rd_T126 x110000 x5).f1) ((rd_T126 x111000 x5).f1)).bind fun t117 => (if t117 = true then (spec_SamePlan.L0 (wrap64 (x5 + 1)) x110000 x110001 x110002 x111000 x111001 x111002) else (some false)))) else (some false)) else (none)) else (none)) else (some true) := by
  refine Lim.step (f := fun k => if x5 < (x110000.length : Int) then (if 0 ≤ x5 then (if x5 < (x111000.length : Int) then (if ((rd_T126 x110000 x5).f0).toList = ((rd_T126 x111000 x5).f0).toList then (if (((rd_T126 x110000 x5).f2) != ((rd_T126 x111000 x5).f2)) = true then (some false) else ((spec_SameSail.f k ((rd_T126 x110000 x5).f1) ((rd_T126 x111000 x5).f1)).bind fun t117 => (if t117 = true then (spec_SamePlan.l0 k (wrap64 (x5 + 1)) x110000 x110001 x110002 x111000 x111001 x111002) else (some false)))) else (some false)) else (none)) else (none)) else (some true)) (fun k => (spec_SamePlan.mono_l k).2 x5 x110000 x110001 x110002 x111000 x111001 x111002) (fun k => by simp only [spec_SamePlan.l0]) ?_
  repeat' first
    | exact Lim.const _
    | with_reducible exact Lim.of (fun k => (spec_SamePlan.mono_l k).2 _ _ _ _ _ _ _)
    | with_reducible exact Lim.of (fun k => spec_SameSail.mono _ _ k)
    | with_reducible refine Lim.ite ?_ ?_
    | with_reducible refine Lim.bind ?_ (fun _ => ?_)
    | exact Lim.of (fun k => (spec_SamePlan.mono_l k).2 _ _ _ _ _ _ _)
    | exact Lim.of (fun k => spec_SameSail.mono _ _ k)
theorem spec_SamePlan.F_eq (l0_0 : List (S126)) (a0_1 : Int) (a0_2 : Int) (l1_0 : List (S126)) (a1_1 : Int) (a1_2 : Int) : spec_SamePlan.F l0_0 a0_1 a0_2 l1_0 a1_1 a1_2 = if (l0_0.length : Int) = (l1_0.length : Int) then (if a0_1 = a1_1 then (spec_SamePlan.J0 (a0_2 != a1_2) l0_0 a0_1 a0_2 l1_0 a1_1 a1_2) else (spec_SamePlan.J0 true l0_0 a0_1 a0_2 l1_0 a1_1 a1_2)) else (spec_SamePlan.J0 true l0_0 a0_1 a0_2 l1_0 a1_1 a1_2) := by
  refine Lim.eq (g := fun k => spec_SamePlan.f k l0_0 a0_1 a0_2 l1_0 a1_1 a1_2) ?_
  unfold spec_SamePlan.f
  repeat' first
    | exact Lim.const _
    | with_reducible exact Lim.of (fun k => (spec_SamePlan.mono_l k).1 _ _ _ _ _ _ _)
    | with_reducible refine Lim.ite ?_ ?_
    | with_reducible refine Lim.bind ?_ (fun _ => ?_)
    | exact Lim.of (fun k => (spec_SamePlan.mono_l k).1 _ _ _ _ _ _ _)

noncomputable def laws_toSpotS.L0 (x0 : List (S160)) (x3 : List (S130)) (x4 : Int) : Option ((List (S130))) := lim (fun k => laws_toSpotS.l0 k x0 x3 x4)
noncomputable def laws_toSpotS.F (l0 : List (S160)) : Option ((List (S130))) := lim (fun k => laws_toSpotS.f k l0)
theorem laws_toSpotS.L0_eq (x0 : List (S160)) (x3 : List (S130)) (x4 : Int) : laws_toSpotS.L0 x0 x3 x4 = if x4 < (x0.length : Int) then (if 0 ≤ x4 then ((laws_toSpot.f ((rd_T160 x0 x4).f0) ((rd_T160 x0 x4).f1)).bind fun bt125 => (if x4 < (x3.length : Int) then (laws_toSpotS.L0 x0 (x3.set (x4 : Int).toNat (⟨bt125.1, bt125.2⟩ : S130)) (wrap64 (x4 + 1))) else (none))) else (none)) else (some x3) := by
  refine Lim.step (f := fun k => if x4 < (x0.length : Int) then (if 0 ≤ x4 then ((laws_toSpot.f ((rd_T160 x0 x4).f0) ((rd_T160 x0 x4).f1)).bind fun bt125 => (if x4 < (x3.length : Int) then (laws_toSpotS.l0 k x0 (x3.set (x4 : Int).toNat (⟨bt125.1, bt125.2⟩ : S130)) (wrap64 (x4 + 1))) else (none))) else (none)) else (some x3)) (fun k => (laws_toSpotS.mono_l k) x0 x3 x4) (fun k => by simp only [laws_toSpotS.l0]) ?_
  repeat' first
    | exact Lim.const _
    | with_reducible exact Lim.of (fun k => (laws_toSpotS.mono_l k) _ _ _)
    | with_reducible refine Lim.ite ?_ ?_
    | with_reducible refine Lim.bind ?_ (fun _ => ?_)
    | exact Lim.of (fun k => (laws_toSpotS.mono_l k) _ _ _)
theorem laws_toSpotS.F_eq (l0 : List (S160)) : laws_toSpotS.F l0 = if 0 ≤ (l0.length : Int) then (if ((l0.length : Int) : Int).toNat ≤ 17592186044416 then (laws_toSpotS.L0 l0 (List.replicate ((l0.length : Int) : Int).toNat z130) 0) else (none)) else (none) := by
  refine Lim.eq (g := fun k => laws_toSpotS.f k l0) ?_
  unfold laws_toSpotS.f
  repeat' first
    | exact Lim.const _
    | with_reducible exact Lim.of (fun k => (laws_toSpotS.mono_l k) _ _ _)
    | with_reducible refine Lim.ite ?_ ?_
    | with_reducible refine Lim.bind ?_ (fun _ => ?_)
    | exact Lim.of (fun k => (laws_toSpotS.mono_l k) _ _ _)

noncomputable def laws_toHung.F (a0_0 : ByteArray) (l0_1 : List (S160)) (a0_2 : Bool) : Option (ByteArray × (List (S130)) × Bool) := lim (fun k => laws_toHung.f k a0_0 l0_1 a0_2)
theorem laws_toHung.F_eq (a0_0 : ByteArray) (l0_1 : List (S160)) (a0_2 : Bool) : laws_toHung.F a0_0 l0_1 a0_2 = (laws_toSpotS.F l0_1).bind fun t131 => (some (a0_0, t131, a0_2)) := by
  refine Lim.eq (g := fun k => laws_toHung.f k a0_0 l0_1 a0_2) ?_
  unfold laws_toHung.f
  repeat' first
    | exact Lim.const _
    | with_reducible exact Lim.of (fun k => laws_toSpotS.mono _ k)
    | with_reducible refine Lim.ite ?_ ?_
    | with_reducible refine Lim.bind ?_ (fun _ => ?_)
    | exact Lim.of (fun k => laws_toSpotS.mono _ k)

noncomputable def laws_toHungS.L0 (x0 : List (S153)) (x3 : List (S126)) (x4 : Int) : Option ((List (S126))) := lim (fun k => laws_toHungS.l0 k x0 x3 x4)
noncomputable def laws_toHungS.F (l0 : List (S153)) : Option ((List (S126))) := lim (fun k => laws_toHungS.f k l0)
theorem laws_toHungS.L0_eq (x0 : List (S153)) (x3 : List (S126)) (x4 : Int) : laws_toHungS.L0 x0 x3 x4 = if x4 < (x0.length : Int) then (if 0 ≤ x4 then ((laws_toHung.F ((rd_T153 x0 x4).f0) ((rd_T153 x0 x4).f1) ((rd_T153 x0 x4).f2)).bind fun bt138 => (if x4 < (x3.length : Int) then (laws_toHungS.L0 x0 (x3.set (x4 : Int).toNat (⟨bt138.1, bt138.2.1, bt138.2.2⟩ : S126)) (wrap64 (x4 + 1))) else (none))) else (none)) else (some x3) := by
  refine Lim.step (f := fun k => if x4 < (x0.length : Int) then (if 0 ≤ x4 then ((laws_toHung.f k ((rd_T153 x0 x4).f0) ((rd_T153 x0 x4).f1) ((rd_T153 x0 x4).f2)).bind fun bt138 => (if x4 < (x3.length : Int) then (laws_toHungS.l0 k x0 (x3.set (x4 : Int).toNat (⟨bt138.1, bt138.2.1, bt138.2.2⟩ : S126)) (wrap64 (x4 + 1))) else (none))) else (none)) else (some x3)) (fun k => (laws_toHungS.mono_l k) x0 x3 x4) (fun k => by simp only [laws_toHungS.l0]) ?_
  repeat' first
    | exact Lim.const _
    | with_reducible exact Lim.of (fun k => laws_toHung.mono _ _ _ k)
    | with_reducible exact Lim.of (fun k => (laws_toHungS.mono_l k) _ _ _)
    | with_reducible refine Lim.ite ?_ ?_
    | with_reducible refine Lim.bind ?_ (fun _ => ?_)
    | exact Lim.of (fun k => laws_toHung.mono _ _ _ k)
    | exact Lim.of (fun k => (laws_toHungS.mono_l k) _ _ _)
theorem laws_toHungS.F_eq (l0 : List (S153)) : laws_toHungS.F l0 = if 0 ≤ (l0.length : Int) then (if ((l0.length : Int) : Int).toNat ≤ 5864062014805 then (laws_toHungS.L0 l0 (List.replicate ((l0.length : Int) : Int).toNat z126) 0) else (none)) else (none) := by
  refine Lim.eq (g := fun k => laws_toHungS.f k l0) ?_
  unfold laws_toHungS.f
  repeat' first
    | exact Lim.const _
    | with_reducible exact Lim.of (fun k => (laws_toHungS.mono_l k) _ _ _)
    | with_reducible refine Lim.ite ?_ ?_
    | with_reducible refine Lim.bind ?_ (fun _ => ?_)
    | exact Lim.of (fun k => (laws_toHungS.mono_l k) _ _ _)

noncomputable def laws_toPlan.F (l0_0 : List (S153)) (a0_1 : Int) (a0_2 : Int) : Option ((List (S126)) × Int × Int) := lim (fun k => laws_toPlan.f k l0_0 a0_1 a0_2)
theorem laws_toPlan.F_eq (l0_0 : List (S153)) (a0_1 : Int) (a0_2 : Int) : laws_toPlan.F l0_0 a0_1 a0_2 = (laws_toHungS.F l0_0).bind fun t147 => (some (t147, a0_1, a0_2)) := by
  refine Lim.eq (g := fun k => laws_toPlan.f k l0_0 a0_1 a0_2) ?_
  unfold laws_toPlan.f
  repeat' first
    | exact Lim.const _
    | with_reducible exact Lim.of (fun k => laws_toHungS.mono _ k)
    | with_reducible refine Lim.ite ?_ ?_
    | with_reducible refine Lim.bind ?_ (fun _ => ?_)
    | exact Lim.of (fun k => laws_toHungS.mono _ k)

noncomputable def impl_Spot.L0 (x0 : List (S130)) (x1 : List (S130)) (x12 : Int) (x13 : Int) : Option (Bool) := lim (fun k => impl_Spot.l0 k x0 x1 x12 x13)
noncomputable def impl_Spot.F (l0 : List (S130)) (l1 : List (S130)) : Option (Bool) := lim (fun k => impl_Spot.f k l0 l1)
theorem impl_Spot.L0_eq (x0 : List (S130)) (x1 : List (S130)) (x12 : Int) (x13 : Int) : impl_Spot.L0 x0 x1 x12 x13 = if x13 < x12 then (if 0 ≤ x13 then (if x13 < (x0.length : Int) then (if x13 < (x1.length : Int) then (if (!(((rd_T130 x0 x13).f0) == ((rd_T130 x1 x13).f0)) || (!(((rd_T130 x0 x13).f1) == ((rd_T130 x1 x13).f1)))) = true then (some false) else (impl_Spot.L0 x0 x1 x12 (wrap64 (x13 + 1)))) else (none)) else (none)) else (none)) else (some true) := by
  refine Lim.step (f := fun k => if x13 < x12 then (if 0 ≤ x13 then (if x13 < (x0.length : Int) then (if x13 < (x1.length : Int) then (if (!(((rd_T130 x0 x13).f0) == ((rd_T130 x1 x13).f0)) || (!(((rd_T130 x0 x13).f1) == ((rd_T130 x1 x13).f1)))) = true then (some false) else (impl_Spot.l0 k x0 x1 x12 (wrap64 (x13 + 1)))) else (none)) else (none)) else (none)) else (some true)) (fun k => (impl_Spot.mono_l k) x0 x1 x12 x13) (fun k => by simp only [impl_Spot.l0]) ?_
  repeat' first
    | exact Lim.const _
    | with_reducible exact Lim.of (fun k => (impl_Spot.mono_l k) _ _ _ _)
    | with_reducible refine Lim.ite ?_ ?_
    | with_reducible refine Lim.bind ?_ (fun _ => ?_)
    | exact Lim.of (fun k => (impl_Spot.mono_l k) _ _ _ _)
theorem impl_Spot.F_eq (l0 : List (S130)) (l1 : List (S130)) : impl_Spot.F l0 l1 = if (l0.length : Int) = (l1.length : Int) then (impl_Spot.L0 l0 l1 (l0.length : Int) 0) else (some false) := by
  refine Lim.eq (g := fun k => impl_Spot.f k l0 l1) ?_
  unfold impl_Spot.f
  repeat' first
    | exact Lim.const _
    | with_reducible exact Lim.of (fun k => (impl_Spot.mono_l k) _ _ _ _)
    | with_reducible refine Lim.ite ?_ ?_
    | with_reducible refine Lim.bind ?_ (fun _ => ?_)
    | exact Lim.of (fun k => (impl_Spot.mono_l k) _ _ _ _)

noncomputable def impl_SamePlan.J0 (x28 : Bool) (x153000 : List (S126)) (x153001 : Int) (x153002 : Int) (x154000 : List (S126)) (x154001 : Int) (x154002 : Int) : Option (Bool) := lim (fun k => impl_SamePlan.j0 k x28 x153000 x153001 x153002 x154000 x154001 x154002)
noncomputable def impl_SamePlan.L0 (x30 : List (S126)) (x31 : Int) (x32 : Int) (x154000 : List (S126)) (x154001 : Int) (x154002 : Int) : Option (Bool) := lim (fun k => impl_SamePlan.l0 k x30 x31 x32 x154000 x154001 x154002)
noncomputable def impl_SamePlan.F (l0_0 : List (S126)) (a0_1 : Int) (a0_2 : Int) (l1_0 : List (S126)) (a1_1 : Int) (a1_2 : Int) : Option (Bool) := lim (fun k => impl_SamePlan.f k l0_0 a0_1 a0_2 l1_0 a1_1 a1_2)
theorem impl_SamePlan.J0_eq (x28 : Bool) (x153000 : List (S126)) (x153001 : Int) (x153002 : Int) (x154000 : List (S126)) (x154001 : Int) (x154002 : Int) : impl_SamePlan.J0 x28 x153000 x153001 x153002 x154000 x154001 x154002 = if x28 = true then (some false) else (impl_SamePlan.L0 x153000 (x153000.length : Int) 0 x154000 x154001 x154002) := by
  refine Lim.step (f := fun k => if x28 = true then (some false) else (impl_SamePlan.l0 k x153000 (x153000.length : Int) 0 x154000 x154001 x154002)) (fun k => (impl_SamePlan.mono_l k).1 x28 x153000 x153001 x153002 x154000 x154001 x154002) (fun k => by simp only [impl_SamePlan.j0]) ?_
  repeat' first
    | exact Lim.const _
    | with_reducible exact Lim.of (fun k => (impl_SamePlan.mono_l k).2 _ _ _ _ _ _)
    | with_reducible refine Lim.ite ?_ ?_
    | with_reducible refine Lim.bind ?_ (fun _ => ?_)
    | exact Lim.of (fun k => (impl_SamePlan.mono_l k).2 _ _ _ _ _ _)
theorem impl_SamePlan.L0_eq (x30 : List (S126)) (x31 : Int) (x32 : Int) (x154000 : List (S126)) (x154001 : Int) (x154002 : Int) : impl_SamePlan.L0 x30 x31 x32 x154000 x154001 x154002 = if x32 < x31 then (if 0 ≤ x32 then (if x32 < (x30.length : Int) then (if x32 < (x154000.length : Int) then (if ((rd_T126 x30 x32).f0).toList = ((rd_T126 x154000 x32).f0).toList then (if (((rd_T126 x30 x32).f2) != ((rd_T126 x154000 x32).f2)) = true then (some false) else ((impl_Spot.F ((rd_T126 x30 x32).f1) ((rd_T126 x154000 x32).f1)).bind fun t158 => (if t158 = true then (impl_SamePlan.L0 x30 x31 (wrap64 (x32 + 1)) x154000 x154001 x154002) else (some false)))) else (some false)) else (none)) else (none)) else (none)) else (some true) := by
  refine Lim.step (f := fun k => if x32 < x31 then (if 0 ≤ x32 then (if x32 < (x30.length : Int) then (if x32 < (x154000.length : Int) then (if ((rd_T126 x30 x32).f0).toList = ((rd_T126 x154000 x32).f0).toList then (if (((rd_T126 x30 x32).f2) != ((rd_T126 x154000 x32).f2)) = true then (some false) else ((impl_Spot.f k ((rd_T126 x30 x32).f1) ((rd_T126 x154000 x32).f1)).bind fun t158 => (if t158 = true then (impl_SamePlan.l0 k x30 x31 (wrap64 (x32 + 1)) x154000 x154001 x154002) else (some false)))) else (some false)) else (none)) else (none)) else (none)) else (some true)) (fun k => (impl_SamePlan.mono_l k).2 x30 x31 x32 x154000 x154001 x154002) (fun k => by simp only [impl_SamePlan.l0]) ?_
  repeat' first
    | exact Lim.const _
    | with_reducible exact Lim.of (fun k => (impl_SamePlan.mono_l k).2 _ _ _ _ _ _)
    | with_reducible exact Lim.of (fun k => impl_Spot.mono _ _ k)
    | with_reducible refine Lim.ite ?_ ?_
    | with_reducible refine Lim.bind ?_ (fun _ => ?_)
    | exact Lim.of (fun k => (impl_SamePlan.mono_l k).2 _ _ _ _ _ _)
    | exact Lim.of (fun k => impl_Spot.mono _ _ k)
theorem impl_SamePlan.F_eq (l0_0 : List (S126)) (a0_1 : Int) (a0_2 : Int) (l1_0 : List (S126)) (a1_1 : Int) (a1_2 : Int) : impl_SamePlan.F l0_0 a0_1 a0_2 l1_0 a1_1 a1_2 = if (l0_0.length : Int) = (l1_0.length : Int) then (if a0_1 = a1_1 then (impl_SamePlan.J0 (a0_2 != a1_2) l0_0 a0_1 a0_2 l1_0 a1_1 a1_2) else (impl_SamePlan.J0 true l0_0 a0_1 a0_2 l1_0 a1_1 a1_2)) else (impl_SamePlan.J0 true l0_0 a0_1 a0_2 l1_0 a1_1 a1_2) := by
  refine Lim.eq (g := fun k => impl_SamePlan.f k l0_0 a0_1 a0_2 l1_0 a1_1 a1_2) ?_
  unfold impl_SamePlan.f
  repeat' first
    | exact Lim.const _
    | with_reducible exact Lim.of (fun k => (impl_SamePlan.mono_l k).1 _ _ _ _ _ _ _)
    | with_reducible refine Lim.ite ?_ ?_
    | with_reducible refine Lim.bind ?_ (fun _ => ?_)
    | exact Lim.of (fun k => (impl_SamePlan.mono_l k).1 _ _ _ _ _ _ _)

noncomputable def laws_eqSpotS.L0 (x0 : List (S130)) (x1 : List (S130)) (x5 : Int) : Option (Bool) := lim (fun k => laws_eqSpotS.l0 k x0 x1 x5)
noncomputable def laws_eqSpotS.F (l0 : List (S130)) (l1 : List (S130)) : Option (Bool) := lim (fun k => laws_eqSpotS.f k l0 l1)
theorem laws_eqSpotS.L0_eq (x0 : List (S130)) (x1 : List (S130)) (x5 : Int) : laws_eqSpotS.L0 x0 x1 x5 = if x5 < (x0.length : Int) then (if 0 ≤ x5 then (if x5 < (x1.length : Int) then ((laws_eqSpot.f ((rd_T130 x0 x5).f0) ((rd_T130 x0 x5).f1) ((rd_T130 x1 x5).f0) ((rd_T130 x1 x5).f1)).bind fun t163 => (if t163 = true then (laws_eqSpotS.L0 x0 x1 (wrap64 (x5 + 1))) else (some false))) else (none)) else (none)) else (some true) := by
  refine Lim.step (f := fun k => if x5 < (x0.length : Int) then (if 0 ≤ x5 then (if x5 < (x1.length : Int) then ((laws_eqSpot.f ((rd_T130 x0 x5).f0) ((rd_T130 x0 x5).f1) ((rd_T130 x1 x5).f0) ((rd_T130 x1 x5).f1)).bind fun t163 => (if t163 = true then (laws_eqSpotS.l0 k x0 x1 (wrap64 (x5 + 1))) else (some false))) else (none)) else (none)) else (some true)) (fun k => (laws_eqSpotS.mono_l k) x0 x1 x5) (fun k => by simp only [laws_eqSpotS.l0]) ?_
  repeat' first
    | exact Lim.const _
    | with_reducible exact Lim.of (fun k => (laws_eqSpotS.mono_l k) _ _ _)
    | with_reducible refine Lim.ite ?_ ?_
    | with_reducible refine Lim.bind ?_ (fun _ => ?_)
    | exact Lim.of (fun k => (laws_eqSpotS.mono_l k) _ _ _)
theorem laws_eqSpotS.F_eq (l0 : List (S130)) (l1 : List (S130)) : laws_eqSpotS.F l0 l1 = if (l0.length : Int) = (l1.length : Int) then (laws_eqSpotS.L0 l0 l1 0) else (some false) := by
  refine Lim.eq (g := fun k => laws_eqSpotS.f k l0 l1) ?_
  unfold laws_eqSpotS.f
  repeat' first
    | exact Lim.const _
    | with_reducible exact Lim.of (fun k => (laws_eqSpotS.mono_l k) _ _ _)
    | with_reducible refine Lim.ite ?_ ?_
    | with_reducible refine Lim.bind ?_ (fun _ => ?_)
    | exact Lim.of (fun k => (laws_eqSpotS.mono_l k) _ _ _)

noncomputable def laws_eqHung.F (a0_0 : ByteArray) (l0_1 : List (S130)) (a0_2 : Bool) (a1_0 : ByteArray) (l1_1 : List (S130)) (a1_2 : Bool) : Option (Bool) := lim (fun k => laws_eqHung.f k a0_0 l0_1 a0_2 a1_0 l1_1 a1_2)
theorem laws_eqHung.F_eq (a0_0 : ByteArray) (l0_1 : List (S130)) (a0_2 : Bool) (a1_0 : ByteArray) (l1_1 : List (S130)) (a1_2 : Bool) : laws_eqHung.F a0_0 l0_1 a0_2 a1_0 l1_1 a1_2 = if a0_0.toList = a1_0.toList then ((laws_eqSpotS.F l0_1 l1_1).bind fun t166 => (if t166 = true then (if (a0_2 != a1_2) = true then (some false) else (some true)) else (some false))) else (some false) := by
  refine Lim.eq (g := fun k => laws_eqHung.f k a0_0 l0_1 a0_2 a1_0 l1_1 a1_2) ?_
  unfold laws_eqHung.f
  repeat' first
    | exact Lim.const _
    | with_reducible exact Lim.of (fun k => laws_eqSpotS.mono _ _ k)
    | with_reducible refine Lim.ite ?_ ?_
    | with_reducible refine Lim.bind ?_ (fun _ => ?_)
    | exact Lim.of (fun k => laws_eqSpotS.mono _ _ k)

noncomputable def laws_eqHungS.L0 (x0 : List (S126)) (x1 : List (S126)) (x5 : Int) : Option (Bool) := lim (fun k => laws_eqHungS.l0 k x0 x1 x5)
noncomputable def laws_eqHungS.F (l0 : List (S126)) (l1 : List (S126)) : Option (Bool) := lim (fun k => laws_eqHungS.f k l0 l1)
theorem laws_eqHungS.L0_eq (x0 : List (S126)) (x1 : List (S126)) (x5 : Int) : laws_eqHungS.L0 x0 x1 x5 = if x5 < (x0.length : Int) then (if 0 ≤ x5 then (if x5 < (x1.length : Int) then ((laws_eqHung.F ((rd_T126 x0 x5).f0) ((rd_T126 x0 x5).f1) ((rd_T126 x0 x5).f2) ((rd_T126 x1 x5).f0) ((rd_T126 x1 x5).f1) ((rd_T126 x1 x5).f2)).bind fun t169 => (if t169 = true then (laws_eqHungS.L0 x0 x1 (wrap64 (x5 + 1))) else (some false))) else (none)) else (none)) else (some true) := by
  refine Lim.step (f := fun k => if x5 < (x0.length : Int) then (if 0 ≤ x5 then (if x5 < (x1.length : Int) then ((laws_eqHung.f k ((rd_T126 x0 x5).f0) ((rd_T126 x0 x5).f1) ((rd_T126 x0 x5).f2) ((rd_T126 x1 x5).f0) ((rd_T126 x1 x5).f1) ((rd_T126 x1 x5).f2)).bind fun t169 => (if t169 = true then (laws_eqHungS.l0 k x0 x1 (wrap64 (x5 + 1))) else (some false))) else (none)) else (none)) else (some true)) (fun k => (laws_eqHungS.mono_l k) x0 x1 x5) (fun k => by simp only [laws_eqHungS.l0]) ?_
  repeat' first
    | exact Lim.const _
    | with_reducible exact Lim.of (fun k => laws_eqHung.mono _ _ _ _ _ _ k)
    | with_reducible exact Lim.of (fun k => (laws_eqHungS.mono_l k) _ _ _)
    | with_reducible refine Lim.ite ?_ ?_
    | with_reducible refine Lim.bind ?_ (fun _ => ?_)
    | exact Lim.of (fun k => laws_eqHung.mono _ _ _ _ _ _ k)
    | exact Lim.of (fun k => (laws_eqHungS.mono_l k) _ _ _)
theorem laws_eqHungS.F_eq (l0 : List (S126)) (l1 : List (S126)) : laws_eqHungS.F l0 l1 = if (l0.length : Int) = (l1.length : Int) then (laws_eqHungS.L0 l0 l1 0) else (some false) := by
  refine Lim.eq (g := fun k => laws_eqHungS.f k l0 l1) ?_
  unfold laws_eqHungS.f
  repeat' first
    | exact Lim.const _
    | with_reducible exact Lim.of (fun k => (laws_eqHungS.mono_l k) _ _ _)
    | with_reducible refine Lim.ite ?_ ?_
    | with_reducible refine Lim.bind ?_ (fun _ => ?_)
    | exact Lim.of (fun k => (laws_eqHungS.mono_l k) _ _ _)

noncomputable def laws_eqPlan.F (l0_0 : List (S126)) (a0_1 : Int) (a0_2 : Int) (l1_0 : List (S126)) (a1_1 : Int) (a1_2 : Int) : Option (Bool) := lim (fun k => laws_eqPlan.f k l0_0 a0_1 a0_2 l1_0 a1_1 a1_2)
theorem laws_eqPlan.F_eq (l0_0 : List (S126)) (a0_1 : Int) (a0_2 : Int) (l1_0 : List (S126)) (a1_1 : Int) (a1_2 : Int) : laws_eqPlan.F l0_0 a0_1 a0_2 l1_0 a1_1 a1_2 = (laws_eqHungS.F l0_0 l1_0).bind fun t172 => (if t172 = true then (if a0_1 = a1_1 then (if a0_2 = a1_2 then (some true) else (some false)) else (some false)) else (some false)) := by
  refine Lim.eq (g := fun k => laws_eqPlan.f k l0_0 a0_1 a0_2 l1_0 a1_1 a1_2) ?_
  unfold laws_eqPlan.f
  repeat' first
    | exact Lim.const _
    | with_reducible exact Lim.of (fun k => laws_eqHungS.mono _ _ k)
    | with_reducible refine Lim.ite ?_ ?_
    | with_reducible refine Lim.bind ?_ (fun _ => ?_)
    | exact Lim.of (fun k => laws_eqHungS.mono _ _ k)

noncomputable def laws_FnExactSamePlan.F (l0_0 : List (S153)) (a0_1 : Int) (a0_2 : Int) (l1_0 : List (S153)) (a1_1 : Int) (a1_2 : Int) : Option (Bool) := lim (fun k => laws_FnExactSamePlan.f k l0_0 a0_1 a0_2 l1_0 a1_1 a1_2)
theorem laws_FnExactSamePlan.F_eq (l0_0 : List (S153)) (a0_1 : Int) (a0_2 : Int) (l1_0 : List (S153)) (a1_1 : Int) (a1_2 : Int) : laws_FnExactSamePlan.F l0_0 a0_1 a0_2 l1_0 a1_1 a1_2 = (laws_szPlan.F l0_0 a0_1 a0_2 1048576).bind fun t175 => (if t175 < 0 then (some true) else ((laws_szPlan.F l1_0 a1_1 a1_2 t175).bind fun t176 => (if t176 < 0 then (some true) else ((laws_toPlan.F l0_0 a0_1 a0_2).bind fun bt177 => ((laws_toPlan.F l1_0 a1_1 a1_2).bind fun bt182 => ((spec_SamePlan.F bt177.1 bt177.2.1 bt177.2.2 bt182.1 bt182.2.1 bt182.2.2).bind fun t187 => ((laws_toPlan.F l0_0 a0_1 a0_2).bind fun bt188 => ((laws_toPlan.F l1_0 a1_1 a1_2).bind fun bt194 => ((impl_SamePlan.F bt188.1 bt188.2.1 bt188.2.2 bt194.1 bt194.2.1 bt194.2.2).bind fun t200 => (if (t200 != t187) = true then (some false) else ((laws_toPlan.F l0_0 a0_1 a0_2).bind fun bt201 => ((laws_eqPlan.F bt188.1 bt188.2.1 bt188.2.2 bt201.1 bt201.2.1 bt201.2.2).bind fun t206 => (if t206 = true then ((laws_toPlan.F l1_0 a1_1 a1_2).bind fun bt207 => ((laws_eqPlan.F bt194.1 bt194.2.1 bt194.2.2 bt207.1 bt207.2.1 bt207.2.2).bind fun t212 => (if t212 = true then (some true) else (some false)))) else (some false)))))))))))))) := by
  refine Lim.eq (g := fun k => laws_FnExactSamePlan.f k l0_0 a0_1 a0_2 l1_0 a1_1 a1_2) ?_
  unfold laws_FnExactSamePlan.f
  repeat' first
    | exact Lim.const _
    | with_reducible exact Lim.of (fun k => impl_SamePlan.mono _ _ _ _ _ _ k)
    | with_reducible exact Lim.of (fun k => laws_eqPlan.mono _ _ _ _ _ _ k)
    | with_reducible exact Lim.of (fun k => laws_szPlan.mono _ _ _ _ k)
    | with_reducible exact Lim.of (fun k => laws_toPlan.mono _ _ _ k)
    | with_reducible exact Lim.of (fun k => spec_SamePlan.mono _ _ _ _ _ _ k)
    | with_reducible refine Lim.ite ?_ ?_
    | with_reducible refine Lim.bind ?_ (fun _ => ?_)
    | exact Lim.of (fun k => impl_SamePlan.mono _ _ _ _ _ _ k)
    | exact Lim.of (fun k => laws_eqPlan.mono _ _ _ _ _ _ k)
    | exact Lim.of (fun k => laws_szPlan.mono _ _ _ _ k)
    | exact Lim.of (fun k => laws_toPlan.mono _ _ _ k)
    | exact Lim.of (fun k => spec_SamePlan.mono _ _ _ _ _ _ k)

end Go.Proofs.Ytobejjbnklcgpaa.PFnExactSamePlan
