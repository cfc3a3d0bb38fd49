/-
  Written by a program of this session (wip/tools/lims.py): the printed functions without their bound on rounds.
-/
import Derived.Test.YtobejjbnklcgpaaPFnExactValidBoltsx1
import Derived.Test.YtobejjbnklcgpaaPFnExactValidBoltsx2
import Derived.Test.YtobejjbnklcgpaaPFnExactValidBoltsx3
import Derived.Test.YtobejjbnklcgpaaKit
set_option linter.unusedVariables false
set_option linter.unusedSimpArgs false
namespace Go.Proofs.Ytobejjbnklcgpaa.PFnExactValidBolts
open Go.RowKit Go.Proofs.Ytobejjbnklcgpaa.Kit Go.Proofs.YtobejjbnklcgpaaW.PrintWords Go.Proofs.YtobejjbnklcgpaaW.PrintLast Go.Proofs.YtobejjbnklcgpaaW.PrintMore

noncomputable def laws_szBoltS.L0 (x0 : List (S60)) (x1 : Int) (x5 : Int) : Option (Int) := lim (fun k => laws_szBoltS.l0 k x0 x1 x5)
noncomputable def laws_szBoltS.F (l0 : List (S60)) (a1 : Int) : Option (Int) := lim (fun k => laws_szBoltS.f k l0 a1)
theorem laws_szBoltS.L0_eq (x0 : List (S60)) (x1 : Int) (x5 : Int) : laws_szBoltS.L0 x0 x1 x5 = if x5 < (x0.length : Int) then (if 0 ≤ x5 then ((laws_szBolt.f ((rd_T60 x0 x5).f0) ((rd_T60 x0 x5).f1) x1).bind fun t104 => (if t104 < 0 then (some (-1)) else (laws_szBoltS.L0 x0 t104 (wrap64 (x5 + 1))))) else (none)) else (some x1) := by
  refine Lim.step (f := fun k => if x5 < (x0.length : Int) then (if 0 ≤ x5 then ((laws_szBolt.f ((rd_T60 x0 x5).f0) ((rd_T60 x0 x5).f1) x1).bind fun t104 => (if t104 < 0 then (some (-1)) else (laws_szBoltS.l0 k x0 t104 (wrap64 (x5 + 1))))) else (none)) else (some x1)) (fun k => (laws_szBoltS.mono_l k) x0 x1 x5) (fun k => by simp only [laws_szBoltS.l0]) ?_
  repeat' first
    | exact Lim.const _
    | with_reducible exact Lim.of (fun k => (laws_szBoltS.mono_l k) _ _ _)
    | with_reducible refine Lim.ite ?_ ?_
    | with_reducible refine Lim.bind ?_ (fun _ => ?_)
    | exact Lim.of (fun k => (laws_szBoltS.mono_l k) _ _ _)
theorem laws_szBoltS.F_eq (l0 : List (S60)) (a1 : Int) : laws_szBoltS.F l0 a1 = if (wrap64 (a1 - (l0.length : Int))) < 0 then (some (-1)) else (laws_szBoltS.L0 l0 (wrap64 (a1 - (l0.length : Int))) 0) := by
  refine Lim.eq (g := fun k => laws_szBoltS.f k l0 a1) ?_
  unfold laws_szBoltS.f
  repeat' first
    | exact Lim.const _
    | with_reducible exact Lim.of (fun k => (laws_szBoltS.mono_l k) _ _ _)
    | with_reducible refine Lim.ite ?_ ?_
    | with_reducible refine Lim.bind ?_ (fun _ => ?_)
    | exact Lim.of (fun k => (laws_szBoltS.mono_l k) _ _ _)

noncomputable def spec_l00Rises.L0 (x0 : List Int) (x1 : Int) (x2 : Int) (x7 : Int) : Option (Bool) := lim (fun k => spec_l00Rises.l0 k x0 x1 x2 x7)
noncomputable def spec_l00Rises.F (l0 : List Int) (a1 : Int) (a2 : Int) : Option (Bool) := lim (fun k => spec_l00Rises.f k l0 a1 a2)
theorem spec_l00Rises.L0_eq (x0 : List Int) (x1 : Int) (x2 : Int) (x7 : Int) : spec_l00Rises.L0 x0 x1 x2 x7 = if x7 < (x0.length : Int) then (if 0 ≤ x7 then ((spec_l00In.f (rd x0 x7) x1 x2).bind fun t106 => (if t106 = true then (if x7 > 0 then (if 0 ≤ (wrap64 (x7 - 1)) then (if (wrap64 (x7 - 1)) < (x0.length : Int) then (if (rd x0 (wrap64 (x7 - 1))) ≥ (rd x0 x7) then (some false) else (spec_l00Rises.L0 x0 x1 x2 (wrap64 (x7 + 1)))) else (none)) else (none)) else (spec_l00Rises.L0 x0 x1 x2 (wrap64 (x7 + 1)))) else (some false))) else (none)) else (some true) := by
  refine Lim.step (f := fun k => if x7 < (x0.length : Int) then (if 0 ≤ x7 then ((spec_l00In.f (rd x0 x7) x1 x2).bind fun t106 => (if t106 = true then (if x7 > 0 then (if 0 ≤ (wrap64 (x7 - 1)) then (if (wrap64 (x7 - 1)) < (x0.length : Int) then (if (rd x0 (wrap64 (x7 - 1))) ≥ (rd x0 x7) then (some false) else (spec_l00Rises.l0 k x0 x1 x2 (wrap64 (x7 + 1)))) else (none)) else (none)) else (spec_l00Rises.l0 k x0 x1 x2 (wrap64 (x7 + 1)))) else (some false))) else (none)) else (some true)) (fun k => (spec_l00Rises.mono_l k) x0 x1 x2 x7) (fun k => by simp only [spec_l00Rises.l0]) ?_
  repeat' first
    | exact Lim.const _
    | with_reducible exact Lim.of (fun k => (spec_l00Rises.mono_l k) _ _ _ _)
    | with_reducible refine Lim.ite ?_ ?_
    | with_reducible refine Lim.bind ?_ (fun _ => ?_)
    | exact Lim.of (fun k => (spec_l00Rises.mono_l k) _ _ _ _)
theorem spec_l00Rises.F_eq (l0 : List Int) (a1 : Int) (a2 : Int) : spec_l00Rises.F l0 a1 a2 = spec_l00Rises.L0 l0 a1 a2 0 := by
  refine Lim.eq (g := fun k => spec_l00Rises.f k l0 a1 a2) ?_
  unfold spec_l00Rises.f
  repeat' first
    | exact Lim.const _
    | with_reducible exact Lim.of (fun k => (spec_l00Rises.mono_l k) _ _ _ _)
    | with_reducible refine Lim.ite ?_ ?_
    | with_reducible refine Lim.bind ?_ (fun _ => ?_)
    | exact Lim.of (fun k => (spec_l00Rises.mono_l k) _ _ _ _)

noncomputable def spec_l16One.F (l0 : List (S65)) : Option (Bool) := lim (fun k => spec_l16One.f k l0)
theorem spec_l16One.F_eq (l0 : List (S65)) : spec_l16One.F l0 = if 0 < (l0.length : Int) then ((spec_l00In.f ((rd_T65 l0 0).f0) 1 10000).bind fun t111 => (if t111 = true then (if (((rd_T65 l0 0).f1).length : Int) ≤ 6 then ((spec_l00Rises.F ((rd_T65 l0 0).f1) 1 (wrap64 (((rd_T65 l0 0).f0) - 1))).bind fun t115 => (some t115)) else (some false)) else (some false))) else (none) := by
  refine Lim.eq (g := fun k => spec_l16One.f k l0) ?_
  unfold spec_l16One.f
  repeat' first
    | exact Lim.const _
    | with_reducible exact Lim.of (fun k => spec_l00Rises.mono _ _ _ k)
    | with_reducible refine Lim.ite ?_ ?_
    | with_reducible refine Lim.bind ?_ (fun _ => ?_)
    | exact Lim.of (fun k => spec_l00Rises.mono _ _ _ k)

noncomputable def spec_l16Ok.L0 (x0 : List (S65)) (x3 : Int) : Option (Bool) := lim (fun k => spec_l16Ok.l0 k x0 x3)
noncomputable def spec_l16Ok.F (l0 : List (S65)) : Option (Bool) := lim (fun k => spec_l16Ok.f k l0)
theorem spec_l16Ok.L0_eq (x0 : List (S65)) (x3 : Int) : spec_l16Ok.L0 x0 x3 = if x3 < (x0.length : Int) then (if 0 ≤ x3 then ((spec_l16One.F [rd_T65 x0 x3]).bind fun t118 => (if t118 = true then (spec_l16Ok.L0 x0 (wrap64 (x3 + 1))) else (some false))) else (none)) else (some (decide ((x0.length : Int) ≤ 4))) := by
  refine Lim.step (f := fun k => if x3 < (x0.length : Int) then (if 0 ≤ x3 then ((spec_l16One.f k [rd_T65 x0 x3]).bind fun t118 => (if t118 = true then (spec_l16Ok.l0 k x0 (wrap64 (x3 + 1))) else (some false))) else (none)) else (some (decide ((x0.length : Int) ≤ 4)))) (fun k => (spec_l16Ok.mono_l k) x0 x3) (fun k => by simp only [spec_l16Ok.l0]) ?_
  repeat' first
    | exact Lim.const _
    | with_reducible exact Lim.of (fun k => (spec_l16Ok.mono_l k) _ _)
    | with_reducible exact Lim.of (fun k => spec_l16One.mono _ k)
    | with_reducible refine Lim.ite ?_ ?_
    | with_reducible refine Lim.bind ?_ (fun _ => ?_)
    | exact Lim.of (fun k => (spec_l16Ok.mono_l k) _ _)
    | exact Lim.of (fun k => spec_l16One.mono _ k)
theorem spec_l16Ok.F_eq (l0 : List (S65)) : spec_l16Ok.F l0 = spec_l16Ok.L0 l0 0 := by
  refine Lim.eq (g := fun k => spec_l16Ok.f k l0) ?_
  unfold spec_l16Ok.f
  repeat' first
    | exact Lim.const _
    | with_reducible exact Lim.of (fun k => (spec_l16Ok.mono_l k) _ _)
    | with_reducible refine Lim.ite ?_ ?_
    | with_reducible refine Lim.bind ?_ (fun _ => ?_)
    | exact Lim.of (fun k => (spec_l16Ok.mono_l k) _ _)

noncomputable def spec_ValidBolts.F (l0 : List (S65)) : Option (Bool) := lim (fun k => spec_ValidBolts.f k l0)
theorem spec_ValidBolts.F_eq (l0 : List (S65)) : spec_ValidBolts.F l0 = (spec_l16Ok.F l0).bind fun t119 => (some t119) := by
  refine Lim.eq (g := fun k => spec_ValidBolts.f k l0) ?_
  unfold spec_ValidBolts.f
  repeat' first
    | exact Lim.const _
    | with_reducible exact Lim.of (fun k => spec_l16Ok.mono _ k)
    | with_reducible refine Lim.ite ?_ ?_
    | with_reducible refine Lim.bind ?_ (fun _ => ?_)
    | exact Lim.of (fun k => spec_l16Ok.mono _ k)

noncomputable def laws_toInt64S.L0 (x0 : List Int) (x3 : List Int) (x4 : Int) : Option (List Int) := lim (fun k => laws_toInt64S.l0 k x0 x3 x4)
noncomputable def laws_toInt64S.F (l0 : List Int) : Option (List Int) := lim (fun k => laws_toInt64S.f k l0)
theorem laws_toInt64S.L0_eq (x0 : List Int) (x3 : List Int) (x4 : Int) : laws_toInt64S.L0 x0 x3 x4 = if x4 < (x0.length : Int) then (if 0 ≤ x4 then (if x4 < (x3.length : Int) then (laws_toInt64S.L0 x0 (x3.set (x4 : Int).toNat (rd x0 x4)) (wrap64 (x4 + 1))) else (none)) else (none)) else (some x3) := by
  refine Lim.step (f := fun k => if x4 < (x0.length : Int) then (if 0 ≤ x4 then (if x4 < (x3.length : Int) then (laws_toInt64S.l0 k x0 (x3.set (x4 : Int).toNat (rd x0 x4)) (wrap64 (x4 + 1))) else (none)) else (none)) else (some x3)) (fun k => (laws_toInt64S.mono_l k) x0 x3 x4) (fun k => by simp only [laws_toInt64S.l0]) ?_
  repeat' first
    | exact Lim.const _
    | with_reducible exact Lim.of (fun k => (laws_toInt64S.mono_l k) _ _ _)
    | with_reducible refine Lim.ite ?_ ?_
    | with_reducible refine Lim.bind ?_ (fun _ => ?_)
    | exact Lim.of (fun k => (laws_toInt64S.mono_l k) _ _ _)
theorem laws_toInt64S.F_eq (l0 : List Int) : laws_toInt64S.F l0 = if 0 ≤ (l0.length : Int) then (if ((l0.length : Int) : Int).toNat ≤ 35184372088832 then (laws_toInt64S.L0 l0 (List.replicate ((l0.length : Int) : Int).toNat 0) 0) else (none)) else (none) := by
  refine Lim.eq (g := fun k => laws_toInt64S.f k l0) ?_
  unfold laws_toInt64S.f
  repeat' first
    | exact Lim.const _
    | with_reducible exact Lim.of (fun k => (laws_toInt64S.mono_l k) _ _ _)
    | with_reducible refine Lim.ite ?_ ?_
    | with_reducible refine Lim.bind ?_ (fun _ => ?_)
    | exact Lim.of (fun k => (laws_toInt64S.mono_l k) _ _ _)

noncomputable def laws_toBolt.F (a0_0 : Int) (l0_1 : List Int) : Option (Int × List Int) := lim (fun k => laws_toBolt.f k a0_0 l0_1)
theorem laws_toBolt.F_eq (a0_0 : Int) (l0_1 : List Int) : laws_toBolt.F a0_0 l0_1 = (laws_toInt64S.F l0_1).bind fun t128 => (some (a0_0, t128)) := by
  refine Lim.eq (g := fun k => laws_toBolt.f k a0_0 l0_1) ?_
  unfold laws_toBolt.f
  repeat' first
    | exact Lim.const _
    | with_reducible exact Lim.of (fun k => laws_toInt64S.mono _ k)
    | with_reducible refine Lim.ite ?_ ?_
    | with_reducible refine Lim.bind ?_ (fun _ => ?_)
    | exact Lim.of (fun k => laws_toInt64S.mono _ k)

noncomputable def laws_toBoltS.L0 (x0 : List (S60)) (x3 : List (S65)) (x4 : Int) : Option ((List (S65))) := lim (fun k => laws_toBoltS.l0 k x0 x3 x4)
noncomputable def laws_toBoltS.F (l0 : List (S60)) : Option ((List (S65))) := lim (fun k => laws_toBoltS.f k l0)
theorem laws_toBoltS.L0_eq (x0 : List (S60)) (x3 : List (S65)) (x4 : Int) : laws_toBoltS.L0 x0 x3 x4 = if x4 < (x0.length : Int) then (if 0 ≤ x4 then ((laws_toBolt.F ((rd_T60 x0 x4).f0) ((rd_T60 x0 x4).f1)).bind fun bt135 => (if x4 < (x3.length : Int) then (laws_toBoltS.L0 x0 (x3.set (x4 : Int).toNat (⟨bt135.1, bt135.2⟩ : S65)) (wrap64 (x4 + 1))) else (none))) else (none)) else (some x3) := by
  refine Lim.step (f := fun k => if x4 < (x0.length : Int) then (if 0 ≤ x4 then ((laws_toBolt.f k ((rd_T60 x0 x4).f0) ((rd_T60 x0 x4).f1)).bind fun bt135 => (if x4 < (x3.length : Int) then (laws_toBoltS.l0 k x0 (x3.set (x4 : Int).toNat (⟨bt135.1, bt135.2⟩ : S65)) (wrap64 (x4 + 1))) else (none))) else (none)) else (some x3)) (fun k => (laws_toBoltS.mono_l k) x0 x3 x4) (fun k => by simp only [laws_toBoltS.l0]) ?_
  repeat' first
    | exact Lim.const _
    | with_reducible exact Lim.of (fun k => laws_toBolt.mono _ _ k)
    | with_reducible exact Lim.of (fun k => (laws_toBoltS.mono_l k) _ _ _)
    | with_reducible refine Lim.ite ?_ ?_
    | with_reducible refine Lim.bind ?_ (fun _ => ?_)
    | exact Lim.of (fun k => laws_toBolt.mono _ _ k)
    | exact Lim.of (fun k => (laws_toBoltS.mono_l k) _ _ _)
theorem laws_toBoltS.F_eq (l0 : List (S60)) : laws_toBoltS.F l0 = if 0 ≤ (l0.length : Int) then (if ((l0.length : Int) : Int).toNat ≤ 8796093022208 then (laws_toBoltS.L0 l0 (List.replicate ((l0.length : Int) : Int).toNat z65) 0) else (none)) else (none) := by
  refine Lim.eq (g := fun k => laws_toBoltS.f k l0) ?_
  unfold laws_toBoltS.f
  repeat' first
    | exact Lim.const _
    | with_reducible exact Lim.of (fun k => (laws_toBoltS.mono_l k) _ _ _)
    | with_reducible refine Lim.ite ?_ ?_
    | with_reducible refine Lim.bind ?_ (fun _ => ?_)
    | exact Lim.of (fun k => (laws_toBoltS.mono_l k) _ _ _)

noncomputable def impl_validBolt.J0 (x14 : Bool) (x141000 : Int) (x141001 : List Int) : Option (Bool) := lim (fun k => impl_validBolt.j0 k x14 x141000 x141001)
noncomputable def impl_validBolt.L0 (x16 : List Int) (x17 : Int) (x18 : Int) (x141000 : Int) (x141001 : List Int) : Option (Bool) := lim (fun k => impl_validBolt.l0 k x16 x17 x18 x141000 x141001)
noncomputable def impl_validBolt.F (a0_0 : Int) (l0_1 : List Int) : Option (Bool) := lim (fun k => impl_validBolt.f k a0_0 l0_1)
theorem impl_validBolt.J0_eq (x14 : Bool) (x141000 : Int) (x141001 : List Int) : impl_validBolt.J0 x14 x141000 x141001 = if x14 = true then (some false) else (impl_validBolt.L0 x141001 (x141001.length : Int) 0 x141000 x141001) := by
  refine Lim.step (f := fun k => if x14 = true then (some false) else (impl_validBolt.l0 k x141001 (x141001.length : Int) 0 x141000 x141001)) (fun k => (impl_validBolt.mono_l k).1 x14 x141000 x141001) (fun k => by simp only [impl_validBolt.j0]) ?_
  repeat' first
    | exact Lim.const _
    | with_reducible exact Lim.of (fun k => (impl_validBolt.mono_l k).2 _ _ _ _ _)
    | with_reducible refine Lim.ite ?_ ?_
    | with_reducible refine Lim.bind ?_ (fun _ => ?_)
    | exact Lim.of (fun k => (impl_validBolt.mono_l k).2 _ _ _ _ _)
theorem impl_validBolt.L0_eq (x16 : List Int) (x17 : Int) (x18 : Int) (x141000 : Int) (x141001 : List Int) : impl_validBolt.L0 x16 x17 x18 x141000 x141001 = if x18 < x17 then (if 0 ≤ x18 then (if x18 < (x16.length : Int) then ((impl_within.f (rd x16 x18) 1 (wrap64 (x141000 - 1))).bind fun t143 => (if t143 = true then (if x18 > 0 then (if 0 ≤ (wrap64 (x18 - 1)) then (if (wrap64 (x18 - 1)) < (x141001.length : Int) then (if (rd x16 x18) ≤ (rd x141001 (wrap64 (x18 - 1))) then (some false) else (impl_validBolt.L0 x16 x17 (wrap64 (x18 + 1)) x141000 x141001)) else (none)) else (none)) else (impl_validBolt.L0 x16 x17 (wrap64 (x18 + 1)) x141000 x141001)) else (some false))) else (none)) else (none)) else (some true) := by
  refine Lim.step (f := fun k => if x18 < x17 then (if 0 ≤ x18 then (if x18 < (x16.length : Int) then ((impl_within.f (rd x16 x18) 1 (wrap64 (x141000 - 1))).bind fun t143 => (if t143 = true then (if x18 > 0 then (if 0 ≤ (wrap64 (x18 - 1)) then (if (wrap64 (x18 - 1)) < (x141001.length : Int) then (if (rd x16 x18) ≤ (rd x141001 (wrap64 (x18 - 1))) then (some false) else (impl_validBolt.l0 k x16 x17 (wrap64 (x18 + 1)) x141000 x141001)) else (none)) else (none)) else (impl_validBolt.l0 k x16 x17 (wrap64 (x18 + 1)) x141000 x141001)) else (some false))) else (none)) else (none)) else (some true)) (fun k => (impl_validBolt.mono_l k).2 x16 x17 x18 x141000 x141001) (fun k => by simp only [impl_validBolt.l0]) ?_
  repeat' first
    | exact Lim.const _
    | with_reducible exact Lim.of (fun k => (impl_validBolt.mono_l k).2 _ _ _ _ _)
    | with_reducible refine Lim.ite ?_ ?_
    | with_reducible refine Lim.bind ?_ (fun _ => ?_)
    | exact Lim.of (fun k => (impl_validBolt.mono_l k).2 _ _ _ _ _)
theorem impl_validBolt.F_eq (a0_0 : Int) (l0_1 : List Int) : impl_validBolt.F a0_0 l0_1 = (impl_within.f a0_0 1 10000).bind fun t141 => (if t141 = true then (impl_validBolt.J0 (decide ((l0_1.length : Int) > 6)) a0_0 l0_1) else (impl_validBolt.J0 true a0_0 l0_1)) := by
  refine Lim.eq (g := fun k => impl_validBolt.f k a0_0 l0_1) ?_
  unfold impl_validBolt.f
  repeat' first
    | exact Lim.const _
    | with_reducible exact Lim.of (fun k => (impl_validBolt.mono_l k).1 _ _ _)
    | with_reducible refine Lim.ite ?_ ?_
    | with_reducible refine Lim.bind ?_ (fun _ => ?_)
    | exact Lim.of (fun k => (impl_validBolt.mono_l k).1 _ _ _)

noncomputable def impl_ValidBolts.L0 (x8 : List (S65)) (x9 : Int) (x10 : Int) : Option (Bool) := lim (fun k => impl_ValidBolts.l0 k x8 x9 x10)
noncomputable def impl_ValidBolts.F (l0 : List (S65)) : Option (Bool) := lim (fun k => impl_ValidBolts.f k l0)
theorem impl_ValidBolts.L0_eq (x8 : List (S65)) (x9 : Int) (x10 : Int) : impl_ValidBolts.L0 x8 x9 x10 = if x10 < x9 then (if 0 ≤ x10 then (if x10 < (x8.length : Int) then ((impl_validBolt.F ((rd_T65 x8 x10).f0) ((rd_T65 x8 x10).f1)).bind fun t147 => (if t147 = true then (impl_ValidBolts.L0 x8 x9 (wrap64 (x10 + 1))) else (some false))) else (none)) else (none)) else (some true) := by
  refine Lim.step (f := fun k => if x10 < x9 then (if 0 ≤ x10 then (if x10 < (x8.length : Int) then ((impl_validBolt.f k ((rd_T65 x8 x10).f0) ((rd_T65 x8 x10).f1)).bind fun t147 => (if t147 = true then (impl_ValidBolts.l0 k x8 x9 (wrap64 (x10 + 1))) else (some false))) else (none)) else (none)) else (some true)) (fun k => (impl_ValidBolts.mono_l k) x8 x9 x10) (fun k => by simp only [impl_ValidBolts.l0]) ?_
  repeat' first
    | exact Lim.const _
    | with_reducible exact Lim.of (fun k => (impl_ValidBolts.mono_l k) _ _ _)
    | with_reducible exact Lim.of (fun k => impl_validBolt.mono _ _ k)
    | with_reducible refine Lim.ite ?_ ?_
    | with_reducible refine Lim.bind ?_ (fun _ => ?_)
    | exact Lim.of (fun k => (impl_ValidBolts.mono_l k) _ _ _)
    | exact Lim.of (fun k => impl_validBolt.mono _ _ k)
theorem impl_ValidBolts.F_eq (l0 : List (S65)) : impl_ValidBolts.F l0 = if (l0.length : Int) > 4 then (some false) else (impl_ValidBolts.L0 l0 (l0.length : Int) 0) := by
  refine Lim.eq (g := fun k => impl_ValidBolts.f k l0) ?_
  unfold impl_ValidBolts.f
  repeat' first
    | exact Lim.const _
    | with_reducible exact Lim.of (fun k => (impl_ValidBolts.mono_l k) _ _ _)
    | with_reducible refine Lim.ite ?_ ?_
    | with_reducible refine Lim.bind ?_ (fun _ => ?_)
    | exact Lim.of (fun k => (impl_ValidBolts.mono_l k) _ _ _)

noncomputable def laws_eqInt64S.L0 (x0 : List Int) (x1 : List Int) (x5 : Int) : Option (Bool) := lim (fun k => laws_eqInt64S.l0 k x0 x1 x5)
noncomputable def laws_eqInt64S.F (l0 : List Int) (l1 : List Int) : Option (Bool) := lim (fun k => laws_eqInt64S.f k l0 l1)
theorem laws_eqInt64S.L0_eq (x0 : List Int) (x1 : List Int) (x5 : Int) : laws_eqInt64S.L0 x0 x1 x5 = if x5 < (x0.length : Int) then (if 0 ≤ x5 then (if x5 < (x1.length : Int) then (if (rd x0 x5) = (rd x1 x5) then (laws_eqInt64S.L0 x0 x1 (wrap64 (x5 + 1))) else (some false)) else (none)) else (none)) else (some true) := by
  refine Lim.step (f := fun k => if x5 < (x0.length : Int) then (if 0 ≤ x5 then (if x5 < (x1.length : Int) then (if (rd x0 x5) = (rd x1 x5) then (laws_eqInt64S.l0 k x0 x1 (wrap64 (x5 + 1))) else (some false)) else (none)) else (none)) else (some true)) (fun k => (laws_eqInt64S.mono_l k) x0 x1 x5) (fun k => by simp only [laws_eqInt64S.l0]) ?_
  repeat' first
    | exact Lim.const _
    | with_reducible exact Lim.of (fun k => (laws_eqInt64S.mono_l k) _ _ _)
    | with_reducible refine Lim.ite ?_ ?_
    | with_reducible refine Lim.bind ?_ (fun _ => ?_)
    | exact Lim.of (fun k => (laws_eqInt64S.mono_l k) _ _ _)
theorem laws_eqInt64S.F_eq (l0 : List Int) (l1 : List Int) : laws_eqInt64S.F l0 l1 = if (l0.length : Int) = (l1.length : Int) then (laws_eqInt64S.L0 l0 l1 0) else (some false) := by
  refine Lim.eq (g := fun k => laws_eqInt64S.f k l0 l1) ?_
  unfold laws_eqInt64S.f
  repeat' first
    | exact Lim.const _
    | with_reducible exact Lim.of (fun k => (laws_eqInt64S.mono_l k) _ _ _)
    | with_reducible refine Lim.ite ?_ ?_
    | with_reducible refine Lim.bind ?_ (fun _ => ?_)
    | exact Lim.of (fun k => (laws_eqInt64S.mono_l k) _ _ _)

noncomputable def laws_eqBolt.F (a0_0 : Int) (l0_1 : List Int) (a1_0 : Int) (l1_1 : List Int) : Option (Bool) := lim (fun k => laws_eqBolt.f k a0_0 l0_1 a1_0 l1_1)
theorem laws_eqBolt.F_eq (a0_0 : Int) (l0_1 : List Int) (a1_0 : Int) (l1_1 : List Int) : laws_eqBolt.F a0_0 l0_1 a1_0 l1_1 = if a0_0 = a1_0 then ((laws_eqInt64S.F l0_1 l1_1).bind fun t152 => (if t152 = true then (some true) else (some false))) else (some false) := by
  refine Lim.eq (g := fun k => laws_eqBolt.f k a0_0 l0_1 a1_0 l1_1) ?_
  unfold laws_eqBolt.f
  repeat' first
    | exact Lim.const _
    | with_reducible exact Lim.of (fun k => laws_eqInt64S.mono _ _ k)
    | with_reducible refine Lim.ite ?_ ?_
    | with_reducible refine Lim.bind ?_ (fun _ => ?_)
    | exact Lim.of (fun k => laws_eqInt64S.mono _ _ k)

noncomputable def laws_eqBoltS.L0 (x0 : List (S65)) (x1 : List (S65)) (x5 : Int) : Option (Bool) := lim (fun k => laws_eqBoltS.l0 k x0 x1 x5)
noncomputable def laws_eqBoltS.F (l0 : List (S65)) (l1 : List (S65)) : Option (Bool) := lim (fun k => laws_eqBoltS.f k l0 l1)
theorem laws_eqBoltS.L0_eq (x0 : List (S65)) (x1 : List (S65)) (x5 : Int) : laws_eqBoltS.L0 x0 x1 x5 = if x5 < (x0.length : Int) then (if 0 ≤ x5 then (if x5 < (x1.length : Int) then ((laws_eqBolt.F ((rd_T65 x0 x5).f0) ((rd_T65 x0 x5).f1) ((rd_T65 x1 x5).f0) ((rd_T65 x1 x5).f1)).bind fun t155 => (if t155 = true then (laws_eqBoltS.L0 x0 x1 (wrap64 (x5 + 1))) else (some false))) else (none)) else (none)) else (some true) := by
  refine Lim.step (f := fun k => if x5 < (x0.length : Int) then (if 0 ≤ x5 then (if x5 < (x1.length : Int) then ((laws_eqBolt.f k ((rd_T65 x0 x5).f0) ((rd_T65 x0 x5).f1) ((rd_T65 x1 x5).f0) ((rd_T65 x1 x5).f1)).bind fun t155 => (if t155 = true then (laws_eqBoltS.l0 k x0 x1 (wrap64 (x5 + 1))) else (some false))) else (none)) else (none)) else (some true)) (fun k => (laws_eqBoltS.mono_l k) x0 x1 x5) (fun k => by simp only [laws_eqBoltS.l0]) ?_
  repeat' first
    | exact Lim.const _
    | with_reducible exact Lim.of (fun k => laws_eqBolt.mono _ _ _ _ k)
    | with_reducible exact Lim.of (fun k => (laws_eqBoltS.mono_l k) _ _ _)
    | with_reducible refine Lim.ite ?_ ?_
    | with_reducible refine Lim.bind ?_ (fun _ => ?_)
    | exact Lim.of (fun k => laws_eqBolt.mono _ _ _ _ k)
    | exact Lim.of (fun k => (laws_eqBoltS.mono_l k) _ _ _)
theorem laws_eqBoltS.F_eq (l0 : List (S65)) (l1 : List (S65)) : laws_eqBoltS.F l0 l1 = if (l0.length : Int) = (l1.length : Int) then (laws_eqBoltS.L0 l0 l1 0) else (some false) := by
  refine Lim.eq (g := fun k => laws_eqBoltS.f k l0 l1) ?_
  unfold laws_eqBoltS.f
  repeat' first
    | exact Lim.const _
    | with_reducible exact Lim.of (fun k => (laws_eqBoltS.mono_l k) _ _ _)
    | with_reducible refine Lim.ite ?_ ?_
    | with_reducible refine Lim.bind ?_ (fun _ => ?_)
    | exact Lim.of (fun k => (laws_eqBoltS.mono_l k) _ _ _)

noncomputable def laws_FnExactValidBolts.F (l0 : List (S60)) : Option (Bool) := lim (fun k => laws_FnExactValidBolts.f k l0)
theorem laws_FnExactValidBolts.F_eq (l0 : List (S60)) : laws_FnExactValidBolts.F l0 = (laws_szBoltS.F l0 1048576).bind fun t156 => (if t156 < 0 then (some true) else ((laws_toBoltS.F l0).bind fun t157 => ((spec_ValidBolts.F t157).bind fun t160 => ((laws_toBoltS.F l0).bind fun t161 => ((impl_ValidBolts.F t161).bind fun t164 => (if (t164 != t160) = true then (some false) else ((laws_toBoltS.F l0).bind fun t165 => ((laws_eqBoltS.F t161 t165).bind fun t168 => (if t168 = true then (some true) else (some false)))))))))) := by
  refine Lim.eq (g := fun k => laws_FnExactValidBolts.f k l0) ?_
  unfold laws_FnExactValidBolts.f
  repeat' first
    | exact Lim.const _
    | with_reducible exact Lim.of (fun k => impl_ValidBolts.mono _ k)
    | with_reducible exact Lim.of (fun k => laws_eqBoltS.mono _ _ k)
    | with_reducible exact Lim.of (fun k => laws_szBoltS.mono _ _ k)
    | with_reducible exact Lim.of (fun k => laws_toBoltS.mono _ k)
    | with_reducible exact Lim.of (fun k => spec_ValidBolts.mono _ k)
    | with_reducible refine Lim.ite ?_ ?_
    | with_reducible refine Lim.bind ?_ (fun _ => ?_)
    | exact Lim.of (fun k => impl_ValidBolts.mono _ k)
    | exact Lim.of (fun k => laws_eqBoltS.mono _ _ k)
    | exact Lim.of (fun k => laws_szBoltS.mono _ _ k)
    | exact Lim.of (fun k => laws_toBoltS.mono _ k)
    | exact Lim.of (fun k => spec_ValidBolts.mono _ k)

end Go.Proofs.Ytobejjbnklcgpaa.PFnExactValidBolts
