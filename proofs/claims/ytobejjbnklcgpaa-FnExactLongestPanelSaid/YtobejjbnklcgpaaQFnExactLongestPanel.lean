/-
  Written by a program of this session (wip/tools/lims.py): the printed functions without their bound on rounds.
-/
import Derived.Test.YtobejjbnklcgpaaPFnExactLongestPanelx1
import Derived.Test.YtobejjbnklcgpaaPFnExactLongestPanelx2
import Derived.Test.YtobejjbnklcgpaaPFnExactLongestPanelx3
import Derived.Test.YtobejjbnklcgpaaPFnExactLongestPanelx4
import Derived.Test.YtobejjbnklcgpaaPFnExactLongestPanelx5
import Derived.Test.YtobejjbnklcgpaaKit
set_option linter.unusedVariables false
set_option linter.unusedSimpArgs false
namespace Go.Proofs.Ytobejjbnklcgpaa.PFnExactLongestPanel
open Go.RowKit Go.Proofs.Ytobejjbnklcgpaa.Kit Go.Proofs.YtobejjbnklcgpaaW.PrintWords Go.Proofs.YtobejjbnklcgpaaW.PrintLast Go.Proofs.YtobejjbnklcgpaaW.PrintMore

noncomputable def laws_szBoltS.L0 (x0 : List (S60)) (x1 : Int) (x5 : Int) : Option (Int) := lim (fun k => laws_szBoltS.l0 k x0 x1 x5)
noncomputable def laws_szBoltS.F (l0 : List (S60)) (a1 : Int) : Option (Int) := lim (fun k => laws_szBoltS.f k l0 a1)
theorem laws_szBoltS.L0_eq (x0 : List (S60)) (x1 : Int) (x5 : Int) : laws_szBoltS.L0 x0 x1 x5 = if x5 < (x0.length : Int) then (if 0 ≤ x5 then ((laws_szBolt.f ((rd_T60 x0 x5).f0) ((rd_T60 x0 x5).f1) x1).bind fun t104 => (if t104 < 0 then (some (-1)) else (laws_szBoltS.L0 x0 t104 (wrap64 (x5 + 1))))) else (none)) else (some x1) := by
  refine Lim.step (f := fun k => if x5 < (x0.length : Int) then (if 0 ≤ x5 then ((laws_szBolt.f ((rd_T60 x0 x5).f0) ((rd_T60 x0 x5).f1) x1).bind fun t104 => (if t104 < 0 then (some (-1)) else (laws_szBoltS.l0 k x0 t104 (wrap64 (x5 + 1))))) else (none)) else (some x1)) (fun k => (laws_szBoltS.mono_l k) x0 x1 x5) (fun k => by simp only [laws_szBoltS.l0]) ?_
  repeat' first
    | exact Lim.const _
    | with_reducible exact Lim.of (fun k => (laws_szBoltS.mono_l k) _ _ _)
    | with_reducible refine Lim.ite ?_ ?_
    | with_reducible refine Lim.bind ?_ (fun _ => ?_)
    | exact Lim.of (fun k => (laws_szBoltS.mono_l k) _ _ _)
theorem laws_szBoltS.F_eq (l0 : List (S60)) (a1 : Int) : laws_szBoltS.F l0 a1 = if (wrap64 (a1 - (l0.length : Int))) < 0 then (some (-1)) else (laws_szBoltS.L0 l0 (wrap64 (a1 - (l0.length : Int))) 0) := by
  refine Lim.eq (g := fun k => laws_szBoltS.f k l0 a1) ?_
  unfold laws_szBoltS.f
  repeat' first
    | exact Lim.const _
    | with_reducible exact Lim.of (fun k => (laws_szBoltS.mono_l k) _ _ _)
    | with_reducible refine Lim.ite ?_ ?_
    | with_reducible refine Lim.bind ?_ (fun _ => ?_)
    | exact Lim.of (fun k => (laws_szBoltS.mono_l k) _ _ _)

noncomputable def laws_toInt64S.L0 (x0 : List Int) (x3 : List Int) (x4 : Int) : Option (List Int) := lim (fun k => laws_toInt64S.l0 k x0 x3 x4)
noncomputable def laws_toInt64S.F (l0 : List Int) : Option (List Int) := lim (fun k => laws_toInt64S.f k l0)
theorem laws_toInt64S.L0_eq (x0 : List Int) (x3 : List Int) (x4 : Int) : laws_toInt64S.L0 x0 x3 x4 = if x4 < (x0.length : Int) then (if 0 ≤ x4 then (if x4 < (x3.length : Int) then (laws_toInt64S.L0 x0 (x3.set (x4 : Int).toNat (rd x0 x4)) (wrap64 (x4 + 1))) else (none)) else (none)) else (some x3) := by
  refine Lim.step (f := fun k => if x4 < (x0.length : Int) then (if 0 ≤ x4 then (if x4 < (x3.length : Int) then (laws_toInt64S.l0 k x0 (x3.set (x4 : Int).toNat (rd x0 x4)) (wrap64 (x4 + 1))) else (none)) else (none)) else (some x3)) (fun k => (laws_toInt64S.mono_l k) x0 x3 x4) (fun k => by simp only [laws_toInt64S.l0]) ?_
  repeat' first
    | exact Lim.const _
    | with_reducible exact Lim.of (fun k => (laws_toInt64S.mono_l k) _ _ _)
    | with_reducible refine Lim.ite ?_ ?_
    | with_reducible refine Lim.bind ?_ (fun _ => ?_)
    | exact Lim.of (fun k => (laws_toInt64S.mono_l k) _ _ _)
theorem laws_toInt64S.F_eq (l0 : List Int) : laws_toInt64S.F l0 = if 0 ≤ (l0.length : Int) then (if ((l0.length : Int) : Int).toNat ≤ 35184372088832 then (laws_toInt64S.L0 l0 (List.replicate ((l0.length : Int) : Int).toNat 0) 0) else (none)) else (none) := by
  refine Lim.eq (g := fun k => laws_toInt64S.f k l0) ?_
  unfold laws_toInt64S.f
  repeat' first
    | exact Lim.const _
    | with_reducible exact Lim.of (fun k => (laws_toInt64S.mono_l k) _ _ _)
    | with_reducible refine Lim.ite ?_ ?_
    | with_reducible refine Lim.bind ?_ (fun _ => ?_)
    | exact Lim.of (fun k => (laws_toInt64S.mono_l k) _ _ _)

noncomputable def laws_toBolt.F (a0_0 : Int) (l0_1 : List Int) : Option (Int × List Int) := lim (fun k => laws_toBolt.f k a0_0 l0_1)
theorem laws_toBolt.F_eq (a0_0 : Int) (l0_1 : List Int) : laws_toBolt.F a0_0 l0_1 = (laws_toInt64S.F l0_1).bind fun t113 => (some (a0_0, t113)) := by
  refine Lim.eq (g := fun k => laws_toBolt.f k a0_0 l0_1) ?_
  unfold laws_toBolt.f
  repeat' first
    | exact Lim.const _
    | with_reducible exact Lim.of (fun k => laws_toInt64S.mono _ k)
    | with_reducible refine Lim.ite ?_ ?_
    | with_reducible refine Lim.bind ?_ (fun _ => ?_)
    | exact Lim.of (fun k => laws_toInt64S.mono _ k)

noncomputable def laws_toBoltS.L0 (x0 : List (S60)) (x3 : List (S65)) (x4 : Int) : Option ((List (S65))) := lim (fun k => laws_toBoltS.l0 k x0 x3 x4)
noncomputable def laws_toBoltS.F (l0 : List (S60)) : Option ((List (S65))) := lim (fun k => laws_toBoltS.f k l0)
theorem laws_toBoltS.L0_eq (x0 : List (S60)) (x3 : List (S65)) (x4 : Int) : laws_toBoltS.L0 x0 x3 x4 = if x4 < (x0.length : Int) then (if 0 ≤ x4 then ((laws_toBolt.F ((rd_T60 x0 x4).f0) ((rd_T60 x0 x4).f1)).bind fun bt120 => (if x4 < (x3.length : Int) then (laws_toBoltS.L0 x0 (x3.set (x4 : Int).toNat (⟨bt120.1, bt120.2⟩ : S65)) (wrap64 (x4 + 1))) else (none))) else (none)) else (some x3) := by
  refine Lim.step (f := fun k => if x4 < (x0.length : Int) then (if 0 ≤ x4 then ((laws_toBolt.f k ((rd_T60 x0 x4).f0) ((rd_T60 x0 x4).f1)).bind fun bt120 => (if x4 < (x3.length : Int) then (laws_toBoltS.l0 k x0 (x3.set (x4 : Int).toNat (⟨bt120.1, bt120.2⟩ : S65)) (wrap64 (x4 + 1))) else (none))) else (none)) else (some x3)) (fun k => (laws_toBoltS.mono_l k) x0 x3 x4) (fun k => by simp only [laws_toBoltS.l0]) ?_
  repeat' first
    | exact Lim.const _
    | with_reducible exact Lim.of (fun k => laws_toBolt.mono _ _ k)
    | with_reducible exact Lim.of (fun k => (laws_toBoltS.mono_l k) _ _ _)
    | with_reducible refine Lim.ite ?_ ?_
    | with_reducible refine Lim.bind ?_ (fun _ => ?_)
    | exact Lim.of (fun k => laws_toBolt.mono _ _ k)
    | exact Lim.of (fun k => (laws_toBoltS.mono_l k) _ _ _)
theorem laws_toBoltS.F_eq (l0 : List (S60)) : laws_toBoltS.F l0 = if 0 ≤ (l0.length : Int) then (if ((l0.length : Int) : Int).toNat ≤ 8796093022208 then (laws_toBoltS.L0 l0 (List.replicate ((l0.length : Int) : Int).toNat z65) 0) else (none)) else (none) := by
  refine Lim.eq (g := fun k => laws_toBoltS.f k l0) ?_
  unfold laws_toBoltS.f
  repeat' first
    | exact Lim.const _
    | with_reducible exact Lim.of (fun k => (laws_toBoltS.mono_l k) _ _ _)
    | with_reducible refine Lim.ite ?_ ?_
    | with_reducible refine Lim.bind ?_ (fun _ => ?_)
    | exact Lim.of (fun k => (laws_toBoltS.mono_l k) _ _ _)

noncomputable def laws_eqInt64S.L0 (x0 : List Int) (x1 : List Int) (x5 : Int) : Option (Bool) := lim (fun k => laws_eqInt64S.l0 k x0 x1 x5)
noncomputable def laws_eqInt64S.F (l0 : List Int) (l1 : List Int) : Option (Bool) := lim (fun k => laws_eqInt64S.f k l0 l1)
theorem laws_eqInt64S.L0_eq (x0 : List Int) (x1 : List Int) (x5 : Int) : laws_eqInt64S.L0 x0 x1 x5 = if x5 < (x0.length : Int) then (if 0 ≤ x5 then (if x5 < (x1.length : Int) then (if (rd x0 x5) = (rd x1 x5) then (laws_eqInt64S.L0 x0 x1 (wrap64 (x5 + 1))) else (some false)) else (none)) else (none)) else (some true) := by
  refine Lim.step (f := fun k => if x5 < (x0.length : Int) then (if 0 ≤ x5 then (if x5 < (x1.length : Int) then (if (rd x0 x5) = (rd x1 x5) then (laws_eqInt64S.l0 k x0 x1 (wrap64 (x5 + 1))) else (some false)) else (none)) else (none)) else (some true)) (fun k => (laws_eqInt64S.mono_l k) x0 x1 x5) (fun k => by simp only [laws_eqInt64S.l0]) ?_
  repeat' first
    | exact Lim.const _
    | with_reducible exact Lim.of (fun k => (laws_eqInt64S.mono_l k) _ _ _)
    | with_reducible refine Lim.ite ?_ ?_
    | with_reducible refine Lim.bind ?_ (fun _ => ?_)
    | exact Lim.of (fun k => (laws_eqInt64S.mono_l k) _ _ _)
theorem laws_eqInt64S.F_eq (l0 : List Int) (l1 : List Int) : laws_eqInt64S.F l0 l1 = if (l0.length : Int) = (l1.length : Int) then (laws_eqInt64S.L0 l0 l1 0) else (some false) := by
  refine Lim.eq (g := fun k => laws_eqInt64S.f k l0 l1) ?_
  unfold laws_eqInt64S.f
  repeat' first
    | exact Lim.const _
    | with_reducible exact Lim.of (fun k => (laws_eqInt64S.mono_l k) _ _ _)
    | with_reducible refine Lim.ite ?_ ?_
    | with_reducible refine Lim.bind ?_ (fun _ => ?_)
    | exact Lim.of (fun k => (laws_eqInt64S.mono_l k) _ _ _)

noncomputable def laws_eqBolt.F (a0_0 : Int) (l0_1 : List Int) (a1_0 : Int) (l1_1 : List Int) : Option (Bool) := lim (fun k => laws_eqBolt.f k a0_0 l0_1 a1_0 l1_1)
theorem laws_eqBolt.F_eq (a0_0 : Int) (l0_1 : List Int) (a1_0 : Int) (l1_1 : List Int) : laws_eqBolt.F a0_0 l0_1 a1_0 l1_1 = if a0_0 = a1_0 then ((laws_eqInt64S.F l0_1 l1_1).bind fun t129 => (if t129 = true then (some true) else (some false))) else (some false) := by
  refine Lim.eq (g := fun k => laws_eqBolt.f k a0_0 l0_1 a1_0 l1_1) ?_
  unfold laws_eqBolt.f
  repeat' first
    | exact Lim.const _
    | with_reducible exact Lim.of (fun k => laws_eqInt64S.mono _ _ k)
    | with_reducible refine Lim.ite ?_ ?_
    | with_reducible refine Lim.bind ?_ (fun _ => ?_)
    | exact Lim.of (fun k => laws_eqInt64S.mono _ _ k)

noncomputable def laws_eqBoltS.L0 (x0 : List (S65)) (x1 : List (S65)) (x5 : Int) : Option (Bool) := lim (fun k => laws_eqBoltS.l0 k x0 x1 x5)
noncomputable def laws_eqBoltS.F (l0 : List (S65)) (l1 : List (S65)) : Option (Bool) := lim (fun k => laws_eqBoltS.f k l0 l1)
theorem laws_eqBoltS.L0_eq (x0 : List (S65)) (x1 : List (S65)) (x5 : Int) : laws_eqBoltS.L0 x0 x1 x5 = if x5 < (x0.length : Int) then (if 0 ≤ x5 then (if x5 < (x1.length : Int) then ((laws_eqBolt.F ((rd_T65 x0 x5).f0) ((rd_T65 x0 x5).f1) ((rd_T65 x1 x5).f0) ((rd_T65 x1 x5).f1)).bind fun t132 => (if t132 = true then (laws_eqBoltS.L0 x0 x1 (wrap64 (x5 + 1))) else (some false))) else (none)) else (none)) else (some true) := by
  refine Lim.step (f := fun k => if x5 < (x0.length : Int) then (if 0 ≤ x5 then (if x5 < (x1.length : Int) then ((laws_eqBolt.f k ((rd_T65 x0 x5).f0) ((rd_T65 x0 x5).f1) ((rd_T65 x1 x5).f0) ((rd_T65 x1 x5).f1)).bind fun t132 => (if t132 = true then (laws_eqBoltS.l0 k x0 x1 (wrap64 (x5 + 1))) else (some false))) else (none)) else (none)) else (some true)) (fun k => (laws_eqBoltS.mono_l k) x0 x1 x5) (fun k => by simp only [laws_eqBoltS.l0]) ?_
  repeat' first
    | exact Lim.const _
    | with_reducible exact Lim.of (fun k => laws_eqBolt.mono _ _ _ _ k)
    | with_reducible exact Lim.of (fun k => (laws_eqBoltS.mono_l k) _ _ _)
    | with_reducible refine Lim.ite ?_ ?_
    | with_reducible refine Lim.bind ?_ (fun _ => ?_)
    | exact Lim.of (fun k => laws_eqBolt.mono _ _ _ _ k)
    | exact Lim.of (fun k => (laws_eqBoltS.mono_l k) _ _ _)
theorem laws_eqBoltS.F_eq (l0 : List (S65)) (l1 : List (S65)) : laws_eqBoltS.F l0 l1 = if (l0.length : Int) = (l1.length : Int) then (laws_eqBoltS.L0 l0 l1 0) else (some false) := by
  refine Lim.eq (g := fun k => laws_eqBoltS.f k l0 l1) ?_
  unfold laws_eqBoltS.f
  repeat' first
    | exact Lim.const _
    | with_reducible exact Lim.of (fun k => (laws_eqBoltS.mono_l k) _ _ _)
    | with_reducible refine Lim.ite ?_ ?_
    | with_reducible refine Lim.bind ?_ (fun _ => ?_)
    | exact Lim.of (fun k => (laws_eqBoltS.mono_l k) _ _ _)

noncomputable def spec_l00Rises.L0 (x0 : List Int) (x1 : Int) (x2 : Int) (x7 : Int) : Option (Bool) := lim (fun k => spec_l00Rises.l0 k x0 x1 x2 x7)
noncomputable def spec_l00Rises.F (l0 : List Int) (a1 : Int) (a2 : Int) : Option (Bool) := lim (fun k => spec_l00Rises.f k l0 a1 a2)
theorem spec_l00Rises.L0_eq (x0 : List Int) (x1 : Int) (x2 : Int) (x7 : Int) : spec_l00Rises.L0 x0 x1 x2 x7 = if x7 < (x0.length : Int) then (if 0 ≤ x7 then ((spec_l00In.f (rd x0 x7) x1 x2).bind fun t134 => (if t134 = true then (if x7 > 0 then (if 0 ≤ (wrap64 (x7 - 1)) then (if (wrap64 (x7 - 1)) < (x0.length : Int) then (if (rd x0 (wrap64 (x7 - 1))) ≥ (rd x0 x7) then (some false) else (spec_l00Rises.L0 x0 x1 x2 (wrap64 (x7 + 1)))) else (none)) else (none)) else (spec_l00Rises.L0 x0 x1 x2 (wrap64 (x7 + 1)))) else (some false))) else (none)) else (some true) := by
  refine Lim.step (f := fun k => if x7 < (x0.length : Int) then (if 0 ≤ x7 then ((spec_l00In.f (rd x0 x7) x1 x2).bind fun t134 => (if t134 = true then (if x7 > 0 then (if 0 ≤ (wrap64 (x7 - 1)) then (if (wrap64 (x7 - 1)) < (x0.length : Int) then (if (rd x0 (wrap64 (x7 - 1))) ≥ (rd x0 x7) then (some false) else (spec_l00Rises.l0 k x0 x1 x2 (wrap64 (x7 + 1)))) else (none)) else (none)) else (spec_l00Rises.l0 k x0 x1 x2 (wrap64 (x7 + 1)))) else (some false))) else (none)) else (some true)) (fun k => (spec_l00Rises.mono_l k) x0 x1 x2 x7) (fun k => by simp only [spec_l00Rises.l0]) ?_
  repeat' first
    | exact Lim.const _
    | with_reducible exact Lim.of (fun k => (spec_l00Rises.mono_l k) _ _ _ _)
    | with_reducible refine Lim.ite ?_ ?_
    | with_reducible refine Lim.bind ?_ (fun _ => ?_)
    | exact Lim.of (fun k => (spec_l00Rises.mono_l k) _ _ _ _)
theorem spec_l00Rises.F_eq (l0 : List Int) (a1 : Int) (a2 : Int) : spec_l00Rises.F l0 a1 a2 = spec_l00Rises.L0 l0 a1 a2 0 := by
  refine Lim.eq (g := fun k => spec_l00Rises.f k l0 a1 a2) ?_
  unfold spec_l00Rises.f
  repeat' first
    | exact Lim.const _
    | with_reducible exact Lim.of (fun k => (spec_l00Rises.mono_l k) _ _ _ _)
    | with_reducible refine Lim.ite ?_ ?_
    | with_reducible refine Lim.bind ?_ (fun _ => ?_)
    | exact Lim.of (fun k => (spec_l00Rises.mono_l k) _ _ _ _)

noncomputable def spec_l16One.F (l0 : List (S65)) : Option (Bool) := lim (fun k => spec_l16One.f k l0)
theorem spec_l16One.F_eq (l0 : List (S65)) : spec_l16One.F l0 = if 0 < (l0.length : Int) then ((spec_l00In.f ((rd_T65 l0 0).f0) 1 10000).bind fun t139 => (if t139 = true then (if (((rd_T65 l0 0).f1).length : Int) ≤ 6 then ((spec_l00Rises.F ((rd_T65 l0 0).f1) 1 (wrap64 (((rd_T65 l0 0).f0) - 1))).bind fun t143 => (some t143)) else (some false)) else (some false))) else (none) := by
  refine Lim.eq (g := fun k => spec_l16One.f k l0) ?_
  unfold spec_l16One.f
  repeat' first
    | exact Lim.const _
    | with_reducible exact Lim.of (fun k => spec_l00Rises.mono _ _ _ k)
    | with_reducible refine Lim.ite ?_ ?_
    | with_reducible refine Lim.bind ?_ (fun _ => ?_)
    | exact Lim.of (fun k => spec_l00Rises.mono _ _ _ k)

noncomputable def spec_l16Ok.L0 (x0 : List (S65)) (x3 : Int) : Option (Bool) := lim (fun k => spec_l16Ok.l0 k x0 x3)
noncomputable def spec_l16Ok.F (l0 : List (S65)) : Option (Bool) := lim (fun k => spec_l16Ok.f k l0)
theorem spec_l16Ok.L0_eq (x0 : List (S65)) (x3 : Int) : spec_l16Ok.L0 x0 x3 = if x3 < (x0.length : Int) then (if 0 ≤ x3 then ((spec_l16One.F [rd_T65 x0 x3]).bind fun t146 => (if t146 = true then (spec_l16Ok.L0 x0 (wrap64 (x3 + 1))) else (some false))) else (none)) else (some (decide ((x0.length : Int) ≤ 4))) := by
  refine Lim.step (f := fun k => if x3 < (x0.length : Int) then (if 0 ≤ x3 then ((spec_l16One.f k [rd_T65 x0 x3]).bind fun t146 => (if t146 = true then (spec_l16Ok.l0 k x0 (wrap64 (x3 + 1))) else (some false))) else (none)) else (some (decide ((x0.length : Int) ≤ 4)))) (fun k => (spec_l16Ok.mono_l k) x0 x3) (fun k => by simp only [spec_l16Ok.l0]) ?_
  repeat' first
    | exact Lim.const _
    | with_reducible exact Lim.of (fun k => (spec_l16Ok.mono_l k) _ _)
    | with_reducible exact Lim.of (fun k => spec_l16One.mono _ k)
    | with_reducible refine Lim.ite ?_ ?_
    | with_reducible refine Lim.bind ?_ (fun _ => ?_)
    | exact Lim.of (fun k => (spec_l16Ok.mono_l k) _ _)
    | exact Lim.of (fun k => spec_l16One.mono _ k)
theorem spec_l16Ok.F_eq (l0 : List (S65)) : spec_l16Ok.F l0 = spec_l16Ok.L0 l0 0 := by
  refine Lim.eq (g := fun k => spec_l16Ok.f k l0) ?_
  unfold spec_l16Ok.f
  repeat' first
    | exact Lim.const _
    | with_reducible exact Lim.of (fun k => (spec_l16Ok.mono_l k) _ _)
    | with_reducible refine Lim.ite ?_ ?_
    | with_reducible refine Lim.bind ?_ (fun _ => ?_)
    | exact Lim.of (fun k => (spec_l16Ok.mono_l k) _ _)

noncomputable def spec_l16Parts.L0 (x0 : List (S65)) (x3 : List (List Int)) (x4 : Int) (x5 : Int) : Option ((List (List Int))) := lim (fun k => spec_l16Parts.l0 k x0 x3 x4 x5)
noncomputable def spec_l16Parts.F (l0 : List (S65)) : Option ((List (List Int))) := lim (fun k => spec_l16Parts.f k l0)
theorem spec_l16Parts.L0_eq (x0 : List (S65)) (x3 : List (List Int)) (x4 : Int) (x5 : Int) : spec_l16Parts.L0 x0 x3 x4 x5 = if x5 < (((rd_T65 x0 0).f1).length : Int) then (if 0 ≤ x5 then (if x3.length < 5864062014805 then (spec_l16Parts.L0 x0 (x3 ++ [(([x4, rd ((rd_T65 x0 0).f1) x5] : List Int))]) (rd ((rd_T65 x0 0).f1) x5) (wrap64 (x5 + 1))) else (none)) else (none)) else (if x3.length < 5864062014805 then (some (x3 ++ [(([x4, (rd_T65 x0 0).f0] : List Int))])) else (none)) := by
  refine Lim.step (f := fun k => if x5 < (((rd_T65 x0 0).f1).length : Int) then (if 0 ≤ x5 then (if x3.length < 5864062014805 then (spec_l16Parts.l0 k x0 (x3 ++ [(([x4, rd ((rd_T65 x0 0).f1) x5] : List Int))]) (rd ((rd_T65 x0 0).f1) x5) (wrap64 (x5 + 1))) else (none)) else (none)) else (if x3.length < 5864062014805 then (some (x3 ++ [(([x4, (rd_T65 x0 0).f0] : List Int))])) else (none))) (fun k => (spec_l16Parts.mono_l k) x0 x3 x4 x5) (fun k => by simp only [spec_l16Parts.l0]) ?_
  repeat' first
    | exact Lim.const _
    | with_reducible exact Lim.of (fun k => (spec_l16Parts.mono_l k) _ _ _ _)
    | with_reducible refine Lim.ite ?_ ?_
    | with_reducible refine Lim.bind ?_ (fun _ => ?_)
    | exact Lim.of (fun k => (spec_l16Parts.mono_l k) _ _ _ _)
theorem spec_l16Parts.F_eq (l0 : List (S65)) : spec_l16Parts.F l0 = if 0 < (l0.length : Int) then (spec_l16Parts.L0 l0 (([] : List (List Int))) 0 0) else (none) := by
  refine Lim.eq (g := fun k => spec_l16Parts.f k l0) ?_
  unfold spec_l16Parts.f
  repeat' first
    | exact Lim.const _
    | with_reducible exact Lim.of (fun k => (spec_l16Parts.mono_l k) _ _ _ _)
    | with_reducible refine Lim.ite ?_ ?_
    | with_reducible refine Lim.bind ?_ (fun _ => ?_)
    | exact Lim.of (fun k => (spec_l16Parts.mono_l k) _ _ _ _)

noncomputable def spec_l16All.L0 (x0 : List (S65)) (x3 : List (S138)) (x4 : Int) : Option ((List (S138))) := lim (fun k => spec_l16All.l0 k x0 x3 x4)
noncomputable def spec_l16All.L1 (x0 : List (S65)) (x3 : List (S138)) (x4 : Int) (x5 : List (List Int)) (x6 : Int) : Option ((List (S138))) := lim (fun k => spec_l16All.l1 k x0 x3 x4 x5 x6)
noncomputable def spec_l16All.F (l0 : List (S65)) : Option ((List (S138))) := lim (fun k => spec_l16All.f k l0)
theorem spec_l16All.L0_eq (x0 : List (S65)) (x3 : List (S138)) (x4 : Int) : spec_l16All.L0 x0 x3 x4 = if x4 < (x0.length : Int) then (if 0 ≤ x4 then ((spec_l16Parts.F [rd_T65 x0 x4]).bind fun t174 => (spec_l16All.L1 x0 x3 x4 t174 0)) else (none)) else (some x3) := by
  refine Lim.step (f := fun k => if x4 < (x0.length : Int) then (if 0 ≤ x4 then ((spec_l16Parts.f k [rd_T65 x0 x4]).bind fun t174 => (spec_l16All.l1 k x0 x3 x4 t174 0)) else (none)) else (some x3)) (fun k => (spec_l16All.mono_l k).1 x0 x3 x4) (fun k => by simp only [spec_l16All.l0]) ?_
  repeat' first
    | exact Lim.const _
    | with_reducible exact Lim.of (fun k => (spec_l16All.mono_l k).2 _ _ _ _ _)
    | with_reducible exact Lim.of (fun k => spec_l16Parts.mono _ k)
    | with_reducible refine Lim.ite ?_ ?_
    | with_reducible refine Lim.bind ?_ (fun _ => ?_)
    | exact Lim.of (fun k => (spec_l16All.mono_l k).2 _ _ _ _ _)
    | exact Lim.of (fun k => spec_l16Parts.mono _ k)
theorem spec_l16All.L1_eq (x0 : List (S65)) (x3 : List (S138)) (x4 : Int) (x5 : List (List Int)) (x6 : Int) : spec_l16All.L1 x0 x3 x4 x5 x6 = if x6 < (x5.length : Int) then (if 0 ≤ x6 then (if 0 < ((rd_L1 x5 x6).length : Int) then (if 1 < ((rd_L1 x5 x6).length : Int) then (if x3.length < 5864062014805 then (spec_l16All.L1 x0 (x3 ++ [(⟨x4, rd (rd_L1 x5 x6) 0, rd (rd_L1 x5 x6) 1⟩ : S138)]) x4 x5 (wrap64 (x6 + 1))) else (none)) else (none)) else (none)) else (none)) else (spec_l16All.L0 x0 x3 (wrap64 (x4 + 1))) := by
  refine Lim.step (f := fun k => if x6 < (x5.length : Int) then (if 0 ≤ x6 then (if 0 < ((rd_L1 x5 x6).length : Int) then (if 1 < ((rd_L1 x5 x6).length : Int) then (if x3.length < 5864062014805 then (spec_l16All.l1 k x0 (x3 ++ [(⟨x4, rd (rd_L1 x5 x6) 0, rd (rd_L1 x5 x6) 1⟩ : S138)]) x4 x5 (wrap64 (x6 + 1))) else (none)) else (none)) else (none)) else (none)) else (spec_l16All.l0 k x0 x3 (wrap64 (x4 + 1)))) (fun k => (spec_l16All.mono_l k).2 x0 x3 x4 x5 x6) (fun k => by simp only [spec_l16All.l1]) ?_
  repeat' first
    | exact Lim.const _
    | with_reducible exact Lim.of (fun k => (spec_l16All.mono_l k).1 _ _ _)
    | with_reducible exact Lim.of (fun k => (spec_l16All.mono_l k).2 _ _ _ _ _)
    | with_reducible refine Lim.ite ?_ ?_
    | with_reducible refine Lim.bind ?_ (fun _ => ?_)
    | exact Lim.of (fun k => (spec_l16All.mono_l k).1 _ _ _)
    | exact Lim.of (fun k => (spec_l16All.mono_l k).2 _ _ _ _ _)
theorem spec_l16All.F_eq (l0 : List (S65)) : spec_l16All.F l0 = spec_l16All.L0 l0 (([] : List (S138))) 0 := by
  refine Lim.eq (g := fun k => spec_l16All.f k l0) ?_
  unfold spec_l16All.f
  repeat' first
    | exact Lim.const _
    | with_reducible exact Lim.of (fun k => (spec_l16All.mono_l k).1 _ _ _)
    | with_reducible refine Lim.ite ?_ ?_
    | with_reducible refine Lim.bind ?_ (fun _ => ?_)
    | exact Lim.of (fun k => (spec_l16All.mono_l k).1 _ _ _)

noncomputable def spec_LongestPanel.L0 (x4 : Int) (x5 : List (S138)) (x6 : Int) : Option (Int × Int) := lim (fun k => spec_LongestPanel.l0 k x4 x5 x6)
noncomputable def spec_LongestPanel.F (l0 : List (S65)) : Option (Int × Int) := lim (fun k => spec_LongestPanel.f k l0)
theorem spec_LongestPanel.L0_eq (x4 : Int) (x5 : List (S138)) (x6 : Int) : spec_LongestPanel.L0 x4 x5 x6 = if x6 < (x5.length : Int) then (if 0 ≤ x6 then ((spec_l00Max.f x4 (wrap64 (((rd_T138 x5 x6).f2) - ((rd_T138 x5 x6).f1)))).bind fun t190 => (spec_LongestPanel.L0 t190 x5 (wrap64 (x6 + 1)))) else (none)) else (some (x4, 0)) := by
  refine Lim.step (f := fun k => if x6 < (x5.length : Int) then (if 0 ≤ x6 then ((spec_l00Max.f x4 (wrap64 (((rd_T138 x5 x6).f2) - ((rd_T138 x5 x6).f1)))).bind fun t190 => (spec_LongestPanel.l0 k t190 x5 (wrap64 (x6 + 1)))) else (none)) else (some (x4, 0))) (fun k => (spec_LongestPanel.mono_l k) x4 x5 x6) (fun k => by simp only [spec_LongestPanel.l0]) ?_
  repeat' first
    | exact Lim.const _
    | with_reducible exact Lim.of (fun k => (spec_LongestPanel.mono_l k) _ _ _)
    | with_reducible refine Lim.ite ?_ ?_
    | with_reducible refine Lim.bind ?_ (fun _ => ?_)
    | exact Lim.of (fun k => (spec_LongestPanel.mono_l k) _ _ _)
theorem spec_LongestPanel.F_eq (l0 : List (S65)) : spec_LongestPanel.F l0 = (spec_l16Ok.F l0).bind fun t184 => (if t184 = true then (if (l0.length : Int) = 0 then (some (0, 3)) else ((spec_l16All.F l0).bind fun t185 => (spec_LongestPanel.L0 0 t185 0))) else (some (0, 1))) := by
  refine Lim.eq (g := fun k => spec_LongestPanel.f k l0) ?_
  unfold spec_LongestPanel.f
  repeat' first
    | exact Lim.const _
    | with_reducible exact Lim.of (fun k => (spec_LongestPanel.mono_l k) _ _ _)
    | with_reducible exact Lim.of (fun k => spec_l16All.mono _ k)
    | with_reducible exact Lim.of (fun k => spec_l16Ok.mono _ k)
    | with_reducible refine Lim.ite ?_ ?_
    | with_reducible refine Lim.bind ?_ (fun _ => ?_)
    | exact Lim.of (fun k => (spec_LongestPanel.mono_l k) _ _ _)
    | exact Lim.of (fun k => spec_l16All.mono _ k)
    | exact Lim.of (fun k => spec_l16Ok.mono _ k)

noncomputable def impl_validBolt.J0 (x14 : Bool) (x192000 : Int) (x192001 : List Int) : Option (Bool) := lim (fun k => impl_validBolt.j0 k x14 x192000 x192001)
noncomputable def impl_validBolt.L0 (x16 : List Int) (x17 : Int) (x18 : Int) (x192000 : Int) (x192001 : List Int) : Option (Bool) := lim (fun k => impl_validBolt.l0 k x16 x17 x18 x192000 x192001)
noncomputable def impl_validBolt.F (a0_0 : Int) (l0_1 : List Int) : Option (Bool) := lim (fun k => impl_validBolt.f k a0_0 l0_1)
theorem impl_validBolt.J0_eq (x14 : Bool) (x192000 : Int) (x192001 : List Int) : impl_validBolt.J0 x14 x192000 x192001 = if x14 = true then (some false) else (impl_validBolt.L0 x192001 (x192001.length : Int) 0 x192000 x192001) := by
  refine Lim.step (f := fun k => if x14 = true then (some false) else (impl_validBolt.l0 k x192001 (x192001.length : Int) 0 x192000 x192001)) (fun k => (impl_validBolt.mono_l k).1 x14 x192000 x192001) (fun k => by simp only [impl_validBolt.j0]) ?_
  repeat' first
    | exact Lim.const _
    | with_reducible exact Lim.of (fun k => (impl_validBolt.mono_l k).2 _ _ _ _ _)
    | with_reducible refine Lim.ite ?_ ?_
    | with_reducible refine Lim.bind ?_ (fun _ => ?_)
    | exact Lim.of (fun k => (impl_validBolt.mono_l k).2 _ _ _ _ _)
theorem impl_validBolt.L0_eq (x16 : List Int) (x17 : Int) (x18 : Int) (x192000 : Int) (x192001 : List Int) : impl_validBolt.L0 x16 x17 x18 x192000 x192001 = if x18 < x17 then (if 0 ≤ x18 then (if x18 < (x16.length : Int) then ((impl_within.f (rd x16 x18) 1 (wrap64 (x192000 - 1))).bind fun t194 => (if t194 = true then (if x18 > 0 then (if 0 ≤ (wrap64 (x18 - 1)) then (if (wrap64 (x18 - 1)) < (x192001.length : Int) then (if (rd x16 x18) ≤ (rd x192001 (wrap64 (x18 - 1))) then (some false) else (impl_validBolt.L0 x16 x17 (wrap64 (x18 + 1)) x192000 x192001)) else (none)) else (none)) else (impl_validBolt.L0 x16 x17 (wrap64 (x18 + 1)) x192000 x192001)) else (some false))) else (none)) else (none)) else (some true) := by
  refine Lim.step (f := fun k => if x18 < x17 then (if 0 ≤ x18 then (if x18 < (x16.length : Int) then ((impl_within.f (rd x16 x18) 1 (wrap64 (x192000 - 1))).bind fun t194 => (if t194 = true then (if x18 > 0 then (if 0 ≤ (wrap64 (x18 - 1)) then (if (wrap64 (x18 - 1)) < (x192001.length : Int) then (if (rd x16 x18) ≤ (rd x192001 (wrap64 (x18 - 1))) then (some false) else (impl_validBolt.l0 k x16 x17 (wrap64 (x18 + 1)) x192000 x192001)) else (none)) else (none)) else (impl_validBolt.l0 k x16 x17 (wrap64 (x18 + 1)) x192000 x192001)) else (some false))) else (none)) else (none)) else (some true)) (fun k => (impl_validBolt.mono_l k).2 x16 x17 x18 x192000 x192001) (fun k => by simp only [impl_validBolt.l0]) ?_
  repeat' first
    | exact Lim.const _
    | with_reducible exact Lim.of (fun k => (impl_validBolt.mono_l k).2 _ _ _ _ _)
    | with_reducible refine Lim.ite ?_ ?_
    | with_reducible refine Lim.bind ?_ (fun _ => ?_)
    | exact Lim.of (fun k => (impl_validBolt.mono_l k).2 _ _ _ _ _)
theorem impl_validBolt.F_eq (a0_0 : Int) (l0_1 : List Int) : impl_validBolt.F a0_0 l0_1 = (impl_within.f a0_0 1 10000).bind fun t192 => (if t192 = true then (impl_validBolt.J0 (decide ((l0_1.length : Int) > 6)) a0_0 l0_1) else (impl_validBolt.J0 true a0_0 l0_1)) := by
  refine Lim.eq (g := fun k => impl_validBolt.f k a0_0 l0_1) ?_
  unfold impl_validBolt.f
  repeat' first
    | exact Lim.const _
    | with_reducible exact Lim.of (fun k => (impl_validBolt.mono_l k).1 _ _ _)
    | with_reducible refine Lim.ite ?_ ?_
    | with_reducible refine Lim.bind ?_ (fun _ => ?_)
    | exact Lim.of (fun k => (impl_validBolt.mono_l k).1 _ _ _)

noncomputable def impl_ValidBolts.L0 (x8 : List (S65)) (x9 : Int) (x10 : Int) : Option (Bool) := lim (fun k => impl_ValidBolts.l0 k x8 x9 x10)
noncomputable def impl_ValidBolts.F (l0 : List (S65)) : Option (Bool) := lim (fun k => impl_ValidBolts.f k l0)
theorem impl_ValidBolts.L0_eq (x8 : List (S65)) (x9 : Int) (x10 : Int) : impl_ValidBolts.L0 x8 x9 x10 = if x10 < x9 then (if 0 ≤ x10 then (if x10 < (x8.length : Int) then ((impl_validBolt.F ((rd_T65 x8 x10).f0) ((rd_T65 x8 x10).f1)).bind fun t198 => (if t198 = true then (impl_ValidBolts.L0 x8 x9 (wrap64 (x10 + 1))) else (some false))) else (none)) else (none)) else (some true) := by
  refine Lim.step (f := fun k => if x10 < x9 then (if 0 ≤ x10 then (if x10 < (x8.length : Int) then ((impl_validBolt.f k ((rd_T65 x8 x10).f0) ((rd_T65 x8 x10).f1)).bind fun t198 => (if t198 = true then (impl_ValidBolts.l0 k x8 x9 (wrap64 (x10 + 1))) else (some false))) else (none)) else (none)) else (some true)) (fun k => (impl_ValidBolts.mono_l k) x8 x9 x10) (fun k => by simp only [impl_ValidBolts.l0]) ?_
  repeat' first
    | exact Lim.const _
    | with_reducible exact Lim.of (fun k => (impl_ValidBolts.mono_l k) _ _ _)
    | with_reducible exact Lim.of (fun k => impl_validBolt.mono _ _ k)
    | with_reducible refine Lim.ite ?_ ?_
    | with_reducible refine Lim.bind ?_ (fun _ => ?_)
    | exact Lim.of (fun k => (impl_ValidBolts.mono_l k) _ _ _)
    | exact Lim.of (fun k => impl_validBolt.mono _ _ k)
theorem impl_ValidBolts.F_eq (l0 : List (S65)) : impl_ValidBolts.F l0 = if (l0.length : Int) > 4 then (some false) else (impl_ValidBolts.L0 l0 (l0.length : Int) 0) := by
  refine Lim.eq (g := fun k => impl_ValidBolts.f k l0) ?_
  unfold impl_ValidBolts.f
  repeat' first
    | exact Lim.const _
    | with_reducible exact Lim.of (fun k => (impl_ValidBolts.mono_l k) _ _ _)
    | with_reducible refine Lim.ite ?_ ?_
    | with_reducible refine Lim.bind ?_ (fun _ => ?_)
    | exact Lim.of (fun k => (impl_ValidBolts.mono_l k) _ _ _)

noncomputable def impl_soundParts.L0 (x3 : List (List Int)) (x4 : Int) (x9 : List Int) (x10 : Int) (x11 : Int) (x200000 : Int) (x200001 : List Int) : Option ((List (List Int))) := lim (fun k => impl_soundParts.l0 k x3 x4 x9 x10 x11 x200000 x200001)
noncomputable def impl_soundParts.F (a0_0 : Int) (l0_1 : List Int) : Option ((List (List Int))) := lim (fun k => impl_soundParts.f k a0_0 l0_1)
theorem impl_soundParts.L0_eq (x3 : List (List Int)) (x4 : Int) (x9 : List Int) (x10 : Int) (x11 : Int) (x200000 : Int) (x200001 : List Int) : impl_soundParts.L0 x3 x4 x9 x10 x11 x200000 x200001 = if x11 < x10 then (if 0 ≤ x11 then (if x11 < (x9.length : Int) then (if x3.length < 5864062014805 then (impl_soundParts.L0 (x3 ++ [(([x4, rd x9 x11] : List Int))]) (rd x9 x11) x9 x10 (wrap64 (x11 + 1)) x200000 x200001) else (none)) else (none)) else (none)) else (if x3.length < 5864062014805 then (some (x3 ++ [(([x4, x200000] : List Int))])) else (none)) := by
  refine Lim.step (f := fun k => if x11 < x10 then (if 0 ≤ x11 then (if x11 < (x9.length : Int) then (if x3.length < 5864062014805 then (impl_soundParts.l0 k (x3 ++ [(([x4, rd x9 x11] : List Int))]) (rd x9 x11) x9 x10 (wrap64 (x11 + 1)) x200000 x200001) else (none)) else (none)) else (none)) else (if x3.length < 5864062014805 then (some (x3 ++ [(([x4, x200000] : List Int))])) else (none))) (fun k => (impl_soundParts.mono_l k) x3 x4 x9 x10 x11 x200000 x200001) (fun k => by simp only [impl_soundParts.l0]) ?_
  repeat' first
    | exact Lim.const _
    | with_reducible exact Lim.of (fun k => (impl_soundParts.mono_l k) _ _ _ _ _ _ _)
    | with_reducible refine Lim.ite ?_ ?_
    | with_reducible refine Lim.bind ?_ (fun _ => ?_)
    | exact Lim.of (fun k => (impl_soundParts.mono_l k) _ _ _ _ _ _ _)
theorem impl_soundParts.F_eq (a0_0 : Int) (l0_1 : List Int) : impl_soundParts.F a0_0 l0_1 = impl_soundParts.L0 (([] : List (List Int))) 0 l0_1 (l0_1.length : Int) 0 a0_0 l0_1 := by
  refine Lim.eq (g := fun k => impl_soundParts.f k a0_0 l0_1) ?_
  unfold impl_soundParts.f
  repeat' first
    | exact Lim.const _
    | with_reducible exact Lim.of (fun k => (impl_soundParts.mono_l k) _ _ _ _ _ _ _)
    | with_reducible refine Lim.ite ?_ ?_
    | with_reducible refine Lim.bind ?_ (fun _ => ?_)
    | exact Lim.of (fun k => (impl_soundParts.mono_l k) _ _ _ _ _ _ _)

noncomputable def impl_partsOfBolts.L0 (x3 : List (S142)) (x9 : List (S65)) (x10 : Int) (x11 : Int) : Option ((List (S142))) := lim (fun k => impl_partsOfBolts.l0 k x3 x9 x10 x11)
noncomputable def impl_partsOfBolts.L1 (x3 : List (S142)) (x4 : Int) (x9 : List (S65)) (x10 : Int) (x11 : Int) (x17 : List (List Int)) (x18 : Int) (x19 : Int) : Option ((List (S142))) := lim (fun k => impl_partsOfBolts.l1 k x3 x4 x9 x10 x11 x17 x18 x19)
noncomputable def impl_partsOfBolts.F (l0 : List (S65)) : Option ((List (S142))) := lim (fun k => impl_partsOfBolts.f k l0)
theorem impl_partsOfBolts.L0_eq (x3 : List (S142)) (x9 : List (S65)) (x10 : Int) (x11 : Int) : impl_partsOfBolts.L0 x3 x9 x10 x11 = if x11 < x10 then (if 0 ≤ x11 then (if x11 < (x9.length : Int) then ((impl_soundParts.F ((rd_T65 x9 x11).f0) ((rd_T65 x9 x11).f1)).bind fun t221 => (impl_partsOfBolts.L1 x3 x11 x9 x10 x11 t221 (t221.length : Int) 0)) else (none)) else (none)) else (some x3) := by
  refine Lim.step (f := fun k => if x11 < x10 then (if 0 ≤ x11 then (if x11 < (x9.length : Int) then ((impl_soundParts.f k ((rd_T65 x9 x11).f0) ((rd_T65 x9 x11).f1)).bind fun t221 => (impl_partsOfBolts.l1 k x3 x11 x9 x10 x11 t221 (t221.length : Int) 0)) else (none)) else (none)) else (some x3)) (fun k => (impl_partsOfBolts.mono_l k).1 x3 x9 x10 x11) (fun k => by simp only [impl_partsOfBolts.l0]) ?_
  repeat' first
    | exact Lim.const _
    | with_reducible exact Lim.of (fun k => (impl_partsOfBolts.mono_l k).2 _ _ _ _ _ _ _ _)
    | with_reducible exact Lim.of (fun k => impl_soundParts.mono _ _ k)
    | with_reducible refine Lim.ite ?_ ?_
    | with_reducible refine Lim.bind ?_ (fun _ => ?_)
    | exact Lim.of (fun k => (impl_partsOfBolts.mono_l k).2 _ _ _ _ _ _ _ _)
    | exact Lim.of (fun k => impl_soundParts.mono _ _ k)
theorem impl_partsOfBolts.L1_eq (x3 : List (S142)) (x4 : Int) (x9 : List (S65)) (x10 : Int) (x11 : Int) (x17 : List (List Int)) (x18 : Int) (x19 : Int) : impl_partsOfBolts.L1 x3 x4 x9 x10 x11 x17 x18 x19 = if x19 < x18 then (if 0 ≤ x19 then (if x19 < (x17.length : Int) then (if 0 < ((rd_L1 x17 x19).length : Int) then (if 1 < ((rd_L1 x17 x19).length : Int) then (if x3.length < 5864062014805 then (impl_partsOfBolts.L1 (x3 ++ [(⟨x4, rd (rd_L1 x17 x19) 0, rd (rd_L1 x17 x19) 1⟩ : S142)]) x4 x9 x10 x11 x17 x18 (wrap64 (x19 + 1))) else (none)) else (none)) else (none)) else (none)) else (none)) else (impl_partsOfBolts.L0 x3 x9 x10 (wrap64 (x11 + 1))) := by
  refine Lim.step (f := fun k => if x19 < x18 then (if 0 ≤ x19 then (if x19 < (x17.length : Int) then (if 0 < ((rd_L1 x17 x19).length : Int) then (if 1 < ((rd_L1 x17 x19).length : Int) then (if x3.length < 5864062014805 then (impl_partsOfBolts.l1 k (x3 ++ [(⟨x4, rd (rd_L1 x17 x19) 0, rd (rd_L1 x17 x19) 1⟩ : S142)]) x4 x9 x10 x11 x17 x18 (wrap64 (x19 + 1))) else (none)) else (none)) else (none)) else (none)) else (none)) else (impl_partsOfBolts.l0 k x3 x9 x10 (wrap64 (x11 + 1)))) (fun k => (impl_partsOfBolts.mono_l k).2 x3 x4 x9 x10 x11 x17 x18 x19) (fun k => by simp only [impl_partsOfBolts.l1]) ?_
  repeat' first
    | exact Lim.const _
    | with_reducible exact Lim.of (fun k => (impl_partsOfBolts.mono_l k).1 _ _ _ _)
    | with_reducible exact Lim.of (fun k => (impl_partsOfBolts.mono_l k).2 _ _ _ _ _ _ _ _)
    | with_reducible refine Lim.ite ?_ ?_
    | with_reducible refine Lim.bind ?_ (fun _ => ?_)
    | exact Lim.of (fun k => (impl_partsOfBolts.mono_l k).1 _ _ _ _)
    | exact Lim.of (fun k => (impl_partsOfBolts.mono_l k).2 _ _ _ _ _ _ _ _)
theorem impl_partsOfBolts.F_eq (l0 : List (S65)) : impl_partsOfBolts.F l0 = impl_partsOfBolts.L0 (([] : List (S142))) l0 (l0.length : Int) 0 := by
  refine Lim.eq (g := fun k => impl_partsOfBolts.f k l0) ?_
  unfold impl_partsOfBolts.f
  repeat' first
    | exact Lim.const _
    | with_reducible exact Lim.of (fun k => (impl_partsOfBolts.mono_l k).1 _ _ _ _)
    | with_reducible refine Lim.ite ?_ ?_
    | with_reducible refine Lim.bind ?_ (fun _ => ?_)
    | exact Lim.of (fun k => (impl_partsOfBolts.mono_l k).1 _ _ _ _)

noncomputable def impl_LongestPanel.L0 (x4 : Int) (x14 : List (S142)) (x15 : Int) (x16 : Int) : Option (Int × Int) := lim (fun k => impl_LongestPanel.l0 k x4 x14 x15 x16)
noncomputable def impl_LongestPanel.F (l0 : List (S65)) : Option (Int × Int) := lim (fun k => impl_LongestPanel.f k l0)
theorem impl_LongestPanel.L0_eq (x4 : Int) (x14 : List (S142)) (x15 : Int) (x16 : Int) : impl_LongestPanel.L0 x4 x14 x15 x16 = if x16 < x15 then (if 0 ≤ x16 then (if x16 < (x14.length : Int) then (impl_LongestPanel.L0 (mx x4 (wrap64 (((rd_T142 x14 x16).f2) - ((rd_T142 x14 x16).f1)))) x14 x15 (wrap64 (x16 + 1))) else (none)) else (none)) else (some (x4, 0)) := by
  refine Lim.step (f := fun k => if x16 < x15 then (if 0 ≤ x16 then (if x16 < (x14.length : Int) then (impl_LongestPanel.l0 k (mx x4 (wrap64 (((rd_T142 x14 x16).f2) - ((rd_T142 x14 x16).f1)))) x14 x15 (wrap64 (x16 + 1))) else (none)) else (none)) else (some (x4, 0))) (fun k => (impl_LongestPanel.mono_l k) x4 x14 x15 x16) (fun k => by simp only [impl_LongestPanel.l0]) ?_
  repeat' first
    | exact Lim.const _
    | with_reducible exact Lim.of (fun k => (impl_LongestPanel.mono_l k) _ _ _ _)
    | with_reducible refine Lim.ite ?_ ?_
    | with_reducible refine Lim.bind ?_ (fun _ => ?_)
    | exact Lim.of (fun k => (impl_LongestPanel.mono_l k) _ _ _ _)
theorem impl_LongestPanel.F_eq (l0 : List (S65)) : impl_LongestPanel.F l0 = (impl_ValidBolts.F l0).bind fun t230 => (if t230 = true then (if (l0.length : Int) = 0 then (some (0, 3)) else ((impl_partsOfBolts.F l0).bind fun t231 => (impl_LongestPanel.L0 0 t231 (t231.length : Int) 0))) else (some (0, 1))) := by
  refine Lim.eq (g := fun k => impl_LongestPanel.f k l0) ?_
  unfold impl_LongestPanel.f
  repeat' first
    | exact Lim.const _
    | with_reducible exact Lim.of (fun k => (impl_LongestPanel.mono_l k) _ _ _ _)
    | with_reducible exact Lim.of (fun k => impl_ValidBolts.mono _ k)
    | with_reducible exact Lim.of (fun k => impl_partsOfBolts.mono _ k)
    | with_reducible refine Lim.ite ?_ ?_
    | with_reducible refine Lim.bind ?_ (fun _ => ?_)
    | exact Lim.of (fun k => (impl_LongestPanel.mono_l k) _ _ _ _)
    | exact Lim.of (fun k => impl_ValidBolts.mono _ k)
    | exact Lim.of (fun k => impl_partsOfBolts.mono _ k)

noncomputable def laws_FnExactLongestPanel.J0 (x0 : List (S60)) (x6 : List (S65)) (x34 : Bool) : Option (Bool) := lim (fun k => laws_FnExactLongestPanel.j0 k x0 x6 x34)
noncomputable def laws_FnExactLongestPanel.F (l0 : List (S60)) : Option (Bool) := lim (fun k => laws_FnExactLongestPanel.f k l0)
theorem laws_FnExactLongestPanel.J0_eq (x0 : List (S60)) (x6 : List (S65)) (x34 : Bool) : laws_FnExactLongestPanel.J0 x0 x6 x34 = if x34 = true then (some false) else ((laws_toBoltS.F x0).bind fun t247 => ((laws_eqBoltS.F x6 t247).bind fun t250 => (if t250 = true then (some true) else (some false)))) := by
  refine Lim.step (f := fun k => if x34 = true then (some false) else ((laws_toBoltS.f k x0).bind fun t247 => ((laws_eqBoltS.f k x6 t247).bind fun t250 => (if t250 = true then (some true) else (some false))))) (fun k => (laws_FnExactLongestPanel.mono_l k) x0 x6 x34) (fun k => by simp only [laws_FnExactLongestPanel.j0]) ?_
  repeat' first
    | exact Lim.const _
    | with_reducible exact Lim.of (fun k => laws_eqBoltS.mono _ _ k)
    | with_reducible exact Lim.of (fun k => laws_toBoltS.mono _ k)
    | with_reducible refine Lim.ite ?_ ?_
    | with_reducible refine Lim.bind ?_ (fun _ => ?_)
    | exact Lim.of (fun k => laws_eqBoltS.mono _ _ k)
    | exact Lim.of (fun k => laws_toBoltS.mono _ k)
theorem laws_FnExactLongestPanel.F_eq (l0 : List (S60)) : laws_FnExactLongestPanel.F l0 = (laws_szBoltS.F l0 1048576).bind fun t236 => (if t236 < 0 then (some true) else ((laws_toBoltS.F l0).bind fun t237 => ((spec_LongestPanel.F t237).bind fun bt240 => ((laws_toBoltS.F l0).bind fun t242 => ((impl_LongestPanel.F t242).bind fun bt245 => (if bt245.1 = bt240.1 then (laws_FnExactLongestPanel.J0 l0 t242 (bt245.2 != bt240.2)) else (laws_FnExactLongestPanel.J0 l0 t242 true))))))) := by
  refine Lim.eq (g := fun k => laws_FnExactLongestPanel.f k l0) ?_
  unfold laws_FnExactLongestPanel.f
  repeat' first
    | exact Lim.const _
    | with_reducible exact Lim.of (fun k => impl_LongestPanel.mono _ k)
    | with_reducible exact Lim.of (fun k => (laws_FnExactLongestPanel.mono_l k) _ _ _)
    | with_reducible exact Lim.of (fun k => laws_szBoltS.mono _ _ k)
    | with_reducible exact Lim.of (fun k => laws_toBoltS.mono _ k)
    | with_reducible exact Lim.of (fun k => spec_LongestPanel.mono _ k)
    | with_reducible refine Lim.ite ?_ ?_
    | with_reducible refine Lim.bind ?_ (fun _ => ?_)
    | exact Lim.of (fun k => impl_LongestPanel.mono _ k)
    | exact Lim.of (fun k => (laws_FnExactLongestPanel.mono_l k) _ _ _)
    | exact Lim.of (fun k => laws_szBoltS.mono _ _ k)
    | exact Lim.of (fun k => laws_toBoltS.mono _ k)
    | exact Lim.of (fun k => spec_LongestPanel.mono _ k)

end Go.Proofs.Ytobejjbnklcgpaa.PFnExactLongestPanel
