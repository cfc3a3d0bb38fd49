/-
  Written by a program of this session (wip/tools/lims.py): the printed functions without their bound on rounds.
-/
import Derived.Test.YtjehpokkbekapaaPFnExactClothLengthx1
import Derived.Test.YtjehpokkbekapaaPFnExactClothLengthx2
import Derived.Test.YtjehpokkbekapaaKit
set_option linter.unusedVariables false
set_option linter.unusedSimpArgs false
namespace Go.Proofs.Ytjehpokkbekapaa.PFnExactClothLength
open Go.RowKit Go.Proofs.Ytjehpokkbekapaa.Kit Go.Proofs.YtjehpokkbekapaaW.PrintWords Go.Proofs.YtjehpokkbekapaaW.PrintLast Go.Proofs.YtjehpokkbekapaaW.PrintMore

noncomputable def laws_toPanelS.L0 (x0 : List (S50)) (x3 : List (S48)) (x4 : Int) : Option ((List (S48))) := lim (fun k => laws_toPanelS.l0 k x0 x3 x4)
noncomputable def laws_toPanelS.F (l0 : List (S50)) : Option ((List (S48))) := lim (fun k => laws_toPanelS.f k l0)
theorem laws_toPanelS.L0_eq (x0 : List (S50)) (x3 : List (S48)) (x4 : Int) : laws_toPanelS.L0 x0 x3 x4 = if x4 < (x0.length : Int) then (if 0 ≤ x4 then ((laws_toPanel.f ((rd_T50 x0 x4).f0) ((rd_T50 x0 x4).f1)).bind fun bt108 => (if x4 < (x3.length : Int) then (laws_toPanelS.L0 x0 (x3.set (x4 : Int).toNat (⟨bt108.1, bt108.2⟩ : S48)) (wrap64 (x4 + 1))) else (none))) else (none)) else (some x3) := by
  refine Lim.step (f := fun k => if x4 < (x0.length : Int) then (if 0 ≤ x4 then ((laws_toPanel.f ((rd_T50 x0 x4).f0) ((rd_T50 x0 x4).f1)).bind fun bt108 => (if x4 < (x3.length : Int) then (laws_toPanelS.l0 k x0 (x3.set (x4 : Int).toNat (⟨bt108.1, bt108.2⟩ : S48)) (wrap64 (x4 + 1))) else (none))) else (none)) else (some x3)) (fun k => (laws_toPanelS.mono_l k) x0 x3 x4) (fun k => by simp only [laws_toPanelS.l0]) ?_
  repeat' first
    | exact Lim.const _
    | with_reducible exact Lim.of (fun k => (laws_toPanelS.mono_l k) _ _ _)
    | with_reducible refine Lim.ite ?_ ?_
    | with_reducible refine Lim.bind ?_ (fun _ => ?_)
    | exact Lim.of (fun k => (laws_toPanelS.mono_l k) _ _ _)
theorem laws_toPanelS.F_eq (l0 : List (S50)) : laws_toPanelS.F l0 = if 0 ≤ (l0.length : Int) then (if ((l0.length : Int) : Int).toNat ≤ 17592186044416 then (laws_toPanelS.L0 l0 (List.replicate ((l0.length : Int) : Int).toNat z48) 0) else (none)) else (none) := by
  refine Lim.eq (g := fun k => laws_toPanelS.f k l0) ?_
  unfold laws_toPanelS.f
  repeat' first
    | exact Lim.const _
    | with_reducible exact Lim.of (fun k => (laws_toPanelS.mono_l k) _ _ _)
    | with_reducible refine Lim.ite ?_ ?_
    | with_reducible refine Lim.bind ?_ (fun _ => ?_)
    | exact Lim.of (fun k => (laws_toPanelS.mono_l k) _ _ _)

noncomputable def laws_eqPanelS.L0 (x0 : List (S48)) (x1 : List (S48)) (x5 : Int) : Option (Bool) := lim (fun k => laws_eqPanelS.l0 k x0 x1 x5)
noncomputable def laws_eqPanelS.F (l0 : List (S48)) (l1 : List (S48)) : Option (Bool) := lim (fun k => laws_eqPanelS.f k l0 l1)
theorem laws_eqPanelS.L0_eq (x0 : List (S48)) (x1 : List (S48)) (x5 : Int) : laws_eqPanelS.L0 x0 x1 x5 = if x5 < (x0.length : Int) then (if 0 ≤ x5 then (if x5 < (x1.length : Int) then ((laws_eqPanel.f ((rd_T48 x0 x5).f0) ((rd_T48 x0 x5).f1) ((rd_T48 x1 x5).f0) ((rd_T48 x1 x5).f1)).bind fun t115 => (if t115 = true then (laws_eqPanelS.L0 x0 x1 (wrap64 (x5 + 1))) else (some false))) else (none)) else (none)) else (some true) := by
  refine Lim.step (f := fun k => if x5 < (x0.length : Int) then (if 0 ≤ x5 then (if x5 < (x1.length : Int) then ((laws_eqPanel.f ((rd_T48 x0 x5).f0) ((rd_T48 x0 x5).f1) ((rd_T48 x1 x5).f0) ((rd_T48 x1 x5).f1)).bind fun t115 => (if t115 = true then (laws_eqPanelS.l0 k x0 x1 (wrap64 (x5 + 1))) else (some false))) else (none)) else (none)) else (some true)) (fun k => (laws_eqPanelS.mono_l k) x0 x1 x5) (fun k => by simp only [laws_eqPanelS.l0]) ?_
  repeat' first
    | exact Lim.const _
    | with_reducible exact Lim.of (fun k => (laws_eqPanelS.mono_l k) _ _ _)
    | with_reducible refine Lim.ite ?_ ?_
    | with_reducible refine Lim.bind ?_ (fun _ => ?_)
    | exact Lim.of (fun k => (laws_eqPanelS.mono_l k) _ _ _)
theorem laws_eqPanelS.F_eq (l0 : List (S48)) (l1 : List (S48)) : laws_eqPanelS.F l0 l1 = if (l0.length : Int) = (l1.length : Int) then (laws_eqPanelS.L0 l0 l1 0) else (some false) := by
  refine Lim.eq (g := fun k => laws_eqPanelS.f k l0 l1) ?_
  unfold laws_eqPanelS.f
  repeat' first
    | exact Lim.const _
    | with_reducible exact Lim.of (fun k => (laws_eqPanelS.mono_l k) _ _ _)
    | with_reducible refine Lim.ite ?_ ?_
    | with_reducible refine Lim.bind ?_ (fun _ => ?_)
    | exact Lim.of (fun k => (laws_eqPanelS.mono_l k) _ _ _)

noncomputable def spec_l15List.L0 (x0 : List (S48)) (x3 : Int) : Option (Bool) := lim (fun k => spec_l15List.l0 k x0 x3)
noncomputable def spec_l15List.F (l0 : List (S48)) : Option (Bool) := lim (fun k => spec_l15List.f k l0)
theorem spec_l15List.L0_eq (x0 : List (S48)) (x3 : Int) : spec_l15List.L0 x0 x3 = if x3 < (x0.length : Int) then (if 0 ≤ x3 then ((spec_l00In.f ((rd_T48 x0 x3).f0) 1 10000).bind fun t117 => (if t117 = true then ((spec_l00In.f ((rd_T48 x0 x3).f1) 1 200).bind fun t119 => (if t119 = true then (spec_l15List.L0 x0 (wrap64 (x3 + 1))) else (some false))) else (some false))) else (none)) else (some (decide ((x0.length : Int) ≤ 40))) := by
  refine Lim.step (f := fun k => if x3 < (x0.length : Int) then (if 0 ≤ x3 then ((spec_l00In.f ((rd_T48 x0 x3).f0) 1 10000).bind fun t117 => (if t117 = true then ((spec_l00In.f ((rd_T48 x0 x3).f1) 1 200).bind fun t119 => (if t119 = true then (spec_l15List.l0 k x0 (wrap64 (x3 + 1))) else (some false))) else (some false))) else (none)) else (some (decide ((x0.length : Int) ≤ 40)))) (fun k => (spec_l15List.mono_l k) x0 x3) (fun k => by simp only [spec_l15List.l0]) ?_
  repeat' first
    | exact Lim.const _
    | with_reducible exact Lim.of (fun k => (spec_l15List.mono_l k) _ _)
    | with_reducible refine Lim.ite ?_ ?_
    | with_reducible refine Lim.bind ?_ (fun _ => ?_)
    | exact Lim.of (fun k => (spec_l15List.mono_l k) _ _)
theorem spec_l15List.F_eq (l0 : List (S48)) : spec_l15List.F l0 = spec_l15List.L0 l0 0 := by
  refine Lim.eq (g := fun k => spec_l15List.f k l0) ?_
  unfold spec_l15List.f
  repeat' first
    | exact Lim.const _
    | with_reducible exact Lim.of (fun k => (spec_l15List.mono_l k) _ _)
    | with_reducible refine Lim.ite ?_ ?_
    | with_reducible refine Lim.bind ?_ (fun _ => ?_)
    | exact Lim.of (fun k => (spec_l15List.mono_l k) _ _)

noncomputable def spec_ClothLength.L0 (x0 : List (S48)) (x4 : Int) (x5 : Int) : Option (Int × Int) := lim (fun k => spec_ClothLength.l0 k x0 x4 x5)
noncomputable def spec_ClothLength.F (l0 : List (S48)) : Option (Int × Int) := lim (fun k => spec_ClothLength.f k l0)
theorem spec_ClothLength.L0_eq (x0 : List (S48)) (x4 : Int) (x5 : Int) : spec_ClothLength.L0 x0 x4 x5 = if x5 < (x0.length : Int) then (if 0 ≤ x5 then (spec_ClothLength.L0 x0 (wrap64 (x4 + ((rd_T48 x0 x5).f0))) (wrap64 (x5 + 1))) else (none)) else (some (x4, 0)) := by
  refine Lim.step (f := fun k => if x5 < (x0.length : Int) then (if 0 ≤ x5 then (spec_ClothLength.l0 k x0 (wrap64 (x4 + ((rd_T48 x0 x5).f0))) (wrap64 (x5 + 1))) else (none)) else (some (x4, 0))) (fun k => (spec_ClothLength.mono_l k) x0 x4 x5) (fun k => by simp only [spec_ClothLength.l0]) ?_
  repeat' first
    | exact Lim.const _
    | with_reducible exact Lim.of (fun k => (spec_ClothLength.mono_l k) _ _ _)
    | with_reducible refine Lim.ite ?_ ?_
    | with_reducible refine Lim.bind ?_ (fun _ => ?_)
    | exact Lim.of (fun k => (spec_ClothLength.mono_l k) _ _ _)
theorem spec_ClothLength.F_eq (l0 : List (S48)) : spec_ClothLength.F l0 = (spec_l15List.F l0).bind fun t120 => (if t120 = true then (spec_ClothLength.L0 l0 0 0) else (some (0, 1))) := by
  refine Lim.eq (g := fun k => spec_ClothLength.f k l0) ?_
  unfold spec_ClothLength.f
  repeat' first
    | exact Lim.const _
    | with_reducible exact Lim.of (fun k => (spec_ClothLength.mono_l k) _ _ _)
    | with_reducible exact Lim.of (fun k => spec_l15List.mono _ k)
    | with_reducible refine Lim.ite ?_ ?_
    | with_reducible refine Lim.bind ?_ (fun _ => ?_)
    | exact Lim.of (fun k => (spec_ClothLength.mono_l k) _ _ _)
    | exact Lim.of (fun k => spec_l15List.mono _ k)

noncomputable def impl_ValidPanels.L0 (x8 : List (S48)) (x9 : Int) (x10 : Int) : Option (Bool) := lim (fun k => impl_ValidPanels.l0 k x8 x9 x10)
noncomputable def impl_ValidPanels.F (l0 : List (S48)) : Option (Bool) := lim (fun k => impl_ValidPanels.f k l0)
theorem impl_ValidPanels.L0_eq (x8 : List (S48)) (x9 : Int) (x10 : Int) : impl_ValidPanels.L0 x8 x9 x10 = if x10 < x9 then (if 0 ≤ x10 then (if x10 < (x8.length : Int) then ((impl_within.f ((rd_T48 x8 x10).f0) 1 10000).bind fun t124 => (if t124 = true then ((impl_within.f ((rd_T48 x8 x10).f1) 1 200).bind fun t125 => (if t125 = true then (impl_ValidPanels.L0 x8 x9 (wrap64 (x10 + 1))) else (some false))) else (some false))) else (none)) else (none)) else (some true) := by
  refine Lim.step (f := fun k => if x10 < x9 then (if 0 ≤ x10 then (if x10 < (x8.length : Int) then ((impl_within.f ((rd_T48 x8 x10).f0) 1 10000).bind fun t124 => (if t124 = true then ((impl_within.f ((rd_T48 x8 x10).f1) 1 200).bind fun t125 => (if t125 = true then (impl_ValidPanels.l0 k x8 x9 (wrap64 (x10 + 1))) else (some false))) else (some false))) else (none)) else (none)) else (some true)) (fun k => (impl_ValidPanels.mono_l k) x8 x9 x10) (fun k => by simp only [impl_ValidPanels.l0]) ?_
  repeat' first
    | exact Lim.const _
    | with_reducible exact Lim.of (fun k => (impl_ValidPanels.mono_l k) _ _ _)
    | with_reducible refine Lim.ite ?_ ?_
    | with_reducible refine Lim.bind ?_ (fun _ => ?_)
    | exact Lim.of (fun k => (impl_ValidPanels.mono_l k) _ _ _)
theorem impl_ValidPanels.F_eq (l0 : List (S48)) : impl_ValidPanels.F l0 = if (l0.length : Int) > 40 then (some false) else (impl_ValidPanels.L0 l0 (l0.length : Int) 0) := by
  refine Lim.eq (g := fun k => impl_ValidPanels.f k l0) ?_
  unfold impl_ValidPanels.f
  repeat' first
    | exact Lim.const _
    | with_reducible exact Lim.of (fun k => (impl_ValidPanels.mono_l k) _ _ _)
    | with_reducible refine Lim.ite ?_ ?_
    | with_reducible refine Lim.bind ?_ (fun _ => ?_)
    | exact Lim.of (fun k => (impl_ValidPanels.mono_l k) _ _ _)

noncomputable def impl_clothLength.L0 (x3 : Int) (x6 : List (S48)) (x7 : Int) (x8 : Int) : Option (Int) := lim (fun k => impl_clothLength.l0 k x3 x6 x7 x8)
noncomputable def impl_clothLength.F (l0 : List (S48)) : Option (Int) := lim (fun k => impl_clothLength.f k l0)
theorem impl_clothLength.L0_eq (x3 : Int) (x6 : List (S48)) (x7 : Int) (x8 : Int) : impl_clothLength.L0 x3 x6 x7 x8 = if x8 < x7 then (if 0 ≤ x8 then (if x8 < (x6.length : Int) then (impl_clothLength.L0 (wrap64 (x3 + ((rd_T48 x6 x8).f0))) x6 x7 (wrap64 (x8 + 1))) else (none)) else (none)) else (some x3) := by
  refine Lim.step (f := fun k => if x8 < x7 then (if 0 ≤ x8 then (if x8 < (x6.length : Int) then (impl_clothLength.l0 k (wrap64 (x3 + ((rd_T48 x6 x8).f0))) x6 x7 (wrap64 (x8 + 1))) else (none)) else (none)) else (some x3)) (fun k => (impl_clothLength.mono_l k) x3 x6 x7 x8) (fun k => by simp only [impl_clothLength.l0]) ?_
  repeat' first
    | exact Lim.const _
    | with_reducible exact Lim.of (fun k => (impl_clothLength.mono_l k) _ _ _ _)
    | with_reducible refine Lim.ite ?_ ?_
    | with_reducible refine Lim.bind ?_ (fun _ => ?_)
    | exact Lim.of (fun k => (impl_clothLength.mono_l k) _ _ _ _)
theorem impl_clothLength.F_eq (l0 : List (S48)) : impl_clothLength.F l0 = impl_clothLength.L0 0 l0 (l0.length : Int) 0 := by
  refine Lim.eq (g := fun k => impl_clothLength.f k l0) ?_
  unfold impl_clothLength.f
  repeat' first
    | exact Lim.const _
    | with_reducible exact Lim.of (fun k => (impl_clothLength.mono_l k) _ _ _ _)
    | with_reducible refine Lim.ite ?_ ?_
    | with_reducible refine Lim.bind ?_ (fun _ => ?_)
    | exact Lim.of (fun k => (impl_clothLength.mono_l k) _ _ _ _)

noncomputable def impl_ClothLength.F (l0 : List (S48)) : Option (Int × Int) := lim (fun k => impl_ClothLength.f k l0)
theorem impl_ClothLength.F_eq (l0 : List (S48)) : impl_ClothLength.F l0 = (impl_ValidPanels.F l0).bind fun t128 => (if t128 = true then ((impl_clothLength.F l0).bind fun t129 => (some (t129, 0))) else (some (0, 1))) := by
  refine Lim.eq (g := fun k => impl_ClothLength.f k l0) ?_
  unfold impl_ClothLength.f
  repeat' first
    | exact Lim.const _
    | with_reducible exact Lim.of (fun k => impl_ValidPanels.mono _ k)
    | with_reducible exact Lim.of (fun k => impl_clothLength.mono _ k)
    | with_reducible refine Lim.ite ?_ ?_
    | with_reducible refine Lim.bind ?_ (fun _ => ?_)
    | exact Lim.of (fun k => impl_ValidPanels.mono _ k)
    | exact Lim.of (fun k => impl_clothLength.mono _ k)

noncomputable def laws_FnExactClothLength.J0 (x0 : List (S50)) (x6 : List (S48)) (x34 : Bool) : Option (Bool) := lim (fun k => laws_FnExactClothLength.j0 k x0 x6 x34)
noncomputable def laws_FnExactClothLength.F (l0 : List (S50)) : Option (Bool) := lim (fun k => laws_FnExactClothLength.f k l0)
theorem laws_FnExactClothLength.J0_eq (x0 : List (S50)) (x6 : List (S48)) (x34 : Bool) : laws_FnExactClothLength.J0 x0 x6 x34 = if x34 = true then (some false) else ((laws_toPanelS.F x0).bind fun t141 => ((laws_eqPanelS.F x6 t141).bind fun t144 => (if t144 = true then (some true) else (some false)))) := by
  refine Lim.step (f := fun k => if x34 = true then (some false) else ((laws_toPanelS.f k x0).bind fun t141 => ((laws_eqPanelS.f k x6 t141).bind fun t144 => (if t144 = true then (some true) else (some false))))) (fun k => (laws_FnExactClothLength.mono_l k) x0 x6 x34) (fun k => by simp only [laws_FnExactClothLength.j0]) ?_
  repeat' first
    | exact Lim.const _
    | with_reducible exact Lim.of (fun k => laws_eqPanelS.mono _ _ k)
    | with_reducible exact Lim.of (fun k => laws_toPanelS.mono _ k)
    | with_reducible refine Lim.ite ?_ ?_
    | with_reducible refine Lim.bind ?_ (fun _ => ?_)
    | exact Lim.of (fun k => laws_eqPanelS.mono _ _ k)
    | exact Lim.of (fun k => laws_toPanelS.mono _ k)
theorem laws_FnExactClothLength.F_eq (l0 : List (S50)) : laws_FnExactClothLength.F l0 = (laws_szPanelS.f l0 1048576).bind fun t130 => (if t130 < 0 then (some true) else ((laws_toPanelS.F l0).bind fun t131 => ((spec_ClothLength.F t131).bind fun bt134 => ((laws_toPanelS.F l0).bind fun t136 => ((impl_ClothLength.F t136).bind fun bt139 => (if bt139.1 = bt134.1 then (laws_FnExactClothLength.J0 l0 t136 (bt139.2 != bt134.2)) else (laws_FnExactClothLength.J0 l0 t136 true))))))) := by
  refine Lim.eq (g := fun k => laws_FnExactClothLength.f k l0) ?_
  unfold laws_FnExactClothLength.f
  repeat' first
    | exact Lim.const _
    | with_reducible exact Lim.of (fun k => impl_ClothLength.mono _ k)
    | with_reducible exact Lim.of (fun k => (laws_FnExactClothLength.mono_l k) _ _ _)
    | with_reducible exact Lim.of (fun k => laws_toPanelS.mono _ k)
    | with_reducible exact Lim.of (fun k => spec_ClothLength.mono _ k)
    | with_reducible refine Lim.ite ?_ ?_
    | with_reducible refine Lim.bind ?_ (fun _ => ?_)
    | exact Lim.of (fun k => impl_ClothLength.mono _ k)
    | exact Lim.of (fun k => (laws_FnExactClothLength.mono_l k) _ _ _)
    | exact Lim.of (fun k => laws_toPanelS.mono _ k)
    | exact Lim.of (fun k => spec_ClothLength.mono _ k)

end Go.Proofs.Ytjehpokkbekapaa.PFnExactClothLength
