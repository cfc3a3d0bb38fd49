/-
  Written by a program of this session (wip/tools/lims.py): the printed functions without their bound on rounds.
-/
import Derived.Test.YtobejjbnklcgpaaPFnExactTurnPanelsx1
import Derived.Test.YtobejjbnklcgpaaPFnExactTurnPanelsx2
import Derived.Test.YtobejjbnklcgpaaPFnExactTurnPanelsx3
import Derived.Test.YtobejjbnklcgpaaKit
set_option linter.unusedVariables false
set_option linter.unusedSimpArgs false
namespace Go.Proofs.Ytobejjbnklcgpaa.PFnExactTurnPanels
open Go.RowKit Go.Proofs.Ytobejjbnklcgpaa.Kit Go.Proofs.YtobejjbnklcgpaaW.PrintWords Go.Proofs.YtobejjbnklcgpaaW.PrintLast Go.Proofs.YtobejjbnklcgpaaW.PrintMore

noncomputable def spec_l15List.L0 (x0 : List (S97)) (x3 : Int) : Option (Bool) := lim (fun k => spec_l15List.l0 k x0 x3)
noncomputable def spec_l15List.F (l0 : List (S97)) : Option (Bool) := lim (fun k => spec_l15List.f k l0)
theorem spec_l15List.L0_eq (x0 : List (S97)) (x3 : Int) : spec_l15List.L0 x0 x3 = if x3 < (x0.length : Int) then (if 0 ≤ x3 then ((spec_l00In.f ((rd_T97 x0 x3).f0) 1 10000).bind fun t102 => (if t102 = true then ((spec_l00In.f ((rd_T97 x0 x3).f1) 1 200).bind fun t104 => (if t104 = true then (spec_l15List.L0 x0 (wrap64 (x3 + 1))) else (some false))) else (some false))) else (none)) else (some (decide ((x0.length : Int) ≤ 40))) := by
  refine Lim.step (f := fun k => if x3 < (x0.length : Int) then (if 0 ≤ x3 then ((spec_l00In.f ((rd_T97 x0 x3).f0) 1 10000).bind fun t102 => (if t102 = true then ((spec_l00In.f ((rd_T97 x0 x3).f1) 1 200).bind fun t104 => (if t104 = true then (spec_l15List.l0 k x0 (wrap64 (x3 + 1))) else (some false))) else (some false))) else (none)) else (some (decide ((x0.length : Int) ≤ 40)))) (fun k => (spec_l15List.mono_l k) x0 x3) (fun k => by simp only [spec_l15List.l0]) ?_
  repeat' first
    | exact Lim.const _
    | with_reducible exact Lim.of (fun k => (spec_l15List.mono_l k) _ _)
    | with_reducible refine Lim.ite ?_ ?_
    | with_reducible refine Lim.bind ?_ (fun _ => ?_)
    | exact Lim.of (fun k => (spec_l15List.mono_l k) _ _)
theorem spec_l15List.F_eq (l0 : List (S97)) : spec_l15List.F l0 = spec_l15List.L0 l0 0 := by
  refine Lim.eq (g := fun k => spec_l15List.f k l0) ?_
  unfold spec_l15List.f
  repeat' first
    | exact Lim.const _
    | with_reducible exact Lim.of (fun k => (spec_l15List.mono_l k) _ _)
    | with_reducible refine Lim.ite ?_ ?_
    | with_reducible refine Lim.bind ?_ (fun _ => ?_)
    | exact Lim.of (fun k => (spec_l15List.mono_l k) _ _)

noncomputable def spec_TurnPanels.L0 (x0 : List (S97)) (x4 : List (S97)) (x5 : Int) : Option ((List (S97)) × Int) := lim (fun k => spec_TurnPanels.l0 k x0 x4 x5)
noncomputable def spec_TurnPanels.F (l0 : List (S97)) : Option ((List (S97)) × Int) := lim (fun k => spec_TurnPanels.f k l0)
theorem spec_TurnPanels.L0_eq (x0 : List (S97)) (x4 : List (S97)) (x5 : Int) : spec_TurnPanels.L0 x0 x4 x5 = if x5 ≥ 0 then (if 0 ≤ x5 then (if x5 < (x0.length : Int) then (if x4.length < 8796093022208 then (spec_TurnPanels.L0 x0 (x4 ++ [(⟨(rd_T97 x0 x5).f0, (rd_T97 x0 x5).f1⟩ : S97)]) (wrap64 (x5 - 1))) else (none)) else (none)) else (none)) else (some (x4, 0)) := by
  refine Lim.step (f := fun k => if x5 ≥ 0 then (if 0 ≤ x5 then (if x5 < (x0.length : Int) then (if x4.length < 8796093022208 then (spec_TurnPanels.l0 k x0 (x4 ++ [(⟨(rd_T97 x0 x5).f0, (rd_T97 x0 x5).f1⟩ : S97)]) (wrap64 (x5 - 1))) else (none)) else (none)) else (none)) else (some (x4, 0))) (fun k => (spec_TurnPanels.mono_l k) x0 x4 x5) (fun k => by simp only [spec_TurnPanels.l0]) ?_
  repeat' first
    | exact Lim.const _
    | with_reducible exact Lim.of (fun k => (spec_TurnPanels.mono_l k) _ _ _)
    | with_reducible refine Lim.ite ?_ ?_
    | with_reducible refine Lim.bind ?_ (fun _ => ?_)
    | exact Lim.of (fun k => (spec_TurnPanels.mono_l k) _ _ _)
theorem spec_TurnPanels.F_eq (l0 : List (S97)) : spec_TurnPanels.F l0 = (spec_l15List.F l0).bind fun t105 => (if t105 = true then (spec_TurnPanels.L0 l0 (([] : List (S97))) (wrap64 ((l0.length : Int) - 1))) else (some (([] : List (S97)), 1))) := by
  refine Lim.eq (g := fun k => spec_TurnPanels.f k l0) ?_
  unfold spec_TurnPanels.f
  repeat' first
    | exact Lim.const _
    | with_reducible exact Lim.of (fun k => (spec_TurnPanels.mono_l k) _ _ _)
    | with_reducible exact Lim.of (fun k => spec_l15List.mono _ k)
    | with_reducible refine Lim.ite ?_ ?_
    | with_reducible refine Lim.bind ?_ (fun _ => ?_)
    | exact Lim.of (fun k => (spec_TurnPanels.mono_l k) _ _ _)
    | exact Lim.of (fun k => spec_l15List.mono _ k)

noncomputable def laws_toPanelS.L0 (x0 : List (S99)) (x3 : List (S97)) (x4 : Int) : Option ((List (S97))) := lim (fun k => laws_toPanelS.l0 k x0 x3 x4)
noncomputable def laws_toPanelS.F (l0 : List (S99)) : Option ((List (S97))) := lim (fun k => laws_toPanelS.f k l0)
theorem laws_toPanelS.L0_eq (x0 : List (S99)) (x3 : List (S97)) (x4 : Int) : laws_toPanelS.L0 x0 x3 x4 = if x4 < (x0.length : Int) then (if 0 ≤ x4 then ((laws_toPanel.f ((rd_T99 x0 x4).f0) ((rd_T99 x0 x4).f1)).bind fun bt120 => (if x4 < (x3.length : Int) then (laws_toPanelS.L0 x0 (x3.set (x4 : Int).toNat (⟨bt120.1, bt120.2⟩ : S97)) (wrap64 (x4 + 1))) else (none))) else (none)) else (some x3) := by
  refine Lim.step (f := fun k => if x4 < (x0.length : Int) then (if 0 ≤ x4 then ((laws_toPanel.f ((rd_T99 x0 x4).f0) ((rd_T99 x0 x4).f1)).bind fun bt120 => (if x4 < (x3.length : Int) then (laws_toPanelS.l0 k x0 (x3.set (x4 : Int).toNat (⟨bt120.1, bt120.2⟩ : S97)) (wrap64 (x4 + 1))) else (none))) else (none)) else (some x3)) (fun k => (laws_toPanelS.mono_l k) x0 x3 x4) (fun k => by simp only [laws_toPanelS.l0]) ?_
  repeat' first
    | exact Lim.const _
    | with_reducible exact Lim.of (fun k => (laws_toPanelS.mono_l k) _ _ _)
    | with_reducible refine Lim.ite ?_ ?_
    | with_reducible refine Lim.bind ?_ (fun _ => ?_)
    | exact Lim.of (fun k => (laws_toPanelS.mono_l k) _ _ _)
theorem laws_toPanelS.F_eq (l0 : List (S99)) : laws_toPanelS.F l0 = if 0 ≤ (l0.length : Int) then (if ((l0.length : Int) : Int).toNat ≤ 17592186044416 then (laws_toPanelS.L0 l0 (List.replicate ((l0.length : Int) : Int).toNat z97) 0) else (none)) else (none) := by
  refine Lim.eq (g := fun k => laws_toPanelS.f k l0) ?_
  unfold laws_toPanelS.f
  repeat' first
    | exact Lim.const _
    | with_reducible exact Lim.of (fun k => (laws_toPanelS.mono_l k) _ _ _)
    | with_reducible refine Lim.ite ?_ ?_
    | with_reducible refine Lim.bind ?_ (fun _ => ?_)
    | exact Lim.of (fun k => (laws_toPanelS.mono_l k) _ _ _)

noncomputable def impl_ValidPanels.L0 (x8 : List (S97)) (x9 : Int) (x10 : Int) : Option (Bool) := lim (fun k => impl_ValidPanels.l0 k x8 x9 x10)
noncomputable def impl_ValidPanels.F (l0 : List (S97)) : Option (Bool) := lim (fun k => impl_ValidPanels.f k l0)
theorem impl_ValidPanels.L0_eq (x8 : List (S97)) (x9 : Int) (x10 : Int) : impl_ValidPanels.L0 x8 x9 x10 = if x10 < x9 then (if 0 ≤ x10 then (if x10 < (x8.length : Int) then ((impl_within.f ((rd_T97 x8 x10).f0) 1 10000).bind fun t125 => (if t125 = true then ((impl_within.f ((rd_T97 x8 x10).f1) 1 200).bind fun t126 => (if t126 = true then (impl_ValidPanels.L0 x8 x9 (wrap64 (x10 + 1))) else (some false))) else (some false))) else (none)) else (none)) else (some true) := by
  refine Lim.step (f := fun k => if x10 < x9 then (if 0 ≤ x10 then (if x10 < (x8.length : Int) then ((impl_within.f ((rd_T97 x8 x10).f0) 1 10000).bind fun t125 => (if t125 = true then ((impl_within.f ((rd_T97 x8 x10).f1) 1 200).bind fun t126 => (if t126 = true then (impl_ValidPanels.l0 k x8 x9 (wrap64 (x10 + 1))) else (some false))) else (some false))) else (none)) else (none)) else (some true)) (fun k => (impl_ValidPanels.mono_l k) x8 x9 x10) (fun k => by simp only [impl_ValidPanels.l0]) ?_
  repeat' first
    | exact Lim.const _
    | with_reducible exact Lim.of (fun k => (impl_ValidPanels.mono_l k) _ _ _)
    | with_reducible refine Lim.ite ?_ ?_
    | with_reducible refine Lim.bind ?_ (fun _ => ?_)
    | exact Lim.of (fun k => (impl_ValidPanels.mono_l k) _ _ _)
theorem impl_ValidPanels.F_eq (l0 : List (S97)) : impl_ValidPanels.F l0 = if (l0.length : Int) > 40 then (some false) else (impl_ValidPanels.L0 l0 (l0.length : Int) 0) := by
  refine Lim.eq (g := fun k => impl_ValidPanels.f k l0) ?_
  unfold impl_ValidPanels.f
  repeat' first
    | exact Lim.const _
    | with_reducible exact Lim.of (fun k => (impl_ValidPanels.mono_l k) _ _ _)
    | with_reducible refine Lim.ite ?_ ?_
    | with_reducible refine Lim.bind ?_ (fun _ => ?_)
    | exact Lim.of (fun k => (impl_ValidPanels.mono_l k) _ _ _)

noncomputable def impl_Panel.L0 (x0 : List (S97)) (x2 : Int) (x3 : Int) : Option ((List (S97))) := lim (fun k => impl_Panel.l0 k x0 x2 x3)
noncomputable def impl_Panel.F (l0 : List (S97)) : Option ((List (S97))) := lim (fun k => impl_Panel.f k l0)
theorem impl_Panel.L0_eq (x0 : List (S97)) (x2 : Int) (x3 : Int) : impl_Panel.L0 x0 x2 x3 = if x2 < x3 then (if 0 ≤ x3 then (if x3 < (x0.length : Int) then (if 0 ≤ x2 then (if x2 < (x0.length : Int) then (impl_Panel.L0 ((x0.set (x2 : Int).toNat (⟨(rd_T97 x0 x3).f0, (rd_T97 x0 x3).f1⟩ : S97)).set (x3 : Int).toNat (⟨(rd_T97 x0 x2).f0, (rd_T97 x0 x2).f1⟩ : S97)) (wrap64 (x2 + 1)) (wrap64 (x3 - 1))) else (none)) else (none)) else (none)) else (none)) else (some x0) := by
  refine Lim.step (f := fun k => if x2 < x3 then (if 0 ≤ x3 then (if x3 < (x0.length : Int) then (if 0 ≤ x2 then (if x2 < (x0.length : Int) then (impl_Panel.l0 k ((x0.set (x2 : Int).toNat (⟨(rd_T97 x0 x3).f0, (rd_T97 x0 x3).f1⟩ : S97)).set (x3 : Int).toNat (⟨(rd_T97 x0 x2).f0, (rd_T97 x0 x2).f1⟩ : S97)) (wrap64 (x2 + 1)) (wrap64 (x3 - 1))) else (none)) else (none)) else (none)) else (none)) else (some x0)) (fun k => (impl_Panel.mono_l k) x0 x2 x3) (fun k => by simp only [impl_Panel.l0]) ?_
  repeat' first
    | exact Lim.const _
    | with_reducible exact Lim.of (fun k => (impl_Panel.mono_l k) _ _ _)
    | with_reducible refine Lim.ite ?_ ?_
    | with_reducible refine Lim.bind ?_ (fun _ => ?_)
    | exact Lim.of (fun k => (impl_Panel.mono_l k) _ _ _)
theorem impl_Panel.F_eq (l0 : List (S97)) : impl_Panel.F l0 = impl_Panel.L0 l0 0 (wrap64 ((l0.length : Int) - 1)) := by
  refine Lim.eq (g := fun k => impl_Panel.f k l0) ?_
  unfold impl_Panel.f
  repeat' first
    | exact Lim.const _
    | with_reducible exact Lim.of (fun k => (impl_Panel.mono_l k) _ _ _)
    | with_reducible refine Lim.ite ?_ ?_
    | with_reducible refine Lim.bind ?_ (fun _ => ?_)
    | exact Lim.of (fun k => (impl_Panel.mono_l k) _ _ _)

noncomputable def impl_TurnPanels.F (l0 : List (S97)) : Option ((List (S97)) × Int) := lim (fun k => impl_TurnPanels.f k l0)
theorem impl_TurnPanels.F_eq (l0 : List (S97)) : impl_TurnPanels.F l0 = (impl_ValidPanels.F l0).bind fun t131 => (if t131 = true then ((some (([] : List (S97)) : List (S97))).bind fun y132 => (if y132.length + l0.length < 8796093022208 then ((impl_Panel.F (y132 ++ l0)).bind fun t138 => (some (t138, 0))) else (none))) else (some (([] : List (S97)), 1))) := by
  refine Lim.eq (g := fun k => impl_TurnPanels.f k l0) ?_
  unfold impl_TurnPanels.f
  repeat' first
    | exact Lim.const _
    | with_reducible exact Lim.of (fun k => impl_Panel.mono _ k)
    | with_reducible exact Lim.of (fun k => impl_ValidPanels.mono _ k)
    | with_reducible refine Lim.ite ?_ ?_
    | with_reducible refine Lim.bind ?_ (fun _ => ?_)
    | exact Lim.of (fun k => impl_Panel.mono _ k)
    | exact Lim.of (fun k => impl_ValidPanels.mono _ k)

noncomputable def laws_eqPanelS.L0 (x0 : List (S97)) (x1 : List (S97)) (x5 : Int) : Option (Bool) := lim (fun k => laws_eqPanelS.l0 k x0 x1 x5)
noncomputable def laws_eqPanelS.F (l0 : List (S97)) (l1 : List (S97)) : Option (Bool) := lim (fun k => laws_eqPanelS.f k l0 l1)
theorem laws_eqPanelS.L0_eq (x0 : List (S97)) (x1 : List (S97)) (x5 : Int) : laws_eqPanelS.L0 x0 x1 x5 = if x5 < (x0.length : Int) then (if 0 ≤ x5 then (if x5 < (x1.length : Int) then ((laws_eqPanel.f ((rd_T97 x0 x5).f0) ((rd_T97 x0 x5).f1) ((rd_T97 x1 x5).f0) ((rd_T97 x1 x5).f1)).bind fun t143 => (if t143 = true then (laws_eqPanelS.L0 x0 x1 (wrap64 (x5 + 1))) else (some false))) else (none)) else (none)) else (some true) := by
  refine Lim.step (f := fun k => if x5 < (x0.length : Int) then (if 0 ≤ x5 then (if x5 < (x1.length : Int) then ((laws_eqPanel.f ((rd_T97 x0 x5).f0) ((rd_T97 x0 x5).f1) ((rd_T97 x1 x5).f0) ((rd_T97 x1 x5).f1)).bind fun t143 => (if t143 = true then (laws_eqPanelS.l0 k x0 x1 (wrap64 (x5 + 1))) else (some false))) else (none)) else (none)) else (some true)) (fun k => (laws_eqPanelS.mono_l k) x0 x1 x5) (fun k => by simp only [laws_eqPanelS.l0]) ?_
  repeat' first
    | exact Lim.const _
    | with_reducible exact Lim.of (fun k => (laws_eqPanelS.mono_l k) _ _ _)
    | with_reducible refine Lim.ite ?_ ?_
    | with_reducible refine Lim.bind ?_ (fun _ => ?_)
    | exact Lim.of (fun k => (laws_eqPanelS.mono_l k) _ _ _)
theorem laws_eqPanelS.F_eq (l0 : List (S97)) (l1 : List (S97)) : laws_eqPanelS.F l0 l1 = if (l0.length : Int) = (l1.length : Int) then (laws_eqPanelS.L0 l0 l1 0) else (some false) := by
  refine Lim.eq (g := fun k => laws_eqPanelS.f k l0 l1) ?_
  unfold laws_eqPanelS.f
  repeat' first
    | exact Lim.const _
    | with_reducible exact Lim.of (fun k => (laws_eqPanelS.mono_l k) _ _ _)
    | with_reducible refine Lim.ite ?_ ?_
    | with_reducible refine Lim.bind ?_ (fun _ => ?_)
    | exact Lim.of (fun k => (laws_eqPanelS.mono_l k) _ _ _)

noncomputable def laws_markPanelS.L0 (x0 : List (S97)) (x1 : Int) (x5 : Int) : Option (Int × (List (S97))) := lim (fun k => laws_markPanelS.l0 k x0 x1 x5)
noncomputable def laws_markPanelS.F (l0 : List (S97)) (a1 : Int) : Option (Int × (List (S97))) := lim (fun k => laws_markPanelS.f k l0 a1)
theorem laws_markPanelS.L0_eq (x0 : List (S97)) (x1 : Int) (x5 : Int) : laws_markPanelS.L0 x0 x1 x5 = if x5 < (x0.length : Int) then (if 0 ≤ x5 then ((some (x0.set (x5 : Int).toNat (⟨x1, (rd_T97 x0 x5).f1⟩ : S97) : List (S97))).bind fun y144 => (laws_markPanelS.L0 (y144.set (x5 : Int).toNat (⟨(rd_T97 y144 x5).f0, wrap64 (x1 + 1)⟩ : S97)) (wrap64 ((wrap64 (x1 + 1)) + 1)) (wrap64 (x5 + 1)))) else (none)) else (some (x1, x0)) := by
  refine Lim.step (f := fun k => if x5 < (x0.length : Int) then (if 0 ≤ x5 then ((some (x0.set (x5 : Int).toNat (⟨x1, (rd_T97 x0 x5).f1⟩ : S97) : List (S97))).bind fun y144 => (laws_markPanelS.l0 k (y144.set (x5 : Int).toNat (⟨(rd_T97 y144 x5).f0, wrap64 (x1 + 1)⟩ : S97)) (wrap64 ((wrap64 (x1 + 1)) + 1)) (wrap64 (x5 + 1)))) else (none)) else (some (x1, x0))) (fun k => (laws_markPanelS.mono_l k) x0 x1 x5) (fun k => by simp only [laws_markPanelS.l0]) ?_
  repeat' first
    | exact Lim.const _
    | with_reducible exact Lim.of (fun k => (laws_markPanelS.mono_l k) _ _ _)
    | with_reducible refine Lim.ite ?_ ?_
    | with_reducible refine Lim.bind ?_ (fun _ => ?_)
    | exact Lim.of (fun k => (laws_markPanelS.mono_l k) _ _ _)
theorem laws_markPanelS.F_eq (l0 : List (S97)) (a1 : Int) : laws_markPanelS.F l0 a1 = laws_markPanelS.L0 l0 a1 0 := by
  refine Lim.eq (g := fun k => laws_markPanelS.f k l0 a1) ?_
  unfold laws_markPanelS.f
  repeat' first
    | exact Lim.const _
    | with_reducible exact Lim.of (fun k => (laws_markPanelS.mono_l k) _ _ _)
    | with_reducible refine Lim.ite ?_ ?_
    | with_reducible refine Lim.bind ?_ (fun _ => ?_)
    | exact Lim.of (fun k => (laws_markPanelS.mono_l k) _ _ _)

noncomputable def laws_heldPanelS.L0 (x0 : List (S97)) (x1 : Int) (x5 : Int) : Option (Int) := lim (fun k => laws_heldPanelS.l0 k x0 x1 x5)
noncomputable def laws_heldPanelS.F (l0 : List (S97)) (a1 : Int) : Option (Int) := lim (fun k => laws_heldPanelS.f k l0 a1)
theorem laws_heldPanelS.L0_eq (x0 : List (S97)) (x1 : Int) (x5 : Int) : laws_heldPanelS.L0 x0 x1 x5 = if x5 < (x0.length : Int) then (if 0 ≤ x5 then (if ((rd_T97 x0 x5).f0) = x1 then (if ((rd_T97 x0 x5).f1) = (wrap64 (x1 + 1)) then (laws_heldPanelS.L0 x0 (wrap64 ((wrap64 (x1 + 1)) + 1)) (wrap64 (x5 + 1))) else (some (-1))) else (some (-1))) else (none)) else (some x1) := by
  refine Lim.step (f := fun k => if x5 < (x0.length : Int) then (if 0 ≤ x5 then (if ((rd_T97 x0 x5).f0) = x1 then (if ((rd_T97 x0 x5).f1) = (wrap64 (x1 + 1)) then (laws_heldPanelS.l0 k x0 (wrap64 ((wrap64 (x1 + 1)) + 1)) (wrap64 (x5 + 1))) else (some (-1))) else (some (-1))) else (none)) else (some x1)) (fun k => (laws_heldPanelS.mono_l k) x0 x1 x5) (fun k => by simp only [laws_heldPanelS.l0]) ?_
  repeat' first
    | exact Lim.const _
    | with_reducible exact Lim.of (fun k => (laws_heldPanelS.mono_l k) _ _ _)
    | with_reducible refine Lim.ite ?_ ?_
    | with_reducible refine Lim.bind ?_ (fun _ => ?_)
    | exact Lim.of (fun k => (laws_heldPanelS.mono_l k) _ _ _)
theorem laws_heldPanelS.F_eq (l0 : List (S97)) (a1 : Int) : laws_heldPanelS.F l0 a1 = laws_heldPanelS.L0 l0 a1 0 := by
  refine Lim.eq (g := fun k => laws_heldPanelS.f k l0 a1) ?_
  unfold laws_heldPanelS.f
  repeat' first
    | exact Lim.const _
    | with_reducible exact Lim.of (fun k => (laws_heldPanelS.mono_l k) _ _ _)
    | with_reducible refine Lim.ite ?_ ?_
    | with_reducible refine Lim.bind ?_ (fun _ => ?_)
    | exact Lim.of (fun k => (laws_heldPanelS.mono_l k) _ _ _)

noncomputable def laws_FnExactTurnPanels.J0 (x0 : List (S99)) (x4 : List (S97)) (x5 : Int) (x6 : List (S97)) (x7 : List (S97)) (x8 : Int) (x40 : Bool) : Option (Bool) := lim (fun k => laws_FnExactTurnPanels.j0 k x0 x4 x5 x6 x7 x8 x40)
noncomputable def laws_FnExactTurnPanels.J1 (x0 : List (S99)) (x4 : List (S97)) (x5 : Int) (x7 : List (S97)) (x61 : Bool) : Option (Bool) := lim (fun k => laws_FnExactTurnPanels.j1 k x0 x4 x5 x7 x61)
noncomputable def laws_FnExactTurnPanels.J2 (x7 : List (S97)) (x10 : Int) (x87 : Bool) : Option (Bool) := lim (fun k => laws_FnExactTurnPanels.j2 k x7 x10 x87)
noncomputable def laws_FnExactTurnPanels.F (l0 : List (S99)) : Option (Bool) := lim (fun k => laws_FnExactTurnPanels.f k l0)
theorem laws_FnExactTurnPanels.J0_eq (x0 : List (S99)) (x4 : List (S97)) (x5 : Int) (x6 : List (S97)) (x7 : List (S97)) (x8 : Int) (x40 : Bool) : laws_FnExactTurnPanels.J0 x0 x4 x5 x6 x7 x8 x40 = if x40 = true then (some false) else ((laws_toPanelS.F x0).bind fun t164 => ((laws_eqPanelS.F x6 t164).bind fun t167 => (if t167 = true then ((laws_markPanelS.F x6 1).bind fun bt168 => (if bt168.1 < 0 then (laws_FnExactTurnPanels.J1 x0 x4 x5 x7 true) else ((laws_eqPanelS.F x7 x4).bind fun t170 => (if t170 = true then (laws_FnExactTurnPanels.J1 x0 x4 x5 x7 (x8 != x5)) else (laws_FnExactTurnPanels.J1 x0 x4 x5 x7 true))))) else (some false)))) := by
  refine Lim.step (f := fun k => if x40 = true then (some false) else ((laws_toPanelS.f k x0).bind fun t164 => ((laws_eqPanelS.f k x6 t164).bind fun t167 => (if t167 = true then ((laws_markPanelS.f k x6 1).bind fun bt168 => (if bt168.1 < 0 then (laws_FnExactTurnPanels.j1 k x0 x4 x5 x7 true) else ((laws_eqPanelS.f k x7 x4).bind fun t170 => (if t170 = true then (laws_FnExactTurnPanels.j1 k x0 x4 x5 x7 (x8 != x5)) else (laws_FnExactTurnPanels.j1 k x0 x4 x5 x7 true))))) else (some false))))) (fun k => (laws_FnExactTurnPanels.mono_l k).1 x0 x4 x5 x6 x7 x8 x40) (fun k => by simp only [laws_FnExactTurnPanels.j0]) ?_
  repeat' first
    | exact Lim.const _
    | with_reducible exact Lim.of (fun k => (laws_FnExactTurnPanels.mono_l k).2.1 _ _ _ _ _)
    | with_reducible exact Lim.of (fun k => laws_eqPanelS.mono _ _ k)
    | with_reducible exact Lim.of (fun k => laws_markPanelS.mono _ _ k)
    | with_reducible exact Lim.of (fun k => laws_toPanelS.mono _ k)
    | with_reducible refine Lim.ite ?_ ?_
    | with_reducible refine Lim.bind ?_ (fun _ => ?_)
    | exact Lim.of (fun k => (laws_FnExactTurnPanels.mono_l k).2.1 _ _ _ _ _)
    | exact Lim.of (fun k => laws_eqPanelS.mono _ _ k)
    | exact Lim.of (fun k => laws_markPanelS.mono _ _ k)
    | exact Lim.of (fun k => laws_toPanelS.mono _ k)
theorem laws_FnExactTurnPanels.J1_eq (x0 : List (S99)) (x4 : List (S97)) (x5 : Int) (x7 : List (S97)) (x61 : Bool) : laws_FnExactTurnPanels.J1 x0 x4 x5 x7 x61 = if x61 = true then (some false) else ((laws_markPanelS.F x7 1).bind fun bt171 => ((laws_heldPanelS.F bt171.2 1).bind fun t173 => (if t173 < 0 then (some false) else (if t173 = bt171.1 then ((laws_toPanelS.F x0).bind fun t174 => ((impl_TurnPanels.F t174).bind fun bt177 => ((laws_eqPanelS.F bt177.1 x4).bind fun t181 => (if t181 = true then (laws_FnExactTurnPanels.J2 bt171.2 bt171.1 (bt177.2 != x5)) else (laws_FnExactTurnPanels.J2 bt171.2 bt171.1 true))))) else (some false))))) := by
  refine Lim.step (f := fun k => if x61 = true then (some false) else ((laws_markPanelS.f k x7 1).bind fun bt171 => ((laws_heldPanelS.f k bt171.2 1).bind fun t173 => (if t173 < 0 then (some false) else (if t173 = bt171.1 then ((laws_toPanelS.f k x0).bind fun t174 => ((impl_TurnPanels.f k t174).bind fun bt177 => ((laws_eqPanelS.f k bt177.1 x4).bind fun t181 => (if t181 = true then (laws_FnExactTurnPanels.j2 k bt171.2 bt171.1 (bt177.2 != x5)) else (laws_FnExactTurnPanels.j2 k bt171.2 bt171.1 true))))) else (some false)))))) (fun k => (laws_FnExactTurnPanels.mono_l k).2.1 x0 x4 x5 x7 x61) (fun k => by simp only [laws_FnExactTurnPanels.j1]) ?_
  repeat' first
    | exact Lim.const _
    | with_reducible exact Lim.of (fun k => impl_TurnPanels.mono _ k)
    | with_reducible exact Lim.of (fun k => (laws_FnExactTurnPanels.mono_l k).2.2 _ _ _)
    | with_reducible exact Lim.of (fun k => laws_eqPanelS.mono _ _ k)
    | with_reducible exact Lim.of (fun k => laws_heldPanelS.mono _ _ k)
    | with_reducible exact Lim.of (fun k => laws_markPanelS.mono _ _ k)
    | with_reducible exact Lim.of (fun k => laws_toPanelS.mono _ k)
    | with_reducible refine Lim.ite ?_ ?_
    | with_reducible refine Lim.bind ?_ (fun _ => ?_)
    | exact Lim.of (fun k => impl_TurnPanels.mono _ k)
    | exact Lim.of (fun k => (laws_FnExactTurnPanels.mono_l k).2.2 _ _ _)
    | exact Lim.of (fun k => laws_eqPanelS.mono _ _ k)
    | exact Lim.of (fun k => laws_heldPanelS.mono _ _ k)
    | exact Lim.of (fun k => laws_markPanelS.mono _ _ k)
    | exact Lim.of (fun k => laws_toPanelS.mono _ k)
theorem laws_FnExactTurnPanels.J2_eq (x7 : List (S97)) (x10 : Int) (x87 : Bool) : laws_FnExactTurnPanels.J2 x7 x10 x87 = if x87 = true then (some false) else ((laws_heldPanelS.F x7 1).bind fun t182 => (if t182 < 0 then (some false) else (if t182 = x10 then (some true) else (some false)))) := by
  refine Lim.step (f := fun k => if x87 = true then (some false) else ((laws_heldPanelS.f k x7 1).bind fun t182 => (if t182 < 0 then (some false) else (if t182 = x10 then (some true) else (some false))))) (fun k => (laws_FnExactTurnPanels.mono_l k).2.2 x7 x10 x87) (fun k => by simp only [laws_FnExactTurnPanels.j2]) ?_
  repeat' first
    | exact Lim.const _
    | with_reducible exact Lim.of (fun k => laws_heldPanelS.mono _ _ k)
    | with_reducible refine Lim.ite ?_ ?_
    | with_reducible refine Lim.bind ?_ (fun _ => ?_)
    | exact Lim.of (fun k => laws_heldPanelS.mono _ _ k)
theorem laws_FnExactTurnPanels.F_eq (l0 : List (S99)) : laws_FnExactTurnPanels.F l0 = (laws_szPanelS.f l0 1048576).bind fun t148 => (if t148 < 0 then (some true) else ((laws_toPanelS.F l0).bind fun t149 => ((spec_TurnPanels.F t149).bind fun bt152 => ((laws_toPanelS.F l0).bind fun t156 => ((impl_TurnPanels.F t156).bind fun bt159 => ((laws_eqPanelS.F bt159.1 bt152.1).bind fun t163 => (if t163 = true then (laws_FnExactTurnPanels.J0 l0 bt152.1 bt152.2 t156 bt159.1 bt159.2 (bt159.2 != bt152.2)) else (laws_FnExactTurnPanels.J0 l0 bt152.1 bt152.2 t156 bt159.1 bt159.2 true)))))))) := by
  refine Lim.eq (g := fun k => laws_FnExactTurnPanels.f k l0) ?_
  unfold laws_FnExactTurnPanels.f
  repeat' first
    | exact Lim.const _
    | with_reducible exact Lim.of (fun k => impl_TurnPanels.mono _ k)
    | with_reducible exact Lim.of (fun k => (laws_FnExactTurnPanels.mono_l k).1 _ _ _ _ _ _ _)
    | with_reducible exact Lim.of (fun k => laws_eqPanelS.mono _ _ k)
    | with_reducible exact Lim.of (fun k => laws_toPanelS.mono _ k)
    | with_reducible exact Lim.of (fun k => spec_TurnPanels.mono _ k)
    | with_reducible refine Lim.ite ?_ ?_
    | with_reducible refine Lim.bind ?_ (fun _ => ?_)
    | exact Lim.of (fun k => impl_TurnPanels.mono _ k)
    | exact Lim.of (fun k => (laws_FnExactTurnPanels.mono_l k).1 _ _ _ _ _ _ _)
    | exact Lim.of (fun k => laws_eqPanelS.mono _ _ k)
    | exact Lim.of (fun k => laws_toPanelS.mono _ k)
    | exact Lim.of (fun k => spec_TurnPanels.mono _ k)

end Go.Proofs.Ytobejjbnklcgpaa.PFnExactTurnPanels
