/-
  Written by a program of this session (wip/tools/lims.py): the printed functions without their bound on rounds.
-/
import Derived.Test.YtjehpokkbekapaaPFnExactValidPanelsx1
import Derived.Test.YtjehpokkbekapaaPFnExactValidPanelsx2
import Derived.Test.YtjehpokkbekapaaKit
set_option linter.unusedVariables false
set_option linter.unusedSimpArgs false
namespace Go.Proofs.Ytjehpokkbekapaa.PFnExactValidPanels
open Go.RowKit Go.Proofs.Ytjehpokkbekapaa.Kit Go.Proofs.YtjehpokkbekapaaW.PrintWords Go.Proofs.YtjehpokkbekapaaW.PrintLast Go.Proofs.YtjehpokkbekapaaW.PrintMore

noncomputable def spec_l15List.L0 (x0 : List (S48)) (x3 : Int) : Option (Bool) := lim (fun k => spec_l15List.l0 k x0 x3)
noncomputable def spec_l15List.F (l0 : List (S48)) : Option (Bool) := lim (fun k => spec_l15List.f k l0)
theorem spec_l15List.L0_eq (x0 : List (S48)) (x3 : Int) : spec_l15List.L0 x0 x3 = if x3 < (x0.length : Int) then (if 0 ≤ x3 then ((spec_l00In.f ((rd_T48 x0 x3).f0) 1 10000).bind fun t102 => (if t102 = true then ((spec_l00In.f ((rd_T48 x0 x3).f1) 1 200).bind fun t104 => (if t104 = true then (spec_l15List.L0 x0 (wrap64 (x3 + 1))) else (some false))) else (some false))) else (none)) else (some (decide ((x0.length : Int) ≤ 40))) := by
  refine Lim.step (f := fun k => if x3 < (x0.length : Int) then (if 0 ≤ x3 then ((spec_l00In.f ((rd_T48 x0 x3).f0) 1 10000).bind fun t102 => (if t102 = true then ((spec_l00In.f ((rd_T48 x0 x3).f1) 1 200).bind fun t104 => (if t104 = true then (spec_l15List.l0 k x0 (wrap64 (x3 + 1))) else (some false))) else (some false))) else (none)) else (some (decide ((x0.length : Int) ≤ 40)))) (fun k => (spec_l15List.mono_l k) x0 x3) (fun k => by simp only [spec_l15List.l0]) ?_
  repeat' first
    | exact Lim.const _
    | with_reducible exact Lim.of (fun k => (spec_l15List.mono_l k) _ _)
    | with_reducible refine Lim.ite ?_ ?_
    | with_reducible refine Lim.bind ?_ (fun _ => ?_)
    | exact Lim.of (fun k => (spec_l15List.mono_l k) _ _)
theorem spec_l15List.F_eq (l0 : List (S48)) : spec_l15List.F l0 = spec_l15List.L0 l0 0 := by
  refine Lim.eq (g := fun k => spec_l15List.f k l0) ?_
  unfold spec_l15List.f
  repeat' first
    | exact Lim.const _
    | with_reducible exact Lim.of (fun k => (spec_l15List.mono_l k) _ _)
    | with_reducible refine Lim.ite ?_ ?_
    | with_reducible refine Lim.bind ?_ (fun _ => ?_)
    | exact Lim.of (fun k => (spec_l15List.mono_l k) _ _)

noncomputable def spec_ValidPanels.F (l0 : List (S48)) : Option (Bool) := lim (fun k => spec_ValidPanels.f k l0)
theorem spec_ValidPanels.F_eq (l0 : List (S48)) : spec_ValidPanels.F l0 = (spec_l15List.F l0).bind fun t105 => (some t105) := by
  refine Lim.eq (g := fun k => spec_ValidPanels.f k l0) ?_
  unfold spec_ValidPanels.f
  repeat' first
    | exact Lim.const _
    | with_reducible exact Lim.of (fun k => spec_l15List.mono _ k)
    | with_reducible refine Lim.ite ?_ ?_
    | with_reducible refine Lim.bind ?_ (fun _ => ?_)
    | exact Lim.of (fun k => spec_l15List.mono _ k)

noncomputable def laws_toPanelS.L0 (x0 : List (S50)) (x3 : List (S48)) (x4 : Int) : Option ((List (S48))) := lim (fun k => laws_toPanelS.l0 k x0 x3 x4)
noncomputable def laws_toPanelS.F (l0 : List (S50)) : Option ((List (S48))) := lim (fun k => laws_toPanelS.f k l0)
theorem laws_toPanelS.L0_eq (x0 : List (S50)) (x3 : List (S48)) (x4 : Int) : laws_toPanelS.L0 x0 x3 x4 = if x4 < (x0.length : Int) then (if 0 ≤ x4 then ((laws_toPanel.f ((rd_T50 x0 x4).f0) ((rd_T50 x0 x4).f1)).bind fun bt113 => (if x4 < (x3.length : Int) then (laws_toPanelS.L0 x0 (x3.set (x4 : Int).toNat (⟨bt113.1, bt113.2⟩ : S48)) (wrap64 (x4 + 1))) else (none))) else (none)) else (some x3) := by
  refine Lim.step (f := fun k => if x4 < (x0.length : Int) then (if 0 ≤ x4 then ((laws_toPanel.f ((rd_T50 x0 x4).f0) ((rd_T50 x0 x4).f1)).bind fun bt113 => (if x4 < (x3.length : Int) then (laws_toPanelS.l0 k x0 (x3.set (x4 : Int).toNat (⟨bt113.1, bt113.2⟩ : S48)) (wrap64 (x4 + 1))) else (none))) else (none)) else (some x3)) (fun k => (laws_toPanelS.mono_l k) x0 x3 x4) (fun k => by simp only [laws_toPanelS.l0]) ?_
  repeat' first
    | exact Lim.const _
    | with_reducible exact Lim.of (fun k => (laws_toPanelS.mono_l k) _ _ _)
    | with_reducible refine Lim.ite ?_ ?_
    | with_reducible refine Lim.bind ?_ (fun _ => ?_)
    | exact Lim.of (fun k => (laws_toPanelS.mono_l k) _ _ _)
theorem laws_toPanelS.F_eq (l0 : List (S50)) : laws_toPanelS.F l0 = if 0 ≤ (l0.length : Int) then (if ((l0.length : Int) : Int).toNat ≤ 17592186044416 then (laws_toPanelS.L0 l0 (List.replicate ((l0.length : Int) : Int).toNat z48) 0) else (none)) else (none) := by
  refine Lim.eq (g := fun k => laws_toPanelS.f k l0) ?_
  unfold laws_toPanelS.f
  repeat' first
    | exact Lim.const _
    | with_reducible exact Lim.of (fun k => (laws_toPanelS.mono_l k) _ _ _)
    | with_reducible refine Lim.ite ?_ ?_
    | with_reducible refine Lim.bind ?_ (fun _ => ?_)
    | exact Lim.of (fun k => (laws_toPanelS.mono_l k) _ _ _)

noncomputable def impl_ValidPanels.L0 (x8 : List (S48)) (x9 : Int) (x10 : Int) : Option (Bool) := lim (fun k => impl_ValidPanels.l0 k x8 x9 x10)
noncomputable def impl_ValidPanels.F (l0 : List (S48)) : Option (Bool) := lim (fun k => impl_ValidPanels.f k l0)
theorem impl_ValidPanels.L0_eq (x8 : List (S48)) (x9 : Int) (x10 : Int) : impl_ValidPanels.L0 x8 x9 x10 = if x10 < x9 then (if 0 ≤ x10 then (if x10 < (x8.length : Int) then ((impl_within.f ((rd_T48 x8 x10).f0) 1 10000).bind fun t118 => (if t118 = true then ((impl_within.f ((rd_T48 x8 x10).f1) 1 200).bind fun t119 => (if t119 = true then (impl_ValidPanels.L0 x8 x9 (wrap64 (x10 + 1))) else (some false))) else (some false))) else (none)) else (none)) else (some true) := by
  refine Lim.step (f := fun k => if x10 < x9 then (if 0 ≤ x10 then (if x10 < (x8.length : Int) then ((impl_within.f ((rd_T48 x8 x10).f0) 1 10000).bind fun t118 => (if t118 = true then ((impl_within.f ((rd_T48 x8 x10).f1) 1 200).bind fun t119 => (if t119 = true then (impl_ValidPanels.l0 k x8 x9 (wrap64 (x10 + 1))) else (some false))) else (some false))) else (none)) else (none)) else (some true)) (fun k => (impl_ValidPanels.mono_l k) x8 x9 x10) (fun k => by simp only [impl_ValidPanels.l0]) ?_
  repeat' first
    | exact Lim.const _
    | with_reducible exact Lim.of (fun k => (impl_ValidPanels.mono_l k) _ _ _)
    | with_reducible refine Lim.ite ?_ ?_
    | with_reducible refine Lim.bind ?_ (fun _ => ?_)
    | exact Lim.of (fun k => (impl_ValidPanels.mono_l k) _ _ _)
theorem impl_ValidPanels.F_eq (l0 : List (S48)) : impl_ValidPanels.F l0 = if (l0.length : Int) > 40 then (some false) else (impl_ValidPanels.L0 l0 (l0.length : Int) 0) := by
  refine Lim.eq (g := fun k => impl_ValidPanels.f k l0) ?_
  unfold impl_ValidPanels.f
  repeat' first
    | exact Lim.const _
    | with_reducible exact Lim.of (fun k => (impl_ValidPanels.mono_l k) _ _ _)
    | with_reducible refine Lim.ite ?_ ?_
    | with_reducible refine Lim.bind ?_ (fun _ => ?_)
    | exact Lim.of (fun k => (impl_ValidPanels.mono_l k) _ _ _)

noncomputable def laws_eqPanelS.L0 (x0 : List (S48)) (x1 : List (S48)) (x5 : Int) : Option (Bool) := lim (fun k => laws_eqPanelS.l0 k x0 x1 x5)
noncomputable def laws_eqPanelS.F (l0 : List (S48)) (l1 : List (S48)) : Option (Bool) := lim (fun k => laws_eqPanelS.f k l0 l1)
theorem laws_eqPanelS.L0_eq (x0 : List (S48)) (x1 : List (S48)) (x5 : Int) : laws_eqPanelS.L0 x0 x1 x5 = if x5 < (x0.length : Int) then (if 0 ≤ x5 then (if x5 < (x1.length : Int) then ((laws_eqPanel.f ((rd_T48 x0 x5).f0) ((rd_T48 x0 x5).f1) ((rd_T48 x1 x5).f0) ((rd_T48 x1 x5).f1)).bind fun t124 => (if t124 = true then (laws_eqPanelS.L0 x0 x1 (wrap64 (x5 + 1))) else (some false))) else (none)) else (none)) else (some true) := by
  refine Lim.step (f := fun k => if x5 < (x0.length : Int) then (if 0 ≤ x5 then (if x5 < (x1.length : Int) then ((laws_eqPanel.f ((rd_T48 x0 x5).f0) ((rd_T48 x0 x5).f1) ((rd_T48 x1 x5).f0) ((rd_T48 x1 x5).f1)).bind fun t124 => (if t124 = true then (laws_eqPanelS.l0 k x0 x1 (wrap64 (x5 + 1))) else (some false))) else (none)) else (none)) else (some true)) (fun k => (laws_eqPanelS.mono_l k) x0 x1 x5) (fun k => by simp only [laws_eqPanelS.l0]) ?_
  repeat' first
    | exact Lim.const _
    | with_reducible exact Lim.of (fun k => (laws_eqPanelS.mono_l k) _ _ _)
    | with_reducible refine Lim.ite ?_ ?_
    | with_reducible refine Lim.bind ?_ (fun _ => ?_)
    | exact Lim.of (fun k => (laws_eqPanelS.mono_l k) _ _ _)
theorem laws_eqPanelS.F_eq (l0 : List (S48)) (l1 : List (S48)) : laws_eqPanelS.F l0 l1 = if (l0.length : Int) = (l1.length : Int) then (laws_eqPanelS.L0 l0 l1 0) else (some false) := by
  refine Lim.eq (g := fun k => laws_eqPanelS.f k l0 l1) ?_
  unfold laws_eqPanelS.f
  repeat' first
    | exact Lim.const _
    | with_reducible exact Lim.of (fun k => (laws_eqPanelS.mono_l k) _ _ _)
    | with_reducible refine Lim.ite ?_ ?_
    | with_reducible refine Lim.bind ?_ (fun _ => ?_)
    | exact Lim.of (fun k => (laws_eqPanelS.mono_l k) _ _ _)

noncomputable def laws_FnExactValidPanels.F (l0 : List (S50)) : Option (Bool) := lim (fun k => laws_FnExactValidPanels.f k l0)
theorem laws_FnExactValidPanels.F_eq (l0 : List (S50)) : laws_FnExactValidPanels.F l0 = (laws_szPanelS.f l0 1048576).bind fun t125 => (if t125 < 0 then (some true) else ((laws_toPanelS.F l0).bind fun t126 => ((spec_ValidPanels.F t126).bind fun t129 => ((laws_toPanelS.F l0).bind fun t130 => ((impl_ValidPanels.F t130).bind fun t133 => (if (t133 != t129) = true then (some false) else ((laws_toPanelS.F l0).bind fun t134 => ((laws_eqPanelS.F t130 t134).bind fun t137 => (if t137 = true then (some true) else (some false)))))))))) := by
  refine Lim.eq (g := fun k => laws_FnExactValidPanels.f k l0) ?_
  unfold laws_FnExactValidPanels.f
  repeat' first
    | exact Lim.const _
    | with_reducible exact Lim.of (fun k => impl_ValidPanels.mono _ k)
    | with_reducible exact Lim.of (fun k => laws_eqPanelS.mono _ _ k)
    | with_reducible exact Lim.of (fun k => laws_toPanelS.mono _ k)
    | with_reducible exact Lim.of (fun k => spec_ValidPanels.mono _ k)
    | with_reducible refine Lim.ite ?_ ?_
    | with_reducible refine Lim.bind ?_ (fun _ => ?_)
    | exact Lim.of (fun k => impl_ValidPanels.mono _ k)
    | exact Lim.of (fun k => laws_eqPanelS.mono _ _ k)
    | exact Lim.of (fun k => laws_toPanelS.mono _ k)
    | exact Lim.of (fun k => spec_ValidPanels.mono _ k)

end Go.Proofs.Ytjehpokkbekapaa.PFnExactValidPanels
