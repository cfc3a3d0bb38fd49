/-
  Written by a program of this session (wip/tools/lims.py): the printed functions without their bound on rounds.
-/
import Derived.Test.YtjehpokkbekapaaPFnExactSamePanelsx1
import Derived.Test.YtjehpokkbekapaaPFnExactSamePanelsx2
import Derived.Test.YtjehpokkbekapaaPFnExactSamePanelsx3
import Derived.Test.YtjehpokkbekapaaKit
set_option linter.unusedVariables false
set_option linter.unusedSimpArgs false
namespace Go.Proofs.Ytjehpokkbekapaa.PFnExactSamePanels
open Go.RowKit Go.Proofs.Ytjehpokkbekapaa.Kit Go.Proofs.YtjehpokkbekapaaW.PrintWords Go.Proofs.YtjehpokkbekapaaW.PrintLast Go.Proofs.YtjehpokkbekapaaW.PrintMore

noncomputable def laws_toPanelS.L0 (x0 : List (S50)) (x3 : List (S48)) (x4 : Int) : Option ((List (S48))) := lim (fun k => laws_toPanelS.l0 k x0 x3 x4)
noncomputable def laws_toPanelS.F (l0 : List (S50)) : Option ((List (S48))) := lim (fun k => laws_toPanelS.f k l0)
theorem laws_toPanelS.L0_eq (x0 : List (S50)) (x3 : List (S48)) (x4 : Int) : laws_toPanelS.L0 x0 x3 x4 = if x4 < (x0.length : Int) then (if 0 ≤ x4 then ((laws_toPanel.f ((rd_T50 x0 x4).f0) ((rd_T50 x0 x4).f1)).bind fun bt108 => (if x4 < (x3.length : Int) then (laws_toPanelS.L0 x0 (x3.set (x4 : Int).toNat (⟨bt108.1, bt108.2⟩ : S48)) (wrap64 (x4 + 1))) else (none))) else (none)) else (some x3) := by
  refine Lim.step (f := fun k => if x4 < (x0.length : Int) then (if 0 ≤ x4 then ((laws_toPanel.f ((rd_T50 x0 x4).f0) ((rd_T50 x0 x4).f1)).bind fun bt108 => (if x4 < (x3.length : Int) then (laws_toPanelS.l0 k x0 (x3.set (x4 : Int).toNat (⟨bt108.1, bt108.2⟩ : S48)) (wrap64 (x4 + 1))) else (none))) else (none)) else (some x3)) (fun k => (laws_toPanelS.mono_l k) x0 x3 x4) (fun k => by simp only [laws_toPanelS.l0]) ?_
  repeat' first
    | exact Lim.const _
    | with_reducible exact Lim.of (fun k => (laws_toPanelS.mono_l k) _ _ _)
    | with_reducible refine Lim.ite ?_ ?_
    | with_reducible refine Lim.bind ?_ (fun _ => ?_)
    | exact Lim.of (fun k => (laws_toPanelS.mono_l k) _ _ _)
theorem laws_toPanelS.F_eq (l0 : List (S50)) : laws_toPanelS.F l0 = if 0 ≤ (l0.length : Int) then (if ((l0.length : Int) : Int).toNat ≤ 17592186044416 then (laws_toPanelS.L0 l0 (List.replicate ((l0.length : Int) : Int).toNat z48) 0) else (none)) else (none) := by
  refine Lim.eq (g := fun k => laws_toPanelS.f k l0) ?_
  unfold laws_toPanelS.f
  repeat' first
    | exact Lim.const _
    | with_reducible exact Lim.of (fun k => (laws_toPanelS.mono_l k) _ _ _)
    | with_reducible refine Lim.ite ?_ ?_
    | with_reducible refine Lim.bind ?_ (fun _ => ?_)
    | exact Lim.of (fun k => (laws_toPanelS.mono_l k) _ _ _)

noncomputable def laws_eqPanelS.L0 (x0 : List (S48)) (x1 : List (S48)) (x5 : Int) : Option (Bool) := lim (fun k => laws_eqPanelS.l0 k x0 x1 x5)
noncomputable def laws_eqPanelS.F (l0 : List (S48)) (l1 : List (S48)) : Option (Bool) := lim (fun k => laws_eqPanelS.f k l0 l1)
theorem laws_eqPanelS.L0_eq (x0 : List (S48)) (x1 : List (S48)) (x5 : Int) : laws_eqPanelS.L0 x0 x1 x5 = if x5 < (x0.length : Int) then (if 0 ≤ x5 then (if x5 < (x1.length : Int) then ((laws_eqPanel.f ((rd_T48 x0 x5).f0) ((rd_T48 x0 x5).f1) ((rd_T48 x1 x5).f0) ((rd_T48 x1 x5).f1)).bind fun t115 => (if t115 = true then (laws_eqPanelS.L0 x0 x1 (wrap64 (x5 + 1))) else (some false))) else (none)) else (none)) else (some true) := by
  refine Lim.step (f := fun k => if x5 < (x0.length : Int) then (if 0 ≤ x5 then (if x5 < (x1.length : Int) then ((laws_eqPanel.f ((rd_T48 x0 x5).f0) ((rd_T48 x0 x5).f1) ((rd_T48 x1 x5).f0) ((rd_T48 x1 x5).f1)).bind fun t115 => (if t115 = true then (laws_eqPanelS.l0 k x0 x1 (wrap64 (x5 + 1))) else (some false))) else (none)) else (none)) else (some true)) (fun k => (laws_eqPanelS.mono_l k) x0 x1 x5) (fun k => by simp only [laws_eqPanelS.l0]) ?_
  repeat' first
    | exact Lim.const _
    | with_reducible exact Lim.of (fun k => (laws_eqPanelS.mono_l k) _ _ _)
    | with_reducible refine Lim.ite ?_ ?_
    | with_reducible refine Lim.bind ?_ (fun _ => ?_)
    | exact Lim.of (fun k => (laws_eqPanelS.mono_l k) _ _ _)
theorem laws_eqPanelS.F_eq (l0 : List (S48)) (l1 : List (S48)) : laws_eqPanelS.F l0 l1 = if (l0.length : Int) = (l1.length : Int) then (laws_eqPanelS.L0 l0 l1 0) else (some false) := by
  refine Lim.eq (g := fun k => laws_eqPanelS.f k l0 l1) ?_
  unfold laws_eqPanelS.f
  repeat' first
    | exact Lim.const _
    | with_reducible exact Lim.of (fun k => (laws_eqPanelS.mono_l k) _ _ _)
    | with_reducible refine Lim.ite ?_ ?_
    | with_reducible refine Lim.bind ?_ (fun _ => ?_)
    | exact Lim.of (fun k => (laws_eqPanelS.mono_l k) _ _ _)

noncomputable def spec_SamePanels.L0 (x0 : List (S48)) (x1 : List (S48)) (x5 : Int) : Option (Bool) := lim (fun k => spec_SamePanels.l0 k x0 x1 x5)
noncomputable def spec_SamePanels.F (l0 : List (S48)) (l1 : List (S48)) : Option (Bool) := lim (fun k => spec_SamePanels.f k l0 l1)
theorem spec_SamePanels.L0_eq (x0 : List (S48)) (x1 : List (S48)) (x5 : Int) : spec_SamePanels.L0 x0 x1 x5 = if x5 < (x0.length : Int) then (if 0 ≤ x5 then (if x5 < (x1.length : Int) then (if (!(((rd_T48 x0 x5).f0) == ((rd_T48 x1 x5).f0)) || (!(((rd_T48 x0 x5).f1) == ((rd_T48 x1 x5).f1)))) = true then (some false) else (spec_SamePanels.L0 x0 x1 (wrap64 (x5 + 1)))) else (none)) else (none)) else (some true) := by
  refine Lim.step (f := fun k => if x5 < (x0.length : Int) then (if 0 ≤ x5 then (if x5 < (x1.length : Int) then (if (!(((rd_T48 x0 x5).f0) == ((rd_T48 x1 x5).f0)) || (!(((rd_T48 x0 x5).f1) == ((rd_T48 x1 x5).f1)))) = true then (some false) else (spec_SamePanels.l0 k x0 x1 (wrap64 (x5 + 1)))) else (none)) else (none)) else (some true)) (fun k => (spec_SamePanels.mono_l k) x0 x1 x5) (fun k => by simp only [spec_SamePanels.l0]) ?_
  repeat' first
    | exact Lim.const _
    | with_reducible exact Lim.of (fun k => (spec_SamePanels.mono_l k) _ _ _)
    | with_reducible refine Lim.ite ?_ ?_
    | with_reducible refine Lim.bind ?_ (fun _ => ?_)
    | exact Lim.of (fun k => (spec_SamePanels.mono_l k) _ _ _)
theorem spec_SamePanels.F_eq (l0 : List (S48)) (l1 : List (S48)) : spec_SamePanels.F l0 l1 = if (l0.length : Int) = (l1.length : Int) then (spec_SamePanels.L0 l0 l1 0) else (some false) := by
  refine Lim.eq (g := fun k => spec_SamePanels.f k l0 l1) ?_
  unfold spec_SamePanels.f
  repeat' first
    | exact Lim.const _
    | with_reducible exact Lim.of (fun k => (spec_SamePanels.mono_l k) _ _ _)
    | with_reducible refine Lim.ite ?_ ?_
    | with_reducible refine Lim.bind ?_ (fun _ => ?_)
    | exact Lim.of (fun k => (spec_SamePanels.mono_l k) _ _ _)

noncomputable def impl_Panel.L0 (x0 : List (S48)) (x1 : List (S48)) (x12 : Int) (x13 : Int) : Option (Bool) := lim (fun k => impl_Panel.l0 k x0 x1 x12 x13)
noncomputable def impl_Panel.F (l0 : List (S48)) (l1 : List (S48)) : Option (Bool) := lim (fun k => impl_Panel.f k l0 l1)
theorem impl_Panel.L0_eq (x0 : List (S48)) (x1 : List (S48)) (x12 : Int) (x13 : Int) : impl_Panel.L0 x0 x1 x12 x13 = if x13 < x12 then (if 0 ≤ x13 then (if x13 < (x0.length : Int) then (if x13 < (x1.length : Int) then (if (!(((rd_T48 x0 x13).f0) == ((rd_T48 x1 x13).f0)) || (!(((rd_T48 x0 x13).f1) == ((rd_T48 x1 x13).f1)))) = true then (some false) else (impl_Panel.L0 x0 x1 x12 (wrap64 (x13 + 1)))) else (none)) else (none)) else (none)) else (some true) := by
  refine Lim.step (f := fun k => if x13 < x12 then (if 0 ≤ x13 then (if x13 < (x0.length : Int) then (if x13 < (x1.length : Int) then (if (!(((rd_T48 x0 x13).f0) == ((rd_T48 x1 x13).f0)) || (!(((rd_T48 x0 x13).f1) == ((rd_T48 x1 x13).f1)))) = true then (some false) else (impl_Panel.l0 k x0 x1 x12 (wrap64 (x13 + 1)))) else (none)) else (none)) else (none)) else (some true)) (fun k => (impl_Panel.mono_l k) x0 x1 x12 x13) (fun k => by simp only [impl_Panel.l0]) ?_
  repeat' first
    | exact Lim.const _
    | with_reducible exact Lim.of (fun k => (impl_Panel.mono_l k) _ _ _ _)
    | with_reducible refine Lim.ite ?_ ?_
    | with_reducible refine Lim.bind ?_ (fun _ => ?_)
    | exact Lim.of (fun k => (impl_Panel.mono_l k) _ _ _ _)
theorem impl_Panel.F_eq (l0 : List (S48)) (l1 : List (S48)) : impl_Panel.F l0 l1 = if (l0.length : Int) = (l1.length : Int) then (impl_Panel.L0 l0 l1 (l0.length : Int) 0) else (some false) := by
  refine Lim.eq (g := fun k => impl_Panel.f k l0 l1) ?_
  unfold impl_Panel.f
  repeat' first
    | exact Lim.const _
    | with_reducible exact Lim.of (fun k => (impl_Panel.mono_l k) _ _ _ _)
    | with_reducible refine Lim.ite ?_ ?_
    | with_reducible refine Lim.bind ?_ (fun _ => ?_)
    | exact Lim.of (fun k => (impl_Panel.mono_l k) _ _ _ _)

noncomputable def impl_SamePanels.F (l0 : List (S48)) (l1 : List (S48)) : Option (Bool) := lim (fun k => impl_SamePanels.f k l0 l1)
theorem impl_SamePanels.F_eq (l0 : List (S48)) (l1 : List (S48)) : impl_SamePanels.F l0 l1 = (impl_Panel.F l0 l1).bind fun t120 => (some t120) := by
  refine Lim.eq (g := fun k => impl_SamePanels.f k l0 l1) ?_
  unfold impl_SamePanels.f
  repeat' first
    | exact Lim.const _
    | with_reducible exact Lim.of (fun k => impl_Panel.mono _ _ k)
    | with_reducible refine Lim.ite ?_ ?_
    | with_reducible refine Lim.bind ?_ (fun _ => ?_)
    | exact Lim.of (fun k => impl_Panel.mono _ _ k)

noncomputable def laws_FnExactSamePanels.F (l0 : List (S50)) (l1 : List (S50)) : Option (Bool) := lim (fun k => laws_FnExactSamePanels.f k l0 l1)
theorem laws_FnExactSamePanels.F_eq (l0 : List (S50)) (l1 : List (S50)) : laws_FnExactSamePanels.F l0 l1 = (laws_szPanelS.f l0 1048576).bind fun t121 => (if t121 < 0 then (some true) else ((laws_szPanelS.f l1 t121).bind fun t122 => (if t122 < 0 then (some true) else ((laws_toPanelS.F l0).bind fun t123 => ((laws_toPanelS.F l1).bind fun t126 => ((spec_SamePanels.F t123 t126).bind fun t129 => ((laws_toPanelS.F l0).bind fun t130 => ((laws_toPanelS.F l1).bind fun t133 => ((impl_SamePanels.F t130 t133).bind fun t136 => (if (t136 != t129) = true then (some false) else ((laws_toPanelS.F l0).bind fun t137 => ((laws_eqPanelS.F t130 t137).bind fun t140 => (if t140 = true then ((laws_toPanelS.F l1).bind fun t141 => ((laws_eqPanelS.F t133 t141).bind fun t144 => (if t144 = true then (some true) else (some false)))) else (some false)))))))))))))) := by
  refine Lim.eq (g := fun k => laws_FnExactSamePanels.f k l0 l1) ?_
  unfold laws_FnExactSamePanels.f
  repeat' first
    | exact Lim.const _
    | with_reducible exact Lim.of (fun k => impl_SamePanels.mono _ _ k)
    | with_reducible exact Lim.of (fun k => laws_eqPanelS.mono _ _ k)
    | with_reducible exact Lim.of (fun k => laws_toPanelS.mono _ k)
    | with_reducible exact Lim.of (fun k => spec_SamePanels.mono _ _ k)
    | with_reducible refine Lim.ite ?_ ?_
    | with_reducible refine Lim.bind ?_ (fun _ => ?_)
    | exact Lim.of (fun k => impl_SamePanels.mono _ _ k)
    | exact Lim.of (fun k => laws_eqPanelS.mono _ _ k)
    | exact Lim.of (fun k => laws_toPanelS.mono _ k)
    | exact Lim.of (fun k => spec_SamePanels.mono _ _ k)

end Go.Proofs.Ytjehpokkbekapaa.PFnExactSamePanels
