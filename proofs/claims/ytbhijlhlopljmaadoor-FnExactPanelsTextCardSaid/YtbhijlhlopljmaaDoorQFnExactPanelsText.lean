/-
  Written by a program of this session (wip/tools/lims.py): the printed functions without their bound on rounds.
-/
import Derived.Test.YtbhijlhlopljmaaDoorPFnExactPanelsTextx1
import Derived.Test.YtbhijlhlopljmaaDoorPFnExactPanelsTextx2
import Derived.Test.YtbhijlhlopljmaaDoorPFnExactPanelsTextx3
import Derived.Test.YtbhijlhlopljmaaDoorPFnExactPanelsTextx4
import Derived.Test.YtbhijlhlopljmaaDoorKit
set_option linter.unusedVariables false
set_option linter.unusedSimpArgs false
namespace Go.Proofs.YtbhijlhlopljmaaDoor.PFnExactPanelsText
open Go.RowKit Go.Proofs.YtbhijlhlopljmaaDoor.Kit Go.Proofs.YtbhijlhlopljmaaDoorW.PrintWords Go.Proofs.YtbhijlhlopljmaaDoorW.PrintLast Go.Proofs.YtbhijlhlopljmaaDoorW.PrintMore

noncomputable def spec_l01Dec.L0 (x0 : Int) (x3 : List Int) (x4 : Int) : Option (ByteArray) := lim (fun k => spec_l01Dec.l0 k x0 x3 x4)
theorem spec_l01Dec.L0_lim (x0 : Int) (x3 : List Int) (x4 : Int) : Lim (fun k => spec_l01Dec.l0 k x0 x3 x4) (spec_l01Dec.L0 x0 x3 x4) := Lim.of (fun k => (spec_l01Dec.mono_l k) x0 x3 x4)
noncomputable def spec_l01Dec.F (a0 : Int) : Option (ByteArray) := lim (fun k => spec_l01Dec.f k a0)
theorem spec_l01Dec.F_lim (a0 : Int) : Lim (fun k => spec_l01Dec.f k a0) (spec_l01Dec.F a0) := Lim.of (fun k => spec_l01Dec.mono a0 k)
theorem spec_l01Dec.L0_eq (x0 : Int) (x3 : List Int) (x4 : Int) : spec_l01Dec.L0 x0 x3 x4 = if x4 = 0 then (if (x3.length : Int) = 0 then (some (⟨#[48]⟩ : ByteArray)) else (if x0 < 0 then (if 1 + (strOfNums x3).size ≤ 9223372036854775807 then (some ((⟨#[45]⟩ : ByteArray) ++ (strOfNums x3))) else (none)) else (some (strOfNums x3)))) else (if (Int.tmod x4 10) < 0 then ((some (([(wrap64 (48 + (wrap64 (-(Int.tmod x4 10))))) % 256] : List Int) : List Int)).bind fun y104 => (if y104.length + x3.length < 140737488355328 then (spec_l01Dec.L0 x0 (y104 ++ x3) (wrap64 (Int.tdiv x4 10))) else (none))) else ((some (([(wrap64 (48 + (Int.tmod x4 10))) % 256] : List Int) : List Int)).bind fun y110 => (if y110.length + x3.length < 140737488355328 then (spec_l01Dec.L0 x0 (y110 ++ x3) (wrap64 (Int.tdiv x4 10))) else (none)))) := by
  refine Lim.next (fun k => (spec_l01Dec.mono_l k) x0 x3 x4) ?_
  simp only [spec_l01Dec.l0]
  repeat' with_reducible first | exact Lim.const _ | exact spec_l01Dec.L0_lim _ _ _ | refine Lim.ite ?_ ?_ | refine Lim.bind ?_ (fun _ => ?_)
theorem spec_l01Dec.F_eq (a0 : Int) : spec_l01Dec.F a0 = spec_l01Dec.L0 a0 (([] : List Int)) a0 := by
  refine Lim.eq (g := fun k => spec_l01Dec.f k a0) ?_
  unfold spec_l01Dec.f
  repeat' with_reducible first | exact Lim.const _ | exact spec_l01Dec.L0_lim _ _ _ | refine Lim.ite ?_ ?_ | refine Lim.bind ?_ (fun _ => ?_)

noncomputable def spec_l15List.L0 (x0 : List (S53)) (x3 : Int) : Option (Bool) := lim (fun k => spec_l15List.l0 k x0 x3)
theorem spec_l15List.L0_lim (x0 : List (S53)) (x3 : Int) : Lim (fun k => spec_l15List.l0 k x0 x3) (spec_l15List.L0 x0 x3) := Lim.of (fun k => (spec_l15List.mono_l k) x0 x3)
noncomputable def spec_l15List.F (l0 : List (S53)) : Option (Bool) := lim (fun k => spec_l15List.f k l0)
theorem spec_l15List.F_lim (l0 : List (S53)) : Lim (fun k => spec_l15List.f k l0) (spec_l15List.F l0) := Lim.of (fun k => spec_l15List.mono l0 k)
theorem spec_l15List.L0_eq (x0 : List (S53)) (x3 : Int) : spec_l15List.L0 x0 x3 = if x3 < (x0.length : Int) then (if 0 ≤ x3 then ((spec_l00In.f ((rd_T53 x0 x3).f0) 1 10000).bind fun t117 => (if t117 = true then ((spec_l00In.f ((rd_T53 x0 x3).f1) 1 200).bind fun t119 => (if t119 = true then (spec_l15List.L0 x0 (wrap64 (x3 + 1))) else (some false))) else (some false))) else (none)) else (some (decide ((x0.length : Int) ≤ 40))) := by
  refine Lim.next (fun k => (spec_l15List.mono_l k) x0 x3) ?_
  simp only [spec_l15List.l0]
  repeat' with_reducible first | exact Lim.const _ | exact spec_l15List.L0_lim _ _ | refine Lim.ite ?_ ?_ | refine Lim.bind ?_ (fun _ => ?_)
theorem spec_l15List.F_eq (l0 : List (S53)) : spec_l15List.F l0 = spec_l15List.L0 l0 0 := by
  refine Lim.eq (g := fun k => spec_l15List.f k l0) ?_
  unfold spec_l15List.f
  repeat' with_reducible first | exact Lim.const _ | exact spec_l15List.L0_lim _ _ | refine Lim.ite ?_ ?_ | refine Lim.bind ?_ (fun _ => ?_)

noncomputable def spec_PanelsText.L0 (x0 : List (S53)) (x3 : ByteArray) (x4 : Int) : Option (ByteArray) := lim (fun k => spec_PanelsText.l0 k x0 x3 x4)
theorem spec_PanelsText.L0_lim (x0 : List (S53)) (x3 : ByteArray) (x4 : Int) : Lim (fun k => spec_PanelsText.l0 k x0 x3 x4) (spec_PanelsText.L0 x0 x3 x4) := Lim.of (fun k => (spec_PanelsText.mono_l k) x0 x3 x4)
noncomputable def spec_PanelsText.F (l0 : List (S53)) : Option (ByteArray) := lim (fun k => spec_PanelsText.f k l0)
theorem spec_PanelsText.F_lim (l0 : List (S53)) : Lim (fun k => spec_PanelsText.f k l0) (spec_PanelsText.F l0) := Lim.of (fun k => spec_PanelsText.mono l0 k)
theorem spec_PanelsText.L0_eq (x0 : List (S53)) (x3 : ByteArray) (x4 : Int) : spec_PanelsText.L0 x0 x3 x4 = if x4 < (x0.length : Int) then (if x4 > 0 then (if x3.size + 1 ≤ 9223372036854775807 then (if 0 ≤ x4 then ((spec_l01Dec.F ((rd_T53 x0 x4).f0)).bind fun t122 => (if t122.size + 1 ≤ 9223372036854775807 then ((spec_l01Dec.F ((rd_T53 x0 x4).f1)).bind fun t124 => (if t122.size + 1 + t124.size ≤ 9223372036854775807 then (if x3.size + 1 + (t122.size + 1 + t124.size) ≤ 9223372036854775807 then (spec_PanelsText.L0 x0 ((x3 ++ (⟨#[32]⟩ : ByteArray)) ++ ((t122 ++ (⟨#[120]⟩ : ByteArray)) ++ t124)) (wrap64 (x4 + 1))) else (none)) else (none))) else (none))) else (none)) else (none)) else (if 0 ≤ x4 then ((spec_l01Dec.F ((rd_T53 x0 x4).f0)).bind fun t126 => (if t126.size + 1 ≤ 9223372036854775807 then ((spec_l01Dec.F ((rd_T53 x0 x4).f1)).bind fun t128 => (if t126.size + 1 + t128.size ≤ 9223372036854775807 then (if x3.size + (t126.size + 1 + t128.size) ≤ 9223372036854775807 then (spec_PanelsText.L0 x0 (x3 ++ ((t126 ++ (⟨#[120]⟩ : ByteArray)) ++ t128)) (wrap64 (x4 + 1))) else (none)) else (none))) else (none))) else (none))) else (some x3) := by
  refine Lim.next (fun k => (spec_PanelsText.mono_l k) x0 x3 x4) ?_
  simp only [spec_PanelsText.l0]
  repeat' with_reducible first | exact Lim.const _ | exact spec_PanelsText.L0_lim _ _ _ | exact spec_l01Dec.F_lim _ | refine Lim.ite ?_ ?_ | refine Lim.bind ?_ (fun _ => ?_)
theorem spec_PanelsText.F_eq (l0 : List (S53)) : spec_PanelsText.F l0 = (spec_l15List.F l0).bind fun t120 => (if t120 = true then (spec_PanelsText.L0 l0 (⟨#[]⟩ : ByteArray) 0) else (some (⟨#[]⟩ : ByteArray))) := by
  refine Lim.eq (g := fun k => spec_PanelsText.f k l0) ?_
  unfold spec_PanelsText.f
  repeat' with_reducible first | exact Lim.const _ | exact spec_PanelsText.L0_lim _ _ _ | exact spec_l15List.F_lim _ | refine Lim.ite ?_ ?_ | refine Lim.bind ?_ (fun _ => ?_)

noncomputable def laws_toPanelS.L0 (x0 : List (S55)) (x3 : List (S53)) (x4 : Int) : Option ((List (S53))) := lim (fun k => laws_toPanelS.l0 k x0 x3 x4)
theorem laws_toPanelS.L0_lim (x0 : List (S55)) (x3 : List (S53)) (x4 : Int) : Lim (fun k => laws_toPanelS.l0 k x0 x3 x4) (laws_toPanelS.L0 x0 x3 x4) := Lim.of (fun k => (laws_toPanelS.mono_l k) x0 x3 x4)
noncomputable def laws_toPanelS.F (l0 : List (S55)) : Option ((List (S53))) := lim (fun k => laws_toPanelS.f k l0)
theorem laws_toPanelS.F_lim (l0 : List (S55)) : Lim (fun k => laws_toPanelS.f k l0) (laws_toPanelS.F l0) := Lim.of (fun k => laws_toPanelS.mono l0 k)
theorem laws_toPanelS.L0_eq (x0 : List (S55)) (x3 : List (S53)) (x4 : Int) : laws_toPanelS.L0 x0 x3 x4 = if x4 < (x0.length : Int) then (if 0 ≤ x4 then ((laws_toPanel.f ((rd_T55 x0 x4).f0) ((rd_T55 x0 x4).f1)).bind fun bt136 => (if x4 < (x3.length : Int) then (laws_toPanelS.L0 x0 (x3.set (x4 : Int).toNat (⟨bt136.1, bt136.2⟩ : S53)) (wrap64 (x4 + 1))) else (none))) else (none)) else (some x3) := by
  refine Lim.next (fun k => (laws_toPanelS.mono_l k) x0 x3 x4) ?_
  simp only [laws_toPanelS.l0]
  repeat' with_reducible first | exact Lim.const _ | exact laws_toPanelS.L0_lim _ _ _ | refine Lim.ite ?_ ?_ | refine Lim.bind ?_ (fun _ => ?_)
theorem laws_toPanelS.F_eq (l0 : List (S55)) : laws_toPanelS.F l0 = if 0 ≤ (l0.length : Int) then (if ((l0.length : Int) : Int).toNat ≤ 17592186044416 then (laws_toPanelS.L0 l0 (List.replicate ((l0.length : Int) : Int).toNat z53) 0) else (none)) else (none) := by
  refine Lim.eq (g := fun k => laws_toPanelS.f k l0) ?_
  unfold laws_toPanelS.f
  repeat' with_reducible first | exact Lim.const _ | exact laws_toPanelS.L0_lim _ _ _ | refine Lim.ite ?_ ?_ | refine Lim.bind ?_ (fun _ => ?_)

noncomputable def impl_ValidPanels.L0 (x8 : List (S53)) (x9 x10 : Int) : Option (Bool) := lim (fun k => impl_ValidPanels.l0 k x8 x9 x10)
theorem impl_ValidPanels.L0_lim (x8 : List (S53)) (x9 x10 : Int) : Lim (fun k => impl_ValidPanels.l0 k x8 x9 x10) (impl_ValidPanels.L0 x8 x9 x10) := Lim.of (fun k => (impl_ValidPanels.mono_l k) x8 x9 x10)
noncomputable def impl_ValidPanels.F (l0 : List (S53)) : Option (Bool) := lim (fun k => impl_ValidPanels.f k l0)
theorem impl_ValidPanels.F_lim (l0 : List (S53)) : Lim (fun k => impl_ValidPanels.f k l0) (impl_ValidPanels.F l0) := Lim.of (fun k => impl_ValidPanels.mono l0 k)
theorem impl_ValidPanels.L0_eq (x8 : List (S53)) (x9 x10 : Int) : impl_ValidPanels.L0 x8 x9 x10 = if x10 < x9 then (if 0 ≤ x10 then (if x10 < (x8.length : Int) then ((impl_within.f ((rd_T53 x8 x10).f0) 1 10000).bind fun t142 => (if t142 = true then ((impl_within.f ((rd_T53 x8 x10).f1) 1 200).bind fun t143 => (if t143 = true then (impl_ValidPanels.L0 x8 x9 (wrap64 (x10 + 1))) else (some false))) else (some false))) else (none)) else (none)) else (some true) := by
  refine Lim.next (fun k => (impl_ValidPanels.mono_l k) x8 x9 x10) ?_
  simp only [impl_ValidPanels.l0]
  repeat' with_reducible first | exact Lim.const _ | exact impl_ValidPanels.L0_lim _ _ _ | refine Lim.ite ?_ ?_ | refine Lim.bind ?_ (fun _ => ?_)
theorem impl_ValidPanels.F_eq (l0 : List (S53)) : impl_ValidPanels.F l0 = if (l0.length : Int) > 40 then (some false) else (impl_ValidPanels.L0 l0 (l0.length : Int) 0) := by
  refine Lim.eq (g := fun k => impl_ValidPanels.f k l0) ?_
  unfold impl_ValidPanels.f
  repeat' with_reducible first | exact Lim.const _ | exact impl_ValidPanels.L0_lim _ _ _ | refine Lim.ite ?_ ?_ | refine Lim.bind ?_ (fun _ => ?_)

noncomputable def impl_PanelsText.L0 (x3 : List ByteArray) (x10 : List (S53)) (x11 x12 : Int) : Option (ByteArray) := lim (fun k => impl_PanelsText.l0 k x3 x10 x11 x12)
theorem impl_PanelsText.L0_lim (x3 : List ByteArray) (x10 : List (S53)) (x11 x12 : Int) : Lim (fun k => impl_PanelsText.l0 k x3 x10 x11 x12) (impl_PanelsText.L0 x3 x10 x11 x12) := Lim.of (fun k => (impl_PanelsText.mono_l k) x3 x10 x11 x12)
noncomputable def impl_PanelsText.F (l0 : List (S53)) : Option (ByteArray) := lim (fun k => impl_PanelsText.f k l0)
theorem impl_PanelsText.F_lim (l0 : List (S53)) : Lim (fun k => impl_PanelsText.f k l0) (impl_PanelsText.F l0) := Lim.of (fun k => impl_PanelsText.mono l0 k)
theorem impl_PanelsText.L0_eq (x3 : List ByteArray) (x10 : List (S53)) (x11 x12 : Int) : impl_PanelsText.L0 x3 x10 x11 x12 = if x12 < x11 then (if 0 ≤ x12 then (if x12 < (x10.length : Int) then ((impl_Decimal.f ((rd_T53 x10 x12).f0)).bind fun t150 => (if t150.size + 1 ≤ 9223372036854775807 then ((impl_Decimal.f ((rd_T53 x10 x12).f1)).bind fun t151 => (if t150.size + 1 + t151.size ≤ 9223372036854775807 then (if x3.length < 8796093022208 then (impl_PanelsText.L0 (x3 ++ [(t150 ++ (⟨#[120]⟩ : ByteArray)) ++ t151]) x10 x11 (wrap64 (x12 + 1))) else (none)) else (none))) else (none))) else (none)) else (none)) else ((strings_Join.f x3 (⟨#[32]⟩ : ByteArray)).bind fun t155 => (some t155)) := by
  refine Lim.next (fun k => (impl_PanelsText.mono_l k) x3 x10 x11 x12) ?_
  simp only [impl_PanelsText.l0]
  repeat' with_reducible first | exact Lim.const _ | exact impl_PanelsText.L0_lim _ _ _ _ | refine Lim.ite ?_ ?_ | refine Lim.bind ?_ (fun _ => ?_)
theorem impl_PanelsText.F_eq (l0 : List (S53)) : impl_PanelsText.F l0 = (impl_ValidPanels.F l0).bind fun t144 => (if t144 = true then (impl_PanelsText.L0 (([] : List ByteArray)) l0 (l0.length : Int) 0) else (some (⟨#[]⟩ : ByteArray))) := by
  refine Lim.eq (g := fun k => impl_PanelsText.f k l0) ?_
  unfold impl_PanelsText.f
  repeat' with_reducible first | exact Lim.const _ | exact impl_PanelsText.L0_lim _ _ _ _ | exact impl_ValidPanels.F_lim _ | refine Lim.ite ?_ ?_ | refine Lim.bind ?_ (fun _ => ?_)

noncomputable def laws_eqPanelS.L0 (x0 x1 : List (S53)) (x5 : Int) : Option (Bool) := lim (fun k => laws_eqPanelS.l0 k x0 x1 x5)
theorem laws_eqPanelS.L0_lim (x0 x1 : List (S53)) (x5 : Int) : Lim (fun k => laws_eqPanelS.l0 k x0 x1 x5) (laws_eqPanelS.L0 x0 x1 x5) := Lim.of (fun k => (laws_eqPanelS.mono_l k) x0 x1 x5)
noncomputable def laws_eqPanelS.F (l0 l1 : List (S53)) : Option (Bool) := lim (fun k => laws_eqPanelS.f k l0 l1)
theorem laws_eqPanelS.F_lim (l0 l1 : List (S53)) : Lim (fun k => laws_eqPanelS.f k l0 l1) (laws_eqPanelS.F l0 l1) := Lim.of (fun k => laws_eqPanelS.mono l0 l1 k)
theorem laws_eqPanelS.L0_eq (x0 x1 : List (S53)) (x5 : Int) : laws_eqPanelS.L0 x0 x1 x5 = if x5 < (x0.length : Int) then (if 0 ≤ x5 then (if x5 < (x1.length : Int) then ((laws_eqPanel.f ((rd_T53 x0 x5).f0) ((rd_T53 x0 x5).f1) ((rd_T53 x1 x5).f0) ((rd_T53 x1 x5).f1)).bind fun t160 => (if t160 = true then (laws_eqPanelS.L0 x0 x1 (wrap64 (x5 + 1))) else (some false))) else (none)) else (none)) else (some true) := by
  refine Lim.next (fun k => (laws_eqPanelS.mono_l k) x0 x1 x5) ?_
  simp only [laws_eqPanelS.l0]
  repeat' with_reducible first | exact Lim.const _ | exact laws_eqPanelS.L0_lim _ _ _ | refine Lim.ite ?_ ?_ | refine Lim.bind ?_ (fun _ => ?_)
theorem laws_eqPanelS.F_eq (l0 l1 : List (S53)) : laws_eqPanelS.F l0 l1 = if (l0.length : Int) = (l1.length : Int) then (laws_eqPanelS.L0 l0 l1 0) else (some false) := by
  refine Lim.eq (g := fun k => laws_eqPanelS.f k l0 l1) ?_
  unfold laws_eqPanelS.f
  repeat' with_reducible first | exact Lim.const _ | exact laws_eqPanelS.L0_lim _ _ _ | refine Lim.ite ?_ ?_ | refine Lim.bind ?_ (fun _ => ?_)

noncomputable def laws_FnExactPanelsText.F (l0 : List (S55)) : Option (Bool) := lim (fun k => laws_FnExactPanelsText.f k l0)
theorem laws_FnExactPanelsText.F_lim (l0 : List (S55)) : Lim (fun k => laws_FnExactPanelsText.f k l0) (laws_FnExactPanelsText.F l0) := Lim.of (fun k => laws_FnExactPanelsText.mono l0 k)
theorem laws_FnExactPanelsText.F_eq (l0 : List (S55)) : laws_FnExactPanelsText.F l0 = (laws_szPanelS.f l0 1048576).bind fun t161 => (if t161 < 0 then (some true) else ((laws_toPanelS.F l0).bind fun t162 => ((spec_PanelsText.F t162).bind fun t165 => ((laws_toPanelS.F l0).bind fun t166 => ((impl_PanelsText.F t166).bind fun t169 => (if t169.toList = t165.toList then ((laws_toPanelS.F l0).bind fun t170 => ((laws_eqPanelS.F t166 t170).bind fun t173 => (if t173 = true then (some true) else (some false)))) else (some false))))))) := by
  refine Lim.eq (g := fun k => laws_FnExactPanelsText.f k l0) ?_
  unfold laws_FnExactPanelsText.f
  repeat' with_reducible first | exact Lim.const _ | exact impl_PanelsText.F_lim _ | exact laws_eqPanelS.F_lim _ _ | exact laws_toPanelS.F_lim _ | exact spec_PanelsText.F_lim _ | refine Lim.ite ?_ ?_ | refine Lim.bind ?_ (fun _ => ?_)

end Go.Proofs.YtbhijlhlopljmaaDoor.PFnExactPanelsText
