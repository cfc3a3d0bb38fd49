/-
  Written by a program of this session (wip/tools/lims.py): the printed functions without their bound on rounds.
-/
import Derived.Test.YtlphfgbeeckjnaaPFnExactSoundPartsx1
import Derived.Test.YtlphfgbeeckjnaaPFnExactSoundPartsx2
import Derived.Test.YtlphfgbeeckjnaaPFnExactSoundPartsx3
import Derived.Test.YtlphfgbeeckjnaaPFnExactSoundPartsx4
import Derived.Test.YtlphfgbeeckjnaaKit
set_option linter.unusedVariables false
set_option linter.unusedSimpArgs false
namespace Go.Proofs.Ytlphfgbeeckjnaa.PFnExactSoundParts
open Go.RowKit Go.Proofs.Ytlphfgbeeckjnaa.Kit Go.Proofs.YtlphfgbeeckjnaaW.PrintWords Go.Proofs.YtlphfgbeeckjnaaW.PrintLast Go.Proofs.YtlphfgbeeckjnaaW.PrintMore

noncomputable def spec_l00Rises.L0 (x0 : List Int) (x1 : Int) (x2 : Int) (x7 : Int) : Option (Bool) := lim (fun k => spec_l00Rises.l0 k x0 x1 x2 x7)
theorem spec_l00Rises.L0_lim (x0 : List Int) (x1 : Int) (x2 : Int) (x7 : Int) : Lim (fun k => spec_l00Rises.l0 k x0 x1 x2 x7) (spec_l00Rises.L0 x0 x1 x2 x7) := Lim.of (fun k => (spec_l00Rises.mono_l k) x0 x1 x2 x7)
noncomputable def spec_l00Rises.F (l0 : List Int) (a1 : Int) (a2 : Int) : Option (Bool) := lim (fun k => spec_l00Rises.f k l0 a1 a2)
theorem spec_l00Rises.F_lim (l0 : List Int) (a1 : Int) (a2 : Int) : Lim (fun k => spec_l00Rises.f k l0 a1 a2) (spec_l00Rises.F l0 a1 a2) := Lim.of (fun k => spec_l00Rises.mono l0 a1 a2 k)
theorem spec_l00Rises.L0_eq (x0 : List Int) (x1 : Int) (x2 : Int) (x7 : Int) : spec_l00Rises.L0 x0 x1 x2 x7 = if x7 < (x0.length : Int) then (if 0 ≤ x7 then ((spec_l00In.f (rd x0 x7) x1 x2).bind fun t104 => (if t104 = true then (if x7 > 0 then (if 0 ≤ (wrap64 (x7 - 1)) then (if (wrap64 (x7 - 1)) < (x0.length : Int) then (if (rd x0 (wrap64 (x7 - 1))) ≥ (rd x0 x7) then (some false) else (spec_l00Rises.L0 x0 x1 x2 (wrap64 (x7 + 1)))) else (none)) else (none)) else (spec_l00Rises.L0 x0 x1 x2 (wrap64 (x7 + 1)))) else (some false))) else (none)) else (some true) := by
  refine Lim.step (f := fun k => if x7 < (x0.length : Int) then (if 0 ≤ x7 then ((spec_l00In.f (rd x0 x7) x1 x2).bind fun t104 => (if t104 = true then (if x7 > 0 then (if 0 ≤ (wrap64 (x7 - 1)) then (if (wrap64 (x7 - 1)) < (x0.length : Int) then (if (rd x0 (wrap64 (x7 - 1))) ≥ (rd x0 x7) then (some false) else (spec_l00Rises.l0 k x0 x1 x2 (wrap64 (x7 + 1)))) else (none)) else (none)) else (spec_l00Rises.l0 k x0 x1 x2 (wrap64 (x7 + 1)))) else (some false))) else (none)) else (some true)) (fun k => (spec_l00Rises.mono_l k) x0 x1 x2 x7) (fun k => by simp only [spec_l00Rises.l0]) ?_
  repeat' first
    | with_reducible exact Lim.const _
    | with_reducible exact spec_l00Rises.L0_lim _ _ _ _
    | with_reducible refine Lim.ite ?_ ?_
    | with_reducible refine Lim.bind ?_ (fun _ => ?_)
theorem spec_l00Rises.F_eq (l0 : List Int) (a1 : Int) (a2 : Int) : spec_l00Rises.F l0 a1 a2 = spec_l00Rises.L0 l0 a1 a2 0 := by
  refine Lim.eq (g := fun k => spec_l00Rises.f k l0 a1 a2) ?_
  unfold spec_l00Rises.f
  repeat' first
    | with_reducible exact Lim.const _
    | with_reducible exact spec_l00Rises.L0_lim _ _ _ _
    | with_reducible refine Lim.ite ?_ ?_
    | with_reducible refine Lim.bind ?_ (fun _ => ?_)

noncomputable def spec_l16One.F (l0 : List (S29)) : Option (Bool) := lim (fun k => spec_l16One.f k l0)
theorem spec_l16One.F_lim (l0 : List (S29)) : Lim (fun k => spec_l16One.f k l0) (spec_l16One.F l0) := Lim.of (fun k => spec_l16One.mono l0 k)
theorem spec_l16One.F_eq (l0 : List (S29)) : spec_l16One.F l0 = if 0 < (l0.length : Int) then ((spec_l00In.f ((rd_T29 l0 0).f0) 1 10000).bind fun t109 => (if t109 = true then (if (((rd_T29 l0 0).f1).length : Int) ≤ 6 then ((spec_l00Rises.F ((rd_T29 l0 0).f1) 1 (wrap64 (((rd_T29 l0 0).f0) - 1))).bind fun t113 => (some t113)) else (some false)) else (some false))) else (none) := by
  refine Lim.eq (g := fun k => spec_l16One.f k l0) ?_
  unfold spec_l16One.f
  repeat' first
    | with_reducible exact Lim.const _
    | with_reducible exact spec_l00Rises.F_lim _ _ _
    | with_reducible refine Lim.ite ?_ ?_
    | with_reducible refine Lim.bind ?_ (fun _ => ?_)

noncomputable def spec_l16Parts.L0 (x0 : List (S29)) (x3 : List (List Int)) (x4 : Int) (x5 : Int) : Option ((List (List Int))) := lim (fun k => spec_l16Parts.l0 k x0 x3 x4 x5)
theorem spec_l16Parts.L0_lim (x0 : List (S29)) (x3 : List (List Int)) (x4 : Int) (x5 : Int) : Lim (fun k => spec_l16Parts.l0 k x0 x3 x4 x5) (spec_l16Parts.L0 x0 x3 x4 x5) := Lim.of (fun k => (spec_l16Parts.mono_l k) x0 x3 x4 x5)
noncomputable def spec_l16Parts.F (l0 : List (S29)) : Option ((List (List Int))) := lim (fun k => spec_l16Parts.f k l0)
theorem spec_l16Parts.F_lim (l0 : List (S29)) : Lim (fun k => spec_l16Parts.f k l0) (spec_l16Parts.F l0) := Lim.of (fun k => spec_l16Parts.mono l0 k)
theorem spec_l16Parts.L0_eq (x0 : List (S29)) (x3 : List (List Int)) (x4 : Int) (x5 : Int) : spec_l16Parts.L0 x0 x3 x4 x5 = if x5 < (((rd_T29 x0 0).f1).length : Int) then (if 0 ≤ x5 then (if x3.length < 5864062014805 then (spec_l16Parts.L0 x0 (x3 ++ [(([x4, rd ((rd_T29 x0 0).f1) x5] : List Int))]) (rd ((rd_T29 x0 0).f1) x5) (wrap64 (x5 + 1))) else (none)) else (none)) else (if x3.length < 5864062014805 then (some (x3 ++ [(([x4, (rd_T29 x0 0).f0] : List Int))])) else (none)) := by
  refine Lim.step (f := fun k => if x5 < (((rd_T29 x0 0).f1).length : Int) then (if 0 ≤ x5 then (if x3.length < 5864062014805 then (spec_l16Parts.l0 k x0 (x3 ++ [(([x4, rd ((rd_T29 x0 0).f1) x5] : List Int))]) (rd ((rd_T29 x0 0).f1) x5) (wrap64 (x5 + 1))) else (none)) else (none)) else (if x3.length < 5864062014805 then (some (x3 ++ [(([x4, (rd_T29 x0 0).f0] : List Int))])) else (none))) (fun k => (spec_l16Parts.mono_l k) x0 x3 x4 x5) (fun k => by simp only [spec_l16Parts.l0]) ?_
  repeat' first
    | with_reducible exact Lim.const _
    | with_reducible exact spec_l16Parts.L0_lim _ _ _ _
    | with_reducible refine Lim.ite ?_ ?_
    | with_reducible refine Lim.bind ?_ (fun _ => ?_)
theorem spec_l16Parts.F_eq (l0 : List (S29)) : spec_l16Parts.F l0 = if 0 < (l0.length : Int) then (spec_l16Parts.L0 l0 (([] : List (List Int))) 0 0) else (none) := by
  refine Lim.eq (g := fun k => spec_l16Parts.f k l0) ?_
  unfold spec_l16Parts.f
  repeat' first
    | with_reducible exact Lim.const _
    | with_reducible exact spec_l16Parts.L0_lim _ _ _ _
    | with_reducible refine Lim.ite ?_ ?_
    | with_reducible refine Lim.bind ?_ (fun _ => ?_)

noncomputable def spec_SoundParts.F (a0_0 : Int) (l0_1 : List Int) : Option ((List (List Int)) × Int) := lim (fun k => spec_SoundParts.f k a0_0 l0_1)
theorem spec_SoundParts.F_lim (a0_0 : Int) (l0_1 : List Int) : Lim (fun k => spec_SoundParts.f k a0_0 l0_1) (spec_SoundParts.F a0_0 l0_1) := Lim.of (fun k => spec_SoundParts.mono a0_0 l0_1 k)
theorem spec_SoundParts.F_eq (a0_0 : Int) (l0_1 : List Int) : spec_SoundParts.F a0_0 l0_1 = (spec_l16One.F [(⟨a0_0, l0_1⟩ : S29)]).bind fun t138 => (if t138 = true then ((spec_l16Parts.F [(⟨a0_0, l0_1⟩ : S29)]).bind fun t140 => (some (t140, 0))) else (some (([] : List (List Int)), 1))) := by
  refine Lim.eq (g := fun k => spec_SoundParts.f k a0_0 l0_1) ?_
  unfold spec_SoundParts.f
  repeat' first
    | with_reducible exact Lim.const _
    | with_reducible exact spec_l16One.F_lim _
    | with_reducible exact spec_l16Parts.F_lim _
    | with_reducible refine Lim.ite ?_ ?_
    | with_reducible refine Lim.bind ?_ (fun _ => ?_)

noncomputable def laws_toInt64S.L0 (x0 : List Int) (x3 : List Int) (x4 : Int) : Option (List Int) := lim (fun k => laws_toInt64S.l0 k x0 x3 x4)
theorem laws_toInt64S.L0_lim (x0 : List Int) (x3 : List Int) (x4 : Int) : Lim (fun k => laws_toInt64S.l0 k x0 x3 x4) (laws_toInt64S.L0 x0 x3 x4) := Lim.of (fun k => (laws_toInt64S.mono_l k) x0 x3 x4)
noncomputable def laws_toInt64S.F (l0 : List Int) : Option (List Int) := lim (fun k => laws_toInt64S.f k l0)
theorem laws_toInt64S.F_lim (l0 : List Int) : Lim (fun k => laws_toInt64S.f k l0) (laws_toInt64S.F l0) := Lim.of (fun k => laws_toInt64S.mono l0 k)
theorem laws_toInt64S.L0_eq (x0 : List Int) (x3 : List Int) (x4 : Int) : laws_toInt64S.L0 x0 x3 x4 = if x4 < (x0.length : Int) then (if 0 ≤ x4 then (if x4 < (x3.length : Int) then (laws_toInt64S.L0 x0 (x3.set (x4 : Int).toNat (rd x0 x4)) (wrap64 (x4 + 1))) else (none)) else (none)) else (some x3) := by
  refine Lim.step (f := fun k => if x4 < (x0.length : Int) then (if 0 ≤ x4 then (if x4 < (x3.length : Int) then (laws_toInt64S.l0 k x0 (x3.set (x4 : Int).toNat (rd x0 x4)) (wrap64 (x4 + 1))) else (none)) else (none)) else (some x3)) (fun k => (laws_toInt64S.mono_l k) x0 x3 x4) (fun k => by simp only [laws_toInt64S.l0]) ?_
  repeat' first
    | with_reducible exact Lim.const _
    | with_reducible exact laws_toInt64S.L0_lim _ _ _
    | with_reducible refine Lim.ite ?_ ?_
    | with_reducible refine Lim.bind ?_ (fun _ => ?_)
theorem laws_toInt64S.F_eq (l0 : List Int) : laws_toInt64S.F l0 = if 0 ≤ (l0.length : Int) then (if ((l0.length : Int) : Int).toNat ≤ 35184372088832 then (laws_toInt64S.L0 l0 (List.replicate ((l0.length : Int) : Int).toNat 0) 0) else (none)) else (none) := by
  refine Lim.eq (g := fun k => laws_toInt64S.f k l0) ?_
  unfold laws_toInt64S.f
  repeat' first
    | with_reducible exact Lim.const _
    | with_reducible exact laws_toInt64S.L0_lim _ _ _
    | with_reducible refine Lim.ite ?_ ?_
    | with_reducible refine Lim.bind ?_ (fun _ => ?_)

noncomputable def laws_toBolt.F (a0_0 : Int) (l0_1 : List Int) : Option (Int × List Int) := lim (fun k => laws_toBolt.f k a0_0 l0_1)
theorem laws_toBolt.F_lim (a0_0 : Int) (l0_1 : List Int) : Lim (fun k => laws_toBolt.f k a0_0 l0_1) (laws_toBolt.F a0_0 l0_1) := Lim.of (fun k => laws_toBolt.mono a0_0 l0_1 k)
theorem laws_toBolt.F_eq (a0_0 : Int) (l0_1 : List Int) : laws_toBolt.F a0_0 l0_1 = (laws_toInt64S.F l0_1).bind fun t151 => (some (a0_0, t151)) := by
  refine Lim.eq (g := fun k => laws_toBolt.f k a0_0 l0_1) ?_
  unfold laws_toBolt.f
  repeat' first
    | with_reducible exact Lim.const _
    | with_reducible exact laws_toInt64S.F_lim _
    | with_reducible refine Lim.ite ?_ ?_
    | with_reducible refine Lim.bind ?_ (fun _ => ?_)

noncomputable def impl_validBolt.J0 (x14 : Bool) (x155000 : Int) (x155001 : List Int) : Option (Bool) := lim (fun k => impl_validBolt.j0 k x14 x155000 x155001)
theorem impl_validBolt.J0_lim (x14 : Bool) (x155000 : Int) (x155001 : List Int) : Lim (fun k => impl_validBolt.j0 k x14 x155000 x155001) (impl_validBolt.J0 x14 x155000 x155001) := Lim.of (fun k => (impl_validBolt.mono_l k).1 x14 x155000 x155001)
noncomputable def impl_validBolt.L0 (x16 : List Int) (x17 : Int) (x18 : Int) (x155000 : Int) (x155001 : List Int) : Option (Bool) := lim (fun k => impl_validBolt.l0 k x16 x17 x18 x155000 x155001)
theorem impl_validBolt.L0_lim (x16 : List Int) (x17 : Int) (x18 : Int) (x155000 : Int) (x155001 : List Int) : Lim (fun k => impl_validBolt.l0 k x16 x17 x18 x155000 x155001) (impl_validBolt.L0 x16 x17 x18 x155000 x155001) := Lim.of (fun k => (impl_validBolt.mono_l k).2 x16 x17 x18 x155000 x155001)
noncomputable def impl_validBolt.F (a0_0 : Int) (l0_1 : List Int) : Option (Bool) := lim (fun k => impl_validBolt.f k a0_0 l0_1)
theorem impl_validBolt.F_lim (a0_0 : Int) (l0_1 : List Int) : Lim (fun k => impl_validBolt.f k a0_0 l0_1) (impl_validBolt.F a0_0 l0_1) := Lim.of (fun k => impl_validBolt.mono a0_0 l0_1 k)
theorem impl_validBolt.J0_eq (x14 : Bool) (x155000 : Int) (x155001 : List Int) : impl_validBolt.J0 x14 x155000 x155001 = if x14 = true then (some false) else (impl_validBolt.L0 x155001 (x155001.length : Int) 0 x155000 x155001) := by
  refine Lim.step (f := fun k => if x14 = true then (some false) else (impl_validBolt.l0 k x155001 (x155001.length : Int) 0 x155000 x155001)) (fun k => (impl_validBolt.mono_l k).1 x14 x155000 x155001) (fun k => by simp only [impl_validBolt.j0]) ?_
  repeat' first
    | with_reducible exact Lim.const _
    | with_reducible exact impl_validBolt.L0_lim _ _ _ _ _
    | with_reducible refine Lim.ite ?_ ?_
    | with_reducible refine Lim.bind ?_ (fun _ => ?_)
theorem impl_validBolt.L0_eq (x16 : List Int) (x17 : Int) (x18 : Int) (x155000 : Int) (x155001 : List Int) : impl_validBolt.L0 x16 x17 x18 x155000 x155001 = if x18 < x17 then (if 0 ≤ x18 then (if x18 < (x16.length : Int) then ((impl_within.f (rd x16 x18) 1 (wrap64 (x155000 - 1))).bind fun t157 => (if t157 = true then (if x18 > 0 then (if 0 ≤ (wrap64 (x18 - 1)) then (if (wrap64 (x18 - 1)) < (x155001.length : Int) then (if (rd x16 x18) ≤ (rd x155001 (wrap64 (x18 - 1))) then (some false) else (impl_validBolt.L0 x16 x17 (wrap64 (x18 + 1)) x155000 x155001)) else (none)) else (none)) else (impl_validBolt.L0 x16 x17 (wrap64 (x18 + 1)) x155000 x155001)) else (some false))) else (none)) else (none)) else (some true) := by
  refine Lim.step (f := fun k => if x18 < x17 then (if 0 ≤ x18 then (if x18 < (x16.length : Int) then ((impl_within.f (rd x16 x18) 1 (wrap64 (x155000 - 1))).bind fun t157 => (if t157 = true then (if x18 > 0 then (if 0 ≤ (wrap64 (x18 - 1)) then (if (wrap64 (x18 - 1)) < (x155001.length : Int) then (if (rd x16 x18) ≤ (rd x155001 (wrap64 (x18 - 1))) then (some false) else (impl_validBolt.l0 k x16 x17 (wrap64 (x18 + 1)) x155000 x155001)) else (none)) else (none)) else (impl_validBolt.l0 k x16 x17 (wrap64 (x18 + 1)) x155000 x155001)) else (some false))) else (none)) else (none)) else (some true)) (fun k => (impl_validBolt.mono_l k).2 x16 x17 x18 x155000 x155001) (fun k => by simp only [impl_validBolt.l0]) ?_
  repeat' first
    | with_reducible exact Lim.const _
    | with_reducible exact impl_validBolt.L0_lim _ _ _ _ _
    | with_reducible refine Lim.ite ?_ ?_
    | with_reducible refine Lim.bind ?_ (fun _ => ?_)
theorem impl_validBolt.F_eq (a0_0 : Int) (l0_1 : List Int) : impl_validBolt.F a0_0 l0_1 = (impl_within.f a0_0 1 10000).bind fun t155 => (if t155 = true then (impl_validBolt.J0 (decide ((l0_1.length : Int) > 6)) a0_0 l0_1) else (impl_validBolt.J0 true a0_0 l0_1)) := by
  refine Lim.eq (g := fun k => impl_validBolt.f k a0_0 l0_1) ?_
  unfold impl_validBolt.f
  repeat' first
    | with_reducible exact Lim.const _
    | with_reducible exact impl_validBolt.J0_lim _ _ _
    | with_reducible refine Lim.ite ?_ ?_
    | with_reducible refine Lim.bind ?_ (fun _ => ?_)

noncomputable def impl_soundParts.L0 (x3 : List (List Int)) (x4 : Int) (x9 : List Int) (x10 : Int) (x11 : Int) (x160000 : Int) (x160001 : List Int) : Option ((List (List Int))) := lim (fun k => impl_soundParts.l0 k x3 x4 x9 x10 x11 x160000 x160001)
theorem impl_soundParts.L0_lim (x3 : List (List Int)) (x4 : Int) (x9 : List Int) (x10 : Int) (x11 : Int) (x160000 : Int) (x160001 : List Int) : Lim (fun k => impl_soundParts.l0 k x3 x4 x9 x10 x11 x160000 x160001) (impl_soundParts.L0 x3 x4 x9 x10 x11 x160000 x160001) := Lim.of (fun k => (impl_soundParts.mono_l k) x3 x4 x9 x10 x11 x160000 x160001)
noncomputable def impl_soundParts.F (a0_0 : Int) (l0_1 : List Int) : Option ((List (List Int))) := lim (fun k => impl_soundParts.f k a0_0 l0_1)
theorem impl_soundParts.F_lim (a0_0 : Int) (l0_1 : List Int) : Lim (fun k => impl_soundParts.f k a0_0 l0_1) (impl_soundParts.F a0_0 l0_1) := Lim.of (fun k => impl_soundParts.mono a0_0 l0_1 k)
theorem impl_soundParts.L0_eq (x3 : List (List Int)) (x4 : Int) (x9 : List Int) (x10 : Int) (x11 : Int) (x160000 : Int) (x160001 : List Int) : impl_soundParts.L0 x3 x4 x9 x10 x11 x160000 x160001 = if x11 < x10 then (if 0 ≤ x11 then (if x11 < (x9.length : Int) then (if x3.length < 5864062014805 then (impl_soundParts.L0 (x3 ++ [(([x4, rd x9 x11] : List Int))]) (rd x9 x11) x9 x10 (wrap64 (x11 + 1)) x160000 x160001) else (none)) else (none)) else (none)) else (if x3.length < 5864062014805 then (some (x3 ++ [(([x4, x160000] : List Int))])) else (none)) := by
  refine Lim.step (f := fun k => if x11 < x10 then (if 0 ≤ x11 then (if x11 < (x9.length : Int) then (if x3.length < 5864062014805 then (impl_soundParts.l0 k (x3 ++ [(([x4, rd x9 x11] : List Int))]) (rd x9 x11) x9 x10 (wrap64 (x11 + 1)) x160000 x160001) else (none)) else (none)) else (none)) else (if x3.length < 5864062014805 then (some (x3 ++ [(([x4, x160000] : List Int))])) else (none))) (fun k => (impl_soundParts.mono_l k) x3 x4 x9 x10 x11 x160000 x160001) (fun k => by simp only [impl_soundParts.l0]) ?_
  repeat' first
    | with_reducible exact Lim.const _
    | with_reducible exact impl_soundParts.L0_lim _ _ _ _ _ _ _
    | with_reducible refine Lim.ite ?_ ?_
    | with_reducible refine Lim.bind ?_ (fun _ => ?_)
theorem impl_soundParts.F_eq (a0_0 : Int) (l0_1 : List Int) : impl_soundParts.F a0_0 l0_1 = impl_soundParts.L0 (([] : List (List Int))) 0 l0_1 (l0_1.length : Int) 0 a0_0 l0_1 := by
  refine Lim.eq (g := fun k => impl_soundParts.f k a0_0 l0_1) ?_
  unfold impl_soundParts.f
  repeat' first
    | with_reducible exact Lim.const _
    | with_reducible exact impl_soundParts.L0_lim _ _ _ _ _ _ _
    | with_reducible refine Lim.ite ?_ ?_
    | with_reducible refine Lim.bind ?_ (fun _ => ?_)

noncomputable def impl_SoundParts.F (a0_0 : Int) (l0_1 : List Int) : Option ((List (List Int)) × Int) := lim (fun k => impl_SoundParts.f k a0_0 l0_1)
theorem impl_SoundParts.F_lim (a0_0 : Int) (l0_1 : List Int) : Lim (fun k => impl_SoundParts.f k a0_0 l0_1) (impl_SoundParts.F a0_0 l0_1) := Lim.of (fun k => impl_SoundParts.mono a0_0 l0_1 k)
theorem impl_SoundParts.F_eq (a0_0 : Int) (l0_1 : List Int) : impl_SoundParts.F a0_0 l0_1 = (impl_validBolt.F a0_0 l0_1).bind fun t177 => (if t177 = true then ((impl_soundParts.F a0_0 l0_1).bind fun t178 => (some (t178, 0))) else (some (([] : List (List Int)), 1))) := by
  refine Lim.eq (g := fun k => impl_SoundParts.f k a0_0 l0_1) ?_
  unfold impl_SoundParts.f
  repeat' first
    | with_reducible exact Lim.const _
    | with_reducible exact impl_soundParts.F_lim _ _
    | with_reducible exact impl_validBolt.F_lim _ _
    | with_reducible refine Lim.ite ?_ ?_
    | with_reducible refine Lim.bind ?_ (fun _ => ?_)

noncomputable def laws_eqInt64S.L0 (x0 : List Int) (x1 : List Int) (x5 : Int) : Option (Bool) := lim (fun k => laws_eqInt64S.l0 k x0 x1 x5)
theorem laws_eqInt64S.L0_lim (x0 : List Int) (x1 : List Int) (x5 : Int) : Lim (fun k => laws_eqInt64S.l0 k x0 x1 x5) (laws_eqInt64S.L0 x0 x1 x5) := Lim.of (fun k => (laws_eqInt64S.mono_l k) x0 x1 x5)
noncomputable def laws_eqInt64S.F (l0 : List Int) (l1 : List Int) : Option (Bool) := lim (fun k => laws_eqInt64S.f k l0 l1)
theorem laws_eqInt64S.F_lim (l0 : List Int) (l1 : List Int) : Lim (fun k => laws_eqInt64S.f k l0 l1) (laws_eqInt64S.F l0 l1) := Lim.of (fun k => laws_eqInt64S.mono l0 l1 k)
theorem laws_eqInt64S.L0_eq (x0 : List Int) (x1 : List Int) (x5 : Int) : laws_eqInt64S.L0 x0 x1 x5 = if x5 < (x0.length : Int) then (if 0 ≤ x5 then (if x5 < (x1.length : Int) then (if (rd x0 x5) = (rd x1 x5) then (laws_eqInt64S.L0 x0 x1 (wrap64 (x5 + 1))) else (some false)) else (none)) else (none)) else (some true) := by
  refine Lim.step (f := fun k => if x5 < (x0.length : Int) then (if 0 ≤ x5 then (if x5 < (x1.length : Int) then (if (rd x0 x5) = (rd x1 x5) then (laws_eqInt64S.l0 k x0 x1 (wrap64 (x5 + 1))) else (some false)) else (none)) else (none)) else (some true)) (fun k => (laws_eqInt64S.mono_l k) x0 x1 x5) (fun k => by simp only [laws_eqInt64S.l0]) ?_
  repeat' first
    | with_reducible exact Lim.const _
    | with_reducible exact laws_eqInt64S.L0_lim _ _ _
    | with_reducible refine Lim.ite ?_ ?_
    | with_reducible refine Lim.bind ?_ (fun _ => ?_)
theorem laws_eqInt64S.F_eq (l0 : List Int) (l1 : List Int) : laws_eqInt64S.F l0 l1 = if (l0.length : Int) = (l1.length : Int) then (laws_eqInt64S.L0 l0 l1 0) else (some false) := by
  refine Lim.eq (g := fun k => laws_eqInt64S.f k l0 l1) ?_
  unfold laws_eqInt64S.f
  repeat' first
    | with_reducible exact Lim.const _
    | with_reducible exact laws_eqInt64S.L0_lim _ _ _
    | with_reducible refine Lim.ite ?_ ?_
    | with_reducible refine Lim.bind ?_ (fun _ => ?_)

noncomputable def laws_eqInt64SS.L0 (x0 : List (List Int)) (x1 : List (List Int)) (x5 : Int) : Option (Bool) := lim (fun k => laws_eqInt64SS.l0 k x0 x1 x5)
theorem laws_eqInt64SS.L0_lim (x0 : List (List Int)) (x1 : List (List Int)) (x5 : Int) : Lim (fun k => laws_eqInt64SS.l0 k x0 x1 x5) (laws_eqInt64SS.L0 x0 x1 x5) := Lim.of (fun k => (laws_eqInt64SS.mono_l k) x0 x1 x5)
noncomputable def laws_eqInt64SS.F (l0 : List (List Int)) (l1 : List (List Int)) : Option (Bool) := lim (fun k => laws_eqInt64SS.f k l0 l1)
theorem laws_eqInt64SS.F_lim (l0 : List (List Int)) (l1 : List (List Int)) : Lim (fun k => laws_eqInt64SS.f k l0 l1) (laws_eqInt64SS.F l0 l1) := Lim.of (fun k => laws_eqInt64SS.mono l0 l1 k)
theorem laws_eqInt64SS.L0_eq (x0 : List (List Int)) (x1 : List (List Int)) (x5 : Int) : laws_eqInt64SS.L0 x0 x1 x5 = if x5 < (x0.length : Int) then (if 0 ≤ x5 then (if x5 < (x1.length : Int) then ((laws_eqInt64S.F (rd_L1 x0 x5) (rd_L1 x1 x5)).bind fun t185 => (if t185 = true then (laws_eqInt64SS.L0 x0 x1 (wrap64 (x5 + 1))) else (some false))) else (none)) else (none)) else (some true) := by
  refine Lim.step (f := fun k => if x5 < (x0.length : Int) then (if 0 ≤ x5 then (if x5 < (x1.length : Int) then ((laws_eqInt64S.f k (rd_L1 x0 x5) (rd_L1 x1 x5)).bind fun t185 => (if t185 = true then (laws_eqInt64SS.l0 k x0 x1 (wrap64 (x5 + 1))) else (some false))) else (none)) else (none)) else (some true)) (fun k => (laws_eqInt64SS.mono_l k) x0 x1 x5) (fun k => by simp only [laws_eqInt64SS.l0]) ?_
  repeat' first
    | with_reducible exact Lim.const _
    | with_reducible exact laws_eqInt64S.F_lim _ _
    | with_reducible exact laws_eqInt64SS.L0_lim _ _ _
    | with_reducible refine Lim.ite ?_ ?_
    | with_reducible refine Lim.bind ?_ (fun _ => ?_)
theorem laws_eqInt64SS.F_eq (l0 : List (List Int)) (l1 : List (List Int)) : laws_eqInt64SS.F l0 l1 = if (l0.length : Int) = (l1.length : Int) then (laws_eqInt64SS.L0 l0 l1 0) else (some false) := by
  refine Lim.eq (g := fun k => laws_eqInt64SS.f k l0 l1) ?_
  unfold laws_eqInt64SS.f
  repeat' first
    | with_reducible exact Lim.const _
    | with_reducible exact laws_eqInt64SS.L0_lim _ _ _
    | with_reducible refine Lim.ite ?_ ?_
    | with_reducible refine Lim.bind ?_ (fun _ => ?_)

noncomputable def laws_eqBolt.F (a0_0 : Int) (l0_1 : List Int) (a1_0 : Int) (l1_1 : List Int) : Option (Bool) := lim (fun k => laws_eqBolt.f k a0_0 l0_1 a1_0 l1_1)
theorem laws_eqBolt.F_lim (a0_0 : Int) (l0_1 : List Int) (a1_0 : Int) (l1_1 : List Int) : Lim (fun k => laws_eqBolt.f k a0_0 l0_1 a1_0 l1_1) (laws_eqBolt.F a0_0 l0_1 a1_0 l1_1) := Lim.of (fun k => laws_eqBolt.mono a0_0 l0_1 a1_0 l1_1 k)
theorem laws_eqBolt.F_eq (a0_0 : Int) (l0_1 : List Int) (a1_0 : Int) (l1_1 : List Int) : laws_eqBolt.F a0_0 l0_1 a1_0 l1_1 = if a0_0 = a1_0 then ((laws_eqInt64S.F l0_1 l1_1).bind fun t188 => (if t188 = true then (some true) else (some false))) else (some false) := by
  refine Lim.eq (g := fun k => laws_eqBolt.f k a0_0 l0_1 a1_0 l1_1) ?_
  unfold laws_eqBolt.f
  repeat' first
    | with_reducible exact Lim.const _
    | with_reducible exact laws_eqInt64S.F_lim _ _
    | with_reducible refine Lim.ite ?_ ?_
    | with_reducible refine Lim.bind ?_ (fun _ => ?_)

noncomputable def laws_markInt64S.L0 (x0 : List Int) (x1 : Int) (x5 : Int) : Option (Int × List Int) := lim (fun k => laws_markInt64S.l0 k x0 x1 x5)
theorem laws_markInt64S.L0_lim (x0 : List Int) (x1 : Int) (x5 : Int) : Lim (fun k => laws_markInt64S.l0 k x0 x1 x5) (laws_markInt64S.L0 x0 x1 x5) := Lim.of (fun k => (laws_markInt64S.mono_l k) x0 x1 x5)
noncomputable def laws_markInt64S.F (l0 : List Int) (a1 : Int) : Option (Int × List Int) := lim (fun k => laws_markInt64S.f k l0 a1)
theorem laws_markInt64S.F_lim (l0 : List Int) (a1 : Int) : Lim (fun k => laws_markInt64S.f k l0 a1) (laws_markInt64S.F l0 a1) := Lim.of (fun k => laws_markInt64S.mono l0 a1 k)
theorem laws_markInt64S.L0_eq (x0 : List Int) (x1 : Int) (x5 : Int) : laws_markInt64S.L0 x0 x1 x5 = if x5 < (x0.length : Int) then (if 0 ≤ x5 then (laws_markInt64S.L0 (x0.set (x5 : Int).toNat x1) (wrap64 (x1 + 1)) (wrap64 (x5 + 1))) else (none)) else (some (x1, x0)) := by
  refine Lim.step (f := fun k => if x5 < (x0.length : Int) then (if 0 ≤ x5 then (laws_markInt64S.l0 k (x0.set (x5 : Int).toNat x1) (wrap64 (x1 + 1)) (wrap64 (x5 + 1))) else (none)) else (some (x1, x0))) (fun k => (laws_markInt64S.mono_l k) x0 x1 x5) (fun k => by simp only [laws_markInt64S.l0]) ?_
  repeat' first
    | with_reducible exact Lim.const _
    | with_reducible exact laws_markInt64S.L0_lim _ _ _
    | with_reducible refine Lim.ite ?_ ?_
    | with_reducible refine Lim.bind ?_ (fun _ => ?_)
theorem laws_markInt64S.F_eq (l0 : List Int) (a1 : Int) : laws_markInt64S.F l0 a1 = laws_markInt64S.L0 l0 a1 0 := by
  refine Lim.eq (g := fun k => laws_markInt64S.f k l0 a1) ?_
  unfold laws_markInt64S.f
  repeat' first
    | with_reducible exact Lim.const _
    | with_reducible exact laws_markInt64S.L0_lim _ _ _
    | with_reducible refine Lim.ite ?_ ?_
    | with_reducible refine Lim.bind ?_ (fun _ => ?_)

noncomputable def laws_markBolt.F (a0_0 : Int) (l0_1 : List Int) (a1 : Int) : Option (Int × List Int) := lim (fun k => laws_markBolt.f k a0_0 l0_1 a1)
theorem laws_markBolt.F_lim (a0_0 : Int) (l0_1 : List Int) (a1 : Int) : Lim (fun k => laws_markBolt.f k a0_0 l0_1 a1) (laws_markBolt.F a0_0 l0_1 a1) := Lim.of (fun k => laws_markBolt.mono a0_0 l0_1 a1 k)
theorem laws_markBolt.F_eq (a0_0 : Int) (l0_1 : List Int) (a1 : Int) : laws_markBolt.F a0_0 l0_1 a1 = (laws_markInt64S.F l0_1 a1).bind fun bt191 => (some (bt191.1, bt191.2)) := by
  refine Lim.eq (g := fun k => laws_markBolt.f k a0_0 l0_1 a1) ?_
  unfold laws_markBolt.f
  repeat' first
    | with_reducible exact Lim.const _
    | with_reducible exact laws_markInt64S.F_lim _ _
    | with_reducible refine Lim.ite ?_ ?_
    | with_reducible refine Lim.bind ?_ (fun _ => ?_)

noncomputable def laws_markInt64SS.L0 (x0 : List (List Int)) (x1 : Int) (x2 : Int) : Option (Int × List (List Int)) := lim (fun k => laws_markInt64SS.l0 k x0 x1 x2)
theorem laws_markInt64SS.L0_lim (x0 : List (List Int)) (x1 : Int) (x2 : Int) : Lim (fun k => laws_markInt64SS.l0 k x0 x1 x2) (laws_markInt64SS.L0 x0 x1 x2) := Lim.of (fun k => (laws_markInt64SS.mono_l k) x0 x1 x2)
noncomputable def laws_markInt64SS.F (l0 : List (List Int)) (a1 : Int) : Option (Int × List (List Int)) := lim (fun k => laws_markInt64SS.f k l0 a1)
theorem laws_markInt64SS.F_lim (l0 : List (List Int)) (a1 : Int) : Lim (fun k => laws_markInt64SS.f k l0 a1) (laws_markInt64SS.F l0 a1) := Lim.of (fun k => laws_markInt64SS.mono l0 a1 k)
theorem laws_markInt64SS.L0_eq (x0 : List (List Int)) (x1 : Int) (x2 : Int) : laws_markInt64SS.L0 x0 x1 x2 = if x2 < (x0.length : Int) then (if 0 ≤ x2 then ((laws_markInt64S.F (rd_L1 x0 x2) x1).bind fun bt1 => (laws_markInt64SS.L0 (x0.set (x2 : Int).toNat bt1.2) bt1.1 (wrap64 (x2 + 1)))) else (none)) else (some (x1, x0)) := by
  refine Lim.step (f := fun k => if x2 < (x0.length : Int) then (if 0 ≤ x2 then ((laws_markInt64S.f k (rd_L1 x0 x2) x1).bind fun bt1 => (laws_markInt64SS.l0 k (x0.set (x2 : Int).toNat bt1.2) bt1.1 (wrap64 (x2 + 1)))) else (none)) else (some (x1, x0))) (fun k => (laws_markInt64SS.mono_l k) x0 x1 x2) (fun k => by simp only [laws_markInt64SS.l0]) ?_
  repeat' first
    | with_reducible exact Lim.const _
    | with_reducible exact laws_markInt64S.F_lim _ _
    | with_reducible exact laws_markInt64SS.L0_lim _ _ _
    | with_reducible refine Lim.ite ?_ ?_
    | with_reducible refine Lim.bind ?_ (fun _ => ?_)
theorem laws_markInt64SS.F_eq (l0 : List (List Int)) (a1 : Int) : laws_markInt64SS.F l0 a1 = laws_markInt64SS.L0 l0 a1 0 := by
  refine Lim.eq (g := fun k => laws_markInt64SS.f k l0 a1) ?_
  unfold laws_markInt64SS.f
  repeat' first
    | with_reducible exact Lim.const _
    | with_reducible exact laws_markInt64SS.L0_lim _ _ _
    | with_reducible refine Lim.ite ?_ ?_
    | with_reducible refine Lim.bind ?_ (fun _ => ?_)

noncomputable def laws_heldInt64S.L0 (x0 : List Int) (x1 : Int) (x5 : Int) : Option (Int) := lim (fun k => laws_heldInt64S.l0 k x0 x1 x5)
theorem laws_heldInt64S.L0_lim (x0 : List Int) (x1 : Int) (x5 : Int) : Lim (fun k => laws_heldInt64S.l0 k x0 x1 x5) (laws_heldInt64S.L0 x0 x1 x5) := Lim.of (fun k => (laws_heldInt64S.mono_l k) x0 x1 x5)
noncomputable def laws_heldInt64S.F (l0 : List Int) (a1 : Int) : Option (Int) := lim (fun k => laws_heldInt64S.f k l0 a1)
theorem laws_heldInt64S.F_lim (l0 : List Int) (a1 : Int) : Lim (fun k => laws_heldInt64S.f k l0 a1) (laws_heldInt64S.F l0 a1) := Lim.of (fun k => laws_heldInt64S.mono l0 a1 k)
theorem laws_heldInt64S.L0_eq (x0 : List Int) (x1 : Int) (x5 : Int) : laws_heldInt64S.L0 x0 x1 x5 = if x5 < (x0.length : Int) then (if 0 ≤ x5 then (if (rd x0 x5) = x1 then (laws_heldInt64S.L0 x0 (wrap64 (x1 + 1)) (wrap64 (x5 + 1))) else (some (-1))) else (none)) else (some x1) := by
  refine Lim.step (f := fun k => if x5 < (x0.length : Int) then (if 0 ≤ x5 then (if (rd x0 x5) = x1 then (laws_heldInt64S.l0 k x0 (wrap64 (x1 + 1)) (wrap64 (x5 + 1))) else (some (-1))) else (none)) else (some x1)) (fun k => (laws_heldInt64S.mono_l k) x0 x1 x5) (fun k => by simp only [laws_heldInt64S.l0]) ?_
  repeat' first
    | with_reducible exact Lim.const _
    | with_reducible exact laws_heldInt64S.L0_lim _ _ _
    | with_reducible refine Lim.ite ?_ ?_
    | with_reducible refine Lim.bind ?_ (fun _ => ?_)
theorem laws_heldInt64S.F_eq (l0 : List Int) (a1 : Int) : laws_heldInt64S.F l0 a1 = laws_heldInt64S.L0 l0 a1 0 := by
  refine Lim.eq (g := fun k => laws_heldInt64S.f k l0 a1) ?_
  unfold laws_heldInt64S.f
  repeat' first
    | with_reducible exact Lim.const _
    | with_reducible exact laws_heldInt64S.L0_lim _ _ _
    | with_reducible refine Lim.ite ?_ ?_
    | with_reducible refine Lim.bind ?_ (fun _ => ?_)

noncomputable def laws_heldInt64SS.L0 (x0 : List (List Int)) (x1 : Int) (x5 : Int) : Option (Int) := lim (fun k => laws_heldInt64SS.l0 k x0 x1 x5)
theorem laws_heldInt64SS.L0_lim (x0 : List (List Int)) (x1 : Int) (x5 : Int) : Lim (fun k => laws_heldInt64SS.l0 k x0 x1 x5) (laws_heldInt64SS.L0 x0 x1 x5) := Lim.of (fun k => (laws_heldInt64SS.mono_l k) x0 x1 x5)
noncomputable def laws_heldInt64SS.F (l0 : List (List Int)) (a1 : Int) : Option (Int) := lim (fun k => laws_heldInt64SS.f k l0 a1)
theorem laws_heldInt64SS.F_lim (l0 : List (List Int)) (a1 : Int) : Lim (fun k => laws_heldInt64SS.f k l0 a1) (laws_heldInt64SS.F l0 a1) := Lim.of (fun k => laws_heldInt64SS.mono l0 a1 k)
theorem laws_heldInt64SS.L0_eq (x0 : List (List Int)) (x1 : Int) (x5 : Int) : laws_heldInt64SS.L0 x0 x1 x5 = if x5 < (x0.length : Int) then (if 0 ≤ x5 then ((laws_heldInt64S.F (rd_L1 x0 x5) x1).bind fun t195 => (if t195 < 0 then (some (-1)) else (laws_heldInt64SS.L0 x0 t195 (wrap64 (x5 + 1))))) else (none)) else (some x1) := by
  refine Lim.step (f := fun k => if x5 < (x0.length : Int) then (if 0 ≤ x5 then ((laws_heldInt64S.f k (rd_L1 x0 x5) x1).bind fun t195 => (if t195 < 0 then (some (-1)) else (laws_heldInt64SS.l0 k x0 t195 (wrap64 (x5 + 1))))) else (none)) else (some x1)) (fun k => (laws_heldInt64SS.mono_l k) x0 x1 x5) (fun k => by simp only [laws_heldInt64SS.l0]) ?_
  repeat' first
    | with_reducible exact Lim.const _
    | with_reducible exact laws_heldInt64S.F_lim _ _
    | with_reducible exact laws_heldInt64SS.L0_lim _ _ _
    | with_reducible refine Lim.ite ?_ ?_
    | with_reducible refine Lim.bind ?_ (fun _ => ?_)
theorem laws_heldInt64SS.F_eq (l0 : List (List Int)) (a1 : Int) : laws_heldInt64SS.F l0 a1 = laws_heldInt64SS.L0 l0 a1 0 := by
  refine Lim.eq (g := fun k => laws_heldInt64SS.f k l0 a1) ?_
  unfold laws_heldInt64SS.f
  repeat' first
    | with_reducible exact Lim.const _
    | with_reducible exact laws_heldInt64SS.L0_lim _ _ _
    | with_reducible refine Lim.ite ?_ ?_
    | with_reducible refine Lim.bind ?_ (fun _ => ?_)

noncomputable def laws_FnExactSoundParts.J0 (x4 : List (List Int)) (x5 : Int) (x7 : List (List Int)) (x8 : Int) (x40 : Bool) (x197000 : Int) (x197001 : List Int) (x211000 : Int) (x211001 : List Int) : Option (Bool) := lim (fun k => laws_FnExactSoundParts.j0 k x4 x5 x7 x8 x40 x197000 x197001 x211000 x211001)
theorem laws_FnExactSoundParts.J0_lim (x4 : List (List Int)) (x5 : Int) (x7 : List (List Int)) (x8 : Int) (x40 : Bool) (x197000 : Int) (x197001 : List Int) (x211000 : Int) (x211001 : List Int) : Lim (fun k => laws_FnExactSoundParts.j0 k x4 x5 x7 x8 x40 x197000 x197001 x211000 x211001) (laws_FnExactSoundParts.J0 x4 x5 x7 x8 x40 x197000 x197001 x211000 x211001) := Lim.of (fun k => (laws_FnExactSoundParts.mono_l k).1 x4 x5 x7 x8 x40 x197000 x197001 x211000 x211001)
noncomputable def laws_FnExactSoundParts.J1 (x4 : List (List Int)) (x5 : Int) (x7 : List (List Int)) (x61 : Bool) (x197000 : Int) (x197001 : List Int) : Option (Bool) := lim (fun k => laws_FnExactSoundParts.j1 k x4 x5 x7 x61 x197000 x197001)
theorem laws_FnExactSoundParts.J1_lim (x4 : List (List Int)) (x5 : Int) (x7 : List (List Int)) (x61 : Bool) (x197000 : Int) (x197001 : List Int) : Lim (fun k => laws_FnExactSoundParts.j1 k x4 x5 x7 x61 x197000 x197001) (laws_FnExactSoundParts.J1 x4 x5 x7 x61 x197000 x197001) := Lim.of (fun k => (laws_FnExactSoundParts.mono_l k).2.1 x4 x5 x7 x61 x197000 x197001)
noncomputable def laws_FnExactSoundParts.J2 (x7 : List (List Int)) (x10 : Int) (x87 : Bool) : Option (Bool) := lim (fun k => laws_FnExactSoundParts.j2 k x7 x10 x87)
theorem laws_FnExactSoundParts.J2_lim (x7 : List (List Int)) (x10 : Int) (x87 : Bool) : Lim (fun k => laws_FnExactSoundParts.j2 k x7 x10 x87) (laws_FnExactSoundParts.J2 x7 x10 x87) := Lim.of (fun k => (laws_FnExactSoundParts.mono_l k).2.2 x7 x10 x87)
noncomputable def laws_FnExactSoundParts.F (a0_0 : Int) (l0_1 : List Int) : Option (Bool) := lim (fun k => laws_FnExactSoundParts.f k a0_0 l0_1)
theorem laws_FnExactSoundParts.F_lim (a0_0 : Int) (l0_1 : List Int) : Lim (fun k => laws_FnExactSoundParts.f k a0_0 l0_1) (laws_FnExactSoundParts.F a0_0 l0_1) := Lim.of (fun k => laws_FnExactSoundParts.mono a0_0 l0_1 k)
theorem laws_FnExactSoundParts.J0_eq (x4 : List (List Int)) (x5 : Int) (x7 : List (List Int)) (x8 : Int) (x40 : Bool) (x197000 : Int) (x197001 : List Int) (x211000 : Int) (x211001 : List Int) : laws_FnExactSoundParts.J0 x4 x5 x7 x8 x40 x197000 x197001 x211000 x211001 = if x40 = true then (some false) else ((laws_toBolt.F x197000 x197001).bind fun bt216 => ((laws_eqBolt.F x211000 x211001 bt216.1 bt216.2).bind fun t220 => (if t220 = true then ((laws_markBolt.F x211000 x211001 1).bind fun bt221 => (if bt221.1 < 0 then (laws_FnExactSoundParts.J1 x4 x5 x7 true x197000 x197001) else ((laws_eqInt64SS.F x7 x4).bind fun t223 => (if t223 = true then (laws_FnExactSoundParts.J1 x4 x5 x7 (x8 != x5) x197000 x197001) else (laws_FnExactSoundParts.J1 x4 x5 x7 true x197000 x197001))))) else (some false)))) := by
  refine Lim.step (f := fun k => if x40 = true then (some false) else ((laws_toBolt.f k x197000 x197001).bind fun bt216 => ((laws_eqBolt.f k x211000 x211001 bt216.1 bt216.2).bind fun t220 => (if t220 = true then ((laws_markBolt.f k x211000 x211001 1).bind fun bt221 => (if bt221.1 < 0 then (laws_FnExactSoundParts.j1 k x4 x5 x7 true x197000 x197001) else ((laws_eqInt64SS.f k x7 x4).bind fun t223 => (if t223 = true then (laws_FnExactSoundParts.j1 k x4 x5 x7 (x8 != x5) x197000 x197001) else (laws_FnExactSoundParts.j1 k x4 x5 x7 true x197000 x197001))))) else (some false))))) (fun k => (laws_FnExactSoundParts.mono_l k).1 x4 x5 x7 x8 x40 x197000 x197001 x211000 x211001) (fun k => by simp only [laws_FnExactSoundParts.j0]) ?_
  repeat' first
    | with_reducible exact Lim.const _
    | with_reducible exact laws_FnExactSoundParts.J1_lim _ _ _ _ _ _
    | with_reducible exact laws_eqBolt.F_lim _ _ _ _
    | with_reducible exact laws_eqInt64SS.F_lim _ _
    | with_reducible exact laws_markBolt.F_lim _ _ _
    | with_reducible exact laws_toBolt.F_lim _ _
    | with_reducible refine Lim.ite ?_ ?_
    | with_reducible refine Lim.bind ?_ (fun _ => ?_)
theorem laws_FnExactSoundParts.J1_eq (x4 : List (List Int)) (x5 : Int) (x7 : List (List Int)) (x61 : Bool) (x197000 : Int) (x197001 : List Int) : laws_FnExactSoundParts.J1 x4 x5 x7 x61 x197000 x197001 = if x61 = true then (some false) else ((laws_markInt64SS.F x7 1).bind fun bt224 => ((laws_heldInt64SS.F bt224.2 1).bind fun t226 => (if t226 < 0 then (some false) else (if t226 = bt224.1 then ((laws_toBolt.F x197000 x197001).bind fun bt227 => ((impl_SoundParts.F bt227.1 bt227.2).bind fun bt231 => ((laws_eqInt64SS.F bt231.1 x4).bind fun t235 => (if t235 = true then (laws_FnExactSoundParts.J2 bt224.2 bt224.1 (bt231.2 != x5)) else (laws_FnExactSoundParts.J2 bt224.2 bt224.1 true))))) else (some false))))) := by
  refine Lim.step (f := fun k => if x61 = true then (some false) else ((laws_markInt64SS.f k x7 1).bind fun bt224 => ((laws_heldInt64SS.f k bt224.2 1).bind fun t226 => (if t226 < 0 then (some false) else (if t226 = bt224.1 then ((laws_toBolt.f k x197000 x197001).bind fun bt227 => ((impl_SoundParts.f k bt227.1 bt227.2).bind fun bt231 => ((laws_eqInt64SS.f k bt231.1 x4).bind fun t235 => (if t235 = true then (laws_FnExactSoundParts.j2 k bt224.2 bt224.1 (bt231.2 != x5)) else (laws_FnExactSoundParts.j2 k bt224.2 bt224.1 true))))) else (some false)))))) (fun k => (laws_FnExactSoundParts.mono_l k).2.1 x4 x5 x7 x61 x197000 x197001) (fun k => by simp only [laws_FnExactSoundParts.j1]) ?_
  repeat' first
    | with_reducible exact Lim.const _
    | with_reducible exact impl_SoundParts.F_lim _ _
    | with_reducible exact laws_FnExactSoundParts.J2_lim _ _ _
    | with_reducible exact laws_eqInt64SS.F_lim _ _
    | with_reducible exact laws_heldInt64SS.F_lim _ _
    | with_reducible exact laws_markInt64SS.F_lim _ _
    | with_reducible exact laws_toBolt.F_lim _ _
    | with_reducible refine Lim.ite ?_ ?_
    | with_reducible refine Lim.bind ?_ (fun _ => ?_)
theorem laws_FnExactSoundParts.J2_eq (x7 : List (List Int)) (x10 : Int) (x87 : Bool) : laws_FnExactSoundParts.J2 x7 x10 x87 = if x87 = true then (some false) else ((laws_heldInt64SS.F x7 1).bind fun t236 => (if t236 < 0 then (some false) else (if t236 = x10 then (some true) else (some false)))) := by
  refine Lim.step (f := fun k => if x87 = true then (some false) else ((laws_heldInt64SS.f k x7 1).bind fun t236 => (if t236 < 0 then (some false) else (if t236 = x10 then (some true) else (some false))))) (fun k => (laws_FnExactSoundParts.mono_l k).2.2 x7 x10 x87) (fun k => by simp only [laws_FnExactSoundParts.j2]) ?_
  repeat' first
    | with_reducible exact Lim.const _
    | with_reducible exact laws_heldInt64SS.F_lim _ _
    | with_reducible refine Lim.ite ?_ ?_
    | with_reducible refine Lim.bind ?_ (fun _ => ?_)
theorem laws_FnExactSoundParts.F_eq (a0_0 : Int) (l0_1 : List Int) : laws_FnExactSoundParts.F a0_0 l0_1 = (laws_szBolt.f a0_0 l0_1 1048576).bind fun t197 => (if t197 < 0 then (some true) else ((laws_toBolt.F a0_0 l0_1).bind fun bt198 => ((spec_SoundParts.F bt198.1 bt198.2).bind fun bt202 => ((laws_toBolt.F a0_0 l0_1).bind fun bt206 => ((impl_SoundParts.F bt206.1 bt206.2).bind fun bt211 => ((laws_eqInt64SS.F bt211.1 bt202.1).bind fun t215 => (if t215 = true then (laws_FnExactSoundParts.J0 bt202.1 bt202.2 bt211.1 bt211.2 (bt211.2 != bt202.2) a0_0 l0_1 bt206.1 bt206.2) else (laws_FnExactSoundParts.J0 bt202.1 bt202.2 bt211.1 bt211.2 true a0_0 l0_1 bt206.1 bt206.2)))))))) := by
  refine Lim.eq (g := fun k => laws_FnExactSoundParts.f k a0_0 l0_1) ?_
  unfold laws_FnExactSoundParts.f
  repeat' first
    | with_reducible exact Lim.const _
    | with_reducible exact impl_SoundParts.F_lim _ _
    | with_reducible exact laws_FnExactSoundParts.J0_lim _ _ _ _ _ _ _ _ _
    | with_reducible exact laws_eqInt64SS.F_lim _ _
    | with_reducible exact laws_toBolt.F_lim _ _
    | with_reducible exact spec_SoundParts.F_lim _ _
    | with_reducible refine Lim.ite ?_ ?_
    | with_reducible refine Lim.bind ?_ (fun _ => ?_)

end Go.Proofs.Ytlphfgbeeckjnaa.PFnExactSoundParts
