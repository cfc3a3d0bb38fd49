/-
  Written by a program of this session (wip/tools/lims.py): the printed functions without their bound on rounds.
-/
import Derived.Test.YtendpecnfaojkaaDoorPFnClothCutsx1
import Derived.Test.YtendpecnfaojkaaDoorPFnClothCutsx2
import Derived.Test.YtendpecnfaojkaaDoorPFnClothCutsx3
import Derived.Test.YtendpecnfaojkaaDoorPFnClothCutsx4
import Derived.Test.YtendpecnfaojkaaDoorPFnClothCutsx5
import Derived.Test.YtendpecnfaojkaaDoorPFnClothCutsx6
import Derived.Test.YtendpecnfaojkaaDoorPFnClothCutsx7
import Derived.Test.YtendpecnfaojkaaDoorPFnClothCutsx8
import Derived.Test.YtendpecnfaojkaaDoorPFnClothCutsx9
import Derived.Test.YtendpecnfaojkaaDoorKit
set_option linter.unusedVariables false
set_option linter.unusedSimpArgs false
namespace Go.Proofs.YtendpecnfaojkaaDoor.PFnClothCuts
open Go.RowKit Go.Proofs.YtendpecnfaojkaaDoor.Kit Go.Proofs.YtendpecnfaojkaaDoorW.PrintWords Go.Proofs.YtendpecnfaojkaaDoorW.PrintLast Go.Proofs.YtendpecnfaojkaaDoorW.PrintMore

noncomputable def spec_l16New.L0 (x4 x5 : Int) (x1000 : List Int) (x1001 x1002 x117000 : Int) (x117001 : List Int) : Option (Int × List Int × Int × Int) := lim (fun k => spec_l16New.l0 k x4 x5 x1000 x1001 x1002 x117000 x117001)
theorem spec_l16New.L0_lim (x4 x5 : Int) (x1000 : List Int) (x1001 x1002 x117000 : Int) (x117001 : List Int) : Lim (fun k => spec_l16New.l0 k x4 x5 x1000 x1001 x1002 x117000 x117001) (spec_l16New.L0 x4 x5 x1000 x1001 x1002 x117000 x117001) := Lim.of (fun k => (spec_l16New.mono_l k) x4 x5 x1000 x1001 x1002 x117000 x117001)
noncomputable def spec_l16New.F (s0_0 : List Int) (s0_1 s0_2 : Int) : Option (Int × List Int × Int × Int) := lim (fun k => spec_l16New.f k s0_0 s0_1 s0_2)
theorem spec_l16New.F_lim (s0_0 : List Int) (s0_1 s0_2 : Int) : Lim (fun k => spec_l16New.f k s0_0 s0_1 s0_2) (spec_l16New.F s0_0 s0_1 s0_2) := Lim.of (fun k => spec_l16New.mono s0_0 s0_1 s0_2 k)
theorem spec_l16New.L0_eq (x4 x5 : Int) (x1000 : List Int) (x1001 x1002 x117000 : Int) (x117001 : List Int) : spec_l16New.L0 x4 x5 x1000 x1001 x1002 x117000 x117001 = if x5 > 0 then ((spec_l00Src_pick.f x1000 x1001 x1002 (wrap64 (Int.tdiv x117000 2))).bind fun bt120 => (if (wrap64 (x4 + (wrap64 (1 + bt120.1)))) < x117000 then (if x117001.length < 17592186044416 then (spec_l16New.L0 (wrap64 (x4 + (wrap64 (1 + bt120.1)))) (wrap64 (x5 - 1)) x1000 bt120.2.1 bt120.2.2 x117000 (x117001 ++ [wrap64 (x4 + (wrap64 (1 + bt120.1)))])) else (none)) else (spec_l16New.L0 (wrap64 (x4 + (wrap64 (1 + bt120.1)))) (wrap64 (x5 - 1)) x1000 bt120.2.1 bt120.2.2 x117000 x117001))) else (some (x117000, x117001, x1001, x1002)) := by
  refine Lim.next (fun k => (spec_l16New.mono_l k) x4 x5 x1000 x1001 x1002 x117000 x117001) ?_
  simp only [spec_l16New.l0]
  repeat' with_reducible first | exact Lim.const _ | exact spec_l16New.L0_lim _ _ _ _ _ _ _ | refine Lim.ite ?_ ?_ | refine Lim.bind ?_ (fun _ => ?_)
theorem spec_l16New.F_eq (s0_0 : List Int) (s0_1 s0_2 : Int) : spec_l16New.F s0_0 s0_1 s0_2 = (spec_l00Src_pick.f s0_0 s0_1 s0_2 20).bind fun bt110 => ((spec_l00Src_pick.f s0_0 bt110.2.1 bt110.2.2 3).bind fun bt117 => (spec_l16New.L0 0 bt117.1 s0_0 bt117.2.1 bt117.2.2 (wrap64 (20 + (wrap64 (10 * bt110.1)))) (([] : List Int)))) := by
  refine Lim.eq (g := fun k => spec_l16New.f k s0_0 s0_1 s0_2) ?_
  unfold spec_l16New.f
  repeat' with_reducible first | exact Lim.const _ | exact spec_l16New.L0_lim _ _ _ _ _ _ _ | refine Lim.ite ?_ ?_ | refine Lim.bind ?_ (fun _ => ?_)

noncomputable def spec_A2Bolts.L0 (x5 : List (S50)) (x6 : Int) (x130000 : List Int) (x130001 x130002 : Int) : Option ((List (S50)) × List Int) := lim (fun k => spec_A2Bolts.l0 k x5 x6 x130000 x130001 x130002)
theorem spec_A2Bolts.L0_lim (x5 : List (S50)) (x6 : Int) (x130000 : List Int) (x130001 x130002 : Int) : Lim (fun k => spec_A2Bolts.l0 k x5 x6 x130000 x130001 x130002) (spec_A2Bolts.L0 x5 x6 x130000 x130001 x130002) := Lim.of (fun k => (spec_A2Bolts.mono_l k).1 x5 x6 x130000 x130001 x130002)
noncomputable def spec_A2Bolts.L1 (x5 : List (S50)) (x7 : List Int) (x8 : Int) (x130000 : List Int) (x130001 x130002 : Int) : Option ((List (S50)) × List Int) := lim (fun k => spec_A2Bolts.l1 k x5 x7 x8 x130000 x130001 x130002)
theorem spec_A2Bolts.L1_lim (x5 : List (S50)) (x7 : List Int) (x8 : Int) (x130000 : List Int) (x130001 x130002 : Int) : Lim (fun k => spec_A2Bolts.l1 k x5 x7 x8 x130000 x130001 x130002) (spec_A2Bolts.L1 x5 x7 x8 x130000 x130001 x130002) := Lim.of (fun k => (spec_A2Bolts.mono_l k).2 x5 x7 x8 x130000 x130001 x130002)
noncomputable def spec_A2Bolts.F (l0 : List Int) : Option ((List (S50)) × List Int) := lim (fun k => spec_A2Bolts.f k l0)
theorem spec_A2Bolts.F_lim (l0 : List Int) : Lim (fun k => spec_A2Bolts.f k l0) (spec_A2Bolts.F l0) := Lim.of (fun k => spec_A2Bolts.mono l0 k)
theorem spec_A2Bolts.L0_eq (x5 : List (S50)) (x6 : Int) (x130000 : List Int) (x130001 x130002 : Int) : spec_A2Bolts.L0 x5 x6 x130000 x130001 x130002 = if x6 > 0 then ((spec_l16New.F x130000 x130001 x130002).bind fun bt136 => (if x5.length < 4398046511104 then (spec_A2Bolts.L0 (x5 ++ [(⟨bt136.1, bt136.2.1⟩ : S50)]) (wrap64 (x6 - 1)) x130000 bt136.2.2.1 bt136.2.2.2) else (none))) else ((spec_l00Src_pick.f x130000 x130001 x130002 5).bind fun bt148 => (spec_A2Bolts.L1 x5 (([] : List Int)) bt148.1 x130000 bt148.2.1 bt148.2.2)) := by
  refine Lim.next (fun k => (spec_A2Bolts.mono_l k).1 x5 x6 x130000 x130001 x130002) ?_
  simp only [spec_A2Bolts.l0]
  repeat' with_reducible first | exact Lim.const _ | exact spec_A2Bolts.L0_lim _ _ _ _ _ | exact spec_A2Bolts.L1_lim _ _ _ _ _ _ | exact spec_l16New.F_lim _ _ _ | refine Lim.ite ?_ ?_ | refine Lim.bind ?_ (fun _ => ?_)
theorem spec_A2Bolts.L1_eq (x5 : List (S50)) (x7 : List Int) (x8 : Int) (x130000 : List Int) (x130001 x130002 : Int) : spec_A2Bolts.L1 x5 x7 x8 x130000 x130001 x130002 = if x8 > 0 then ((spec_l00Src_pick.f x130000 x130001 x130002 16).bind fun bt151 => (if x7.length < 17592186044416 then (spec_A2Bolts.L1 x5 (x7 ++ [wrap64 (5 * (wrap64 (1 + bt151.1)))]) (wrap64 (x8 - 1)) x130000 bt151.2.1 bt151.2.2) else (none))) else (some (x5, x7)) := by
  refine Lim.next (fun k => (spec_A2Bolts.mono_l k).2 x5 x7 x8 x130000 x130001 x130002) ?_
  simp only [spec_A2Bolts.l1]
  repeat' with_reducible first | exact Lim.const _ | exact spec_A2Bolts.L1_lim _ _ _ _ _ _ | refine Lim.ite ?_ ?_ | refine Lim.bind ?_ (fun _ => ?_)
theorem spec_A2Bolts.F_eq (l0 : List Int) : spec_A2Bolts.F l0 = (spec_l00From.f l0).bind fun bt126 => ((spec_l00Src_pick.f bt126.1 bt126.2.1 bt126.2.2 4).bind fun bt133 => (spec_A2Bolts.L0 (([] : List (S50))) bt133.1 bt126.1 bt133.2.1 bt133.2.2)) := by
  refine Lim.eq (g := fun k => spec_A2Bolts.f k l0) ?_
  unfold spec_A2Bolts.f
  repeat' with_reducible first | exact Lim.const _ | exact spec_A2Bolts.L0_lim _ _ _ _ _ | refine Lim.ite ?_ ?_ | refine Lim.bind ?_ (fun _ => ?_)

noncomputable def impl_validBolt.J0 (x14 : Bool) (x158000 : Int) (x158001 : List Int) : Option (Bool) := lim (fun k => impl_validBolt.j0 k x14 x158000 x158001)
theorem impl_validBolt.J0_lim (x14 : Bool) (x158000 : Int) (x158001 : List Int) : Lim (fun k => impl_validBolt.j0 k x14 x158000 x158001) (impl_validBolt.J0 x14 x158000 x158001) := Lim.of (fun k => (impl_validBolt.mono_l k).1 x14 x158000 x158001)
noncomputable def impl_validBolt.L0 (x16 : List Int) (x17 x18 x158000 : Int) (x158001 : List Int) : Option (Bool) := lim (fun k => impl_validBolt.l0 k x16 x17 x18 x158000 x158001)
theorem impl_validBolt.L0_lim (x16 : List Int) (x17 x18 x158000 : Int) (x158001 : List Int) : Lim (fun k => impl_validBolt.l0 k x16 x17 x18 x158000 x158001) (impl_validBolt.L0 x16 x17 x18 x158000 x158001) := Lim.of (fun k => (impl_validBolt.mono_l k).2 x16 x17 x18 x158000 x158001)
noncomputable def impl_validBolt.F (a0_0 : Int) (l0_1 : List Int) : Option (Bool) := lim (fun k => impl_validBolt.f k a0_0 l0_1)
theorem impl_validBolt.F_lim (a0_0 : Int) (l0_1 : List Int) : Lim (fun k => impl_validBolt.f k a0_0 l0_1) (impl_validBolt.F a0_0 l0_1) := Lim.of (fun k => impl_validBolt.mono a0_0 l0_1 k)
theorem impl_validBolt.J0_eq (x14 : Bool) (x158000 : Int) (x158001 : List Int) : impl_validBolt.J0 x14 x158000 x158001 = if x14 = true then (some false) else (impl_validBolt.L0 x158001 (x158001.length : Int) 0 x158000 x158001) := by
  refine Lim.next (fun k => (impl_validBolt.mono_l k).1 x14 x158000 x158001) ?_
  simp only [impl_validBolt.j0]
  repeat' with_reducible first | exact Lim.const _ | exact impl_validBolt.L0_lim _ _ _ _ _ | refine Lim.ite ?_ ?_ | refine Lim.bind ?_ (fun _ => ?_)
theorem impl_validBolt.L0_eq (x16 : List Int) (x17 x18 x158000 : Int) (x158001 : List Int) : impl_validBolt.L0 x16 x17 x18 x158000 x158001 = if x18 < x17 then (if 0 ≤ x18 then (if x18 < (x16.length : Int) then ((impl_within.f (rd x16 x18) 1 (wrap64 (x158000 - 1))).bind fun t160 => (if t160 = true then (if x18 > 0 then (if 0 ≤ (wrap64 (x18 - 1)) then (if (wrap64 (x18 - 1)) < (x158001.length : Int) then (if (rd x16 x18) ≤ (rd x158001 (wrap64 (x18 - 1))) then (some false) else (impl_validBolt.L0 x16 x17 (wrap64 (x18 + 1)) x158000 x158001)) else (none)) else (none)) else (impl_validBolt.L0 x16 x17 (wrap64 (x18 + 1)) x158000 x158001)) else (some false))) else (none)) else (none)) else (some true) := by
  refine Lim.next (fun k => (impl_validBolt.mono_l k).2 x16 x17 x18 x158000 x158001) ?_
  simp only [impl_validBolt.l0]
  repeat' with_reducible first | exact Lim.const _ | exact impl_validBolt.L0_lim _ _ _ _ _ | refine Lim.ite ?_ ?_ | refine Lim.bind ?_ (fun _ => ?_)
theorem impl_validBolt.F_eq (a0_0 : Int) (l0_1 : List Int) : impl_validBolt.F a0_0 l0_1 = (impl_within.f a0_0 1 10000).bind fun t158 => (if t158 = true then (impl_validBolt.J0 (decide ((l0_1.length : Int) > 6)) a0_0 l0_1) else (impl_validBolt.J0 true a0_0 l0_1)) := by
  refine Lim.eq (g := fun k => impl_validBolt.f k a0_0 l0_1) ?_
  unfold impl_validBolt.f
  repeat' with_reducible first | exact Lim.const _ | exact impl_validBolt.J0_lim _ _ _ | refine Lim.ite ?_ ?_ | refine Lim.bind ?_ (fun _ => ?_)

noncomputable def impl_ValidBolts.L0 (x8 : List (S50)) (x9 x10 : Int) : Option (Bool) := lim (fun k => impl_ValidBolts.l0 k x8 x9 x10)
theorem impl_ValidBolts.L0_lim (x8 : List (S50)) (x9 x10 : Int) : Lim (fun k => impl_ValidBolts.l0 k x8 x9 x10) (impl_ValidBolts.L0 x8 x9 x10) := Lim.of (fun k => (impl_ValidBolts.mono_l k) x8 x9 x10)
noncomputable def impl_ValidBolts.F (l0 : List (S50)) : Option (Bool) := lim (fun k => impl_ValidBolts.f k l0)
theorem impl_ValidBolts.F_lim (l0 : List (S50)) : Lim (fun k => impl_ValidBolts.f k l0) (impl_ValidBolts.F l0) := Lim.of (fun k => impl_ValidBolts.mono l0 k)
theorem impl_ValidBolts.L0_eq (x8 : List (S50)) (x9 x10 : Int) : impl_ValidBolts.L0 x8 x9 x10 = if x10 < x9 then (if 0 ≤ x10 then (if x10 < (x8.length : Int) then ((impl_validBolt.F ((rd_T50 x8 x10).f0) ((rd_T50 x8 x10).f1)).bind fun t164 => (if t164 = true then (impl_ValidBolts.L0 x8 x9 (wrap64 (x10 + 1))) else (some false))) else (none)) else (none)) else (some true) := by
  refine Lim.next (fun k => (impl_ValidBolts.mono_l k) x8 x9 x10) ?_
  simp only [impl_ValidBolts.l0]
  repeat' with_reducible first | exact Lim.const _ | exact impl_ValidBolts.L0_lim _ _ _ | exact impl_validBolt.F_lim _ _ | refine Lim.ite ?_ ?_ | refine Lim.bind ?_ (fun _ => ?_)
theorem impl_ValidBolts.F_eq (l0 : List (S50)) : impl_ValidBolts.F l0 = if (l0.length : Int) > 4 then (some false) else (impl_ValidBolts.L0 l0 (l0.length : Int) 0) := by
  refine Lim.eq (g := fun k => impl_ValidBolts.f k l0) ?_
  unfold impl_ValidBolts.f
  repeat' with_reducible first | exact Lim.const _ | exact impl_ValidBolts.L0_lim _ _ _ | refine Lim.ite ?_ ?_ | refine Lim.bind ?_ (fun _ => ?_)

noncomputable def impl_areIn.L0 (x2 x3 : Int) (x15 : List Int) (x16 x17 : Int) : Option (Bool) := lim (fun k => impl_areIn.l0 k x2 x3 x15 x16 x17)
theorem impl_areIn.L0_lim (x2 x3 : Int) (x15 : List Int) (x16 x17 : Int) : Lim (fun k => impl_areIn.l0 k x2 x3 x15 x16 x17) (impl_areIn.L0 x2 x3 x15 x16 x17) := Lim.of (fun k => (impl_areIn.mono_l k) x2 x3 x15 x16 x17)
noncomputable def impl_areIn.F (l0 : List Int) (a1 a2 a3 : Int) : Option (Bool) := lim (fun k => impl_areIn.f k l0 a1 a2 a3)
theorem impl_areIn.F_lim (l0 : List Int) (a1 a2 a3 : Int) : Lim (fun k => impl_areIn.f k l0 a1 a2 a3) (impl_areIn.F l0 a1 a2 a3) := Lim.of (fun k => impl_areIn.mono l0 a1 a2 a3 k)
theorem impl_areIn.L0_eq (x2 x3 : Int) (x15 : List Int) (x16 x17 : Int) : impl_areIn.L0 x2 x3 x15 x16 x17 = if x17 < x16 then (if 0 ≤ x17 then (if x17 < (x15.length : Int) then ((impl_within.f (rd x15 x17) x2 x3).bind fun t166 => (if t166 = true then (impl_areIn.L0 x2 x3 x15 x16 (wrap64 (x17 + 1))) else (some false))) else (none)) else (none)) else (some true) := by
  refine Lim.next (fun k => (impl_areIn.mono_l k) x2 x3 x15 x16 x17) ?_
  simp only [impl_areIn.l0]
  repeat' with_reducible first | exact Lim.const _ | exact impl_areIn.L0_lim _ _ _ _ _ | refine Lim.ite ?_ ?_ | refine Lim.bind ?_ (fun _ => ?_)
theorem impl_areIn.F_eq (l0 : List Int) (a1 a2 a3 : Int) : impl_areIn.F l0 a1 a2 a3 = if (l0.length : Int) = a1 then (impl_areIn.L0 a2 a3 l0 (l0.length : Int) 0) else (some false) := by
  refine Lim.eq (g := fun k => impl_areIn.f k l0 a1 a2 a3) ?_
  unfold impl_areIn.f
  repeat' with_reducible first | exact Lim.const _ | exact impl_areIn.L0_lim _ _ _ _ _ | refine Lim.ite ?_ ?_ | refine Lim.bind ?_ (fun _ => ?_)

noncomputable def impl_panelsCode.F (l0 : List (S50)) (l1 : List Int) : Option (Int) := lim (fun k => impl_panelsCode.f k l0 l1)
theorem impl_panelsCode.F_lim (l0 : List (S50)) (l1 : List Int) : Lim (fun k => impl_panelsCode.f k l0 l1) (impl_panelsCode.F l0 l1) := Lim.of (fun k => impl_panelsCode.mono l0 l1 k)
theorem impl_panelsCode.F_eq (l0 : List (S50)) (l1 : List Int) : impl_panelsCode.F l0 l1 = (impl_ValidBolts.F l0).bind fun t167 => (if t167 = true then (if (l1.length : Int) > 6 then (some 2) else ((impl_areIn.F l1 (l1.length : Int) 1 10000).bind fun t168 => (if t168 = true then (some 0) else (some 2)))) else (some 1)) := by
  refine Lim.eq (g := fun k => impl_panelsCode.f k l0 l1) ?_
  unfold impl_panelsCode.f
  repeat' with_reducible first | exact Lim.const _ | exact impl_ValidBolts.F_lim _ | exact impl_areIn.F_lim _ _ _ _ | refine Lim.ite ?_ ?_ | refine Lim.bind ?_ (fun _ => ?_)

noncomputable def impl_soundParts.L0 (x3 : List (List Int)) (x4 : Int) (x9 : List Int) (x10 x11 x170000 : Int) (x170001 : List Int) : Option ((List (List Int))) := lim (fun k => impl_soundParts.l0 k x3 x4 x9 x10 x11 x170000 x170001)
theorem impl_soundParts.L0_lim (x3 : List (List Int)) (x4 : Int) (x9 : List Int) (x10 x11 x170000 : Int) (x170001 : List Int) : Lim (fun k => impl_soundParts.l0 k x3 x4 x9 x10 x11 x170000 x170001) (impl_soundParts.L0 x3 x4 x9 x10 x11 x170000 x170001) := Lim.of (fun k => (impl_soundParts.mono_l k) x3 x4 x9 x10 x11 x170000 x170001)
noncomputable def impl_soundParts.F (a0_0 : Int) (l0_1 : List Int) : Option ((List (List Int))) := lim (fun k => impl_soundParts.f k a0_0 l0_1)
theorem impl_soundParts.F_lim (a0_0 : Int) (l0_1 : List Int) : Lim (fun k => impl_soundParts.f k a0_0 l0_1) (impl_soundParts.F a0_0 l0_1) := Lim.of (fun k => impl_soundParts.mono a0_0 l0_1 k)
theorem impl_soundParts.L0_eq (x3 : List (List Int)) (x4 : Int) (x9 : List Int) (x10 x11 x170000 : Int) (x170001 : List Int) : impl_soundParts.L0 x3 x4 x9 x10 x11 x170000 x170001 = if x11 < x10 then (if 0 ≤ x11 then (if x11 < (x9.length : Int) then (if x3.length < 5864062014805 then (impl_soundParts.L0 (x3 ++ [(([x4, rd x9 x11] : List Int))]) (rd x9 x11) x9 x10 (wrap64 (x11 + 1)) x170000 x170001) else (none)) else (none)) else (none)) else (if x3.length < 5864062014805 then (some (x3 ++ [(([x4, x170000] : List Int))])) else (none)) := by
  refine Lim.next (fun k => (impl_soundParts.mono_l k) x3 x4 x9 x10 x11 x170000 x170001) ?_
  simp only [impl_soundParts.l0]
  repeat' with_reducible first | exact Lim.const _ | exact impl_soundParts.L0_lim _ _ _ _ _ _ _ | refine Lim.ite ?_ ?_ | refine Lim.bind ?_ (fun _ => ?_)
theorem impl_soundParts.F_eq (a0_0 : Int) (l0_1 : List Int) : impl_soundParts.F a0_0 l0_1 = impl_soundParts.L0 (([] : List (List Int))) 0 l0_1 (l0_1.length : Int) 0 a0_0 l0_1 := by
  refine Lim.eq (g := fun k => impl_soundParts.f k a0_0 l0_1) ?_
  unfold impl_soundParts.f
  repeat' with_reducible first | exact Lim.const _ | exact impl_soundParts.L0_lim _ _ _ _ _ _ _ | refine Lim.ite ?_ ?_ | refine Lim.bind ?_ (fun _ => ?_)

noncomputable def impl_partsOfBolts.L0 (x3 : List (S57)) (x9 : List (S50)) (x10 x11 : Int) : Option ((List (S57))) := lim (fun k => impl_partsOfBolts.l0 k x3 x9 x10 x11)
theorem impl_partsOfBolts.L0_lim (x3 : List (S57)) (x9 : List (S50)) (x10 x11 : Int) : Lim (fun k => impl_partsOfBolts.l0 k x3 x9 x10 x11) (impl_partsOfBolts.L0 x3 x9 x10 x11) := Lim.of (fun k => (impl_partsOfBolts.mono_l k).1 x3 x9 x10 x11)
noncomputable def impl_partsOfBolts.L1 (x3 : List (S57)) (x4 : Int) (x9 : List (S50)) (x10 x11 : Int) (x17 : List (List Int)) (x18 x19 : Int) : Option ((List (S57))) := lim (fun k => impl_partsOfBolts.l1 k x3 x4 x9 x10 x11 x17 x18 x19)
theorem impl_partsOfBolts.L1_lim (x3 : List (S57)) (x4 : Int) (x9 : List (S50)) (x10 x11 : Int) (x17 : List (List Int)) (x18 x19 : Int) : Lim (fun k => impl_partsOfBolts.l1 k x3 x4 x9 x10 x11 x17 x18 x19) (impl_partsOfBolts.L1 x3 x4 x9 x10 x11 x17 x18 x19) := Lim.of (fun k => (impl_partsOfBolts.mono_l k).2 x3 x4 x9 x10 x11 x17 x18 x19)
noncomputable def impl_partsOfBolts.F (l0 : List (S50)) : Option ((List (S57))) := lim (fun k => impl_partsOfBolts.f k l0)
theorem impl_partsOfBolts.F_lim (l0 : List (S50)) : Lim (fun k => impl_partsOfBolts.f k l0) (impl_partsOfBolts.F l0) := Lim.of (fun k => impl_partsOfBolts.mono l0 k)
theorem impl_partsOfBolts.L0_eq (x3 : List (S57)) (x9 : List (S50)) (x10 x11 : Int) : impl_partsOfBolts.L0 x3 x9 x10 x11 = if x11 < x10 then (if 0 ≤ x11 then (if x11 < (x9.length : Int) then ((impl_soundParts.F ((rd_T50 x9 x11).f0) ((rd_T50 x9 x11).f1)).bind fun t191 => (impl_partsOfBolts.L1 x3 x11 x9 x10 x11 t191 (t191.length : Int) 0)) else (none)) else (none)) else (some x3) := by
  refine Lim.next (fun k => (impl_partsOfBolts.mono_l k).1 x3 x9 x10 x11) ?_
  simp only [impl_partsOfBolts.l0]
  repeat' with_reducible first | exact Lim.const _ | exact impl_partsOfBolts.L1_lim _ _ _ _ _ _ _ _ | exact impl_soundParts.F_lim _ _ | refine Lim.ite ?_ ?_ | refine Lim.bind ?_ (fun _ => ?_)
theorem impl_partsOfBolts.L1_eq (x3 : List (S57)) (x4 : Int) (x9 : List (S50)) (x10 x11 : Int) (x17 : List (List Int)) (x18 x19 : Int) : impl_partsOfBolts.L1 x3 x4 x9 x10 x11 x17 x18 x19 = if x19 < x18 then (if 0 ≤ x19 then (if x19 < (x17.length : Int) then (if 0 < ((rd_L2 x17 x19).length : Int) then (if 1 < ((rd_L2 x17 x19).length : Int) then (if x3.length < 5864062014805 then (impl_partsOfBolts.L1 (x3 ++ [(⟨x4, rd (rd_L2 x17 x19) 0, rd (rd_L2 x17 x19) 1⟩ : S57)]) x4 x9 x10 x11 x17 x18 (wrap64 (x19 + 1))) else (none)) else (none)) else (none)) else (none)) else (none)) else (impl_partsOfBolts.L0 x3 x9 x10 (wrap64 (x11 + 1))) := by
  refine Lim.next (fun k => (impl_partsOfBolts.mono_l k).2 x3 x4 x9 x10 x11 x17 x18 x19) ?_
  simp only [impl_partsOfBolts.l1]
  repeat' with_reducible first | exact Lim.const _ | exact impl_partsOfBolts.L0_lim _ _ _ _ | exact impl_partsOfBolts.L1_lim _ _ _ _ _ _ _ _ | refine Lim.ite ?_ ?_ | refine Lim.bind ?_ (fun _ => ?_)
theorem impl_partsOfBolts.F_eq (l0 : List (S50)) : impl_partsOfBolts.F l0 = impl_partsOfBolts.L0 (([] : List (S57))) l0 (l0.length : Int) 0 := by
  refine Lim.eq (g := fun k => impl_partsOfBolts.f k l0) ?_
  unfold impl_partsOfBolts.f
  repeat' with_reducible first | exact Lim.const _ | exact impl_partsOfBolts.L0_lim _ _ _ _ | refine Lim.ite ?_ ?_ | refine Lim.bind ?_ (fun _ => ?_)

noncomputable def impl_FirstPlaces.L0 (x7 : List (S57)) (x8 : List (S60)) (x21 : List Int) (x22 x23 : Int) : Option ((List (S60)) × Int) := lim (fun k => impl_FirstPlaces.l0 k x7 x8 x21 x22 x23)
theorem impl_FirstPlaces.L0_lim (x7 : List (S57)) (x8 : List (S60)) (x21 : List Int) (x22 x23 : Int) : Lim (fun k => impl_FirstPlaces.l0 k x7 x8 x21 x22 x23) (impl_FirstPlaces.L0 x7 x8 x21 x22 x23) := Lim.of (fun k => (impl_FirstPlaces.mono_l k) x7 x8 x21 x22 x23)
noncomputable def impl_FirstPlaces.F (l0 : List (S50)) (l1 : List Int) : Option ((List (S60)) × Int) := lim (fun k => impl_FirstPlaces.f k l0 l1)
theorem impl_FirstPlaces.F_lim (l0 : List (S50)) (l1 : List Int) : Lim (fun k => impl_FirstPlaces.f k l0 l1) (impl_FirstPlaces.F l0 l1) := Lim.of (fun k => impl_FirstPlaces.mono l0 l1 k)
theorem impl_FirstPlaces.L0_eq (x7 : List (S57)) (x8 : List (S60)) (x21 : List Int) (x22 x23 : Int) : impl_FirstPlaces.L0 x7 x8 x21 x22 x23 = if x23 < x22 then (if 0 ≤ x23 then (if x23 < (x21.length : Int) then ((impl_clothPart.f x7 (rd x21 x23)).bind fun t209 => (if t209 < 0 then (some (([] : List (S60)), 5)) else (if 0 ≤ t209 then (if t209 < (x7.length : Int) then (if x8.length < 8796093022208 then (impl_FirstPlaces.L0 (x7.set (t209 : Int).toNat (⟨(rd_T57 x7 t209).f0, wrap64 (((rd_T57 x7 t209).f1) + (rd x21 x23)), (rd_T57 x7 t209).f2⟩ : S57)) (x8 ++ [(⟨(rd_T57 x7 t209).f0, (rd_T57 x7 t209).f1⟩ : S60)]) x21 x22 (wrap64 (x23 + 1))) else (none)) else (none)) else (none)))) else (none)) else (none)) else (some (x8, 0)) := by
  refine Lim.next (fun k => (impl_FirstPlaces.mono_l k) x7 x8 x21 x22 x23) ?_
  simp only [impl_FirstPlaces.l0]
  repeat' with_reducible first | exact Lim.const _ | exact impl_FirstPlaces.L0_lim _ _ _ _ _ | refine Lim.ite ?_ ?_ | refine Lim.bind ?_ (fun _ => ?_)
theorem impl_FirstPlaces.F_eq (l0 : List (S50)) (l1 : List Int) : impl_FirstPlaces.F l0 l1 = (impl_panelsCode.F l0 l1).bind fun t200 => (if t200 = 0 then ((impl_partsOfBolts.F l0).bind fun t201 => (impl_FirstPlaces.L0 t201 (([] : List (S60))) l1 (l1.length : Int) 0)) else (some (([] : List (S60)), t200))) := by
  refine Lim.eq (g := fun k => impl_FirstPlaces.f k l0 l1) ?_
  unfold impl_FirstPlaces.f
  repeat' with_reducible first | exact Lim.const _ | exact impl_FirstPlaces.L0_lim _ _ _ _ _ | exact impl_panelsCode.F_lim _ _ | exact impl_partsOfBolts.F_lim _ | refine Lim.ite ?_ ?_ | refine Lim.bind ?_ (fun _ => ?_)

noncomputable def impl_FewestBolts.F (l0 : List S50) (l1 : List Int) : Option (List S60 × Int × Int) := lim (fun k => impl_FewestBolts.f k l0 l1)
theorem impl_FewestBolts.F_lim (l0 : List S50) (l1 : List Int) : Lim (fun k => impl_FewestBolts.f k l0 l1) (impl_FewestBolts.F l0 l1) := Lim.of (fun k => impl_FewestBolts.mono l0 l1 k)
theorem impl_FewestBolts.F_eq (l0 : List S50) (l1 : List Int) : impl_FewestBolts.F l0 l1 = (impl_panelsCode.F l0 l1).bind fun c => if c = 0 then ((impl_partsOfBolts.F l0).bind fun parts => if goodB l0 l1 parts = true then some (fewR (fewGo l1 parts l0.length (l0.length + 1) 0)) else none) else some ([], 0, c) := by
  refine Lim.eq (g := fun k => impl_FewestBolts.f k l0 l1) ?_
  unfold impl_FewestBolts.f
  repeat' with_reducible first | exact Lim.const _ | exact impl_panelsCode.F_lim _ _ | exact impl_partsOfBolts.F_lim _ | refine Lim.ite ?_ ?_ | refine Lim.bind ?_ (fun _ => ?_)

noncomputable def impl_placesCode.L0 (x0 : List (S50)) (x21 : List (S60)) (x22 x23 : Int) : Option (Int) := lim (fun k => impl_placesCode.l0 k x0 x21 x22 x23)
theorem impl_placesCode.L0_lim (x0 : List (S50)) (x21 : List (S60)) (x22 x23 : Int) : Lim (fun k => impl_placesCode.l0 k x0 x21 x22 x23) (impl_placesCode.L0 x0 x21 x22 x23) := Lim.of (fun k => (impl_placesCode.mono_l k) x0 x21 x22 x23)
noncomputable def impl_placesCode.F (l0 : List (S50)) (l1 : List Int) (l2 : List (S60)) : Option (Int) := lim (fun k => impl_placesCode.f k l0 l1 l2)
theorem impl_placesCode.F_lim (l0 : List (S50)) (l1 : List Int) (l2 : List (S60)) : Lim (fun k => impl_placesCode.f k l0 l1 l2) (impl_placesCode.F l0 l1 l2) := Lim.of (fun k => impl_placesCode.mono l0 l1 l2 k)
theorem impl_placesCode.L0_eq (x0 : List (S50)) (x21 : List (S60)) (x22 x23 : Int) : impl_placesCode.L0 x0 x21 x22 x23 = if x23 < x22 then (if 0 ≤ x23 then (if x23 < (x21.length : Int) then ((impl_within.f ((rd_T60 x21 x23).f0) 0 (wrap64 ((x0.length : Int) - 1))).bind fun t221 => (if t221 = true then (impl_placesCode.L0 x0 x21 x22 (wrap64 (x23 + 1))) else (some 2))) else (none)) else (none)) else (some 0) := by
  refine Lim.next (fun k => (impl_placesCode.mono_l k) x0 x21 x22 x23) ?_
  simp only [impl_placesCode.l0]
  repeat' with_reducible first | exact Lim.const _ | exact impl_placesCode.L0_lim _ _ _ _ | refine Lim.ite ?_ ?_ | refine Lim.bind ?_ (fun _ => ?_)
theorem impl_placesCode.F_eq (l0 : List (S50)) (l1 : List Int) (l2 : List (S60)) : impl_placesCode.F l0 l1 l2 = (impl_panelsCode.F l0 l1).bind fun t218 => (if t218 = 0 then (if (l2.length : Int) = (l1.length : Int) then (impl_placesCode.L0 l0 l2 (l2.length : Int) 0) else (some 2)) else (some t218)) := by
  refine Lim.eq (g := fun k => impl_placesCode.f k l0 l1 l2) ?_
  unfold impl_placesCode.f
  repeat' with_reducible first | exact Lim.const _ | exact impl_panelsCode.F_lim _ _ | exact impl_placesCode.L0_lim _ _ _ _ | refine Lim.ite ?_ ?_ | refine Lim.bind ?_ (fun _ => ?_)

noncomputable def impl_pieceFault.L0 (x0 : List (S50)) (x1 : List Int) (x2 x14 : List (S60)) (x15 x16 : Int) : Option (Int) := lim (fun k => impl_pieceFault.l0 k x0 x1 x2 x14 x15 x16)
theorem impl_pieceFault.L0_lim (x0 : List (S50)) (x1 : List Int) (x2 x14 : List (S60)) (x15 x16 : Int) : Lim (fun k => impl_pieceFault.l0 k x0 x1 x2 x14 x15 x16) (impl_pieceFault.L0 x0 x1 x2 x14 x15 x16) := Lim.of (fun k => (impl_pieceFault.mono_l k).1 x0 x1 x2 x14 x15 x16)
noncomputable def impl_pieceFault.L1 (x0 : List (S50)) (x1 : List Int) (x2 : List (S60)) (x7 : Int) (x9 : Bool) (x14 : List (S60)) (x15 x16 : Int) (x26 : List (List Int)) (x27 x28 x224000 x224001 : Int) : Option (Int) := lim (fun k => impl_pieceFault.l1 k x0 x1 x2 x7 x9 x14 x15 x16 x26 x27 x28 x224000 x224001)
theorem impl_pieceFault.L1_lim (x0 : List (S50)) (x1 : List Int) (x2 : List (S60)) (x7 : Int) (x9 : Bool) (x14 : List (S60)) (x15 x16 : Int) (x26 : List (List Int)) (x27 x28 x224000 x224001 : Int) : Lim (fun k => impl_pieceFault.l1 k x0 x1 x2 x7 x9 x14 x15 x16 x26 x27 x28 x224000 x224001) (impl_pieceFault.L1 x0 x1 x2 x7 x9 x14 x15 x16 x26 x27 x28 x224000 x224001) := Lim.of (fun k => (impl_pieceFault.mono_l k).2.1 x0 x1 x2 x7 x9 x14 x15 x16 x26 x27 x28 x224000 x224001)
noncomputable def impl_pieceFault.L2 (x0 : List (S50)) (x1 : List Int) (x2 : List (S60)) (x7 : Int) (x14 : List (S60)) (x15 x16 : Int) (x68 : List (S60)) (x69 x70 x224000 x224001 : Int) : Option (Int) := lim (fun k => impl_pieceFault.l2 k x0 x1 x2 x7 x14 x15 x16 x68 x69 x70 x224000 x224001)
theorem impl_pieceFault.L2_lim (x0 : List (S50)) (x1 : List Int) (x2 : List (S60)) (x7 : Int) (x14 : List (S60)) (x15 x16 : Int) (x68 : List (S60)) (x69 x70 x224000 x224001 : Int) : Lim (fun k => impl_pieceFault.l2 k x0 x1 x2 x7 x14 x15 x16 x68 x69 x70 x224000 x224001) (impl_pieceFault.L2 x0 x1 x2 x7 x14 x15 x16 x68 x69 x70 x224000 x224001) := Lim.of (fun k => (impl_pieceFault.mono_l k).2.2 x0 x1 x2 x7 x14 x15 x16 x68 x69 x70 x224000 x224001)
noncomputable def impl_pieceFault.F (l0 : List (S50)) (l1 : List Int) (l2 : List (S60)) : Option (Int) := lim (fun k => impl_pieceFault.f k l0 l1 l2)
theorem impl_pieceFault.F_lim (l0 : List (S50)) (l1 : List Int) (l2 : List (S60)) : Lim (fun k => impl_pieceFault.f k l0 l1 l2) (impl_pieceFault.F l0 l1 l2) := Lim.of (fun k => impl_pieceFault.mono l0 l1 l2 k)
theorem impl_pieceFault.L0_eq (x0 : List (S50)) (x1 : List Int) (x2 x14 : List (S60)) (x15 x16 : Int) : impl_pieceFault.L0 x0 x1 x2 x14 x15 x16 = if x16 < x15 then (if 0 ≤ x16 then (if x16 < (x14.length : Int) then (if 0 ≤ ((rd_T60 x14 x16).f0) then (if ((rd_T60 x14 x16).f0) < (x0.length : Int) then ((impl_soundParts.F ((rd_T50 x0 ((rd_T60 x14 x16).f0)).f0) ((rd_T50 x0 ((rd_T60 x14 x16).f0)).f1)).bind fun t225 => (impl_pieceFault.L1 x0 x1 x2 x16 false x14 x15 x16 t225 (t225.length : Int) 0 ((rd_T60 x14 x16).f0) ((rd_T60 x14 x16).f1))) else (none)) else (none)) else (none)) else (none)) else (some (-1)) := by
  refine Lim.next (fun k => (impl_pieceFault.mono_l k).1 x0 x1 x2 x14 x15 x16) ?_
  simp only [impl_pieceFault.l0]
  repeat' with_reducible first | exact Lim.const _ | exact impl_pieceFault.L1_lim _ _ _ _ _ _ _ _ _ _ _ _ _ | exact impl_soundParts.F_lim _ _ | refine Lim.ite ?_ ?_ | refine Lim.bind ?_ (fun _ => ?_)
theorem impl_pieceFault.L1_eq (x0 : List (S50)) (x1 : List Int) (x2 : List (S60)) (x7 : Int) (x9 : Bool) (x14 : List (S60)) (x15 x16 : Int) (x26 : List (List Int)) (x27 x28 x224000 x224001 : Int) : impl_pieceFault.L1 x0 x1 x2 x7 x9 x14 x15 x16 x26 x27 x28 x224000 x224001 = if x28 < x27 then (if 0 ≤ x28 then (if x28 < (x26.length : Int) then (if x9 = true then (impl_pieceFault.L1 x0 x1 x2 x7 true x14 x15 x16 x26 x27 (wrap64 (x28 + 1)) x224000 x224001) else (if 0 < ((rd_L2 x26 x28).length : Int) then (if x224001 ≥ (rd (rd_L2 x26 x28) 0) then (if 1 < ((rd_L2 x26 x28).length : Int) then (if x224001 ≤ (rd (rd_L2 x26 x28) 1) then (if 0 ≤ x7 then (if x7 < (x1.length : Int) then (impl_pieceFault.L1 x0 x1 x2 x7 (decide ((wrap64 (x224001 + (rd x1 x7))) ≤ (rd (rd_L2 x26 x28) 1))) x14 x15 x16 x26 x27 (wrap64 (x28 + 1)) x224000 x224001) else (none)) else (none)) else (impl_pieceFault.L1 x0 x1 x2 x7 false x14 x15 x16 x26 x27 (wrap64 (x28 + 1)) x224000 x224001)) else (none)) else (impl_pieceFault.L1 x0 x1 x2 x7 false x14 x15 x16 x26 x27 (wrap64 (x28 + 1)) x224000 x224001)) else (none))) else (none)) else (none)) else (if x9 = true then (if 0 ≤ x7 then (if x7 ≤ (x2.length : Int) then ((some (x2.take (x7 : Int).toNat : List (S60))).bind fun y233 => (impl_pieceFault.L2 x0 x1 x2 x7 x14 x15 x16 y233 (y233.length : Int) 0 x224000 x224001)) else (none)) else (none)) else (some x7)) := by
  refine Lim.next (fun k => (impl_pieceFault.mono_l k).2.1 x0 x1 x2 x7 x9 x14 x15 x16 x26 x27 x28 x224000 x224001) ?_
  simp only [impl_pieceFault.l1]
  repeat' with_reducible first | exact Lim.const _ | exact impl_pieceFault.L1_lim _ _ _ _ _ _ _ _ _ _ _ _ _ | exact impl_pieceFault.L2_lim _ _ _ _ _ _ _ _ _ _ _ _ | refine Lim.ite ?_ ?_ | refine Lim.bind ?_ (fun _ => ?_)
theorem impl_pieceFault.L2_eq (x0 : List (S50)) (x1 : List Int) (x2 : List (S60)) (x7 : Int) (x14 : List (S60)) (x15 x16 : Int) (x68 : List (S60)) (x69 x70 x224000 x224001 : Int) : impl_pieceFault.L2 x0 x1 x2 x7 x14 x15 x16 x68 x69 x70 x224000 x224001 = if x70 < x69 then (if 0 ≤ x70 then (if x70 < (x68.length : Int) then (if ((rd_T60 x68 x70).f0) = x224000 then (if x70 < (x1.length : Int) then (if x224001 < (wrap64 (((rd_T60 x68 x70).f1) + (rd x1 x70))) then (if 0 ≤ x7 then (if x7 < (x1.length : Int) then (if ((rd_T60 x68 x70).f1) < (wrap64 (x224001 + (rd x1 x7))) then (some x7) else (impl_pieceFault.L2 x0 x1 x2 x7 x14 x15 x16 x68 x69 (wrap64 (x70 + 1)) x224000 x224001)) else (none)) else (none)) else (impl_pieceFault.L2 x0 x1 x2 x7 x14 x15 x16 x68 x69 (wrap64 (x70 + 1)) x224000 x224001)) else (none)) else (impl_pieceFault.L2 x0 x1 x2 x7 x14 x15 x16 x68 x69 (wrap64 (x70 + 1)) x224000 x224001)) else (none)) else (none)) else (impl_pieceFault.L0 x0 x1 x2 x14 x15 (wrap64 (x16 + 1))) := by
  refine Lim.next (fun k => (impl_pieceFault.mono_l k).2.2 x0 x1 x2 x7 x14 x15 x16 x68 x69 x70 x224000 x224001) ?_
  simp only [impl_pieceFault.l2]
  repeat' with_reducible first | exact Lim.const _ | exact impl_pieceFault.L0_lim _ _ _ _ _ _ | exact impl_pieceFault.L2_lim _ _ _ _ _ _ _ _ _ _ _ _ | refine Lim.ite ?_ ?_ | refine Lim.bind ?_ (fun _ => ?_)
theorem impl_pieceFault.F_eq (l0 : List (S50)) (l1 : List Int) (l2 : List (S60)) : impl_pieceFault.F l0 l1 l2 = impl_pieceFault.L0 l0 l1 l2 l2 (l2.length : Int) 0 := by
  refine Lim.eq (g := fun k => impl_pieceFault.f k l0 l1 l2) ?_
  unfold impl_pieceFault.f
  repeat' with_reducible first | exact Lim.const _ | exact impl_pieceFault.L0_lim _ _ _ _ _ _ | refine Lim.ite ?_ ?_ | refine Lim.bind ?_ (fun _ => ?_)

noncomputable def impl_PieceFault.F (l0 : List (S50)) (l1 : List Int) (l2 : List (S60)) : Option (Int × Int) := lim (fun k => impl_PieceFault.f k l0 l1 l2)
theorem impl_PieceFault.F_lim (l0 : List (S50)) (l1 : List Int) (l2 : List (S60)) : Lim (fun k => impl_PieceFault.f k l0 l1 l2) (impl_PieceFault.F l0 l1 l2) := Lim.of (fun k => impl_PieceFault.mono l0 l1 l2 k)
theorem impl_PieceFault.F_eq (l0 : List (S50)) (l1 : List Int) (l2 : List (S60)) : impl_PieceFault.F l0 l1 l2 = (impl_placesCode.F l0 l1 l2).bind fun t241 => (if t241 = 0 then ((impl_pieceFault.F l0 l1 l2).bind fun t242 => (some (t242, 0))) else (some (0, t241))) := by
  refine Lim.eq (g := fun k => impl_PieceFault.f k l0 l1 l2) ?_
  unfold impl_PieceFault.f
  repeat' with_reducible first | exact Lim.const _ | exact impl_pieceFault.F_lim _ _ _ | exact impl_placesCode.F_lim _ _ _ | refine Lim.ite ?_ ?_ | refine Lim.bind ?_ (fun _ => ?_)

noncomputable def impl_ClothLeft.L0 (x1 : List Int) (x2 : List (S60)) (x9 : List Int) (x27 : List (S50)) (x28 x29 : Int) : Option (List Int × Int) := lim (fun k => impl_ClothLeft.l0 k x1 x2 x9 x27 x28 x29)
theorem impl_ClothLeft.L0_lim (x1 : List Int) (x2 : List (S60)) (x9 : List Int) (x27 : List (S50)) (x28 x29 : Int) : Lim (fun k => impl_ClothLeft.l0 k x1 x2 x9 x27 x28 x29) (impl_ClothLeft.L0 x1 x2 x9 x27 x28 x29) := Lim.of (fun k => (impl_ClothLeft.mono_l k).1 x1 x2 x9 x27 x28 x29)
noncomputable def impl_ClothLeft.L1 (x1 x9 : List Int) (x39 : List (S60)) (x40 x41 : Int) : Option (List Int × Int) := lim (fun k => impl_ClothLeft.l1 k x1 x9 x39 x40 x41)
theorem impl_ClothLeft.L1_lim (x1 x9 : List Int) (x39 : List (S60)) (x40 x41 : Int) : Lim (fun k => impl_ClothLeft.l1 k x1 x9 x39 x40 x41) (impl_ClothLeft.L1 x1 x9 x39 x40 x41) := Lim.of (fun k => (impl_ClothLeft.mono_l k).2 x1 x9 x39 x40 x41)
noncomputable def impl_ClothLeft.F (l0 : List (S50)) (l1 : List Int) (l2 : List (S60)) : Option (List Int × Int) := lim (fun k => impl_ClothLeft.f k l0 l1 l2)
theorem impl_ClothLeft.F_lim (l0 : List (S50)) (l1 : List Int) (l2 : List (S60)) : Lim (fun k => impl_ClothLeft.f k l0 l1 l2) (impl_ClothLeft.F l0 l1 l2) := Lim.of (fun k => impl_ClothLeft.mono l0 l1 l2 k)
theorem impl_ClothLeft.L0_eq (x1 : List Int) (x2 : List (S60)) (x9 : List Int) (x27 : List (S50)) (x28 x29 : Int) : impl_ClothLeft.L0 x1 x2 x9 x27 x28 x29 = if x29 < x28 then (if 0 ≤ x29 then (if x29 < (x27.length : Int) then (if x9.length < 17592186044416 then (impl_ClothLeft.L0 x1 x2 (x9 ++ [(rd_T50 x27 x29).f0]) x27 x28 (wrap64 (x29 + 1))) else (none)) else (none)) else (none)) else (impl_ClothLeft.L1 x1 x9 x2 (x2.length : Int) 0) := by
  refine Lim.next (fun k => (impl_ClothLeft.mono_l k).1 x1 x2 x9 x27 x28 x29) ?_
  simp only [impl_ClothLeft.l0]
  repeat' with_reducible first | exact Lim.const _ | exact impl_ClothLeft.L0_lim _ _ _ _ _ _ | exact impl_ClothLeft.L1_lim _ _ _ _ _ | refine Lim.ite ?_ ?_ | refine Lim.bind ?_ (fun _ => ?_)
theorem impl_ClothLeft.L1_eq (x1 x9 : List Int) (x39 : List (S60)) (x40 x41 : Int) : impl_ClothLeft.L1 x1 x9 x39 x40 x41 = if x41 < x40 then (if 0 ≤ x41 then (if x41 < (x39.length : Int) then (if 0 ≤ ((rd_T60 x39 x41).f0) then (if ((rd_T60 x39 x41).f0) < (x9.length : Int) then (if x41 < (x1.length : Int) then (impl_ClothLeft.L1 x1 (x9.set (((rd_T60 x39 x41).f0) : Int).toNat (wrap64 ((rd x9 ((rd_T60 x39 x41).f0)) - (rd x1 x41)))) x39 x40 (wrap64 (x41 + 1))) else (none)) else (none)) else (none)) else (none)) else (none)) else (some (x9, 0)) := by
  refine Lim.next (fun k => (impl_ClothLeft.mono_l k).2 x1 x9 x39 x40 x41) ?_
  simp only [impl_ClothLeft.l1]
  repeat' with_reducible first | exact Lim.const _ | exact impl_ClothLeft.L1_lim _ _ _ _ _ | refine Lim.ite ?_ ?_ | refine Lim.bind ?_ (fun _ => ?_)
theorem impl_ClothLeft.F_eq (l0 : List (S50)) (l1 : List Int) (l2 : List (S60)) : impl_ClothLeft.F l0 l1 l2 = (impl_placesCode.F l0 l1 l2).bind fun t243 => (if t243 = 0 then ((impl_pieceFault.F l0 l1 l2).bind fun t244 => (if t244 ≥ 0 then (some (([] : List Int), 6)) else (impl_ClothLeft.L0 l1 l2 (([] : List Int)) l0 (l0.length : Int) 0))) else (some (([] : List Int), t243))) := by
  refine Lim.eq (g := fun k => impl_ClothLeft.f k l0 l1 l2) ?_
  unfold impl_ClothLeft.f
  repeat' with_reducible first | exact Lim.const _ | exact impl_ClothLeft.L0_lim _ _ _ _ _ _ | exact impl_pieceFault.F_lim _ _ _ | exact impl_placesCode.F_lim _ _ _ | refine Lim.ite ?_ ?_ | refine Lim.bind ?_ (fun _ => ?_)

noncomputable def laws_a2Sum.L0 (x0 : List Int) (x3 x4 : Int) : Option (Int) := lim (fun k => laws_a2Sum.l0 k x0 x3 x4)
theorem laws_a2Sum.L0_lim (x0 : List Int) (x3 x4 : Int) : Lim (fun k => laws_a2Sum.l0 k x0 x3 x4) (laws_a2Sum.L0 x0 x3 x4) := Lim.of (fun k => (laws_a2Sum.mono_l k) x0 x3 x4)
noncomputable def laws_a2Sum.F (l0 : List Int) : Option (Int) := lim (fun k => laws_a2Sum.f k l0)
theorem laws_a2Sum.F_lim (l0 : List Int) : Lim (fun k => laws_a2Sum.f k l0) (laws_a2Sum.F l0) := Lim.of (fun k => laws_a2Sum.mono l0 k)
theorem laws_a2Sum.L0_eq (x0 : List Int) (x3 x4 : Int) : laws_a2Sum.L0 x0 x3 x4 = if x4 < (x0.length : Int) then (if 0 ≤ x4 then (laws_a2Sum.L0 x0 (wrap64 (x3 + (rd x0 x4))) (wrap64 (x4 + 1))) else (none)) else (some x3) := by
  refine Lim.next (fun k => (laws_a2Sum.mono_l k) x0 x3 x4) ?_
  simp only [laws_a2Sum.l0]
  repeat' with_reducible first | exact Lim.const _ | exact laws_a2Sum.L0_lim _ _ _ | refine Lim.ite ?_ ?_ | refine Lim.bind ?_ (fun _ => ?_)
theorem laws_a2Sum.F_eq (l0 : List Int) : laws_a2Sum.F l0 = laws_a2Sum.L0 l0 0 0 := by
  refine Lim.eq (g := fun k => laws_a2Sum.f k l0) ?_
  unfold laws_a2Sum.f
  repeat' with_reducible first | exact Lim.const _ | exact laws_a2Sum.L0_lim _ _ _ | refine Lim.ite ?_ ?_ | refine Lim.bind ?_ (fun _ => ?_)

noncomputable def laws_a2OnBolts.J0 (x0 : List (S50)) (x1 x9 : List Int) (x51 : Bool) : Option (Int) := lim (fun k => laws_a2OnBolts.j0 k x0 x1 x9 x51)
theorem laws_a2OnBolts.J0_lim (x0 : List (S50)) (x1 x9 : List Int) (x51 : Bool) : Lim (fun k => laws_a2OnBolts.j0 k x0 x1 x9 x51) (laws_a2OnBolts.J0 x0 x1 x9 x51) := Lim.of (fun k => (laws_a2OnBolts.mono_l k).1 x0 x1 x9 x51)
noncomputable def laws_a2OnBolts.L0 (x0 : List (S50)) (x9 : List Int) (x11 x12 x13 : Int) : Option (Int) := lim (fun k => laws_a2OnBolts.l0 k x0 x9 x11 x12 x13)
theorem laws_a2OnBolts.L0_lim (x0 : List (S50)) (x9 : List Int) (x11 x12 x13 : Int) : Lim (fun k => laws_a2OnBolts.l0 k x0 x9 x11 x12 x13) (laws_a2OnBolts.L0 x0 x9 x11 x12 x13) := Lim.of (fun k => (laws_a2OnBolts.mono_l k).2.1 x0 x9 x11 x12 x13)
noncomputable def laws_a2OnBolts.J2 (x0 : List (S50)) (x9 : List Int) (x11 x12 x13 : Int) (x76 : Bool) : Option (Int) := lim (fun k => laws_a2OnBolts.j2 k x0 x9 x11 x12 x13 x76)
theorem laws_a2OnBolts.J2_lim (x0 : List (S50)) (x9 : List Int) (x11 x12 x13 : Int) (x76 : Bool) : Lim (fun k => laws_a2OnBolts.j2 k x0 x9 x11 x12 x13 x76) (laws_a2OnBolts.J2 x0 x9 x11 x12 x13 x76) := Lim.of (fun k => (laws_a2OnBolts.mono_l k).2.2 x0 x9 x11 x12 x13 x76)
noncomputable def laws_a2OnBolts.F (l0 : List (S50)) (l1 : List Int) (l2 : List (S60)) : Option (Int) := lim (fun k => laws_a2OnBolts.f k l0 l1 l2)
theorem laws_a2OnBolts.F_lim (l0 : List (S50)) (l1 : List Int) (l2 : List (S60)) : Lim (fun k => laws_a2OnBolts.f k l0 l1 l2) (laws_a2OnBolts.F l0 l1 l2) := Lim.of (fun k => laws_a2OnBolts.mono l0 l1 l2 k)
theorem laws_a2OnBolts.J0_eq (x0 : List (S50)) (x1 x9 : List Int) (x51 : Bool) : laws_a2OnBolts.J0 x0 x1 x9 x51 = if x51 = true then (some (-1)) else ((laws_a2Sum.F x1).bind fun t265 => (laws_a2OnBolts.L0 x0 x9 0 t265 0)) := by
  refine Lim.next (fun k => (laws_a2OnBolts.mono_l k).1 x0 x1 x9 x51) ?_
  simp only [laws_a2OnBolts.j0]
  repeat' with_reducible first | exact Lim.const _ | exact laws_a2OnBolts.L0_lim _ _ _ _ _ | exact laws_a2Sum.F_lim _ | refine Lim.ite ?_ ?_ | refine Lim.bind ?_ (fun _ => ?_)
theorem laws_a2OnBolts.L0_eq (x0 : List (S50)) (x9 : List Int) (x11 x12 x13 : Int) : laws_a2OnBolts.L0 x0 x9 x11 x12 x13 = if x13 < (x0.length : Int) then (if 0 ≤ x13 then (if x13 < (x9.length : Int) then (if (rd x9 x13) < 0 then (laws_a2OnBolts.J2 x0 x9 x11 x12 x13 true) else (laws_a2OnBolts.J2 x0 x9 x11 x12 x13 (decide ((rd x9 x13) > ((rd_T50 x0 x13).f0))))) else (none)) else (none)) else (if x12 = 0 then (some x11) else (some (-1))) := by
  refine Lim.next (fun k => (laws_a2OnBolts.mono_l k).2.1 x0 x9 x11 x12 x13) ?_
  simp only [laws_a2OnBolts.l0]
  repeat' with_reducible first | exact Lim.const _ | exact laws_a2OnBolts.J2_lim _ _ _ _ _ _ | refine Lim.ite ?_ ?_ | refine Lim.bind ?_ (fun _ => ?_)
theorem laws_a2OnBolts.J2_eq (x0 : List (S50)) (x9 : List Int) (x11 x12 x13 : Int) (x76 : Bool) : laws_a2OnBolts.J2 x0 x9 x11 x12 x13 x76 = if x76 = true then (some (-1)) else (if 0 ≤ x13 then (if x13 < (x9.length : Int) then (if x13 < (x0.length : Int) then (if (rd x9 x13) < ((rd_T50 x0 x13).f0) then (laws_a2OnBolts.L0 x0 x9 (wrap64 (x11 + 1)) (wrap64 (x12 - (wrap64 (((rd_T50 x0 x13).f0) - (rd x9 x13))))) (wrap64 (x13 + 1))) else (laws_a2OnBolts.L0 x0 x9 x11 (wrap64 (x12 - (wrap64 (((rd_T50 x0 x13).f0) - (rd x9 x13))))) (wrap64 (x13 + 1)))) else (none)) else (none)) else (none)) := by
  refine Lim.next (fun k => (laws_a2OnBolts.mono_l k).2.2 x0 x9 x11 x12 x13 x76) ?_
  simp only [laws_a2OnBolts.j2]
  repeat' with_reducible first | exact Lim.const _ | exact laws_a2OnBolts.L0_lim _ _ _ _ _ | refine Lim.ite ?_ ?_ | refine Lim.bind ?_ (fun _ => ?_)
theorem laws_a2OnBolts.F_eq (l0 : List (S50)) (l1 : List Int) (l2 : List (S60)) : laws_a2OnBolts.F l0 l1 l2 = (impl_PieceFault.F l0 l1 l2).bind fun bt259 => ((impl_ClothLeft.F l0 l1 l2).bind fun bt261 => (if bt259.2 = 0 then (if bt259.1 = (-1) then (if bt261.2 = 0 then (if (bt261.1.length : Int) = (l0.length : Int) then (laws_a2OnBolts.J0 l0 l1 bt261.1 ((l2.length : Int) != (l1.length : Int))) else (laws_a2OnBolts.J0 l0 l1 bt261.1 true)) else (laws_a2OnBolts.J0 l0 l1 bt261.1 true)) else (laws_a2OnBolts.J0 l0 l1 bt261.1 true)) else (laws_a2OnBolts.J0 l0 l1 bt261.1 true))) := by
  refine Lim.eq (g := fun k => laws_a2OnBolts.f k l0 l1 l2) ?_
  unfold laws_a2OnBolts.f
  repeat' with_reducible first | exact Lim.const _ | exact impl_ClothLeft.F_lim _ _ _ | exact impl_PieceFault.F_lim _ _ _ | exact laws_a2OnBolts.J0_lim _ _ _ _ | refine Lim.ite ?_ ?_ | refine Lim.bind ?_ (fun _ => ?_)

noncomputable def laws_FnClothCuts.F (l0 : List Int) : Option (Bool) := lim (fun k => laws_FnClothCuts.f k l0)
theorem laws_FnClothCuts.F_lim (l0 : List Int) : Lim (fun k => laws_FnClothCuts.f k l0) (laws_FnClothCuts.F l0) := Lim.of (fun k => laws_FnClothCuts.mono l0 k)
theorem laws_FnClothCuts.F_eq (l0 : List Int) : laws_FnClothCuts.F l0 = (laws_a2Long.f l0 ([] : List Int)).bind fun t275 => (if t275 = true then (some true) else ((spec_A2Bolts.F l0).bind fun bt276 => ((impl_FirstPlaces.F bt276.1 bt276.2).bind fun bt282 => ((impl_FewestBolts.F bt276.1 bt276.2).bind fun bt286 => (if bt286.2.2 = 0 then ((laws_a2OnBolts.F bt276.1 bt276.2 bt286.1).bind fun t291 => (if t291 = bt286.2.1 then (if bt282.2 = 0 then ((laws_a2OnBolts.F bt276.1 bt276.2 bt282.1).bind fun t292 => (some (decide (t292 ≥ bt286.2.1)))) else (if bt282.2 = 5 then (some true) else (some false))) else (some false))) else (if bt286.2.2 = 5 then (some (bt282.2 == 5)) else (some false))))))) := by
  refine Lim.eq (g := fun k => laws_FnClothCuts.f k l0) ?_
  unfold laws_FnClothCuts.f
  repeat' with_reducible first | exact Lim.const _ | exact impl_FewestBolts.F_lim _ _ | exact impl_FirstPlaces.F_lim _ _ | exact laws_a2OnBolts.F_lim _ _ _ | exact spec_A2Bolts.F_lim _ | refine Lim.ite ?_ ?_ | refine Lim.bind ?_ (fun _ => ?_)

end Go.Proofs.YtendpecnfaojkaaDoor.PFnClothCuts
