/-
  Written by a program of this session (wip/tools/lims.py): the printed functions without their bound on rounds.
-/
import Derived.Test.YtendpecnfaojkaaDoorPFnExactFewestBoltsx1
import Derived.Test.YtendpecnfaojkaaDoorPFnExactFewestBoltsx2
import Derived.Test.YtendpecnfaojkaaDoorPFnExactFewestBoltsx3
import Derived.Test.YtendpecnfaojkaaDoorPFnExactFewestBoltsx4
import Derived.Test.YtendpecnfaojkaaDoorPFnExactFewestBoltsx5
import Derived.Test.YtendpecnfaojkaaDoorPFnExactFewestBoltsx6
import Derived.Test.YtendpecnfaojkaaDoorPFnExactFewestBoltsx7
import Derived.Test.YtendpecnfaojkaaDoorPFnExactFewestBoltsx8
import Derived.Test.YtendpecnfaojkaaDoorPFnExactFewestBoltsx9
import Derived.Test.YtendpecnfaojkaaDoorKit
set_option linter.unusedVariables false
set_option linter.unusedSimpArgs false
namespace Go.Proofs.YtendpecnfaojkaaDoor.PFnExactFewestBolts
open Go.RowKit Go.Proofs.YtendpecnfaojkaaDoor.Kit Go.Proofs.YtendpecnfaojkaaDoorW.PrintWords Go.Proofs.YtendpecnfaojkaaDoorW.PrintLast Go.Proofs.YtendpecnfaojkaaDoorW.PrintMore

noncomputable def impl_validBolt.J0 (x14 : Bool) (x102000 : Int) (x102001 : List Int) : Option (Bool) := lim (fun k => impl_validBolt.j0 k x14 x102000 x102001)
theorem impl_validBolt.J0_lim (x14 : Bool) (x102000 : Int) (x102001 : List Int) : Lim (fun k => impl_validBolt.j0 k x14 x102000 x102001) (impl_validBolt.J0 x14 x102000 x102001) := Lim.of (fun k => (impl_validBolt.mono_l k).1 x14 x102000 x102001)
noncomputable def impl_validBolt.L0 (x16 : List Int) (x17 x18 x102000 : Int) (x102001 : List Int) : Option (Bool) := lim (fun k => impl_validBolt.l0 k x16 x17 x18 x102000 x102001)
theorem impl_validBolt.L0_lim (x16 : List Int) (x17 x18 x102000 : Int) (x102001 : List Int) : Lim (fun k => impl_validBolt.l0 k x16 x17 x18 x102000 x102001) (impl_validBolt.L0 x16 x17 x18 x102000 x102001) := Lim.of (fun k => (impl_validBolt.mono_l k).2 x16 x17 x18 x102000 x102001)
noncomputable def impl_validBolt.F (a0_0 : Int) (l0_1 : List Int) : Option (Bool) := lim (fun k => impl_validBolt.f k a0_0 l0_1)
theorem impl_validBolt.F_lim (a0_0 : Int) (l0_1 : List Int) : Lim (fun k => impl_validBolt.f k a0_0 l0_1) (impl_validBolt.F a0_0 l0_1) := Lim.of (fun k => impl_validBolt.mono a0_0 l0_1 k)
theorem impl_validBolt.J0_eq (x14 : Bool) (x102000 : Int) (x102001 : List Int) : impl_validBolt.J0 x14 x102000 x102001 = if x14 = true then (some false) else (impl_validBolt.L0 x102001 (x102001.length : Int) 0 x102000 x102001) := by
  refine Lim.next (fun k => (impl_validBolt.mono_l k).1 x14 x102000 x102001) ?_
  simp only [impl_validBolt.j0]
  repeat' with_reducible first | exact Lim.const _ | exact impl_validBolt.L0_lim _ _ _ _ _ | refine Lim.ite ?_ ?_ | refine Lim.bind ?_ (fun _ => ?_)
theorem impl_validBolt.L0_eq (x16 : List Int) (x17 x18 x102000 : Int) (x102001 : List Int) : impl_validBolt.L0 x16 x17 x18 x102000 x102001 = if x18 < x17 then (if 0 ≤ x18 then (if x18 < (x16.length : Int) then ((impl_within.f (rd x16 x18) 1 (wrap64 (x102000 - 1))).bind fun t104 => (if t104 = true then (if x18 > 0 then (if 0 ≤ (wrap64 (x18 - 1)) then (if (wrap64 (x18 - 1)) < (x102001.length : Int) then (if (rd x16 x18) ≤ (rd x102001 (wrap64 (x18 - 1))) then (some false) else (impl_validBolt.L0 x16 x17 (wrap64 (x18 + 1)) x102000 x102001)) else (none)) else (none)) else (impl_validBolt.L0 x16 x17 (wrap64 (x18 + 1)) x102000 x102001)) else (some false))) else (none)) else (none)) else (some true) := by
  refine Lim.next (fun k => (impl_validBolt.mono_l k).2 x16 x17 x18 x102000 x102001) ?_
  simp only [impl_validBolt.l0]
  repeat' with_reducible first | exact Lim.const _ | exact impl_validBolt.L0_lim _ _ _ _ _ | refine Lim.ite ?_ ?_ | refine Lim.bind ?_ (fun _ => ?_)
theorem impl_validBolt.F_eq (a0_0 : Int) (l0_1 : List Int) : impl_validBolt.F a0_0 l0_1 = (impl_within.f a0_0 1 10000).bind fun t102 => (if t102 = true then (impl_validBolt.J0 (decide ((l0_1.length : Int) > 6)) a0_0 l0_1) else (impl_validBolt.J0 true a0_0 l0_1)) := by
  refine Lim.eq (g := fun k => impl_validBolt.f k a0_0 l0_1) ?_
  unfold impl_validBolt.f
  repeat' with_reducible first | exact Lim.const _ | exact impl_validBolt.J0_lim _ _ _ | refine Lim.ite ?_ ?_ | refine Lim.bind ?_ (fun _ => ?_)

noncomputable def impl_ValidBolts.L0 (x8 : List (S50)) (x9 x10 : Int) : Option (Bool) := lim (fun k => impl_ValidBolts.l0 k x8 x9 x10)
theorem impl_ValidBolts.L0_lim (x8 : List (S50)) (x9 x10 : Int) : Lim (fun k => impl_ValidBolts.l0 k x8 x9 x10) (impl_ValidBolts.L0 x8 x9 x10) := Lim.of (fun k => (impl_ValidBolts.mono_l k) x8 x9 x10)
noncomputable def impl_ValidBolts.F (l0 : List (S50)) : Option (Bool) := lim (fun k => impl_ValidBolts.f k l0)
theorem impl_ValidBolts.F_lim (l0 : List (S50)) : Lim (fun k => impl_ValidBolts.f k l0) (impl_ValidBolts.F l0) := Lim.of (fun k => impl_ValidBolts.mono l0 k)
theorem impl_ValidBolts.L0_eq (x8 : List (S50)) (x9 x10 : Int) : impl_ValidBolts.L0 x8 x9 x10 = if x10 < x9 then (if 0 ≤ x10 then (if x10 < (x8.length : Int) then ((impl_validBolt.F ((rd_T50 x8 x10).f0) ((rd_T50 x8 x10).f1)).bind fun t108 => (if t108 = true then (impl_ValidBolts.L0 x8 x9 (wrap64 (x10 + 1))) else (some false))) else (none)) else (none)) else (some true) := by
  refine Lim.next (fun k => (impl_ValidBolts.mono_l k) x8 x9 x10) ?_
  simp only [impl_ValidBolts.l0]
  repeat' with_reducible first | exact Lim.const _ | exact impl_ValidBolts.L0_lim _ _ _ | exact impl_validBolt.F_lim _ _ | refine Lim.ite ?_ ?_ | refine Lim.bind ?_ (fun _ => ?_)
theorem impl_ValidBolts.F_eq (l0 : List (S50)) : impl_ValidBolts.F l0 = if (l0.length : Int) > 4 then (some false) else (impl_ValidBolts.L0 l0 (l0.length : Int) 0) := by
  refine Lim.eq (g := fun k => impl_ValidBolts.f k l0) ?_
  unfold impl_ValidBolts.f
  repeat' with_reducible first | exact Lim.const _ | exact impl_ValidBolts.L0_lim _ _ _ | refine Lim.ite ?_ ?_ | refine Lim.bind ?_ (fun _ => ?_)

noncomputable def impl_areIn.L0 (x2 x3 : Int) (x15 : List Int) (x16 x17 : Int) : Option (Bool) := lim (fun k => impl_areIn.l0 k x2 x3 x15 x16 x17)
theorem impl_areIn.L0_lim (x2 x3 : Int) (x15 : List Int) (x16 x17 : Int) : Lim (fun k => impl_areIn.l0 k x2 x3 x15 x16 x17) (impl_areIn.L0 x2 x3 x15 x16 x17) := Lim.of (fun k => (impl_areIn.mono_l k) x2 x3 x15 x16 x17)
noncomputable def impl_areIn.F (l0 : List Int) (a1 a2 a3 : Int) : Option (Bool) := lim (fun k => impl_areIn.f k l0 a1 a2 a3)
theorem impl_areIn.F_lim (l0 : List Int) (a1 a2 a3 : Int) : Lim (fun k => impl_areIn.f k l0 a1 a2 a3) (impl_areIn.F l0 a1 a2 a3) := Lim.of (fun k => impl_areIn.mono l0 a1 a2 a3 k)
theorem impl_areIn.L0_eq (x2 x3 : Int) (x15 : List Int) (x16 x17 : Int) : impl_areIn.L0 x2 x3 x15 x16 x17 = if x17 < x16 then (if 0 ≤ x17 then (if x17 < (x15.length : Int) then ((impl_within.f (rd x15 x17) x2 x3).bind fun t110 => (if t110 = true then (impl_areIn.L0 x2 x3 x15 x16 (wrap64 (x17 + 1))) else (some false))) else (none)) else (none)) else (some true) := by
  refine Lim.next (fun k => (impl_areIn.mono_l k) x2 x3 x15 x16 x17) ?_
  simp only [impl_areIn.l0]
  repeat' with_reducible first | exact Lim.const _ | exact impl_areIn.L0_lim _ _ _ _ _ | refine Lim.ite ?_ ?_ | refine Lim.bind ?_ (fun _ => ?_)
theorem impl_areIn.F_eq (l0 : List Int) (a1 a2 a3 : Int) : impl_areIn.F l0 a1 a2 a3 = if (l0.length : Int) = a1 then (impl_areIn.L0 a2 a3 l0 (l0.length : Int) 0) else (some false) := by
  refine Lim.eq (g := fun k => impl_areIn.f k l0 a1 a2 a3) ?_
  unfold impl_areIn.f
  repeat' with_reducible first | exact Lim.const _ | exact impl_areIn.L0_lim _ _ _ _ _ | refine Lim.ite ?_ ?_ | refine Lim.bind ?_ (fun _ => ?_)

noncomputable def impl_panelsCode.F (l0 : List (S50)) (l1 : List Int) : Option (Int) := lim (fun k => impl_panelsCode.f k l0 l1)
theorem impl_panelsCode.F_lim (l0 : List (S50)) (l1 : List Int) : Lim (fun k => impl_panelsCode.f k l0 l1) (impl_panelsCode.F l0 l1) := Lim.of (fun k => impl_panelsCode.mono l0 l1 k)
theorem impl_panelsCode.F_eq (l0 : List (S50)) (l1 : List Int) : impl_panelsCode.F l0 l1 = (impl_ValidBolts.F l0).bind fun t111 => (if t111 = true then (if (l1.length : Int) > 6 then (some 2) else ((impl_areIn.F l1 (l1.length : Int) 1 10000).bind fun t112 => (if t112 = true then (some 0) else (some 2)))) else (some 1)) := by
  refine Lim.eq (g := fun k => impl_panelsCode.f k l0 l1) ?_
  unfold impl_panelsCode.f
  repeat' with_reducible first | exact Lim.const _ | exact impl_ValidBolts.F_lim _ | exact impl_areIn.F_lim _ _ _ _ | refine Lim.ite ?_ ?_ | refine Lim.bind ?_ (fun _ => ?_)

noncomputable def impl_soundParts.L0 (x3 : List (List Int)) (x4 : Int) (x9 : List Int) (x10 x11 x114000 : Int) (x114001 : List Int) : Option ((List (List Int))) := lim (fun k => impl_soundParts.l0 k x3 x4 x9 x10 x11 x114000 x114001)
theorem impl_soundParts.L0_lim (x3 : List (List Int)) (x4 : Int) (x9 : List Int) (x10 x11 x114000 : Int) (x114001 : List Int) : Lim (fun k => impl_soundParts.l0 k x3 x4 x9 x10 x11 x114000 x114001) (impl_soundParts.L0 x3 x4 x9 x10 x11 x114000 x114001) := Lim.of (fun k => (impl_soundParts.mono_l k) x3 x4 x9 x10 x11 x114000 x114001)
noncomputable def impl_soundParts.F (a0_0 : Int) (l0_1 : List Int) : Option ((List (List Int))) := lim (fun k => impl_soundParts.f k a0_0 l0_1)
theorem impl_soundParts.F_lim (a0_0 : Int) (l0_1 : List Int) : Lim (fun k => impl_soundParts.f k a0_0 l0_1) (impl_soundParts.F a0_0 l0_1) := Lim.of (fun k => impl_soundParts.mono a0_0 l0_1 k)
theorem impl_soundParts.L0_eq (x3 : List (List Int)) (x4 : Int) (x9 : List Int) (x10 x11 x114000 : Int) (x114001 : List Int) : impl_soundParts.L0 x3 x4 x9 x10 x11 x114000 x114001 = if x11 < x10 then (if 0 ≤ x11 then (if x11 < (x9.length : Int) then (if x3.length < 5864062014805 then (impl_soundParts.L0 (x3 ++ [(([x4, rd x9 x11] : List Int))]) (rd x9 x11) x9 x10 (wrap64 (x11 + 1)) x114000 x114001) else (none)) else (none)) else (none)) else (if x3.length < 5864062014805 then (some (x3 ++ [(([x4, x114000] : List Int))])) else (none)) := by
  refine Lim.next (fun k => (impl_soundParts.mono_l k) x3 x4 x9 x10 x11 x114000 x114001) ?_
  simp only [impl_soundParts.l0]
  repeat' with_reducible first | exact Lim.const _ | exact impl_soundParts.L0_lim _ _ _ _ _ _ _ | refine Lim.ite ?_ ?_ | refine Lim.bind ?_ (fun _ => ?_)
theorem impl_soundParts.F_eq (a0_0 : Int) (l0_1 : List Int) : impl_soundParts.F a0_0 l0_1 = impl_soundParts.L0 (([] : List (List Int))) 0 l0_1 (l0_1.length : Int) 0 a0_0 l0_1 := by
  refine Lim.eq (g := fun k => impl_soundParts.f k a0_0 l0_1) ?_
  unfold impl_soundParts.f
  repeat' with_reducible first | exact Lim.const _ | exact impl_soundParts.L0_lim _ _ _ _ _ _ _ | refine Lim.ite ?_ ?_ | refine Lim.bind ?_ (fun _ => ?_)

noncomputable def impl_partsOfBolts.L0 (x3 : List (S57)) (x9 : List (S50)) (x10 x11 : Int) : Option ((List (S57))) := lim (fun k => impl_partsOfBolts.l0 k x3 x9 x10 x11)
theorem impl_partsOfBolts.L0_lim (x3 : List (S57)) (x9 : List (S50)) (x10 x11 : Int) : Lim (fun k => impl_partsOfBolts.l0 k x3 x9 x10 x11) (impl_partsOfBolts.L0 x3 x9 x10 x11) := Lim.of (fun k => (impl_partsOfBolts.mono_l k).1 x3 x9 x10 x11)
noncomputable def impl_partsOfBolts.L1 (x3 : List (S57)) (x4 : Int) (x9 : List (S50)) (x10 x11 : Int) (x17 : List (List Int)) (x18 x19 : Int) : Option ((List (S57))) := lim (fun k => impl_partsOfBolts.l1 k x3 x4 x9 x10 x11 x17 x18 x19)
theorem impl_partsOfBolts.L1_lim (x3 : List (S57)) (x4 : Int) (x9 : List (S50)) (x10 x11 : Int) (x17 : List (List Int)) (x18 x19 : Int) : Lim (fun k => impl_partsOfBolts.l1 k x3 x4 x9 x10 x11 x17 x18 x19) (impl_partsOfBolts.L1 x3 x4 x9 x10 x11 x17 x18 x19) := Lim.of (fun k => (impl_partsOfBolts.mono_l k).2 x3 x4 x9 x10 x11 x17 x18 x19)
noncomputable def impl_partsOfBolts.F (l0 : List (S50)) : Option ((List (S57))) := lim (fun k => impl_partsOfBolts.f k l0)
theorem impl_partsOfBolts.F_lim (l0 : List (S50)) : Lim (fun k => impl_partsOfBolts.f k l0) (impl_partsOfBolts.F l0) := Lim.of (fun k => impl_partsOfBolts.mono l0 k)
theorem impl_partsOfBolts.L0_eq (x3 : List (S57)) (x9 : List (S50)) (x10 x11 : Int) : impl_partsOfBolts.L0 x3 x9 x10 x11 = if x11 < x10 then (if 0 ≤ x11 then (if x11 < (x9.length : Int) then ((impl_soundParts.F ((rd_T50 x9 x11).f0) ((rd_T50 x9 x11).f1)).bind fun t135 => (impl_partsOfBolts.L1 x3 x11 x9 x10 x11 t135 (t135.length : Int) 0)) else (none)) else (none)) else (some x3) := by
  refine Lim.next (fun k => (impl_partsOfBolts.mono_l k).1 x3 x9 x10 x11) ?_
  simp only [impl_partsOfBolts.l0]
  repeat' with_reducible first | exact Lim.const _ | exact impl_partsOfBolts.L1_lim _ _ _ _ _ _ _ _ | exact impl_soundParts.F_lim _ _ | refine Lim.ite ?_ ?_ | refine Lim.bind ?_ (fun _ => ?_)
theorem impl_partsOfBolts.L1_eq (x3 : List (S57)) (x4 : Int) (x9 : List (S50)) (x10 x11 : Int) (x17 : List (List Int)) (x18 x19 : Int) : impl_partsOfBolts.L1 x3 x4 x9 x10 x11 x17 x18 x19 = if x19 < x18 then (if 0 ≤ x19 then (if x19 < (x17.length : Int) then (if 0 < ((rd_L1 x17 x19).length : Int) then (if 1 < ((rd_L1 x17 x19).length : Int) then (if x3.length < 5864062014805 then (impl_partsOfBolts.L1 (x3 ++ [(⟨x4, rd (rd_L1 x17 x19) 0, rd (rd_L1 x17 x19) 1⟩ : S57)]) x4 x9 x10 x11 x17 x18 (wrap64 (x19 + 1))) else (none)) else (none)) else (none)) else (none)) else (none)) else (impl_partsOfBolts.L0 x3 x9 x10 (wrap64 (x11 + 1))) := by
  refine Lim.next (fun k => (impl_partsOfBolts.mono_l k).2 x3 x4 x9 x10 x11 x17 x18 x19) ?_
  simp only [impl_partsOfBolts.l1]
  repeat' with_reducible first | exact Lim.const _ | exact impl_partsOfBolts.L0_lim _ _ _ _ | exact impl_partsOfBolts.L1_lim _ _ _ _ _ _ _ _ | refine Lim.ite ?_ ?_ | refine Lim.bind ?_ (fun _ => ?_)
theorem impl_partsOfBolts.F_eq (l0 : List (S50)) : impl_partsOfBolts.F l0 = impl_partsOfBolts.L0 (([] : List (S57))) l0 (l0.length : Int) 0 := by
  refine Lim.eq (g := fun k => impl_partsOfBolts.f k l0) ?_
  unfold impl_partsOfBolts.f
  repeat' with_reducible first | exact Lim.const _ | exact impl_partsOfBolts.L0_lim _ _ _ _ | refine Lim.ite ?_ ?_ | refine Lim.bind ?_ (fun _ => ?_)

noncomputable def impl_FewestBolts.F (l0 : List S50) (l1 : List Int) : Option (List S60 × Int × Int) := lim (fun k => impl_FewestBolts.f k l0 l1)
theorem impl_FewestBolts.F_lim (l0 : List S50) (l1 : List Int) : Lim (fun k => impl_FewestBolts.f k l0 l1) (impl_FewestBolts.F l0 l1) := Lim.of (fun k => impl_FewestBolts.mono l0 l1 k)
theorem impl_FewestBolts.F_eq (l0 : List S50) (l1 : List Int) : impl_FewestBolts.F l0 l1 = (impl_panelsCode.F l0 l1).bind fun c => if c = 0 then ((impl_partsOfBolts.F l0).bind fun parts => if goodB l0 l1 parts = true then some (fewR (fewGo l1 parts l0.length (l0.length + 1) 0)) else none) else some ([], 0, c) := by
  refine Lim.eq (g := fun k => impl_FewestBolts.f k l0 l1) ?_
  unfold impl_FewestBolts.f
  repeat' with_reducible first | exact Lim.const _ | exact impl_panelsCode.F_lim _ _ | exact impl_partsOfBolts.F_lim _ | refine Lim.ite ?_ ?_ | refine Lim.bind ?_ (fun _ => ?_)

noncomputable def laws_szBoltS.L0 (x0 : List (S73)) (x1 x5 : Int) : Option (Int) := lim (fun k => laws_szBoltS.l0 k x0 x1 x5)
theorem laws_szBoltS.L0_lim (x0 : List (S73)) (x1 x5 : Int) : Lim (fun k => laws_szBoltS.l0 k x0 x1 x5) (laws_szBoltS.L0 x0 x1 x5) := Lim.of (fun k => (laws_szBoltS.mono_l k) x0 x1 x5)
noncomputable def laws_szBoltS.F (l0 : List (S73)) (a1 : Int) : Option (Int) := lim (fun k => laws_szBoltS.f k l0 a1)
theorem laws_szBoltS.F_lim (l0 : List (S73)) (a1 : Int) : Lim (fun k => laws_szBoltS.f k l0 a1) (laws_szBoltS.F l0 a1) := Lim.of (fun k => laws_szBoltS.mono l0 a1 k)
theorem laws_szBoltS.L0_eq (x0 : List (S73)) (x1 x5 : Int) : laws_szBoltS.L0 x0 x1 x5 = if x5 < (x0.length : Int) then (if 0 ≤ x5 then ((laws_szBolt.f ((rd_T73 x0 x5).f0) ((rd_T73 x0 x5).f1) x1).bind fun t148 => (if t148 < 0 then (some (-1)) else (laws_szBoltS.L0 x0 t148 (wrap64 (x5 + 1))))) else (none)) else (some x1) := by
  refine Lim.next (fun k => (laws_szBoltS.mono_l k) x0 x1 x5) ?_
  simp only [laws_szBoltS.l0]
  repeat' with_reducible first | exact Lim.const _ | exact laws_szBoltS.L0_lim _ _ _ | refine Lim.ite ?_ ?_ | refine Lim.bind ?_ (fun _ => ?_)
theorem laws_szBoltS.F_eq (l0 : List (S73)) (a1 : Int) : laws_szBoltS.F l0 a1 = if (wrap64 (a1 - (l0.length : Int))) < 0 then (some (-1)) else (laws_szBoltS.L0 l0 (wrap64 (a1 - (l0.length : Int))) 0) := by
  refine Lim.eq (g := fun k => laws_szBoltS.f k l0 a1) ?_
  unfold laws_szBoltS.f
  repeat' with_reducible first | exact Lim.const _ | exact laws_szBoltS.L0_lim _ _ _ | refine Lim.ite ?_ ?_ | refine Lim.bind ?_ (fun _ => ?_)

noncomputable def spec_l00Rises.L0 (x0 : List Int) (x1 x2 x7 : Int) : Option (Bool) := lim (fun k => spec_l00Rises.l0 k x0 x1 x2 x7)
theorem spec_l00Rises.L0_lim (x0 : List Int) (x1 x2 x7 : Int) : Lim (fun k => spec_l00Rises.l0 k x0 x1 x2 x7) (spec_l00Rises.L0 x0 x1 x2 x7) := Lim.of (fun k => (spec_l00Rises.mono_l k) x0 x1 x2 x7)
noncomputable def spec_l00Rises.F (l0 : List Int) (a1 a2 : Int) : Option (Bool) := lim (fun k => spec_l00Rises.f k l0 a1 a2)
theorem spec_l00Rises.F_lim (l0 : List Int) (a1 a2 : Int) : Lim (fun k => spec_l00Rises.f k l0 a1 a2) (spec_l00Rises.F l0 a1 a2) := Lim.of (fun k => spec_l00Rises.mono l0 a1 a2 k)
theorem spec_l00Rises.L0_eq (x0 : List Int) (x1 x2 x7 : Int) : spec_l00Rises.L0 x0 x1 x2 x7 = if x7 < (x0.length : Int) then (if 0 ≤ x7 then ((spec_l00In.f (rd x0 x7) x1 x2).bind fun t150 => (if t150 = true then (if x7 > 0 then (if 0 ≤ (wrap64 (x7 - 1)) then (if (wrap64 (x7 - 1)) < (x0.length : Int) then (if (rd x0 (wrap64 (x7 - 1))) ≥ (rd x0 x7) then (some false) else (spec_l00Rises.L0 x0 x1 x2 (wrap64 (x7 + 1)))) else (none)) else (none)) else (spec_l00Rises.L0 x0 x1 x2 (wrap64 (x7 + 1)))) else (some false))) else (none)) else (some true) := by
  refine Lim.next (fun k => (spec_l00Rises.mono_l k) x0 x1 x2 x7) ?_
  simp only [spec_l00Rises.l0]
  repeat' with_reducible first | exact Lim.const _ | exact spec_l00Rises.L0_lim _ _ _ _ | refine Lim.ite ?_ ?_ | refine Lim.bind ?_ (fun _ => ?_)
theorem spec_l00Rises.F_eq (l0 : List Int) (a1 a2 : Int) : spec_l00Rises.F l0 a1 a2 = spec_l00Rises.L0 l0 a1 a2 0 := by
  refine Lim.eq (g := fun k => spec_l00Rises.f k l0 a1 a2) ?_
  unfold spec_l00Rises.f
  repeat' with_reducible first | exact Lim.const _ | exact spec_l00Rises.L0_lim _ _ _ _ | refine Lim.ite ?_ ?_ | refine Lim.bind ?_ (fun _ => ?_)

noncomputable def spec_l16One.F (l0 : List (S50)) : Option (Bool) := lim (fun k => spec_l16One.f k l0)
theorem spec_l16One.F_lim (l0 : List (S50)) : Lim (fun k => spec_l16One.f k l0) (spec_l16One.F l0) := Lim.of (fun k => spec_l16One.mono l0 k)
theorem spec_l16One.F_eq (l0 : List (S50)) : spec_l16One.F l0 = if 0 < (l0.length : Int) then ((spec_l00In.f ((rd_T50 l0 0).f0) 1 10000).bind fun t155 => (if t155 = true then (if (((rd_T50 l0 0).f1).length : Int) ≤ 6 then ((spec_l00Rises.F ((rd_T50 l0 0).f1) 1 (wrap64 (((rd_T50 l0 0).f0) - 1))).bind fun t159 => (some t159)) else (some false)) else (some false))) else (none) := by
  refine Lim.eq (g := fun k => spec_l16One.f k l0) ?_
  unfold spec_l16One.f
  repeat' with_reducible first | exact Lim.const _ | exact spec_l00Rises.F_lim _ _ _ | refine Lim.ite ?_ ?_ | refine Lim.bind ?_ (fun _ => ?_)

noncomputable def spec_l16Ok.L0 (x0 : List (S50)) (x3 : Int) : Option (Bool) := lim (fun k => spec_l16Ok.l0 k x0 x3)
theorem spec_l16Ok.L0_lim (x0 : List (S50)) (x3 : Int) : Lim (fun k => spec_l16Ok.l0 k x0 x3) (spec_l16Ok.L0 x0 x3) := Lim.of (fun k => (spec_l16Ok.mono_l k) x0 x3)
noncomputable def spec_l16Ok.F (l0 : List (S50)) : Option (Bool) := lim (fun k => spec_l16Ok.f k l0)
theorem spec_l16Ok.F_lim (l0 : List (S50)) : Lim (fun k => spec_l16Ok.f k l0) (spec_l16Ok.F l0) := Lim.of (fun k => spec_l16Ok.mono l0 k)
theorem spec_l16Ok.L0_eq (x0 : List (S50)) (x3 : Int) : spec_l16Ok.L0 x0 x3 = if x3 < (x0.length : Int) then (if 0 ≤ x3 then ((spec_l16One.F [rd_T50 x0 x3]).bind fun t162 => (if t162 = true then (spec_l16Ok.L0 x0 (wrap64 (x3 + 1))) else (some false))) else (none)) else (some (decide ((x0.length : Int) ≤ 4))) := by
  refine Lim.next (fun k => (spec_l16Ok.mono_l k) x0 x3) ?_
  simp only [spec_l16Ok.l0]
  repeat' with_reducible first | exact Lim.const _ | exact spec_l16Ok.L0_lim _ _ | exact spec_l16One.F_lim _ | refine Lim.ite ?_ ?_ | refine Lim.bind ?_ (fun _ => ?_)
theorem spec_l16Ok.F_eq (l0 : List (S50)) : spec_l16Ok.F l0 = spec_l16Ok.L0 l0 0 := by
  refine Lim.eq (g := fun k => spec_l16Ok.f k l0) ?_
  unfold spec_l16Ok.f
  repeat' with_reducible first | exact Lim.const _ | exact spec_l16Ok.L0_lim _ _ | refine Lim.ite ?_ ?_ | refine Lim.bind ?_ (fun _ => ?_)

noncomputable def spec_l16Panels.L0 (x0 : List Int) (x3 : Int) : Option (Bool) := lim (fun k => spec_l16Panels.l0 k x0 x3)
theorem spec_l16Panels.L0_lim (x0 : List Int) (x3 : Int) : Lim (fun k => spec_l16Panels.l0 k x0 x3) (spec_l16Panels.L0 x0 x3) := Lim.of (fun k => (spec_l16Panels.mono_l k) x0 x3)
noncomputable def spec_l16Panels.F (l0 : List Int) : Option (Bool) := lim (fun k => spec_l16Panels.f k l0)
theorem spec_l16Panels.F_lim (l0 : List Int) : Lim (fun k => spec_l16Panels.f k l0) (spec_l16Panels.F l0) := Lim.of (fun k => spec_l16Panels.mono l0 k)
theorem spec_l16Panels.L0_eq (x0 : List Int) (x3 : Int) : spec_l16Panels.L0 x0 x3 = if x3 < (x0.length : Int) then (if 0 ≤ x3 then ((spec_l00In.f (rd x0 x3) 1 10000).bind fun t164 => (if t164 = true then (spec_l16Panels.L0 x0 (wrap64 (x3 + 1))) else (some false))) else (none)) else (some (decide ((x0.length : Int) ≤ 6))) := by
  refine Lim.next (fun k => (spec_l16Panels.mono_l k) x0 x3) ?_
  simp only [spec_l16Panels.l0]
  repeat' with_reducible first | exact Lim.const _ | exact spec_l16Panels.L0_lim _ _ | refine Lim.ite ?_ ?_ | refine Lim.bind ?_ (fun _ => ?_)
theorem spec_l16Panels.F_eq (l0 : List Int) : spec_l16Panels.F l0 = spec_l16Panels.L0 l0 0 := by
  refine Lim.eq (g := fun k => spec_l16Panels.f k l0) ?_
  unfold spec_l16Panels.f
  repeat' with_reducible first | exact Lim.const _ | exact spec_l16Panels.L0_lim _ _ | refine Lim.ite ?_ ?_ | refine Lim.bind ?_ (fun _ => ?_)

noncomputable def spec_l16Two.F (l0 : List (S50)) (l1 : List Int) : Option (Int) := lim (fun k => spec_l16Two.f k l0 l1)
theorem spec_l16Two.F_lim (l0 : List (S50)) (l1 : List Int) : Lim (fun k => spec_l16Two.f k l0 l1) (spec_l16Two.F l0 l1) := Lim.of (fun k => spec_l16Two.mono l0 l1 k)
theorem spec_l16Two.F_eq (l0 : List (S50)) (l1 : List Int) : spec_l16Two.F l0 l1 = (spec_l16Ok.F l0).bind fun t165 => (if t165 = true then ((spec_l16Panels.F l1).bind fun t166 => (if t166 = true then (some 0) else (some 2))) else (some 1)) := by
  refine Lim.eq (g := fun k => spec_l16Two.f k l0 l1) ?_
  unfold spec_l16Two.f
  repeat' with_reducible first | exact Lim.const _ | exact spec_l16Ok.F_lim _ | exact spec_l16Panels.F_lim _ | refine Lim.ite ?_ ?_ | refine Lim.bind ?_ (fun _ => ?_)

noncomputable def spec_l16Parts.L0 (x0 : List (S50)) (x3 : List (List Int)) (x4 x5 : Int) : Option ((List (List Int))) := lim (fun k => spec_l16Parts.l0 k x0 x3 x4 x5)
theorem spec_l16Parts.L0_lim (x0 : List (S50)) (x3 : List (List Int)) (x4 x5 : Int) : Lim (fun k => spec_l16Parts.l0 k x0 x3 x4 x5) (spec_l16Parts.L0 x0 x3 x4 x5) := Lim.of (fun k => (spec_l16Parts.mono_l k) x0 x3 x4 x5)
noncomputable def spec_l16Parts.F (l0 : List (S50)) : Option ((List (List Int))) := lim (fun k => spec_l16Parts.f k l0)
theorem spec_l16Parts.F_lim (l0 : List (S50)) : Lim (fun k => spec_l16Parts.f k l0) (spec_l16Parts.F l0) := Lim.of (fun k => spec_l16Parts.mono l0 k)
theorem spec_l16Parts.L0_eq (x0 : List (S50)) (x3 : List (List Int)) (x4 x5 : Int) : spec_l16Parts.L0 x0 x3 x4 x5 = if x5 < (((rd_T50 x0 0).f1).length : Int) then (if 0 ≤ x5 then (if x3.length < 5864062014805 then (spec_l16Parts.L0 x0 (x3 ++ [(([x4, rd ((rd_T50 x0 0).f1) x5] : List Int))]) (rd ((rd_T50 x0 0).f1) x5) (wrap64 (x5 + 1))) else (none)) else (none)) else (if x3.length < 5864062014805 then (some (x3 ++ [(([x4, (rd_T50 x0 0).f0] : List Int))])) else (none)) := by
  refine Lim.next (fun k => (spec_l16Parts.mono_l k) x0 x3 x4 x5) ?_
  simp only [spec_l16Parts.l0]
  repeat' with_reducible first | exact Lim.const _ | exact spec_l16Parts.L0_lim _ _ _ _ | refine Lim.ite ?_ ?_ | refine Lim.bind ?_ (fun _ => ?_)
theorem spec_l16Parts.F_eq (l0 : List (S50)) : spec_l16Parts.F l0 = if 0 < (l0.length : Int) then (spec_l16Parts.L0 l0 (([] : List (List Int))) 0 0) else (none) := by
  refine Lim.eq (g := fun k => spec_l16Parts.f k l0) ?_
  unfold spec_l16Parts.f
  repeat' with_reducible first | exact Lim.const _ | exact spec_l16Parts.L0_lim _ _ _ _ | refine Lim.ite ?_ ?_ | refine Lim.bind ?_ (fun _ => ?_)

noncomputable def spec_l16All.L0 (x0 : List (S50)) (x3 : List (S98)) (x4 : Int) : Option ((List (S98))) := lim (fun k => spec_l16All.l0 k x0 x3 x4)
theorem spec_l16All.L0_lim (x0 : List (S50)) (x3 : List (S98)) (x4 : Int) : Lim (fun k => spec_l16All.l0 k x0 x3 x4) (spec_l16All.L0 x0 x3 x4) := Lim.of (fun k => (spec_l16All.mono_l k).1 x0 x3 x4)
noncomputable def spec_l16All.L1 (x0 : List (S50)) (x3 : List (S98)) (x4 : Int) (x5 : List (List Int)) (x6 : Int) : Option ((List (S98))) := lim (fun k => spec_l16All.l1 k x0 x3 x4 x5 x6)
theorem spec_l16All.L1_lim (x0 : List (S50)) (x3 : List (S98)) (x4 : Int) (x5 : List (List Int)) (x6 : Int) : Lim (fun k => spec_l16All.l1 k x0 x3 x4 x5 x6) (spec_l16All.L1 x0 x3 x4 x5 x6) := Lim.of (fun k => (spec_l16All.mono_l k).2 x0 x3 x4 x5 x6)
noncomputable def spec_l16All.F (l0 : List (S50)) : Option ((List (S98))) := lim (fun k => spec_l16All.f k l0)
theorem spec_l16All.F_lim (l0 : List (S50)) : Lim (fun k => spec_l16All.f k l0) (spec_l16All.F l0) := Lim.of (fun k => spec_l16All.mono l0 k)
theorem spec_l16All.L0_eq (x0 : List (S50)) (x3 : List (S98)) (x4 : Int) : spec_l16All.L0 x0 x3 x4 = if x4 < (x0.length : Int) then (if 0 ≤ x4 then ((spec_l16Parts.F [rd_T50 x0 x4]).bind fun t194 => (spec_l16All.L1 x0 x3 x4 t194 0)) else (none)) else (some x3) := by
  refine Lim.next (fun k => (spec_l16All.mono_l k).1 x0 x3 x4) ?_
  simp only [spec_l16All.l0]
  repeat' with_reducible first | exact Lim.const _ | exact spec_l16All.L1_lim _ _ _ _ _ | exact spec_l16Parts.F_lim _ | refine Lim.ite ?_ ?_ | refine Lim.bind ?_ (fun _ => ?_)
theorem spec_l16All.L1_eq (x0 : List (S50)) (x3 : List (S98)) (x4 : Int) (x5 : List (List Int)) (x6 : Int) : spec_l16All.L1 x0 x3 x4 x5 x6 = if x6 < (x5.length : Int) then (if 0 ≤ x6 then (if 0 < ((rd_L1 x5 x6).length : Int) then (if 1 < ((rd_L1 x5 x6).length : Int) then (if x3.length < 5864062014805 then (spec_l16All.L1 x0 (x3 ++ [(⟨x4, rd (rd_L1 x5 x6) 0, rd (rd_L1 x5 x6) 1⟩ : S98)]) x4 x5 (wrap64 (x6 + 1))) else (none)) else (none)) else (none)) else (none)) else (spec_l16All.L0 x0 x3 (wrap64 (x4 + 1))) := by
  refine Lim.next (fun k => (spec_l16All.mono_l k).2 x0 x3 x4 x5 x6) ?_
  simp only [spec_l16All.l1]
  repeat' with_reducible first | exact Lim.const _ | exact spec_l16All.L0_lim _ _ _ | exact spec_l16All.L1_lim _ _ _ _ _ | refine Lim.ite ?_ ?_ | refine Lim.bind ?_ (fun _ => ?_)
theorem spec_l16All.F_eq (l0 : List (S50)) : spec_l16All.F l0 = spec_l16All.L0 l0 (([] : List (S98))) 0 := by
  refine Lim.eq (g := fun k => spec_l16All.f k l0) ?_
  unfold spec_l16All.f
  repeat' with_reducible first | exact Lim.const _ | exact spec_l16All.L0_lim _ _ _ | refine Lim.ite ?_ ?_ | refine Lim.bind ?_ (fun _ => ?_)

noncomputable def spec_FewestBolts.F (l0 : List S50) (l1 : List Int) : Option (List S60 × Int × Int) := lim (fun k => spec_FewestBolts.f k l0 l1)
theorem spec_FewestBolts.F_lim (l0 : List S50) (l1 : List Int) : Lim (fun k => spec_FewestBolts.f k l0 l1) (spec_FewestBolts.F l0 l1) := Lim.of (fun k => spec_FewestBolts.mono l0 l1 k)
theorem spec_FewestBolts.F_eq (l0 : List S50) (l1 : List Int) : spec_FewestBolts.F l0 l1 = (spec_l16Two.F l0 l1).bind fun c => if c = 0 then ((spec_l16All.F l0).bind fun parts => if goodW l0 l1 parts = true then some (fewW (walkW parts.length l1 (parts, List.replicate l0.length 0) [] none)) else none) else some ([], 0, c) := by
  refine Lim.eq (g := fun k => spec_FewestBolts.f k l0 l1) ?_
  unfold spec_FewestBolts.f
  repeat' with_reducible first | exact Lim.const _ | exact spec_l16All.F_lim _ | exact spec_l16Two.F_lim _ _ | refine Lim.ite ?_ ?_ | refine Lim.bind ?_ (fun _ => ?_)

noncomputable def laws_toInt64S.L0 (x0 x3 : List Int) (x4 : Int) : Option (List Int) := lim (fun k => laws_toInt64S.l0 k x0 x3 x4)
theorem laws_toInt64S.L0_lim (x0 x3 : List Int) (x4 : Int) : Lim (fun k => laws_toInt64S.l0 k x0 x3 x4) (laws_toInt64S.L0 x0 x3 x4) := Lim.of (fun k => (laws_toInt64S.mono_l k) x0 x3 x4)
noncomputable def laws_toInt64S.F (l0 : List Int) : Option (List Int) := lim (fun k => laws_toInt64S.f k l0)
theorem laws_toInt64S.F_lim (l0 : List Int) : Lim (fun k => laws_toInt64S.f k l0) (laws_toInt64S.F l0) := Lim.of (fun k => laws_toInt64S.mono l0 k)
theorem laws_toInt64S.L0_eq (x0 x3 : List Int) (x4 : Int) : laws_toInt64S.L0 x0 x3 x4 = if x4 < (x0.length : Int) then (if 0 ≤ x4 then (if x4 < (x3.length : Int) then (laws_toInt64S.L0 x0 (x3.set (x4 : Int).toNat (rd x0 x4)) (wrap64 (x4 + 1))) else (none)) else (none)) else (some x3) := by
  refine Lim.next (fun k => (laws_toInt64S.mono_l k) x0 x3 x4) ?_
  simp only [laws_toInt64S.l0]
  repeat' with_reducible first | exact Lim.const _ | exact laws_toInt64S.L0_lim _ _ _ | refine Lim.ite ?_ ?_ | refine Lim.bind ?_ (fun _ => ?_)
theorem laws_toInt64S.F_eq (l0 : List Int) : laws_toInt64S.F l0 = if 0 ≤ (l0.length : Int) then (if ((l0.length : Int) : Int).toNat ≤ 35184372088832 then (laws_toInt64S.L0 l0 (List.replicate ((l0.length : Int) : Int).toNat 0) 0) else (none)) else (none) := by
  refine Lim.eq (g := fun k => laws_toInt64S.f k l0) ?_
  unfold laws_toInt64S.f
  repeat' with_reducible first | exact Lim.const _ | exact laws_toInt64S.L0_lim _ _ _ | refine Lim.ite ?_ ?_ | refine Lim.bind ?_ (fun _ => ?_)

noncomputable def laws_toBolt.F (a0_0 : Int) (l0_1 : List Int) : Option (Int × List Int) := lim (fun k => laws_toBolt.f k a0_0 l0_1)
theorem laws_toBolt.F_lim (a0_0 : Int) (l0_1 : List Int) : Lim (fun k => laws_toBolt.f k a0_0 l0_1) (laws_toBolt.F a0_0 l0_1) := Lim.of (fun k => laws_toBolt.mono a0_0 l0_1 k)
theorem laws_toBolt.F_eq (a0_0 : Int) (l0_1 : List Int) : laws_toBolt.F a0_0 l0_1 = (laws_toInt64S.F l0_1).bind fun t218 => (some (a0_0, t218)) := by
  refine Lim.eq (g := fun k => laws_toBolt.f k a0_0 l0_1) ?_
  unfold laws_toBolt.f
  repeat' with_reducible first | exact Lim.const _ | exact laws_toInt64S.F_lim _ | refine Lim.ite ?_ ?_ | refine Lim.bind ?_ (fun _ => ?_)

noncomputable def laws_toBoltS.L0 (x0 : List (S73)) (x3 : List (S50)) (x4 : Int) : Option ((List (S50))) := lim (fun k => laws_toBoltS.l0 k x0 x3 x4)
theorem laws_toBoltS.L0_lim (x0 : List (S73)) (x3 : List (S50)) (x4 : Int) : Lim (fun k => laws_toBoltS.l0 k x0 x3 x4) (laws_toBoltS.L0 x0 x3 x4) := Lim.of (fun k => (laws_toBoltS.mono_l k) x0 x3 x4)
noncomputable def laws_toBoltS.F (l0 : List (S73)) : Option ((List (S50))) := lim (fun k => laws_toBoltS.f k l0)
theorem laws_toBoltS.F_lim (l0 : List (S73)) : Lim (fun k => laws_toBoltS.f k l0) (laws_toBoltS.F l0) := Lim.of (fun k => laws_toBoltS.mono l0 k)
theorem laws_toBoltS.L0_eq (x0 : List (S73)) (x3 : List (S50)) (x4 : Int) : laws_toBoltS.L0 x0 x3 x4 = if x4 < (x0.length : Int) then (if 0 ≤ x4 then ((laws_toBolt.F ((rd_T73 x0 x4).f0) ((rd_T73 x0 x4).f1)).bind fun bt225 => (if x4 < (x3.length : Int) then (laws_toBoltS.L0 x0 (x3.set (x4 : Int).toNat (⟨bt225.1, bt225.2⟩ : S50)) (wrap64 (x4 + 1))) else (none))) else (none)) else (some x3) := by
  refine Lim.next (fun k => (laws_toBoltS.mono_l k) x0 x3 x4) ?_
  simp only [laws_toBoltS.l0]
  repeat' with_reducible first | exact Lim.const _ | exact laws_toBolt.F_lim _ _ | exact laws_toBoltS.L0_lim _ _ _ | refine Lim.ite ?_ ?_ | refine Lim.bind ?_ (fun _ => ?_)
theorem laws_toBoltS.F_eq (l0 : List (S73)) : laws_toBoltS.F l0 = if 0 ≤ (l0.length : Int) then (if ((l0.length : Int) : Int).toNat ≤ 8796093022208 then (laws_toBoltS.L0 l0 (List.replicate ((l0.length : Int) : Int).toNat z50) 0) else (none)) else (none) := by
  refine Lim.eq (g := fun k => laws_toBoltS.f k l0) ?_
  unfold laws_toBoltS.f
  repeat' with_reducible first | exact Lim.const _ | exact laws_toBoltS.L0_lim _ _ _ | refine Lim.ite ?_ ?_ | refine Lim.bind ?_ (fun _ => ?_)

noncomputable def laws_eqPieceS.L0 (x0 x1 : List (S60)) (x5 : Int) : Option (Bool) := lim (fun k => laws_eqPieceS.l0 k x0 x1 x5)
theorem laws_eqPieceS.L0_lim (x0 x1 : List (S60)) (x5 : Int) : Lim (fun k => laws_eqPieceS.l0 k x0 x1 x5) (laws_eqPieceS.L0 x0 x1 x5) := Lim.of (fun k => (laws_eqPieceS.mono_l k) x0 x1 x5)
noncomputable def laws_eqPieceS.F (l0 l1 : List (S60)) : Option (Bool) := lim (fun k => laws_eqPieceS.f k l0 l1)
theorem laws_eqPieceS.F_lim (l0 l1 : List (S60)) : Lim (fun k => laws_eqPieceS.f k l0 l1) (laws_eqPieceS.F l0 l1) := Lim.of (fun k => laws_eqPieceS.mono l0 l1 k)
theorem laws_eqPieceS.L0_eq (x0 x1 : List (S60)) (x5 : Int) : laws_eqPieceS.L0 x0 x1 x5 = if x5 < (x0.length : Int) then (if 0 ≤ x5 then (if x5 < (x1.length : Int) then ((laws_eqPiece.f ((rd_T60 x0 x5).f0) ((rd_T60 x0 x5).f1) ((rd_T60 x1 x5).f0) ((rd_T60 x1 x5).f1)).bind fun t234 => (if t234 = true then (laws_eqPieceS.L0 x0 x1 (wrap64 (x5 + 1))) else (some false))) else (none)) else (none)) else (some true) := by
  refine Lim.next (fun k => (laws_eqPieceS.mono_l k) x0 x1 x5) ?_
  simp only [laws_eqPieceS.l0]
  repeat' with_reducible first | exact Lim.const _ | exact laws_eqPieceS.L0_lim _ _ _ | refine Lim.ite ?_ ?_ | refine Lim.bind ?_ (fun _ => ?_)
theorem laws_eqPieceS.F_eq (l0 l1 : List (S60)) : laws_eqPieceS.F l0 l1 = if (l0.length : Int) = (l1.length : Int) then (laws_eqPieceS.L0 l0 l1 0) else (some false) := by
  refine Lim.eq (g := fun k => laws_eqPieceS.f k l0 l1) ?_
  unfold laws_eqPieceS.f
  repeat' with_reducible first | exact Lim.const _ | exact laws_eqPieceS.L0_lim _ _ _ | refine Lim.ite ?_ ?_ | refine Lim.bind ?_ (fun _ => ?_)

noncomputable def laws_eqInt64S.L0 (x0 x1 : List Int) (x5 : Int) : Option (Bool) := lim (fun k => laws_eqInt64S.l0 k x0 x1 x5)
theorem laws_eqInt64S.L0_lim (x0 x1 : List Int) (x5 : Int) : Lim (fun k => laws_eqInt64S.l0 k x0 x1 x5) (laws_eqInt64S.L0 x0 x1 x5) := Lim.of (fun k => (laws_eqInt64S.mono_l k) x0 x1 x5)
noncomputable def laws_eqInt64S.F (l0 l1 : List Int) : Option (Bool) := lim (fun k => laws_eqInt64S.f k l0 l1)
theorem laws_eqInt64S.F_lim (l0 l1 : List Int) : Lim (fun k => laws_eqInt64S.f k l0 l1) (laws_eqInt64S.F l0 l1) := Lim.of (fun k => laws_eqInt64S.mono l0 l1 k)
theorem laws_eqInt64S.L0_eq (x0 x1 : List Int) (x5 : Int) : laws_eqInt64S.L0 x0 x1 x5 = if x5 < (x0.length : Int) then (if 0 ≤ x5 then (if x5 < (x1.length : Int) then (if (rd x0 x5) = (rd x1 x5) then (laws_eqInt64S.L0 x0 x1 (wrap64 (x5 + 1))) else (some false)) else (none)) else (none)) else (some true) := by
  refine Lim.next (fun k => (laws_eqInt64S.mono_l k) x0 x1 x5) ?_
  simp only [laws_eqInt64S.l0]
  repeat' with_reducible first | exact Lim.const _ | exact laws_eqInt64S.L0_lim _ _ _ | refine Lim.ite ?_ ?_ | refine Lim.bind ?_ (fun _ => ?_)
theorem laws_eqInt64S.F_eq (l0 l1 : List Int) : laws_eqInt64S.F l0 l1 = if (l0.length : Int) = (l1.length : Int) then (laws_eqInt64S.L0 l0 l1 0) else (some false) := by
  refine Lim.eq (g := fun k => laws_eqInt64S.f k l0 l1) ?_
  unfold laws_eqInt64S.f
  repeat' with_reducible first | exact Lim.const _ | exact laws_eqInt64S.L0_lim _ _ _ | refine Lim.ite ?_ ?_ | refine Lim.bind ?_ (fun _ => ?_)

noncomputable def laws_eqBolt.F (a0_0 : Int) (l0_1 : List Int) (a1_0 : Int) (l1_1 : List Int) : Option (Bool) := lim (fun k => laws_eqBolt.f k a0_0 l0_1 a1_0 l1_1)
theorem laws_eqBolt.F_lim (a0_0 : Int) (l0_1 : List Int) (a1_0 : Int) (l1_1 : List Int) : Lim (fun k => laws_eqBolt.f k a0_0 l0_1 a1_0 l1_1) (laws_eqBolt.F a0_0 l0_1 a1_0 l1_1) := Lim.of (fun k => laws_eqBolt.mono a0_0 l0_1 a1_0 l1_1 k)
theorem laws_eqBolt.F_eq (a0_0 : Int) (l0_1 : List Int) (a1_0 : Int) (l1_1 : List Int) : laws_eqBolt.F a0_0 l0_1 a1_0 l1_1 = if a0_0 = a1_0 then ((laws_eqInt64S.F l0_1 l1_1).bind fun t239 => (if t239 = true then (some true) else (some false))) else (some false) := by
  refine Lim.eq (g := fun k => laws_eqBolt.f k a0_0 l0_1 a1_0 l1_1) ?_
  unfold laws_eqBolt.f
  repeat' with_reducible first | exact Lim.const _ | exact laws_eqInt64S.F_lim _ _ | refine Lim.ite ?_ ?_ | refine Lim.bind ?_ (fun _ => ?_)

noncomputable def laws_eqBoltS.L0 (x0 x1 : List (S50)) (x5 : Int) : Option (Bool) := lim (fun k => laws_eqBoltS.l0 k x0 x1 x5)
theorem laws_eqBoltS.L0_lim (x0 x1 : List (S50)) (x5 : Int) : Lim (fun k => laws_eqBoltS.l0 k x0 x1 x5) (laws_eqBoltS.L0 x0 x1 x5) := Lim.of (fun k => (laws_eqBoltS.mono_l k) x0 x1 x5)
noncomputable def laws_eqBoltS.F (l0 l1 : List (S50)) : Option (Bool) := lim (fun k => laws_eqBoltS.f k l0 l1)
theorem laws_eqBoltS.F_lim (l0 l1 : List (S50)) : Lim (fun k => laws_eqBoltS.f k l0 l1) (laws_eqBoltS.F l0 l1) := Lim.of (fun k => laws_eqBoltS.mono l0 l1 k)
theorem laws_eqBoltS.L0_eq (x0 x1 : List (S50)) (x5 : Int) : laws_eqBoltS.L0 x0 x1 x5 = if x5 < (x0.length : Int) then (if 0 ≤ x5 then (if x5 < (x1.length : Int) then ((laws_eqBolt.F ((rd_T50 x0 x5).f0) ((rd_T50 x0 x5).f1) ((rd_T50 x1 x5).f0) ((rd_T50 x1 x5).f1)).bind fun t242 => (if t242 = true then (laws_eqBoltS.L0 x0 x1 (wrap64 (x5 + 1))) else (some false))) else (none)) else (none)) else (some true) := by
  refine Lim.next (fun k => (laws_eqBoltS.mono_l k) x0 x1 x5) ?_
  simp only [laws_eqBoltS.l0]
  repeat' with_reducible first | exact Lim.const _ | exact laws_eqBolt.F_lim _ _ _ _ | exact laws_eqBoltS.L0_lim _ _ _ | refine Lim.ite ?_ ?_ | refine Lim.bind ?_ (fun _ => ?_)
theorem laws_eqBoltS.F_eq (l0 l1 : List (S50)) : laws_eqBoltS.F l0 l1 = if (l0.length : Int) = (l1.length : Int) then (laws_eqBoltS.L0 l0 l1 0) else (some false) := by
  refine Lim.eq (g := fun k => laws_eqBoltS.f k l0 l1) ?_
  unfold laws_eqBoltS.f
  repeat' with_reducible first | exact Lim.const _ | exact laws_eqBoltS.L0_lim _ _ _ | refine Lim.ite ?_ ?_ | refine Lim.bind ?_ (fun _ => ?_)

noncomputable def laws_markInt64S.L0 (x0 : List Int) (x1 x5 : Int) : Option (Int × List Int) := lim (fun k => laws_markInt64S.l0 k x0 x1 x5)
theorem laws_markInt64S.L0_lim (x0 : List Int) (x1 x5 : Int) : Lim (fun k => laws_markInt64S.l0 k x0 x1 x5) (laws_markInt64S.L0 x0 x1 x5) := Lim.of (fun k => (laws_markInt64S.mono_l k) x0 x1 x5)
noncomputable def laws_markInt64S.F (l0 : List Int) (a1 : Int) : Option (Int × List Int) := lim (fun k => laws_markInt64S.f k l0 a1)
theorem laws_markInt64S.F_lim (l0 : List Int) (a1 : Int) : Lim (fun k => laws_markInt64S.f k l0 a1) (laws_markInt64S.F l0 a1) := Lim.of (fun k => laws_markInt64S.mono l0 a1 k)
theorem laws_markInt64S.L0_eq (x0 : List Int) (x1 x5 : Int) : laws_markInt64S.L0 x0 x1 x5 = if x5 < (x0.length : Int) then (if 0 ≤ x5 then (laws_markInt64S.L0 (x0.set (x5 : Int).toNat x1) (wrap64 (x1 + 1)) (wrap64 (x5 + 1))) else (none)) else (some (x1, x0)) := by
  refine Lim.next (fun k => (laws_markInt64S.mono_l k) x0 x1 x5) ?_
  simp only [laws_markInt64S.l0]
  repeat' with_reducible first | exact Lim.const _ | exact laws_markInt64S.L0_lim _ _ _ | refine Lim.ite ?_ ?_ | refine Lim.bind ?_ (fun _ => ?_)
theorem laws_markInt64S.F_eq (l0 : List Int) (a1 : Int) : laws_markInt64S.F l0 a1 = laws_markInt64S.L0 l0 a1 0 := by
  refine Lim.eq (g := fun k => laws_markInt64S.f k l0 a1) ?_
  unfold laws_markInt64S.f
  repeat' with_reducible first | exact Lim.const _ | exact laws_markInt64S.L0_lim _ _ _ | refine Lim.ite ?_ ?_ | refine Lim.bind ?_ (fun _ => ?_)

noncomputable def laws_markBoltS.L0 (x0 : List (S50)) (x1 x2 : Int) : Option (Int × (List (S50))) := lim (fun k => laws_markBoltS.l0 k x0 x1 x2)
theorem laws_markBoltS.L0_lim (x0 : List (S50)) (x1 x2 : Int) : Lim (fun k => laws_markBoltS.l0 k x0 x1 x2) (laws_markBoltS.L0 x0 x1 x2) := Lim.of (fun k => (laws_markBoltS.mono_l k) x0 x1 x2)
noncomputable def laws_markBoltS.F (l0 : List (S50)) (a1 : Int) : Option (Int × (List (S50))) := lim (fun k => laws_markBoltS.f k l0 a1)
theorem laws_markBoltS.F_lim (l0 : List (S50)) (a1 : Int) : Lim (fun k => laws_markBoltS.f k l0 a1) (laws_markBoltS.F l0 a1) := Lim.of (fun k => laws_markBoltS.mono l0 a1 k)
theorem laws_markBoltS.L0_eq (x0 : List (S50)) (x1 x2 : Int) : laws_markBoltS.L0 x0 x1 x2 = if x2 < (x0.length : Int) then (if 0 ≤ x2 then ((laws_markInt64S.F ((rd_T50 x0 x2).f1) (wrap64 (x1 + 1))).bind fun bt1 => (laws_markBoltS.L0 (x0.set (x2 : Int).toNat (⟨x1, bt1.2⟩ : S50)) bt1.1 (wrap64 (x2 + 1)))) else (none)) else (some (x1, x0)) := by
  refine Lim.next (fun k => (laws_markBoltS.mono_l k) x0 x1 x2) ?_
  simp only [laws_markBoltS.l0]
  repeat' with_reducible first | exact Lim.const _ | exact laws_markBoltS.L0_lim _ _ _ | exact laws_markInt64S.F_lim _ _ | refine Lim.ite ?_ ?_ | refine Lim.bind ?_ (fun _ => ?_)
theorem laws_markBoltS.F_eq (l0 : List (S50)) (a1 : Int) : laws_markBoltS.F l0 a1 = laws_markBoltS.L0 l0 a1 0 := by
  refine Lim.eq (g := fun k => laws_markBoltS.f k l0 a1) ?_
  unfold laws_markBoltS.f
  repeat' with_reducible first | exact Lim.const _ | exact laws_markBoltS.L0_lim _ _ _ | refine Lim.ite ?_ ?_ | refine Lim.bind ?_ (fun _ => ?_)

noncomputable def laws_markPieceS.L0 (x0 : List (S60)) (x1 x5 : Int) : Option (Int × (List (S60))) := lim (fun k => laws_markPieceS.l0 k x0 x1 x5)
theorem laws_markPieceS.L0_lim (x0 : List (S60)) (x1 x5 : Int) : Lim (fun k => laws_markPieceS.l0 k x0 x1 x5) (laws_markPieceS.L0 x0 x1 x5) := Lim.of (fun k => (laws_markPieceS.mono_l k) x0 x1 x5)
noncomputable def laws_markPieceS.F (l0 : List (S60)) (a1 : Int) : Option (Int × (List (S60))) := lim (fun k => laws_markPieceS.f k l0 a1)
theorem laws_markPieceS.F_lim (l0 : List (S60)) (a1 : Int) : Lim (fun k => laws_markPieceS.f k l0 a1) (laws_markPieceS.F l0 a1) := Lim.of (fun k => laws_markPieceS.mono l0 a1 k)
theorem laws_markPieceS.L0_eq (x0 : List (S60)) (x1 x5 : Int) : laws_markPieceS.L0 x0 x1 x5 = if x5 < (x0.length : Int) then (if 0 ≤ x5 then ((some (x0.set (x5 : Int).toNat (⟨x1, (rd_T60 x0 x5).f1⟩ : S60) : List (S60))).bind fun y244 => (laws_markPieceS.L0 (y244.set (x5 : Int).toNat (⟨(rd_T60 y244 x5).f0, wrap64 (x1 + 1)⟩ : S60)) (wrap64 ((wrap64 (x1 + 1)) + 1)) (wrap64 (x5 + 1)))) else (none)) else (some (x1, x0)) := by
  refine Lim.next (fun k => (laws_markPieceS.mono_l k) x0 x1 x5) ?_
  simp only [laws_markPieceS.l0]
  repeat' with_reducible first | exact Lim.const _ | exact laws_markPieceS.L0_lim _ _ _ | refine Lim.ite ?_ ?_ | refine Lim.bind ?_ (fun _ => ?_)
theorem laws_markPieceS.F_eq (l0 : List (S60)) (a1 : Int) : laws_markPieceS.F l0 a1 = laws_markPieceS.L0 l0 a1 0 := by
  refine Lim.eq (g := fun k => laws_markPieceS.f k l0 a1) ?_
  unfold laws_markPieceS.f
  repeat' with_reducible first | exact Lim.const _ | exact laws_markPieceS.L0_lim _ _ _ | refine Lim.ite ?_ ?_ | refine Lim.bind ?_ (fun _ => ?_)

noncomputable def laws_heldPieceS.L0 (x0 : List (S60)) (x1 x5 : Int) : Option (Int) := lim (fun k => laws_heldPieceS.l0 k x0 x1 x5)
theorem laws_heldPieceS.L0_lim (x0 : List (S60)) (x1 x5 : Int) : Lim (fun k => laws_heldPieceS.l0 k x0 x1 x5) (laws_heldPieceS.L0 x0 x1 x5) := Lim.of (fun k => (laws_heldPieceS.mono_l k) x0 x1 x5)
noncomputable def laws_heldPieceS.F (l0 : List (S60)) (a1 : Int) : Option (Int) := lim (fun k => laws_heldPieceS.f k l0 a1)
theorem laws_heldPieceS.F_lim (l0 : List (S60)) (a1 : Int) : Lim (fun k => laws_heldPieceS.f k l0 a1) (laws_heldPieceS.F l0 a1) := Lim.of (fun k => laws_heldPieceS.mono l0 a1 k)
theorem laws_heldPieceS.L0_eq (x0 : List (S60)) (x1 x5 : Int) : laws_heldPieceS.L0 x0 x1 x5 = if x5 < (x0.length : Int) then (if 0 ≤ x5 then (if ((rd_T60 x0 x5).f0) = x1 then (if ((rd_T60 x0 x5).f1) = (wrap64 (x1 + 1)) then (laws_heldPieceS.L0 x0 (wrap64 ((wrap64 (x1 + 1)) + 1)) (wrap64 (x5 + 1))) else (some (-1))) else (some (-1))) else (none)) else (some x1) := by
  refine Lim.next (fun k => (laws_heldPieceS.mono_l k) x0 x1 x5) ?_
  simp only [laws_heldPieceS.l0]
  repeat' with_reducible first | exact Lim.const _ | exact laws_heldPieceS.L0_lim _ _ _ | refine Lim.ite ?_ ?_ | refine Lim.bind ?_ (fun _ => ?_)
theorem laws_heldPieceS.F_eq (l0 : List (S60)) (a1 : Int) : laws_heldPieceS.F l0 a1 = laws_heldPieceS.L0 l0 a1 0 := by
  refine Lim.eq (g := fun k => laws_heldPieceS.f k l0 a1) ?_
  unfold laws_heldPieceS.f
  repeat' with_reducible first | exact Lim.const _ | exact laws_heldPieceS.L0_lim _ _ _ | refine Lim.ite ?_ ?_ | refine Lim.bind ?_ (fun _ => ?_)

noncomputable def laws_FnExactFewestBolts.J0 (x0 : List (S73)) (x1 : List Int) (x6 : List (S60)) (x7 x8 : Int) (x9 : List (S50)) (x10 : List Int) (x11 : List (S60)) (x12 x13 : Int) (x61 : Bool) : Option (Bool) := lim (fun k => laws_FnExactFewestBolts.j0 k x0 x1 x6 x7 x8 x9 x10 x11 x12 x13 x61)
theorem laws_FnExactFewestBolts.J0_lim (x0 : List (S73)) (x1 : List Int) (x6 : List (S60)) (x7 x8 : Int) (x9 : List (S50)) (x10 : List Int) (x11 : List (S60)) (x12 x13 : Int) (x61 : Bool) : Lim (fun k => laws_FnExactFewestBolts.j0 k x0 x1 x6 x7 x8 x9 x10 x11 x12 x13 x61) (laws_FnExactFewestBolts.J0 x0 x1 x6 x7 x8 x9 x10 x11 x12 x13 x61) := Lim.of (fun k => (laws_FnExactFewestBolts.mono_l k).1 x0 x1 x6 x7 x8 x9 x10 x11 x12 x13 x61)
noncomputable def laws_FnExactFewestBolts.J1 (x0 : List (S73)) (x1 : List Int) (x6 : List (S60)) (x7 x8 : Int) (x11 : List (S60)) (x95 : Bool) : Option (Bool) := lim (fun k => laws_FnExactFewestBolts.j1 k x0 x1 x6 x7 x8 x11 x95)
theorem laws_FnExactFewestBolts.J1_lim (x0 : List (S73)) (x1 : List Int) (x6 : List (S60)) (x7 x8 : Int) (x11 : List (S60)) (x95 : Bool) : Lim (fun k => laws_FnExactFewestBolts.j1 k x0 x1 x6 x7 x8 x11 x95) (laws_FnExactFewestBolts.J1 x0 x1 x6 x7 x8 x11 x95) := Lim.of (fun k => (laws_FnExactFewestBolts.mono_l k).2.1 x0 x1 x6 x7 x8 x11 x95)
noncomputable def laws_FnExactFewestBolts.J2 (x11 : List (S60)) (x15 : Int) (x129 : Bool) : Option (Bool) := lim (fun k => laws_FnExactFewestBolts.j2 k x11 x15 x129)
theorem laws_FnExactFewestBolts.J2_lim (x11 : List (S60)) (x15 : Int) (x129 : Bool) : Lim (fun k => laws_FnExactFewestBolts.j2 k x11 x15 x129) (laws_FnExactFewestBolts.J2 x11 x15 x129) := Lim.of (fun k => (laws_FnExactFewestBolts.mono_l k).2.2 x11 x15 x129)
noncomputable def laws_FnExactFewestBolts.F (l0 : List (S73)) (l1 : List Int) : Option (Bool) := lim (fun k => laws_FnExactFewestBolts.f k l0 l1)
theorem laws_FnExactFewestBolts.F_lim (l0 : List (S73)) (l1 : List Int) : Lim (fun k => laws_FnExactFewestBolts.f k l0 l1) (laws_FnExactFewestBolts.F l0 l1) := Lim.of (fun k => laws_FnExactFewestBolts.mono l0 l1 k)
theorem laws_FnExactFewestBolts.J0_eq (x0 : List (S73)) (x1 : List Int) (x6 : List (S60)) (x7 x8 : Int) (x9 : List (S50)) (x10 : List Int) (x11 : List (S60)) (x12 x13 : Int) (x61 : Bool) : laws_FnExactFewestBolts.J0 x0 x1 x6 x7 x8 x9 x10 x11 x12 x13 x61 = if x61 = true then (some false) else ((laws_toBoltS.F x0).bind fun t272 => ((laws_eqBoltS.F x9 t272).bind fun t275 => (if t275 = true then ((laws_toInt64S.F x1).bind fun t276 => ((laws_eqInt64S.F x10 t276).bind fun t279 => (if t279 = true then ((laws_markBoltS.F x9 1).bind fun bt280 => ((laws_markInt64S.F x10 bt280.1).bind fun bt282 => (if bt282.1 < 0 then (laws_FnExactFewestBolts.J1 x0 x1 x6 x7 x8 x11 true) else ((laws_eqPieceS.F x11 x6).bind fun t284 => (if t284 = true then (if x12 = x7 then (laws_FnExactFewestBolts.J1 x0 x1 x6 x7 x8 x11 (x13 != x8)) else (laws_FnExactFewestBolts.J1 x0 x1 x6 x7 x8 x11 true)) else (laws_FnExactFewestBolts.J1 x0 x1 x6 x7 x8 x11 true)))))) else (some false)))) else (some false)))) := by
  refine Lim.next (fun k => (laws_FnExactFewestBolts.mono_l k).1 x0 x1 x6 x7 x8 x9 x10 x11 x12 x13 x61) ?_
  simp only [laws_FnExactFewestBolts.j0]
  repeat' with_reducible first | exact Lim.const _ | exact laws_FnExactFewestBolts.J1_lim _ _ _ _ _ _ _ | exact laws_eqBoltS.F_lim _ _ | exact laws_eqInt64S.F_lim _ _ | exact laws_eqPieceS.F_lim _ _ | exact laws_markBoltS.F_lim _ _ | exact laws_markInt64S.F_lim _ _ | exact laws_toBoltS.F_lim _ | exact laws_toInt64S.F_lim _ | refine Lim.ite ?_ ?_ | refine Lim.bind ?_ (fun _ => ?_)
theorem laws_FnExactFewestBolts.J1_eq (x0 : List (S73)) (x1 : List Int) (x6 : List (S60)) (x7 x8 : Int) (x11 : List (S60)) (x95 : Bool) : laws_FnExactFewestBolts.J1 x0 x1 x6 x7 x8 x11 x95 = if x95 = true then (some false) else ((laws_markPieceS.F x11 1).bind fun bt285 => ((laws_heldPieceS.F bt285.2 1).bind fun t287 => (if t287 < 0 then (some false) else (if t287 = bt285.1 then ((laws_toBoltS.F x0).bind fun t288 => ((laws_toInt64S.F x1).bind fun t291 => ((impl_FewestBolts.F t288 t291).bind fun bt294 => ((laws_eqPieceS.F bt294.1 x6).bind fun t299 => (if t299 = true then (if bt294.2.1 = x7 then (laws_FnExactFewestBolts.J2 bt285.2 bt285.1 (bt294.2.2 != x8)) else (laws_FnExactFewestBolts.J2 bt285.2 bt285.1 true)) else (laws_FnExactFewestBolts.J2 bt285.2 bt285.1 true)))))) else (some false))))) := by
  refine Lim.next (fun k => (laws_FnExactFewestBolts.mono_l k).2.1 x0 x1 x6 x7 x8 x11 x95) ?_
  simp only [laws_FnExactFewestBolts.j1]
  repeat' with_reducible first | exact Lim.const _ | exact impl_FewestBolts.F_lim _ _ | exact laws_FnExactFewestBolts.J2_lim _ _ _ | exact laws_eqPieceS.F_lim _ _ | exact laws_heldPieceS.F_lim _ _ | exact laws_markPieceS.F_lim _ _ | exact laws_toBoltS.F_lim _ | exact laws_toInt64S.F_lim _ | refine Lim.ite ?_ ?_ | refine Lim.bind ?_ (fun _ => ?_)
theorem laws_FnExactFewestBolts.J2_eq (x11 : List (S60)) (x15 : Int) (x129 : Bool) : laws_FnExactFewestBolts.J2 x11 x15 x129 = if x129 = true then (some false) else ((laws_heldPieceS.F x11 1).bind fun t300 => (if t300 < 0 then (some false) else (if t300 = x15 then (some true) else (some false)))) := by
  refine Lim.next (fun k => (laws_FnExactFewestBolts.mono_l k).2.2 x11 x15 x129) ?_
  simp only [laws_FnExactFewestBolts.j2]
  repeat' with_reducible first | exact Lim.const _ | exact laws_heldPieceS.F_lim _ _ | refine Lim.ite ?_ ?_ | refine Lim.bind ?_ (fun _ => ?_)
theorem laws_FnExactFewestBolts.F_eq (l0 : List (S73)) (l1 : List Int) : laws_FnExactFewestBolts.F l0 l1 = if (l1.length : Int) > 1048576 then (some true) else ((laws_szBoltS.F l0 1048576).bind fun t248 => (if t248 < 0 then (some true) else ((laws_toBoltS.F l0).bind fun t249 => ((laws_toInt64S.F l1).bind fun t252 => ((spec_FewestBolts.F t249 t252).bind fun bt255 => ((laws_toBoltS.F l0).bind fun t260 => ((laws_toInt64S.F l1).bind fun t263 => ((impl_FewestBolts.F t260 t263).bind fun bt266 => ((laws_eqPieceS.F bt266.1 bt255.1).bind fun t271 => (if t271 = true then (if bt266.2.1 = bt255.2.1 then (laws_FnExactFewestBolts.J0 l0 l1 bt255.1 bt255.2.1 bt255.2.2 t260 t263 bt266.1 bt266.2.1 bt266.2.2 (bt266.2.2 != bt255.2.2)) else (laws_FnExactFewestBolts.J0 l0 l1 bt255.1 bt255.2.1 bt255.2.2 t260 t263 bt266.1 bt266.2.1 bt266.2.2 true)) else (laws_FnExactFewestBolts.J0 l0 l1 bt255.1 bt255.2.1 bt255.2.2 t260 t263 bt266.1 bt266.2.1 bt266.2.2 true))))))))))) := by
  refine Lim.eq (g := fun k => laws_FnExactFewestBolts.f k l0 l1) ?_
  unfold laws_FnExactFewestBolts.f
  repeat' with_reducible first | exact Lim.const _ | exact impl_FewestBolts.F_lim _ _ | exact laws_FnExactFewestBolts.J0_lim _ _ _ _ _ _ _ _ _ _ _ | exact laws_eqPieceS.F_lim _ _ | exact laws_szBoltS.F_lim _ _ | exact laws_toBoltS.F_lim _ | exact laws_toInt64S.F_lim _ | exact spec_FewestBolts.F_lim _ _ | refine Lim.ite ?_ ?_ | refine Lim.bind ?_ (fun _ => ?_)

end Go.Proofs.YtendpecnfaojkaaDoor.PFnExactFewestBolts
