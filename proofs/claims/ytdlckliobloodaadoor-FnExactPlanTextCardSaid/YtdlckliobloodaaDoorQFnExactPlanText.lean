/-
  Written by a program of this session (wip/tools/lims.py): the printed functions without their bound on rounds.
-/
import Derived.Test.YtdlckliobloodaaDoorPFnExactPlanTextx1
import Derived.Test.YtdlckliobloodaaDoorPFnExactPlanTextx2
import Derived.Test.YtdlckliobloodaaDoorPFnExactPlanTextx3
import Derived.Test.YtdlckliobloodaaDoorPFnExactPlanTextx4
import Derived.Test.YtdlckliobloodaaDoorPFnExactPlanTextx5
import Derived.Test.YtdlckliobloodaaDoorPFnExactPlanTextx6
import Derived.Test.YtdlckliobloodaaDoorPFnExactPlanTextx7
import Derived.Test.YtdlckliobloodaaDoorPFnExactPlanTextx8
import Derived.Test.YtdlckliobloodaaDoorPFnExactPlanTextx9
import Derived.Test.YtdlckliobloodaaDoorPFnExactPlanTextx10
import Derived.Test.YtdlckliobloodaaDoorPFnExactPlanTextx11
import Derived.Test.YtdlckliobloodaaDoorPFnExactPlanTextx12
import Derived.Test.YtdlckliobloodaaDoorPFnExactPlanTextx13
import Derived.Test.YtdlckliobloodaaDoorPFnExactPlanTextx14
import Derived.Test.YtdlckliobloodaaDoorPFnExactPlanTextx15
import Derived.Test.YtdlckliobloodaaDoorPFnExactPlanTextx16
import Derived.Test.YtdlckliobloodaaDoorPFnExactPlanTextx17
import Derived.Test.YtdlckliobloodaaDoorKit
set_option linter.unusedVariables false
set_option linter.unusedSimpArgs false
namespace Go.Proofs.YtdlckliobloodaaDoor.PFnExactPlanText
open Go.RowKit Go.Proofs.YtdlckliobloodaaDoor.Kit Go.Proofs.YtdlckliobloodaaDoorW.PrintWords Go.Proofs.YtdlckliobloodaaDoorW.PrintLast Go.Proofs.YtdlckliobloodaaDoorW.PrintMore

noncomputable def laws_szHungS.L0 (x0 : List (S82)) (x1 x5 : Int) : Option (Int) := lim (fun k => laws_szHungS.l0 k x0 x1 x5)
theorem laws_szHungS.L0_lim (x0 : List (S82)) (x1 x5 : Int) : Lim (fun k => laws_szHungS.l0 k x0 x1 x5) (laws_szHungS.L0 x0 x1 x5) := Lim.of (fun k => (laws_szHungS.mono_l k) x0 x1 x5)
noncomputable def laws_szHungS.F (l0 : List (S82)) (a1 : Int) : Option (Int) := lim (fun k => laws_szHungS.f k l0 a1)
theorem laws_szHungS.F_lim (l0 : List (S82)) (a1 : Int) : Lim (fun k => laws_szHungS.f k l0 a1) (laws_szHungS.F l0 a1) := Lim.of (fun k => laws_szHungS.mono l0 a1 k)
theorem laws_szHungS.L0_eq (x0 : List (S82)) (x1 x5 : Int) : laws_szHungS.L0 x0 x1 x5 = if x5 < (x0.length : Int) then (if 0 ≤ x5 then ((laws_szHung.f ((rd_T82 x0 x5).f0) ((rd_T82 x0 x5).f1) ((rd_T82 x0 x5).f2) x1).bind fun t104 => (if t104 < 0 then (some (-1)) else (laws_szHungS.L0 x0 t104 (wrap64 (x5 + 1))))) else (none)) else (some x1) := by
  refine Lim.next (fun k => (laws_szHungS.mono_l k) x0 x1 x5) ?_
  simp only [laws_szHungS.l0]
  repeat' with_reducible first | exact Lim.const _ | exact laws_szHungS.L0_lim _ _ _ | refine Lim.ite ?_ ?_ | refine Lim.bind ?_ (fun _ => ?_)
theorem laws_szHungS.F_eq (l0 : List (S82)) (a1 : Int) : laws_szHungS.F l0 a1 = if (wrap64 (a1 - (l0.length : Int))) < 0 then (some (-1)) else (laws_szHungS.L0 l0 (wrap64 (a1 - (l0.length : Int))) 0) := by
  refine Lim.eq (g := fun k => laws_szHungS.f k l0 a1) ?_
  unfold laws_szHungS.f
  repeat' with_reducible first | exact Lim.const _ | exact laws_szHungS.L0_lim _ _ _ | refine Lim.ite ?_ ?_ | refine Lim.bind ?_ (fun _ => ?_)

noncomputable def laws_szPlan.F (l0_0 : List (S82)) (a0_1 a0_2 a1 : Int) : Option (Int) := lim (fun k => laws_szPlan.f k l0_0 a0_1 a0_2 a1)
theorem laws_szPlan.F_lim (l0_0 : List (S82)) (a0_1 a0_2 a1 : Int) : Lim (fun k => laws_szPlan.f k l0_0 a0_1 a0_2 a1) (laws_szPlan.F l0_0 a0_1 a0_2 a1) := Lim.of (fun k => laws_szPlan.mono l0_0 a0_1 a0_2 a1 k)
theorem laws_szPlan.F_eq (l0_0 : List (S82)) (a0_1 a0_2 a1 : Int) : laws_szPlan.F l0_0 a0_1 a0_2 a1 = (laws_szHungS.F l0_0 a1).bind fun t106 => (if t106 < 0 then (some (-1)) else (some t106)) := by
  refine Lim.eq (g := fun k => laws_szPlan.f k l0_0 a0_1 a0_2 a1) ?_
  unfold laws_szPlan.f
  repeat' with_reducible first | exact Lim.const _ | exact laws_szHungS.F_lim _ _ | refine Lim.ite ?_ ?_ | refine Lim.bind ?_ (fun _ => ?_)

noncomputable def spec_IsName.J0 (x0 : ByteArray) (x16 : Bool) : Option (Bool) := lim (fun k => spec_IsName.j0 k x0 x16)
theorem spec_IsName.J0_lim (x0 : ByteArray) (x16 : Bool) : Lim (fun k => spec_IsName.j0 k x0 x16) (spec_IsName.J0 x0 x16) := Lim.of (fun k => (spec_IsName.mono_l k).1 x0 x16)
noncomputable def spec_IsName.L0 (x0 : ByteArray) (x3 : Int) : Option (Bool) := lim (fun k => spec_IsName.l0 k x0 x3)
theorem spec_IsName.L0_lim (x0 : ByteArray) (x3 : Int) : Lim (fun k => spec_IsName.l0 k x0 x3) (spec_IsName.L0 x0 x3) := Lim.of (fun k => (spec_IsName.mono_l k).2 x0 x3)
noncomputable def spec_IsName.F (a0 : ByteArray) : Option (Bool) := lim (fun k => spec_IsName.f k a0)
theorem spec_IsName.F_lim (a0 : ByteArray) : Lim (fun k => spec_IsName.f k a0) (spec_IsName.F a0) := Lim.of (fun k => spec_IsName.mono a0 k)
theorem spec_IsName.J0_eq (x0 : ByteArray) (x16 : Bool) : spec_IsName.J0 x0 x16 = if x16 = true then (some false) else (spec_IsName.L0 x0 0) := by
  refine Lim.next (fun k => (spec_IsName.mono_l k).1 x0 x16) ?_
  simp only [spec_IsName.j0]
  repeat' with_reducible first | exact Lim.const _ | exact spec_IsName.L0_lim _ _ | refine Lim.ite ?_ ?_ | refine Lim.bind ?_ (fun _ => ?_)
theorem spec_IsName.L0_eq (x0 : ByteArray) (x3 : Int) : spec_IsName.L0 x0 x3 = if x3 < (x0.size : Int) then (if 0 ≤ x3 then ((spec_l01Small.f (bt x0 x3)).bind fun t108 => (if t108 = true then (spec_IsName.L0 x0 (wrap64 (x3 + 1))) else ((spec_l01Digit.f (bt x0 x3)).bind fun t109 => (if t109 = true then (spec_IsName.L0 x0 (wrap64 (x3 + 1))) else (if (bt x0 x3) = 45 then (spec_IsName.L0 x0 (wrap64 (x3 + 1))) else (some false)))))) else (none)) else (some true) := by
  refine Lim.next (fun k => (spec_IsName.mono_l k).2 x0 x3) ?_
  simp only [spec_IsName.l0]
  repeat' with_reducible first | exact Lim.const _ | exact spec_IsName.L0_lim _ _ | refine Lim.ite ?_ ?_ | refine Lim.bind ?_ (fun _ => ?_)
theorem spec_IsName.F_eq (a0 : ByteArray) : spec_IsName.F a0 = if a0.toList = ([] : List UInt8) then (spec_IsName.J0 a0 true) else (if (a0.size : Int) > 12 then (spec_IsName.J0 a0 true) else (if 0 < (a0.size : Int) then ((spec_l01Small.f (bt a0 0)).bind fun t107 => (spec_IsName.J0 a0 (!t107))) else (none))) := by
  refine Lim.eq (g := fun k => spec_IsName.f k a0) ?_
  unfold spec_IsName.f
  repeat' with_reducible first | exact Lim.const _ | exact spec_IsName.J0_lim _ _ | refine Lim.ite ?_ ?_ | refine Lim.bind ?_ (fun _ => ?_)

noncomputable def spec_l17Find.L0 (x0 : List (S29)) (x1 : ByteArray) (x5 : Int) : Option (Int) := lim (fun k => spec_l17Find.l0 k x0 x1 x5)
theorem spec_l17Find.L0_lim (x0 : List (S29)) (x1 : ByteArray) (x5 : Int) : Lim (fun k => spec_l17Find.l0 k x0 x1 x5) (spec_l17Find.L0 x0 x1 x5) := Lim.of (fun k => (spec_l17Find.mono_l k) x0 x1 x5)
noncomputable def spec_l17Find.F (l0 : List (S29)) (a1 : ByteArray) : Option (Int) := lim (fun k => spec_l17Find.f k l0 a1)
theorem spec_l17Find.F_lim (l0 : List (S29)) (a1 : ByteArray) : Lim (fun k => spec_l17Find.f k l0 a1) (spec_l17Find.F l0 a1) := Lim.of (fun k => spec_l17Find.mono l0 a1 k)
theorem spec_l17Find.L0_eq (x0 : List (S29)) (x1 : ByteArray) (x5 : Int) : spec_l17Find.L0 x0 x1 x5 = if x5 < (((rd_T29 x0 0).f0).length : Int) then (if 0 ≤ x5 then (if ((rd_T57 ((rd_T29 x0 0).f0) x5).f0).toList = x1.toList then (some x5) else (spec_l17Find.L0 x0 x1 (wrap64 (x5 + 1)))) else (none)) else (some (-1)) := by
  refine Lim.next (fun k => (spec_l17Find.mono_l k) x0 x1 x5) ?_
  simp only [spec_l17Find.l0]
  repeat' with_reducible first | exact Lim.const _ | exact spec_l17Find.L0_lim _ _ _ | refine Lim.ite ?_ ?_ | refine Lim.bind ?_ (fun _ => ?_)
theorem spec_l17Find.F_eq (l0 : List (S29)) (a1 : ByteArray) : spec_l17Find.F l0 a1 = if 0 < (l0.length : Int) then (spec_l17Find.L0 l0 a1 0) else (none) := by
  refine Lim.eq (g := fun k => spec_l17Find.f k l0 a1) ?_
  unfold spec_l17Find.f
  repeat' with_reducible first | exact Lim.const _ | exact spec_l17Find.L0_lim _ _ _ | refine Lim.ite ?_ ?_ | refine Lim.bind ?_ (fun _ => ?_)

noncomputable def spec_l13Meet.J0 (x30 : Bool) (x134000 x134001 x135000 x135001 x136000 x136001 x137000 x137001 : Int) : Option (Bool) := lim (fun k => spec_l13Meet.j0 k x30 x134000 x134001 x135000 x135001 x136000 x136001 x137000 x137001)
theorem spec_l13Meet.J0_lim (x30 : Bool) (x134000 x134001 x135000 x135001 x136000 x136001 x137000 x137001 : Int) : Lim (fun k => spec_l13Meet.j0 k x30 x134000 x134001 x135000 x135001 x136000 x136001 x137000 x137001) (spec_l13Meet.J0 x30 x134000 x134001 x135000 x135001 x136000 x136001 x137000 x137001) := Lim.of (fun k => (spec_l13Meet.mono_l k) x30 x134000 x134001 x135000 x135001 x136000 x136001 x137000 x137001)
noncomputable def spec_l13Meet.F (a0_0 a0_1 a1_0 a1_1 a2_0 a2_1 a3_0 a3_1 : Int) : Option (Bool) := lim (fun k => spec_l13Meet.f k a0_0 a0_1 a1_0 a1_1 a2_0 a2_1 a3_0 a3_1)
theorem spec_l13Meet.F_lim (a0_0 a0_1 a1_0 a1_1 a2_0 a2_1 a3_0 a3_1 : Int) : Lim (fun k => spec_l13Meet.f k a0_0 a0_1 a1_0 a1_1 a2_0 a2_1 a3_0 a3_1) (spec_l13Meet.F a0_0 a0_1 a1_0 a1_1 a2_0 a2_1 a3_0 a3_1) := Lim.of (fun k => spec_l13Meet.mono a0_0 a0_1 a1_0 a1_1 a2_0 a2_1 a3_0 a3_1 k)
theorem spec_l13Meet.J0_eq (x30 : Bool) (x134000 x134001 x135000 x135001 x136000 x136001 x137000 x137001 : Int) : spec_l13Meet.J0 x30 x134000 x134001 x135000 x135001 x136000 x136001 x137000 x137001 = if x30 = true then (some true) else ((spec_l13Sides.f x134000 x134001 x135000 x135001 x136000 x136001 x137000 x137001).bind fun t141 => (if t141 = true then ((spec_l13Sides.f x136000 x136001 x137000 x137001 x134000 x134001 x135000 x135001).bind fun t142 => (some t142)) else (some false))) := by
  refine Lim.next (fun k => (spec_l13Meet.mono_l k) x30 x134000 x134001 x135000 x135001 x136000 x136001 x137000 x137001) ?_
  simp only [spec_l13Meet.j0]
  repeat' with_reducible first | exact Lim.const _ | refine Lim.ite ?_ ?_ | refine Lim.bind ?_ (fun _ => ?_)
theorem spec_l13Meet.F_eq (a0_0 a0_1 a1_0 a1_1 a2_0 a2_1 a3_0 a3_1 : Int) : spec_l13Meet.F a0_0 a0_1 a1_0 a1_1 a2_0 a2_1 a3_0 a3_1 = (spec_l13On.f a0_0 a0_1 a1_0 a1_1 a2_0 a2_1).bind fun t137 => (if t137 = true then (spec_l13Meet.J0 true a0_0 a0_1 a1_0 a1_1 a2_0 a2_1 a3_0 a3_1) else ((spec_l13On.f a0_0 a0_1 a1_0 a1_1 a3_0 a3_1).bind fun t138 => (if t138 = true then (spec_l13Meet.J0 true a0_0 a0_1 a1_0 a1_1 a2_0 a2_1 a3_0 a3_1) else ((spec_l13On.f a2_0 a2_1 a3_0 a3_1 a0_0 a0_1).bind fun t139 => (if t139 = true then (spec_l13Meet.J0 true a0_0 a0_1 a1_0 a1_1 a2_0 a2_1 a3_0 a3_1) else ((spec_l13On.f a2_0 a2_1 a3_0 a3_1 a1_0 a1_1).bind fun t140 => (spec_l13Meet.J0 t140 a0_0 a0_1 a1_0 a1_1 a2_0 a2_1 a3_0 a3_1))))))) := by
  refine Lim.eq (g := fun k => spec_l13Meet.f k a0_0 a0_1 a1_0 a1_1 a2_0 a2_1 a3_0 a3_1) ?_
  unfold spec_l13Meet.f
  repeat' with_reducible first | exact Lim.const _ | exact spec_l13Meet.J0_lim _ _ _ _ _ _ _ _ _ | refine Lim.ite ?_ ?_ | refine Lim.bind ?_ (fun _ => ?_)

noncomputable def spec_l13Twice.L0 (x0 : List (S89)) (x3 x4 : Int) : Option (Int) := lim (fun k => spec_l13Twice.l0 k x0 x3 x4)
theorem spec_l13Twice.L0_lim (x0 : List (S89)) (x3 x4 : Int) : Lim (fun k => spec_l13Twice.l0 k x0 x3 x4) (spec_l13Twice.L0 x0 x3 x4) := Lim.of (fun k => (spec_l13Twice.mono_l k) x0 x3 x4)
noncomputable def spec_l13Twice.F (l0 : List (S89)) : Option (Int) := lim (fun k => spec_l13Twice.f k l0)
theorem spec_l13Twice.F_lim (l0 : List (S89)) : Lim (fun k => spec_l13Twice.f k l0) (spec_l13Twice.F l0) := Lim.of (fun k => spec_l13Twice.mono l0 k)
theorem spec_l13Twice.L0_eq (x0 : List (S89)) (x3 x4 : Int) : spec_l13Twice.L0 x0 x3 x4 = if x4 < (x0.length : Int) then (if (x0.length : Int) = 0 then (none) else (if 0 ≤ (Int.tmod (wrap64 (x4 + 1)) (x0.length : Int)) then (if (Int.tmod (wrap64 (x4 + 1)) (x0.length : Int)) < (x0.length : Int) then (if 0 ≤ x4 then (spec_l13Twice.L0 x0 (wrap64 (x3 + (wrap64 ((wrap64 (((rd_T89 x0 x4).f0) * ((rd_T89 x0 (Int.tmod (wrap64 (x4 + 1)) (x0.length : Int))).f1))) - (wrap64 (((rd_T89 x0 (Int.tmod (wrap64 (x4 + 1)) (x0.length : Int))).f0) * ((rd_T89 x0 x4).f1))))))) (wrap64 (x4 + 1))) else (none)) else (none)) else (none))) else (some x3) := by
  refine Lim.next (fun k => (spec_l13Twice.mono_l k) x0 x3 x4) ?_
  simp only [spec_l13Twice.l0]
  repeat' with_reducible first | exact Lim.const _ | exact spec_l13Twice.L0_lim _ _ _ | refine Lim.ite ?_ ?_ | refine Lim.bind ?_ (fun _ => ?_)
theorem spec_l13Twice.F_eq (l0 : List (S89)) : spec_l13Twice.F l0 = spec_l13Twice.L0 l0 0 0 := by
  refine Lim.eq (g := fun k => spec_l13Twice.f k l0) ?_
  unfold spec_l13Twice.f
  repeat' with_reducible first | exact Lim.const _ | exact spec_l13Twice.L0_lim _ _ _ | refine Lim.ite ?_ ?_ | refine Lim.bind ?_ (fun _ => ?_)

noncomputable def spec_l13Ok.L0 (x0 : List (S89)) (x3 x4 : Int) : Option (Bool) := lim (fun k => spec_l13Ok.l0 k x0 x3 x4)
theorem spec_l13Ok.L0_lim (x0 : List (S89)) (x3 x4 : Int) : Lim (fun k => spec_l13Ok.l0 k x0 x3 x4) (spec_l13Ok.L0 x0 x3 x4) := Lim.of (fun k => (spec_l13Ok.mono_l k).1 x0 x3 x4)
noncomputable def spec_l13Ok.L1 (x0 : List (S89)) (x3 x5 : Int) : Option (Bool) := lim (fun k => spec_l13Ok.l1 k x0 x3 x5)
theorem spec_l13Ok.L1_lim (x0 : List (S89)) (x3 x5 : Int) : Lim (fun k => spec_l13Ok.l1 k x0 x3 x5) (spec_l13Ok.L1 x0 x3 x5) := Lim.of (fun k => (spec_l13Ok.mono_l k).2.1 x0 x3 x5)
noncomputable def spec_l13Ok.L2 (x0 : List (S89)) (x3 x5 x8 x155000 x155001 x157000 x157001 : Int) : Option (Bool) := lim (fun k => spec_l13Ok.l2 k x0 x3 x5 x8 x155000 x155001 x157000 x157001)
theorem spec_l13Ok.L2_lim (x0 : List (S89)) (x3 x5 x8 x155000 x155001 x157000 x157001 : Int) : Lim (fun k => spec_l13Ok.l2 k x0 x3 x5 x8 x155000 x155001 x157000 x157001) (spec_l13Ok.L2 x0 x3 x5 x8 x155000 x155001 x157000 x157001) := Lim.of (fun k => (spec_l13Ok.mono_l k).2.2 x0 x3 x5 x8 x155000 x155001 x157000 x157001)
noncomputable def spec_l13Ok.F (l0 : List (S89)) : Option (Bool) := lim (fun k => spec_l13Ok.f k l0)
theorem spec_l13Ok.F_lim (l0 : List (S89)) : Lim (fun k => spec_l13Ok.f k l0) (spec_l13Ok.F l0) := Lim.of (fun k => spec_l13Ok.mono l0 k)
theorem spec_l13Ok.L0_eq (x0 : List (S89)) (x3 x4 : Int) : spec_l13Ok.L0 x0 x3 x4 = if x4 < x3 then (if 0 ≤ x4 then (if x4 < (x0.length : Int) then ((spec_l00In.f ((rd_T89 x0 x4).f0) 0 2000).bind fun t149 => (if t149 = true then ((spec_l00In.f ((rd_T89 x0 x4).f1) 0 2000).bind fun t151 => (if t151 = true then (spec_l13Ok.L0 x0 x3 (wrap64 (x4 + 1))) else (some false))) else (some false))) else (none)) else (none)) else (spec_l13Ok.L1 x0 x3 0) := by
  refine Lim.next (fun k => (spec_l13Ok.mono_l k).1 x0 x3 x4) ?_
  simp only [spec_l13Ok.l0]
  repeat' with_reducible first | exact Lim.const _ | exact spec_l13Ok.L0_lim _ _ _ | exact spec_l13Ok.L1_lim _ _ _ | refine Lim.ite ?_ ?_ | refine Lim.bind ?_ (fun _ => ?_)
theorem spec_l13Ok.L1_eq (x0 : List (S89)) (x3 x5 : Int) : spec_l13Ok.L1 x0 x3 x5 = if x5 < x3 then (if 0 ≤ x5 then (if x5 < (x0.length : Int) then (if x3 = 0 then (none) else (if 0 ≤ (Int.tmod (wrap64 (x5 + 1)) x3) then (if (Int.tmod (wrap64 (x5 + 1)) x3) < (x0.length : Int) then (if 0 ≤ (Int.tmod (wrap64 (x5 + 2)) x3) then (if (Int.tmod (wrap64 (x5 + 2)) x3) < (x0.length : Int) then ((spec_l13Cross.f ((rd_T89 x0 x5).f0) ((rd_T89 x0 x5).f1) ((rd_T89 x0 (Int.tmod (wrap64 (x5 + 1)) x3)).f0) ((rd_T89 x0 (Int.tmod (wrap64 (x5 + 1)) x3)).f1) ((rd_T89 x0 (Int.tmod (wrap64 (x5 + 2)) x3)).f0) ((rd_T89 x0 (Int.tmod (wrap64 (x5 + 2)) x3)).f1)).bind fun t158 => (if t158 = 0 then (some false) else (spec_l13Ok.L2 x0 x3 x5 (wrap64 (x5 + 2)) ((rd_T89 x0 x5).f0) ((rd_T89 x0 x5).f1) ((rd_T89 x0 (Int.tmod (wrap64 (x5 + 1)) x3)).f0) ((rd_T89 x0 (Int.tmod (wrap64 (x5 + 1)) x3)).f1)))) else (none)) else (none)) else (none)) else (none))) else (none)) else (none)) else ((spec_l13Twice.F x0).bind fun t152 => (some (decide (t152 > 0)))) := by
  refine Lim.next (fun k => (spec_l13Ok.mono_l k).2.1 x0 x3 x5) ?_
  simp only [spec_l13Ok.l1]
  repeat' with_reducible first | exact Lim.const _ | exact spec_l13Ok.L2_lim _ _ _ _ _ _ _ _ | exact spec_l13Twice.F_lim _ | refine Lim.ite ?_ ?_ | refine Lim.bind ?_ (fun _ => ?_)
theorem spec_l13Ok.L2_eq (x0 : List (S89)) (x3 x5 x8 x155000 x155001 x157000 x157001 : Int) : spec_l13Ok.L2 x0 x3 x5 x8 x155000 x155001 x157000 x157001 = if x8 < x3 then (if x5 > 0 then (if 0 ≤ x8 then (if x8 < (x0.length : Int) then (if x3 = 0 then (none) else (if 0 ≤ (Int.tmod (wrap64 (x8 + 1)) x3) then (if (Int.tmod (wrap64 (x8 + 1)) x3) < (x0.length : Int) then ((spec_l13Meet.F x155000 x155001 x157000 x157001 ((rd_T89 x0 x8).f0) ((rd_T89 x0 x8).f1) ((rd_T89 x0 (Int.tmod (wrap64 (x8 + 1)) x3)).f0) ((rd_T89 x0 (Int.tmod (wrap64 (x8 + 1)) x3)).f1)).bind fun t161 => (if t161 = true then (some false) else (spec_l13Ok.L2 x0 x3 x5 (wrap64 (x8 + 1)) x155000 x155001 x157000 x157001))) else (none)) else (none))) else (none)) else (none)) else (if x8 < (wrap64 (x3 - 1)) then (if 0 ≤ x8 then (if x8 < (x0.length : Int) then (if x3 = 0 then (none) else (if 0 ≤ (Int.tmod (wrap64 (x8 + 1)) x3) then (if (Int.tmod (wrap64 (x8 + 1)) x3) < (x0.length : Int) then ((spec_l13Meet.F x155000 x155001 x157000 x157001 ((rd_T89 x0 x8).f0) ((rd_T89 x0 x8).f1) ((rd_T89 x0 (Int.tmod (wrap64 (x8 + 1)) x3)).f0) ((rd_T89 x0 (Int.tmod (wrap64 (x8 + 1)) x3)).f1)).bind fun t164 => (if t164 = true then (some false) else (spec_l13Ok.L2 x0 x3 x5 (wrap64 (x8 + 1)) x155000 x155001 x157000 x157001))) else (none)) else (none))) else (none)) else (none)) else (spec_l13Ok.L2 x0 x3 x5 (wrap64 (x8 + 1)) x155000 x155001 x157000 x157001))) else (spec_l13Ok.L1 x0 x3 (wrap64 (x5 + 1))) := by
  refine Lim.next (fun k => (spec_l13Ok.mono_l k).2.2 x0 x3 x5 x8 x155000 x155001 x157000 x157001) ?_
  simp only [spec_l13Ok.l2]
  repeat' with_reducible first | exact Lim.const _ | exact spec_l13Meet.F_lim _ _ _ _ _ _ _ _ | exact spec_l13Ok.L1_lim _ _ _ | exact spec_l13Ok.L2_lim _ _ _ _ _ _ _ _ | refine Lim.ite ?_ ?_ | refine Lim.bind ?_ (fun _ => ?_)
theorem spec_l13Ok.F_eq (l0 : List (S89)) : spec_l13Ok.F l0 = (spec_l00In.f (l0.length : Int) 3 8).bind fun t147 => (if t147 = true then (spec_l13Ok.L0 l0 (l0.length : Int) 0) else (some false)) := by
  refine Lim.eq (g := fun k => spec_l13Ok.f k l0) ?_
  unfold spec_l13Ok.f
  repeat' with_reducible first | exact Lim.const _ | exact spec_l13Ok.L0_lim _ _ _ | refine Lim.ite ?_ ?_ | refine Lim.bind ?_ (fun _ => ?_)

noncomputable def spec_l17Ok.L0 (x0 : List (S29)) (x3 : Int) : Option (Bool) := lim (fun k => spec_l17Ok.l0 k x0 x3)
theorem spec_l17Ok.L0_lim (x0 : List (S29)) (x3 : Int) : Lim (fun k => spec_l17Ok.l0 k x0 x3) (spec_l17Ok.L0 x0 x3) := Lim.of (fun k => (spec_l17Ok.mono_l k) x0 x3)
noncomputable def spec_l17Ok.F (l0 : List (S29)) : Option (Bool) := lim (fun k => spec_l17Ok.f k l0)
theorem spec_l17Ok.F_lim (l0 : List (S29)) : Lim (fun k => spec_l17Ok.f k l0) (spec_l17Ok.F l0) := Lim.of (fun k => spec_l17Ok.mono l0 k)
theorem spec_l17Ok.L0_eq (x0 : List (S29)) (x3 : Int) : spec_l17Ok.L0 x0 x3 = if x3 < (((rd_T29 x0 0).f0).length : Int) then (if 0 ≤ x3 then ((spec_IsName.F ((rd_T57 ((rd_T29 x0 0).f0) x3).f0)).bind fun t175 => (if t175 = true then ((spec_l17Find.F x0 ((rd_T57 ((rd_T29 x0 0).f0) x3).f0)).bind fun t176 => (if t176 = x3 then ((spec_l13Ok.F ((rd_T57 ((rd_T29 x0 0).f0) x3).f1)).bind fun t177 => (if t177 = true then (spec_l17Ok.L0 x0 (wrap64 (x3 + 1))) else (some false))) else (some false))) else (some false))) else (none)) else (if (((rd_T29 x0 0).f0).length : Int) ≤ 8 then ((spec_l00In.f ((rd_T29 x0 0).f2) 1 5000).bind fun t169 => (if t169 = true then ((spec_l00In.f ((rd_T29 x0 0).f1) 0 ((rd_T29 x0 0).f2)).bind fun t172 => (some t172)) else (some false))) else (some false)) := by
  refine Lim.next (fun k => (spec_l17Ok.mono_l k) x0 x3) ?_
  simp only [spec_l17Ok.l0]
  repeat' with_reducible first | exact Lim.const _ | exact spec_IsName.F_lim _ | exact spec_l13Ok.F_lim _ | exact spec_l17Find.F_lim _ _ | exact spec_l17Ok.L0_lim _ _ | refine Lim.ite ?_ ?_ | refine Lim.bind ?_ (fun _ => ?_)
theorem spec_l17Ok.F_eq (l0 : List (S29)) : spec_l17Ok.F l0 = if 0 < (l0.length : Int) then (spec_l17Ok.L0 l0 0) else (none) := by
  refine Lim.eq (g := fun k => spec_l17Ok.f k l0) ?_
  unfold spec_l17Ok.f
  repeat' with_reducible first | exact Lim.const _ | exact spec_l17Ok.L0_lim _ _ | refine Lim.ite ?_ ?_ | refine Lim.bind ?_ (fun _ => ?_)

noncomputable def spec_l01Dec.L0 (x0 : Int) (x3 : List Int) (x4 : Int) : Option (ByteArray) := lim (fun k => spec_l01Dec.l0 k x0 x3 x4)
theorem spec_l01Dec.L0_lim (x0 : Int) (x3 : List Int) (x4 : Int) : Lim (fun k => spec_l01Dec.l0 k x0 x3 x4) (spec_l01Dec.L0 x0 x3 x4) := Lim.of (fun k => (spec_l01Dec.mono_l k) x0 x3 x4)
noncomputable def spec_l01Dec.F (a0 : Int) : Option (ByteArray) := lim (fun k => spec_l01Dec.f k a0)
theorem spec_l01Dec.F_lim (a0 : Int) : Lim (fun k => spec_l01Dec.f k a0) (spec_l01Dec.F a0) := Lim.of (fun k => spec_l01Dec.mono a0 k)
theorem spec_l01Dec.L0_eq (x0 : Int) (x3 : List Int) (x4 : Int) : spec_l01Dec.L0 x0 x3 x4 = if x4 = 0 then (if (x3.length : Int) = 0 then (some (⟨#[48]⟩ : ByteArray)) else (if x0 < 0 then (if 1 + (strOfNums x3).size ≤ 9223372036854775807 then (some ((⟨#[45]⟩ : ByteArray) ++ (strOfNums x3))) else (none)) else (some (strOfNums x3)))) else (if (Int.tmod x4 10) < 0 then ((some (([(wrap64 (48 + (wrap64 (-(Int.tmod x4 10))))) % 256] : List Int) : List Int)).bind fun y181 => (if y181.length + x3.length < 140737488355328 then (spec_l01Dec.L0 x0 (y181 ++ x3) (wrap64 (Int.tdiv x4 10))) else (none))) else ((some (([(wrap64 (48 + (Int.tmod x4 10))) % 256] : List Int) : List Int)).bind fun y187 => (if y187.length + x3.length < 140737488355328 then (spec_l01Dec.L0 x0 (y187 ++ x3) (wrap64 (Int.tdiv x4 10))) else (none)))) := by
  refine Lim.next (fun k => (spec_l01Dec.mono_l k) x0 x3 x4) ?_
  simp only [spec_l01Dec.l0]
  repeat' with_reducible first | exact Lim.const _ | exact spec_l01Dec.L0_lim _ _ _ | refine Lim.ite ?_ ?_ | refine Lim.bind ?_ (fun _ => ?_)
theorem spec_l01Dec.F_eq (a0 : Int) : spec_l01Dec.F a0 = spec_l01Dec.L0 a0 (([] : List Int)) a0 := by
  refine Lim.eq (g := fun k => spec_l01Dec.f k a0) ?_
  unfold spec_l01Dec.f
  repeat' with_reducible first | exact Lim.const _ | exact spec_l01Dec.L0_lim _ _ _ | refine Lim.ite ?_ ?_ | refine Lim.bind ?_ (fun _ => ?_)

noncomputable def spec_l13Text.L0 (x0 : List (S89)) (x3 : ByteArray) (x4 : Int) : Option (ByteArray) := lim (fun k => spec_l13Text.l0 k x0 x3 x4)
theorem spec_l13Text.L0_lim (x0 : List (S89)) (x3 : ByteArray) (x4 : Int) : Lim (fun k => spec_l13Text.l0 k x0 x3 x4) (spec_l13Text.L0 x0 x3 x4) := Lim.of (fun k => (spec_l13Text.mono_l k) x0 x3 x4)
noncomputable def spec_l13Text.F (l0 : List (S89)) : Option (ByteArray) := lim (fun k => spec_l13Text.f k l0)
theorem spec_l13Text.F_lim (l0 : List (S89)) : Lim (fun k => spec_l13Text.f k l0) (spec_l13Text.F l0) := Lim.of (fun k => spec_l13Text.mono l0 k)
theorem spec_l13Text.L0_eq (x0 : List (S89)) (x3 : ByteArray) (x4 : Int) : spec_l13Text.L0 x0 x3 x4 = if x4 < (x0.length : Int) then (if x4 > 0 then (if x3.size + 1 ≤ 9223372036854775807 then (if 0 ≤ x4 then ((spec_l01Dec.F ((rd_T89 x0 x4).f0)).bind fun t194 => (if t194.size + 1 ≤ 9223372036854775807 then ((spec_l01Dec.F ((rd_T89 x0 x4).f1)).bind fun t196 => (if t194.size + 1 + t196.size ≤ 9223372036854775807 then (if x3.size + 1 + (t194.size + 1 + t196.size) ≤ 9223372036854775807 then (spec_l13Text.L0 x0 ((x3 ++ (⟨#[32]⟩ : ByteArray)) ++ ((t194 ++ (⟨#[44]⟩ : ByteArray)) ++ t196)) (wrap64 (x4 + 1))) else (none)) else (none))) else (none))) else (none)) else (none)) else (if 0 ≤ x4 then ((spec_l01Dec.F ((rd_T89 x0 x4).f0)).bind fun t198 => (if t198.size + 1 ≤ 9223372036854775807 then ((spec_l01Dec.F ((rd_T89 x0 x4).f1)).bind fun t200 => (if t198.size + 1 + t200.size ≤ 9223372036854775807 then (if x3.size + (t198.size + 1 + t200.size) ≤ 9223372036854775807 then (spec_l13Text.L0 x0 (x3 ++ ((t198 ++ (⟨#[44]⟩ : ByteArray)) ++ t200)) (wrap64 (x4 + 1))) else (none)) else (none))) else (none))) else (none))) else (some x3) := by
  refine Lim.next (fun k => (spec_l13Text.mono_l k) x0 x3 x4) ?_
  simp only [spec_l13Text.l0]
  repeat' with_reducible first | exact Lim.const _ | exact spec_l01Dec.F_lim _ | exact spec_l13Text.L0_lim _ _ _ | refine Lim.ite ?_ ?_ | refine Lim.bind ?_ (fun _ => ?_)
theorem spec_l13Text.F_eq (l0 : List (S89)) : spec_l13Text.F l0 = spec_l13Text.L0 l0 (⟨#[]⟩ : ByteArray) 0 := by
  refine Lim.eq (g := fun k => spec_l13Text.f k l0) ?_
  unfold spec_l13Text.f
  repeat' with_reducible first | exact Lim.const _ | exact spec_l13Text.L0_lim _ _ _ | refine Lim.ite ?_ ?_ | refine Lim.bind ?_ (fun _ => ?_)

noncomputable def spec_PlanText.L0 (x3 : ByteArray) (x4 : Int) (x202000 : List (S57)) (x202001 x202002 : Int) : Option (ByteArray) := lim (fun k => spec_PlanText.l0 k x3 x4 x202000 x202001 x202002)
theorem spec_PlanText.L0_lim (x3 : ByteArray) (x4 : Int) (x202000 : List (S57)) (x202001 x202002 : Int) : Lim (fun k => spec_PlanText.l0 k x3 x4 x202000 x202001 x202002) (spec_PlanText.L0 x3 x4 x202000 x202001 x202002) := Lim.of (fun k => (spec_PlanText.mono_l k) x3 x4 x202000 x202001 x202002)
noncomputable def spec_PlanText.F (l0_0 : List (S57)) (a0_1 a0_2 : Int) : Option (ByteArray) := lim (fun k => spec_PlanText.f k l0_0 a0_1 a0_2)
theorem spec_PlanText.F_lim (l0_0 : List (S57)) (a0_1 a0_2 : Int) : Lim (fun k => spec_PlanText.f k l0_0 a0_1 a0_2) (spec_PlanText.F l0_0 a0_1 a0_2) := Lim.of (fun k => spec_PlanText.mono l0_0 a0_1 a0_2 k)
theorem spec_PlanText.L0_eq (x3 : ByteArray) (x4 : Int) (x202000 : List (S57)) (x202001 x202002 : Int) : spec_PlanText.L0 x3 x4 x202000 x202001 x202002 = if x4 < (x202000.length : Int) then (if 0 ≤ x4 then (if 2 + ((rd_T57 x202000 x4).f0).size ≤ 9223372036854775807 then (if x3.size + (2 + ((rd_T57 x202000 x4).f0).size) ≤ 9223372036854775807 then (if (rd_T57 x202000 x4).f2 = true then (if x3.size + (2 + ((rd_T57 x202000 x4).f0).size) + 4 ≤ 9223372036854775807 then ((spec_l13Text.F ((rd_T57 x202000 x4).f1)).bind fun t209 => (if 1 + t209.size ≤ 9223372036854775807 then (if x3.size + (2 + ((rd_T57 x202000 x4).f0).size) + 4 + (1 + t209.size) ≤ 9223372036854775807 then (spec_PlanText.L0 (((x3 ++ ((⟨#[59, 32]⟩ : ByteArray) ++ ((rd_T57 x202000 x4).f0))) ++ (⟨#[32, 115, 101, 116]⟩ : ByteArray)) ++ ((⟨#[32]⟩ : ByteArray) ++ t209)) (wrap64 (x4 + 1)) x202000 x202001 x202002) else (none)) else (none))) else (none)) else ((spec_l13Text.F ((rd_T57 x202000 x4).f1)).bind fun t211 => (if 1 + t211.size ≤ 9223372036854775807 then (if x3.size + (2 + ((rd_T57 x202000 x4).f0).size) + (1 + t211.size) ≤ 9223372036854775807 then (spec_PlanText.L0 ((x3 ++ ((⟨#[59, 32]⟩ : ByteArray) ++ ((rd_T57 x202000 x4).f0))) ++ ((⟨#[32]⟩ : ByteArray) ++ t211)) (wrap64 (x4 + 1)) x202000 x202001 x202002) else (none)) else (none)))) else (none)) else (none)) else (none)) else (some x3) := by
  refine Lim.next (fun k => (spec_PlanText.mono_l k) x3 x4 x202000 x202001 x202002) ?_
  simp only [spec_PlanText.l0]
  repeat' with_reducible first | exact Lim.const _ | exact spec_PlanText.L0_lim _ _ _ _ _ | exact spec_l13Text.F_lim _ | refine Lim.ite ?_ ?_ | refine Lim.bind ?_ (fun _ => ?_)
theorem spec_PlanText.F_eq (l0_0 : List (S57)) (a0_1 a0_2 : Int) : spec_PlanText.F l0_0 a0_1 a0_2 = (spec_l17Ok.F [(⟨l0_0, a0_1, a0_2⟩ : S29)]).bind fun t203 => (if t203 = true then ((spec_l01Dec.F a0_2).bind fun t204 => (if 5 + t204.size ≤ 9223372036854775807 then (if 5 + t204.size + 8 ≤ 9223372036854775807 then ((spec_l01Dec.F a0_1).bind fun t205 => (if 5 + t204.size + 8 + t205.size ≤ 9223372036854775807 then (spec_PlanText.L0 ((((⟨#[104, 117, 108, 108, 32]⟩ : ByteArray) ++ t204) ++ (⟨#[32, 99, 101, 110, 116, 114, 101, 32]⟩ : ByteArray)) ++ t205) 0 l0_0 a0_1 a0_2) else (none))) else (none)) else (none))) else (some (⟨#[]⟩ : ByteArray))) := by
  refine Lim.eq (g := fun k => spec_PlanText.f k l0_0 a0_1 a0_2) ?_
  unfold spec_PlanText.f
  repeat' with_reducible first | exact Lim.const _ | exact spec_PlanText.L0_lim _ _ _ _ _ | exact spec_l01Dec.F_lim _ | exact spec_l17Ok.F_lim _ | refine Lim.ite ?_ ?_ | refine Lim.bind ?_ (fun _ => ?_)

noncomputable def laws_toSpotS.L0 (x0 : List (S125)) (x3 : List (S89)) (x4 : Int) : Option ((List (S89))) := lim (fun k => laws_toSpotS.l0 k x0 x3 x4)
theorem laws_toSpotS.L0_lim (x0 : List (S125)) (x3 : List (S89)) (x4 : Int) : Lim (fun k => laws_toSpotS.l0 k x0 x3 x4) (laws_toSpotS.L0 x0 x3 x4) := Lim.of (fun k => (laws_toSpotS.mono_l k) x0 x3 x4)
noncomputable def laws_toSpotS.F (l0 : List (S125)) : Option ((List (S89))) := lim (fun k => laws_toSpotS.f k l0)
theorem laws_toSpotS.F_lim (l0 : List (S125)) : Lim (fun k => laws_toSpotS.f k l0) (laws_toSpotS.F l0) := Lim.of (fun k => laws_toSpotS.mono l0 k)
theorem laws_toSpotS.L0_eq (x0 : List (S125)) (x3 : List (S89)) (x4 : Int) : laws_toSpotS.L0 x0 x3 x4 = if x4 < (x0.length : Int) then (if 0 ≤ x4 then ((laws_toSpot.f ((rd_T125 x0 x4).f0) ((rd_T125 x0 x4).f1)).bind fun bt219 => (if x4 < (x3.length : Int) then (laws_toSpotS.L0 x0 (x3.set (x4 : Int).toNat (⟨bt219.1, bt219.2⟩ : S89)) (wrap64 (x4 + 1))) else (none))) else (none)) else (some x3) := by
  refine Lim.next (fun k => (laws_toSpotS.mono_l k) x0 x3 x4) ?_
  simp only [laws_toSpotS.l0]
  repeat' with_reducible first | exact Lim.const _ | exact laws_toSpotS.L0_lim _ _ _ | refine Lim.ite ?_ ?_ | refine Lim.bind ?_ (fun _ => ?_)
theorem laws_toSpotS.F_eq (l0 : List (S125)) : laws_toSpotS.F l0 = if 0 ≤ (l0.length : Int) then (if ((l0.length : Int) : Int).toNat ≤ 17592186044416 then (laws_toSpotS.L0 l0 (List.replicate ((l0.length : Int) : Int).toNat z89) 0) else (none)) else (none) := by
  refine Lim.eq (g := fun k => laws_toSpotS.f k l0) ?_
  unfold laws_toSpotS.f
  repeat' with_reducible first | exact Lim.const _ | exact laws_toSpotS.L0_lim _ _ _ | refine Lim.ite ?_ ?_ | refine Lim.bind ?_ (fun _ => ?_)

noncomputable def laws_toHung.F (a0_0 : ByteArray) (l0_1 : List (S125)) (a0_2 : Bool) : Option (ByteArray × (List (S89)) × Bool) := lim (fun k => laws_toHung.f k a0_0 l0_1 a0_2)
theorem laws_toHung.F_lim (a0_0 : ByteArray) (l0_1 : List (S125)) (a0_2 : Bool) : Lim (fun k => laws_toHung.f k a0_0 l0_1 a0_2) (laws_toHung.F a0_0 l0_1 a0_2) := Lim.of (fun k => laws_toHung.mono a0_0 l0_1 a0_2 k)
theorem laws_toHung.F_eq (a0_0 : ByteArray) (l0_1 : List (S125)) (a0_2 : Bool) : laws_toHung.F a0_0 l0_1 a0_2 = (laws_toSpotS.F l0_1).bind fun t225 => (some (a0_0, t225, a0_2)) := by
  refine Lim.eq (g := fun k => laws_toHung.f k a0_0 l0_1 a0_2) ?_
  unfold laws_toHung.f
  repeat' with_reducible first | exact Lim.const _ | exact laws_toSpotS.F_lim _ | refine Lim.ite ?_ ?_ | refine Lim.bind ?_ (fun _ => ?_)

noncomputable def laws_toHungS.L0 (x0 : List (S82)) (x3 : List (S57)) (x4 : Int) : Option ((List (S57))) := lim (fun k => laws_toHungS.l0 k x0 x3 x4)
theorem laws_toHungS.L0_lim (x0 : List (S82)) (x3 : List (S57)) (x4 : Int) : Lim (fun k => laws_toHungS.l0 k x0 x3 x4) (laws_toHungS.L0 x0 x3 x4) := Lim.of (fun k => (laws_toHungS.mono_l k) x0 x3 x4)
noncomputable def laws_toHungS.F (l0 : List (S82)) : Option ((List (S57))) := lim (fun k => laws_toHungS.f k l0)
theorem laws_toHungS.F_lim (l0 : List (S82)) : Lim (fun k => laws_toHungS.f k l0) (laws_toHungS.F l0) := Lim.of (fun k => laws_toHungS.mono l0 k)
theorem laws_toHungS.L0_eq (x0 : List (S82)) (x3 : List (S57)) (x4 : Int) : laws_toHungS.L0 x0 x3 x4 = if x4 < (x0.length : Int) then (if 0 ≤ x4 then ((laws_toHung.F ((rd_T82 x0 x4).f0) ((rd_T82 x0 x4).f1) ((rd_T82 x0 x4).f2)).bind fun bt232 => (if x4 < (x3.length : Int) then (laws_toHungS.L0 x0 (x3.set (x4 : Int).toNat (⟨bt232.1, bt232.2.1, bt232.2.2⟩ : S57)) (wrap64 (x4 + 1))) else (none))) else (none)) else (some x3) := by
  refine Lim.next (fun k => (laws_toHungS.mono_l k) x0 x3 x4) ?_
  simp only [laws_toHungS.l0]
  repeat' with_reducible first | exact Lim.const _ | exact laws_toHung.F_lim _ _ _ | exact laws_toHungS.L0_lim _ _ _ | refine Lim.ite ?_ ?_ | refine Lim.bind ?_ (fun _ => ?_)
theorem laws_toHungS.F_eq (l0 : List (S82)) : laws_toHungS.F l0 = if 0 ≤ (l0.length : Int) then (if ((l0.length : Int) : Int).toNat ≤ 5864062014805 then (laws_toHungS.L0 l0 (List.replicate ((l0.length : Int) : Int).toNat z57) 0) else (none)) else (none) := by
  refine Lim.eq (g := fun k => laws_toHungS.f k l0) ?_
  unfold laws_toHungS.f
  repeat' with_reducible first | exact Lim.const _ | exact laws_toHungS.L0_lim _ _ _ | refine Lim.ite ?_ ?_ | refine Lim.bind ?_ (fun _ => ?_)

noncomputable def laws_toPlan.F (l0_0 : List (S82)) (a0_1 a0_2 : Int) : Option ((List (S57)) × Int × Int) := lim (fun k => laws_toPlan.f k l0_0 a0_1 a0_2)
theorem laws_toPlan.F_lim (l0_0 : List (S82)) (a0_1 a0_2 : Int) : Lim (fun k => laws_toPlan.f k l0_0 a0_1 a0_2) (laws_toPlan.F l0_0 a0_1 a0_2) := Lim.of (fun k => laws_toPlan.mono l0_0 a0_1 a0_2 k)
theorem laws_toPlan.F_eq (l0_0 : List (S82)) (a0_1 a0_2 : Int) : laws_toPlan.F l0_0 a0_1 a0_2 = (laws_toHungS.F l0_0).bind fun t241 => (some (t241, a0_1, a0_2)) := by
  refine Lim.eq (g := fun k => laws_toPlan.f k l0_0 a0_1 a0_2) ?_
  unfold laws_toPlan.f
  repeat' with_reducible first | exact Lim.const _ | exact laws_toHungS.F_lim _ | refine Lim.ite ?_ ?_ | refine Lim.bind ?_ (fun _ => ?_)

noncomputable def impl_IsName.J0 (x0 : ByteArray) (x21 : Bool) : Option (Bool) := lim (fun k => impl_IsName.j0 k x0 x21)
theorem impl_IsName.J0_lim (x0 : ByteArray) (x21 : Bool) : Lim (fun k => impl_IsName.j0 k x0 x21) (impl_IsName.J0 x0 x21) := Lim.of (fun k => (impl_IsName.mono_l k).1 x0 x21)
noncomputable def impl_IsName.L0 (x0 : ByteArray) (x3 : Int) : Option (Bool) := lim (fun k => impl_IsName.l0 k x0 x3)
theorem impl_IsName.L0_lim (x0 : ByteArray) (x3 : Int) : Lim (fun k => impl_IsName.l0 k x0 x3) (impl_IsName.L0 x0 x3) := Lim.of (fun k => (impl_IsName.mono_l k).2 x0 x3)
noncomputable def impl_IsName.F (a0 : ByteArray) : Option (Bool) := lim (fun k => impl_IsName.f k a0)
theorem impl_IsName.F_lim (a0 : ByteArray) : Lim (fun k => impl_IsName.f k a0) (impl_IsName.F a0) := Lim.of (fun k => impl_IsName.mono a0 k)
theorem impl_IsName.J0_eq (x0 : ByteArray) (x21 : Bool) : impl_IsName.J0 x0 x21 = if x21 = true then (some false) else (impl_IsName.L0 x0 0) := by
  refine Lim.next (fun k => (impl_IsName.mono_l k).1 x0 x21) ?_
  simp only [impl_IsName.j0]
  repeat' with_reducible first | exact Lim.const _ | exact impl_IsName.L0_lim _ _ | refine Lim.ite ?_ ?_ | refine Lim.bind ?_ (fun _ => ?_)
theorem impl_IsName.L0_eq (x0 : ByteArray) (x3 : Int) : impl_IsName.L0 x0 x3 = if x3 < (x0.size : Int) then (if 0 ≤ x3 then (if (bt x0 x3) < 97 then (if (bt x0 x3) < 48 then (if (bt x0 x3) = 45 then (impl_IsName.L0 x0 (wrap64 (x3 + 1))) else (some false)) else (if (bt x0 x3) > 57 then (if (bt x0 x3) = 45 then (impl_IsName.L0 x0 (wrap64 (x3 + 1))) else (some false)) else (impl_IsName.L0 x0 (wrap64 (x3 + 1))))) else (if (bt x0 x3) > 122 then (if (bt x0 x3) < 48 then (if (bt x0 x3) = 45 then (impl_IsName.L0 x0 (wrap64 (x3 + 1))) else (some false)) else (if (bt x0 x3) > 57 then (if (bt x0 x3) = 45 then (impl_IsName.L0 x0 (wrap64 (x3 + 1))) else (some false)) else (impl_IsName.L0 x0 (wrap64 (x3 + 1))))) else (impl_IsName.L0 x0 (wrap64 (x3 + 1))))) else (none)) else (some true) := by
  refine Lim.next (fun k => (impl_IsName.mono_l k).2 x0 x3) ?_
  simp only [impl_IsName.l0]
  repeat' with_reducible first | exact Lim.const _ | exact impl_IsName.L0_lim _ _ | refine Lim.ite ?_ ?_ | refine Lim.bind ?_ (fun _ => ?_)
theorem impl_IsName.F_eq (a0 : ByteArray) : impl_IsName.F a0 = if (a0.size : Int) < 1 then (impl_IsName.J0 a0 true) else (if (a0.size : Int) > 12 then (impl_IsName.J0 a0 true) else (if 0 < (a0.size : Int) then (if (bt a0 0) < 97 then (impl_IsName.J0 a0 true) else (impl_IsName.J0 a0 (decide ((bt a0 0) > 122)))) else (none))) := by
  refine Lim.eq (g := fun k => impl_IsName.f k a0) ?_
  unfold impl_IsName.f
  repeat' with_reducible first | exact Lim.const _ | exact impl_IsName.J0_lim _ _ | refine Lim.ite ?_ ?_ | refine Lim.bind ?_ (fun _ => ?_)

noncomputable def impl_edgesMeet.J0 (x9 x10 x11 x12 : Int) (x42 : Bool) (x253000 x253001 x254000 x254001 x255000 x255001 x256000 x256001 : Int) : Option (Bool) := lim (fun k => impl_edgesMeet.j0 k x9 x10 x11 x12 x42 x253000 x253001 x254000 x254001 x255000 x255001 x256000 x256001)
theorem impl_edgesMeet.J0_lim (x9 x10 x11 x12 : Int) (x42 : Bool) (x253000 x253001 x254000 x254001 x255000 x255001 x256000 x256001 : Int) : Lim (fun k => impl_edgesMeet.j0 k x9 x10 x11 x12 x42 x253000 x253001 x254000 x254001 x255000 x255001 x256000 x256001) (impl_edgesMeet.J0 x9 x10 x11 x12 x42 x253000 x253001 x254000 x254001 x255000 x255001 x256000 x256001) := Lim.of (fun k => (impl_edgesMeet.mono_l k) x9 x10 x11 x12 x42 x253000 x253001 x254000 x254001 x255000 x255001 x256000 x256001)
noncomputable def impl_edgesMeet.F (a0_0 a0_1 a1_0 a1_1 a2_0 a2_1 a3_0 a3_1 : Int) : Option (Bool) := lim (fun k => impl_edgesMeet.f k a0_0 a0_1 a1_0 a1_1 a2_0 a2_1 a3_0 a3_1)
theorem impl_edgesMeet.F_lim (a0_0 a0_1 a1_0 a1_1 a2_0 a2_1 a3_0 a3_1 : Int) : Lim (fun k => impl_edgesMeet.f k a0_0 a0_1 a1_0 a1_1 a2_0 a2_1 a3_0 a3_1) (impl_edgesMeet.F a0_0 a0_1 a1_0 a1_1 a2_0 a2_1 a3_0 a3_1) := Lim.of (fun k => impl_edgesMeet.mono a0_0 a0_1 a1_0 a1_1 a2_0 a2_1 a3_0 a3_1 k)
theorem impl_edgesMeet.J0_eq (x9 x10 x11 x12 : Int) (x42 : Bool) (x253000 x253001 x254000 x254001 x255000 x255001 x256000 x256001 : Int) : impl_edgesMeet.J0 x9 x10 x11 x12 x42 x253000 x253001 x254000 x254001 x255000 x255001 x256000 x256001 = if x42 = true then (some true) else (if x9 = 0 then ((impl_between.f x253000 x253001 x254000 x254001 x255000 x255001).bind fun t264 => (if t264 = true then (some true) else (if x10 = 0 then ((impl_between.f x253000 x253001 x254000 x254001 x256000 x256001).bind fun t265 => (if t265 = true then (some true) else (if x11 = 0 then ((impl_between.f x255000 x255001 x256000 x256001 x253000 x253001).bind fun t266 => (if t266 = true then (some true) else (if x12 = 0 then ((impl_between.f x255000 x255001 x256000 x256001 x254000 x254001).bind fun t267 => (some t267)) else (some false)))) else (if x12 = 0 then ((impl_between.f x255000 x255001 x256000 x256001 x254000 x254001).bind fun t268 => (some t268)) else (some false))))) else (if x11 = 0 then ((impl_between.f x255000 x255001 x256000 x256001 x253000 x253001).bind fun t269 => (if t269 = true then (some true) else (if x12 = 0 then ((impl_between.f x255000 x255001 x256000 x256001 x254000 x254001).bind fun t270 => (some t270)) else (some false)))) else (if x12 = 0 then ((impl_between.f x255000 x255001 x256000 x256001 x254000 x254001).bind fun t271 => (some t271)) else (some false)))))) else (if x10 = 0 then ((impl_between.f x253000 x253001 x254000 x254001 x256000 x256001).bind fun t272 => (if t272 = true then (some true) else (if x11 = 0 then ((impl_between.f x255000 x255001 x256000 x256001 x253000 x253001).bind fun t273 => (if t273 = true then (some true) else (if x12 = 0 then ((impl_between.f x255000 x255001 x256000 x256001 x254000 x254001).bind fun t274 => (some t274)) else (some false)))) else (if x12 = 0 then ((impl_between.f x255000 x255001 x256000 x256001 x254000 x254001).bind fun t275 => (some t275)) else (some false))))) else (if x11 = 0 then ((impl_between.f x255000 x255001 x256000 x256001 x253000 x253001).bind fun t276 => (if t276 = true then (some true) else (if x12 = 0 then ((impl_between.f x255000 x255001 x256000 x256001 x254000 x254001).bind fun t277 => (some t277)) else (some false)))) else (if x12 = 0 then ((impl_between.f x255000 x255001 x256000 x256001 x254000 x254001).bind fun t278 => (some t278)) else (some false))))) := by
  refine Lim.next (fun k => (impl_edgesMeet.mono_l k) x9 x10 x11 x12 x42 x253000 x253001 x254000 x254001 x255000 x255001 x256000 x256001) ?_
  simp only [impl_edgesMeet.j0]
  repeat' with_reducible first | exact Lim.const _ | refine Lim.ite ?_ ?_ | refine Lim.bind ?_ (fun _ => ?_)
theorem impl_edgesMeet.F_eq (a0_0 a0_1 a1_0 a1_1 a2_0 a2_1 a3_0 a3_1 : Int) : impl_edgesMeet.F a0_0 a0_1 a1_0 a1_1 a2_0 a2_1 a3_0 a3_1 = (impl_turnAt.f a0_0 a0_1 a1_0 a1_1 a2_0 a2_1).bind fun t256 => ((impl_turnAt.f a0_0 a0_1 a1_0 a1_1 a3_0 a3_1).bind fun t257 => ((impl_turnAt.f a2_0 a2_1 a3_0 a3_1 a0_0 a0_1).bind fun t258 => ((impl_turnAt.f a2_0 a2_1 a3_0 a3_1 a1_0 a1_1).bind fun t259 => ((impl_sign.f t256).bind fun t260 => ((impl_sign.f t257).bind fun t261 => (if (wrap64 (t260 * t261)) < 0 then ((impl_sign.f t258).bind fun t262 => ((impl_sign.f t259).bind fun t263 => (impl_edgesMeet.J0 t256 t257 t258 t259 (decide ((wrap64 (t262 * t263)) < 0)) a0_0 a0_1 a1_0 a1_1 a2_0 a2_1 a3_0 a3_1))) else (impl_edgesMeet.J0 t256 t257 t258 t259 false a0_0 a0_1 a1_0 a1_1 a2_0 a2_1 a3_0 a3_1))))))) := by
  refine Lim.eq (g := fun k => impl_edgesMeet.f k a0_0 a0_1 a1_0 a1_1 a2_0 a2_1 a3_0 a3_1) ?_
  unfold impl_edgesMeet.f
  repeat' with_reducible first | exact Lim.const _ | exact impl_edgesMeet.J0_lim _ _ _ _ _ _ _ _ _ _ _ _ _ | refine Lim.ite ?_ ?_ | refine Lim.bind ?_ (fun _ => ?_)

noncomputable def impl_twiceSail.L0 (x0 : List (S89)) (x3 : Int) (x7 : List (S89)) (x8 x9 : Int) : Option (Int) := lim (fun k => impl_twiceSail.l0 k x0 x3 x7 x8 x9)
theorem impl_twiceSail.L0_lim (x0 : List (S89)) (x3 : Int) (x7 : List (S89)) (x8 x9 : Int) : Lim (fun k => impl_twiceSail.l0 k x0 x3 x7 x8 x9) (impl_twiceSail.L0 x0 x3 x7 x8 x9) := Lim.of (fun k => (impl_twiceSail.mono_l k) x0 x3 x7 x8 x9)
noncomputable def impl_twiceSail.F (l0 : List (S89)) : Option (Int) := lim (fun k => impl_twiceSail.f k l0)
theorem impl_twiceSail.F_lim (l0 : List (S89)) : Lim (fun k => impl_twiceSail.f k l0) (impl_twiceSail.F l0) := Lim.of (fun k => impl_twiceSail.mono l0 k)
theorem impl_twiceSail.L0_eq (x0 : List (S89)) (x3 : Int) (x7 : List (S89)) (x8 x9 : Int) : impl_twiceSail.L0 x0 x3 x7 x8 x9 = if x9 < x8 then (if 0 ≤ x9 then (if x9 < (x7.length : Int) then (if (x0.length : Int) = 0 then (none) else (if 0 ≤ (Int.tmod (wrap64 (x9 + 1)) (x0.length : Int)) then (if (Int.tmod (wrap64 (x9 + 1)) (x0.length : Int)) < (x0.length : Int) then (impl_twiceSail.L0 x0 (wrap64 (x3 + (wrap64 ((wrap64 (((rd_T89 x7 x9).f0) * ((rd_T89 x0 (Int.tmod (wrap64 (x9 + 1)) (x0.length : Int))).f1))) - (wrap64 (((rd_T89 x0 (Int.tmod (wrap64 (x9 + 1)) (x0.length : Int))).f0) * ((rd_T89 x7 x9).f1))))))) x7 x8 (wrap64 (x9 + 1))) else (none)) else (none))) else (none)) else (none)) else (some x3) := by
  refine Lim.next (fun k => (impl_twiceSail.mono_l k) x0 x3 x7 x8 x9) ?_
  simp only [impl_twiceSail.l0]
  repeat' with_reducible first | exact Lim.const _ | exact impl_twiceSail.L0_lim _ _ _ _ _ | refine Lim.ite ?_ ?_ | refine Lim.bind ?_ (fun _ => ?_)
theorem impl_twiceSail.F_eq (l0 : List (S89)) : impl_twiceSail.F l0 = impl_twiceSail.L0 l0 0 l0 (l0.length : Int) 0 := by
  refine Lim.eq (g := fun k => impl_twiceSail.f k l0) ?_
  unfold impl_twiceSail.f
  repeat' with_reducible first | exact Lim.const _ | exact impl_twiceSail.L0_lim _ _ _ _ _ | refine Lim.ite ?_ ?_ | refine Lim.bind ?_ (fun _ => ?_)

noncomputable def impl_ValidSail.J0 (x0 : List (S89)) (x3 : Int) (x16 : Bool) : Option (Bool) := lim (fun k => impl_ValidSail.j0 k x0 x3 x16)
theorem impl_ValidSail.J0_lim (x0 : List (S89)) (x3 : Int) (x16 : Bool) : Lim (fun k => impl_ValidSail.j0 k x0 x3 x16) (impl_ValidSail.J0 x0 x3 x16) := Lim.of (fun k => (impl_ValidSail.mono_l k).1 x0 x3 x16)
noncomputable def impl_ValidSail.L0 (x0 : List (S89)) (x3 : Int) (x17 : List (S89)) (x18 x19 : Int) : Option (Bool) := lim (fun k => impl_ValidSail.l0 k x0 x3 x17 x18 x19)
theorem impl_ValidSail.L0_lim (x0 : List (S89)) (x3 : Int) (x17 : List (S89)) (x18 x19 : Int) : Lim (fun k => impl_ValidSail.l0 k x0 x3 x17 x18 x19) (impl_ValidSail.L0 x0 x3 x17 x18 x19) := Lim.of (fun k => (impl_ValidSail.mono_l k).2.1 x0 x3 x17 x18 x19)
noncomputable def impl_ValidSail.L1 (x0 : List (S89)) (x3 x35 x36 : Int) : Option (Bool) := lim (fun k => impl_ValidSail.l1 k x0 x3 x35 x36)
theorem impl_ValidSail.L1_lim (x0 : List (S89)) (x3 x35 x36 : Int) : Lim (fun k => impl_ValidSail.l1 k x0 x3 x35 x36) (impl_ValidSail.L1 x0 x3 x35 x36) := Lim.of (fun k => (impl_ValidSail.mono_l k).2.2.1 x0 x3 x35 x36)
noncomputable def impl_ValidSail.L2 (x0 : List (S89)) (x3 x61 x62 : Int) : Option (Bool) := lim (fun k => impl_ValidSail.l2 k x0 x3 x61 x62)
theorem impl_ValidSail.L2_lim (x0 : List (S89)) (x3 x61 x62 : Int) : Lim (fun k => impl_ValidSail.l2 k x0 x3 x61 x62) (impl_ValidSail.L2 x0 x3 x61 x62) := Lim.of (fun k => (impl_ValidSail.mono_l k).2.2.2.1 x0 x3 x61 x62)
noncomputable def impl_ValidSail.L3 (x0 : List (S89)) (x3 x7 x8 x61 x62 : Int) : Option (Bool) := lim (fun k => impl_ValidSail.l3 k x0 x3 x7 x8 x61 x62)
theorem impl_ValidSail.L3_lim (x0 : List (S89)) (x3 x7 x8 x61 x62 : Int) : Lim (fun k => impl_ValidSail.l3 k x0 x3 x7 x8 x61 x62) (impl_ValidSail.L3 x0 x3 x7 x8 x61 x62) := Lim.of (fun k => (impl_ValidSail.mono_l k).2.2.2.2 x0 x3 x7 x8 x61 x62)
noncomputable def impl_ValidSail.F (l0 : List (S89)) : Option (Bool) := lim (fun k => impl_ValidSail.f k l0)
theorem impl_ValidSail.F_lim (l0 : List (S89)) : Lim (fun k => impl_ValidSail.f k l0) (impl_ValidSail.F l0) := Lim.of (fun k => impl_ValidSail.mono l0 k)
theorem impl_ValidSail.J0_eq (x0 : List (S89)) (x3 : Int) (x16 : Bool) : impl_ValidSail.J0 x0 x3 x16 = if x16 = true then (some false) else (impl_ValidSail.L0 x0 x3 x0 (x0.length : Int) 0) := by
  refine Lim.next (fun k => (impl_ValidSail.mono_l k).1 x0 x3 x16) ?_
  simp only [impl_ValidSail.j0]
  repeat' with_reducible first | exact Lim.const _ | exact impl_ValidSail.L0_lim _ _ _ _ _ | refine Lim.ite ?_ ?_ | refine Lim.bind ?_ (fun _ => ?_)
theorem impl_ValidSail.L0_eq (x0 : List (S89)) (x3 : Int) (x17 : List (S89)) (x18 x19 : Int) : impl_ValidSail.L0 x0 x3 x17 x18 x19 = if x19 < x18 then (if 0 ≤ x19 then (if x19 < (x17.length : Int) then ((impl_within.f ((rd_T89 x17 x19).f0) 0 2000).bind fun t285 => (if t285 = true then ((impl_within.f ((rd_T89 x17 x19).f1) 0 2000).bind fun t286 => (if t286 = true then (impl_ValidSail.L0 x0 x3 x17 x18 (wrap64 (x19 + 1))) else (some false))) else (some false))) else (none)) else (none)) else (impl_ValidSail.L1 x0 x3 (x0.length : Int) 0) := by
  refine Lim.next (fun k => (impl_ValidSail.mono_l k).2.1 x0 x3 x17 x18 x19) ?_
  simp only [impl_ValidSail.l0]
  repeat' with_reducible first | exact Lim.const _ | exact impl_ValidSail.L0_lim _ _ _ _ _ | exact impl_ValidSail.L1_lim _ _ _ _ | refine Lim.ite ?_ ?_ | refine Lim.bind ?_ (fun _ => ?_)
theorem impl_ValidSail.L1_eq (x0 : List (S89)) (x3 x35 x36 : Int) : impl_ValidSail.L1 x0 x3 x35 x36 = if x36 < x35 then (if 0 ≤ x36 then (if x36 < (x0.length : Int) then (if x3 = 0 then (none) else (if 0 ≤ (Int.tmod (wrap64 (x36 + 1)) x3) then (if (Int.tmod (wrap64 (x36 + 1)) x3) < (x0.length : Int) then (if 0 ≤ (Int.tmod (wrap64 (x36 + 2)) x3) then (if (Int.tmod (wrap64 (x36 + 2)) x3) < (x0.length : Int) then ((impl_turnAt.f ((rd_T89 x0 x36).f0) ((rd_T89 x0 x36).f1) ((rd_T89 x0 (Int.tmod (wrap64 (x36 + 1)) x3)).f0) ((rd_T89 x0 (Int.tmod (wrap64 (x36 + 1)) x3)).f1) ((rd_T89 x0 (Int.tmod (wrap64 (x36 + 2)) x3)).f0) ((rd_T89 x0 (Int.tmod (wrap64 (x36 + 2)) x3)).f1)).bind fun t290 => (if t290 = 0 then (some false) else (impl_ValidSail.L1 x0 x3 x35 (wrap64 (x36 + 1))))) else (none)) else (none)) else (none)) else (none))) else (none)) else (none)) else (impl_ValidSail.L2 x0 x3 (x0.length : Int) 0) := by
  refine Lim.next (fun k => (impl_ValidSail.mono_l k).2.2.1 x0 x3 x35 x36) ?_
  simp only [impl_ValidSail.l1]
  repeat' with_reducible first | exact Lim.const _ | exact impl_ValidSail.L1_lim _ _ _ _ | exact impl_ValidSail.L2_lim _ _ _ _ | refine Lim.ite ?_ ?_ | refine Lim.bind ?_ (fun _ => ?_)
theorem impl_ValidSail.L2_eq (x0 : List (S89)) (x3 x61 x62 : Int) : impl_ValidSail.L2 x0 x3 x61 x62 = if x62 < x61 then (impl_ValidSail.L3 x0 x3 x62 (wrap64 (x62 + 2)) x61 x62) else ((impl_twiceSail.F x0).bind fun t291 => (some (decide (t291 > 0)))) := by
  refine Lim.next (fun k => (impl_ValidSail.mono_l k).2.2.2.1 x0 x3 x61 x62) ?_
  simp only [impl_ValidSail.l2]
  repeat' with_reducible first | exact Lim.const _ | exact impl_ValidSail.L3_lim _ _ _ _ _ _ | exact impl_twiceSail.F_lim _ | refine Lim.ite ?_ ?_ | refine Lim.bind ?_ (fun _ => ?_)
theorem impl_ValidSail.L3_eq (x0 : List (S89)) (x3 x7 x8 x61 x62 : Int) : impl_ValidSail.L3 x0 x3 x7 x8 x61 x62 = if x8 < x3 then (if x3 = 0 then (none) else (if (Int.tmod (wrap64 (x8 + 1)) x3) = x7 then (impl_ValidSail.L3 x0 x3 x7 (wrap64 (x8 + 1)) x61 x62) else (if 0 ≤ x7 then (if x7 < (x0.length : Int) then (if 0 ≤ (wrap64 (x7 + 1)) then (if (wrap64 (x7 + 1)) < (x0.length : Int) then (if 0 ≤ x8 then (if x8 < (x0.length : Int) then (if 0 ≤ (Int.tmod (wrap64 (x8 + 1)) x3) then (if (Int.tmod (wrap64 (x8 + 1)) x3) < (x0.length : Int) then ((impl_edgesMeet.F ((rd_T89 x0 x7).f0) ((rd_T89 x0 x7).f1) ((rd_T89 x0 (wrap64 (x7 + 1))).f0) ((rd_T89 x0 (wrap64 (x7 + 1))).f1) ((rd_T89 x0 x8).f0) ((rd_T89 x0 x8).f1) ((rd_T89 x0 (Int.tmod (wrap64 (x8 + 1)) x3)).f0) ((rd_T89 x0 (Int.tmod (wrap64 (x8 + 1)) x3)).f1)).bind fun t296 => (if t296 = true then (some false) else (impl_ValidSail.L3 x0 x3 x7 (wrap64 (x8 + 1)) x61 x62))) else (none)) else (none)) else (none)) else (none)) else (none)) else (none)) else (none)) else (none)))) else (impl_ValidSail.L2 x0 x3 x61 (wrap64 (x62 + 1))) := by
  refine Lim.next (fun k => (impl_ValidSail.mono_l k).2.2.2.2 x0 x3 x7 x8 x61 x62) ?_
  simp only [impl_ValidSail.l3]
  repeat' with_reducible first | exact Lim.const _ | exact impl_ValidSail.L2_lim _ _ _ _ | exact impl_ValidSail.L3_lim _ _ _ _ _ _ | exact impl_edgesMeet.F_lim _ _ _ _ _ _ _ _ | refine Lim.ite ?_ ?_ | refine Lim.bind ?_ (fun _ => ?_)
theorem impl_ValidSail.F_eq (l0 : List (S89)) : impl_ValidSail.F l0 = if (l0.length : Int) < 3 then (impl_ValidSail.J0 l0 (l0.length : Int) true) else (impl_ValidSail.J0 l0 (l0.length : Int) (decide ((l0.length : Int) > 8))) := by
  refine Lim.eq (g := fun k => impl_ValidSail.f k l0) ?_
  unfold impl_ValidSail.f
  repeat' with_reducible first | exact Lim.const _ | exact impl_ValidSail.J0_lim _ _ _ | refine Lim.ite ?_ ?_ | refine Lim.bind ?_ (fun _ => ?_)

noncomputable def impl_ValidPlan.J0 (x22 : Bool) (x298000 : List (S57)) (x298001 x298002 : Int) : Option (Bool) := lim (fun k => impl_ValidPlan.j0 k x22 x298000 x298001 x298002)
theorem impl_ValidPlan.J0_lim (x22 : Bool) (x298000 : List (S57)) (x298001 x298002 : Int) : Lim (fun k => impl_ValidPlan.j0 k x22 x298000 x298001 x298002) (impl_ValidPlan.J0 x22 x298000 x298001 x298002) := Lim.of (fun k => (impl_ValidPlan.mono_l k).1 x22 x298000 x298001 x298002)
noncomputable def impl_ValidPlan.L0 (x24 : List (S57)) (x25 x26 : Int) (x298000 : List (S57)) (x298001 x298002 : Int) : Option (Bool) := lim (fun k => impl_ValidPlan.l0 k x24 x25 x26 x298000 x298001 x298002)
theorem impl_ValidPlan.L0_lim (x24 : List (S57)) (x25 x26 : Int) (x298000 : List (S57)) (x298001 x298002 : Int) : Lim (fun k => impl_ValidPlan.l0 k x24 x25 x26 x298000 x298001 x298002) (impl_ValidPlan.L0 x24 x25 x26 x298000 x298001 x298002) := Lim.of (fun k => (impl_ValidPlan.mono_l k).2 x24 x25 x26 x298000 x298001 x298002)
noncomputable def impl_ValidPlan.F (l0_0 : List (S57)) (a0_1 a0_2 : Int) : Option (Bool) := lim (fun k => impl_ValidPlan.f k l0_0 a0_1 a0_2)
theorem impl_ValidPlan.F_lim (l0_0 : List (S57)) (a0_1 a0_2 : Int) : Lim (fun k => impl_ValidPlan.f k l0_0 a0_1 a0_2) (impl_ValidPlan.F l0_0 a0_1 a0_2) := Lim.of (fun k => impl_ValidPlan.mono l0_0 a0_1 a0_2 k)
theorem impl_ValidPlan.J0_eq (x22 : Bool) (x298000 : List (S57)) (x298001 x298002 : Int) : impl_ValidPlan.J0 x22 x298000 x298001 x298002 = if x22 = true then (some false) else (impl_ValidPlan.L0 x298000 (x298000.length : Int) 0 x298000 x298001 x298002) := by
  refine Lim.next (fun k => (impl_ValidPlan.mono_l k).1 x22 x298000 x298001 x298002) ?_
  simp only [impl_ValidPlan.j0]
  repeat' with_reducible first | exact Lim.const _ | exact impl_ValidPlan.L0_lim _ _ _ _ _ _ | refine Lim.ite ?_ ?_ | refine Lim.bind ?_ (fun _ => ?_)
theorem impl_ValidPlan.L0_eq (x24 : List (S57)) (x25 x26 : Int) (x298000 : List (S57)) (x298001 x298002 : Int) : impl_ValidPlan.L0 x24 x25 x26 x298000 x298001 x298002 = if x26 < x25 then (if 0 ≤ x26 then (if x26 < (x24.length : Int) then ((impl_IsName.F ((rd_T57 x24 x26).f0)).bind fun t302 => (if t302 = true then ((impl_ValidSail.F ((rd_T57 x24 x26).f1)).bind fun t303 => (if t303 = true then (if x26 ≤ (x298000.length : Int) then ((impl_sailNamed.f (x298000.take (x26 : Int).toNat) ((rd_T57 x24 x26).f0)).bind fun t308 => (if t308 ≥ 0 then (some false) else (impl_ValidPlan.L0 x24 x25 (wrap64 (x26 + 1)) x298000 x298001 x298002))) else (none)) else (some false))) else (some false))) else (none)) else (none)) else (some true) := by
  refine Lim.next (fun k => (impl_ValidPlan.mono_l k).2 x24 x25 x26 x298000 x298001 x298002) ?_
  simp only [impl_ValidPlan.l0]
  repeat' with_reducible first | exact Lim.const _ | exact impl_IsName.F_lim _ | exact impl_ValidPlan.L0_lim _ _ _ _ _ _ | exact impl_ValidSail.F_lim _ | refine Lim.ite ?_ ?_ | refine Lim.bind ?_ (fun _ => ?_)
theorem impl_ValidPlan.F_eq (l0_0 : List (S57)) (a0_1 a0_2 : Int) : impl_ValidPlan.F l0_0 a0_1 a0_2 = if (l0_0.length : Int) > 8 then (impl_ValidPlan.J0 true l0_0 a0_1 a0_2) else ((impl_within.f a0_2 1 5000).bind fun t298 => (if t298 = true then ((impl_within.f a0_1 0 a0_2).bind fun t299 => (impl_ValidPlan.J0 (!t299) l0_0 a0_1 a0_2)) else (impl_ValidPlan.J0 true l0_0 a0_1 a0_2))) := by
  refine Lim.eq (g := fun k => impl_ValidPlan.f k l0_0 a0_1 a0_2) ?_
  unfold impl_ValidPlan.f
  repeat' with_reducible first | exact Lim.const _ | exact impl_ValidPlan.J0_lim _ _ _ _ | refine Lim.ite ?_ ?_ | refine Lim.bind ?_ (fun _ => ?_)

noncomputable def impl_SailText.L0 (x3 : List ByteArray) (x10 : List (S89)) (x11 x12 : Int) : Option (ByteArray) := lim (fun k => impl_SailText.l0 k x3 x10 x11 x12)
theorem impl_SailText.L0_lim (x3 : List ByteArray) (x10 : List (S89)) (x11 x12 : Int) : Lim (fun k => impl_SailText.l0 k x3 x10 x11 x12) (impl_SailText.L0 x3 x10 x11 x12) := Lim.of (fun k => (impl_SailText.mono_l k) x3 x10 x11 x12)
noncomputable def impl_SailText.F (l0 : List (S89)) : Option (ByteArray) := lim (fun k => impl_SailText.f k l0)
theorem impl_SailText.F_lim (l0 : List (S89)) : Lim (fun k => impl_SailText.f k l0) (impl_SailText.F l0) := Lim.of (fun k => impl_SailText.mono l0 k)
theorem impl_SailText.L0_eq (x3 : List ByteArray) (x10 : List (S89)) (x11 x12 : Int) : impl_SailText.L0 x3 x10 x11 x12 = if x12 < x11 then (if 0 ≤ x12 then (if x12 < (x10.length : Int) then ((impl_Decimal.f ((rd_T89 x10 x12).f0)).bind fun t316 => (if t316.size + 1 ≤ 9223372036854775807 then ((impl_Decimal.f ((rd_T89 x10 x12).f1)).bind fun t317 => (if t316.size + 1 + t317.size ≤ 9223372036854775807 then (if x3.length < 8796093022208 then (impl_SailText.L0 (x3 ++ [(t316 ++ (⟨#[44]⟩ : ByteArray)) ++ t317]) x10 x11 (wrap64 (x12 + 1))) else (none)) else (none))) else (none))) else (none)) else (none)) else ((strings_Join.f x3 (⟨#[32]⟩ : ByteArray)).bind fun t321 => (some t321)) := by
  refine Lim.next (fun k => (impl_SailText.mono_l k) x3 x10 x11 x12) ?_
  simp only [impl_SailText.l0]
  repeat' with_reducible first | exact Lim.const _ | exact impl_SailText.L0_lim _ _ _ _ | refine Lim.ite ?_ ?_ | refine Lim.bind ?_ (fun _ => ?_)
theorem impl_SailText.F_eq (l0 : List (S89)) : impl_SailText.F l0 = (impl_ValidSail.F l0).bind fun t310 => (if t310 = true then (impl_SailText.L0 (([] : List ByteArray)) l0 (l0.length : Int) 0) else (some (⟨#[]⟩ : ByteArray))) := by
  refine Lim.eq (g := fun k => impl_SailText.f k l0) ?_
  unfold impl_SailText.f
  repeat' with_reducible first | exact Lim.const _ | exact impl_SailText.L0_lim _ _ _ _ | exact impl_ValidSail.F_lim _ | refine Lim.ite ?_ ?_ | refine Lim.bind ?_ (fun _ => ?_)

noncomputable def impl_PlanText.L0 (x3 : ByteArray) (x19 : List (S57)) (x20 x21 : Int) : Option (ByteArray) := lim (fun k => impl_PlanText.l0 k x3 x19 x20 x21)
theorem impl_PlanText.L0_lim (x3 : ByteArray) (x19 : List (S57)) (x20 x21 : Int) : Lim (fun k => impl_PlanText.l0 k x3 x19 x20 x21) (impl_PlanText.L0 x3 x19 x20 x21) := Lim.of (fun k => (impl_PlanText.mono_l k) x3 x19 x20 x21)
noncomputable def impl_PlanText.F (l0_0 : List (S57)) (a0_1 a0_2 : Int) : Option (ByteArray) := lim (fun k => impl_PlanText.f k l0_0 a0_1 a0_2)
theorem impl_PlanText.F_lim (l0_0 : List (S57)) (a0_1 a0_2 : Int) : Lim (fun k => impl_PlanText.f k l0_0 a0_1 a0_2) (impl_PlanText.F l0_0 a0_1 a0_2) := Lim.of (fun k => impl_PlanText.mono l0_0 a0_1 a0_2 k)
theorem impl_PlanText.L0_eq (x3 : ByteArray) (x19 : List (S57)) (x20 x21 : Int) : impl_PlanText.L0 x3 x19 x20 x21 = if x21 < x20 then (if 0 ≤ x21 then (if x21 < (x19.length : Int) then (if 2 + ((rd_T57 x19 x21).f0).size ≤ 9223372036854775807 then (if x3.size + (2 + ((rd_T57 x19 x21).f0).size) ≤ 9223372036854775807 then (if (rd_T57 x19 x21).f2 = true then (if x3.size + (2 + ((rd_T57 x19 x21).f0).size) + 4 ≤ 9223372036854775807 then ((impl_SailText.F ((rd_T57 x19 x21).f1)).bind fun t328 => (if 1 + t328.size ≤ 9223372036854775807 then (if x3.size + (2 + ((rd_T57 x19 x21).f0).size) + 4 + (1 + t328.size) ≤ 9223372036854775807 then (impl_PlanText.L0 (((x3 ++ ((⟨#[59, 32]⟩ : ByteArray) ++ ((rd_T57 x19 x21).f0))) ++ (⟨#[32, 115, 101, 116]⟩ : ByteArray)) ++ ((⟨#[32]⟩ : ByteArray) ++ t328)) x19 x20 (wrap64 (x21 + 1))) else (none)) else (none))) else (none)) else ((impl_SailText.F ((rd_T57 x19 x21).f1)).bind fun t329 => (if 1 + t329.size ≤ 9223372036854775807 then (if x3.size + (2 + ((rd_T57 x19 x21).f0).size) + (1 + t329.size) ≤ 9223372036854775807 then (impl_PlanText.L0 ((x3 ++ ((⟨#[59, 32]⟩ : ByteArray) ++ ((rd_T57 x19 x21).f0))) ++ ((⟨#[32]⟩ : ByteArray) ++ t329)) x19 x20 (wrap64 (x21 + 1))) else (none)) else (none)))) else (none)) else (none)) else (none)) else (none)) else (some x3) := by
  refine Lim.next (fun k => (impl_PlanText.mono_l k) x3 x19 x20 x21) ?_
  simp only [impl_PlanText.l0]
  repeat' with_reducible first | exact Lim.const _ | exact impl_PlanText.L0_lim _ _ _ _ | exact impl_SailText.F_lim _ | refine Lim.ite ?_ ?_ | refine Lim.bind ?_ (fun _ => ?_)
theorem impl_PlanText.F_eq (l0_0 : List (S57)) (a0_1 a0_2 : Int) : impl_PlanText.F l0_0 a0_1 a0_2 = (impl_ValidPlan.F l0_0 a0_1 a0_2).bind fun t323 => (if t323 = true then ((impl_Decimal.f a0_2).bind fun t324 => (if 5 + t324.size ≤ 9223372036854775807 then (if 5 + t324.size + 8 ≤ 9223372036854775807 then ((impl_Decimal.f a0_1).bind fun t325 => (if 5 + t324.size + 8 + t325.size ≤ 9223372036854775807 then (impl_PlanText.L0 ((((⟨#[104, 117, 108, 108, 32]⟩ : ByteArray) ++ t324) ++ (⟨#[32, 99, 101, 110, 116, 114, 101, 32]⟩ : ByteArray)) ++ t325) l0_0 (l0_0.length : Int) 0) else (none))) else (none)) else (none))) else (some (⟨#[]⟩ : ByteArray))) := by
  refine Lim.eq (g := fun k => impl_PlanText.f k l0_0 a0_1 a0_2) ?_
  unfold impl_PlanText.f
  repeat' with_reducible first | exact Lim.const _ | exact impl_PlanText.L0_lim _ _ _ _ | exact impl_ValidPlan.F_lim _ _ _ | refine Lim.ite ?_ ?_ | refine Lim.bind ?_ (fun _ => ?_)

noncomputable def laws_eqSpotS.L0 (x0 x1 : List (S89)) (x5 : Int) : Option (Bool) := lim (fun k => laws_eqSpotS.l0 k x0 x1 x5)
theorem laws_eqSpotS.L0_lim (x0 x1 : List (S89)) (x5 : Int) : Lim (fun k => laws_eqSpotS.l0 k x0 x1 x5) (laws_eqSpotS.L0 x0 x1 x5) := Lim.of (fun k => (laws_eqSpotS.mono_l k) x0 x1 x5)
noncomputable def laws_eqSpotS.F (l0 l1 : List (S89)) : Option (Bool) := lim (fun k => laws_eqSpotS.f k l0 l1)
theorem laws_eqSpotS.F_lim (l0 l1 : List (S89)) : Lim (fun k => laws_eqSpotS.f k l0 l1) (laws_eqSpotS.F l0 l1) := Lim.of (fun k => laws_eqSpotS.mono l0 l1 k)
theorem laws_eqSpotS.L0_eq (x0 x1 : List (S89)) (x5 : Int) : laws_eqSpotS.L0 x0 x1 x5 = if x5 < (x0.length : Int) then (if 0 ≤ x5 then (if x5 < (x1.length : Int) then ((laws_eqSpot.f ((rd_T89 x0 x5).f0) ((rd_T89 x0 x5).f1) ((rd_T89 x1 x5).f0) ((rd_T89 x1 x5).f1)).bind fun t334 => (if t334 = true then (laws_eqSpotS.L0 x0 x1 (wrap64 (x5 + 1))) else (some false))) else (none)) else (none)) else (some true) := by
  refine Lim.next (fun k => (laws_eqSpotS.mono_l k) x0 x1 x5) ?_
  simp only [laws_eqSpotS.l0]
  repeat' with_reducible first | exact Lim.const _ | exact laws_eqSpotS.L0_lim _ _ _ | refine Lim.ite ?_ ?_ | refine Lim.bind ?_ (fun _ => ?_)
theorem laws_eqSpotS.F_eq (l0 l1 : List (S89)) : laws_eqSpotS.F l0 l1 = if (l0.length : Int) = (l1.length : Int) then (laws_eqSpotS.L0 l0 l1 0) else (some false) := by
  refine Lim.eq (g := fun k => laws_eqSpotS.f k l0 l1) ?_
  unfold laws_eqSpotS.f
  repeat' with_reducible first | exact Lim.const _ | exact laws_eqSpotS.L0_lim _ _ _ | refine Lim.ite ?_ ?_ | refine Lim.bind ?_ (fun _ => ?_)

noncomputable def laws_eqHung.F (a0_0 : ByteArray) (l0_1 : List (S89)) (a0_2 : Bool) (a1_0 : ByteArray) (l1_1 : List (S89)) (a1_2 : Bool) : Option (Bool) := lim (fun k => laws_eqHung.f k a0_0 l0_1 a0_2 a1_0 l1_1 a1_2)
theorem laws_eqHung.F_lim (a0_0 : ByteArray) (l0_1 : List (S89)) (a0_2 : Bool) (a1_0 : ByteArray) (l1_1 : List (S89)) (a1_2 : Bool) : Lim (fun k => laws_eqHung.f k a0_0 l0_1 a0_2 a1_0 l1_1 a1_2) (laws_eqHung.F a0_0 l0_1 a0_2 a1_0 l1_1 a1_2) := Lim.of (fun k => laws_eqHung.mono a0_0 l0_1 a0_2 a1_0 l1_1 a1_2 k)
theorem laws_eqHung.F_eq (a0_0 : ByteArray) (l0_1 : List (S89)) (a0_2 : Bool) (a1_0 : ByteArray) (l1_1 : List (S89)) (a1_2 : Bool) : laws_eqHung.F a0_0 l0_1 a0_2 a1_0 l1_1 a1_2 = if a0_0.toList = a1_0.toList then ((laws_eqSpotS.F l0_1 l1_1).bind fun t337 => (if t337 = true then (if (a0_2 != a1_2) = true then (some false) else (some true)) else (some false))) else (some false) := by
  refine Lim.eq (g := fun k => laws_eqHung.f k a0_0 l0_1 a0_2 a1_0 l1_1 a1_2) ?_
  unfold laws_eqHung.f
  repeat' with_reducible first | exact Lim.const _ | exact laws_eqSpotS.F_lim _ _ | refine Lim.ite ?_ ?_ | refine Lim.bind ?_ (fun _ => ?_)

noncomputable def laws_eqHungS.L0 (x0 x1 : List (S57)) (x5 : Int) : Option (Bool) := lim (fun k => laws_eqHungS.l0 k x0 x1 x5)
theorem laws_eqHungS.L0_lim (x0 x1 : List (S57)) (x5 : Int) : Lim (fun k => laws_eqHungS.l0 k x0 x1 x5) (laws_eqHungS.L0 x0 x1 x5) := Lim.of (fun k => (laws_eqHungS.mono_l k) x0 x1 x5)
noncomputable def laws_eqHungS.F (l0 l1 : List (S57)) : Option (Bool) := lim (fun k => laws_eqHungS.f k l0 l1)
theorem laws_eqHungS.F_lim (l0 l1 : List (S57)) : Lim (fun k => laws_eqHungS.f k l0 l1) (laws_eqHungS.F l0 l1) := Lim.of (fun k => laws_eqHungS.mono l0 l1 k)
theorem laws_eqHungS.L0_eq (x0 x1 : List (S57)) (x5 : Int) : laws_eqHungS.L0 x0 x1 x5 = if x5 < (x0.length : Int) then (if 0 ≤ x5 then (if x5 < (x1.length : Int) then ((laws_eqHung.F ((rd_T57 x0 x5).f0) ((rd_T57 x0 x5).f1) ((rd_T57 x0 x5).f2) ((rd_T57 x1 x5).f0) ((rd_T57 x1 x5).f1) ((rd_T57 x1 x5).f2)).bind fun t340 => (if t340 = true then (laws_eqHungS.L0 x0 x1 (wrap64 (x5 + 1))) else (some false))) else (none)) else (none)) else (some true) := by
  refine Lim.next (fun k => (laws_eqHungS.mono_l k) x0 x1 x5) ?_
  simp only [laws_eqHungS.l0]
  repeat' with_reducible first | exact Lim.const _ | exact laws_eqHung.F_lim _ _ _ _ _ _ | exact laws_eqHungS.L0_lim _ _ _ | refine Lim.ite ?_ ?_ | refine Lim.bind ?_ (fun _ => ?_)
theorem laws_eqHungS.F_eq (l0 l1 : List (S57)) : laws_eqHungS.F l0 l1 = if (l0.length : Int) = (l1.length : Int) then (laws_eqHungS.L0 l0 l1 0) else (some false) := by
  refine Lim.eq (g := fun k => laws_eqHungS.f k l0 l1) ?_
  unfold laws_eqHungS.f
  repeat' with_reducible first | exact Lim.const _ | exact laws_eqHungS.L0_lim _ _ _ | refine Lim.ite ?_ ?_ | refine Lim.bind ?_ (fun _ => ?_)

noncomputable def laws_eqPlan.F (l0_0 : List (S57)) (a0_1 a0_2 : Int) (l1_0 : List (S57)) (a1_1 a1_2 : Int) : Option (Bool) := lim (fun k => laws_eqPlan.f k l0_0 a0_1 a0_2 l1_0 a1_1 a1_2)
theorem laws_eqPlan.F_lim (l0_0 : List (S57)) (a0_1 a0_2 : Int) (l1_0 : List (S57)) (a1_1 a1_2 : Int) : Lim (fun k => laws_eqPlan.f k l0_0 a0_1 a0_2 l1_0 a1_1 a1_2) (laws_eqPlan.F l0_0 a0_1 a0_2 l1_0 a1_1 a1_2) := Lim.of (fun k => laws_eqPlan.mono l0_0 a0_1 a0_2 l1_0 a1_1 a1_2 k)
theorem laws_eqPlan.F_eq (l0_0 : List (S57)) (a0_1 a0_2 : Int) (l1_0 : List (S57)) (a1_1 a1_2 : Int) : laws_eqPlan.F l0_0 a0_1 a0_2 l1_0 a1_1 a1_2 = (laws_eqHungS.F l0_0 l1_0).bind fun t343 => (if t343 = true then (if a0_1 = a1_1 then (if a0_2 = a1_2 then (some true) else (some false)) else (some false)) else (some false)) := by
  refine Lim.eq (g := fun k => laws_eqPlan.f k l0_0 a0_1 a0_2 l1_0 a1_1 a1_2) ?_
  unfold laws_eqPlan.f
  repeat' with_reducible first | exact Lim.const _ | exact laws_eqHungS.F_lim _ _ | refine Lim.ite ?_ ?_ | refine Lim.bind ?_ (fun _ => ?_)

noncomputable def laws_FnExactPlanText.F (l0_0 : List (S82)) (a0_1 a0_2 : Int) : Option (Bool) := lim (fun k => laws_FnExactPlanText.f k l0_0 a0_1 a0_2)
theorem laws_FnExactPlanText.F_lim (l0_0 : List (S82)) (a0_1 a0_2 : Int) : Lim (fun k => laws_FnExactPlanText.f k l0_0 a0_1 a0_2) (laws_FnExactPlanText.F l0_0 a0_1 a0_2) := Lim.of (fun k => laws_FnExactPlanText.mono l0_0 a0_1 a0_2 k)
theorem laws_FnExactPlanText.F_eq (l0_0 : List (S82)) (a0_1 a0_2 : Int) : laws_FnExactPlanText.F l0_0 a0_1 a0_2 = (laws_szPlan.F l0_0 a0_1 a0_2 1048576).bind fun t345 => (if t345 < 0 then (some true) else ((laws_toPlan.F l0_0 a0_1 a0_2).bind fun bt346 => ((spec_PlanText.F bt346.1 bt346.2.1 bt346.2.2).bind fun t351 => ((laws_toPlan.F l0_0 a0_1 a0_2).bind fun bt352 => ((impl_PlanText.F bt352.1 bt352.2.1 bt352.2.2).bind fun t358 => (if t358.toList = t351.toList then ((laws_toPlan.F l0_0 a0_1 a0_2).bind fun bt359 => ((laws_eqPlan.F bt352.1 bt352.2.1 bt352.2.2 bt359.1 bt359.2.1 bt359.2.2).bind fun t364 => (if t364 = true then (some true) else (some false)))) else (some false))))))) := by
  refine Lim.eq (g := fun k => laws_FnExactPlanText.f k l0_0 a0_1 a0_2) ?_
  unfold laws_FnExactPlanText.f
  repeat' with_reducible first | exact Lim.const _ | exact impl_PlanText.F_lim _ _ _ | exact laws_eqPlan.F_lim _ _ _ _ _ _ | exact laws_szPlan.F_lim _ _ _ _ | exact laws_toPlan.F_lim _ _ _ | exact spec_PlanText.F_lim _ _ _ | refine Lim.ite ?_ ?_ | refine Lim.bind ?_ (fun _ => ?_)

end Go.Proofs.YtdlckliobloodaaDoor.PFnExactPlanText
