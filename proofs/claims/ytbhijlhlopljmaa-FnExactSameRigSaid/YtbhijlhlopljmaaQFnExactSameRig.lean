/-
  Written by a program of this session (wip/tools/lims.py): the printed functions without their bound on rounds.
-/
import Derived.Test.YtbhijlhlopljmaaPFnExactSameRigx1
import Derived.Test.YtbhijlhlopljmaaPFnExactSameRigx2
import Derived.Test.YtbhijlhlopljmaaPFnExactSameRigx3
import Derived.Test.YtbhijlhlopljmaaPFnExactSameRigx4
import Derived.Test.YtbhijlhlopljmaaPFnExactSameRigx5
import Derived.Test.YtbhijlhlopljmaaPFnExactSameRigx6
import Derived.Test.YtbhijlhlopljmaaPFnExactSameRigx7
import Derived.Test.YtbhijlhlopljmaaPFnExactSameRigx8
import Derived.Test.YtbhijlhlopljmaaKit
set_option linter.unusedVariables false
set_option linter.unusedSimpArgs false
namespace Go.Proofs.Ytbhijlhlopljmaa.PFnExactSameRig
open Go.RowKit Go.Proofs.Ytbhijlhlopljmaa.Kit Go.Proofs.YtbhijlhlopljmaaW.PrintWords Go.Proofs.YtbhijlhlopljmaaW.PrintLast Go.Proofs.YtbhijlhlopljmaaW.PrintMore

noncomputable def laws_szRailS.L0 (x0 : List (S155)) (x1 : Int) (x5 : Int) : Option (Int) := lim (fun k => laws_szRailS.l0 k x0 x1 x5)
theorem laws_szRailS.L0_lim (x0 : List (S155)) (x1 : Int) (x5 : Int) : Lim (fun k => laws_szRailS.l0 k x0 x1 x5) (laws_szRailS.L0 x0 x1 x5) := Lim.of (fun k => (laws_szRailS.mono_l k) x0 x1 x5)
noncomputable def laws_szRailS.F (l0 : List (S155)) (a1 : Int) : Option (Int) := lim (fun k => laws_szRailS.f k l0 a1)
theorem laws_szRailS.F_lim (l0 : List (S155)) (a1 : Int) : Lim (fun k => laws_szRailS.f k l0 a1) (laws_szRailS.F l0 a1) := Lim.of (fun k => laws_szRailS.mono l0 a1 k)
theorem laws_szRailS.L0_eq (x0 : List (S155)) (x1 : Int) (x5 : Int) : laws_szRailS.L0 x0 x1 x5 = if x5 < (x0.length : Int) then (if 0 ≤ x5 then ((laws_szRail.f ((rd_T155 x0 x5).f0) ((rd_T155 x0 x5).f1) ((rd_T155 x0 x5).f2) x1).bind fun t103 => (if t103 < 0 then (some (-1)) else (laws_szRailS.L0 x0 t103 (wrap64 (x5 + 1))))) else (none)) else (some x1) := by
  refine Lim.step (f := fun k => if x5 < (x0.length : Int) then (if 0 ≤ x5 then ((laws_szRail.f ((rd_T155 x0 x5).f0) ((rd_T155 x0 x5).f1) ((rd_T155 x0 x5).f2) x1).bind fun t103 => (if t103 < 0 then (some (-1)) else (laws_szRailS.l0 k x0 t103 (wrap64 (x5 + 1))))) else (none)) else (some x1)) (fun k => (laws_szRailS.mono_l k) x0 x1 x5) (fun k => by simp only [laws_szRailS.l0]) ?_
  repeat' first
    | with_reducible exact Lim.const _
    | with_reducible exact laws_szRailS.L0_lim _ _ _
    | with_reducible refine Lim.ite ?_ ?_
    | with_reducible refine Lim.bind ?_ (fun _ => ?_)
theorem laws_szRailS.F_eq (l0 : List (S155)) (a1 : Int) : laws_szRailS.F l0 a1 = if (wrap64 (a1 - (l0.length : Int))) < 0 then (some (-1)) else (laws_szRailS.L0 l0 (wrap64 (a1 - (l0.length : Int))) 0) := by
  refine Lim.eq (g := fun k => laws_szRailS.f k l0 a1) ?_
  unfold laws_szRailS.f
  repeat' first
    | with_reducible exact Lim.const _
    | with_reducible exact laws_szRailS.L0_lim _ _ _
    | with_reducible refine Lim.ite ?_ ?_
    | with_reducible refine Lim.bind ?_ (fun _ => ?_)

noncomputable def laws_szStringS.L0 (x0 : List ByteArray) (x1 : Int) (x5 : Int) : Option (Int) := lim (fun k => laws_szStringS.l0 k x0 x1 x5)
theorem laws_szStringS.L0_lim (x0 : List ByteArray) (x1 : Int) (x5 : Int) : Lim (fun k => laws_szStringS.l0 k x0 x1 x5) (laws_szStringS.L0 x0 x1 x5) := Lim.of (fun k => (laws_szStringS.mono_l k) x0 x1 x5)
noncomputable def laws_szStringS.F (l0 : List ByteArray) (a1 : Int) : Option (Int) := lim (fun k => laws_szStringS.f k l0 a1)
theorem laws_szStringS.F_lim (l0 : List ByteArray) (a1 : Int) : Lim (fun k => laws_szStringS.f k l0 a1) (laws_szStringS.F l0 a1) := Lim.of (fun k => laws_szStringS.mono l0 a1 k)
theorem laws_szStringS.L0_eq (x0 : List ByteArray) (x1 : Int) (x5 : Int) : laws_szStringS.L0 x0 x1 x5 = if x5 < (x0.length : Int) then (if 0 ≤ x5 then (if (wrap64 (x1 - ((rdOf ByteArray.empty x0 x5).size : Int))) < 0 then (some (-1)) else (laws_szStringS.L0 x0 (wrap64 (x1 - ((rdOf ByteArray.empty x0 x5).size : Int))) (wrap64 (x5 + 1)))) else (none)) else (some x1) := by
  refine Lim.step (f := fun k => if x5 < (x0.length : Int) then (if 0 ≤ x5 then (if (wrap64 (x1 - ((rdOf ByteArray.empty x0 x5).size : Int))) < 0 then (some (-1)) else (laws_szStringS.l0 k x0 (wrap64 (x1 - ((rdOf ByteArray.empty x0 x5).size : Int))) (wrap64 (x5 + 1)))) else (none)) else (some x1)) (fun k => (laws_szStringS.mono_l k) x0 x1 x5) (fun k => by simp only [laws_szStringS.l0]) ?_
  repeat' first
    | with_reducible exact Lim.const _
    | with_reducible exact laws_szStringS.L0_lim _ _ _
    | with_reducible refine Lim.ite ?_ ?_
    | with_reducible refine Lim.bind ?_ (fun _ => ?_)
theorem laws_szStringS.F_eq (l0 : List ByteArray) (a1 : Int) : laws_szStringS.F l0 a1 = if (wrap64 (a1 - (l0.length : Int))) < 0 then (some (-1)) else (laws_szStringS.L0 l0 (wrap64 (a1 - (l0.length : Int))) 0) := by
  refine Lim.eq (g := fun k => laws_szStringS.f k l0 a1) ?_
  unfold laws_szStringS.f
  repeat' first
    | with_reducible exact Lim.const _
    | with_reducible exact laws_szStringS.L0_lim _ _ _
    | with_reducible refine Lim.ite ?_ ?_
    | with_reducible refine Lim.bind ?_ (fun _ => ?_)

noncomputable def laws_szBelayS.L0 (x0 : List (S157)) (x1 : Int) (x5 : Int) : Option (Int) := lim (fun k => laws_szBelayS.l0 k x0 x1 x5)
theorem laws_szBelayS.L0_lim (x0 : List (S157)) (x1 : Int) (x5 : Int) : Lim (fun k => laws_szBelayS.l0 k x0 x1 x5) (laws_szBelayS.L0 x0 x1 x5) := Lim.of (fun k => (laws_szBelayS.mono_l k) x0 x1 x5)
noncomputable def laws_szBelayS.F (l0 : List (S157)) (a1 : Int) : Option (Int) := lim (fun k => laws_szBelayS.f k l0 a1)
theorem laws_szBelayS.F_lim (l0 : List (S157)) (a1 : Int) : Lim (fun k => laws_szBelayS.f k l0 a1) (laws_szBelayS.F l0 a1) := Lim.of (fun k => laws_szBelayS.mono l0 a1 k)
theorem laws_szBelayS.L0_eq (x0 : List (S157)) (x1 : Int) (x5 : Int) : laws_szBelayS.L0 x0 x1 x5 = if x5 < (x0.length : Int) then (if 0 ≤ x5 then ((laws_szBelay.f ((rd_T157 x0 x5).f0) ((rd_T157 x0 x5).f1) ((rd_T157 x0 x5).f2) x1).bind fun t107 => (if t107 < 0 then (some (-1)) else (laws_szBelayS.L0 x0 t107 (wrap64 (x5 + 1))))) else (none)) else (some x1) := by
  refine Lim.step (f := fun k => if x5 < (x0.length : Int) then (if 0 ≤ x5 then ((laws_szBelay.f ((rd_T157 x0 x5).f0) ((rd_T157 x0 x5).f1) ((rd_T157 x0 x5).f2) x1).bind fun t107 => (if t107 < 0 then (some (-1)) else (laws_szBelayS.l0 k x0 t107 (wrap64 (x5 + 1))))) else (none)) else (some x1)) (fun k => (laws_szBelayS.mono_l k) x0 x1 x5) (fun k => by simp only [laws_szBelayS.l0]) ?_
  repeat' first
    | with_reducible exact Lim.const _
    | with_reducible exact laws_szBelayS.L0_lim _ _ _
    | with_reducible refine Lim.ite ?_ ?_
    | with_reducible refine Lim.bind ?_ (fun _ => ?_)
theorem laws_szBelayS.F_eq (l0 : List (S157)) (a1 : Int) : laws_szBelayS.F l0 a1 = if (wrap64 (a1 - (l0.length : Int))) < 0 then (some (-1)) else (laws_szBelayS.L0 l0 (wrap64 (a1 - (l0.length : Int))) 0) := by
  refine Lim.eq (g := fun k => laws_szBelayS.f k l0 a1) ?_
  unfold laws_szBelayS.f
  repeat' first
    | with_reducible exact Lim.const _
    | with_reducible exact laws_szBelayS.L0_lim _ _ _
    | with_reducible refine Lim.ite ?_ ?_
    | with_reducible refine Lim.bind ?_ (fun _ => ?_)

noncomputable def laws_szRig.F (l0_0 : List (S155)) (l0_1 : List ByteArray) (l0_2 : List (S157)) (a1 : Int) : Option (Int) := lim (fun k => laws_szRig.f k l0_0 l0_1 l0_2 a1)
theorem laws_szRig.F_lim (l0_0 : List (S155)) (l0_1 : List ByteArray) (l0_2 : List (S157)) (a1 : Int) : Lim (fun k => laws_szRig.f k l0_0 l0_1 l0_2 a1) (laws_szRig.F l0_0 l0_1 l0_2 a1) := Lim.of (fun k => laws_szRig.mono l0_0 l0_1 l0_2 a1 k)
theorem laws_szRig.F_eq (l0_0 : List (S155)) (l0_1 : List ByteArray) (l0_2 : List (S157)) (a1 : Int) : laws_szRig.F l0_0 l0_1 l0_2 a1 = (laws_szRailS.F l0_0 a1).bind fun t109 => (if t109 < 0 then (some (-1)) else ((laws_szStringS.F l0_1 t109).bind fun t110 => (if t110 < 0 then (some (-1)) else ((laws_szBelayS.F l0_2 t110).bind fun t111 => (if t111 < 0 then (some (-1)) else (some t111)))))) := by
  refine Lim.eq (g := fun k => laws_szRig.f k l0_0 l0_1 l0_2 a1) ?_
  unfold laws_szRig.f
  repeat' first
    | with_reducible exact Lim.const _
    | with_reducible exact laws_szBelayS.F_lim _ _
    | with_reducible exact laws_szRailS.F_lim _ _
    | with_reducible exact laws_szStringS.F_lim _ _
    | with_reducible refine Lim.ite ?_ ?_
    | with_reducible refine Lim.bind ?_ (fun _ => ?_)

noncomputable def spec_SameRig.J0 (x32 : Bool) (x113000 : List (S106)) (x113001 : List ByteArray) (x113002 : List (S108)) (x114000 : List (S106)) (x114001 : List ByteArray) (x114002 : List (S108)) : Option (Bool) := lim (fun k => spec_SameRig.j0 k x32 x113000 x113001 x113002 x114000 x114001 x114002)
theorem spec_SameRig.J0_lim (x32 : Bool) (x113000 : List (S106)) (x113001 : List ByteArray) (x113002 : List (S108)) (x114000 : List (S106)) (x114001 : List ByteArray) (x114002 : List (S108)) : Lim (fun k => spec_SameRig.j0 k x32 x113000 x113001 x113002 x114000 x114001 x114002) (spec_SameRig.J0 x32 x113000 x113001 x113002 x114000 x114001 x114002) := Lim.of (fun k => (spec_SameRig.mono_l k).1 x32 x113000 x113001 x113002 x114000 x114001 x114002)
noncomputable def spec_SameRig.L0 (x5 : Int) (x113000 : List (S106)) (x113001 : List ByteArray) (x113002 : List (S108)) (x114000 : List (S106)) (x114001 : List ByteArray) (x114002 : List (S108)) : Option (Bool) := lim (fun k => spec_SameRig.l0 k x5 x113000 x113001 x113002 x114000 x114001 x114002)
theorem spec_SameRig.L0_lim (x5 : Int) (x113000 : List (S106)) (x113001 : List ByteArray) (x113002 : List (S108)) (x114000 : List (S106)) (x114001 : List ByteArray) (x114002 : List (S108)) : Lim (fun k => spec_SameRig.l0 k x5 x113000 x113001 x113002 x114000 x114001 x114002) (spec_SameRig.L0 x5 x113000 x113001 x113002 x114000 x114001 x114002) := Lim.of (fun k => (spec_SameRig.mono_l k).2.1 x5 x113000 x113001 x113002 x114000 x114001 x114002)
noncomputable def spec_SameRig.L1 (x6 : Int) (x113000 : List (S106)) (x113001 : List ByteArray) (x113002 : List (S108)) (x114000 : List (S106)) (x114001 : List ByteArray) (x114002 : List (S108)) : Option (Bool) := lim (fun k => spec_SameRig.l1 k x6 x113000 x113001 x113002 x114000 x114001 x114002)
theorem spec_SameRig.L1_lim (x6 : Int) (x113000 : List (S106)) (x113001 : List ByteArray) (x113002 : List (S108)) (x114000 : List (S106)) (x114001 : List ByteArray) (x114002 : List (S108)) : Lim (fun k => spec_SameRig.l1 k x6 x113000 x113001 x113002 x114000 x114001 x114002) (spec_SameRig.L1 x6 x113000 x113001 x113002 x114000 x114001 x114002) := Lim.of (fun k => (spec_SameRig.mono_l k).2.2.1 x6 x113000 x113001 x113002 x114000 x114001 x114002)
noncomputable def spec_SameRig.L2 (x7 : Int) (x113000 : List (S106)) (x113001 : List ByteArray) (x113002 : List (S108)) (x114000 : List (S106)) (x114001 : List ByteArray) (x114002 : List (S108)) : Option (Bool) := lim (fun k => spec_SameRig.l2 k x7 x113000 x113001 x113002 x114000 x114001 x114002)
theorem spec_SameRig.L2_lim (x7 : Int) (x113000 : List (S106)) (x113001 : List ByteArray) (x113002 : List (S108)) (x114000 : List (S106)) (x114001 : List ByteArray) (x114002 : List (S108)) : Lim (fun k => spec_SameRig.l2 k x7 x113000 x113001 x113002 x114000 x114001 x114002) (spec_SameRig.L2 x7 x113000 x113001 x113002 x114000 x114001 x114002) := Lim.of (fun k => (spec_SameRig.mono_l k).2.2.2 x7 x113000 x113001 x113002 x114000 x114001 x114002)
noncomputable def spec_SameRig.F (l0_0 : List (S106)) (l0_1 : List ByteArray) (l0_2 : List (S108)) (l1_0 : List (S106)) (l1_1 : List ByteArray) (l1_2 : List (S108)) : Option (Bool) := lim (fun k => spec_SameRig.f k l0_0 l0_1 l0_2 l1_0 l1_1 l1_2)
theorem spec_SameRig.F_lim (l0_0 : List (S106)) (l0_1 : List ByteArray) (l0_2 : List (S108)) (l1_0 : List (S106)) (l1_1 : List ByteArray) (l1_2 : List (S108)) : Lim (fun k => spec_SameRig.f k l0_0 l0_1 l0_2 l1_0 l1_1 l1_2) (spec_SameRig.F l0_0 l0_1 l0_2 l1_0 l1_1 l1_2) := Lim.of (fun k => spec_SameRig.mono l0_0 l0_1 l0_2 l1_0 l1_1 l1_2 k)
theorem spec_SameRig.J0_eq (x32 : Bool) (x113000 : List (S106)) (x113001 : List ByteArray) (x113002 : List (S108)) (x114000 : List (S106)) (x114001 : List ByteArray) (x114002 : List (S108)) : spec_SameRig.J0 x32 x113000 x113001 x113002 x114000 x114001 x114002 = if x32 = true then (some false) else (spec_SameRig.L0 0 x113000 x113001 x113002 x114000 x114001 x114002) := by
  refine Lim.step (f := fun k => if x32 = true then (some false) else (spec_SameRig.l0 k 0 x113000 x113001 x113002 x114000 x114001 x114002)) (fun k => (spec_SameRig.mono_l k).1 x32 x113000 x113001 x113002 x114000 x114001 x114002) (fun k => by simp only [spec_SameRig.j0]) ?_
  repeat' first
    | with_reducible exact Lim.const _
    | with_reducible exact spec_SameRig.L0_lim _ _ _ _ _ _ _
    | with_reducible refine Lim.ite ?_ ?_
    | with_reducible refine Lim.bind ?_ (fun _ => ?_)
theorem spec_SameRig.L0_eq (x5 : Int) (x113000 : List (S106)) (x113001 : List ByteArray) (x113002 : List (S108)) (x114000 : List (S106)) (x114001 : List ByteArray) (x114002 : List (S108)) : spec_SameRig.L0 x5 x113000 x113001 x113002 x114000 x114001 x114002 = if x5 < (x113000.length : Int) then (if 0 ≤ x5 then (if x5 < (x114000.length : Int) then (if (!((((rd_T106 x113000 x5).f0).toList) == (((rd_T106 x114000 x5).f0).toList)) || (!((((rd_T106 x113000 x5).f1).toList) == (((rd_T106 x114000 x5).f1).toList)) || (!(((rd_T106 x113000 x5).f2) == ((rd_T106 x114000 x5).f2))))) = true then (some false) else (spec_SameRig.L0 (wrap64 (x5 + 1)) x113000 x113001 x113002 x114000 x114001 x114002)) else (none)) else (none)) else (spec_SameRig.L1 0 x113000 x113001 x113002 x114000 x114001 x114002) := by
  refine Lim.step (f := fun k => if x5 < (x113000.length : Int) then (if 0 ≤ x5 then (if x5 < (x114000.length : Int) then (if (!((((rd_T106 x113000 x5).f0).toList) == (((rd_T106 x114000 x5).f0).toList)) || (!((((rd_T106 x113000 x5).f1).toList) == (((rd_T106 x114000 x5).f1).toList)) || (!(((rd_T106 x113000 x5).f2) == ((rd_T106 x114000 x5).f2))))) = true then (some false) else (spec_SameRig.l0 k (wrap64 (x5 + 1)) x113000 x113001 x113002 x114000 x114001 x114002)) else (none)) else (none)) else (spec_SameRig.l1 k 0 x113000 x113001 x113002 x114000 x114001 x114002)) (fun k => (spec_SameRig.mono_l k).2.1 x5 x113000 x113001 x113002 x114000 x114001 x114002) (fun k => by simp only [spec_SameRig.l0]) ?_
  repeat' first
    | with_reducible exact Lim.const _
    | with_reducible exact spec_SameRig.L0_lim _ _ _ _ _ _ _
    | with_reducible exact spec_SameRig.L1_lim _ _ _ _ _ _ _
    | with_reducible refine Lim.ite ?_ ?_
    | with_reducible refine Lim.bind ?_ (fun _ => ?_)
theorem spec_SameRig.L1_eq (x6 : Int) (x113000 : List (S106)) (x113001 : List ByteArray) (x113002 : List (S108)) (x114000 : List (S106)) (x114001 : List ByteArray) (x114002 : List (S108)) : spec_SameRig.L1 x6 x113000 x113001 x113002 x114000 x114001 x114002 = if x6 < (x113001.length : Int) then (if 0 ≤ x6 then (if x6 < (x114001.length : Int) then (if (rdOf ByteArray.empty x113001 x6).toList = (rdOf ByteArray.empty x114001 x6).toList then (spec_SameRig.L1 (wrap64 (x6 + 1)) x113000 x113001 x113002 x114000 x114001 x114002) else (some false)) else (none)) else (none)) else (spec_SameRig.L2 0 x113000 x113001 x113002 x114000 x114001 x114002) := by
  refine Lim.step (f := fun k => if x6 < (x113001.length : Int) then (if 0 ≤ x6 then (if x6 < (x114001.length : Int) then (if (rdOf ByteArray.empty x113001 x6).toList = (rdOf ByteArray.empty x114001 x6).toList then (spec_SameRig.l1 k (wrap64 (x6 + 1)) x113000 x113001 x113002 x114000 x114001 x114002) else (some false)) else (none)) else (none)) else (spec_SameRig.l2 k 0 x113000 x113001 x113002 x114000 x114001 x114002)) (fun k => (spec_SameRig.mono_l k).2.2.1 x6 x113000 x113001 x113002 x114000 x114001 x114002) (fun k => by simp only [spec_SameRig.l1]) ?_
  repeat' first
    | with_reducible exact Lim.const _
    | with_reducible exact spec_SameRig.L1_lim _ _ _ _ _ _ _
    | with_reducible exact spec_SameRig.L2_lim _ _ _ _ _ _ _
    | with_reducible refine Lim.ite ?_ ?_
    | with_reducible refine Lim.bind ?_ (fun _ => ?_)
theorem spec_SameRig.L2_eq (x7 : Int) (x113000 : List (S106)) (x113001 : List ByteArray) (x113002 : List (S108)) (x114000 : List (S106)) (x114001 : List ByteArray) (x114002 : List (S108)) : spec_SameRig.L2 x7 x113000 x113001 x113002 x114000 x114001 x114002 = if x7 < (x113002.length : Int) then (if 0 ≤ x7 then (if x7 < (x114002.length : Int) then (if (!((((rd_T108 x113002 x7).f0).toList) == (((rd_T108 x114002 x7).f0).toList)) || (!((((rd_T108 x113002 x7).f1).toList) == (((rd_T108 x114002 x7).f1).toList)) || (!(((rd_T108 x113002 x7).f2) == ((rd_T108 x114002 x7).f2))))) = true then (some false) else (spec_SameRig.L2 (wrap64 (x7 + 1)) x113000 x113001 x113002 x114000 x114001 x114002)) else (none)) else (none)) else (some true) := by
  refine Lim.step (f := fun k => if x7 < (x113002.length : Int) then (if 0 ≤ x7 then (if x7 < (x114002.length : Int) then (if (!((((rd_T108 x113002 x7).f0).toList) == (((rd_T108 x114002 x7).f0).toList)) || (!((((rd_T108 x113002 x7).f1).toList) == (((rd_T108 x114002 x7).f1).toList)) || (!(((rd_T108 x113002 x7).f2) == ((rd_T108 x114002 x7).f2))))) = true then (some false) else (spec_SameRig.l2 k (wrap64 (x7 + 1)) x113000 x113001 x113002 x114000 x114001 x114002)) else (none)) else (none)) else (some true)) (fun k => (spec_SameRig.mono_l k).2.2.2 x7 x113000 x113001 x113002 x114000 x114001 x114002) (fun k => by simp only [spec_SameRig.l2]) ?_
  repeat' first
    | with_reducible exact Lim.const _
    | with_reducible exact spec_SameRig.L2_lim _ _ _ _ _ _ _
    | with_reducible refine Lim.ite ?_ ?_
    | with_reducible refine Lim.bind ?_ (fun _ => ?_)
theorem spec_SameRig.F_eq (l0_0 : List (S106)) (l0_1 : List ByteArray) (l0_2 : List (S108)) (l1_0 : List (S106)) (l1_1 : List ByteArray) (l1_2 : List (S108)) : spec_SameRig.F l0_0 l0_1 l0_2 l1_0 l1_1 l1_2 = if (l0_0.length : Int) = (l1_0.length : Int) then (if (l0_1.length : Int) = (l1_1.length : Int) then (spec_SameRig.J0 ((l0_2.length : Int) != (l1_2.length : Int)) l0_0 l0_1 l0_2 l1_0 l1_1 l1_2) else (spec_SameRig.J0 true l0_0 l0_1 l0_2 l1_0 l1_1 l1_2)) else (spec_SameRig.J0 true l0_0 l0_1 l0_2 l1_0 l1_1 l1_2) := by
  refine Lim.eq (g := fun k => spec_SameRig.f k l0_0 l0_1 l0_2 l1_0 l1_1 l1_2) ?_
  unfold spec_SameRig.f
  repeat' first
    | with_reducible exact Lim.const _
    | with_reducible exact spec_SameRig.J0_lim _ _ _ _ _ _ _
    | with_reducible refine Lim.ite ?_ ?_
    | with_reducible refine Lim.bind ?_ (fun _ => ?_)

noncomputable def laws_toRailS.L0 (x0 : List (S155)) (x3 : List (S106)) (x4 : Int) : Option ((List (S106))) := lim (fun k => laws_toRailS.l0 k x0 x3 x4)
theorem laws_toRailS.L0_lim (x0 : List (S155)) (x3 : List (S106)) (x4 : Int) : Lim (fun k => laws_toRailS.l0 k x0 x3 x4) (laws_toRailS.L0 x0 x3 x4) := Lim.of (fun k => (laws_toRailS.mono_l k) x0 x3 x4)
noncomputable def laws_toRailS.F (l0 : List (S155)) : Option ((List (S106))) := lim (fun k => laws_toRailS.f k l0)
theorem laws_toRailS.F_lim (l0 : List (S155)) : Lim (fun k => laws_toRailS.f k l0) (laws_toRailS.F l0) := Lim.of (fun k => laws_toRailS.mono l0 k)
theorem laws_toRailS.L0_eq (x0 : List (S155)) (x3 : List (S106)) (x4 : Int) : laws_toRailS.L0 x0 x3 x4 = if x4 < (x0.length : Int) then (if 0 ≤ x4 then ((laws_toRail.f ((rd_T155 x0 x4).f0) ((rd_T155 x0 x4).f1) ((rd_T155 x0 x4).f2)).bind fun bt127 => (if x4 < (x3.length : Int) then (laws_toRailS.L0 x0 (x3.set (x4 : Int).toNat (⟨bt127.1, bt127.2.1, bt127.2.2⟩ : S106)) (wrap64 (x4 + 1))) else (none))) else (none)) else (some x3) := by
  refine Lim.step (f := fun k => if x4 < (x0.length : Int) then (if 0 ≤ x4 then ((laws_toRail.f ((rd_T155 x0 x4).f0) ((rd_T155 x0 x4).f1) ((rd_T155 x0 x4).f2)).bind fun bt127 => (if x4 < (x3.length : Int) then (laws_toRailS.l0 k x0 (x3.set (x4 : Int).toNat (⟨bt127.1, bt127.2.1, bt127.2.2⟩ : S106)) (wrap64 (x4 + 1))) else (none))) else (none)) else (some x3)) (fun k => (laws_toRailS.mono_l k) x0 x3 x4) (fun k => by simp only [laws_toRailS.l0]) ?_
  repeat' first
    | with_reducible exact Lim.const _
    | with_reducible exact laws_toRailS.L0_lim _ _ _
    | with_reducible refine Lim.ite ?_ ?_
    | with_reducible refine Lim.bind ?_ (fun _ => ?_)
theorem laws_toRailS.F_eq (l0 : List (S155)) : laws_toRailS.F l0 = if 0 ≤ (l0.length : Int) then (if ((l0.length : Int) : Int).toNat ≤ 7036874417766 then (laws_toRailS.L0 l0 (List.replicate ((l0.length : Int) : Int).toNat z106) 0) else (none)) else (none) := by
  refine Lim.eq (g := fun k => laws_toRailS.f k l0) ?_
  unfold laws_toRailS.f
  repeat' first
    | with_reducible exact Lim.const _
    | with_reducible exact laws_toRailS.L0_lim _ _ _
    | with_reducible refine Lim.ite ?_ ?_
    | with_reducible refine Lim.bind ?_ (fun _ => ?_)

noncomputable def laws_toStringS.L0 (x0 : List ByteArray) (x3 : List ByteArray) (x4 : Int) : Option (List ByteArray) := lim (fun k => laws_toStringS.l0 k x0 x3 x4)
theorem laws_toStringS.L0_lim (x0 : List ByteArray) (x3 : List ByteArray) (x4 : Int) : Lim (fun k => laws_toStringS.l0 k x0 x3 x4) (laws_toStringS.L0 x0 x3 x4) := Lim.of (fun k => (laws_toStringS.mono_l k) x0 x3 x4)
noncomputable def laws_toStringS.F (l0 : List ByteArray) : Option (List ByteArray) := lim (fun k => laws_toStringS.f k l0)
theorem laws_toStringS.F_lim (l0 : List ByteArray) : Lim (fun k => laws_toStringS.f k l0) (laws_toStringS.F l0) := Lim.of (fun k => laws_toStringS.mono l0 k)
theorem laws_toStringS.L0_eq (x0 : List ByteArray) (x3 : List ByteArray) (x4 : Int) : laws_toStringS.L0 x0 x3 x4 = if x4 < (x0.length : Int) then (if 0 ≤ x4 then (if x4 < (x3.length : Int) then (laws_toStringS.L0 x0 (x3.set (x4 : Int).toNat (rdOf ByteArray.empty x0 x4)) (wrap64 (x4 + 1))) else (none)) else (none)) else (some x3) := by
  refine Lim.step (f := fun k => if x4 < (x0.length : Int) then (if 0 ≤ x4 then (if x4 < (x3.length : Int) then (laws_toStringS.l0 k x0 (x3.set (x4 : Int).toNat (rdOf ByteArray.empty x0 x4)) (wrap64 (x4 + 1))) else (none)) else (none)) else (some x3)) (fun k => (laws_toStringS.mono_l k) x0 x3 x4) (fun k => by simp only [laws_toStringS.l0]) ?_
  repeat' first
    | with_reducible exact Lim.const _
    | with_reducible exact laws_toStringS.L0_lim _ _ _
    | with_reducible refine Lim.ite ?_ ?_
    | with_reducible refine Lim.bind ?_ (fun _ => ?_)
theorem laws_toStringS.F_eq (l0 : List ByteArray) : laws_toStringS.F l0 = if 0 ≤ (l0.length : Int) then (if ((l0.length : Int) : Int).toNat ≤ 17592186044416 then (laws_toStringS.L0 l0 (List.replicate ((l0.length : Int) : Int).toNat (⟨#[]⟩ : ByteArray)) 0) else (none)) else (none) := by
  refine Lim.eq (g := fun k => laws_toStringS.f k l0) ?_
  unfold laws_toStringS.f
  repeat' first
    | with_reducible exact Lim.const _
    | with_reducible exact laws_toStringS.L0_lim _ _ _
    | with_reducible refine Lim.ite ?_ ?_
    | with_reducible refine Lim.bind ?_ (fun _ => ?_)

noncomputable def laws_toBelayS.L0 (x0 : List (S157)) (x3 : List (S108)) (x4 : Int) : Option ((List (S108))) := lim (fun k => laws_toBelayS.l0 k x0 x3 x4)
theorem laws_toBelayS.L0_lim (x0 : List (S157)) (x3 : List (S108)) (x4 : Int) : Lim (fun k => laws_toBelayS.l0 k x0 x3 x4) (laws_toBelayS.L0 x0 x3 x4) := Lim.of (fun k => (laws_toBelayS.mono_l k) x0 x3 x4)
noncomputable def laws_toBelayS.F (l0 : List (S157)) : Option ((List (S108))) := lim (fun k => laws_toBelayS.f k l0)
theorem laws_toBelayS.F_lim (l0 : List (S157)) : Lim (fun k => laws_toBelayS.f k l0) (laws_toBelayS.F l0) := Lim.of (fun k => laws_toBelayS.mono l0 k)
theorem laws_toBelayS.L0_eq (x0 : List (S157)) (x3 : List (S108)) (x4 : Int) : laws_toBelayS.L0 x0 x3 x4 = if x4 < (x0.length : Int) then (if 0 ≤ x4 then ((laws_toBelay.f ((rd_T157 x0 x4).f0) ((rd_T157 x0 x4).f1) ((rd_T157 x0 x4).f2)).bind fun bt143 => (if x4 < (x3.length : Int) then (laws_toBelayS.L0 x0 (x3.set (x4 : Int).toNat (⟨bt143.1, bt143.2.1, bt143.2.2⟩ : S108)) (wrap64 (x4 + 1))) else (none))) else (none)) else (some x3) := by
  refine Lim.step (f := fun k => if x4 < (x0.length : Int) then (if 0 ≤ x4 then ((laws_toBelay.f ((rd_T157 x0 x4).f0) ((rd_T157 x0 x4).f1) ((rd_T157 x0 x4).f2)).bind fun bt143 => (if x4 < (x3.length : Int) then (laws_toBelayS.l0 k x0 (x3.set (x4 : Int).toNat (⟨bt143.1, bt143.2.1, bt143.2.2⟩ : S108)) (wrap64 (x4 + 1))) else (none))) else (none)) else (some x3)) (fun k => (laws_toBelayS.mono_l k) x0 x3 x4) (fun k => by simp only [laws_toBelayS.l0]) ?_
  repeat' first
    | with_reducible exact Lim.const _
    | with_reducible exact laws_toBelayS.L0_lim _ _ _
    | with_reducible refine Lim.ite ?_ ?_
    | with_reducible refine Lim.bind ?_ (fun _ => ?_)
theorem laws_toBelayS.F_eq (l0 : List (S157)) : laws_toBelayS.F l0 = if 0 ≤ (l0.length : Int) then (if ((l0.length : Int) : Int).toNat ≤ 7036874417766 then (laws_toBelayS.L0 l0 (List.replicate ((l0.length : Int) : Int).toNat z108) 0) else (none)) else (none) := by
  refine Lim.eq (g := fun k => laws_toBelayS.f k l0) ?_
  unfold laws_toBelayS.f
  repeat' first
    | with_reducible exact Lim.const _
    | with_reducible exact laws_toBelayS.L0_lim _ _ _
    | with_reducible refine Lim.ite ?_ ?_
    | with_reducible refine Lim.bind ?_ (fun _ => ?_)

noncomputable def laws_toRig.F (l0_0 : List (S155)) (l0_1 : List ByteArray) (l0_2 : List (S157)) : Option ((List (S106)) × List ByteArray × (List (S108))) := lim (fun k => laws_toRig.f k l0_0 l0_1 l0_2)
theorem laws_toRig.F_lim (l0_0 : List (S155)) (l0_1 : List ByteArray) (l0_2 : List (S157)) : Lim (fun k => laws_toRig.f k l0_0 l0_1 l0_2) (laws_toRig.F l0_0 l0_1 l0_2) := Lim.of (fun k => laws_toRig.mono l0_0 l0_1 l0_2 k)
theorem laws_toRig.F_eq (l0_0 : List (S155)) (l0_1 : List ByteArray) (l0_2 : List (S157)) : laws_toRig.F l0_0 l0_1 l0_2 = (laws_toRailS.F l0_0).bind fun t150 => ((laws_toStringS.F l0_1).bind fun t153 => ((laws_toBelayS.F l0_2).bind fun t156 => (some (t150, t153, t156)))) := by
  refine Lim.eq (g := fun k => laws_toRig.f k l0_0 l0_1 l0_2) ?_
  unfold laws_toRig.f
  repeat' first
    | with_reducible exact Lim.const _
    | with_reducible exact laws_toBelayS.F_lim _
    | with_reducible exact laws_toRailS.F_lim _
    | with_reducible exact laws_toStringS.F_lim _
    | with_reducible refine Lim.ite ?_ ?_
    | with_reducible refine Lim.bind ?_ (fun _ => ?_)

noncomputable def impl_Rail.L0 (x0 : List (S106)) (x1 : List (S106)) (x12 : Int) (x13 : Int) : Option (Bool) := lim (fun k => impl_Rail.l0 k x0 x1 x12 x13)
theorem impl_Rail.L0_lim (x0 : List (S106)) (x1 : List (S106)) (x12 : Int) (x13 : Int) : Lim (fun k => impl_Rail.l0 k x0 x1 x12 x13) (impl_Rail.L0 x0 x1 x12 x13) := Lim.of (fun k => (impl_Rail.mono_l k) x0 x1 x12 x13)
noncomputable def impl_Rail.F (l0 : List (S106)) (l1 : List (S106)) : Option (Bool) := lim (fun k => impl_Rail.f k l0 l1)
theorem impl_Rail.F_lim (l0 : List (S106)) (l1 : List (S106)) : Lim (fun k => impl_Rail.f k l0 l1) (impl_Rail.F l0 l1) := Lim.of (fun k => impl_Rail.mono l0 l1 k)
theorem impl_Rail.L0_eq (x0 : List (S106)) (x1 : List (S106)) (x12 : Int) (x13 : Int) : impl_Rail.L0 x0 x1 x12 x13 = if x13 < x12 then (if 0 ≤ x13 then (if x13 < (x0.length : Int) then (if x13 < (x1.length : Int) then (if (!((((rd_T106 x0 x13).f0).toList) == (((rd_T106 x1 x13).f0).toList)) || (!((((rd_T106 x0 x13).f1).toList) == (((rd_T106 x1 x13).f1).toList)) || (!(((rd_T106 x0 x13).f2) == ((rd_T106 x1 x13).f2))))) = true then (some false) else (impl_Rail.L0 x0 x1 x12 (wrap64 (x13 + 1)))) else (none)) else (none)) else (none)) else (some true) := by
  refine Lim.step (f := fun k => if x13 < x12 then (if 0 ≤ x13 then (if x13 < (x0.length : Int) then (if x13 < (x1.length : Int) then (if (!((((rd_T106 x0 x13).f0).toList) == (((rd_T106 x1 x13).f0).toList)) || (!((((rd_T106 x0 x13).f1).toList) == (((rd_T106 x1 x13).f1).toList)) || (!(((rd_T106 x0 x13).f2) == ((rd_T106 x1 x13).f2))))) = true then (some false) else (impl_Rail.l0 k x0 x1 x12 (wrap64 (x13 + 1)))) else (none)) else (none)) else (none)) else (some true)) (fun k => (impl_Rail.mono_l k) x0 x1 x12 x13) (fun k => by simp only [impl_Rail.l0]) ?_
  repeat' first
    | with_reducible exact Lim.const _
    | with_reducible exact impl_Rail.L0_lim _ _ _ _
    | with_reducible refine Lim.ite ?_ ?_
    | with_reducible refine Lim.bind ?_ (fun _ => ?_)
theorem impl_Rail.F_eq (l0 : List (S106)) (l1 : List (S106)) : impl_Rail.F l0 l1 = if (l0.length : Int) = (l1.length : Int) then (impl_Rail.L0 l0 l1 (l0.length : Int) 0) else (some false) := by
  refine Lim.eq (g := fun k => impl_Rail.f k l0 l1) ?_
  unfold impl_Rail.f
  repeat' first
    | with_reducible exact Lim.const _
    | with_reducible exact impl_Rail.L0_lim _ _ _ _
    | with_reducible refine Lim.ite ?_ ?_
    | with_reducible refine Lim.bind ?_ (fun _ => ?_)

noncomputable def slices_Equal_string_string.L0 (x0 : List ByteArray) (x1 : List ByteArray) (x12 : Int) (x13 : Int) : Option (Bool) := lim (fun k => slices_Equal_string_string.l0 k x0 x1 x12 x13)
theorem slices_Equal_string_string.L0_lim (x0 : List ByteArray) (x1 : List ByteArray) (x12 : Int) (x13 : Int) : Lim (fun k => slices_Equal_string_string.l0 k x0 x1 x12 x13) (slices_Equal_string_string.L0 x0 x1 x12 x13) := Lim.of (fun k => (slices_Equal_string_string.mono_l k) x0 x1 x12 x13)
noncomputable def slices_Equal_string_string.F (l0 : List ByteArray) (l1 : List ByteArray) : Option (Bool) := lim (fun k => slices_Equal_string_string.f k l0 l1)
theorem slices_Equal_string_string.F_lim (l0 : List ByteArray) (l1 : List ByteArray) : Lim (fun k => slices_Equal_string_string.f k l0 l1) (slices_Equal_string_string.F l0 l1) := Lim.of (fun k => slices_Equal_string_string.mono l0 l1 k)
theorem slices_Equal_string_string.L0_eq (x0 : List ByteArray) (x1 : List ByteArray) (x12 : Int) (x13 : Int) : slices_Equal_string_string.L0 x0 x1 x12 x13 = if x13 < x12 then (if 0 ≤ x13 then (if x13 < (x0.length : Int) then (if x13 < (x1.length : Int) then (if (rdOf ByteArray.empty x0 x13).toList = (rdOf ByteArray.empty x1 x13).toList then (slices_Equal_string_string.L0 x0 x1 x12 (wrap64 (x13 + 1))) else (some false)) else (none)) else (none)) else (none)) else (some true) := by
  refine Lim.step (f := fun k => if x13 < x12 then (if 0 ≤ x13 then (if x13 < (x0.length : Int) then (if x13 < (x1.length : Int) then (if (rdOf ByteArray.empty x0 x13).toList = (rdOf ByteArray.empty x1 x13).toList then (slices_Equal_string_string.l0 k x0 x1 x12 (wrap64 (x13 + 1))) else (some false)) else (none)) else (none)) else (none)) else (some true)) (fun k => (slices_Equal_string_string.mono_l k) x0 x1 x12 x13) (fun k => by simp only [slices_Equal_string_string.l0]) ?_
  repeat' first
    | with_reducible exact Lim.const _
    | with_reducible exact slices_Equal_string_string.L0_lim _ _ _ _
    | with_reducible refine Lim.ite ?_ ?_
    | with_reducible refine Lim.bind ?_ (fun _ => ?_)
theorem slices_Equal_string_string.F_eq (l0 : List ByteArray) (l1 : List ByteArray) : slices_Equal_string_string.F l0 l1 = if (l0.length : Int) = (l1.length : Int) then (slices_Equal_string_string.L0 l0 l1 (l0.length : Int) 0) else (some false) := by
  refine Lim.eq (g := fun k => slices_Equal_string_string.f k l0 l1) ?_
  unfold slices_Equal_string_string.f
  repeat' first
    | with_reducible exact Lim.const _
    | with_reducible exact slices_Equal_string_string.L0_lim _ _ _ _
    | with_reducible refine Lim.ite ?_ ?_
    | with_reducible refine Lim.bind ?_ (fun _ => ?_)

noncomputable def impl_Belay.L0 (x0 : List (S108)) (x1 : List (S108)) (x12 : Int) (x13 : Int) : Option (Bool) := lim (fun k => impl_Belay.l0 k x0 x1 x12 x13)
theorem impl_Belay.L0_lim (x0 : List (S108)) (x1 : List (S108)) (x12 : Int) (x13 : Int) : Lim (fun k => impl_Belay.l0 k x0 x1 x12 x13) (impl_Belay.L0 x0 x1 x12 x13) := Lim.of (fun k => (impl_Belay.mono_l k) x0 x1 x12 x13)
noncomputable def impl_Belay.F (l0 : List (S108)) (l1 : List (S108)) : Option (Bool) := lim (fun k => impl_Belay.f k l0 l1)
theorem impl_Belay.F_lim (l0 : List (S108)) (l1 : List (S108)) : Lim (fun k => impl_Belay.f k l0 l1) (impl_Belay.F l0 l1) := Lim.of (fun k => impl_Belay.mono l0 l1 k)
theorem impl_Belay.L0_eq (x0 : List (S108)) (x1 : List (S108)) (x12 : Int) (x13 : Int) : impl_Belay.L0 x0 x1 x12 x13 = if x13 < x12 then (if 0 ≤ x13 then (if x13 < (x0.length : Int) then (if x13 < (x1.length : Int) then (if (!((((rd_T108 x0 x13).f0).toList) == (((rd_T108 x1 x13).f0).toList)) || (!((((rd_T108 x0 x13).f1).toList) == (((rd_T108 x1 x13).f1).toList)) || (!(((rd_T108 x0 x13).f2) == ((rd_T108 x1 x13).f2))))) = true then (some false) else (impl_Belay.L0 x0 x1 x12 (wrap64 (x13 + 1)))) else (none)) else (none)) else (none)) else (some true) := by
  refine Lim.step (f := fun k => if x13 < x12 then (if 0 ≤ x13 then (if x13 < (x0.length : Int) then (if x13 < (x1.length : Int) then (if (!((((rd_T108 x0 x13).f0).toList) == (((rd_T108 x1 x13).f0).toList)) || (!((((rd_T108 x0 x13).f1).toList) == (((rd_T108 x1 x13).f1).toList)) || (!(((rd_T108 x0 x13).f2) == ((rd_T108 x1 x13).f2))))) = true then (some false) else (impl_Belay.l0 k x0 x1 x12 (wrap64 (x13 + 1)))) else (none)) else (none)) else (none)) else (some true)) (fun k => (impl_Belay.mono_l k) x0 x1 x12 x13) (fun k => by simp only [impl_Belay.l0]) ?_
  repeat' first
    | with_reducible exact Lim.const _
    | with_reducible exact impl_Belay.L0_lim _ _ _ _
    | with_reducible refine Lim.ite ?_ ?_
    | with_reducible refine Lim.bind ?_ (fun _ => ?_)
theorem impl_Belay.F_eq (l0 : List (S108)) (l1 : List (S108)) : impl_Belay.F l0 l1 = if (l0.length : Int) = (l1.length : Int) then (impl_Belay.L0 l0 l1 (l0.length : Int) 0) else (some false) := by
  refine Lim.eq (g := fun k => impl_Belay.f k l0 l1) ?_
  unfold impl_Belay.f
  repeat' first
    | with_reducible exact Lim.const _
    | with_reducible exact impl_Belay.L0_lim _ _ _ _
    | with_reducible refine Lim.ite ?_ ?_
    | with_reducible refine Lim.bind ?_ (fun _ => ?_)

noncomputable def impl_SameRig.F (l0_0 : List (S106)) (l0_1 : List ByteArray) (l0_2 : List (S108)) (l1_0 : List (S106)) (l1_1 : List ByteArray) (l1_2 : List (S108)) : Option (Bool) := lim (fun k => impl_SameRig.f k l0_0 l0_1 l0_2 l1_0 l1_1 l1_2)
theorem impl_SameRig.F_lim (l0_0 : List (S106)) (l0_1 : List ByteArray) (l0_2 : List (S108)) (l1_0 : List (S106)) (l1_1 : List ByteArray) (l1_2 : List (S108)) : Lim (fun k => impl_SameRig.f k l0_0 l0_1 l0_2 l1_0 l1_1 l1_2) (impl_SameRig.F l0_0 l0_1 l0_2 l1_0 l1_1 l1_2) := Lim.of (fun k => impl_SameRig.mono l0_0 l0_1 l0_2 l1_0 l1_1 l1_2 k)
theorem impl_SameRig.F_eq (l0_0 : List (S106)) (l0_1 : List ByteArray) (l0_2 : List (S108)) (l1_0 : List (S106)) (l1_1 : List ByteArray) (l1_2 : List (S108)) : impl_SameRig.F l0_0 l0_1 l0_2 l1_0 l1_1 l1_2 = (impl_Rail.F l0_0 l1_0).bind fun t167 => (if t167 = true then ((slices_Equal_string_string.F l0_1 l1_1).bind fun t168 => (if t168 = true then ((impl_Belay.F l0_2 l1_2).bind fun t169 => (some t169)) else (some false))) else (some false)) := by
  refine Lim.eq (g := fun k => impl_SameRig.f k l0_0 l0_1 l0_2 l1_0 l1_1 l1_2) ?_
  unfold impl_SameRig.f
  repeat' first
    | with_reducible exact Lim.const _
    | with_reducible exact impl_Belay.F_lim _ _
    | with_reducible exact impl_Rail.F_lim _ _
    | with_reducible exact slices_Equal_string_string.F_lim _ _
    | with_reducible refine Lim.ite ?_ ?_
    | with_reducible refine Lim.bind ?_ (fun _ => ?_)

noncomputable def laws_eqRailS.L0 (x0 : List (S106)) (x1 : List (S106)) (x5 : Int) : Option (Bool) := lim (fun k => laws_eqRailS.l0 k x0 x1 x5)
theorem laws_eqRailS.L0_lim (x0 : List (S106)) (x1 : List (S106)) (x5 : Int) : Lim (fun k => laws_eqRailS.l0 k x0 x1 x5) (laws_eqRailS.L0 x0 x1 x5) := Lim.of (fun k => (laws_eqRailS.mono_l k) x0 x1 x5)
noncomputable def laws_eqRailS.F (l0 : List (S106)) (l1 : List (S106)) : Option (Bool) := lim (fun k => laws_eqRailS.f k l0 l1)
theorem laws_eqRailS.F_lim (l0 : List (S106)) (l1 : List (S106)) : Lim (fun k => laws_eqRailS.f k l0 l1) (laws_eqRailS.F l0 l1) := Lim.of (fun k => laws_eqRailS.mono l0 l1 k)
theorem laws_eqRailS.L0_eq (x0 : List (S106)) (x1 : List (S106)) (x5 : Int) : laws_eqRailS.L0 x0 x1 x5 = if x5 < (x0.length : Int) then (if 0 ≤ x5 then (if x5 < (x1.length : Int) then ((laws_eqRail.f ((rd_T106 x0 x5).f0) ((rd_T106 x0 x5).f1) ((rd_T106 x0 x5).f2) ((rd_T106 x1 x5).f0) ((rd_T106 x1 x5).f1) ((rd_T106 x1 x5).f2)).bind fun t174 => (if t174 = true then (laws_eqRailS.L0 x0 x1 (wrap64 (x5 + 1))) else (some false))) else (none)) else (none)) else (some true) := by
  refine Lim.step (f := fun k => if x5 < (x0.length : Int) then (if 0 ≤ x5 then (if x5 < (x1.length : Int) then ((laws_eqRail.f ((rd_T106 x0 x5).f0) ((rd_T106 x0 x5).f1) ((rd_T106 x0 x5).f2) ((rd_T106 x1 x5).f0) ((rd_T106 x1 x5).f1) ((rd_T106 x1 x5).f2)).bind fun t174 => (if t174 = true then (laws_eqRailS.l0 k x0 x1 (wrap64 (x5 + 1))) else (some false))) else (none)) else (none)) else (some true)) (fun k => (laws_eqRailS.mono_l k) x0 x1 x5) (fun k => by simp only [laws_eqRailS.l0]) ?_
  repeat' first
    | with_reducible exact Lim.const _
    | with_reducible exact laws_eqRailS.L0_lim _ _ _
    | with_reducible refine Lim.ite ?_ ?_
    | with_reducible refine Lim.bind ?_ (fun _ => ?_)
theorem laws_eqRailS.F_eq (l0 : List (S106)) (l1 : List (S106)) : laws_eqRailS.F l0 l1 = if (l0.length : Int) = (l1.length : Int) then (laws_eqRailS.L0 l0 l1 0) else (some false) := by
  refine Lim.eq (g := fun k => laws_eqRailS.f k l0 l1) ?_
  unfold laws_eqRailS.f
  repeat' first
    | with_reducible exact Lim.const _
    | with_reducible exact laws_eqRailS.L0_lim _ _ _
    | with_reducible refine Lim.ite ?_ ?_
    | with_reducible refine Lim.bind ?_ (fun _ => ?_)

noncomputable def laws_eqStringS.L0 (x0 : List ByteArray) (x1 : List ByteArray) (x5 : Int) : Option (Bool) := lim (fun k => laws_eqStringS.l0 k x0 x1 x5)
theorem laws_eqStringS.L0_lim (x0 : List ByteArray) (x1 : List ByteArray) (x5 : Int) : Lim (fun k => laws_eqStringS.l0 k x0 x1 x5) (laws_eqStringS.L0 x0 x1 x5) := Lim.of (fun k => (laws_eqStringS.mono_l k) x0 x1 x5)
noncomputable def laws_eqStringS.F (l0 : List ByteArray) (l1 : List ByteArray) : Option (Bool) := lim (fun k => laws_eqStringS.f k l0 l1)
theorem laws_eqStringS.F_lim (l0 : List ByteArray) (l1 : List ByteArray) : Lim (fun k => laws_eqStringS.f k l0 l1) (laws_eqStringS.F l0 l1) := Lim.of (fun k => laws_eqStringS.mono l0 l1 k)
theorem laws_eqStringS.L0_eq (x0 : List ByteArray) (x1 : List ByteArray) (x5 : Int) : laws_eqStringS.L0 x0 x1 x5 = if x5 < (x0.length : Int) then (if 0 ≤ x5 then (if x5 < (x1.length : Int) then (if (rdOf ByteArray.empty x0 x5).toList = (rdOf ByteArray.empty x1 x5).toList then (laws_eqStringS.L0 x0 x1 (wrap64 (x5 + 1))) else (some false)) else (none)) else (none)) else (some true) := by
  refine Lim.step (f := fun k => if x5 < (x0.length : Int) then (if 0 ≤ x5 then (if x5 < (x1.length : Int) then (if (rdOf ByteArray.empty x0 x5).toList = (rdOf ByteArray.empty x1 x5).toList then (laws_eqStringS.l0 k x0 x1 (wrap64 (x5 + 1))) else (some false)) else (none)) else (none)) else (some true)) (fun k => (laws_eqStringS.mono_l k) x0 x1 x5) (fun k => by simp only [laws_eqStringS.l0]) ?_
  repeat' first
    | with_reducible exact Lim.const _
    | with_reducible exact laws_eqStringS.L0_lim _ _ _
    | with_reducible refine Lim.ite ?_ ?_
    | with_reducible refine Lim.bind ?_ (fun _ => ?_)
theorem laws_eqStringS.F_eq (l0 : List ByteArray) (l1 : List ByteArray) : laws_eqStringS.F l0 l1 = if (l0.length : Int) = (l1.length : Int) then (laws_eqStringS.L0 l0 l1 0) else (some false) := by
  refine Lim.eq (g := fun k => laws_eqStringS.f k l0 l1) ?_
  unfold laws_eqStringS.f
  repeat' first
    | with_reducible exact Lim.const _
    | with_reducible exact laws_eqStringS.L0_lim _ _ _
    | with_reducible refine Lim.ite ?_ ?_
    | with_reducible refine Lim.bind ?_ (fun _ => ?_)

noncomputable def laws_eqBelayS.L0 (x0 : List (S108)) (x1 : List (S108)) (x5 : Int) : Option (Bool) := lim (fun k => laws_eqBelayS.l0 k x0 x1 x5)
theorem laws_eqBelayS.L0_lim (x0 : List (S108)) (x1 : List (S108)) (x5 : Int) : Lim (fun k => laws_eqBelayS.l0 k x0 x1 x5) (laws_eqBelayS.L0 x0 x1 x5) := Lim.of (fun k => (laws_eqBelayS.mono_l k) x0 x1 x5)
noncomputable def laws_eqBelayS.F (l0 : List (S108)) (l1 : List (S108)) : Option (Bool) := lim (fun k => laws_eqBelayS.f k l0 l1)
theorem laws_eqBelayS.F_lim (l0 : List (S108)) (l1 : List (S108)) : Lim (fun k => laws_eqBelayS.f k l0 l1) (laws_eqBelayS.F l0 l1) := Lim.of (fun k => laws_eqBelayS.mono l0 l1 k)
theorem laws_eqBelayS.L0_eq (x0 : List (S108)) (x1 : List (S108)) (x5 : Int) : laws_eqBelayS.L0 x0 x1 x5 = if x5 < (x0.length : Int) then (if 0 ≤ x5 then (if x5 < (x1.length : Int) then ((laws_eqBelay.f ((rd_T108 x0 x5).f0) ((rd_T108 x0 x5).f1) ((rd_T108 x0 x5).f2) ((rd_T108 x1 x5).f0) ((rd_T108 x1 x5).f1) ((rd_T108 x1 x5).f2)).bind fun t181 => (if t181 = true then (laws_eqBelayS.L0 x0 x1 (wrap64 (x5 + 1))) else (some false))) else (none)) else (none)) else (some true) := by
  refine Lim.step (f := fun k => if x5 < (x0.length : Int) then (if 0 ≤ x5 then (if x5 < (x1.length : Int) then ((laws_eqBelay.f ((rd_T108 x0 x5).f0) ((rd_T108 x0 x5).f1) ((rd_T108 x0 x5).f2) ((rd_T108 x1 x5).f0) ((rd_T108 x1 x5).f1) ((rd_T108 x1 x5).f2)).bind fun t181 => (if t181 = true then (laws_eqBelayS.l0 k x0 x1 (wrap64 (x5 + 1))) else (some false))) else (none)) else (none)) else (some true)) (fun k => (laws_eqBelayS.mono_l k) x0 x1 x5) (fun k => by simp only [laws_eqBelayS.l0]) ?_
  repeat' first
    | with_reducible exact Lim.const _
    | with_reducible exact laws_eqBelayS.L0_lim _ _ _
    | with_reducible refine Lim.ite ?_ ?_
    | with_reducible refine Lim.bind ?_ (fun _ => ?_)
theorem laws_eqBelayS.F_eq (l0 : List (S108)) (l1 : List (S108)) : laws_eqBelayS.F l0 l1 = if (l0.length : Int) = (l1.length : Int) then (laws_eqBelayS.L0 l0 l1 0) else (some false) := by
  refine Lim.eq (g := fun k => laws_eqBelayS.f k l0 l1) ?_
  unfold laws_eqBelayS.f
  repeat' first
    | with_reducible exact Lim.const _
    | with_reducible exact laws_eqBelayS.L0_lim _ _ _
    | with_reducible refine Lim.ite ?_ ?_
    | with_reducible refine Lim.bind ?_ (fun _ => ?_)

noncomputable def laws_eqRig.F (l0_0 : List (S106)) (l0_1 : List ByteArray) (l0_2 : List (S108)) (l1_0 : List (S106)) (l1_1 : List ByteArray) (l1_2 : List (S108)) : Option (Bool) := lim (fun k => laws_eqRig.f k l0_0 l0_1 l0_2 l1_0 l1_1 l1_2)
theorem laws_eqRig.F_lim (l0_0 : List (S106)) (l0_1 : List ByteArray) (l0_2 : List (S108)) (l1_0 : List (S106)) (l1_1 : List ByteArray) (l1_2 : List (S108)) : Lim (fun k => laws_eqRig.f k l0_0 l0_1 l0_2 l1_0 l1_1 l1_2) (laws_eqRig.F l0_0 l0_1 l0_2 l1_0 l1_1 l1_2) := Lim.of (fun k => laws_eqRig.mono l0_0 l0_1 l0_2 l1_0 l1_1 l1_2 k)
theorem laws_eqRig.F_eq (l0_0 : List (S106)) (l0_1 : List ByteArray) (l0_2 : List (S108)) (l1_0 : List (S106)) (l1_1 : List ByteArray) (l1_2 : List (S108)) : laws_eqRig.F l0_0 l0_1 l0_2 l1_0 l1_1 l1_2 = (laws_eqRailS.F l0_0 l1_0).bind fun t184 => (if t184 = true then ((laws_eqStringS.F l0_1 l1_1).bind fun t185 => (if t185 = true then ((laws_eqBelayS.F l0_2 l1_2).bind fun t186 => (if t186 = true then (some true) else (some false))) else (some false))) else (some false)) := by
  refine Lim.eq (g := fun k => laws_eqRig.f k l0_0 l0_1 l0_2 l1_0 l1_1 l1_2) ?_
  unfold laws_eqRig.f
  repeat' first
    | with_reducible exact Lim.const _
    | with_reducible exact laws_eqBelayS.F_lim _ _
    | with_reducible exact laws_eqRailS.F_lim _ _
    | with_reducible exact laws_eqStringS.F_lim _ _
    | with_reducible refine Lim.ite ?_ ?_
    | with_reducible refine Lim.bind ?_ (fun _ => ?_)

noncomputable def laws_FnExactSameRig.F (l0_0 : List (S155)) (l0_1 : List ByteArray) (l0_2 : List (S157)) (l1_0 : List (S155)) (l1_1 : List ByteArray) (l1_2 : List (S157)) : Option (Bool) := lim (fun k => laws_FnExactSameRig.f k l0_0 l0_1 l0_2 l1_0 l1_1 l1_2)
theorem laws_FnExactSameRig.F_lim (l0_0 : List (S155)) (l0_1 : List ByteArray) (l0_2 : List (S157)) (l1_0 : List (S155)) (l1_1 : List ByteArray) (l1_2 : List (S157)) : Lim (fun k => laws_FnExactSameRig.f k l0_0 l0_1 l0_2 l1_0 l1_1 l1_2) (laws_FnExactSameRig.F l0_0 l0_1 l0_2 l1_0 l1_1 l1_2) := Lim.of (fun k => laws_FnExactSameRig.mono l0_0 l0_1 l0_2 l1_0 l1_1 l1_2 k)
theorem laws_FnExactSameRig.F_eq (l0_0 : List (S155)) (l0_1 : List ByteArray) (l0_2 : List (S157)) (l1_0 : List (S155)) (l1_1 : List ByteArray) (l1_2 : List (S157)) : laws_FnExactSameRig.F l0_0 l0_1 l0_2 l1_0 l1_1 l1_2 = (laws_szRig.F l0_0 l0_1 l0_2 1048576).bind fun t189 => (if t189 < 0 then (some true) else ((laws_szRig.F l1_0 l1_1 l1_2 t189).bind fun t190 => (if t190 < 0 then (some true) else ((laws_toRig.F l0_0 l0_1 l0_2).bind fun bt191 => ((laws_toRig.F l1_0 l1_1 l1_2).bind fun bt200 => ((spec_SameRig.F bt191.1 bt191.2.1 bt191.2.2 bt200.1 bt200.2.1 bt200.2.2).bind fun t209 => ((laws_toRig.F l0_0 l0_1 l0_2).bind fun bt210 => ((laws_toRig.F l1_0 l1_1 l1_2).bind fun bt220 => ((impl_SameRig.F bt210.1 bt210.2.1 bt210.2.2 bt220.1 bt220.2.1 bt220.2.2).bind fun t230 => (if (t230 != t209) = true then (some false) else ((laws_toRig.F l0_0 l0_1 l0_2).bind fun bt231 => ((laws_eqRig.F bt210.1 bt210.2.1 bt210.2.2 bt231.1 bt231.2.1 bt231.2.2).bind fun t240 => (if t240 = true then ((laws_toRig.F l1_0 l1_1 l1_2).bind fun bt241 => ((laws_eqRig.F bt220.1 bt220.2.1 bt220.2.2 bt241.1 bt241.2.1 bt241.2.2).bind fun t250 => (if t250 = true then (some true) else (some false)))) else (some false)))))))))))))) := by
  refine Lim.eq (g := fun k => laws_FnExactSameRig.f k l0_0 l0_1 l0_2 l1_0 l1_1 l1_2) ?_
  unfold laws_FnExactSameRig.f
  repeat' first
    | with_reducible exact Lim.const _
    | with_reducible exact impl_SameRig.F_lim _ _ _ _ _ _
    | with_reducible exact laws_eqRig.F_lim _ _ _ _ _ _
    | with_reducible exact laws_szRig.F_lim _ _ _ _
    | with_reducible exact laws_toRig.F_lim _ _ _
    | with_reducible exact spec_SameRig.F_lim _ _ _ _ _ _
    | with_reducible refine Lim.ite ?_ ?_
    | with_reducible refine Lim.bind ?_ (fun _ => ?_)

end Go.Proofs.Ytbhijlhlopljmaa.PFnExactSameRig
