/-
  Written by a program of this session (wip/tools/lims.py): the printed functions without their bound on rounds.
-/
import Derived.Test.YtpngklefeaolfaaPFnExactMoveLinex1
import Derived.Test.YtpngklefeaolfaaPFnExactMoveLinex2
import Derived.Test.YtpngklefeaolfaaPFnExactMoveLinex3
import Derived.Test.YtpngklefeaolfaaPFnExactMoveLinex4
import Derived.Test.YtpngklefeaolfaaPFnExactMoveLinex5
import Derived.Test.YtpngklefeaolfaaPFnExactMoveLinex6
import Derived.Test.YtpngklefeaolfaaPFnExactMoveLinex7
import Derived.Test.YtpngklefeaolfaaPFnExactMoveLinex8
import Derived.Test.YtpngklefeaolfaaPFnExactMoveLinex9
import Derived.Test.YtpngklefeaolfaaPFnExactMoveLinex10
import Derived.Test.YtpngklefeaolfaaPFnExactMoveLinex11
import Derived.Test.YtpngklefeaolfaaPFnExactMoveLinex12
import Derived.Test.YtpngklefeaolfaaPFnExactMoveLinex13
import Derived.Test.YtpngklefeaolfaaPFnExactMoveLinex14
import Derived.Test.YtpngklefeaolfaaPFnExactMoveLinex15
import Derived.Test.YtpngklefeaolfaaKit
set_option linter.unusedVariables false
set_option linter.unusedSimpArgs false
namespace Go.Proofs.Ytpngklefeaolfaa.PFnExactMoveLine
open Go.RowKit Go.Proofs.Ytpngklefeaolfaa.Kit Go.Proofs.YtpngklefeaolfaaW.PrintWords Go.Proofs.YtpngklefeaolfaaW.PrintLast Go.Proofs.YtpngklefeaolfaaW.PrintMore

noncomputable def laws_szRailS.L0 (x0 : List (S92)) (x1 x5 : Int) : Option (Int) := lim (fun k => laws_szRailS.l0 k x0 x1 x5)
theorem laws_szRailS.L0_lim (x0 : List (S92)) (x1 x5 : Int) : Lim (fun k => laws_szRailS.l0 k x0 x1 x5) (laws_szRailS.L0 x0 x1 x5) := Lim.of (fun k => (laws_szRailS.mono_l k) x0 x1 x5)
noncomputable def laws_szRailS.F (l0 : List (S92)) (a1 : Int) : Option (Int) := lim (fun k => laws_szRailS.f k l0 a1)
theorem laws_szRailS.F_lim (l0 : List (S92)) (a1 : Int) : Lim (fun k => laws_szRailS.f k l0 a1) (laws_szRailS.F l0 a1) := Lim.of (fun k => laws_szRailS.mono l0 a1 k)
theorem laws_szRailS.L0_eq (x0 : List (S92)) (x1 x5 : Int) : laws_szRailS.L0 x0 x1 x5 = if x5 < (x0.length : Int) then (if 0 ≤ x5 then ((laws_szRail.f ((rd_T92 x0 x5).f0) ((rd_T92 x0 x5).f1) ((rd_T92 x0 x5).f2) x1).bind fun t103 => (if t103 < 0 then (some (-1)) else (laws_szRailS.L0 x0 t103 (wrap64 (x5 + 1))))) else (none)) else (some x1) := by
  refine Lim.next (fun k => (laws_szRailS.mono_l k) x0 x1 x5) ?_
  simp only [laws_szRailS.l0]
  repeat' with_reducible first | exact Lim.const _ | exact laws_szRailS.L0_lim _ _ _ | refine Lim.ite ?_ ?_ | refine Lim.bind ?_ (fun _ => ?_)
theorem laws_szRailS.F_eq (l0 : List (S92)) (a1 : Int) : laws_szRailS.F l0 a1 = if (wrap64 (a1 - (l0.length : Int))) < 0 then (some (-1)) else (laws_szRailS.L0 l0 (wrap64 (a1 - (l0.length : Int))) 0) := by
  refine Lim.eq (g := fun k => laws_szRailS.f k l0 a1) ?_
  unfold laws_szRailS.f
  repeat' with_reducible first | exact Lim.const _ | exact laws_szRailS.L0_lim _ _ _ | refine Lim.ite ?_ ?_ | refine Lim.bind ?_ (fun _ => ?_)

noncomputable def laws_szStringS.L0 (x0 : List ByteArray) (x1 x5 : Int) : Option (Int) := lim (fun k => laws_szStringS.l0 k x0 x1 x5)
theorem laws_szStringS.L0_lim (x0 : List ByteArray) (x1 x5 : Int) : Lim (fun k => laws_szStringS.l0 k x0 x1 x5) (laws_szStringS.L0 x0 x1 x5) := Lim.of (fun k => (laws_szStringS.mono_l k) x0 x1 x5)
noncomputable def laws_szStringS.F (l0 : List ByteArray) (a1 : Int) : Option (Int) := lim (fun k => laws_szStringS.f k l0 a1)
theorem laws_szStringS.F_lim (l0 : List ByteArray) (a1 : Int) : Lim (fun k => laws_szStringS.f k l0 a1) (laws_szStringS.F l0 a1) := Lim.of (fun k => laws_szStringS.mono l0 a1 k)
theorem laws_szStringS.L0_eq (x0 : List ByteArray) (x1 x5 : Int) : laws_szStringS.L0 x0 x1 x5 = if x5 < (x0.length : Int) then (if 0 ≤ x5 then (if (wrap64 (x1 - ((rdOf ByteArray.empty x0 x5).size : Int))) < 0 then (some (-1)) else (laws_szStringS.L0 x0 (wrap64 (x1 - ((rdOf ByteArray.empty x0 x5).size : Int))) (wrap64 (x5 + 1)))) else (none)) else (some x1) := by
  refine Lim.next (fun k => (laws_szStringS.mono_l k) x0 x1 x5) ?_
  simp only [laws_szStringS.l0]
  repeat' with_reducible first | exact Lim.const _ | exact laws_szStringS.L0_lim _ _ _ | refine Lim.ite ?_ ?_ | refine Lim.bind ?_ (fun _ => ?_)
theorem laws_szStringS.F_eq (l0 : List ByteArray) (a1 : Int) : laws_szStringS.F l0 a1 = if (wrap64 (a1 - (l0.length : Int))) < 0 then (some (-1)) else (laws_szStringS.L0 l0 (wrap64 (a1 - (l0.length : Int))) 0) := by
  refine Lim.eq (g := fun k => laws_szStringS.f k l0 a1) ?_
  unfold laws_szStringS.f
  repeat' with_reducible first | exact Lim.const _ | exact laws_szStringS.L0_lim _ _ _ | refine Lim.ite ?_ ?_ | refine Lim.bind ?_ (fun _ => ?_)

noncomputable def laws_szBelayS.L0 (x0 : List (S55)) (x1 x5 : Int) : Option (Int) := lim (fun k => laws_szBelayS.l0 k x0 x1 x5)
theorem laws_szBelayS.L0_lim (x0 : List (S55)) (x1 x5 : Int) : Lim (fun k => laws_szBelayS.l0 k x0 x1 x5) (laws_szBelayS.L0 x0 x1 x5) := Lim.of (fun k => (laws_szBelayS.mono_l k) x0 x1 x5)
noncomputable def laws_szBelayS.F (l0 : List (S55)) (a1 : Int) : Option (Int) := lim (fun k => laws_szBelayS.f k l0 a1)
theorem laws_szBelayS.F_lim (l0 : List (S55)) (a1 : Int) : Lim (fun k => laws_szBelayS.f k l0 a1) (laws_szBelayS.F l0 a1) := Lim.of (fun k => laws_szBelayS.mono l0 a1 k)
theorem laws_szBelayS.L0_eq (x0 : List (S55)) (x1 x5 : Int) : laws_szBelayS.L0 x0 x1 x5 = if x5 < (x0.length : Int) then (if 0 ≤ x5 then ((laws_szBelay.f ((rd_T55 x0 x5).f0) ((rd_T55 x0 x5).f1) ((rd_T55 x0 x5).f2) x1).bind fun t107 => (if t107 < 0 then (some (-1)) else (laws_szBelayS.L0 x0 t107 (wrap64 (x5 + 1))))) else (none)) else (some x1) := by
  refine Lim.next (fun k => (laws_szBelayS.mono_l k) x0 x1 x5) ?_
  simp only [laws_szBelayS.l0]
  repeat' with_reducible first | exact Lim.const _ | exact laws_szBelayS.L0_lim _ _ _ | refine Lim.ite ?_ ?_ | refine Lim.bind ?_ (fun _ => ?_)
theorem laws_szBelayS.F_eq (l0 : List (S55)) (a1 : Int) : laws_szBelayS.F l0 a1 = if (wrap64 (a1 - (l0.length : Int))) < 0 then (some (-1)) else (laws_szBelayS.L0 l0 (wrap64 (a1 - (l0.length : Int))) 0) := by
  refine Lim.eq (g := fun k => laws_szBelayS.f k l0 a1) ?_
  unfold laws_szBelayS.f
  repeat' with_reducible first | exact Lim.const _ | exact laws_szBelayS.L0_lim _ _ _ | refine Lim.ite ?_ ?_ | refine Lim.bind ?_ (fun _ => ?_)

noncomputable def laws_szRig.F (l0_0 : List (S92)) (l0_1 : List ByteArray) (l0_2 : List (S55)) (a1 : Int) : Option (Int) := lim (fun k => laws_szRig.f k l0_0 l0_1 l0_2 a1)
theorem laws_szRig.F_lim (l0_0 : List (S92)) (l0_1 : List ByteArray) (l0_2 : List (S55)) (a1 : Int) : Lim (fun k => laws_szRig.f k l0_0 l0_1 l0_2 a1) (laws_szRig.F l0_0 l0_1 l0_2 a1) := Lim.of (fun k => laws_szRig.mono l0_0 l0_1 l0_2 a1 k)
theorem laws_szRig.F_eq (l0_0 : List (S92)) (l0_1 : List ByteArray) (l0_2 : List (S55)) (a1 : Int) : laws_szRig.F l0_0 l0_1 l0_2 a1 = (laws_szRailS.F l0_0 a1).bind fun t109 => (if t109 < 0 then (some (-1)) else ((laws_szStringS.F l0_1 t109).bind fun t110 => (if t110 < 0 then (some (-1)) else ((laws_szBelayS.F l0_2 t110).bind fun t111 => (if t111 < 0 then (some (-1)) else (some t111)))))) := by
  refine Lim.eq (g := fun k => laws_szRig.f k l0_0 l0_1 l0_2 a1) ?_
  unfold laws_szRig.f
  repeat' with_reducible first | exact Lim.const _ | exact laws_szBelayS.F_lim _ _ | exact laws_szRailS.F_lim _ _ | exact laws_szStringS.F_lim _ _ | refine Lim.ite ?_ ?_ | refine Lim.bind ?_ (fun _ => ?_)

noncomputable def laws_toRailS.L0 (x0 : List (S92)) (x3 : List (S69)) (x4 : Int) : Option ((List (S69))) := lim (fun k => laws_toRailS.l0 k x0 x3 x4)
theorem laws_toRailS.L0_lim (x0 : List (S92)) (x3 : List (S69)) (x4 : Int) : Lim (fun k => laws_toRailS.l0 k x0 x3 x4) (laws_toRailS.L0 x0 x3 x4) := Lim.of (fun k => (laws_toRailS.mono_l k) x0 x3 x4)
noncomputable def laws_toRailS.F (l0 : List (S92)) : Option ((List (S69))) := lim (fun k => laws_toRailS.f k l0)
theorem laws_toRailS.F_lim (l0 : List (S92)) : Lim (fun k => laws_toRailS.f k l0) (laws_toRailS.F l0) := Lim.of (fun k => laws_toRailS.mono l0 k)
theorem laws_toRailS.L0_eq (x0 : List (S92)) (x3 : List (S69)) (x4 : Int) : laws_toRailS.L0 x0 x3 x4 = if x4 < (x0.length : Int) then (if 0 ≤ x4 then ((laws_toRail.f ((rd_T92 x0 x4).f0) ((rd_T92 x0 x4).f1) ((rd_T92 x0 x4).f2)).bind fun bt119 => (if x4 < (x3.length : Int) then (laws_toRailS.L0 x0 (x3.set (x4 : Int).toNat (⟨bt119.1, bt119.2.1, bt119.2.2⟩ : S69)) (wrap64 (x4 + 1))) else (none))) else (none)) else (some x3) := by
  refine Lim.next (fun k => (laws_toRailS.mono_l k) x0 x3 x4) ?_
  simp only [laws_toRailS.l0]
  repeat' with_reducible first | exact Lim.const _ | exact laws_toRailS.L0_lim _ _ _ | refine Lim.ite ?_ ?_ | refine Lim.bind ?_ (fun _ => ?_)
theorem laws_toRailS.F_eq (l0 : List (S92)) : laws_toRailS.F l0 = if 0 ≤ (l0.length : Int) then (if ((l0.length : Int) : Int).toNat ≤ 7036874417766 then (laws_toRailS.L0 l0 (List.replicate ((l0.length : Int) : Int).toNat z69) 0) else (none)) else (none) := by
  refine Lim.eq (g := fun k => laws_toRailS.f k l0) ?_
  unfold laws_toRailS.f
  repeat' with_reducible first | exact Lim.const _ | exact laws_toRailS.L0_lim _ _ _ | refine Lim.ite ?_ ?_ | refine Lim.bind ?_ (fun _ => ?_)

noncomputable def laws_toStringS.L0 (x0 x3 : List ByteArray) (x4 : Int) : Option (List ByteArray) := lim (fun k => laws_toStringS.l0 k x0 x3 x4)
theorem laws_toStringS.L0_lim (x0 x3 : List ByteArray) (x4 : Int) : Lim (fun k => laws_toStringS.l0 k x0 x3 x4) (laws_toStringS.L0 x0 x3 x4) := Lim.of (fun k => (laws_toStringS.mono_l k) x0 x3 x4)
noncomputable def laws_toStringS.F (l0 : List ByteArray) : Option (List ByteArray) := lim (fun k => laws_toStringS.f k l0)
theorem laws_toStringS.F_lim (l0 : List ByteArray) : Lim (fun k => laws_toStringS.f k l0) (laws_toStringS.F l0) := Lim.of (fun k => laws_toStringS.mono l0 k)
theorem laws_toStringS.L0_eq (x0 x3 : List ByteArray) (x4 : Int) : laws_toStringS.L0 x0 x3 x4 = if x4 < (x0.length : Int) then (if 0 ≤ x4 then (if x4 < (x3.length : Int) then (laws_toStringS.L0 x0 (x3.set (x4 : Int).toNat (rdOf ByteArray.empty x0 x4)) (wrap64 (x4 + 1))) else (none)) else (none)) else (some x3) := by
  refine Lim.next (fun k => (laws_toStringS.mono_l k) x0 x3 x4) ?_
  simp only [laws_toStringS.l0]
  repeat' with_reducible first | exact Lim.const _ | exact laws_toStringS.L0_lim _ _ _ | refine Lim.ite ?_ ?_ | refine Lim.bind ?_ (fun _ => ?_)
theorem laws_toStringS.F_eq (l0 : List ByteArray) : laws_toStringS.F l0 = if 0 ≤ (l0.length : Int) then (if ((l0.length : Int) : Int).toNat ≤ 17592186044416 then (laws_toStringS.L0 l0 (List.replicate ((l0.length : Int) : Int).toNat (⟨#[]⟩ : ByteArray)) 0) else (none)) else (none) := by
  refine Lim.eq (g := fun k => laws_toStringS.f k l0) ?_
  unfold laws_toStringS.f
  repeat' with_reducible first | exact Lim.const _ | exact laws_toStringS.L0_lim _ _ _ | refine Lim.ite ?_ ?_ | refine Lim.bind ?_ (fun _ => ?_)

noncomputable def laws_toBelayS.L0 (x0 : List (S55)) (x3 : List (S40)) (x4 : Int) : Option ((List (S40))) := lim (fun k => laws_toBelayS.l0 k x0 x3 x4)
theorem laws_toBelayS.L0_lim (x0 : List (S55)) (x3 : List (S40)) (x4 : Int) : Lim (fun k => laws_toBelayS.l0 k x0 x3 x4) (laws_toBelayS.L0 x0 x3 x4) := Lim.of (fun k => (laws_toBelayS.mono_l k) x0 x3 x4)
noncomputable def laws_toBelayS.F (l0 : List (S55)) : Option ((List (S40))) := lim (fun k => laws_toBelayS.f k l0)
theorem laws_toBelayS.F_lim (l0 : List (S55)) : Lim (fun k => laws_toBelayS.f k l0) (laws_toBelayS.F l0) := Lim.of (fun k => laws_toBelayS.mono l0 k)
theorem laws_toBelayS.L0_eq (x0 : List (S55)) (x3 : List (S40)) (x4 : Int) : laws_toBelayS.L0 x0 x3 x4 = if x4 < (x0.length : Int) then (if 0 ≤ x4 then ((laws_toBelay.f ((rd_T55 x0 x4).f0) ((rd_T55 x0 x4).f1) ((rd_T55 x0 x4).f2)).bind fun bt135 => (if x4 < (x3.length : Int) then (laws_toBelayS.L0 x0 (x3.set (x4 : Int).toNat (⟨bt135.1, bt135.2.1, bt135.2.2⟩ : S40)) (wrap64 (x4 + 1))) else (none))) else (none)) else (some x3) := by
  refine Lim.next (fun k => (laws_toBelayS.mono_l k) x0 x3 x4) ?_
  simp only [laws_toBelayS.l0]
  repeat' with_reducible first | exact Lim.const _ | exact laws_toBelayS.L0_lim _ _ _ | refine Lim.ite ?_ ?_ | refine Lim.bind ?_ (fun _ => ?_)
theorem laws_toBelayS.F_eq (l0 : List (S55)) : laws_toBelayS.F l0 = if 0 ≤ (l0.length : Int) then (if ((l0.length : Int) : Int).toNat ≤ 7036874417766 then (laws_toBelayS.L0 l0 (List.replicate ((l0.length : Int) : Int).toNat z40) 0) else (none)) else (none) := by
  refine Lim.eq (g := fun k => laws_toBelayS.f k l0) ?_
  unfold laws_toBelayS.f
  repeat' with_reducible first | exact Lim.const _ | exact laws_toBelayS.L0_lim _ _ _ | refine Lim.ite ?_ ?_ | refine Lim.bind ?_ (fun _ => ?_)

noncomputable def laws_toRig.F (l0_0 : List (S92)) (l0_1 : List ByteArray) (l0_2 : List (S55)) : Option ((List (S69)) × List ByteArray × (List (S40))) := lim (fun k => laws_toRig.f k l0_0 l0_1 l0_2)
theorem laws_toRig.F_lim (l0_0 : List (S92)) (l0_1 : List ByteArray) (l0_2 : List (S55)) : Lim (fun k => laws_toRig.f k l0_0 l0_1 l0_2) (laws_toRig.F l0_0 l0_1 l0_2) := Lim.of (fun k => laws_toRig.mono l0_0 l0_1 l0_2 k)
theorem laws_toRig.F_eq (l0_0 : List (S92)) (l0_1 : List ByteArray) (l0_2 : List (S55)) : laws_toRig.F l0_0 l0_1 l0_2 = (laws_toRailS.F l0_0).bind fun t142 => ((laws_toStringS.F l0_1).bind fun t145 => ((laws_toBelayS.F l0_2).bind fun t148 => (some (t142, t145, t148)))) := by
  refine Lim.eq (g := fun k => laws_toRig.f k l0_0 l0_1 l0_2) ?_
  unfold laws_toRig.f
  repeat' with_reducible first | exact Lim.const _ | exact laws_toBelayS.F_lim _ | exact laws_toRailS.F_lim _ | exact laws_toStringS.F_lim _ | refine Lim.ite ?_ ?_ | refine Lim.bind ?_ (fun _ => ?_)

noncomputable def laws_eqStringS.L0 (x0 x1 : List ByteArray) (x5 : Int) : Option (Bool) := lim (fun k => laws_eqStringS.l0 k x0 x1 x5)
theorem laws_eqStringS.L0_lim (x0 x1 : List ByteArray) (x5 : Int) : Lim (fun k => laws_eqStringS.l0 k x0 x1 x5) (laws_eqStringS.L0 x0 x1 x5) := Lim.of (fun k => (laws_eqStringS.mono_l k) x0 x1 x5)
noncomputable def laws_eqStringS.F (l0 l1 : List ByteArray) : Option (Bool) := lim (fun k => laws_eqStringS.f k l0 l1)
theorem laws_eqStringS.F_lim (l0 l1 : List ByteArray) : Lim (fun k => laws_eqStringS.f k l0 l1) (laws_eqStringS.F l0 l1) := Lim.of (fun k => laws_eqStringS.mono l0 l1 k)
theorem laws_eqStringS.L0_eq (x0 x1 : List ByteArray) (x5 : Int) : laws_eqStringS.L0 x0 x1 x5 = if x5 < (x0.length : Int) then (if 0 ≤ x5 then (if x5 < (x1.length : Int) then (if (rdOf ByteArray.empty x0 x5).toList = (rdOf ByteArray.empty x1 x5).toList then (laws_eqStringS.L0 x0 x1 (wrap64 (x5 + 1))) else (some false)) else (none)) else (none)) else (some true) := by
  refine Lim.next (fun k => (laws_eqStringS.mono_l k) x0 x1 x5) ?_
  simp only [laws_eqStringS.l0]
  repeat' with_reducible first | exact Lim.const _ | exact laws_eqStringS.L0_lim _ _ _ | refine Lim.ite ?_ ?_ | refine Lim.bind ?_ (fun _ => ?_)
theorem laws_eqStringS.F_eq (l0 l1 : List ByteArray) : laws_eqStringS.F l0 l1 = if (l0.length : Int) = (l1.length : Int) then (laws_eqStringS.L0 l0 l1 0) else (some false) := by
  refine Lim.eq (g := fun k => laws_eqStringS.f k l0 l1) ?_
  unfold laws_eqStringS.f
  repeat' with_reducible first | exact Lim.const _ | exact laws_eqStringS.L0_lim _ _ _ | refine Lim.ite ?_ ?_ | refine Lim.bind ?_ (fun _ => ?_)

noncomputable def laws_eqRailS.L0 (x0 x1 : List (S69)) (x5 : Int) : Option (Bool) := lim (fun k => laws_eqRailS.l0 k x0 x1 x5)
theorem laws_eqRailS.L0_lim (x0 x1 : List (S69)) (x5 : Int) : Lim (fun k => laws_eqRailS.l0 k x0 x1 x5) (laws_eqRailS.L0 x0 x1 x5) := Lim.of (fun k => (laws_eqRailS.mono_l k) x0 x1 x5)
noncomputable def laws_eqRailS.F (l0 l1 : List (S69)) : Option (Bool) := lim (fun k => laws_eqRailS.f k l0 l1)
theorem laws_eqRailS.F_lim (l0 l1 : List (S69)) : Lim (fun k => laws_eqRailS.f k l0 l1) (laws_eqRailS.F l0 l1) := Lim.of (fun k => laws_eqRailS.mono l0 l1 k)
theorem laws_eqRailS.L0_eq (x0 x1 : List (S69)) (x5 : Int) : laws_eqRailS.L0 x0 x1 x5 = if x5 < (x0.length : Int) then (if 0 ≤ x5 then (if x5 < (x1.length : Int) then ((laws_eqRail.f ((rd_T69 x0 x5).f0) ((rd_T69 x0 x5).f1) ((rd_T69 x0 x5).f2) ((rd_T69 x1 x5).f0) ((rd_T69 x1 x5).f1) ((rd_T69 x1 x5).f2)).bind fun t157 => (if t157 = true then (laws_eqRailS.L0 x0 x1 (wrap64 (x5 + 1))) else (some false))) else (none)) else (none)) else (some true) := by
  refine Lim.next (fun k => (laws_eqRailS.mono_l k) x0 x1 x5) ?_
  simp only [laws_eqRailS.l0]
  repeat' with_reducible first | exact Lim.const _ | exact laws_eqRailS.L0_lim _ _ _ | refine Lim.ite ?_ ?_ | refine Lim.bind ?_ (fun _ => ?_)
theorem laws_eqRailS.F_eq (l0 l1 : List (S69)) : laws_eqRailS.F l0 l1 = if (l0.length : Int) = (l1.length : Int) then (laws_eqRailS.L0 l0 l1 0) else (some false) := by
  refine Lim.eq (g := fun k => laws_eqRailS.f k l0 l1) ?_
  unfold laws_eqRailS.f
  repeat' with_reducible first | exact Lim.const _ | exact laws_eqRailS.L0_lim _ _ _ | refine Lim.ite ?_ ?_ | refine Lim.bind ?_ (fun _ => ?_)

noncomputable def laws_eqBelayS.L0 (x0 x1 : List (S40)) (x5 : Int) : Option (Bool) := lim (fun k => laws_eqBelayS.l0 k x0 x1 x5)
theorem laws_eqBelayS.L0_lim (x0 x1 : List (S40)) (x5 : Int) : Lim (fun k => laws_eqBelayS.l0 k x0 x1 x5) (laws_eqBelayS.L0 x0 x1 x5) := Lim.of (fun k => (laws_eqBelayS.mono_l k) x0 x1 x5)
noncomputable def laws_eqBelayS.F (l0 l1 : List (S40)) : Option (Bool) := lim (fun k => laws_eqBelayS.f k l0 l1)
theorem laws_eqBelayS.F_lim (l0 l1 : List (S40)) : Lim (fun k => laws_eqBelayS.f k l0 l1) (laws_eqBelayS.F l0 l1) := Lim.of (fun k => laws_eqBelayS.mono l0 l1 k)
theorem laws_eqBelayS.L0_eq (x0 x1 : List (S40)) (x5 : Int) : laws_eqBelayS.L0 x0 x1 x5 = if x5 < (x0.length : Int) then (if 0 ≤ x5 then (if x5 < (x1.length : Int) then ((laws_eqBelay.f ((rd_T40 x0 x5).f0) ((rd_T40 x0 x5).f1) ((rd_T40 x0 x5).f2) ((rd_T40 x1 x5).f0) ((rd_T40 x1 x5).f1) ((rd_T40 x1 x5).f2)).bind fun t162 => (if t162 = true then (laws_eqBelayS.L0 x0 x1 (wrap64 (x5 + 1))) else (some false))) else (none)) else (none)) else (some true) := by
  refine Lim.next (fun k => (laws_eqBelayS.mono_l k) x0 x1 x5) ?_
  simp only [laws_eqBelayS.l0]
  repeat' with_reducible first | exact Lim.const _ | exact laws_eqBelayS.L0_lim _ _ _ | refine Lim.ite ?_ ?_ | refine Lim.bind ?_ (fun _ => ?_)
theorem laws_eqBelayS.F_eq (l0 l1 : List (S40)) : laws_eqBelayS.F l0 l1 = if (l0.length : Int) = (l1.length : Int) then (laws_eqBelayS.L0 l0 l1 0) else (some false) := by
  refine Lim.eq (g := fun k => laws_eqBelayS.f k l0 l1) ?_
  unfold laws_eqBelayS.f
  repeat' with_reducible first | exact Lim.const _ | exact laws_eqBelayS.L0_lim _ _ _ | refine Lim.ite ?_ ?_ | refine Lim.bind ?_ (fun _ => ?_)

noncomputable def laws_eqRig.F (l0_0 : List (S69)) (l0_1 : List ByteArray) (l0_2 : List (S40)) (l1_0 : List (S69)) (l1_1 : List ByteArray) (l1_2 : List (S40)) : Option (Bool) := lim (fun k => laws_eqRig.f k l0_0 l0_1 l0_2 l1_0 l1_1 l1_2)
theorem laws_eqRig.F_lim (l0_0 : List (S69)) (l0_1 : List ByteArray) (l0_2 : List (S40)) (l1_0 : List (S69)) (l1_1 : List ByteArray) (l1_2 : List (S40)) : Lim (fun k => laws_eqRig.f k l0_0 l0_1 l0_2 l1_0 l1_1 l1_2) (laws_eqRig.F l0_0 l0_1 l0_2 l1_0 l1_1 l1_2) := Lim.of (fun k => laws_eqRig.mono l0_0 l0_1 l0_2 l1_0 l1_1 l1_2 k)
theorem laws_eqRig.F_eq (l0_0 : List (S69)) (l0_1 : List ByteArray) (l0_2 : List (S40)) (l1_0 : List (S69)) (l1_1 : List ByteArray) (l1_2 : List (S40)) : laws_eqRig.F l0_0 l0_1 l0_2 l1_0 l1_1 l1_2 = (laws_eqRailS.F l0_0 l1_0).bind fun t165 => (if t165 = true then ((laws_eqStringS.F l0_1 l1_1).bind fun t166 => (if t166 = true then ((laws_eqBelayS.F l0_2 l1_2).bind fun t167 => (if t167 = true then (some true) else (some false))) else (some false))) else (some false)) := by
  refine Lim.eq (g := fun k => laws_eqRig.f k l0_0 l0_1 l0_2 l1_0 l1_1 l1_2) ?_
  unfold laws_eqRig.f
  repeat' with_reducible first | exact Lim.const _ | exact laws_eqBelayS.F_lim _ _ | exact laws_eqRailS.F_lim _ _ | exact laws_eqStringS.F_lim _ _ | refine Lim.ite ?_ ?_ | refine Lim.bind ?_ (fun _ => ?_)

noncomputable def laws_markText.L0 (x0 : Int) (x3 : ByteArray) : Option (ByteArray) := lim (fun k => laws_markText.l0 k x0 x3)
theorem laws_markText.L0_lim (x0 : Int) (x3 : ByteArray) : Lim (fun k => laws_markText.l0 k x0 x3) (laws_markText.L0 x0 x3) := Lim.of (fun k => (laws_markText.mono_l k) x0 x3)
noncomputable def laws_markText.F (a0 : Int) : Option (ByteArray) := lim (fun k => laws_markText.f k a0)
theorem laws_markText.F_lim (a0 : Int) : Lim (fun k => laws_markText.f k a0) (laws_markText.F a0) := Lim.of (fun k => laws_markText.mono a0 k)
theorem laws_markText.L0_eq (x0 : Int) (x3 : ByteArray) : laws_markText.L0 x0 x3 = if x0 > 0 then ((some (([(wrap64 (48 + (Int.tmod x0 10))) % 256] : List Int) : List Int)).bind fun y168 => (if (strOfNums y168).size + x3.size ≤ 9223372036854775807 then (laws_markText.L0 (wrap64 (Int.tdiv x0 10)) ((strOfNums y168) ++ x3)) else (none))) else (if 1 + x3.size ≤ 9223372036854775807 then (some ((⟨#[109]⟩ : ByteArray) ++ x3)) else (none)) := by
  refine Lim.next (fun k => (laws_markText.mono_l k) x0 x3) ?_
  simp only [laws_markText.l0]
  repeat' with_reducible first | exact Lim.const _ | exact laws_markText.L0_lim _ _ | refine Lim.ite ?_ ?_ | refine Lim.bind ?_ (fun _ => ?_)
theorem laws_markText.F_eq (a0 : Int) : laws_markText.F a0 = if a0 ≤ 0 then (some (⟨#[109, 48]⟩ : ByteArray)) else (laws_markText.L0 a0 (⟨#[]⟩ : ByteArray)) := by
  refine Lim.eq (g := fun k => laws_markText.f k a0) ?_
  unfold laws_markText.f
  repeat' with_reducible first | exact Lim.const _ | exact laws_markText.L0_lim _ _ | refine Lim.ite ?_ ?_ | refine Lim.bind ?_ (fun _ => ?_)

noncomputable def laws_markStringS.L0 (x0 : List ByteArray) (x1 x5 : Int) : Option (Int × List ByteArray) := lim (fun k => laws_markStringS.l0 k x0 x1 x5)
theorem laws_markStringS.L0_lim (x0 : List ByteArray) (x1 x5 : Int) : Lim (fun k => laws_markStringS.l0 k x0 x1 x5) (laws_markStringS.L0 x0 x1 x5) := Lim.of (fun k => (laws_markStringS.mono_l k) x0 x1 x5)
noncomputable def laws_markStringS.F (l0 : List ByteArray) (a1 : Int) : Option (Int × List ByteArray) := lim (fun k => laws_markStringS.f k l0 a1)
theorem laws_markStringS.F_lim (l0 : List ByteArray) (a1 : Int) : Lim (fun k => laws_markStringS.f k l0 a1) (laws_markStringS.F l0 a1) := Lim.of (fun k => laws_markStringS.mono l0 a1 k)
theorem laws_markStringS.L0_eq (x0 : List ByteArray) (x1 x5 : Int) : laws_markStringS.L0 x0 x1 x5 = if x5 < (x0.length : Int) then ((laws_markText.F x1).bind fun t171 => (if 0 ≤ x5 then (laws_markStringS.L0 (x0.set (x5 : Int).toNat t171) (wrap64 (x1 + 1)) (wrap64 (x5 + 1))) else (none))) else (some (x1, x0)) := by
  refine Lim.next (fun k => (laws_markStringS.mono_l k) x0 x1 x5) ?_
  simp only [laws_markStringS.l0]
  repeat' with_reducible first | exact Lim.const _ | exact laws_markStringS.L0_lim _ _ _ | exact laws_markText.F_lim _ | refine Lim.ite ?_ ?_ | refine Lim.bind ?_ (fun _ => ?_)
theorem laws_markStringS.F_eq (l0 : List ByteArray) (a1 : Int) : laws_markStringS.F l0 a1 = laws_markStringS.L0 l0 a1 0 := by
  refine Lim.eq (g := fun k => laws_markStringS.f k l0 a1) ?_
  unfold laws_markStringS.f
  repeat' with_reducible first | exact Lim.const _ | exact laws_markStringS.L0_lim _ _ _ | refine Lim.ite ?_ ?_ | refine Lim.bind ?_ (fun _ => ?_)

noncomputable def laws_markRailS.L0 (x0 : List (S69)) (x1 x5 : Int) : Option (Int × (List (S69))) := lim (fun k => laws_markRailS.l0 k x0 x1 x5)
theorem laws_markRailS.L0_lim (x0 : List (S69)) (x1 x5 : Int) : Lim (fun k => laws_markRailS.l0 k x0 x1 x5) (laws_markRailS.L0 x0 x1 x5) := Lim.of (fun k => (laws_markRailS.mono_l k) x0 x1 x5)
noncomputable def laws_markRailS.F (l0 : List (S69)) (a1 : Int) : Option (Int × (List (S69))) := lim (fun k => laws_markRailS.f k l0 a1)
theorem laws_markRailS.F_lim (l0 : List (S69)) (a1 : Int) : Lim (fun k => laws_markRailS.f k l0 a1) (laws_markRailS.F l0 a1) := Lim.of (fun k => laws_markRailS.mono l0 a1 k)
theorem laws_markRailS.L0_eq (x0 : List (S69)) (x1 x5 : Int) : laws_markRailS.L0 x0 x1 x5 = if x5 < (x0.length : Int) then ((laws_markText.F x1).bind fun t173 => (if 0 ≤ x5 then ((some (x0.set (x5 : Int).toNat (⟨t173, (rd_T69 x0 x5).f1, (rd_T69 x0 x5).f2⟩ : S69) : List (S69))).bind fun y174 => ((laws_markText.F (wrap64 (x1 + 1))).bind fun t175 => ((some (y174.set (x5 : Int).toNat (⟨(rd_T69 y174 x5).f0, t175, (rd_T69 y174 x5).f2⟩ : S69) : List (S69))).bind fun y176 => (laws_markRailS.L0 (y176.set (x5 : Int).toNat (⟨(rd_T69 y176 x5).f0, (rd_T69 y176 x5).f1, wrap64 ((wrap64 (x1 + 1)) + 1)⟩ : S69)) (wrap64 ((wrap64 ((wrap64 (x1 + 1)) + 1)) + 1)) (wrap64 (x5 + 1)))))) else (none))) else (some (x1, x0)) := by
  refine Lim.next (fun k => (laws_markRailS.mono_l k) x0 x1 x5) ?_
  simp only [laws_markRailS.l0]
  repeat' with_reducible first | exact Lim.const _ | exact laws_markRailS.L0_lim _ _ _ | exact laws_markText.F_lim _ | refine Lim.ite ?_ ?_ | refine Lim.bind ?_ (fun _ => ?_)
theorem laws_markRailS.F_eq (l0 : List (S69)) (a1 : Int) : laws_markRailS.F l0 a1 = laws_markRailS.L0 l0 a1 0 := by
  refine Lim.eq (g := fun k => laws_markRailS.f k l0 a1) ?_
  unfold laws_markRailS.f
  repeat' with_reducible first | exact Lim.const _ | exact laws_markRailS.L0_lim _ _ _ | refine Lim.ite ?_ ?_ | refine Lim.bind ?_ (fun _ => ?_)

noncomputable def laws_markBelayS.L0 (x0 : List (S40)) (x1 x5 : Int) : Option (Int × (List (S40))) := lim (fun k => laws_markBelayS.l0 k x0 x1 x5)
theorem laws_markBelayS.L0_lim (x0 : List (S40)) (x1 x5 : Int) : Lim (fun k => laws_markBelayS.l0 k x0 x1 x5) (laws_markBelayS.L0 x0 x1 x5) := Lim.of (fun k => (laws_markBelayS.mono_l k) x0 x1 x5)
noncomputable def laws_markBelayS.F (l0 : List (S40)) (a1 : Int) : Option (Int × (List (S40))) := lim (fun k => laws_markBelayS.f k l0 a1)
theorem laws_markBelayS.F_lim (l0 : List (S40)) (a1 : Int) : Lim (fun k => laws_markBelayS.f k l0 a1) (laws_markBelayS.F l0 a1) := Lim.of (fun k => laws_markBelayS.mono l0 a1 k)
theorem laws_markBelayS.L0_eq (x0 : List (S40)) (x1 x5 : Int) : laws_markBelayS.L0 x0 x1 x5 = if x5 < (x0.length : Int) then ((laws_markText.F x1).bind fun t178 => (if 0 ≤ x5 then ((some (x0.set (x5 : Int).toNat (⟨t178, (rd_T40 x0 x5).f1, (rd_T40 x0 x5).f2⟩ : S40) : List (S40))).bind fun y179 => ((laws_markText.F (wrap64 (x1 + 1))).bind fun t180 => ((some (y179.set (x5 : Int).toNat (⟨(rd_T40 y179 x5).f0, t180, (rd_T40 y179 x5).f2⟩ : S40) : List (S40))).bind fun y181 => (laws_markBelayS.L0 (y181.set (x5 : Int).toNat (⟨(rd_T40 y181 x5).f0, (rd_T40 y181 x5).f1, wrap64 ((wrap64 (x1 + 1)) + 1)⟩ : S40)) (wrap64 ((wrap64 ((wrap64 (x1 + 1)) + 1)) + 1)) (wrap64 (x5 + 1)))))) else (none))) else (some (x1, x0)) := by
  refine Lim.next (fun k => (laws_markBelayS.mono_l k) x0 x1 x5) ?_
  simp only [laws_markBelayS.l0]
  repeat' with_reducible first | exact Lim.const _ | exact laws_markBelayS.L0_lim _ _ _ | exact laws_markText.F_lim _ | refine Lim.ite ?_ ?_ | refine Lim.bind ?_ (fun _ => ?_)
theorem laws_markBelayS.F_eq (l0 : List (S40)) (a1 : Int) : laws_markBelayS.F l0 a1 = laws_markBelayS.L0 l0 a1 0 := by
  refine Lim.eq (g := fun k => laws_markBelayS.f k l0 a1) ?_
  unfold laws_markBelayS.f
  repeat' with_reducible first | exact Lim.const _ | exact laws_markBelayS.L0_lim _ _ _ | refine Lim.ite ?_ ?_ | refine Lim.bind ?_ (fun _ => ?_)

noncomputable def laws_markRig.F (l0_0 : List (S69)) (l0_1 : List ByteArray) (l0_2 : List (S40)) (a1 : Int) : Option (Int × (List (S69)) × List ByteArray × (List (S40))) := lim (fun k => laws_markRig.f k l0_0 l0_1 l0_2 a1)
theorem laws_markRig.F_lim (l0_0 : List (S69)) (l0_1 : List ByteArray) (l0_2 : List (S40)) (a1 : Int) : Lim (fun k => laws_markRig.f k l0_0 l0_1 l0_2 a1) (laws_markRig.F l0_0 l0_1 l0_2 a1) := Lim.of (fun k => laws_markRig.mono l0_0 l0_1 l0_2 a1 k)
theorem laws_markRig.F_eq (l0_0 : List (S69)) (l0_1 : List ByteArray) (l0_2 : List (S40)) (a1 : Int) : laws_markRig.F l0_0 l0_1 l0_2 a1 = (laws_markRailS.F l0_0 a1).bind fun bt184 => ((laws_markStringS.F l0_1 bt184.1).bind fun bt186 => ((laws_markBelayS.F l0_2 bt186.1).bind fun bt188 => (some (bt188.1, bt184.2, bt186.2, bt188.2)))) := by
  refine Lim.eq (g := fun k => laws_markRig.f k l0_0 l0_1 l0_2 a1) ?_
  unfold laws_markRig.f
  repeat' with_reducible first | exact Lim.const _ | exact laws_markBelayS.F_lim _ _ | exact laws_markRailS.F_lim _ _ | exact laws_markStringS.F_lim _ _ | refine Lim.ite ?_ ?_ | refine Lim.bind ?_ (fun _ => ?_)

noncomputable def spec_l19Rail.L0 (x0 : List (S32)) (x1 : ByteArray) (x5 : Int) : Option (Int) := lim (fun k => spec_l19Rail.l0 k x0 x1 x5)
theorem spec_l19Rail.L0_lim (x0 : List (S32)) (x1 : ByteArray) (x5 : Int) : Lim (fun k => spec_l19Rail.l0 k x0 x1 x5) (spec_l19Rail.L0 x0 x1 x5) := Lim.of (fun k => (spec_l19Rail.mono_l k) x0 x1 x5)
noncomputable def spec_l19Rail.F (l0 : List (S32)) (a1 : ByteArray) : Option (Int) := lim (fun k => spec_l19Rail.f k l0 a1)
theorem spec_l19Rail.F_lim (l0 : List (S32)) (a1 : ByteArray) : Lim (fun k => spec_l19Rail.f k l0 a1) (spec_l19Rail.F l0 a1) := Lim.of (fun k => spec_l19Rail.mono l0 a1 k)
theorem spec_l19Rail.L0_eq (x0 : List (S32)) (x1 : ByteArray) (x5 : Int) : spec_l19Rail.L0 x0 x1 x5 = if x5 < (((rd_T32 x0 0).f0).length : Int) then (if 0 ≤ x5 then (if ((rd_T69 ((rd_T32 x0 0).f0) x5).f0).toList = x1.toList then (some x5) else (spec_l19Rail.L0 x0 x1 (wrap64 (x5 + 1)))) else (none)) else (some (-1)) := by
  refine Lim.next (fun k => (spec_l19Rail.mono_l k) x0 x1 x5) ?_
  simp only [spec_l19Rail.l0]
  repeat' with_reducible first | exact Lim.const _ | exact spec_l19Rail.L0_lim _ _ _ | refine Lim.ite ?_ ?_ | refine Lim.bind ?_ (fun _ => ?_)
theorem spec_l19Rail.F_eq (l0 : List (S32)) (a1 : ByteArray) : spec_l19Rail.F l0 a1 = if 0 < (l0.length : Int) then (spec_l19Rail.L0 l0 a1 0) else (none) := by
  refine Lim.eq (g := fun k => spec_l19Rail.f k l0 a1) ?_
  unfold spec_l19Rail.f
  repeat' with_reducible first | exact Lim.const _ | exact spec_l19Rail.L0_lim _ _ _ | refine Lim.ite ?_ ?_ | refine Lim.bind ?_ (fun _ => ?_)

noncomputable def spec_IsName.J0 (x0 : ByteArray) (x16 : Bool) : Option (Bool) := lim (fun k => spec_IsName.j0 k x0 x16)
theorem spec_IsName.J0_lim (x0 : ByteArray) (x16 : Bool) : Lim (fun k => spec_IsName.j0 k x0 x16) (spec_IsName.J0 x0 x16) := Lim.of (fun k => (spec_IsName.mono_l k).1 x0 x16)
noncomputable def spec_IsName.L0 (x0 : ByteArray) (x3 : Int) : Option (Bool) := lim (fun k => spec_IsName.l0 k x0 x3)
theorem spec_IsName.L0_lim (x0 : ByteArray) (x3 : Int) : Lim (fun k => spec_IsName.l0 k x0 x3) (spec_IsName.L0 x0 x3) := Lim.of (fun k => (spec_IsName.mono_l k).2 x0 x3)
noncomputable def spec_IsName.F (a0 : ByteArray) : Option (Bool) := lim (fun k => spec_IsName.f k a0)
theorem spec_IsName.F_lim (a0 : ByteArray) : Lim (fun k => spec_IsName.f k a0) (spec_IsName.F a0) := Lim.of (fun k => spec_IsName.mono a0 k)
theorem spec_IsName.J0_eq (x0 : ByteArray) (x16 : Bool) : spec_IsName.J0 x0 x16 = if x16 = true then (some false) else (spec_IsName.L0 x0 0) := by
  refine Lim.next (fun k => (spec_IsName.mono_l k).1 x0 x16) ?_
  simp only [spec_IsName.j0]
  repeat' with_reducible first | exact Lim.const _ | exact spec_IsName.L0_lim _ _ | refine Lim.ite ?_ ?_ | refine Lim.bind ?_ (fun _ => ?_)
theorem spec_IsName.L0_eq (x0 : ByteArray) (x3 : Int) : spec_IsName.L0 x0 x3 = if x3 < (x0.size : Int) then (if 0 ≤ x3 then ((spec_l01Small.f (bt x0 x3)).bind fun t205 => (if t205 = true then (spec_IsName.L0 x0 (wrap64 (x3 + 1))) else ((spec_l01Digit.f (bt x0 x3)).bind fun t206 => (if t206 = true then (spec_IsName.L0 x0 (wrap64 (x3 + 1))) else (if (bt x0 x3) = 45 then (spec_IsName.L0 x0 (wrap64 (x3 + 1))) else (some false)))))) else (none)) else (some true) := by
  refine Lim.next (fun k => (spec_IsName.mono_l k).2 x0 x3) ?_
  simp only [spec_IsName.l0]
  repeat' with_reducible first | exact Lim.const _ | exact spec_IsName.L0_lim _ _ | refine Lim.ite ?_ ?_ | refine Lim.bind ?_ (fun _ => ?_)
theorem spec_IsName.F_eq (a0 : ByteArray) : spec_IsName.F a0 = if a0.toList = ([] : List UInt8) then (spec_IsName.J0 a0 true) else (if (a0.size : Int) > 12 then (spec_IsName.J0 a0 true) else (if 0 < (a0.size : Int) then ((spec_l01Small.f (bt a0 0)).bind fun t204 => (spec_IsName.J0 a0 (!t204))) else (none))) := by
  refine Lim.eq (g := fun k => spec_IsName.f k a0) ?_
  unfold spec_IsName.f
  repeat' with_reducible first | exact Lim.const _ | exact spec_IsName.J0_lim _ _ | refine Lim.ite ?_ ?_ | refine Lim.bind ?_ (fun _ => ?_)

noncomputable def spec_l19AddRail.F (l0 : List (S69)) (l1 : List ByteArray) (l2 : List (S40)) (a1 a2 : ByteArray) (a3 : Int) : Option (Int) := lim (fun k => spec_l19AddRail.f k l0 l1 l2 a1 a2 a3)
theorem spec_l19AddRail.F_lim (l0 : List (S69)) (l1 : List ByteArray) (l2 : List (S40)) (a1 a2 : ByteArray) (a3 : Int) : Lim (fun k => spec_l19AddRail.f k l0 l1 l2 a1 a2 a3) (spec_l19AddRail.F l0 l1 l2 a1 a2 a3) := Lim.of (fun k => spec_l19AddRail.mono l0 l1 l2 a1 a2 a3 k)
theorem spec_l19AddRail.F_eq (l0 : List (S69)) (l1 : List ByteArray) (l2 : List (S40)) (a1 a2 : ByteArray) (a3 : Int) : spec_l19AddRail.F l0 l1 l2 a1 a2 a3 = (spec_IsName.F a1).bind fun t1 => ((spec_l00In.f a3 1 30).bind fun t2 => ((spec_l19Rail.F [⟨l0, l1, l2⟩] a1).bind fun t3 => (some (addRailN t1 (railSide a2) t2 t3 l0.length)))) := by
  refine Lim.eq (g := fun k => spec_l19AddRail.f k l0 l1 l2 a1 a2 a3) ?_
  unfold spec_l19AddRail.f
  repeat' with_reducible first | exact Lim.const _ | exact spec_IsName.F_lim _ | exact spec_l19Rail.F_lim _ _ | refine Lim.ite ?_ ?_ | refine Lim.bind ?_ (fun _ => ?_)

noncomputable def spec_l19Line.L0 (x0 : List (S32)) (x1 : ByteArray) (x5 : Int) : Option (Bool) := lim (fun k => spec_l19Line.l0 k x0 x1 x5)
theorem spec_l19Line.L0_lim (x0 : List (S32)) (x1 : ByteArray) (x5 : Int) : Lim (fun k => spec_l19Line.l0 k x0 x1 x5) (spec_l19Line.L0 x0 x1 x5) := Lim.of (fun k => (spec_l19Line.mono_l k) x0 x1 x5)
noncomputable def spec_l19Line.F (l0 : List (S32)) (a1 : ByteArray) : Option (Bool) := lim (fun k => spec_l19Line.f k l0 a1)
theorem spec_l19Line.F_lim (l0 : List (S32)) (a1 : ByteArray) : Lim (fun k => spec_l19Line.f k l0 a1) (spec_l19Line.F l0 a1) := Lim.of (fun k => spec_l19Line.mono l0 a1 k)
theorem spec_l19Line.L0_eq (x0 : List (S32)) (x1 : ByteArray) (x5 : Int) : spec_l19Line.L0 x0 x1 x5 = if x5 < (((rd_T32 x0 0).f1).length : Int) then (if 0 ≤ x5 then (if (rdOf ByteArray.empty ((rd_T32 x0 0).f1) x5).toList = x1.toList then (some true) else (spec_l19Line.L0 x0 x1 (wrap64 (x5 + 1)))) else (none)) else (some false) := by
  refine Lim.next (fun k => (spec_l19Line.mono_l k) x0 x1 x5) ?_
  simp only [spec_l19Line.l0]
  repeat' with_reducible first | exact Lim.const _ | exact spec_l19Line.L0_lim _ _ _ | refine Lim.ite ?_ ?_ | refine Lim.bind ?_ (fun _ => ?_)
theorem spec_l19Line.F_eq (l0 : List (S32)) (a1 : ByteArray) : spec_l19Line.F l0 a1 = if 0 < (l0.length : Int) then (spec_l19Line.L0 l0 a1 0) else (none) := by
  refine Lim.eq (g := fun k => spec_l19Line.f k l0 a1) ?_
  unfold spec_l19Line.f
  repeat' with_reducible first | exact Lim.const _ | exact spec_l19Line.L0_lim _ _ _ | refine Lim.ite ?_ ?_ | refine Lim.bind ?_ (fun _ => ?_)

noncomputable def spec_l19AddLine.F (l0 : List (S69)) (l1 : List ByteArray) (l2 : List (S40)) (a1 : ByteArray) : Option (Int) := lim (fun k => spec_l19AddLine.f k l0 l1 l2 a1)
theorem spec_l19AddLine.F_lim (l0 : List (S69)) (l1 : List ByteArray) (l2 : List (S40)) (a1 : ByteArray) : Lim (fun k => spec_l19AddLine.f k l0 l1 l2 a1) (spec_l19AddLine.F l0 l1 l2 a1) := Lim.of (fun k => spec_l19AddLine.mono l0 l1 l2 a1 k)
theorem spec_l19AddLine.F_eq (l0 : List (S69)) (l1 : List ByteArray) (l2 : List (S40)) (a1 : ByteArray) : spec_l19AddLine.F l0 l1 l2 a1 = (spec_IsName.F a1).bind fun t1 => ((spec_l19Line.F [⟨l0, l1, l2⟩] a1).bind fun t2 => (some (addLineN t1 t2 l1.length))) := by
  refine Lim.eq (g := fun k => spec_l19AddLine.f k l0 l1 l2 a1) ?_
  unfold spec_l19AddLine.f
  repeat' with_reducible first | exact Lim.const _ | exact spec_IsName.F_lim _ | exact spec_l19Line.F_lim _ _ | refine Lim.ite ?_ ?_ | refine Lim.bind ?_ (fun _ => ?_)

noncomputable def spec_l19At.L0 (x0 : List (S32)) (x1 : ByteArray) (x2 x7 : Int) : Option (Int) := lim (fun k => spec_l19At.l0 k x0 x1 x2 x7)
theorem spec_l19At.L0_lim (x0 : List (S32)) (x1 : ByteArray) (x2 x7 : Int) : Lim (fun k => spec_l19At.l0 k x0 x1 x2 x7) (spec_l19At.L0 x0 x1 x2 x7) := Lim.of (fun k => (spec_l19At.mono_l k) x0 x1 x2 x7)
noncomputable def spec_l19At.F (l0 : List (S32)) (a1 : ByteArray) (a2 : Int) : Option (Int) := lim (fun k => spec_l19At.f k l0 a1 a2)
theorem spec_l19At.F_lim (l0 : List (S32)) (a1 : ByteArray) (a2 : Int) : Lim (fun k => spec_l19At.f k l0 a1 a2) (spec_l19At.F l0 a1 a2) := Lim.of (fun k => spec_l19At.mono l0 a1 a2 k)
theorem spec_l19At.L0_eq (x0 : List (S32)) (x1 : ByteArray) (x2 x7 : Int) : spec_l19At.L0 x0 x1 x2 x7 = if x7 < (((rd_T32 x0 0).f2).length : Int) then (if 0 ≤ x7 then (if ((rd_T40 ((rd_T32 x0 0).f2) x7).f1).toList = x1.toList then (if ((rd_T40 ((rd_T32 x0 0).f2) x7).f2) = x2 then (some x7) else (spec_l19At.L0 x0 x1 x2 (wrap64 (x7 + 1)))) else (spec_l19At.L0 x0 x1 x2 (wrap64 (x7 + 1)))) else (none)) else (some (-1)) := by
  refine Lim.next (fun k => (spec_l19At.mono_l k) x0 x1 x2 x7) ?_
  simp only [spec_l19At.l0]
  repeat' with_reducible first | exact Lim.const _ | exact spec_l19At.L0_lim _ _ _ _ | refine Lim.ite ?_ ?_ | refine Lim.bind ?_ (fun _ => ?_)
theorem spec_l19At.F_eq (l0 : List (S32)) (a1 : ByteArray) (a2 : Int) : spec_l19At.F l0 a1 a2 = if 0 < (l0.length : Int) then (spec_l19At.L0 l0 a1 a2 0) else (none) := by
  refine Lim.eq (g := fun k => spec_l19At.f k l0 a1 a2) ?_
  unfold spec_l19At.f
  repeat' with_reducible first | exact Lim.const _ | exact spec_l19At.L0_lim _ _ _ _ | refine Lim.ite ?_ ?_ | refine Lim.bind ?_ (fun _ => ?_)

noncomputable def spec_l19Of.L0 (x0 : List (S32)) (x1 : ByteArray) (x5 : Int) : Option (Int) := lim (fun k => spec_l19Of.l0 k x0 x1 x5)
theorem spec_l19Of.L0_lim (x0 : List (S32)) (x1 : ByteArray) (x5 : Int) : Lim (fun k => spec_l19Of.l0 k x0 x1 x5) (spec_l19Of.L0 x0 x1 x5) := Lim.of (fun k => (spec_l19Of.mono_l k) x0 x1 x5)
noncomputable def spec_l19Of.F (l0 : List (S32)) (a1 : ByteArray) : Option (Int) := lim (fun k => spec_l19Of.f k l0 a1)
theorem spec_l19Of.F_lim (l0 : List (S32)) (a1 : ByteArray) : Lim (fun k => spec_l19Of.f k l0 a1) (spec_l19Of.F l0 a1) := Lim.of (fun k => spec_l19Of.mono l0 a1 k)
theorem spec_l19Of.L0_eq (x0 : List (S32)) (x1 : ByteArray) (x5 : Int) : spec_l19Of.L0 x0 x1 x5 = if x5 < (((rd_T32 x0 0).f2).length : Int) then (if 0 ≤ x5 then (if ((rd_T40 ((rd_T32 x0 0).f2) x5).f0).toList = x1.toList then (some x5) else (spec_l19Of.L0 x0 x1 (wrap64 (x5 + 1)))) else (none)) else (some (-1)) := by
  refine Lim.next (fun k => (spec_l19Of.mono_l k) x0 x1 x5) ?_
  simp only [spec_l19Of.l0]
  repeat' with_reducible first | exact Lim.const _ | exact spec_l19Of.L0_lim _ _ _ | refine Lim.ite ?_ ?_ | refine Lim.bind ?_ (fun _ => ?_)
theorem spec_l19Of.F_eq (l0 : List (S32)) (a1 : ByteArray) : spec_l19Of.F l0 a1 = if 0 < (l0.length : Int) then (spec_l19Of.L0 l0 a1 0) else (none) := by
  refine Lim.eq (g := fun k => spec_l19Of.f k l0 a1) ?_
  unfold spec_l19Of.f
  repeat' with_reducible first | exact Lim.const _ | exact spec_l19Of.L0_lim _ _ _ | refine Lim.ite ?_ ?_ | refine Lim.bind ?_ (fun _ => ?_)

noncomputable def spec_l19AddBelay.F (l0 : List (S69)) (l1 : List ByteArray) (l2 : List (S40)) (a1 a2 : ByteArray) (a3 : Int) : Option (Int) := lim (fun k => spec_l19AddBelay.f k l0 l1 l2 a1 a2 a3)
theorem spec_l19AddBelay.F_lim (l0 : List (S69)) (l1 : List ByteArray) (l2 : List (S40)) (a1 a2 : ByteArray) (a3 : Int) : Lim (fun k => spec_l19AddBelay.f k l0 l1 l2 a1 a2 a3) (spec_l19AddBelay.F l0 l1 l2 a1 a2 a3) := Lim.of (fun k => spec_l19AddBelay.mono l0 l1 l2 a1 a2 a3 k)
theorem spec_l19AddBelay.F_eq (l0 : List (S69)) (l1 : List ByteArray) (l2 : List (S40)) (a1 a2 : ByteArray) (a3 : Int) : spec_l19AddBelay.F l0 l1 l2 a1 a2 a3 = (spec_l19Rail.F [⟨l0, l1, l2⟩] a2).bind fun t1 => ((spec_l19Line.F [⟨l0, l1, l2⟩] a1).bind fun t2 => ((spec_l00In.f a3 1 (rd_T69 l0 t1).f2).bind fun t3 => ((spec_l19Of.F [⟨l0, l1, l2⟩] a1).bind fun t4 => ((spec_l19At.F [⟨l0, l1, l2⟩] a2 a3).bind fun t5 => (if t1 < (l0.length : Int) then (some (addBelayN t1 t2 t3 t4 t5)) else (none)))))) := by
  refine Lim.eq (g := fun k => spec_l19AddBelay.f k l0 l1 l2 a1 a2 a3) ?_
  unfold spec_l19AddBelay.f
  repeat' with_reducible first | exact Lim.const _ | exact spec_l19At.F_lim _ _ _ | exact spec_l19Line.F_lim _ _ | exact spec_l19Of.F_lim _ _ | exact spec_l19Rail.F_lim _ _ | refine Lim.ite ?_ ?_ | refine Lim.bind ?_ (fun _ => ?_)

noncomputable def spec_l19Ok.L2 (x0 : List (S69)) (x1 : List ByteArray) (x2 : List (S40)) (x3 : Int) : Option (Bool) := lim (fun k => spec_l19Ok.l2 k x0 x1 x2 x3)
theorem spec_l19Ok.L2_lim (x0 : List (S69)) (x1 : List ByteArray) (x2 : List (S40)) (x3 : Int) : Lim (fun k => spec_l19Ok.l2 k x0 x1 x2 x3) (spec_l19Ok.L2 x0 x1 x2 x3) := Lim.of (fun k => (spec_l19Ok.mono_l k).1 x0 x1 x2 x3)
noncomputable def spec_l19Ok.L1 (x0 : List (S69)) (x1 : List ByteArray) (x2 : List (S40)) (x3 : Int) : Option (Bool) := lim (fun k => spec_l19Ok.l1 k x0 x1 x2 x3)
theorem spec_l19Ok.L1_lim (x0 : List (S69)) (x1 : List ByteArray) (x2 : List (S40)) (x3 : Int) : Lim (fun k => spec_l19Ok.l1 k x0 x1 x2 x3) (spec_l19Ok.L1 x0 x1 x2 x3) := Lim.of (fun k => (spec_l19Ok.mono_l k).2.1 x0 x1 x2 x3)
noncomputable def spec_l19Ok.L0 (x0 : List (S69)) (x1 : List ByteArray) (x2 : List (S40)) (x3 : Int) : Option (Bool) := lim (fun k => spec_l19Ok.l0 k x0 x1 x2 x3)
theorem spec_l19Ok.L0_lim (x0 : List (S69)) (x1 : List ByteArray) (x2 : List (S40)) (x3 : Int) : Lim (fun k => spec_l19Ok.l0 k x0 x1 x2 x3) (spec_l19Ok.L0 x0 x1 x2 x3) := Lim.of (fun k => (spec_l19Ok.mono_l k).2.2 x0 x1 x2 x3)
noncomputable def spec_l19Ok.F (l0 : List (S32)) : Option (Bool) := lim (fun k => spec_l19Ok.f k l0)
theorem spec_l19Ok.F_lim (l0 : List (S32)) : Lim (fun k => spec_l19Ok.f k l0) (spec_l19Ok.F l0) := Lim.of (fun k => spec_l19Ok.mono l0 k)
theorem spec_l19Ok.L2_eq (x0 : List (S69)) (x1 : List ByteArray) (x2 : List (S40)) (x3 : Int) : spec_l19Ok.L2 x0 x1 x2 x3 = if x3 < (x2.length : Int) then (if 0 ≤ x3 then ((spec_l19AddBelay.F x0 x1 (x2.take x3.toNat) ((rd_T40 x2 x3).f0) ((rd_T40 x2 x3).f1) ((rd_T40 x2 x3).f2)).bind fun t1 => (if t1 = 0 then (spec_l19Ok.L2 x0 x1 x2 (wrap64 (x3 + 1))) else (some false))) else (none)) else (some true) := by
  refine Lim.next (fun k => (spec_l19Ok.mono_l k).1 x0 x1 x2 x3) ?_
  simp only [spec_l19Ok.l2]
  repeat' with_reducible first | exact Lim.const _ | exact spec_l19AddBelay.F_lim _ _ _ _ _ _ | exact spec_l19Ok.L2_lim _ _ _ _ | refine Lim.ite ?_ ?_ | refine Lim.bind ?_ (fun _ => ?_)
theorem spec_l19Ok.L1_eq (x0 : List (S69)) (x1 : List ByteArray) (x2 : List (S40)) (x3 : Int) : spec_l19Ok.L1 x0 x1 x2 x3 = if x3 < (x1.length : Int) then (if 0 ≤ x3 then ((spec_l19AddLine.F x0 (x1.take x3.toNat) [] (rdOf ByteArray.empty x1 x3)).bind fun t1 => (if t1 = 0 then (spec_l19Ok.L1 x0 x1 x2 (wrap64 (x3 + 1))) else (some false))) else (none)) else (spec_l19Ok.L2 x0 x1 x2 0) := by
  refine Lim.next (fun k => (spec_l19Ok.mono_l k).2.1 x0 x1 x2 x3) ?_
  simp only [spec_l19Ok.l1]
  repeat' with_reducible first | exact Lim.const _ | exact spec_l19AddLine.F_lim _ _ _ _ | exact spec_l19Ok.L1_lim _ _ _ _ | exact spec_l19Ok.L2_lim _ _ _ _ | refine Lim.ite ?_ ?_ | refine Lim.bind ?_ (fun _ => ?_)
theorem spec_l19Ok.L0_eq (x0 : List (S69)) (x1 : List ByteArray) (x2 : List (S40)) (x3 : Int) : spec_l19Ok.L0 x0 x1 x2 x3 = if x3 < (x0.length : Int) then (if 0 ≤ x3 then ((spec_l19AddRail.F (x0.take x3.toNat) [] [] ((rd_T69 x0 x3).f0) ((rd_T69 x0 x3).f1) ((rd_T69 x0 x3).f2)).bind fun t1 => (if t1 = 0 then (spec_l19Ok.L0 x0 x1 x2 (wrap64 (x3 + 1))) else (some false))) else (none)) else (spec_l19Ok.L1 x0 x1 x2 0) := by
  refine Lim.next (fun k => (spec_l19Ok.mono_l k).2.2 x0 x1 x2 x3) ?_
  simp only [spec_l19Ok.l0]
  repeat' with_reducible first | exact Lim.const _ | exact spec_l19AddRail.F_lim _ _ _ _ _ _ | exact spec_l19Ok.L0_lim _ _ _ _ | exact spec_l19Ok.L1_lim _ _ _ _ | refine Lim.ite ?_ ?_ | refine Lim.bind ?_ (fun _ => ?_)
theorem spec_l19Ok.F_eq (l0 : List (S32)) : spec_l19Ok.F l0 = if 0 < (l0.length : Int) then (if (rd_T32 l0 0).f0.length ≤ 1048576 ∧ (rd_T32 l0 0).f1.length ≤ 1048576 ∧ (rd_T32 l0 0).f2.length ≤ 1048576 then (spec_l19Ok.L0 (rd_T32 l0 0).f0 (rd_T32 l0 0).f1 (rd_T32 l0 0).f2 0) else (none)) else (none) := by
  refine Lim.eq (g := fun k => spec_l19Ok.f k l0) ?_
  unfold spec_l19Ok.f
  repeat' with_reducible first | exact Lim.const _ | exact spec_l19Ok.L0_lim _ _ _ _ | refine Lim.ite ?_ ?_ | refine Lim.bind ?_ (fun _ => ?_)

noncomputable def spec_MoveLine.J0 (x34 : Bool) (x245000 : List (S69)) (x245001 : List ByteArray) (x245002 : List (S40)) (x246000 x246001 : ByteArray) (x246002 : Int) : Option ((List (S69)) × List ByteArray × (List (S40)) × Int) := lim (fun k => spec_MoveLine.j0 k x34 x245000 x245001 x245002 x246000 x246001 x246002)
theorem spec_MoveLine.J0_lim (x34 : Bool) (x245000 : List (S69)) (x245001 : List ByteArray) (x245002 : List (S40)) (x246000 x246001 : ByteArray) (x246002 : Int) : Lim (fun k => spec_MoveLine.j0 k x34 x245000 x245001 x245002 x246000 x246001 x246002) (spec_MoveLine.J0 x34 x245000 x245001 x245002 x246000 x246001 x246002) := Lim.of (fun k => (spec_MoveLine.mono_l k) x34 x245000 x245001 x245002 x246000 x246001 x246002)
noncomputable def spec_MoveLine.F (l0_0 : List (S69)) (l0_1 : List ByteArray) (l0_2 : List (S40)) (a1_0 a1_1 : ByteArray) (a1_2 : Int) : Option ((List (S69)) × List ByteArray × (List (S40)) × Int) := lim (fun k => spec_MoveLine.f k l0_0 l0_1 l0_2 a1_0 a1_1 a1_2)
theorem spec_MoveLine.F_lim (l0_0 : List (S69)) (l0_1 : List ByteArray) (l0_2 : List (S40)) (a1_0 a1_1 : ByteArray) (a1_2 : Int) : Lim (fun k => spec_MoveLine.f k l0_0 l0_1 l0_2 a1_0 a1_1 a1_2) (spec_MoveLine.F l0_0 l0_1 l0_2 a1_0 a1_1 a1_2) := Lim.of (fun k => spec_MoveLine.mono l0_0 l0_1 l0_2 a1_0 a1_1 a1_2 k)
theorem spec_MoveLine.J0_eq (x34 : Bool) (x245000 : List (S69)) (x245001 : List ByteArray) (x245002 : List (S40)) (x246000 x246001 : ByteArray) (x246002 : Int) : spec_MoveLine.J0 x34 x245000 x245001 x245002 x246000 x246001 x246002 = if x34 = true then (some (([] : List (S69)), ([] : List ByteArray), ([] : List (S40)), 2)) else ((spec_l19At.F [(⟨x245000, x245001, x245002⟩ : S32)] x246001 x246002).bind fun t256 => (if t256 ≥ 0 then (some (([] : List (S69)), ([] : List ByteArray), ([] : List (S40)), 9)) else ((spec_l19Own.f [(⟨x245000, x245001, x245002⟩ : S32)]).bind fun bt258 => ((spec_l19Of.F [(⟨x245000, x245001, x245002⟩ : S32)] x246000).bind fun t269 => (if t269 < 0 then (if bt258.2.2.length < 3518437208883 then (some (bt258.1, bt258.2.1, (bt258.2.2 ++ [(⟨x246000, x246001, x246002⟩ : S40)]), 0)) else (none)) else (if 0 ≤ t269 then (if t269 < (bt258.2.2.length : Int) then (some (bt258.1, bt258.2.1, (bt258.2.2.set (t269 : Int).toNat (⟨x246000, x246001, x246002⟩ : S40)), 0)) else (none)) else (none))))))) := by
  refine Lim.next (fun k => (spec_MoveLine.mono_l k) x34 x245000 x245001 x245002 x246000 x246001 x246002) ?_
  simp only [spec_MoveLine.j0]
  repeat' with_reducible first | exact Lim.const _ | exact spec_l19At.F_lim _ _ _ | exact spec_l19Of.F_lim _ _ | refine Lim.ite ?_ ?_ | refine Lim.bind ?_ (fun _ => ?_)
theorem spec_MoveLine.F_eq (l0_0 : List (S69)) (l0_1 : List ByteArray) (l0_2 : List (S40)) (a1_0 a1_1 : ByteArray) (a1_2 : Int) : spec_MoveLine.F l0_0 l0_1 l0_2 a1_0 a1_1 a1_2 = (spec_l19Ok.F [(⟨l0_0, l0_1, l0_2⟩ : S32)]).bind fun t248 => (if t248 = true then ((spec_l19Rail.F [(⟨l0_0, l0_1, l0_2⟩ : S32)] a1_1).bind fun t250 => (if t250 < 0 then (spec_MoveLine.J0 true l0_0 l0_1 l0_2 a1_0 a1_1 a1_2) else ((spec_l19Line.F [(⟨l0_0, l0_1, l0_2⟩ : S32)] a1_0).bind fun t252 => (if t252 = true then (if 0 ≤ t250 then (if t250 < (l0_0.length : Int) then ((spec_l00In.f a1_2 1 ((rd_T69 l0_0 t250).f2)).bind fun t254 => (spec_MoveLine.J0 (!t254) l0_0 l0_1 l0_2 a1_0 a1_1 a1_2)) else (none)) else (none)) else (spec_MoveLine.J0 true l0_0 l0_1 l0_2 a1_0 a1_1 a1_2))))) else (some (([] : List (S69)), ([] : List ByteArray), ([] : List (S40)), 1))) := by
  refine Lim.eq (g := fun k => spec_MoveLine.f k l0_0 l0_1 l0_2 a1_0 a1_1 a1_2) ?_
  unfold spec_MoveLine.f
  repeat' with_reducible first | exact Lim.const _ | exact spec_MoveLine.J0_lim _ _ _ _ _ _ _ | exact spec_l19Line.F_lim _ _ | exact spec_l19Ok.F_lim _ | exact spec_l19Rail.F_lim _ _ | refine Lim.ite ?_ ?_ | refine Lim.bind ?_ (fun _ => ?_)

noncomputable def impl_IsName.J0 (x0 : ByteArray) (x21 : Bool) : Option (Bool) := lim (fun k => impl_IsName.j0 k x0 x21)
theorem impl_IsName.J0_lim (x0 : ByteArray) (x21 : Bool) : Lim (fun k => impl_IsName.j0 k x0 x21) (impl_IsName.J0 x0 x21) := Lim.of (fun k => (impl_IsName.mono_l k).1 x0 x21)
noncomputable def impl_IsName.L0 (x0 : ByteArray) (x3 : Int) : Option (Bool) := lim (fun k => impl_IsName.l0 k x0 x3)
theorem impl_IsName.L0_lim (x0 : ByteArray) (x3 : Int) : Lim (fun k => impl_IsName.l0 k x0 x3) (impl_IsName.L0 x0 x3) := Lim.of (fun k => (impl_IsName.mono_l k).2 x0 x3)
noncomputable def impl_IsName.F (a0 : ByteArray) : Option (Bool) := lim (fun k => impl_IsName.f k a0)
theorem impl_IsName.F_lim (a0 : ByteArray) : Lim (fun k => impl_IsName.f k a0) (impl_IsName.F a0) := Lim.of (fun k => impl_IsName.mono a0 k)
theorem impl_IsName.J0_eq (x0 : ByteArray) (x21 : Bool) : impl_IsName.J0 x0 x21 = if x21 = true then (some false) else (impl_IsName.L0 x0 0) := by
  refine Lim.next (fun k => (impl_IsName.mono_l k).1 x0 x21) ?_
  simp only [impl_IsName.j0]
  repeat' with_reducible first | exact Lim.const _ | exact impl_IsName.L0_lim _ _ | refine Lim.ite ?_ ?_ | refine Lim.bind ?_ (fun _ => ?_)
theorem impl_IsName.L0_eq (x0 : ByteArray) (x3 : Int) : impl_IsName.L0 x0 x3 = if x3 < (x0.size : Int) then (if 0 ≤ x3 then (if (bt x0 x3) < 97 then (if (bt x0 x3) < 48 then (if (bt x0 x3) = 45 then (impl_IsName.L0 x0 (wrap64 (x3 + 1))) else (some false)) else (if (bt x0 x3) > 57 then (if (bt x0 x3) = 45 then (impl_IsName.L0 x0 (wrap64 (x3 + 1))) else (some false)) else (impl_IsName.L0 x0 (wrap64 (x3 + 1))))) else (if (bt x0 x3) > 122 then (if (bt x0 x3) < 48 then (if (bt x0 x3) = 45 then (impl_IsName.L0 x0 (wrap64 (x3 + 1))) else (some false)) else (if (bt x0 x3) > 57 then (if (bt x0 x3) = 45 then (impl_IsName.L0 x0 (wrap64 (x3 + 1))) else (some false)) else (impl_IsName.L0 x0 (wrap64 (x3 + 1))))) else (impl_IsName.L0 x0 (wrap64 (x3 + 1))))) else (none)) else (some true) := by
  refine Lim.next (fun k => (impl_IsName.mono_l k).2 x0 x3) ?_
  simp only [impl_IsName.l0]
  repeat' with_reducible first | exact Lim.const _ | exact impl_IsName.L0_lim _ _ | refine Lim.ite ?_ ?_ | refine Lim.bind ?_ (fun _ => ?_)
theorem impl_IsName.F_eq (a0 : ByteArray) : impl_IsName.F a0 = if (a0.size : Int) < 1 then (impl_IsName.J0 a0 true) else (if (a0.size : Int) > 12 then (impl_IsName.J0 a0 true) else (if 0 < (a0.size : Int) then (if (bt a0 0) < 97 then (impl_IsName.J0 a0 true) else (impl_IsName.J0 a0 (decide ((bt a0 0) > 122)))) else (none))) := by
  refine Lim.eq (g := fun k => impl_IsName.f k a0) ?_
  unfold impl_IsName.f
  repeat' with_reducible first | exact Lim.const _ | exact impl_IsName.J0_lim _ _ | refine Lim.ite ?_ ?_ | refine Lim.bind ?_ (fun _ => ?_)

noncomputable def impl_addRail.F (l0 : List (S69)) (a1 a2 : ByteArray) (a3 : Int) : Option (Int) := lim (fun k => impl_addRail.f k l0 a1 a2 a3)
theorem impl_addRail.F_lim (l0 : List (S69)) (a1 a2 : ByteArray) (a3 : Int) : Lim (fun k => impl_addRail.f k l0 a1 a2 a3) (impl_addRail.F l0 a1 a2 a3) := Lim.of (fun k => impl_addRail.mono l0 a1 a2 a3 k)
theorem impl_addRail.F_eq (l0 : List (S69)) (a1 a2 : ByteArray) (a3 : Int) : impl_addRail.F l0 a1 a2 a3 = (impl_IsName.F a1).bind fun t1 => ((impl_within.f a3 1 30).bind fun t2 => ((impl_railNamed.f l0 [] [] a1).bind fun t3 => (some (addRailN t1 (railSide a2) t2 t3 l0.length)))) := by
  refine Lim.eq (g := fun k => impl_addRail.f k l0 a1 a2 a3) ?_
  unfold impl_addRail.f
  repeat' with_reducible first | exact Lim.const _ | exact impl_IsName.F_lim _ | refine Lim.ite ?_ ?_ | refine Lim.bind ?_ (fun _ => ?_)

noncomputable def slices_Index_string_string.L0 (x0 : List ByteArray) (x1 : ByteArray) (x7 x8 : Int) : Option (Int) := lim (fun k => slices_Index_string_string.l0 k x0 x1 x7 x8)
theorem slices_Index_string_string.L0_lim (x0 : List ByteArray) (x1 : ByteArray) (x7 x8 : Int) : Lim (fun k => slices_Index_string_string.l0 k x0 x1 x7 x8) (slices_Index_string_string.L0 x0 x1 x7 x8) := Lim.of (fun k => (slices_Index_string_string.mono_l k) x0 x1 x7 x8)
noncomputable def slices_Index_string_string.F (l0 : List ByteArray) (a1 : ByteArray) : Option (Int) := lim (fun k => slices_Index_string_string.f k l0 a1)
theorem slices_Index_string_string.F_lim (l0 : List ByteArray) (a1 : ByteArray) : Lim (fun k => slices_Index_string_string.f k l0 a1) (slices_Index_string_string.F l0 a1) := Lim.of (fun k => slices_Index_string_string.mono l0 a1 k)
theorem slices_Index_string_string.L0_eq (x0 : List ByteArray) (x1 : ByteArray) (x7 x8 : Int) : slices_Index_string_string.L0 x0 x1 x7 x8 = if x8 < x7 then (if 0 ≤ x8 then (if x8 < (x0.length : Int) then (if x1.toList = (rdOf ByteArray.empty x0 x8).toList then (some x8) else (slices_Index_string_string.L0 x0 x1 x7 (wrap64 (x8 + 1)))) else (none)) else (none)) else (some (-1)) := by
  refine Lim.next (fun k => (slices_Index_string_string.mono_l k) x0 x1 x7 x8) ?_
  simp only [slices_Index_string_string.l0]
  repeat' with_reducible first | exact Lim.const _ | exact slices_Index_string_string.L0_lim _ _ _ _ | refine Lim.ite ?_ ?_ | refine Lim.bind ?_ (fun _ => ?_)
theorem slices_Index_string_string.F_eq (l0 : List ByteArray) (a1 : ByteArray) : slices_Index_string_string.F l0 a1 = slices_Index_string_string.L0 l0 a1 (l0.length : Int) 0 := by
  refine Lim.eq (g := fun k => slices_Index_string_string.f k l0 a1) ?_
  unfold slices_Index_string_string.f
  repeat' with_reducible first | exact Lim.const _ | exact slices_Index_string_string.L0_lim _ _ _ _ | refine Lim.ite ?_ ?_ | refine Lim.bind ?_ (fun _ => ?_)

noncomputable def slices_Contains_string_string.F (l0 : List ByteArray) (a1 : ByteArray) : Option (Bool) := lim (fun k => slices_Contains_string_string.f k l0 a1)
theorem slices_Contains_string_string.F_lim (l0 : List ByteArray) (a1 : ByteArray) : Lim (fun k => slices_Contains_string_string.f k l0 a1) (slices_Contains_string_string.F l0 a1) := Lim.of (fun k => slices_Contains_string_string.mono l0 a1 k)
theorem slices_Contains_string_string.F_eq (l0 : List ByteArray) (a1 : ByteArray) : slices_Contains_string_string.F l0 a1 = (slices_Index_string_string.F l0 a1).bind fun t275 => (some (decide (t275 ≥ 0))) := by
  refine Lim.eq (g := fun k => slices_Contains_string_string.f k l0 a1) ?_
  unfold slices_Contains_string_string.f
  repeat' with_reducible first | exact Lim.const _ | exact slices_Index_string_string.F_lim _ _ | refine Lim.ite ?_ ?_ | refine Lim.bind ?_ (fun _ => ?_)

noncomputable def impl_addLine.F (l0 : List ByteArray) (a1 : ByteArray) : Option (Int) := lim (fun k => impl_addLine.f k l0 a1)
theorem impl_addLine.F_lim (l0 : List ByteArray) (a1 : ByteArray) : Lim (fun k => impl_addLine.f k l0 a1) (impl_addLine.F l0 a1) := Lim.of (fun k => impl_addLine.mono l0 a1 k)
theorem impl_addLine.F_eq (l0 : List ByteArray) (a1 : ByteArray) : impl_addLine.F l0 a1 = (impl_IsName.F a1).bind fun t1 => ((slices_Contains_string_string.F l0 a1).bind fun t2 => (some (addLineN t1 t2 l0.length))) := by
  refine Lim.eq (g := fun k => impl_addLine.f k l0 a1) ?_
  unfold impl_addLine.f
  repeat' with_reducible first | exact Lim.const _ | exact impl_IsName.F_lim _ | exact slices_Contains_string_string.F_lim _ _ | refine Lim.ite ?_ ?_ | refine Lim.bind ?_ (fun _ => ?_)

noncomputable def impl_addBelay.F (l0 : List (S69)) (l1 : List ByteArray) (l2 : List (S40)) (a1 a2 : ByteArray) (a3 : Int) : Option (Int) := lim (fun k => impl_addBelay.f k l0 l1 l2 a1 a2 a3)
theorem impl_addBelay.F_lim (l0 : List (S69)) (l1 : List ByteArray) (l2 : List (S40)) (a1 a2 : ByteArray) (a3 : Int) : Lim (fun k => impl_addBelay.f k l0 l1 l2 a1 a2 a3) (impl_addBelay.F l0 l1 l2 a1 a2 a3) := Lim.of (fun k => impl_addBelay.mono l0 l1 l2 a1 a2 a3 k)
theorem impl_addBelay.F_eq (l0 : List (S69)) (l1 : List ByteArray) (l2 : List (S40)) (a1 a2 : ByteArray) (a3 : Int) : impl_addBelay.F l0 l1 l2 a1 a2 a3 = (impl_railNamed.f l0 l1 l2 a2).bind fun t1 => ((slices_Contains_string_string.F l1 a1).bind fun t2 => ((impl_hasPin.f l0 l1 l2 a2 a3).bind fun t3 => ((impl_belayOf.f l0 l1 l2 a1).bind fun t4 => ((impl_belayAt.f l0 l1 l2 a2 a3).bind fun t5 => (some (addBelayN t1 t2 t3 t4 t5)))))) := by
  refine Lim.eq (g := fun k => impl_addBelay.f k l0 l1 l2 a1 a2 a3) ?_
  unfold impl_addBelay.f
  repeat' with_reducible first | exact Lim.const _ | exact slices_Contains_string_string.F_lim _ _ | refine Lim.ite ?_ ?_ | refine Lim.bind ?_ (fun _ => ?_)

noncomputable def impl_ValidRig.L2 (x0 : List (S69)) (x1 : List ByteArray) (x2 : List (S40)) (x3 : Int) : Option (Bool) := lim (fun k => impl_ValidRig.l2 k x0 x1 x2 x3)
theorem impl_ValidRig.L2_lim (x0 : List (S69)) (x1 : List ByteArray) (x2 : List (S40)) (x3 : Int) : Lim (fun k => impl_ValidRig.l2 k x0 x1 x2 x3) (impl_ValidRig.L2 x0 x1 x2 x3) := Lim.of (fun k => (impl_ValidRig.mono_l k).1 x0 x1 x2 x3)
noncomputable def impl_ValidRig.L1 (x0 : List (S69)) (x1 : List ByteArray) (x2 : List (S40)) (x3 : Int) : Option (Bool) := lim (fun k => impl_ValidRig.l1 k x0 x1 x2 x3)
theorem impl_ValidRig.L1_lim (x0 : List (S69)) (x1 : List ByteArray) (x2 : List (S40)) (x3 : Int) : Lim (fun k => impl_ValidRig.l1 k x0 x1 x2 x3) (impl_ValidRig.L1 x0 x1 x2 x3) := Lim.of (fun k => (impl_ValidRig.mono_l k).2.1 x0 x1 x2 x3)
noncomputable def impl_ValidRig.L0 (x0 : List (S69)) (x1 : List ByteArray) (x2 : List (S40)) (x3 : Int) : Option (Bool) := lim (fun k => impl_ValidRig.l0 k x0 x1 x2 x3)
theorem impl_ValidRig.L0_lim (x0 : List (S69)) (x1 : List ByteArray) (x2 : List (S40)) (x3 : Int) : Lim (fun k => impl_ValidRig.l0 k x0 x1 x2 x3) (impl_ValidRig.L0 x0 x1 x2 x3) := Lim.of (fun k => (impl_ValidRig.mono_l k).2.2 x0 x1 x2 x3)
noncomputable def impl_ValidRig.F (l0_0 : List (S69)) (l0_1 : List ByteArray) (l0_2 : List (S40)) : Option (Bool) := lim (fun k => impl_ValidRig.f k l0_0 l0_1 l0_2)
theorem impl_ValidRig.F_lim (l0_0 : List (S69)) (l0_1 : List ByteArray) (l0_2 : List (S40)) : Lim (fun k => impl_ValidRig.f k l0_0 l0_1 l0_2) (impl_ValidRig.F l0_0 l0_1 l0_2) := Lim.of (fun k => impl_ValidRig.mono l0_0 l0_1 l0_2 k)
theorem impl_ValidRig.L2_eq (x0 : List (S69)) (x1 : List ByteArray) (x2 : List (S40)) (x3 : Int) : impl_ValidRig.L2 x0 x1 x2 x3 = if x3 < (x2.length : Int) then (if 0 ≤ x3 then ((impl_addBelay.F x0 x1 (x2.take x3.toNat) ((rd_T40 x2 x3).f0) ((rd_T40 x2 x3).f1) ((rd_T40 x2 x3).f2)).bind fun t1 => (if t1 = 0 then (impl_ValidRig.L2 x0 x1 x2 (wrap64 (x3 + 1))) else (some false))) else (none)) else (some true) := by
  refine Lim.next (fun k => (impl_ValidRig.mono_l k).1 x0 x1 x2 x3) ?_
  simp only [impl_ValidRig.l2]
  repeat' with_reducible first | exact Lim.const _ | exact impl_ValidRig.L2_lim _ _ _ _ | exact impl_addBelay.F_lim _ _ _ _ _ _ | refine Lim.ite ?_ ?_ | refine Lim.bind ?_ (fun _ => ?_)
theorem impl_ValidRig.L1_eq (x0 : List (S69)) (x1 : List ByteArray) (x2 : List (S40)) (x3 : Int) : impl_ValidRig.L1 x0 x1 x2 x3 = if x3 < (x1.length : Int) then (if 0 ≤ x3 then ((impl_addLine.F (x1.take x3.toNat) (rdOf ByteArray.empty x1 x3)).bind fun t1 => (if t1 = 0 then (impl_ValidRig.L1 x0 x1 x2 (wrap64 (x3 + 1))) else (some false))) else (none)) else (impl_ValidRig.L2 x0 x1 x2 0) := by
  refine Lim.next (fun k => (impl_ValidRig.mono_l k).2.1 x0 x1 x2 x3) ?_
  simp only [impl_ValidRig.l1]
  repeat' with_reducible first | exact Lim.const _ | exact impl_ValidRig.L1_lim _ _ _ _ | exact impl_ValidRig.L2_lim _ _ _ _ | exact impl_addLine.F_lim _ _ | refine Lim.ite ?_ ?_ | refine Lim.bind ?_ (fun _ => ?_)
theorem impl_ValidRig.L0_eq (x0 : List (S69)) (x1 : List ByteArray) (x2 : List (S40)) (x3 : Int) : impl_ValidRig.L0 x0 x1 x2 x3 = if x3 < (x0.length : Int) then (if 0 ≤ x3 then ((impl_addRail.F (x0.take x3.toNat) ((rd_T69 x0 x3).f0) ((rd_T69 x0 x3).f1) ((rd_T69 x0 x3).f2)).bind fun t1 => (if t1 = 0 then (impl_ValidRig.L0 x0 x1 x2 (wrap64 (x3 + 1))) else (some false))) else (none)) else (impl_ValidRig.L1 x0 x1 x2 0) := by
  refine Lim.next (fun k => (impl_ValidRig.mono_l k).2.2 x0 x1 x2 x3) ?_
  simp only [impl_ValidRig.l0]
  repeat' with_reducible first | exact Lim.const _ | exact impl_ValidRig.L0_lim _ _ _ _ | exact impl_ValidRig.L1_lim _ _ _ _ | exact impl_addRail.F_lim _ _ _ _ | refine Lim.ite ?_ ?_ | refine Lim.bind ?_ (fun _ => ?_)
theorem impl_ValidRig.F_eq (l0_0 : List (S69)) (l0_1 : List ByteArray) (l0_2 : List (S40)) : impl_ValidRig.F l0_0 l0_1 l0_2 = if l0_0.length ≤ 1048576 ∧ l0_1.length ≤ 1048576 ∧ l0_2.length ≤ 1048576 then (impl_ValidRig.L0 l0_0 l0_1 l0_2 0) else (none) := by
  refine Lim.eq (g := fun k => impl_ValidRig.f k l0_0 l0_1 l0_2) ?_
  unfold impl_ValidRig.f
  repeat' with_reducible first | exact Lim.const _ | exact impl_ValidRig.L0_lim _ _ _ _ | refine Lim.ite ?_ ?_ | refine Lim.bind ?_ (fun _ => ?_)

noncomputable def impl_MoveLine.J0 (x13 : Bool) (x301000 : List (S69)) (x301001 : List ByteArray) (x301002 : List (S40)) (x302000 x302001 : ByteArray) (x302002 : Int) : Option ((List (S69)) × List ByteArray × (List (S40)) × Int) := lim (fun k => impl_MoveLine.j0 k x13 x301000 x301001 x301002 x302000 x302001 x302002)
theorem impl_MoveLine.J0_lim (x13 : Bool) (x301000 : List (S69)) (x301001 : List ByteArray) (x301002 : List (S40)) (x302000 x302001 : ByteArray) (x302002 : Int) : Lim (fun k => impl_MoveLine.j0 k x13 x301000 x301001 x301002 x302000 x302001 x302002) (impl_MoveLine.J0 x13 x301000 x301001 x301002 x302000 x302001 x302002) := Lim.of (fun k => (impl_MoveLine.mono_l k) x13 x301000 x301001 x301002 x302000 x302001 x302002)
noncomputable def impl_MoveLine.F (l0_0 : List (S69)) (l0_1 : List ByteArray) (l0_2 : List (S40)) (a1_0 a1_1 : ByteArray) (a1_2 : Int) : Option ((List (S69)) × List ByteArray × (List (S40)) × Int) := lim (fun k => impl_MoveLine.f k l0_0 l0_1 l0_2 a1_0 a1_1 a1_2)
theorem impl_MoveLine.F_lim (l0_0 : List (S69)) (l0_1 : List ByteArray) (l0_2 : List (S40)) (a1_0 a1_1 : ByteArray) (a1_2 : Int) : Lim (fun k => impl_MoveLine.f k l0_0 l0_1 l0_2 a1_0 a1_1 a1_2) (impl_MoveLine.F l0_0 l0_1 l0_2 a1_0 a1_1 a1_2) := Lim.of (fun k => impl_MoveLine.mono l0_0 l0_1 l0_2 a1_0 a1_1 a1_2 k)
theorem impl_MoveLine.J0_eq (x13 : Bool) (x301000 : List (S69)) (x301001 : List ByteArray) (x301002 : List (S40)) (x302000 x302001 : ByteArray) (x302002 : Int) : impl_MoveLine.J0 x13 x301000 x301001 x301002 x302000 x302001 x302002 = if x13 = true then (some (([] : List (S69)), ([] : List ByteArray), ([] : List (S40)), 2)) else ((impl_belayAt.f x301000 x301001 x301002 x302001 x302002).bind fun t306 => (if t306 ≥ 0 then (some (([] : List (S69)), ([] : List ByteArray), ([] : List (S40)), 9)) else ((impl_copyRig.f x301000 x301001 x301002).bind fun bt307 => ((impl_belayOf.f x301000 x301001 x301002 x302000).bind fun t317 => (if t317 ≥ 0 then (if 0 ≤ t317 then (if t317 < (bt307.2.2.length : Int) then (some (bt307.1, bt307.2.1, (bt307.2.2.set (t317 : Int).toNat (⟨x302000, x302001, x302002⟩ : S40)), 0)) else (none)) else (none)) else (if bt307.2.2.length < 3518437208883 then (some (bt307.1, bt307.2.1, (bt307.2.2 ++ [(⟨x302000, x302001, x302002⟩ : S40)]), 0)) else (none))))))) := by
  refine Lim.next (fun k => (impl_MoveLine.mono_l k) x13 x301000 x301001 x301002 x302000 x302001 x302002) ?_
  simp only [impl_MoveLine.j0]
  repeat' with_reducible first | exact Lim.const _ | refine Lim.ite ?_ ?_ | refine Lim.bind ?_ (fun _ => ?_)
theorem impl_MoveLine.F_eq (l0_0 : List (S69)) (l0_1 : List ByteArray) (l0_2 : List (S40)) (a1_0 a1_1 : ByteArray) (a1_2 : Int) : impl_MoveLine.F l0_0 l0_1 l0_2 a1_0 a1_1 a1_2 = (impl_ValidRig.F l0_0 l0_1 l0_2).bind fun t303 => (if t303 = true then ((slices_Contains_string_string.F l0_1 a1_0).bind fun t304 => (if t304 = true then ((impl_hasPin.f l0_0 l0_1 l0_2 a1_1 a1_2).bind fun t305 => (impl_MoveLine.J0 (!t305) l0_0 l0_1 l0_2 a1_0 a1_1 a1_2)) else (impl_MoveLine.J0 true l0_0 l0_1 l0_2 a1_0 a1_1 a1_2))) else (some (([] : List (S69)), ([] : List ByteArray), ([] : List (S40)), 1))) := by
  refine Lim.eq (g := fun k => impl_MoveLine.f k l0_0 l0_1 l0_2 a1_0 a1_1 a1_2) ?_
  unfold impl_MoveLine.f
  repeat' with_reducible first | exact Lim.const _ | exact impl_MoveLine.J0_lim _ _ _ _ _ _ _ | exact impl_ValidRig.F_lim _ _ _ | exact slices_Contains_string_string.F_lim _ _ | refine Lim.ite ?_ ?_ | refine Lim.bind ?_ (fun _ => ?_)

noncomputable def laws_heldStringS.L0 (x0 : List ByteArray) (x1 x5 : Int) : Option (Int) := lim (fun k => laws_heldStringS.l0 k x0 x1 x5)
theorem laws_heldStringS.L0_lim (x0 : List ByteArray) (x1 x5 : Int) : Lim (fun k => laws_heldStringS.l0 k x0 x1 x5) (laws_heldStringS.L0 x0 x1 x5) := Lim.of (fun k => (laws_heldStringS.mono_l k) x0 x1 x5)
noncomputable def laws_heldStringS.F (l0 : List ByteArray) (a1 : Int) : Option (Int) := lim (fun k => laws_heldStringS.f k l0 a1)
theorem laws_heldStringS.F_lim (l0 : List ByteArray) (a1 : Int) : Lim (fun k => laws_heldStringS.f k l0 a1) (laws_heldStringS.F l0 a1) := Lim.of (fun k => laws_heldStringS.mono l0 a1 k)
theorem laws_heldStringS.L0_eq (x0 : List ByteArray) (x1 x5 : Int) : laws_heldStringS.L0 x0 x1 x5 = if x5 < (x0.length : Int) then (if 0 ≤ x5 then ((laws_markText.F x1).bind fun t323 => (if (rdOf ByteArray.empty x0 x5).toList = t323.toList then (laws_heldStringS.L0 x0 (wrap64 (x1 + 1)) (wrap64 (x5 + 1))) else (some (-1)))) else (none)) else (some x1) := by
  refine Lim.next (fun k => (laws_heldStringS.mono_l k) x0 x1 x5) ?_
  simp only [laws_heldStringS.l0]
  repeat' with_reducible first | exact Lim.const _ | exact laws_heldStringS.L0_lim _ _ _ | exact laws_markText.F_lim _ | refine Lim.ite ?_ ?_ | refine Lim.bind ?_ (fun _ => ?_)
theorem laws_heldStringS.F_eq (l0 : List ByteArray) (a1 : Int) : laws_heldStringS.F l0 a1 = laws_heldStringS.L0 l0 a1 0 := by
  refine Lim.eq (g := fun k => laws_heldStringS.f k l0 a1) ?_
  unfold laws_heldStringS.f
  repeat' with_reducible first | exact Lim.const _ | exact laws_heldStringS.L0_lim _ _ _ | refine Lim.ite ?_ ?_ | refine Lim.bind ?_ (fun _ => ?_)

noncomputable def laws_heldRailS.L0 (x0 : List (S69)) (x1 x5 : Int) : Option (Int) := lim (fun k => laws_heldRailS.l0 k x0 x1 x5)
theorem laws_heldRailS.L0_lim (x0 : List (S69)) (x1 x5 : Int) : Lim (fun k => laws_heldRailS.l0 k x0 x1 x5) (laws_heldRailS.L0 x0 x1 x5) := Lim.of (fun k => (laws_heldRailS.mono_l k) x0 x1 x5)
noncomputable def laws_heldRailS.F (l0 : List (S69)) (a1 : Int) : Option (Int) := lim (fun k => laws_heldRailS.f k l0 a1)
theorem laws_heldRailS.F_lim (l0 : List (S69)) (a1 : Int) : Lim (fun k => laws_heldRailS.f k l0 a1) (laws_heldRailS.F l0 a1) := Lim.of (fun k => laws_heldRailS.mono l0 a1 k)
theorem laws_heldRailS.L0_eq (x0 : List (S69)) (x1 x5 : Int) : laws_heldRailS.L0 x0 x1 x5 = if x5 < (x0.length : Int) then (if 0 ≤ x5 then ((laws_markText.F x1).bind fun t325 => (if ((rd_T69 x0 x5).f0).toList = t325.toList then ((laws_markText.F (wrap64 (x1 + 1))).bind fun t327 => (if ((rd_T69 x0 x5).f1).toList = t327.toList then (if ((rd_T69 x0 x5).f2) = (wrap64 ((wrap64 (x1 + 1)) + 1)) then (laws_heldRailS.L0 x0 (wrap64 ((wrap64 ((wrap64 (x1 + 1)) + 1)) + 1)) (wrap64 (x5 + 1))) else (some (-1))) else (some (-1)))) else (some (-1)))) else (none)) else (some x1) := by
  refine Lim.next (fun k => (laws_heldRailS.mono_l k) x0 x1 x5) ?_
  simp only [laws_heldRailS.l0]
  repeat' with_reducible first | exact Lim.const _ | exact laws_heldRailS.L0_lim _ _ _ | exact laws_markText.F_lim _ | refine Lim.ite ?_ ?_ | refine Lim.bind ?_ (fun _ => ?_)
theorem laws_heldRailS.F_eq (l0 : List (S69)) (a1 : Int) : laws_heldRailS.F l0 a1 = laws_heldRailS.L0 l0 a1 0 := by
  refine Lim.eq (g := fun k => laws_heldRailS.f k l0 a1) ?_
  unfold laws_heldRailS.f
  repeat' with_reducible first | exact Lim.const _ | exact laws_heldRailS.L0_lim _ _ _ | refine Lim.ite ?_ ?_ | refine Lim.bind ?_ (fun _ => ?_)

noncomputable def laws_heldBelayS.L0 (x0 : List (S40)) (x1 x5 : Int) : Option (Int) := lim (fun k => laws_heldBelayS.l0 k x0 x1 x5)
theorem laws_heldBelayS.L0_lim (x0 : List (S40)) (x1 x5 : Int) : Lim (fun k => laws_heldBelayS.l0 k x0 x1 x5) (laws_heldBelayS.L0 x0 x1 x5) := Lim.of (fun k => (laws_heldBelayS.mono_l k) x0 x1 x5)
noncomputable def laws_heldBelayS.F (l0 : List (S40)) (a1 : Int) : Option (Int) := lim (fun k => laws_heldBelayS.f k l0 a1)
theorem laws_heldBelayS.F_lim (l0 : List (S40)) (a1 : Int) : Lim (fun k => laws_heldBelayS.f k l0 a1) (laws_heldBelayS.F l0 a1) := Lim.of (fun k => laws_heldBelayS.mono l0 a1 k)
theorem laws_heldBelayS.L0_eq (x0 : List (S40)) (x1 x5 : Int) : laws_heldBelayS.L0 x0 x1 x5 = if x5 < (x0.length : Int) then (if 0 ≤ x5 then ((laws_markText.F x1).bind fun t330 => (if ((rd_T40 x0 x5).f0).toList = t330.toList then ((laws_markText.F (wrap64 (x1 + 1))).bind fun t332 => (if ((rd_T40 x0 x5).f1).toList = t332.toList then (if ((rd_T40 x0 x5).f2) = (wrap64 ((wrap64 (x1 + 1)) + 1)) then (laws_heldBelayS.L0 x0 (wrap64 ((wrap64 ((wrap64 (x1 + 1)) + 1)) + 1)) (wrap64 (x5 + 1))) else (some (-1))) else (some (-1)))) else (some (-1)))) else (none)) else (some x1) := by
  refine Lim.next (fun k => (laws_heldBelayS.mono_l k) x0 x1 x5) ?_
  simp only [laws_heldBelayS.l0]
  repeat' with_reducible first | exact Lim.const _ | exact laws_heldBelayS.L0_lim _ _ _ | exact laws_markText.F_lim _ | refine Lim.ite ?_ ?_ | refine Lim.bind ?_ (fun _ => ?_)
theorem laws_heldBelayS.F_eq (l0 : List (S40)) (a1 : Int) : laws_heldBelayS.F l0 a1 = laws_heldBelayS.L0 l0 a1 0 := by
  refine Lim.eq (g := fun k => laws_heldBelayS.f k l0 a1) ?_
  unfold laws_heldBelayS.f
  repeat' with_reducible first | exact Lim.const _ | exact laws_heldBelayS.L0_lim _ _ _ | refine Lim.ite ?_ ?_ | refine Lim.bind ?_ (fun _ => ?_)

noncomputable def laws_heldRig.F (l0_0 : List (S69)) (l0_1 : List ByteArray) (l0_2 : List (S40)) (a1 : Int) : Option (Int) := lim (fun k => laws_heldRig.f k l0_0 l0_1 l0_2 a1)
theorem laws_heldRig.F_lim (l0_0 : List (S69)) (l0_1 : List ByteArray) (l0_2 : List (S40)) (a1 : Int) : Lim (fun k => laws_heldRig.f k l0_0 l0_1 l0_2 a1) (laws_heldRig.F l0_0 l0_1 l0_2 a1) := Lim.of (fun k => laws_heldRig.mono l0_0 l0_1 l0_2 a1 k)
theorem laws_heldRig.F_eq (l0_0 : List (S69)) (l0_1 : List ByteArray) (l0_2 : List (S40)) (a1 : Int) : laws_heldRig.F l0_0 l0_1 l0_2 a1 = (laws_heldRailS.F l0_0 a1).bind fun t335 => (if t335 < 0 then (some (-1)) else ((laws_heldStringS.F l0_1 t335).bind fun t336 => (if t336 < 0 then (some (-1)) else ((laws_heldBelayS.F l0_2 t336).bind fun t337 => (if t337 < 0 then (some (-1)) else (some t337)))))) := by
  refine Lim.eq (g := fun k => laws_heldRig.f k l0_0 l0_1 l0_2 a1) ?_
  unfold laws_heldRig.f
  repeat' with_reducible first | exact Lim.const _ | exact laws_heldBelayS.F_lim _ _ | exact laws_heldRailS.F_lim _ _ | exact laws_heldStringS.F_lim _ _ | refine Lim.ite ?_ ?_ | refine Lim.bind ?_ (fun _ => ?_)

noncomputable def laws_FnExactMoveLine.J0 (x7 x10 : Int) (x51 : Bool) (x339000 : List (S92)) (x339001 : List ByteArray) (x339002 : List (S55)) (x340000 x340001 : ByteArray) (x340002 : Int) (x365000 : List (S69)) (x365001 : List ByteArray) (x365002 : List (S40)) (x375000 : List (S69)) (x375001 : List ByteArray) (x375002 : List (S40)) (x389000 : List (S69)) (x389001 : List ByteArray) (x389002 : List (S40)) : Option (Bool) := lim (fun k => laws_FnExactMoveLine.j0 k x7 x10 x51 x339000 x339001 x339002 x340000 x340001 x340002 x365000 x365001 x365002 x375000 x375001 x375002 x389000 x389001 x389002)
theorem laws_FnExactMoveLine.J0_lim (x7 x10 : Int) (x51 : Bool) (x339000 : List (S92)) (x339001 : List ByteArray) (x339002 : List (S55)) (x340000 x340001 : ByteArray) (x340002 : Int) (x365000 : List (S69)) (x365001 : List ByteArray) (x365002 : List (S40)) (x375000 : List (S69)) (x375001 : List ByteArray) (x375002 : List (S40)) (x389000 : List (S69)) (x389001 : List ByteArray) (x389002 : List (S40)) : Lim (fun k => laws_FnExactMoveLine.j0 k x7 x10 x51 x339000 x339001 x339002 x340000 x340001 x340002 x365000 x365001 x365002 x375000 x375001 x375002 x389000 x389001 x389002) (laws_FnExactMoveLine.J0 x7 x10 x51 x339000 x339001 x339002 x340000 x340001 x340002 x365000 x365001 x365002 x375000 x375001 x375002 x389000 x389001 x389002) := Lim.of (fun k => (laws_FnExactMoveLine.mono_l k).1 x7 x10 x51 x339000 x339001 x339002 x340000 x340001 x340002 x365000 x365001 x365002 x375000 x375001 x375002 x389000 x389001 x389002)
noncomputable def laws_FnExactMoveLine.J1 (x7 : Int) (x72 : Bool) (x339000 : List (S92)) (x339001 : List ByteArray) (x339002 : List (S55)) (x340000 x340001 : ByteArray) (x340002 : Int) (x365000 : List (S69)) (x365001 : List ByteArray) (x365002 : List (S40)) (x389000 : List (S69)) (x389001 : List ByteArray) (x389002 : List (S40)) : Option (Bool) := lim (fun k => laws_FnExactMoveLine.j1 k x7 x72 x339000 x339001 x339002 x340000 x340001 x340002 x365000 x365001 x365002 x389000 x389001 x389002)
theorem laws_FnExactMoveLine.J1_lim (x7 : Int) (x72 : Bool) (x339000 : List (S92)) (x339001 : List ByteArray) (x339002 : List (S55)) (x340000 x340001 : ByteArray) (x340002 : Int) (x365000 : List (S69)) (x365001 : List ByteArray) (x365002 : List (S40)) (x389000 : List (S69)) (x389001 : List ByteArray) (x389002 : List (S40)) : Lim (fun k => laws_FnExactMoveLine.j1 k x7 x72 x339000 x339001 x339002 x340000 x340001 x340002 x365000 x365001 x365002 x389000 x389001 x389002) (laws_FnExactMoveLine.J1 x7 x72 x339000 x339001 x339002 x340000 x340001 x340002 x365000 x365001 x365002 x389000 x389001 x389002) := Lim.of (fun k => (laws_FnExactMoveLine.mono_l k).2.1 x7 x72 x339000 x339001 x339002 x340000 x340001 x340002 x365000 x365001 x365002 x389000 x389001 x389002)
noncomputable def laws_FnExactMoveLine.J2 (x12 : Int) (x100 : Bool) (x389000 : List (S69)) (x389001 : List ByteArray) (x389002 : List (S40)) : Option (Bool) := lim (fun k => laws_FnExactMoveLine.j2 k x12 x100 x389000 x389001 x389002)
theorem laws_FnExactMoveLine.J2_lim (x12 : Int) (x100 : Bool) (x389000 : List (S69)) (x389001 : List ByteArray) (x389002 : List (S40)) : Lim (fun k => laws_FnExactMoveLine.j2 k x12 x100 x389000 x389001 x389002) (laws_FnExactMoveLine.J2 x12 x100 x389000 x389001 x389002) := Lim.of (fun k => (laws_FnExactMoveLine.mono_l k).2.2 x12 x100 x389000 x389001 x389002)
noncomputable def laws_FnExactMoveLine.F (l0_0 : List (S92)) (l0_1 : List ByteArray) (l0_2 : List (S55)) (a1_0 a1_1 : ByteArray) (a1_2 : Int) : Option (Bool) := lim (fun k => laws_FnExactMoveLine.f k l0_0 l0_1 l0_2 a1_0 a1_1 a1_2)
theorem laws_FnExactMoveLine.F_lim (l0_0 : List (S92)) (l0_1 : List ByteArray) (l0_2 : List (S55)) (a1_0 a1_1 : ByteArray) (a1_2 : Int) : Lim (fun k => laws_FnExactMoveLine.f k l0_0 l0_1 l0_2 a1_0 a1_1 a1_2) (laws_FnExactMoveLine.F l0_0 l0_1 l0_2 a1_0 a1_1 a1_2) := Lim.of (fun k => laws_FnExactMoveLine.mono l0_0 l0_1 l0_2 a1_0 a1_1 a1_2 k)
theorem laws_FnExactMoveLine.J0_eq (x7 x10 : Int) (x51 : Bool) (x339000 : List (S92)) (x339001 : List ByteArray) (x339002 : List (S55)) (x340000 x340001 : ByteArray) (x340002 : Int) (x365000 : List (S69)) (x365001 : List ByteArray) (x365002 : List (S40)) (x375000 : List (S69)) (x375001 : List ByteArray) (x375002 : List (S40)) (x389000 : List (S69)) (x389001 : List ByteArray) (x389002 : List (S40)) : laws_FnExactMoveLine.J0 x7 x10 x51 x339000 x339001 x339002 x340000 x340001 x340002 x365000 x365001 x365002 x375000 x375001 x375002 x389000 x389001 x389002 = if x51 = true then (some false) else ((laws_toRig.F x339000 x339001 x339002).bind fun bt390 => ((laws_eqRig.F x375000 x375001 x375002 bt390.1 bt390.2.1 bt390.2.2).bind fun t399 => (if t399 = true then ((laws_markRig.F x375000 x375001 x375002 1).bind fun bt400 => (if bt400.1 < 0 then (laws_FnExactMoveLine.J1 x7 true x339000 x339001 x339002 x340000 x340001 x340002 x365000 x365001 x365002 x389000 x389001 x389002) else ((laws_eqRig.F x389000 x389001 x389002 x365000 x365001 x365002).bind fun t404 => (if t404 = true then (laws_FnExactMoveLine.J1 x7 (x10 != x7) x339000 x339001 x339002 x340000 x340001 x340002 x365000 x365001 x365002 x389000 x389001 x389002) else (laws_FnExactMoveLine.J1 x7 true x339000 x339001 x339002 x340000 x340001 x340002 x365000 x365001 x365002 x389000 x389001 x389002))))) else (some false)))) := by
  refine Lim.next (fun k => (laws_FnExactMoveLine.mono_l k).1 x7 x10 x51 x339000 x339001 x339002 x340000 x340001 x340002 x365000 x365001 x365002 x375000 x375001 x375002 x389000 x389001 x389002) ?_
  simp only [laws_FnExactMoveLine.j0]
  repeat' with_reducible first | exact Lim.const _ | exact laws_FnExactMoveLine.J1_lim _ _ _ _ _ _ _ _ _ _ _ _ _ _ | exact laws_eqRig.F_lim _ _ _ _ _ _ | exact laws_markRig.F_lim _ _ _ _ | exact laws_toRig.F_lim _ _ _ | refine Lim.ite ?_ ?_ | refine Lim.bind ?_ (fun _ => ?_)
theorem laws_FnExactMoveLine.J1_eq (x7 : Int) (x72 : Bool) (x339000 : List (S92)) (x339001 : List ByteArray) (x339002 : List (S55)) (x340000 x340001 : ByteArray) (x340002 : Int) (x365000 : List (S69)) (x365001 : List ByteArray) (x365002 : List (S40)) (x389000 : List (S69)) (x389001 : List ByteArray) (x389002 : List (S40)) : laws_FnExactMoveLine.J1 x7 x72 x339000 x339001 x339002 x340000 x340001 x340002 x365000 x365001 x365002 x389000 x389001 x389002 = if x72 = true then (some false) else ((laws_markRig.F x389000 x389001 x389002 1).bind fun bt405 => ((laws_heldRig.F bt405.2.1 bt405.2.2.1 bt405.2.2.2 1).bind fun t409 => (if t409 < 0 then (some false) else (if t409 = bt405.1 then ((laws_toRig.F x339000 x339001 x339002).bind fun bt410 => ((laws_toBelay.f x340000 x340001 x340002).bind fun bt419 => ((impl_MoveLine.F bt410.1 bt410.2.1 bt410.2.2 bt419.1 bt419.2.1 bt419.2.2).bind fun bt422 => ((laws_eqRig.F bt422.1 bt422.2.1 bt422.2.2.1 x365000 x365001 x365002).bind fun t433 => (if t433 = true then (laws_FnExactMoveLine.J2 bt405.1 (bt422.2.2.2 != x7) bt405.2.1 bt405.2.2.1 bt405.2.2.2) else (laws_FnExactMoveLine.J2 bt405.1 true bt405.2.1 bt405.2.2.1 bt405.2.2.2)))))) else (some false))))) := by
  refine Lim.next (fun k => (laws_FnExactMoveLine.mono_l k).2.1 x7 x72 x339000 x339001 x339002 x340000 x340001 x340002 x365000 x365001 x365002 x389000 x389001 x389002) ?_
  simp only [laws_FnExactMoveLine.j1]
  repeat' with_reducible first | exact Lim.const _ | exact impl_MoveLine.F_lim _ _ _ _ _ _ | exact laws_FnExactMoveLine.J2_lim _ _ _ _ _ | exact laws_eqRig.F_lim _ _ _ _ _ _ | exact laws_heldRig.F_lim _ _ _ _ | exact laws_markRig.F_lim _ _ _ _ | exact laws_toRig.F_lim _ _ _ | refine Lim.ite ?_ ?_ | refine Lim.bind ?_ (fun _ => ?_)
theorem laws_FnExactMoveLine.J2_eq (x12 : Int) (x100 : Bool) (x389000 : List (S69)) (x389001 : List ByteArray) (x389002 : List (S40)) : laws_FnExactMoveLine.J2 x12 x100 x389000 x389001 x389002 = if x100 = true then (some false) else ((laws_heldRig.F x389000 x389001 x389002 1).bind fun t434 => (if t434 < 0 then (some false) else (if t434 = x12 then (some true) else (some false)))) := by
  refine Lim.next (fun k => (laws_FnExactMoveLine.mono_l k).2.2 x12 x100 x389000 x389001 x389002) ?_
  simp only [laws_FnExactMoveLine.j2]
  repeat' with_reducible first | exact Lim.const _ | exact laws_heldRig.F_lim _ _ _ _ | refine Lim.ite ?_ ?_ | refine Lim.bind ?_ (fun _ => ?_)
theorem laws_FnExactMoveLine.F_eq (l0_0 : List (S92)) (l0_1 : List ByteArray) (l0_2 : List (S55)) (a1_0 a1_1 : ByteArray) (a1_2 : Int) : laws_FnExactMoveLine.F l0_0 l0_1 l0_2 a1_0 a1_1 a1_2 = (laws_szRig.F l0_0 l0_1 l0_2 1048576).bind fun t340 => (if t340 < 0 then (some true) else ((laws_szBelay.f a1_0 a1_1 a1_2 t340).bind fun t341 => (if t341 < 0 then (some true) else ((laws_toRig.F l0_0 l0_1 l0_2).bind fun bt342 => ((laws_toBelay.f a1_0 a1_1 a1_2).bind fun bt351 => ((spec_MoveLine.F bt342.1 bt342.2.1 bt342.2.2 bt351.1 bt351.2.1 bt351.2.2).bind fun bt354 => ((laws_toRig.F l0_0 l0_1 l0_2).bind fun bt365 => ((laws_toBelay.f a1_0 a1_1 a1_2).bind fun bt375 => ((impl_MoveLine.F bt365.1 bt365.2.1 bt365.2.2 bt375.1 bt375.2.1 bt375.2.2).bind fun bt378 => ((laws_eqRig.F bt378.1 bt378.2.1 bt378.2.2.1 bt354.1 bt354.2.1 bt354.2.2.1).bind fun t389 => (if t389 = true then (laws_FnExactMoveLine.J0 bt354.2.2.2 bt378.2.2.2 (bt378.2.2.2 != bt354.2.2.2) l0_0 l0_1 l0_2 a1_0 a1_1 a1_2 bt354.1 bt354.2.1 bt354.2.2.1 bt365.1 bt365.2.1 bt365.2.2 bt378.1 bt378.2.1 bt378.2.2.1) else (laws_FnExactMoveLine.J0 bt354.2.2.2 bt378.2.2.2 true l0_0 l0_1 l0_2 a1_0 a1_1 a1_2 bt354.1 bt354.2.1 bt354.2.2.1 bt365.1 bt365.2.1 bt365.2.2 bt378.1 bt378.2.1 bt378.2.2.1)))))))))))) := by
  refine Lim.eq (g := fun k => laws_FnExactMoveLine.f k l0_0 l0_1 l0_2 a1_0 a1_1 a1_2) ?_
  unfold laws_FnExactMoveLine.f
  repeat' with_reducible first | exact Lim.const _ | exact impl_MoveLine.F_lim _ _ _ _ _ _ | exact laws_FnExactMoveLine.J0_lim _ _ _ _ _ _ _ _ _ _ _ _ _ _ _ _ _ _ | exact laws_eqRig.F_lim _ _ _ _ _ _ | exact laws_szRig.F_lim _ _ _ _ | exact laws_toRig.F_lim _ _ _ | exact spec_MoveLine.F_lim _ _ _ _ _ _ | refine Lim.ite ?_ ?_ | refine Lim.bind ?_ (fun _ => ?_)

end Go.Proofs.Ytpngklefeaolfaa.PFnExactMoveLine
