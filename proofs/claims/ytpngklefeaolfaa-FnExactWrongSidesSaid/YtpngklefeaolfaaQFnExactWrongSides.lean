/-
  Written by a program of this session (wip/tools/lims.py): the printed functions without their bound on rounds.
-/
import Derived.Test.YtpngklefeaolfaaPFnExactWrongSidesx1
import Derived.Test.YtpngklefeaolfaaPFnExactWrongSidesx2
import Derived.Test.YtpngklefeaolfaaPFnExactWrongSidesx3
import Derived.Test.YtpngklefeaolfaaPFnExactWrongSidesx4
import Derived.Test.YtpngklefeaolfaaPFnExactWrongSidesx5
import Derived.Test.YtpngklefeaolfaaPFnExactWrongSidesx6
import Derived.Test.YtpngklefeaolfaaPFnExactWrongSidesx7
import Derived.Test.YtpngklefeaolfaaPFnExactWrongSidesx8
import Derived.Test.YtpngklefeaolfaaPFnExactWrongSidesx9
import Derived.Test.YtpngklefeaolfaaPFnExactWrongSidesx10
import Derived.Test.YtpngklefeaolfaaPFnExactWrongSidesx11
import Derived.Test.YtpngklefeaolfaaPFnExactWrongSidesx12
import Derived.Test.YtpngklefeaolfaaPFnExactWrongSidesx13
import Derived.Test.YtpngklefeaolfaaKit
set_option linter.unusedVariables false
set_option linter.unusedSimpArgs false
namespace Go.Proofs.Ytpngklefeaolfaa.PFnExactWrongSides
open Go.RowKit Go.Proofs.Ytpngklefeaolfaa.Kit Go.Proofs.YtpngklefeaolfaaW.PrintWords Go.Proofs.YtpngklefeaolfaaW.PrintLast Go.Proofs.YtpngklefeaolfaaW.PrintMore

noncomputable def laws_szRailS.L0 (x0 : List (S92)) (x1 : Int) (x5 : Int) : Option (Int) := lim (fun k => laws_szRailS.l0 k x0 x1 x5)
theorem laws_szRailS.L0_lim (x0 : List (S92)) (x1 : Int) (x5 : Int) : Lim (fun k => laws_szRailS.l0 k x0 x1 x5) (laws_szRailS.L0 x0 x1 x5) := Lim.of (fun k => (laws_szRailS.mono_l k) x0 x1 x5)
noncomputable def laws_szRailS.F (l0 : List (S92)) (a1 : Int) : Option (Int) := lim (fun k => laws_szRailS.f k l0 a1)
theorem laws_szRailS.F_lim (l0 : List (S92)) (a1 : Int) : Lim (fun k => laws_szRailS.f k l0 a1) (laws_szRailS.F l0 a1) := Lim.of (fun k => laws_szRailS.mono l0 a1 k)
theorem laws_szRailS.L0_eq (x0 : List (S92)) (x1 : Int) (x5 : Int) : laws_szRailS.L0 x0 x1 x5 = if x5 < (x0.length : Int) then (if 0 ≤ x5 then ((laws_szRail.f ((rd_T92 x0 x5).f0) ((rd_T92 x0 x5).f1) ((rd_T92 x0 x5).f2) x1).bind fun t103 => (if t103 < 0 then (some (-1)) else (laws_szRailS.L0 x0 t103 (wrap64 (x5 + 1))))) else (none)) else (some x1) := by
  refine Lim.step (f := fun k => if x5 < (x0.length : Int) then (if 0 ≤ x5 then ((laws_szRail.f ((rd_T92 x0 x5).f0) ((rd_T92 x0 x5).f1) ((rd_T92 x0 x5).f2) x1).bind fun t103 => (if t103 < 0 then (some (-1)) else (laws_szRailS.l0 k x0 t103 (wrap64 (x5 + 1))))) else (none)) else (some x1)) (fun k => (laws_szRailS.mono_l k) x0 x1 x5) (fun k => by simp only [laws_szRailS.l0]) ?_
  repeat' first
    | with_reducible exact Lim.const _
    | with_reducible exact laws_szRailS.L0_lim _ _ _
    | with_reducible refine Lim.ite ?_ ?_
    | with_reducible refine Lim.bind ?_ (fun _ => ?_)
theorem laws_szRailS.F_eq (l0 : List (S92)) (a1 : Int) : laws_szRailS.F l0 a1 = if (wrap64 (a1 - (l0.length : Int))) < 0 then (some (-1)) else (laws_szRailS.L0 l0 (wrap64 (a1 - (l0.length : Int))) 0) := by
  refine Lim.eq (g := fun k => laws_szRailS.f k l0 a1) ?_
  unfold laws_szRailS.f
  repeat' first
    | with_reducible exact Lim.const _
    | with_reducible exact laws_szRailS.L0_lim _ _ _
    | with_reducible refine Lim.ite ?_ ?_
    | with_reducible refine Lim.bind ?_ (fun _ => ?_)

noncomputable def laws_szStringS.L0 (x0 : List ByteArray) (x1 : Int) (x5 : Int) : Option (Int) := lim (fun k => laws_szStringS.l0 k x0 x1 x5)
theorem laws_szStringS.L0_lim (x0 : List ByteArray) (x1 : Int) (x5 : Int) : Lim (fun k => laws_szStringS.l0 k x0 x1 x5) (laws_szStringS.L0 x0 x1 x5) := Lim.of (fun k => (laws_szStringS.mono_l k) x0 x1 x5)
noncomputable def laws_szStringS.F (l0 : List ByteArray) (a1 : Int) : Option (Int) := lim (fun k => laws_szStringS.f k l0 a1)
theorem laws_szStringS.F_lim (l0 : List ByteArray) (a1 : Int) : Lim (fun k => laws_szStringS.f k l0 a1) (laws_szStringS.F l0 a1) := Lim.of (fun k => laws_szStringS.mono l0 a1 k)
theorem laws_szStringS.L0_eq (x0 : List ByteArray) (x1 : Int) (x5 : Int) : laws_szStringS.L0 x0 x1 x5 = if x5 < (x0.length : Int) then (if 0 ≤ x5 then (if (wrap64 (x1 - ((rdOf ByteArray.empty x0 x5).size : Int))) < 0 then (some (-1)) else (laws_szStringS.L0 x0 (wrap64 (x1 - ((rdOf ByteArray.empty x0 x5).size : Int))) (wrap64 (x5 + 1)))) else (none)) else (some x1) := by
  refine Lim.step (f := fun k => if x5 < (x0.length : Int) then (if 0 ≤ x5 then (if (wrap64 (x1 - ((rdOf ByteArray.empty x0 x5).size : Int))) < 0 then (some (-1)) else (laws_szStringS.l0 k x0 (wrap64 (x1 - ((rdOf ByteArray.empty x0 x5).size : Int))) (wrap64 (x5 + 1)))) else (none)) else (some x1)) (fun k => (laws_szStringS.mono_l k) x0 x1 x5) (fun k => by simp only [laws_szStringS.l0]) ?_
  repeat' first
    | with_reducible exact Lim.const _
    | with_reducible exact laws_szStringS.L0_lim _ _ _
    | with_reducible refine Lim.ite ?_ ?_
    | with_reducible refine Lim.bind ?_ (fun _ => ?_)
theorem laws_szStringS.F_eq (l0 : List ByteArray) (a1 : Int) : laws_szStringS.F l0 a1 = if (wrap64 (a1 - (l0.length : Int))) < 0 then (some (-1)) else (laws_szStringS.L0 l0 (wrap64 (a1 - (l0.length : Int))) 0) := by
  refine Lim.eq (g := fun k => laws_szStringS.f k l0 a1) ?_
  unfold laws_szStringS.f
  repeat' first
    | with_reducible exact Lim.const _
    | with_reducible exact laws_szStringS.L0_lim _ _ _
    | with_reducible refine Lim.ite ?_ ?_
    | with_reducible refine Lim.bind ?_ (fun _ => ?_)

noncomputable def laws_szBelayS.L0 (x0 : List (S55)) (x1 : Int) (x5 : Int) : Option (Int) := lim (fun k => laws_szBelayS.l0 k x0 x1 x5)
theorem laws_szBelayS.L0_lim (x0 : List (S55)) (x1 : Int) (x5 : Int) : Lim (fun k => laws_szBelayS.l0 k x0 x1 x5) (laws_szBelayS.L0 x0 x1 x5) := Lim.of (fun k => (laws_szBelayS.mono_l k) x0 x1 x5)
noncomputable def laws_szBelayS.F (l0 : List (S55)) (a1 : Int) : Option (Int) := lim (fun k => laws_szBelayS.f k l0 a1)
theorem laws_szBelayS.F_lim (l0 : List (S55)) (a1 : Int) : Lim (fun k => laws_szBelayS.f k l0 a1) (laws_szBelayS.F l0 a1) := Lim.of (fun k => laws_szBelayS.mono l0 a1 k)
theorem laws_szBelayS.L0_eq (x0 : List (S55)) (x1 : Int) (x5 : Int) : laws_szBelayS.L0 x0 x1 x5 = if x5 < (x0.length : Int) then (if 0 ≤ x5 then ((laws_szBelay.f ((rd_T55 x0 x5).f0) ((rd_T55 x0 x5).f1) ((rd_T55 x0 x5).f2) x1).bind fun t107 => (if t107 < 0 then (some (-1)) else (laws_szBelayS.L0 x0 t107 (wrap64 (x5 + 1))))) else (none)) else (some x1) := by
  refine Lim.step (f := fun k => if x5 < (x0.length : Int) then (if 0 ≤ x5 then ((laws_szBelay.f ((rd_T55 x0 x5).f0) ((rd_T55 x0 x5).f1) ((rd_T55 x0 x5).f2) x1).bind fun t107 => (if t107 < 0 then (some (-1)) else (laws_szBelayS.l0 k x0 t107 (wrap64 (x5 + 1))))) else (none)) else (some x1)) (fun k => (laws_szBelayS.mono_l k) x0 x1 x5) (fun k => by simp only [laws_szBelayS.l0]) ?_
  repeat' first
    | with_reducible exact Lim.const _
    | with_reducible exact laws_szBelayS.L0_lim _ _ _
    | with_reducible refine Lim.ite ?_ ?_
    | with_reducible refine Lim.bind ?_ (fun _ => ?_)
theorem laws_szBelayS.F_eq (l0 : List (S55)) (a1 : Int) : laws_szBelayS.F l0 a1 = if (wrap64 (a1 - (l0.length : Int))) < 0 then (some (-1)) else (laws_szBelayS.L0 l0 (wrap64 (a1 - (l0.length : Int))) 0) := by
  refine Lim.eq (g := fun k => laws_szBelayS.f k l0 a1) ?_
  unfold laws_szBelayS.f
  repeat' first
    | with_reducible exact Lim.const _
    | with_reducible exact laws_szBelayS.L0_lim _ _ _
    | with_reducible refine Lim.ite ?_ ?_
    | with_reducible refine Lim.bind ?_ (fun _ => ?_)

noncomputable def laws_szRig.F (l0_0 : List (S92)) (l0_1 : List ByteArray) (l0_2 : List (S55)) (a1 : Int) : Option (Int) := lim (fun k => laws_szRig.f k l0_0 l0_1 l0_2 a1)
theorem laws_szRig.F_lim (l0_0 : List (S92)) (l0_1 : List ByteArray) (l0_2 : List (S55)) (a1 : Int) : Lim (fun k => laws_szRig.f k l0_0 l0_1 l0_2 a1) (laws_szRig.F l0_0 l0_1 l0_2 a1) := Lim.of (fun k => laws_szRig.mono l0_0 l0_1 l0_2 a1 k)
theorem laws_szRig.F_eq (l0_0 : List (S92)) (l0_1 : List ByteArray) (l0_2 : List (S55)) (a1 : Int) : laws_szRig.F l0_0 l0_1 l0_2 a1 = (laws_szRailS.F l0_0 a1).bind fun t109 => (if t109 < 0 then (some (-1)) else ((laws_szStringS.F l0_1 t109).bind fun t110 => (if t110 < 0 then (some (-1)) else ((laws_szBelayS.F l0_2 t110).bind fun t111 => (if t111 < 0 then (some (-1)) else (some t111)))))) := by
  refine Lim.eq (g := fun k => laws_szRig.f k l0_0 l0_1 l0_2 a1) ?_
  unfold laws_szRig.f
  repeat' first
    | with_reducible exact Lim.const _
    | with_reducible exact laws_szBelayS.F_lim _ _
    | with_reducible exact laws_szRailS.F_lim _ _
    | with_reducible exact laws_szStringS.F_lim _ _
    | with_reducible refine Lim.ite ?_ ?_
    | with_reducible refine Lim.bind ?_ (fun _ => ?_)

noncomputable def laws_toRailS.L0 (x0 : List (S92)) (x3 : List (S69)) (x4 : Int) : Option ((List (S69))) := lim (fun k => laws_toRailS.l0 k x0 x3 x4)
theorem laws_toRailS.L0_lim (x0 : List (S92)) (x3 : List (S69)) (x4 : Int) : Lim (fun k => laws_toRailS.l0 k x0 x3 x4) (laws_toRailS.L0 x0 x3 x4) := Lim.of (fun k => (laws_toRailS.mono_l k) x0 x3 x4)
noncomputable def laws_toRailS.F (l0 : List (S92)) : Option ((List (S69))) := lim (fun k => laws_toRailS.f k l0)
theorem laws_toRailS.F_lim (l0 : List (S92)) : Lim (fun k => laws_toRailS.f k l0) (laws_toRailS.F l0) := Lim.of (fun k => laws_toRailS.mono l0 k)
theorem laws_toRailS.L0_eq (x0 : List (S92)) (x3 : List (S69)) (x4 : Int) : laws_toRailS.L0 x0 x3 x4 = if x4 < (x0.length : Int) then (if 0 ≤ x4 then ((laws_toRail.f ((rd_T92 x0 x4).f0) ((rd_T92 x0 x4).f1) ((rd_T92 x0 x4).f2)).bind fun bt119 => (if x4 < (x3.length : Int) then (laws_toRailS.L0 x0 (x3.set (x4 : Int).toNat (⟨bt119.1, bt119.2.1, bt119.2.2⟩ : S69)) (wrap64 (x4 + 1))) else (none))) else (none)) else (some x3) := by
  refine Lim.step (f := fun k => if x4 < (x0.length : Int) then (if 0 ≤ x4 then ((laws_toRail.f ((rd_T92 x0 x4).f0) ((rd_T92 x0 x4).f1) ((rd_T92 x0 x4).f2)).bind fun bt119 => (if x4 < (x3.length : Int) then (laws_toRailS.l0 k x0 (x3.set (x4 : Int).toNat (⟨bt119.1, bt119.2.1, bt119.2.2⟩ : S69)) (wrap64 (x4 + 1))) else (none))) else (none)) else (some x3)) (fun k => (laws_toRailS.mono_l k) x0 x3 x4) (fun k => by simp only [laws_toRailS.l0]) ?_
  repeat' first
    | with_reducible exact Lim.const _
    | with_reducible exact laws_toRailS.L0_lim _ _ _
    | with_reducible refine Lim.ite ?_ ?_
    | with_reducible refine Lim.bind ?_ (fun _ => ?_)
theorem laws_toRailS.F_eq (l0 : List (S92)) : laws_toRailS.F l0 = if 0 ≤ (l0.length : Int) then (if ((l0.length : Int) : Int).toNat ≤ 7036874417766 then (laws_toRailS.L0 l0 (List.replicate ((l0.length : Int) : Int).toNat z69) 0) else (none)) else (none) := by
  refine Lim.eq (g := fun k => laws_toRailS.f k l0) ?_
  unfold laws_toRailS.f
  repeat' first
    | with_reducible exact Lim.const _
    | with_reducible exact laws_toRailS.L0_lim _ _ _
    | with_reducible refine Lim.ite ?_ ?_
    | with_reducible refine Lim.bind ?_ (fun _ => ?_)

noncomputable def laws_toStringS.L0 (x0 : List ByteArray) (x3 : List ByteArray) (x4 : Int) : Option (List ByteArray) := lim (fun k => laws_toStringS.l0 k x0 x3 x4)
theorem laws_toStringS.L0_lim (x0 : List ByteArray) (x3 : List ByteArray) (x4 : Int) : Lim (fun k => laws_toStringS.l0 k x0 x3 x4) (laws_toStringS.L0 x0 x3 x4) := Lim.of (fun k => (laws_toStringS.mono_l k) x0 x3 x4)
noncomputable def laws_toStringS.F (l0 : List ByteArray) : Option (List ByteArray) := lim (fun k => laws_toStringS.f k l0)
theorem laws_toStringS.F_lim (l0 : List ByteArray) : Lim (fun k => laws_toStringS.f k l0) (laws_toStringS.F l0) := Lim.of (fun k => laws_toStringS.mono l0 k)
theorem laws_toStringS.L0_eq (x0 : List ByteArray) (x3 : List ByteArray) (x4 : Int) : laws_toStringS.L0 x0 x3 x4 = if x4 < (x0.length : Int) then (if 0 ≤ x4 then (if x4 < (x3.length : Int) then (laws_toStringS.L0 x0 (x3.set (x4 : Int).toNat (rdOf ByteArray.empty x0 x4)) (wrap64 (x4 + 1))) else (none)) else (none)) else (some x3) := by
  refine Lim.step (f := fun k => if x4 < (x0.length : Int) then (if 0 ≤ x4 then (if x4 < (x3.length : Int) then (laws_toStringS.l0 k x0 (x3.set (x4 : Int).toNat (rdOf ByteArray.empty x0 x4)) (wrap64 (x4 + 1))) else (none)) else (none)) else (some x3)) (fun k => (laws_toStringS.mono_l k) x0 x3 x4) (fun k => by simp only [laws_toStringS.l0]) ?_
  repeat' first
    | with_reducible exact Lim.const _
    | with_reducible exact laws_toStringS.L0_lim _ _ _
    | with_reducible refine Lim.ite ?_ ?_
    | with_reducible refine Lim.bind ?_ (fun _ => ?_)
theorem laws_toStringS.F_eq (l0 : List ByteArray) : laws_toStringS.F l0 = if 0 ≤ (l0.length : Int) then (if ((l0.length : Int) : Int).toNat ≤ 17592186044416 then (laws_toStringS.L0 l0 (List.replicate ((l0.length : Int) : Int).toNat (⟨#[]⟩ : ByteArray)) 0) else (none)) else (none) := by
  refine Lim.eq (g := fun k => laws_toStringS.f k l0) ?_
  unfold laws_toStringS.f
  repeat' first
    | with_reducible exact Lim.const _
    | with_reducible exact laws_toStringS.L0_lim _ _ _
    | with_reducible refine Lim.ite ?_ ?_
    | with_reducible refine Lim.bind ?_ (fun _ => ?_)

noncomputable def laws_toBelayS.L0 (x0 : List (S55)) (x3 : List (S40)) (x4 : Int) : Option ((List (S40))) := lim (fun k => laws_toBelayS.l0 k x0 x3 x4)
theorem laws_toBelayS.L0_lim (x0 : List (S55)) (x3 : List (S40)) (x4 : Int) : Lim (fun k => laws_toBelayS.l0 k x0 x3 x4) (laws_toBelayS.L0 x0 x3 x4) := Lim.of (fun k => (laws_toBelayS.mono_l k) x0 x3 x4)
noncomputable def laws_toBelayS.F (l0 : List (S55)) : Option ((List (S40))) := lim (fun k => laws_toBelayS.f k l0)
theorem laws_toBelayS.F_lim (l0 : List (S55)) : Lim (fun k => laws_toBelayS.f k l0) (laws_toBelayS.F l0) := Lim.of (fun k => laws_toBelayS.mono l0 k)
theorem laws_toBelayS.L0_eq (x0 : List (S55)) (x3 : List (S40)) (x4 : Int) : laws_toBelayS.L0 x0 x3 x4 = if x4 < (x0.length : Int) then (if 0 ≤ x4 then ((laws_toBelay.f ((rd_T55 x0 x4).f0) ((rd_T55 x0 x4).f1) ((rd_T55 x0 x4).f2)).bind fun bt135 => (if x4 < (x3.length : Int) then (laws_toBelayS.L0 x0 (x3.set (x4 : Int).toNat (⟨bt135.1, bt135.2.1, bt135.2.2⟩ : S40)) (wrap64 (x4 + 1))) else (none))) else (none)) else (some x3) := by
  refine Lim.step (f := fun k => if x4 < (x0.length : Int) then (if 0 ≤ x4 then ((laws_toBelay.f ((rd_T55 x0 x4).f0) ((rd_T55 x0 x4).f1) ((rd_T55 x0 x4).f2)).bind fun bt135 => (if x4 < (x3.length : Int) then (laws_toBelayS.l0 k x0 (x3.set (x4 : Int).toNat (⟨bt135.1, bt135.2.1, bt135.2.2⟩ : S40)) (wrap64 (x4 + 1))) else (none))) else (none)) else (some x3)) (fun k => (laws_toBelayS.mono_l k) x0 x3 x4) (fun k => by simp only [laws_toBelayS.l0]) ?_
  repeat' first
    | with_reducible exact Lim.const _
    | with_reducible exact laws_toBelayS.L0_lim _ _ _
    | with_reducible refine Lim.ite ?_ ?_
    | with_reducible refine Lim.bind ?_ (fun _ => ?_)
theorem laws_toBelayS.F_eq (l0 : List (S55)) : laws_toBelayS.F l0 = if 0 ≤ (l0.length : Int) then (if ((l0.length : Int) : Int).toNat ≤ 7036874417766 then (laws_toBelayS.L0 l0 (List.replicate ((l0.length : Int) : Int).toNat z40) 0) else (none)) else (none) := by
  refine Lim.eq (g := fun k => laws_toBelayS.f k l0) ?_
  unfold laws_toBelayS.f
  repeat' first
    | with_reducible exact Lim.const _
    | with_reducible exact laws_toBelayS.L0_lim _ _ _
    | with_reducible refine Lim.ite ?_ ?_
    | with_reducible refine Lim.bind ?_ (fun _ => ?_)

noncomputable def laws_toRig.F (l0_0 : List (S92)) (l0_1 : List ByteArray) (l0_2 : List (S55)) : Option ((List (S69)) × List ByteArray × (List (S40))) := lim (fun k => laws_toRig.f k l0_0 l0_1 l0_2)
theorem laws_toRig.F_lim (l0_0 : List (S92)) (l0_1 : List ByteArray) (l0_2 : List (S55)) : Lim (fun k => laws_toRig.f k l0_0 l0_1 l0_2) (laws_toRig.F l0_0 l0_1 l0_2) := Lim.of (fun k => laws_toRig.mono l0_0 l0_1 l0_2 k)
theorem laws_toRig.F_eq (l0_0 : List (S92)) (l0_1 : List ByteArray) (l0_2 : List (S55)) : laws_toRig.F l0_0 l0_1 l0_2 = (laws_toRailS.F l0_0).bind fun t142 => ((laws_toStringS.F l0_1).bind fun t145 => ((laws_toBelayS.F l0_2).bind fun t148 => (some (t142, t145, t148)))) := by
  refine Lim.eq (g := fun k => laws_toRig.f k l0_0 l0_1 l0_2) ?_
  unfold laws_toRig.f
  repeat' first
    | with_reducible exact Lim.const _
    | with_reducible exact laws_toBelayS.F_lim _
    | with_reducible exact laws_toRailS.F_lim _
    | with_reducible exact laws_toStringS.F_lim _
    | with_reducible refine Lim.ite ?_ ?_
    | with_reducible refine Lim.bind ?_ (fun _ => ?_)

noncomputable def laws_eqStringS.L0 (x0 : List ByteArray) (x1 : List ByteArray) (x5 : Int) : Option (Bool) := lim (fun k => laws_eqStringS.l0 k x0 x1 x5)
theorem laws_eqStringS.L0_lim (x0 : List ByteArray) (x1 : List ByteArray) (x5 : Int) : Lim (fun k => laws_eqStringS.l0 k x0 x1 x5) (laws_eqStringS.L0 x0 x1 x5) := Lim.of (fun k => (laws_eqStringS.mono_l k) x0 x1 x5)
noncomputable def laws_eqStringS.F (l0 : List ByteArray) (l1 : List ByteArray) : Option (Bool) := lim (fun k => laws_eqStringS.f k l0 l1)
theorem laws_eqStringS.F_lim (l0 : List ByteArray) (l1 : List ByteArray) : Lim (fun k => laws_eqStringS.f k l0 l1) (laws_eqStringS.F l0 l1) := Lim.of (fun k => laws_eqStringS.mono l0 l1 k)
theorem laws_eqStringS.L0_eq (x0 : List ByteArray) (x1 : List ByteArray) (x5 : Int) : laws_eqStringS.L0 x0 x1 x5 = if x5 < (x0.length : Int) then (if 0 ≤ x5 then (if x5 < (x1.length : Int) then (if (rdOf ByteArray.empty x0 x5).toList = (rdOf ByteArray.empty x1 x5).toList then (laws_eqStringS.L0 x0 x1 (wrap64 (x5 + 1))) else (some false)) else (none)) else (none)) else (some true) := by
  refine Lim.step (f := fun k => if x5 < (x0.length : Int) then (if 0 ≤ x5 then (if x5 < (x1.length : Int) then (if (rdOf ByteArray.empty x0 x5).toList = (rdOf ByteArray.empty x1 x5).toList then (laws_eqStringS.l0 k x0 x1 (wrap64 (x5 + 1))) else (some false)) else (none)) else (none)) else (some true)) (fun k => (laws_eqStringS.mono_l k) x0 x1 x5) (fun k => by simp only [laws_eqStringS.l0]) ?_
  repeat' first
    | with_reducible exact Lim.const _
    | with_reducible exact laws_eqStringS.L0_lim _ _ _
    | with_reducible refine Lim.ite ?_ ?_
    | with_reducible refine Lim.bind ?_ (fun _ => ?_)
theorem laws_eqStringS.F_eq (l0 : List ByteArray) (l1 : List ByteArray) : laws_eqStringS.F l0 l1 = if (l0.length : Int) = (l1.length : Int) then (laws_eqStringS.L0 l0 l1 0) else (some false) := by
  refine Lim.eq (g := fun k => laws_eqStringS.f k l0 l1) ?_
  unfold laws_eqStringS.f
  repeat' first
    | with_reducible exact Lim.const _
    | with_reducible exact laws_eqStringS.L0_lim _ _ _
    | with_reducible refine Lim.ite ?_ ?_
    | with_reducible refine Lim.bind ?_ (fun _ => ?_)

noncomputable def laws_eqRailS.L0 (x0 : List (S69)) (x1 : List (S69)) (x5 : Int) : Option (Bool) := lim (fun k => laws_eqRailS.l0 k x0 x1 x5)
theorem laws_eqRailS.L0_lim (x0 : List (S69)) (x1 : List (S69)) (x5 : Int) : Lim (fun k => laws_eqRailS.l0 k x0 x1 x5) (laws_eqRailS.L0 x0 x1 x5) := Lim.of (fun k => (laws_eqRailS.mono_l k) x0 x1 x5)
noncomputable def laws_eqRailS.F (l0 : List (S69)) (l1 : List (S69)) : Option (Bool) := lim (fun k => laws_eqRailS.f k l0 l1)
theorem laws_eqRailS.F_lim (l0 : List (S69)) (l1 : List (S69)) : Lim (fun k => laws_eqRailS.f k l0 l1) (laws_eqRailS.F l0 l1) := Lim.of (fun k => laws_eqRailS.mono l0 l1 k)
theorem laws_eqRailS.L0_eq (x0 : List (S69)) (x1 : List (S69)) (x5 : Int) : laws_eqRailS.L0 x0 x1 x5 = if x5 < (x0.length : Int) then (if 0 ≤ x5 then (if x5 < (x1.length : Int) then ((laws_eqRail.f ((rd_T69 x0 x5).f0) ((rd_T69 x0 x5).f1) ((rd_T69 x0 x5).f2) ((rd_T69 x1 x5).f0) ((rd_T69 x1 x5).f1) ((rd_T69 x1 x5).f2)).bind fun t157 => (if t157 = true then (laws_eqRailS.L0 x0 x1 (wrap64 (x5 + 1))) else (some false))) else (none)) else (none)) else (some true) := by
  refine Lim.step (f := fun k => if x5 < (x0.length : Int) then (if 0 ≤ x5 then (if x5 < (x1.length : Int) then ((laws_eqRail.f ((rd_T69 x0 x5).f0) ((rd_T69 x0 x5).f1) ((rd_T69 x0 x5).f2) ((rd_T69 x1 x5).f0) ((rd_T69 x1 x5).f1) ((rd_T69 x1 x5).f2)).bind fun t157 => (if t157 = true then (laws_eqRailS.l0 k x0 x1 (wrap64 (x5 + 1))) else (some false))) else (none)) else (none)) else (some true)) (fun k => (laws_eqRailS.mono_l k) x0 x1 x5) (fun k => by simp only [laws_eqRailS.l0]) ?_
  repeat' first
    | with_reducible exact Lim.const _
    | with_reducible exact laws_eqRailS.L0_lim _ _ _
    | with_reducible refine Lim.ite ?_ ?_
    | with_reducible refine Lim.bind ?_ (fun _ => ?_)
theorem laws_eqRailS.F_eq (l0 : List (S69)) (l1 : List (S69)) : laws_eqRailS.F l0 l1 = if (l0.length : Int) = (l1.length : Int) then (laws_eqRailS.L0 l0 l1 0) else (some false) := by
  refine Lim.eq (g := fun k => laws_eqRailS.f k l0 l1) ?_
  unfold laws_eqRailS.f
  repeat' first
    | with_reducible exact Lim.const _
    | with_reducible exact laws_eqRailS.L0_lim _ _ _
    | with_reducible refine Lim.ite ?_ ?_
    | with_reducible refine Lim.bind ?_ (fun _ => ?_)

noncomputable def laws_eqBelayS.L0 (x0 : List (S40)) (x1 : List (S40)) (x5 : Int) : Option (Bool) := lim (fun k => laws_eqBelayS.l0 k x0 x1 x5)
theorem laws_eqBelayS.L0_lim (x0 : List (S40)) (x1 : List (S40)) (x5 : Int) : Lim (fun k => laws_eqBelayS.l0 k x0 x1 x5) (laws_eqBelayS.L0 x0 x1 x5) := Lim.of (fun k => (laws_eqBelayS.mono_l k) x0 x1 x5)
noncomputable def laws_eqBelayS.F (l0 : List (S40)) (l1 : List (S40)) : Option (Bool) := lim (fun k => laws_eqBelayS.f k l0 l1)
theorem laws_eqBelayS.F_lim (l0 : List (S40)) (l1 : List (S40)) : Lim (fun k => laws_eqBelayS.f k l0 l1) (laws_eqBelayS.F l0 l1) := Lim.of (fun k => laws_eqBelayS.mono l0 l1 k)
theorem laws_eqBelayS.L0_eq (x0 : List (S40)) (x1 : List (S40)) (x5 : Int) : laws_eqBelayS.L0 x0 x1 x5 = if x5 < (x0.length : Int) then (if 0 ≤ x5 then (if x5 < (x1.length : Int) then ((laws_eqBelay.f ((rd_T40 x0 x5).f0) ((rd_T40 x0 x5).f1) ((rd_T40 x0 x5).f2) ((rd_T40 x1 x5).f0) ((rd_T40 x1 x5).f1) ((rd_T40 x1 x5).f2)).bind fun t162 => (if t162 = true then (laws_eqBelayS.L0 x0 x1 (wrap64 (x5 + 1))) else (some false))) else (none)) else (none)) else (some true) := by
  refine Lim.step (f := fun k => if x5 < (x0.length : Int) then (if 0 ≤ x5 then (if x5 < (x1.length : Int) then ((laws_eqBelay.f ((rd_T40 x0 x5).f0) ((rd_T40 x0 x5).f1) ((rd_T40 x0 x5).f2) ((rd_T40 x1 x5).f0) ((rd_T40 x1 x5).f1) ((rd_T40 x1 x5).f2)).bind fun t162 => (if t162 = true then (laws_eqBelayS.l0 k x0 x1 (wrap64 (x5 + 1))) else (some false))) else (none)) else (none)) else (some true)) (fun k => (laws_eqBelayS.mono_l k) x0 x1 x5) (fun k => by simp only [laws_eqBelayS.l0]) ?_
  repeat' first
    | with_reducible exact Lim.const _
    | with_reducible exact laws_eqBelayS.L0_lim _ _ _
    | with_reducible refine Lim.ite ?_ ?_
    | with_reducible refine Lim.bind ?_ (fun _ => ?_)
theorem laws_eqBelayS.F_eq (l0 : List (S40)) (l1 : List (S40)) : laws_eqBelayS.F l0 l1 = if (l0.length : Int) = (l1.length : Int) then (laws_eqBelayS.L0 l0 l1 0) else (some false) := by
  refine Lim.eq (g := fun k => laws_eqBelayS.f k l0 l1) ?_
  unfold laws_eqBelayS.f
  repeat' first
    | with_reducible exact Lim.const _
    | with_reducible exact laws_eqBelayS.L0_lim _ _ _
    | with_reducible refine Lim.ite ?_ ?_
    | with_reducible refine Lim.bind ?_ (fun _ => ?_)

noncomputable def laws_eqRig.F (l0_0 : List (S69)) (l0_1 : List ByteArray) (l0_2 : List (S40)) (l1_0 : List (S69)) (l1_1 : List ByteArray) (l1_2 : List (S40)) : Option (Bool) := lim (fun k => laws_eqRig.f k l0_0 l0_1 l0_2 l1_0 l1_1 l1_2)
theorem laws_eqRig.F_lim (l0_0 : List (S69)) (l0_1 : List ByteArray) (l0_2 : List (S40)) (l1_0 : List (S69)) (l1_1 : List ByteArray) (l1_2 : List (S40)) : Lim (fun k => laws_eqRig.f k l0_0 l0_1 l0_2 l1_0 l1_1 l1_2) (laws_eqRig.F l0_0 l0_1 l0_2 l1_0 l1_1 l1_2) := Lim.of (fun k => laws_eqRig.mono l0_0 l0_1 l0_2 l1_0 l1_1 l1_2 k)
theorem laws_eqRig.F_eq (l0_0 : List (S69)) (l0_1 : List ByteArray) (l0_2 : List (S40)) (l1_0 : List (S69)) (l1_1 : List ByteArray) (l1_2 : List (S40)) : laws_eqRig.F l0_0 l0_1 l0_2 l1_0 l1_1 l1_2 = (laws_eqRailS.F l0_0 l1_0).bind fun t165 => (if t165 = true then ((laws_eqStringS.F l0_1 l1_1).bind fun t166 => (if t166 = true then ((laws_eqBelayS.F l0_2 l1_2).bind fun t167 => (if t167 = true then (some true) else (some false))) else (some false))) else (some false)) := by
  refine Lim.eq (g := fun k => laws_eqRig.f k l0_0 l0_1 l0_2 l1_0 l1_1 l1_2) ?_
  unfold laws_eqRig.f
  repeat' first
    | with_reducible exact Lim.const _
    | with_reducible exact laws_eqBelayS.F_lim _ _
    | with_reducible exact laws_eqRailS.F_lim _ _
    | with_reducible exact laws_eqStringS.F_lim _ _
    | with_reducible refine Lim.ite ?_ ?_
    | with_reducible refine Lim.bind ?_ (fun _ => ?_)

noncomputable def laws_markText.L0 (x0 : Int) (x3 : ByteArray) : Option (ByteArray) := lim (fun k => laws_markText.l0 k x0 x3)
theorem laws_markText.L0_lim (x0 : Int) (x3 : ByteArray) : Lim (fun k => laws_markText.l0 k x0 x3) (laws_markText.L0 x0 x3) := Lim.of (fun k => (laws_markText.mono_l k) x0 x3)
noncomputable def laws_markText.F (a0 : Int) : Option (ByteArray) := lim (fun k => laws_markText.f k a0)
theorem laws_markText.F_lim (a0 : Int) : Lim (fun k => laws_markText.f k a0) (laws_markText.F a0) := Lim.of (fun k => laws_markText.mono a0 k)
theorem laws_markText.L0_eq (x0 : Int) (x3 : ByteArray) : laws_markText.L0 x0 x3 = if x0 > 0 then ((some (([(wrap64 (48 + (Int.tmod x0 10))) % 256] : List Int) : List Int)).bind fun y168 => (if (strOfNums y168).size + x3.size ≤ 9223372036854775807 then (laws_markText.L0 (wrap64 (Int.tdiv x0 10)) ((strOfNums y168) ++ x3)) else (none))) else (if 1 + x3.size ≤ 9223372036854775807 then (some ((⟨#[109]⟩ : ByteArray) ++ x3)) else (none)) := by
  refine Lim.step (f := fun k => if x0 > 0 then ((some (([(wrap64 (48 + (Int.tmod x0 10))) % 256] : List Int) : List Int)).bind fun y168 => (if (strOfNums y168).size + x3.size ≤ 9223372036854775807 then (laws_markText.l0 k (wrap64 (Int.tdiv x0 10)) ((strOfNums y168) ++ x3)) else (none))) else (if 1 + x3.size ≤ 9223372036854775807 then (some ((⟨#[109]⟩ : ByteArray) ++ x3)) else (none))) (fun k => (laws_markText.mono_l k) x0 x3) (fun k => by simp only [laws_markText.l0]) ?_
  repeat' first
    | with_reducible exact Lim.const _
    | with_reducible exact laws_markText.L0_lim _ _
    | with_reducible refine Lim.ite ?_ ?_
    | with_reducible refine Lim.bind ?_ (fun _ => ?_)
theorem laws_markText.F_eq (a0 : Int) : laws_markText.F a0 = if a0 ≤ 0 then (some (⟨#[109, 48]⟩ : ByteArray)) else (laws_markText.L0 a0 (⟨#[]⟩ : ByteArray)) := by
  refine Lim.eq (g := fun k => laws_markText.f k a0) ?_
  unfold laws_markText.f
  repeat' first
    | with_reducible exact Lim.const _
    | with_reducible exact laws_markText.L0_lim _ _
    | with_reducible refine Lim.ite ?_ ?_
    | with_reducible refine Lim.bind ?_ (fun _ => ?_)

noncomputable def laws_markStringS.L0 (x0 : List ByteArray) (x1 : Int) (x5 : Int) : Option (Int × List ByteArray) := lim (fun k => laws_markStringS.l0 k x0 x1 x5)
theorem laws_markStringS.L0_lim (x0 : List ByteArray) (x1 : Int) (x5 : Int) : Lim (fun k => laws_markStringS.l0 k x0 x1 x5) (laws_markStringS.L0 x0 x1 x5) := Lim.of (fun k => (laws_markStringS.mono_l k) x0 x1 x5)
noncomputable def laws_markStringS.F (l0 : List ByteArray) (a1 : Int) : Option (Int × List ByteArray) := lim (fun k => laws_markStringS.f k l0 a1)
theorem laws_markStringS.F_lim (l0 : List ByteArray) (a1 : Int) : Lim (fun k => laws_markStringS.f k l0 a1) (laws_markStringS.F l0 a1) := Lim.of (fun k => laws_markStringS.mono l0 a1 k)
theorem laws_markStringS.L0_eq (x0 : List ByteArray) (x1 : Int) (x5 : Int) : laws_markStringS.L0 x0 x1 x5 = if x5 < (x0.length : Int) then ((laws_markText.F x1).bind fun t171 => (if 0 ≤ x5 then (laws_markStringS.L0 (x0.set (x5 : Int).toNat t171) (wrap64 (x1 + 1)) (wrap64 (x5 + 1))) else (none))) else (some (x1, x0)) := by
  refine Lim.step (f := fun k => if x5 < (x0.length : Int) then ((laws_markText.f k x1).bind fun t171 => (if 0 ≤ x5 then (laws_markStringS.l0 k (x0.set (x5 : Int).toNat t171) (wrap64 (x1 + 1)) (wrap64 (x5 + 1))) else (none))) else (some (x1, x0))) (fun k => (laws_markStringS.mono_l k) x0 x1 x5) (fun k => by simp only [laws_markStringS.l0]) ?_
  repeat' first
    | with_reducible exact Lim.const _
    | with_reducible exact laws_markStringS.L0_lim _ _ _
    | with_reducible exact laws_markText.F_lim _
    | with_reducible refine Lim.ite ?_ ?_
    | with_reducible refine Lim.bind ?_ (fun _ => ?_)
theorem laws_markStringS.F_eq (l0 : List ByteArray) (a1 : Int) : laws_markStringS.F l0 a1 = laws_markStringS.L0 l0 a1 0 := by
  refine Lim.eq (g := fun k => laws_markStringS.f k l0 a1) ?_
  unfold laws_markStringS.f
  repeat' first
    | with_reducible exact Lim.const _
    | with_reducible exact laws_markStringS.L0_lim _ _ _
    | with_reducible refine Lim.ite ?_ ?_
    | with_reducible refine Lim.bind ?_ (fun _ => ?_)

noncomputable def laws_markRailS.L0 (x0 : List (S69)) (x1 : Int) (x5 : Int) : Option (Int × (List (S69))) := lim (fun k => laws_markRailS.l0 k x0 x1 x5)
theorem laws_markRailS.L0_lim (x0 : List (S69)) (x1 : Int) (x5 : Int) : Lim (fun k => laws_markRailS.l0 k x0 x1 x5) (laws_markRailS.L0 x0 x1 x5) := Lim.of (fun k => (laws_markRailS.mono_l k) x0 x1 x5)
noncomputable def laws_markRailS.F (l0 : List (S69)) (a1 : Int) : Option (Int × (List (S69))) := lim (fun k => laws_markRailS.f k l0 a1)
theorem laws_markRailS.F_lim (l0 : List (S69)) (a1 : Int) : Lim (fun k => laws_markRailS.f k l0 a1) (laws_markRailS.F l0 a1) := Lim.of (fun k => laws_markRailS.mono l0 a1 k)
theorem laws_markRailS.L0_eq (x0 : List (S69)) (x1 : Int) (x5 : Int) : laws_markRailS.L0 x0 x1 x5 = if x5 < (x0.length : Int) then ((laws_markText.F x1).bind fun t173 => (if 0 ≤ x5 then ((some (x0.set (x5 : Int).toNat (⟨t173, (rd_T69 x0 x5).f1, (rd_T69 x0 x5).f2⟩ : S69) : List (S69))).bind fun y174 => ((laws_markText.F (wrap64 (x1 + 1))).bind fun t175 => ((some (y174.set (x5 : Int).toNat (⟨(rd_T69 y174 x5).f0, t175, (rd_T69 y174 x5).f2⟩ : S69) : List (S69))).bind fun y176 => (laws_markRailS.L0 (y176.set (x5 : Int).toNat (⟨(rd_T69 y176 x5).f0, (rd_T69 y176 x5).f1, wrap64 ((wrap64 (x1 + 1)) + 1)⟩ : S69)) (wrap64 ((wrap64 ((wrap64 (x1 + 1)) + 1)) + 1)) (wrap64 (x5 + 1)))))) else (none))) else (some (x1, x0)) := by
  refine Lim.step (f := fun k => if x5 < (x0.length : Int) then ((laws_markText.f k x1).bind fun t173 => (if 0 ≤ x5 then ((some (x0.set (x5 : Int).toNat (⟨t173, (rd_T69 x0 x5).f1, (rd_T69 x0 x5).f2⟩ : S69) : List (S69))).bind fun y174 => ((laws_markText.f k (wrap64 (x1 + 1))).bind fun t175 => ((some (y174.set (x5 : Int).toNat (⟨(rd_T69 y174 x5).f0, t175, (rd_T69 y174 x5).f2⟩ : S69) : List (S69))).bind fun y176 => (laws_markRailS.l0 k (y176.set (x5 : Int).toNat (⟨(rd_T69 y176 x5).f0, (rd_T69 y176 x5).f1, wrap64 ((wrap64 (x1 + 1)) + 1)⟩ : S69)) (wrap64 ((wrap64 ((wrap64 (x1 + 1)) + 1)) + 1)) (wrap64 (x5 + 1)))))) else (none))) else (some (x1, x0))) (fun k => (laws_markRailS.mono_l k) x0 x1 x5) (fun k => by simp only [laws_markRailS.l0]) ?_
  repeat' first
    | with_reducible exact Lim.const _
    | with_reducible exact laws_markRailS.L0_lim _ _ _
    | with_reducible exact laws_markText.F_lim _
    | with_reducible refine Lim.ite ?_ ?_
    | with_reducible refine Lim.bind ?_ (fun _ => ?_)
theorem laws_markRailS.F_eq (l0 : List (S69)) (a1 : Int) : laws_markRailS.F l0 a1 = laws_markRailS.L0 l0 a1 0 := by
  refine Lim.eq (g := fun k => laws_markRailS.f k l0 a1) ?_
  unfold laws_markRailS.f
  repeat' first
    | with_reducible exact Lim.const _
    | with_reducible exact laws_markRailS.L0_lim _ _ _
    | with_reducible refine Lim.ite ?_ ?_
    | with_reducible refine Lim.bind ?_ (fun _ => ?_)

noncomputable def laws_markBelayS.L0 (x0 : List (S40)) (x1 : Int) (x5 : Int) : Option (Int × (List (S40))) := lim (fun k => laws_markBelayS.l0 k x0 x1 x5)
theorem laws_markBelayS.L0_lim (x0 : List (S40)) (x1 : Int) (x5 : Int) : Lim (fun k => laws_markBelayS.l0 k x0 x1 x5) (laws_markBelayS.L0 x0 x1 x5) := Lim.of (fun k => (laws_markBelayS.mono_l k) x0 x1 x5)
noncomputable def laws_markBelayS.F (l0 : List (S40)) (a1 : Int) : Option (Int × (List (S40))) := lim (fun k => laws_markBelayS.f k l0 a1)
theorem laws_markBelayS.F_lim (l0 : List (S40)) (a1 : Int) : Lim (fun k => laws_markBelayS.f k l0 a1) (laws_markBelayS.F l0 a1) := Lim.of (fun k => laws_markBelayS.mono l0 a1 k)
theorem laws_markBelayS.L0_eq (x0 : List (S40)) (x1 : Int) (x5 : Int) : laws_markBelayS.L0 x0 x1 x5 = if x5 < (x0.length : Int) then ((laws_markText.F x1).bind fun t178 => (if 0 ≤ x5 then ((some (x0.set (x5 : Int).toNat (⟨t178, (rd_T40 x0 x5).f1, (rd_T40 x0 x5).f2⟩ : S40) : List (S40))).bind fun y179 => ((laws_markText.F (wrap64 (x1 + 1))).bind fun t180 => ((some (y179.set (x5 : Int).toNat (⟨(rd_T40 y179 x5).f0, t180, (rd_T40 y179 x5).f2⟩ : S40) : List (S40))).bind fun y181 => (laws_markBelayS.L0 (y181.set (x5 : Int).toNat (⟨(rd_T40 y181 x5).f0, (rd_T40 y181 x5).f1, wrap64 ((wrap64 (x1 + 1)) + 1)⟩ : S40)) (wrap64 ((wrap64 ((wrap64 (x1 + 1)) + 1)) + 1)) (wrap64 (x5 + 1)))))) else (none))) else (some (x1, x0)) := by
  refine Lim.step (f := fun k => if x5 < (x0.length : Int) then ((laws_markText.f k x1).bind fun t178 => (if 0 ≤ x5 then ((some (x0.set (x5 : Int).toNat (⟨t178, (rd_T40 x0 x5).f1, (rd_T40 x0 x5).f2⟩ : S40) : List (S40))).bind fun y179 => ((laws_markText.f k (wrap64 (x1 + 1))).bind fun t180 => ((some (y179.set (x5 : Int).toNat (⟨(rd_T40 y179 x5).f0, t180, (rd_T40 y179 x5).f2⟩ : S40) : List (S40))).bind fun y181 => (laws_markBelayS.l0 k (y181.set (x5 : Int).toNat (⟨(rd_T40 y181 x5).f0, (rd_T40 y181 x5).f1, wrap64 ((wrap64 (x1 + 1)) + 1)⟩ : S40)) (wrap64 ((wrap64 ((wrap64 (x1 + 1)) + 1)) + 1)) (wrap64 (x5 + 1)))))) else (none))) else (some (x1, x0))) (fun k => (laws_markBelayS.mono_l k) x0 x1 x5) (fun k => by simp only [laws_markBelayS.l0]) ?_
  repeat' first
    | with_reducible exact Lim.const _
    | with_reducible exact laws_markBelayS.L0_lim _ _ _
    | with_reducible exact laws_markText.F_lim _
    | with_reducible refine Lim.ite ?_ ?_
    | with_reducible refine Lim.bind ?_ (fun _ => ?_)
theorem laws_markBelayS.F_eq (l0 : List (S40)) (a1 : Int) : laws_markBelayS.F l0 a1 = laws_markBelayS.L0 l0 a1 0 := by
  refine Lim.eq (g := fun k => laws_markBelayS.f k l0 a1) ?_
  unfold laws_markBelayS.f
  repeat' first
    | with_reducible exact Lim.const _
    | with_reducible exact laws_markBelayS.L0_lim _ _ _
    | with_reducible refine Lim.ite ?_ ?_
    | with_reducible refine Lim.bind ?_ (fun _ => ?_)

noncomputable def laws_markRig.F (l0_0 : List (S69)) (l0_1 : List ByteArray) (l0_2 : List (S40)) (a1 : Int) : Option (Int × (List (S69)) × List ByteArray × (List (S40))) := lim (fun k => laws_markRig.f k l0_0 l0_1 l0_2 a1)
theorem laws_markRig.F_lim (l0_0 : List (S69)) (l0_1 : List ByteArray) (l0_2 : List (S40)) (a1 : Int) : Lim (fun k => laws_markRig.f k l0_0 l0_1 l0_2 a1) (laws_markRig.F l0_0 l0_1 l0_2 a1) := Lim.of (fun k => laws_markRig.mono l0_0 l0_1 l0_2 a1 k)
theorem laws_markRig.F_eq (l0_0 : List (S69)) (l0_1 : List ByteArray) (l0_2 : List (S40)) (a1 : Int) : laws_markRig.F l0_0 l0_1 l0_2 a1 = (laws_markRailS.F l0_0 a1).bind fun bt184 => ((laws_markStringS.F l0_1 bt184.1).bind fun bt186 => ((laws_markBelayS.F l0_2 bt186.1).bind fun bt188 => (some (bt188.1, bt184.2, bt186.2, bt188.2)))) := by
  refine Lim.eq (g := fun k => laws_markRig.f k l0_0 l0_1 l0_2 a1) ?_
  unfold laws_markRig.f
  repeat' first
    | with_reducible exact Lim.const _
    | with_reducible exact laws_markBelayS.F_lim _ _
    | with_reducible exact laws_markRailS.F_lim _ _
    | with_reducible exact laws_markStringS.F_lim _ _
    | with_reducible refine Lim.ite ?_ ?_
    | with_reducible refine Lim.bind ?_ (fun _ => ?_)

noncomputable def laws_heldStringS.L0 (x0 : List ByteArray) (x1 : Int) (x5 : Int) : Option (Int) := lim (fun k => laws_heldStringS.l0 k x0 x1 x5)
theorem laws_heldStringS.L0_lim (x0 : List ByteArray) (x1 : Int) (x5 : Int) : Lim (fun k => laws_heldStringS.l0 k x0 x1 x5) (laws_heldStringS.L0 x0 x1 x5) := Lim.of (fun k => (laws_heldStringS.mono_l k) x0 x1 x5)
noncomputable def laws_heldStringS.F (l0 : List ByteArray) (a1 : Int) : Option (Int) := lim (fun k => laws_heldStringS.f k l0 a1)
theorem laws_heldStringS.F_lim (l0 : List ByteArray) (a1 : Int) : Lim (fun k => laws_heldStringS.f k l0 a1) (laws_heldStringS.F l0 a1) := Lim.of (fun k => laws_heldStringS.mono l0 a1 k)
theorem laws_heldStringS.L0_eq (x0 : List ByteArray) (x1 : Int) (x5 : Int) : laws_heldStringS.L0 x0 x1 x5 = if x5 < (x0.length : Int) then (if 0 ≤ x5 then ((laws_markText.F x1).bind fun t191 => (if (rdOf ByteArray.empty x0 x5).toList = t191.toList then (laws_heldStringS.L0 x0 (wrap64 (x1 + 1)) (wrap64 (x5 + 1))) else (some (-1)))) else (none)) else (some x1) := by
  refine Lim.step (f := fun k => if x5 < (x0.length : Int) then (if 0 ≤ x5 then ((laws_markText.f k x1).bind fun t191 => (if (rdOf ByteArray.empty x0 x5).toList = t191.toList then (laws_heldStringS.l0 k x0 (wrap64 (x1 + 1)) (wrap64 (x5 + 1))) else (some (-1)))) else (none)) else (some x1)) (fun k => (laws_heldStringS.mono_l k) x0 x1 x5) (fun k => by simp only [laws_heldStringS.l0]) ?_
  repeat' first
    | with_reducible exact Lim.const _
    | with_reducible exact laws_heldStringS.L0_lim _ _ _
    | with_reducible exact laws_markText.F_lim _
    | with_reducible refine Lim.ite ?_ ?_
    | with_reducible refine Lim.bind ?_ (fun _ => ?_)
theorem laws_heldStringS.F_eq (l0 : List ByteArray) (a1 : Int) : laws_heldStringS.F l0 a1 = laws_heldStringS.L0 l0 a1 0 := by
  refine Lim.eq (g := fun k => laws_heldStringS.f k l0 a1) ?_
  unfold laws_heldStringS.f
  repeat' first
    | with_reducible exact Lim.const _
    | with_reducible exact laws_heldStringS.L0_lim _ _ _
    | with_reducible refine Lim.ite ?_ ?_
    | with_reducible refine Lim.bind ?_ (fun _ => ?_)

noncomputable def spec_l19Rail.L0 (x0 : List (S32)) (x1 : ByteArray) (x5 : Int) : Option (Int) := lim (fun k => spec_l19Rail.l0 k x0 x1 x5)
theorem spec_l19Rail.L0_lim (x0 : List (S32)) (x1 : ByteArray) (x5 : Int) : Lim (fun k => spec_l19Rail.l0 k x0 x1 x5) (spec_l19Rail.L0 x0 x1 x5) := Lim.of (fun k => (spec_l19Rail.mono_l k) x0 x1 x5)
noncomputable def spec_l19Rail.F (l0 : List (S32)) (a1 : ByteArray) : Option (Int) := lim (fun k => spec_l19Rail.f k l0 a1)
theorem spec_l19Rail.F_lim (l0 : List (S32)) (a1 : ByteArray) : Lim (fun k => spec_l19Rail.f k l0 a1) (spec_l19Rail.F l0 a1) := Lim.of (fun k => spec_l19Rail.mono l0 a1 k)
theorem spec_l19Rail.L0_eq (x0 : List (S32)) (x1 : ByteArray) (x5 : Int) : spec_l19Rail.L0 x0 x1 x5 = if x5 < (((rd_T32 x0 0).f0).length : Int) then (if 0 ≤ x5 then (if ((rd_T69 ((rd_T32 x0 0).f0) x5).f0).toList = x1.toList then (some x5) else (spec_l19Rail.L0 x0 x1 (wrap64 (x5 + 1)))) else (none)) else (some (-1)) := by
  refine Lim.step (f := fun k => if x5 < (((rd_T32 x0 0).f0).length : Int) then (if 0 ≤ x5 then (if ((rd_T69 ((rd_T32 x0 0).f0) x5).f0).toList = x1.toList then (some x5) else (spec_l19Rail.l0 k x0 x1 (wrap64 (x5 + 1)))) else (none)) else (some (-1))) (fun k => (spec_l19Rail.mono_l k) x0 x1 x5) (fun k => by simp only [spec_l19Rail.l0]) ?_
  repeat' first
    | with_reducible exact Lim.const _
    | with_reducible exact spec_l19Rail.L0_lim _ _ _
    | with_reducible refine Lim.ite ?_ ?_
    | with_reducible refine Lim.bind ?_ (fun _ => ?_)
theorem spec_l19Rail.F_eq (l0 : List (S32)) (a1 : ByteArray) : spec_l19Rail.F l0 a1 = if 0 < (l0.length : Int) then (spec_l19Rail.L0 l0 a1 0) else (none) := by
  refine Lim.eq (g := fun k => spec_l19Rail.f k l0 a1) ?_
  unfold spec_l19Rail.f
  repeat' first
    | with_reducible exact Lim.const _
    | with_reducible exact spec_l19Rail.L0_lim _ _ _
    | with_reducible refine Lim.ite ?_ ?_
    | with_reducible refine Lim.bind ?_ (fun _ => ?_)

noncomputable def spec_IsName.J0 (x0 : ByteArray) (x16 : Bool) : Option (Bool) := lim (fun k => spec_IsName.j0 k x0 x16)
theorem spec_IsName.J0_lim (x0 : ByteArray) (x16 : Bool) : Lim (fun k => spec_IsName.j0 k x0 x16) (spec_IsName.J0 x0 x16) := Lim.of (fun k => (spec_IsName.mono_l k).1 x0 x16)
noncomputable def spec_IsName.L0 (x0 : ByteArray) (x3 : Int) : Option (Bool) := lim (fun k => spec_IsName.l0 k x0 x3)
theorem spec_IsName.L0_lim (x0 : ByteArray) (x3 : Int) : Lim (fun k => spec_IsName.l0 k x0 x3) (spec_IsName.L0 x0 x3) := Lim.of (fun k => (spec_IsName.mono_l k).2 x0 x3)
noncomputable def spec_IsName.F (a0 : ByteArray) : Option (Bool) := lim (fun k => spec_IsName.f k a0)
theorem spec_IsName.F_lim (a0 : ByteArray) : Lim (fun k => spec_IsName.f k a0) (spec_IsName.F a0) := Lim.of (fun k => spec_IsName.mono a0 k)
theorem spec_IsName.J0_eq (x0 : ByteArray) (x16 : Bool) : spec_IsName.J0 x0 x16 = if x16 = true then (some false) else (spec_IsName.L0 x0 0) := by
  refine Lim.step (f := fun k => if x16 = true then (some false) else (spec_IsName.l0 k x0 0)) (fun k => (spec_IsName.mono_l k).1 x0 x16) (fun k => by simp only [spec_IsName.j0]) ?_
  repeat' first
    | with_reducible exact Lim.const _
    | with_reducible exact spec_IsName.L0_lim _ _
    | with_reducible refine Lim.ite ?_ ?_
    | with_reducible refine Lim.bind ?_ (fun _ => ?_)
theorem spec_IsName.L0_eq (x0 : ByteArray) (x3 : Int) : spec_IsName.L0 x0 x3 = if x3 < (x0.size : Int) then (if 0 ≤ x3 then ((spec_l01Small.f (bt x0 x3)).bind fun t207 => (if t207 = true then (spec_IsName.L0 x0 (wrap64 (x3 + 1))) else ((spec_l01Digit.f (bt x0 x3)).bind fun t208 => (if t208 = true then (spec_IsName.L0 x0 (wrap64 (x3 + 1))) else (if (bt x0 x3) = 45 then (spec_IsName.L0 x0 (wrap64 (x3 + 1))) else (some false)))))) else (none)) else (some true) := by
  refine Lim.step (f := fun k => if x3 < (x0.size : Int) then (if 0 ≤ x3 then ((spec_l01Small.f (bt x0 x3)).bind fun t207 => (if t207 = true then (spec_IsName.l0 k x0 (wrap64 (x3 + 1))) else ((spec_l01Digit.f (bt x0 x3)).bind fun t208 => (if t208 = true then (spec_IsName.l0 k x0 (wrap64 (x3 + 1))) else (if (bt x0 x3) = 45 then (spec_IsName.l0 k x0 (wrap64 (x3 + 1))) else (some false)))))) else (none)) else (some true)) (fun k => (spec_IsName.mono_l k).2 x0 x3) (fun k => by simp only [spec_IsName.l0]) ?_
  repeat' first
    | with_reducible exact Lim.const _
    | with_reducible exact spec_IsName.L0_lim _ _
    | with_reducible refine Lim.ite ?_ ?_
    | with_reducible refine Lim.bind ?_ (fun _ => ?_)
theorem spec_IsName.F_eq (a0 : ByteArray) : spec_IsName.F a0 = if a0.toList = ([] : List UInt8) then (spec_IsName.J0 a0 true) else (if (a0.size : Int) > 12 then (spec_IsName.J0 a0 true) else (if 0 < (a0.size : Int) then ((spec_l01Small.f (bt a0 0)).bind fun t206 => (spec_IsName.J0 a0 (!t206))) else (none))) := by
  refine Lim.eq (g := fun k => spec_IsName.f k a0) ?_
  unfold spec_IsName.f
  repeat' first
    | with_reducible exact Lim.const _
    | with_reducible exact spec_IsName.J0_lim _ _
    | with_reducible refine Lim.ite ?_ ?_
    | with_reducible refine Lim.bind ?_ (fun _ => ?_)

noncomputable def spec_l19AddRail.F (l0 : List (S69)) (l1 : List ByteArray) (l2 : List (S40)) (a1 : ByteArray) (a2 : ByteArray) (a3 : Int) : Option (Int) := lim (fun k => spec_l19AddRail.f k l0 l1 l2 a1 a2 a3)
theorem spec_l19AddRail.F_lim (l0 : List (S69)) (l1 : List ByteArray) (l2 : List (S40)) (a1 : ByteArray) (a2 : ByteArray) (a3 : Int) : Lim (fun k => spec_l19AddRail.f k l0 l1 l2 a1 a2 a3) (spec_l19AddRail.F l0 l1 l2 a1 a2 a3) := Lim.of (fun k => spec_l19AddRail.mono l0 l1 l2 a1 a2 a3 k)
theorem spec_l19AddRail.F_eq (l0 : List (S69)) (l1 : List ByteArray) (l2 : List (S40)) (a1 : ByteArray) (a2 : ByteArray) (a3 : Int) : spec_l19AddRail.F l0 l1 l2 a1 a2 a3 = (spec_IsName.F a1).bind fun t1 => ((spec_l00In.f a3 1 30).bind fun t2 => ((spec_l19Rail.F [⟨l0, l1, l2⟩] a1).bind fun t3 => (some (addRailN t1 (railSide a2) t2 t3 l0.length)))) := by
  refine Lim.eq (g := fun k => spec_l19AddRail.f k l0 l1 l2 a1 a2 a3) ?_
  unfold spec_l19AddRail.f
  repeat' first
    | with_reducible exact Lim.const _
    | with_reducible exact spec_IsName.F_lim _
    | with_reducible exact spec_l19Rail.F_lim _ _
    | with_reducible refine Lim.ite ?_ ?_
    | with_reducible refine Lim.bind ?_ (fun _ => ?_)

noncomputable def spec_l19Line.L0 (x0 : List (S32)) (x1 : ByteArray) (x5 : Int) : Option (Bool) := lim (fun k => spec_l19Line.l0 k x0 x1 x5)
theorem spec_l19Line.L0_lim (x0 : List (S32)) (x1 : ByteArray) (x5 : Int) : Lim (fun k => spec_l19Line.l0 k x0 x1 x5) (spec_l19Line.L0 x0 x1 x5) := Lim.of (fun k => (spec_l19Line.mono_l k) x0 x1 x5)
noncomputable def spec_l19Line.F (l0 : List (S32)) (a1 : ByteArray) : Option (Bool) := lim (fun k => spec_l19Line.f k l0 a1)
theorem spec_l19Line.F_lim (l0 : List (S32)) (a1 : ByteArray) : Lim (fun k => spec_l19Line.f k l0 a1) (spec_l19Line.F l0 a1) := Lim.of (fun k => spec_l19Line.mono l0 a1 k)
theorem spec_l19Line.L0_eq (x0 : List (S32)) (x1 : ByteArray) (x5 : Int) : spec_l19Line.L0 x0 x1 x5 = if x5 < (((rd_T32 x0 0).f1).length : Int) then (if 0 ≤ x5 then (if (rdOf ByteArray.empty ((rd_T32 x0 0).f1) x5).toList = x1.toList then (some true) else (spec_l19Line.L0 x0 x1 (wrap64 (x5 + 1)))) else (none)) else (some false) := by
  refine Lim.step (f := fun k => if x5 < (((rd_T32 x0 0).f1).length : Int) then (if 0 ≤ x5 then (if (rdOf ByteArray.empty ((rd_T32 x0 0).f1) x5).toList = x1.toList then (some true) else (spec_l19Line.l0 k x0 x1 (wrap64 (x5 + 1)))) else (none)) else (some false)) (fun k => (spec_l19Line.mono_l k) x0 x1 x5) (fun k => by simp only [spec_l19Line.l0]) ?_
  repeat' first
    | with_reducible exact Lim.const _
    | with_reducible exact spec_l19Line.L0_lim _ _ _
    | with_reducible refine Lim.ite ?_ ?_
    | with_reducible refine Lim.bind ?_ (fun _ => ?_)
theorem spec_l19Line.F_eq (l0 : List (S32)) (a1 : ByteArray) : spec_l19Line.F l0 a1 = if 0 < (l0.length : Int) then (spec_l19Line.L0 l0 a1 0) else (none) := by
  refine Lim.eq (g := fun k => spec_l19Line.f k l0 a1) ?_
  unfold spec_l19Line.f
  repeat' first
    | with_reducible exact Lim.const _
    | with_reducible exact spec_l19Line.L0_lim _ _ _
    | with_reducible refine Lim.ite ?_ ?_
    | with_reducible refine Lim.bind ?_ (fun _ => ?_)

noncomputable def spec_l19AddLine.F (l0 : List (S69)) (l1 : List ByteArray) (l2 : List (S40)) (a1 : ByteArray) : Option (Int) := lim (fun k => spec_l19AddLine.f k l0 l1 l2 a1)
theorem spec_l19AddLine.F_lim (l0 : List (S69)) (l1 : List ByteArray) (l2 : List (S40)) (a1 : ByteArray) : Lim (fun k => spec_l19AddLine.f k l0 l1 l2 a1) (spec_l19AddLine.F l0 l1 l2 a1) := Lim.of (fun k => spec_l19AddLine.mono l0 l1 l2 a1 k)
theorem spec_l19AddLine.F_eq (l0 : List (S69)) (l1 : List ByteArray) (l2 : List (S40)) (a1 : ByteArray) : spec_l19AddLine.F l0 l1 l2 a1 = (spec_IsName.F a1).bind fun t1 => ((spec_l19Line.F [⟨l0, l1, l2⟩] a1).bind fun t2 => (some (addLineN t1 t2 l1.length))) := by
  refine Lim.eq (g := fun k => spec_l19AddLine.f k l0 l1 l2 a1) ?_
  unfold spec_l19AddLine.f
  repeat' first
    | with_reducible exact Lim.const _
    | with_reducible exact spec_IsName.F_lim _
    | with_reducible exact spec_l19Line.F_lim _ _
    | with_reducible refine Lim.ite ?_ ?_
    | with_reducible refine Lim.bind ?_ (fun _ => ?_)

noncomputable def spec_l19At.L0 (x0 : List (S32)) (x1 : ByteArray) (x2 : Int) (x7 : Int) : Option (Int) := lim (fun k => spec_l19At.l0 k x0 x1 x2 x7)
theorem spec_l19At.L0_lim (x0 : List (S32)) (x1 : ByteArray) (x2 : Int) (x7 : Int) : Lim (fun k => spec_l19At.l0 k x0 x1 x2 x7) (spec_l19At.L0 x0 x1 x2 x7) := Lim.of (fun k => (spec_l19At.mono_l k) x0 x1 x2 x7)
noncomputable def spec_l19At.F (l0 : List (S32)) (a1 : ByteArray) (a2 : Int) : Option (Int) := lim (fun k => spec_l19At.f k l0 a1 a2)
theorem spec_l19At.F_lim (l0 : List (S32)) (a1 : ByteArray) (a2 : Int) : Lim (fun k => spec_l19At.f k l0 a1 a2) (spec_l19At.F l0 a1 a2) := Lim.of (fun k => spec_l19At.mono l0 a1 a2 k)
theorem spec_l19At.L0_eq (x0 : List (S32)) (x1 : ByteArray) (x2 : Int) (x7 : Int) : spec_l19At.L0 x0 x1 x2 x7 = if x7 < (((rd_T32 x0 0).f2).length : Int) then (if 0 ≤ x7 then (if ((rd_T40 ((rd_T32 x0 0).f2) x7).f1).toList = x1.toList then (if ((rd_T40 ((rd_T32 x0 0).f2) x7).f2) = x2 then (some x7) else (spec_l19At.L0 x0 x1 x2 (wrap64 (x7 + 1)))) else (spec_l19At.L0 x0 x1 x2 (wrap64 (x7 + 1)))) else (none)) else (some (-1)) := by
  refine Lim.step (f := fun k => if x7 < (((rd_T32 x0 0).f2).length : Int) then (if 0 ≤ x7 then (if ((rd_T40 ((rd_T32 x0 0).f2) x7).f1).toList = x1.toList then (if ((rd_T40 ((rd_T32 x0 0).f2) x7).f2) = x2 then (some x7) else (spec_l19At.l0 k x0 x1 x2 (wrap64 (x7 + 1)))) else (spec_l19At.l0 k x0 x1 x2 (wrap64 (x7 + 1)))) else (none)) else (some (-1))) (fun k => (spec_l19At.mono_l k) x0 x1 x2 x7) (fun k => by simp only [spec_l19At.l0]) ?_
  repeat' first
    | with_reducible exact Lim.const _
    | with_reducible exact spec_l19At.L0_lim _ _ _ _
    | with_reducible refine Lim.ite ?_ ?_
    | with_reducible refine Lim.bind ?_ (fun _ => ?_)
theorem spec_l19At.F_eq (l0 : List (S32)) (a1 : ByteArray) (a2 : Int) : spec_l19At.F l0 a1 a2 = if 0 < (l0.length : Int) then (spec_l19At.L0 l0 a1 a2 0) else (none) := by
  refine Lim.eq (g := fun k => spec_l19At.f k l0 a1 a2) ?_
  unfold spec_l19At.f
  repeat' first
    | with_reducible exact Lim.const _
    | with_reducible exact spec_l19At.L0_lim _ _ _ _
    | with_reducible refine Lim.ite ?_ ?_
    | with_reducible refine Lim.bind ?_ (fun _ => ?_)

noncomputable def spec_l19Of.L0 (x0 : List (S32)) (x1 : ByteArray) (x5 : Int) : Option (Int) := lim (fun k => spec_l19Of.l0 k x0 x1 x5)
theorem spec_l19Of.L0_lim (x0 : List (S32)) (x1 : ByteArray) (x5 : Int) : Lim (fun k => spec_l19Of.l0 k x0 x1 x5) (spec_l19Of.L0 x0 x1 x5) := Lim.of (fun k => (spec_l19Of.mono_l k) x0 x1 x5)
noncomputable def spec_l19Of.F (l0 : List (S32)) (a1 : ByteArray) : Option (Int) := lim (fun k => spec_l19Of.f k l0 a1)
theorem spec_l19Of.F_lim (l0 : List (S32)) (a1 : ByteArray) : Lim (fun k => spec_l19Of.f k l0 a1) (spec_l19Of.F l0 a1) := Lim.of (fun k => spec_l19Of.mono l0 a1 k)
theorem spec_l19Of.L0_eq (x0 : List (S32)) (x1 : ByteArray) (x5 : Int) : spec_l19Of.L0 x0 x1 x5 = if x5 < (((rd_T32 x0 0).f2).length : Int) then (if 0 ≤ x5 then (if ((rd_T40 ((rd_T32 x0 0).f2) x5).f0).toList = x1.toList then (some x5) else (spec_l19Of.L0 x0 x1 (wrap64 (x5 + 1)))) else (none)) else (some (-1)) := by
  refine Lim.step (f := fun k => if x5 < (((rd_T32 x0 0).f2).length : Int) then (if 0 ≤ x5 then (if ((rd_T40 ((rd_T32 x0 0).f2) x5).f0).toList = x1.toList then (some x5) else (spec_l19Of.l0 k x0 x1 (wrap64 (x5 + 1)))) else (none)) else (some (-1))) (fun k => (spec_l19Of.mono_l k) x0 x1 x5) (fun k => by simp only [spec_l19Of.l0]) ?_
  repeat' first
    | with_reducible exact Lim.const _
    | with_reducible exact spec_l19Of.L0_lim _ _ _
    | with_reducible refine Lim.ite ?_ ?_
    | with_reducible refine Lim.bind ?_ (fun _ => ?_)
theorem spec_l19Of.F_eq (l0 : List (S32)) (a1 : ByteArray) : spec_l19Of.F l0 a1 = if 0 < (l0.length : Int) then (spec_l19Of.L0 l0 a1 0) else (none) := by
  refine Lim.eq (g := fun k => spec_l19Of.f k l0 a1) ?_
  unfold spec_l19Of.f
  repeat' first
    | with_reducible exact Lim.const _
    | with_reducible exact spec_l19Of.L0_lim _ _ _
    | with_reducible refine Lim.ite ?_ ?_
    | with_reducible refine Lim.bind ?_ (fun _ => ?_)

noncomputable def spec_l19AddBelay.F (l0 : List (S69)) (l1 : List ByteArray) (l2 : List (S40)) (a1 : ByteArray) (a2 : ByteArray) (a3 : Int) : Option (Int) := lim (fun k => spec_l19AddBelay.f k l0 l1 l2 a1 a2 a3)
theorem spec_l19AddBelay.F_lim (l0 : List (S69)) (l1 : List ByteArray) (l2 : List (S40)) (a1 : ByteArray) (a2 : ByteArray) (a3 : Int) : Lim (fun k => spec_l19AddBelay.f k l0 l1 l2 a1 a2 a3) (spec_l19AddBelay.F l0 l1 l2 a1 a2 a3) := Lim.of (fun k => spec_l19AddBelay.mono l0 l1 l2 a1 a2 a3 k)
theorem spec_l19AddBelay.F_eq (l0 : List (S69)) (l1 : List ByteArray) (l2 : List (S40)) (a1 : ByteArray) (a2 : ByteArray) (a3 : Int) : spec_l19AddBelay.F l0 l1 l2 a1 a2 a3 = (spec_l19Rail.F [⟨l0, l1, l2⟩] a2).bind fun t1 => ((spec_l19Line.F [⟨l0, l1, l2⟩] a1).bind fun t2 => ((spec_l00In.f a3 1 (rd_T69 l0 t1).f2).bind fun t3 => ((spec_l19Of.F [⟨l0, l1, l2⟩] a1).bind fun t4 => ((spec_l19At.F [⟨l0, l1, l2⟩] a2 a3).bind fun t5 => (if t1 < (l0.length : Int) then (some (addBelayN t1 t2 t3 t4 t5)) else (none)))))) := by
  refine Lim.eq (g := fun k => spec_l19AddBelay.f k l0 l1 l2 a1 a2 a3) ?_
  unfold spec_l19AddBelay.f
  repeat' first
    | with_reducible exact Lim.const _
    | with_reducible exact spec_l19At.F_lim _ _ _
    | with_reducible exact spec_l19Line.F_lim _ _
    | with_reducible exact spec_l19Of.F_lim _ _
    | with_reducible exact spec_l19Rail.F_lim _ _
    | with_reducible refine Lim.ite ?_ ?_
    | with_reducible refine Lim.bind ?_ (fun _ => ?_)

noncomputable def spec_l19Ok.L2 (x0 : List (S69)) (x1 : List ByteArray) (x2 : List (S40)) (x3 : Int) : Option (Bool) := lim (fun k => spec_l19Ok.l2 k x0 x1 x2 x3)
theorem spec_l19Ok.L2_lim (x0 : List (S69)) (x1 : List ByteArray) (x2 : List (S40)) (x3 : Int) : Lim (fun k => spec_l19Ok.l2 k x0 x1 x2 x3) (spec_l19Ok.L2 x0 x1 x2 x3) := Lim.of (fun k => (spec_l19Ok.mono_l k).1 x0 x1 x2 x3)
noncomputable def spec_l19Ok.L1 (x0 : List (S69)) (x1 : List ByteArray) (x2 : List (S40)) (x3 : Int) : Option (Bool) := lim (fun k => spec_l19Ok.l1 k x0 x1 x2 x3)
theorem spec_l19Ok.L1_lim (x0 : List (S69)) (x1 : List ByteArray) (x2 : List (S40)) (x3 : Int) : Lim (fun k => spec_l19Ok.l1 k x0 x1 x2 x3) (spec_l19Ok.L1 x0 x1 x2 x3) := Lim.of (fun k => (spec_l19Ok.mono_l k).2.1 x0 x1 x2 x3)
noncomputable def spec_l19Ok.L0 (x0 : List (S69)) (x1 : List ByteArray) (x2 : List (S40)) (x3 : Int) : Option (Bool) := lim (fun k => spec_l19Ok.l0 k x0 x1 x2 x3)
theorem spec_l19Ok.L0_lim (x0 : List (S69)) (x1 : List ByteArray) (x2 : List (S40)) (x3 : Int) : Lim (fun k => spec_l19Ok.l0 k x0 x1 x2 x3) (spec_l19Ok.L0 x0 x1 x2 x3) := Lim.of (fun k => (spec_l19Ok.mono_l k).2.2 x0 x1 x2 x3)
noncomputable def spec_l19Ok.F (l0 : List (S32)) : Option (Bool) := lim (fun k => spec_l19Ok.f k l0)
theorem spec_l19Ok.F_lim (l0 : List (S32)) : Lim (fun k => spec_l19Ok.f k l0) (spec_l19Ok.F l0) := Lim.of (fun k => spec_l19Ok.mono l0 k)
theorem spec_l19Ok.L2_eq (x0 : List (S69)) (x1 : List ByteArray) (x2 : List (S40)) (x3 : Int) : spec_l19Ok.L2 x0 x1 x2 x3 = if x3 < (x2.length : Int) then (if 0 ≤ x3 then ((spec_l19AddBelay.F x0 x1 (x2.take x3.toNat) ((rd_T40 x2 x3).f0) ((rd_T40 x2 x3).f1) ((rd_T40 x2 x3).f2)).bind fun t1 => (if t1 = 0 then (spec_l19Ok.L2 x0 x1 x2 (wrap64 (x3 + 1))) else (some false))) else (none)) else (some true) := by
  refine Lim.step (f := fun k => if x3 < (x2.length : Int) then (if 0 ≤ x3 then ((spec_l19AddBelay.f k x0 x1 (x2.take x3.toNat) ((rd_T40 x2 x3).f0) ((rd_T40 x2 x3).f1) ((rd_T40 x2 x3).f2)).bind fun t1 => (if t1 = 0 then (spec_l19Ok.l2 k x0 x1 x2 (wrap64 (x3 + 1))) else (some false))) else (none)) else (some true)) (fun k => (spec_l19Ok.mono_l k).1 x0 x1 x2 x3) (fun k => by simp only [spec_l19Ok.l2]) ?_
  repeat' first
    | with_reducible exact Lim.const _
    | with_reducible exact spec_l19AddBelay.F_lim _ _ _ _ _ _
    | with_reducible exact spec_l19Ok.L2_lim _ _ _ _
    | with_reducible refine Lim.ite ?_ ?_
    | with_reducible refine Lim.bind ?_ (fun _ => ?_)
theorem spec_l19Ok.L1_eq (x0 : List (S69)) (x1 : List ByteArray) (x2 : List (S40)) (x3 : Int) : spec_l19Ok.L1 x0 x1 x2 x3 = if x3 < (x1.length : Int) then (if 0 ≤ x3 then ((spec_l19AddLine.F x0 (x1.take x3.toNat) [] (rdOf ByteArray.empty x1 x3)).bind fun t1 => (if t1 = 0 then (spec_l19Ok.L1 x0 x1 x2 (wrap64 (x3 + 1))) else (some false))) else (none)) else (spec_l19Ok.L2 x0 x1 x2 0) := by
  refine Lim.step (f := fun k => if x3 < (x1.length : Int) then (if 0 ≤ x3 then ((spec_l19AddLine.f k x0 (x1.take x3.toNat) [] (rdOf ByteArray.empty x1 x3)).bind fun t1 => (if t1 = 0 then (spec_l19Ok.l1 k x0 x1 x2 (wrap64 (x3 + 1))) else (some false))) else (none)) else (spec_l19Ok.l2 k x0 x1 x2 0)) (fun k => (spec_l19Ok.mono_l k).2.1 x0 x1 x2 x3) (fun k => by simp only [spec_l19Ok.l1]) ?_
  repeat' first
    | with_reducible exact Lim.const _
    | with_reducible exact spec_l19AddLine.F_lim _ _ _ _
    | with_reducible exact spec_l19Ok.L1_lim _ _ _ _
    | with_reducible exact spec_l19Ok.L2_lim _ _ _ _
    | with_reducible refine Lim.ite ?_ ?_
    | with_reducible refine Lim.bind ?_ (fun _ => ?_)
theorem spec_l19Ok.L0_eq (x0 : List (S69)) (x1 : List ByteArray) (x2 : List (S40)) (x3 : Int) : spec_l19Ok.L0 x0 x1 x2 x3 = if x3 < (x0.length : Int) then (if 0 ≤ x3 then ((spec_l19AddRail.F (x0.take x3.toNat) [] [] ((rd_T69 x0 x3).f0) ((rd_T69 x0 x3).f1) ((rd_T69 x0 x3).f2)).bind fun t1 => (if t1 = 0 then (spec_l19Ok.L0 x0 x1 x2 (wrap64 (x3 + 1))) else (some false))) else (none)) else (spec_l19Ok.L1 x0 x1 x2 0) := by
  refine Lim.step (f := fun k => if x3 < (x0.length : Int) then (if 0 ≤ x3 then ((spec_l19AddRail.f k (x0.take x3.toNat) [] [] ((rd_T69 x0 x3).f0) ((rd_T69 x0 x3).f1) ((rd_T69 x0 x3).f2)).bind fun t1 => (if t1 = 0 then (spec_l19Ok.l0 k x0 x1 x2 (wrap64 (x3 + 1))) else (some false))) else (none)) else (spec_l19Ok.l1 k x0 x1 x2 0)) (fun k => (spec_l19Ok.mono_l k).2.2 x0 x1 x2 x3) (fun k => by simp only [spec_l19Ok.l0]) ?_
  repeat' first
    | with_reducible exact Lim.const _
    | with_reducible exact spec_l19AddRail.F_lim _ _ _ _ _ _
    | with_reducible exact spec_l19Ok.L0_lim _ _ _ _
    | with_reducible exact spec_l19Ok.L1_lim _ _ _ _
    | with_reducible refine Lim.ite ?_ ?_
    | with_reducible refine Lim.bind ?_ (fun _ => ?_)
theorem spec_l19Ok.F_eq (l0 : List (S32)) : spec_l19Ok.F l0 = if 0 < (l0.length : Int) then (if (rd_T32 l0 0).f0.length ≤ 1048576 ∧ (rd_T32 l0 0).f1.length ≤ 1048576 ∧ (rd_T32 l0 0).f2.length ≤ 1048576 then (spec_l19Ok.L0 (rd_T32 l0 0).f0 (rd_T32 l0 0).f1 (rd_T32 l0 0).f2 0) else (none)) else (none) := by
  refine Lim.eq (g := fun k => spec_l19Ok.f k l0) ?_
  unfold spec_l19Ok.f
  repeat' first
    | with_reducible exact Lim.const _
    | with_reducible exact spec_l19Ok.L0_lim _ _ _ _
    | with_reducible refine Lim.ite ?_ ?_
    | with_reducible refine Lim.bind ?_ (fun _ => ?_)

noncomputable def spec_WrongSides.L0 (x4 : List ByteArray) (x5 : Int) (x224000 : List (S69)) (x224001 : List ByteArray) (x224002 : List (S40)) : Option (List ByteArray × Int) := lim (fun k => spec_WrongSides.l0 k x4 x5 x224000 x224001 x224002)
theorem spec_WrongSides.L0_lim (x4 : List ByteArray) (x5 : Int) (x224000 : List (S69)) (x224001 : List ByteArray) (x224002 : List (S40)) : Lim (fun k => spec_WrongSides.l0 k x4 x5 x224000 x224001 x224002) (spec_WrongSides.L0 x4 x5 x224000 x224001 x224002) := Lim.of (fun k => (spec_WrongSides.mono_l k).1 x4 x5 x224000 x224001 x224002)
noncomputable def spec_WrongSides.J1 (x4 : List ByteArray) (x5 : Int) (x6 : Int) (x7 : Int) (x48 : Bool) (x224000 : List (S69)) (x224001 : List ByteArray) (x224002 : List (S40)) : Option (List ByteArray × Int) := lim (fun k => spec_WrongSides.j1 k x4 x5 x6 x7 x48 x224000 x224001 x224002)
theorem spec_WrongSides.J1_lim (x4 : List ByteArray) (x5 : Int) (x6 : Int) (x7 : Int) (x48 : Bool) (x224000 : List (S69)) (x224001 : List ByteArray) (x224002 : List (S40)) : Lim (fun k => spec_WrongSides.j1 k x4 x5 x6 x7 x48 x224000 x224001 x224002) (spec_WrongSides.J1 x4 x5 x6 x7 x48 x224000 x224001 x224002) := Lim.of (fun k => (spec_WrongSides.mono_l k).2 x4 x5 x6 x7 x48 x224000 x224001 x224002)
noncomputable def spec_WrongSides.F (l0_0 : List (S69)) (l0_1 : List ByteArray) (l0_2 : List (S40)) : Option (List ByteArray × Int) := lim (fun k => spec_WrongSides.f k l0_0 l0_1 l0_2)
theorem spec_WrongSides.F_lim (l0_0 : List (S69)) (l0_1 : List ByteArray) (l0_2 : List (S40)) : Lim (fun k => spec_WrongSides.f k l0_0 l0_1 l0_2) (spec_WrongSides.F l0_0 l0_1 l0_2) := Lim.of (fun k => spec_WrongSides.mono l0_0 l0_1 l0_2 k)
theorem spec_WrongSides.L0_eq (x4 : List ByteArray) (x5 : Int) (x224000 : List (S69)) (x224001 : List ByteArray) (x224002 : List (S40)) : spec_WrongSides.L0 x4 x5 x224000 x224001 x224002 = if x5 < (x224001.length : Int) then (if 0 ≤ x5 then ((spec_l19Of.F [(⟨x224000, x224001, x224002⟩ : S32)] (rdOf ByteArray.empty x224001 x5)).bind fun t231 => (if t231 < 0 then (spec_WrongSides.J1 x4 x5 t231 ((rdOf ByteArray.empty x224001 x5).size : Int) true x224000 x224001 x224002) else (if ((rdOf ByteArray.empty x224001 x5).size : Int) < 3 then (spec_WrongSides.J1 x4 x5 t231 ((rdOf ByteArray.empty x224001 x5).size : Int) true x224000 x224001 x224002) else (if 0 ≤ (wrap64 (((rdOf ByteArray.empty x224001 x5).size : Int) - 2)) then (if (wrap64 (((rdOf ByteArray.empty x224001 x5).size : Int) - 2)) < ((rdOf ByteArray.empty x224001 x5).size : Int) then (spec_WrongSides.J1 x4 x5 t231 ((rdOf ByteArray.empty x224001 x5).size : Int) ((bt (rdOf ByteArray.empty x224001 x5) (wrap64 (((rdOf ByteArray.empty x224001 x5).size : Int) - 2))) != 45) x224000 x224001 x224002) else (none)) else (none))))) else (none)) else (some (x4, 0)) := by
  refine Lim.step (f := fun k => if x5 < (x224001.length : Int) then (if 0 ≤ x5 then ((spec_l19Of.f k [(⟨x224000, x224001, x224002⟩ : S32)] (rdOf ByteArray.empty x224001 x5)).bind fun t231 => (if t231 < 0 then (spec_WrongSides.j1 k x4 x5 t231 ((rdOf ByteArray.empty x224001 x5).size : Int) true x224000 x224001 x224002) else (if ((rdOf ByteArray.empty x224001 x5).size : Int) < 3 then (spec_WrongSides.j1 k x4 x5 t231 ((rdOf ByteArray.empty x224001 x5).size : Int) true x224000 x224001 x224002) else (if 0 ≤ (wrap64 (((rdOf ByteArray.empty x224001 x5).size : Int) - 2)) then (if (wrap64 (((rdOf ByteArray.empty x224001 x5).size : Int) - 2)) < ((rdOf ByteArray.empty x224001 x5).size : Int) then (spec_WrongSides.j1 k x4 x5 t231 ((rdOf ByteArray.empty x224001 x5).size : Int) ((bt (rdOf ByteArray.empty x224001 x5) (wrap64 (((rdOf ByteArray.empty x224001 x5).size : Int) - 2))) != 45) x224000 x224001 x224002) else (none)) else (none))))) else (none)) else (some (x4, 0))) (fun k => (spec_WrongSides.mono_l k).1 x4 x5 x224000 x224001 x224002) (fun k => by simp only [spec_WrongSides.l0]) ?_
  repeat' first
    | with_reducible exact Lim.const _
    | with_reducible exact spec_WrongSides.J1_lim _ _ _ _ _ _ _ _
    | with_reducible exact spec_l19Of.F_lim _ _
    | with_reducible refine Lim.ite ?_ ?_
    | with_reducible refine Lim.bind ?_ (fun _ => ?_)
theorem spec_WrongSides.J1_eq (x4 : List ByteArray) (x5 : Int) (x6 : Int) (x7 : Int) (x48 : Bool) (x224000 : List (S69)) (x224001 : List ByteArray) (x224002 : List (S40)) : spec_WrongSides.J1 x4 x5 x6 x7 x48 x224000 x224001 x224002 = if x48 = true then (spec_WrongSides.L0 x4 (wrap64 (x5 + 1)) x224000 x224001 x224002) else (if 0 ≤ x5 then (if x5 < (x224001.length : Int) then (if 0 ≤ (wrap64 (x7 - 1)) then (if (wrap64 (x7 - 1)) ≤ ((rdOf ByteArray.empty x224001 x5).size : Int) then (if 0 ≤ x6 then (if x6 < (x224002.length : Int) then ((spec_l19Rail.F [(⟨x224000, x224001, x224002⟩ : S32)] ((rd_T40 x224002 x6).f1)).bind fun t237 => (if ((rdOf ByteArray.empty x224001 x5).extract ((wrap64 (x7 - 1)) : Int).toNat (rdOf ByteArray.empty x224001 x5).size).toList = ([112] : List UInt8) then (if 0 ≤ t237 then (if t237 < (x224000.length : Int) then (if ((rd_T69 x224000 t237).f1).toList = ((rdOf ByteArray.empty x224001 x5).extract ((wrap64 (x7 - 1)) : Int).toNat (rdOf ByteArray.empty x224001 x5).size).toList then (spec_WrongSides.L0 x4 (wrap64 (x5 + 1)) x224000 x224001 x224002) else (if x4.length < 8796093022208 then (spec_WrongSides.L0 (x4 ++ [rdOf ByteArray.empty x224001 x5]) (wrap64 (x5 + 1)) x224000 x224001 x224002) else (none))) else (none)) else (none)) else (if ((rdOf ByteArray.empty x224001 x5).extract ((wrap64 (x7 - 1)) : Int).toNat (rdOf ByteArray.empty x224001 x5).size).toList = ([115] : List UInt8) then (if 0 ≤ t237 then (if t237 < (x224000.length : Int) then (if ((rd_T69 x224000 t237).f1).toList = ((rdOf ByteArray.empty x224001 x5).extract ((wrap64 (x7 - 1)) : Int).toNat (rdOf ByteArray.empty x224001 x5).size).toList then (spec_WrongSides.L0 x4 (wrap64 (x5 + 1)) x224000 x224001 x224002) else (if x4.length < 8796093022208 then (spec_WrongSides.L0 (x4 ++ [rdOf ByteArray.empty x224001 x5]) (wrap64 (x5 + 1)) x224000 x224001 x224002) else (none))) else (none)) else (none)) else (spec_WrongSides.L0 x4 (wrap64 (x5 + 1)) x224000 x224001 x224002)))) else (none)) else (none)) else (none)) else (none)) else (none)) else (none)) := by
  refine Lim.step (f := fun k => if x48 = true then (spec_WrongSides.l0 k x4 (wrap64 (x5 + 1)) x224000 x224001 x224002) else (if 0 ≤ x5 then (if x5 < (x224001.length : Int) then (if 0 ≤ (wrap64 (x7 - 1)) then (if (wrap64 (x7 - 1)) ≤ ((rdOf ByteArray.empty x224001 x5).size : Int) then (if 0 ≤ x6 then (if x6 < (x224002.length : Int) then ((spec_l19Rail.f k [(⟨x224000, x224001, x224002⟩ : S32)] ((rd_T40 x224002 x6).f1)).bind fun t237 => (if ((rdOf ByteArray.empty x224001 x5).extract ((wrap64 (x7 - 1)) : Int).toNat (rdOf ByteArray.empty x224001 x5).size).toList = ([112] : List UInt8) then (if 0 ≤ t237 then (if t237 < (x224000.length : Int) then (if ((rd_T69 x224000 t237).f1).toList = ((rdOf ByteArray.empty x224001 x5).extract ((wrap64 (x7 - 1)) : Int).toNat (rdOf ByteArray.empty x224001 x5).size).toList then (spec_WrongSides.l0 k x4 (wrap64 (x5 + 1)) x224000 x224001 x224002) else (if x4.length < 8796093022208 then (spec_WrongSides.l0 k (x4 ++ [rdOf ByteArray.empty x224001 x5]) (wrap64 (x5 + 1)) x224000 x224001 x224002) else (none))) else (none)) else (none)) else (if ((rdOf ByteArray.empty x224001 x5).extract ((wrap64 (x7 - 1)) : Int).toNat (rdOf ByteArray.empty x224001 x5).size).toList = ([115] : List UInt8) then (if 0 ≤ t237 then (if t237 < (x224000.length : Int) then (if ((rd_T69 x224000 t237).f1).toList = ((rdOf ByteArray.empty x224001 x5).extract ((wrap64 (x7 - 1)) : Int).toNat (rdOf ByteArray.empty x224001 x5).size).toList then (spec_WrongSides.l0 k x4 (wrap64 (x5 + 1)) x224000 x224001 x224002) else (if x4.length < 8796093022208 then (spec_WrongSides.l0 k (x4 ++ [rdOf ByteArray.empty x224001 x5]) (wrap64 (x5 + 1)) x224000 x224001 x224002) else (none))) else (none)) else (none)) else (spec_WrongSides.l0 k x4 (wrap64 (x5 + 1)) x224000 x224001 x224002)))) else (none)) else (none)) else (none)) else (none)) else (none)) else (none))) (fun k => (spec_WrongSides.mono_l k).2 x4 x5 x6 x7 x48 x224000 x224001 x224002) (fun k => by simp only [spec_WrongSides.j1]) ?_
  repeat' first
    | with_reducible exact Lim.const _
    | with_reducible exact spec_WrongSides.L0_lim _ _ _ _ _
    | with_reducible exact spec_l19Rail.F_lim _ _
    | with_reducible refine Lim.ite ?_ ?_
    | with_reducible refine Lim.bind ?_ (fun _ => ?_)
theorem spec_WrongSides.F_eq (l0_0 : List (S69)) (l0_1 : List ByteArray) (l0_2 : List (S40)) : spec_WrongSides.F l0_0 l0_1 l0_2 = (spec_l19Ok.F [(⟨l0_0, l0_1, l0_2⟩ : S32)]).bind fun t225 => (if t225 = true then (spec_WrongSides.L0 (([] : List ByteArray)) 0 l0_0 l0_1 l0_2) else (some (([] : List ByteArray), 1))) := by
  refine Lim.eq (g := fun k => spec_WrongSides.f k l0_0 l0_1 l0_2) ?_
  unfold spec_WrongSides.f
  repeat' first
    | with_reducible exact Lim.const _
    | with_reducible exact spec_WrongSides.L0_lim _ _ _ _ _
    | with_reducible exact spec_l19Ok.F_lim _
    | with_reducible refine Lim.ite ?_ ?_
    | with_reducible refine Lim.bind ?_ (fun _ => ?_)

noncomputable def impl_IsName.J0 (x0 : ByteArray) (x21 : Bool) : Option (Bool) := lim (fun k => impl_IsName.j0 k x0 x21)
theorem impl_IsName.J0_lim (x0 : ByteArray) (x21 : Bool) : Lim (fun k => impl_IsName.j0 k x0 x21) (impl_IsName.J0 x0 x21) := Lim.of (fun k => (impl_IsName.mono_l k).1 x0 x21)
noncomputable def impl_IsName.L0 (x0 : ByteArray) (x3 : Int) : Option (Bool) := lim (fun k => impl_IsName.l0 k x0 x3)
theorem impl_IsName.L0_lim (x0 : ByteArray) (x3 : Int) : Lim (fun k => impl_IsName.l0 k x0 x3) (impl_IsName.L0 x0 x3) := Lim.of (fun k => (impl_IsName.mono_l k).2 x0 x3)
noncomputable def impl_IsName.F (a0 : ByteArray) : Option (Bool) := lim (fun k => impl_IsName.f k a0)
theorem impl_IsName.F_lim (a0 : ByteArray) : Lim (fun k => impl_IsName.f k a0) (impl_IsName.F a0) := Lim.of (fun k => impl_IsName.mono a0 k)
theorem impl_IsName.J0_eq (x0 : ByteArray) (x21 : Bool) : impl_IsName.J0 x0 x21 = if x21 = true then (some false) else (impl_IsName.L0 x0 0) := by
  refine Lim.step (f := fun k => if x21 = true then (some false) else (impl_IsName.l0 k x0 0)) (fun k => (impl_IsName.mono_l k).1 x0 x21) (fun k => by simp only [impl_IsName.j0]) ?_
  repeat' first
    | with_reducible exact Lim.const _
    | with_reducible exact impl_IsName.L0_lim _ _
    | with_reducible refine Lim.ite ?_ ?_
    | with_reducible refine Lim.bind ?_ (fun _ => ?_)
theorem impl_IsName.L0_eq (x0 : ByteArray) (x3 : Int) : impl_IsName.L0 x0 x3 = if x3 < (x0.size : Int) then (if 0 ≤ x3 then (if (bt x0 x3) < 97 then (if (bt x0 x3) < 48 then (if (bt x0 x3) = 45 then (impl_IsName.L0 x0 (wrap64 (x3 + 1))) else (some false)) else (if (bt x0 x3) > 57 then (if (bt x0 x3) = 45 then (impl_IsName.L0 x0 (wrap64 (x3 + 1))) else (some false)) else (impl_IsName.L0 x0 (wrap64 (x3 + 1))))) else (if (bt x0 x3) > 122 then (if (bt x0 x3) < 48 then (if (bt x0 x3) = 45 then (impl_IsName.L0 x0 (wrap64 (x3 + 1))) else (some false)) else (if (bt x0 x3) > 57 then (if (bt x0 x3) = 45 then (impl_IsName.L0 x0 (wrap64 (x3 + 1))) else (some false)) else (impl_IsName.L0 x0 (wrap64 (x3 + 1))))) else (impl_IsName.L0 x0 (wrap64 (x3 + 1))))) else (none)) else (some true) := by
  refine Lim.step (f := fun k => if x3 < (x0.size : Int) then (if 0 ≤ x3 then (if (bt x0 x3) < 97 then (if (bt x0 x3) < 48 then (if (bt x0 x3) = 45 then (impl_IsName.l0 k x0 (wrap64 (x3 + 1))) else (some false)) else (if (bt x0 x3) > 57 then (if (bt x0 x3) = 45 then (impl_IsName.l0 k x0 (wrap64 (x3 + 1))) else (some false)) else (impl_IsName.l0 k x0 (wrap64 (x3 + 1))))) else (if (bt x0 x3) > 122 then (if (bt x0 x3) < 48 then (if (bt x0 x3) = 45 then (impl_IsName.l0 k x0 (wrap64 (x3 + 1))) else (some false)) else (if (bt x0 x3) > 57 then (if (bt x0 x3) = 45 then (impl_IsName.l0 k x0 (wrap64 (x3 + 1))) else (some false)) else (impl_IsName.l0 k x0 (wrap64 (x3 + 1))))) else (impl_IsName.l0 k x0 (wrap64 (x3 + 1))))) else (none)) else (some true)) (fun k => (impl_IsName.mono_l k).2 x0 x3) (fun k => by simp only [impl_IsName.l0]) ?_
  repeat' first
    | with_reducible exact Lim.const _
    | with_reducible exact impl_IsName.L0_lim _ _
    | with_reducible refine Lim.ite ?_ ?_
    | with_reducible refine Lim.bind ?_ (fun _ => ?_)
theorem impl_IsName.F_eq (a0 : ByteArray) : impl_IsName.F a0 = if (a0.size : Int) < 1 then (impl_IsName.J0 a0 true) else (if (a0.size : Int) > 12 then (impl_IsName.J0 a0 true) else (if 0 < (a0.size : Int) then (if (bt a0 0) < 97 then (impl_IsName.J0 a0 true) else (impl_IsName.J0 a0 (decide ((bt a0 0) > 122)))) else (none))) := by
  refine Lim.eq (g := fun k => impl_IsName.f k a0) ?_
  unfold impl_IsName.f
  repeat' first
    | with_reducible exact Lim.const _
    | with_reducible exact impl_IsName.J0_lim _ _
    | with_reducible refine Lim.ite ?_ ?_
    | with_reducible refine Lim.bind ?_ (fun _ => ?_)

noncomputable def impl_addRail.F (l0 : List (S69)) (a1 : ByteArray) (a2 : ByteArray) (a3 : Int) : Option (Int) := lim (fun k => impl_addRail.f k l0 a1 a2 a3)
theorem impl_addRail.F_lim (l0 : List (S69)) (a1 : ByteArray) (a2 : ByteArray) (a3 : Int) : Lim (fun k => impl_addRail.f k l0 a1 a2 a3) (impl_addRail.F l0 a1 a2 a3) := Lim.of (fun k => impl_addRail.mono l0 a1 a2 a3 k)
theorem impl_addRail.F_eq (l0 : List (S69)) (a1 : ByteArray) (a2 : ByteArray) (a3 : Int) : impl_addRail.F l0 a1 a2 a3 = (impl_IsName.F a1).bind fun t1 => ((impl_within.f a3 1 30).bind fun t2 => ((impl_railNamed.f l0 [] [] a1).bind fun t3 => (some (addRailN t1 (railSide a2) t2 t3 l0.length)))) := by
  refine Lim.eq (g := fun k => impl_addRail.f k l0 a1 a2 a3) ?_
  unfold impl_addRail.f
  repeat' first
    | with_reducible exact Lim.const _
    | with_reducible exact impl_IsName.F_lim _
    | with_reducible refine Lim.ite ?_ ?_
    | with_reducible refine Lim.bind ?_ (fun _ => ?_)

noncomputable def slices_Index_string_string.L0 (x0 : List ByteArray) (x1 : ByteArray) (x7 : Int) (x8 : Int) : Option (Int) := lim (fun k => slices_Index_string_string.l0 k x0 x1 x7 x8)
theorem slices_Index_string_string.L0_lim (x0 : List ByteArray) (x1 : ByteArray) (x7 : Int) (x8 : Int) : Lim (fun k => slices_Index_string_string.l0 k x0 x1 x7 x8) (slices_Index_string_string.L0 x0 x1 x7 x8) := Lim.of (fun k => (slices_Index_string_string.mono_l k) x0 x1 x7 x8)
noncomputable def slices_Index_string_string.F (l0 : List ByteArray) (a1 : ByteArray) : Option (Int) := lim (fun k => slices_Index_string_string.f k l0 a1)
theorem slices_Index_string_string.F_lim (l0 : List ByteArray) (a1 : ByteArray) : Lim (fun k => slices_Index_string_string.f k l0 a1) (slices_Index_string_string.F l0 a1) := Lim.of (fun k => slices_Index_string_string.mono l0 a1 k)
theorem slices_Index_string_string.L0_eq (x0 : List ByteArray) (x1 : ByteArray) (x7 : Int) (x8 : Int) : slices_Index_string_string.L0 x0 x1 x7 x8 = if x8 < x7 then (if 0 ≤ x8 then (if x8 < (x0.length : Int) then (if x1.toList = (rdOf ByteArray.empty x0 x8).toList then (some x8) else (slices_Index_string_string.L0 x0 x1 x7 (wrap64 (x8 + 1)))) else (none)) else (none)) else (some (-1)) := by
  refine Lim.step (f := fun k => if x8 < x7 then (if 0 ≤ x8 then (if x8 < (x0.length : Int) then (if x1.toList = (rdOf ByteArray.empty x0 x8).toList then (some x8) else (slices_Index_string_string.l0 k x0 x1 x7 (wrap64 (x8 + 1)))) else (none)) else (none)) else (some (-1))) (fun k => (slices_Index_string_string.mono_l k) x0 x1 x7 x8) (fun k => by simp only [slices_Index_string_string.l0]) ?_
  repeat' first
    | with_reducible exact Lim.const _
    | with_reducible exact slices_Index_string_string.L0_lim _ _ _ _
    | with_reducible refine Lim.ite ?_ ?_
    | with_reducible refine Lim.bind ?_ (fun _ => ?_)
theorem slices_Index_string_string.F_eq (l0 : List ByteArray) (a1 : ByteArray) : slices_Index_string_string.F l0 a1 = slices_Index_string_string.L0 l0 a1 (l0.length : Int) 0 := by
  refine Lim.eq (g := fun k => slices_Index_string_string.f k l0 a1) ?_
  unfold slices_Index_string_string.f
  repeat' first
    | with_reducible exact Lim.const _
    | with_reducible exact slices_Index_string_string.L0_lim _ _ _ _
    | with_reducible refine Lim.ite ?_ ?_
    | with_reducible refine Lim.bind ?_ (fun _ => ?_)

noncomputable def slices_Contains_string_string.F (l0 : List ByteArray) (a1 : ByteArray) : Option (Bool) := lim (fun k => slices_Contains_string_string.f k l0 a1)
theorem slices_Contains_string_string.F_lim (l0 : List ByteArray) (a1 : ByteArray) : Lim (fun k => slices_Contains_string_string.f k l0 a1) (slices_Contains_string_string.F l0 a1) := Lim.of (fun k => slices_Contains_string_string.mono l0 a1 k)
theorem slices_Contains_string_string.F_eq (l0 : List ByteArray) (a1 : ByteArray) : slices_Contains_string_string.F l0 a1 = (slices_Index_string_string.F l0 a1).bind fun t249 => (some (decide (t249 ≥ 0))) := by
  refine Lim.eq (g := fun k => slices_Contains_string_string.f k l0 a1) ?_
  unfold slices_Contains_string_string.f
  repeat' first
    | with_reducible exact Lim.const _
    | with_reducible exact slices_Index_string_string.F_lim _ _
    | with_reducible refine Lim.ite ?_ ?_
    | with_reducible refine Lim.bind ?_ (fun _ => ?_)

noncomputable def impl_addLine.F (l0 : List ByteArray) (a1 : ByteArray) : Option (Int) := lim (fun k => impl_addLine.f k l0 a1)
theorem impl_addLine.F_lim (l0 : List ByteArray) (a1 : ByteArray) : Lim (fun k => impl_addLine.f k l0 a1) (impl_addLine.F l0 a1) := Lim.of (fun k => impl_addLine.mono l0 a1 k)
theorem impl_addLine.F_eq (l0 : List ByteArray) (a1 : ByteArray) : impl_addLine.F l0 a1 = (impl_IsName.F a1).bind fun t1 => ((slices_Contains_string_string.F l0 a1).bind fun t2 => (some (addLineN t1 t2 l0.length))) := by
  refine Lim.eq (g := fun k => impl_addLine.f k l0 a1) ?_
  unfold impl_addLine.f
  repeat' first
    | with_reducible exact Lim.const _
    | with_reducible exact impl_IsName.F_lim _
    | with_reducible exact slices_Contains_string_string.F_lim _ _
    | with_reducible refine Lim.ite ?_ ?_
    | with_reducible refine Lim.bind ?_ (fun _ => ?_)

noncomputable def impl_addBelay.F (l0 : List (S69)) (l1 : List ByteArray) (l2 : List (S40)) (a1 : ByteArray) (a2 : ByteArray) (a3 : Int) : Option (Int) := lim (fun k => impl_addBelay.f k l0 l1 l2 a1 a2 a3)
theorem impl_addBelay.F_lim (l0 : List (S69)) (l1 : List ByteArray) (l2 : List (S40)) (a1 : ByteArray) (a2 : ByteArray) (a3 : Int) : Lim (fun k => impl_addBelay.f k l0 l1 l2 a1 a2 a3) (impl_addBelay.F l0 l1 l2 a1 a2 a3) := Lim.of (fun k => impl_addBelay.mono l0 l1 l2 a1 a2 a3 k)
theorem impl_addBelay.F_eq (l0 : List (S69)) (l1 : List ByteArray) (l2 : List (S40)) (a1 : ByteArray) (a2 : ByteArray) (a3 : Int) : impl_addBelay.F l0 l1 l2 a1 a2 a3 = (impl_railNamed.f l0 l1 l2 a2).bind fun t1 => ((slices_Contains_string_string.F l1 a1).bind fun t2 => ((impl_hasPin.f l0 l1 l2 a2 a3).bind fun t3 => ((impl_belayOf.f l0 l1 l2 a1).bind fun t4 => ((impl_belayAt.f l0 l1 l2 a2 a3).bind fun t5 => (some (addBelayN t1 t2 t3 t4 t5)))))) := by
  refine Lim.eq (g := fun k => impl_addBelay.f k l0 l1 l2 a1 a2 a3) ?_
  unfold impl_addBelay.f
  repeat' first
    | with_reducible exact Lim.const _
    | with_reducible exact slices_Contains_string_string.F_lim _ _
    | with_reducible refine Lim.ite ?_ ?_
    | with_reducible refine Lim.bind ?_ (fun _ => ?_)

noncomputable def impl_ValidRig.L2 (x0 : List (S69)) (x1 : List ByteArray) (x2 : List (S40)) (x3 : Int) : Option (Bool) := lim (fun k => impl_ValidRig.l2 k x0 x1 x2 x3)
theorem impl_ValidRig.L2_lim (x0 : List (S69)) (x1 : List ByteArray) (x2 : List (S40)) (x3 : Int) : Lim (fun k => impl_ValidRig.l2 k x0 x1 x2 x3) (impl_ValidRig.L2 x0 x1 x2 x3) := Lim.of (fun k => (impl_ValidRig.mono_l k).1 x0 x1 x2 x3)
noncomputable def impl_ValidRig.L1 (x0 : List (S69)) (x1 : List ByteArray) (x2 : List (S40)) (x3 : Int) : Option (Bool) := lim (fun k => impl_ValidRig.l1 k x0 x1 x2 x3)
theorem impl_ValidRig.L1_lim (x0 : List (S69)) (x1 : List ByteArray) (x2 : List (S40)) (x3 : Int) : Lim (fun k => impl_ValidRig.l1 k x0 x1 x2 x3) (impl_ValidRig.L1 x0 x1 x2 x3) := Lim.of (fun k => (impl_ValidRig.mono_l k).2.1 x0 x1 x2 x3)
noncomputable def impl_ValidRig.L0 (x0 : List (S69)) (x1 : List ByteArray) (x2 : List (S40)) (x3 : Int) : Option (Bool) := lim (fun k => impl_ValidRig.l0 k x0 x1 x2 x3)
theorem impl_ValidRig.L0_lim (x0 : List (S69)) (x1 : List ByteArray) (x2 : List (S40)) (x3 : Int) : Lim (fun k => impl_ValidRig.l0 k x0 x1 x2 x3) (impl_ValidRig.L0 x0 x1 x2 x3) := Lim.of (fun k => (impl_ValidRig.mono_l k).2.2 x0 x1 x2 x3)
noncomputable def impl_ValidRig.F (l0_0 : List (S69)) (l0_1 : List ByteArray) (l0_2 : List (S40)) : Option (Bool) := lim (fun k => impl_ValidRig.f k l0_0 l0_1 l0_2)
theorem impl_ValidRig.F_lim (l0_0 : List (S69)) (l0_1 : List ByteArray) (l0_2 : List (S40)) : Lim (fun k => impl_ValidRig.f k l0_0 l0_1 l0_2) (impl_ValidRig.F l0_0 l0_1 l0_2) := Lim.of (fun k => impl_ValidRig.mono l0_0 l0_1 l0_2 k)
theorem impl_ValidRig.L2_eq (x0 : List (S69)) (x1 : List ByteArray) (x2 : List (S40)) (x3 : Int) : impl_ValidRig.L2 x0 x1 x2 x3 = if x3 < (x2.length : Int) then (if 0 ≤ x3 then ((impl_addBelay.F x0 x1 (x2.take x3.toNat) ((rd_T40 x2 x3).f0) ((rd_T40 x2 x3).f1) ((rd_T40 x2 x3).f2)).bind fun t1 => (if t1 = 0 then (impl_ValidRig.L2 x0 x1 x2 (wrap64 (x3 + 1))) else (some false))) else (none)) else (some true) := by
  refine Lim.step (f := fun k => if x3 < (x2.length : Int) then (if 0 ≤ x3 then ((impl_addBelay.f k x0 x1 (x2.take x3.toNat) ((rd_T40 x2 x3).f0) ((rd_T40 x2 x3).f1) ((rd_T40 x2 x3).f2)).bind fun t1 => (if t1 = 0 then (impl_ValidRig.l2 k x0 x1 x2 (wrap64 (x3 + 1))) else (some false))) else (none)) else (some true)) (fun k => (impl_ValidRig.mono_l k).1 x0 x1 x2 x3) (fun k => by simp only [impl_ValidRig.l2]) ?_
  repeat' first
    | with_reducible exact Lim.const _
    | with_reducible exact impl_ValidRig.L2_lim _ _ _ _
    | with_reducible exact impl_addBelay.F_lim _ _ _ _ _ _
    | with_reducible refine Lim.ite ?_ ?_
    | with_reducible refine Lim.bind ?_ (fun _ => ?_)
theorem impl_ValidRig.L1_eq (x0 : List (S69)) (x1 : List ByteArray) (x2 : List (S40)) (x3 : Int) : impl_ValidRig.L1 x0 x1 x2 x3 = if x3 < (x1.length : Int) then (if 0 ≤ x3 then ((impl_addLine.F (x1.take x3.toNat) (rdOf ByteArray.empty x1 x3)).bind fun t1 => (if t1 = 0 then (impl_ValidRig.L1 x0 x1 x2 (wrap64 (x3 + 1))) else (some false))) else (none)) else (impl_ValidRig.L2 x0 x1 x2 0) := by
  refine Lim.step (f := fun k => if x3 < (x1.length : Int) then (if 0 ≤ x3 then ((impl_addLine.f k (x1.take x3.toNat) (rdOf ByteArray.empty x1 x3)).bind fun t1 => (if t1 = 0 then (impl_ValidRig.l1 k x0 x1 x2 (wrap64 (x3 + 1))) else (some false))) else (none)) else (impl_ValidRig.l2 k x0 x1 x2 0)) (fun k => (impl_ValidRig.mono_l k).2.1 x0 x1 x2 x3) (fun k => by simp only [impl_ValidRig.l1]) ?_
  repeat' first
    | with_reducible exact Lim.const _
    | with_reducible exact impl_ValidRig.L1_lim _ _ _ _
    | with_reducible exact impl_ValidRig.L2_lim _ _ _ _
    | with_reducible exact impl_addLine.F_lim _ _
    | with_reducible refine Lim.ite ?_ ?_
    | with_reducible refine Lim.bind ?_ (fun _ => ?_)
theorem impl_ValidRig.L0_eq (x0 : List (S69)) (x1 : List ByteArray) (x2 : List (S40)) (x3 : Int) : impl_ValidRig.L0 x0 x1 x2 x3 = if x3 < (x0.length : Int) then (if 0 ≤ x3 then ((impl_addRail.F (x0.take x3.toNat) ((rd_T69 x0 x3).f0) ((rd_T69 x0 x3).f1) ((rd_T69 x0 x3).f2)).bind fun t1 => (if t1 = 0 then (impl_ValidRig.L0 x0 x1 x2 (wrap64 (x3 + 1))) else (some false))) else (none)) else (impl_ValidRig.L1 x0 x1 x2 0) := by
  refine Lim.step (f := fun k => if x3 < (x0.length : Int) then (if 0 ≤ x3 then ((impl_addRail.f k (x0.take x3.toNat) ((rd_T69 x0 x3).f0) ((rd_T69 x0 x3).f1) ((rd_T69 x0 x3).f2)).bind fun t1 => (if t1 = 0 then (impl_ValidRig.l0 k x0 x1 x2 (wrap64 (x3 + 1))) else (some false))) else (none)) else (impl_ValidRig.l1 k x0 x1 x2 0)) (fun k => (impl_ValidRig.mono_l k).2.2 x0 x1 x2 x3) (fun k => by simp only [impl_ValidRig.l0]) ?_
  repeat' first
    | with_reducible exact Lim.const _
    | with_reducible exact impl_ValidRig.L0_lim _ _ _ _
    | with_reducible exact impl_ValidRig.L1_lim _ _ _ _
    | with_reducible exact impl_addRail.F_lim _ _ _ _
    | with_reducible refine Lim.ite ?_ ?_
    | with_reducible refine Lim.bind ?_ (fun _ => ?_)
theorem impl_ValidRig.F_eq (l0_0 : List (S69)) (l0_1 : List ByteArray) (l0_2 : List (S40)) : impl_ValidRig.F l0_0 l0_1 l0_2 = if l0_0.length ≤ 1048576 ∧ l0_1.length ≤ 1048576 ∧ l0_2.length ≤ 1048576 then (impl_ValidRig.L0 l0_0 l0_1 l0_2 0) else (none) := by
  refine Lim.eq (g := fun k => impl_ValidRig.f k l0_0 l0_1 l0_2) ?_
  unfold impl_ValidRig.f
  repeat' first
    | with_reducible exact Lim.const _
    | with_reducible exact impl_ValidRig.L0_lim _ _ _ _
    | with_reducible refine Lim.ite ?_ ?_
    | with_reducible refine Lim.bind ?_ (fun _ => ?_)

noncomputable def impl_WrongSides.L0 (x4 : List ByteArray) (x13 : List ByteArray) (x14 : Int) (x15 : Int) (x256000 : List (S69)) (x256001 : List ByteArray) (x256002 : List (S40)) : Option (List ByteArray × Int) := lim (fun k => impl_WrongSides.l0 k x4 x13 x14 x15 x256000 x256001 x256002)
theorem impl_WrongSides.L0_lim (x4 : List ByteArray) (x13 : List ByteArray) (x14 : Int) (x15 : Int) (x256000 : List (S69)) (x256001 : List ByteArray) (x256002 : List (S40)) : Lim (fun k => impl_WrongSides.l0 k x4 x13 x14 x15 x256000 x256001 x256002) (impl_WrongSides.L0 x4 x13 x14 x15 x256000 x256001 x256002) := Lim.of (fun k => (impl_WrongSides.mono_l k).1 x4 x13 x14 x15 x256000 x256001 x256002)
noncomputable def impl_WrongSides.J1 (x4 : List ByteArray) (x6 : ByteArray) (x7 : Int) (x13 : List ByteArray) (x14 : Int) (x15 : Int) (x38 : Bool) (x256000 : List (S69)) (x256001 : List ByteArray) (x256002 : List (S40)) : Option (List ByteArray × Int) := lim (fun k => impl_WrongSides.j1 k x4 x6 x7 x13 x14 x15 x38 x256000 x256001 x256002)
theorem impl_WrongSides.J1_lim (x4 : List ByteArray) (x6 : ByteArray) (x7 : Int) (x13 : List ByteArray) (x14 : Int) (x15 : Int) (x38 : Bool) (x256000 : List (S69)) (x256001 : List ByteArray) (x256002 : List (S40)) : Lim (fun k => impl_WrongSides.j1 k x4 x6 x7 x13 x14 x15 x38 x256000 x256001 x256002) (impl_WrongSides.J1 x4 x6 x7 x13 x14 x15 x38 x256000 x256001 x256002) := Lim.of (fun k => (impl_WrongSides.mono_l k).2 x4 x6 x7 x13 x14 x15 x38 x256000 x256001 x256002)
noncomputable def impl_WrongSides.F (l0_0 : List (S69)) (l0_1 : List ByteArray) (l0_2 : List (S40)) : Option (List ByteArray × Int) := lim (fun k => impl_WrongSides.f k l0_0 l0_1 l0_2)
theorem impl_WrongSides.F_lim (l0_0 : List (S69)) (l0_1 : List ByteArray) (l0_2 : List (S40)) : Lim (fun k => impl_WrongSides.f k l0_0 l0_1 l0_2) (impl_WrongSides.F l0_0 l0_1 l0_2) := Lim.of (fun k => impl_WrongSides.mono l0_0 l0_1 l0_2 k)
theorem impl_WrongSides.L0_eq (x4 : List ByteArray) (x13 : List ByteArray) (x14 : Int) (x15 : Int) (x256000 : List (S69)) (x256001 : List ByteArray) (x256002 : List (S40)) : impl_WrongSides.L0 x4 x13 x14 x15 x256000 x256001 x256002 = if x15 < x14 then (if 0 ≤ x15 then (if x15 < (x13.length : Int) then ((impl_belayOf.f x256000 x256001 x256002 (rdOf ByteArray.empty x13 x15)).bind fun t261 => (if t261 < 0 then (impl_WrongSides.J1 x4 (rdOf ByteArray.empty x13 x15) t261 x13 x14 x15 true x256000 x256001 x256002) else (if ((rdOf ByteArray.empty x13 x15).size : Int) < 3 then (impl_WrongSides.J1 x4 (rdOf ByteArray.empty x13 x15) t261 x13 x14 x15 true x256000 x256001 x256002) else ((strings_HasSuffix.f (rdOf ByteArray.empty x13 x15) (⟨#[45, 112]⟩ : ByteArray)).bind fun t262 => (if t262 = true then (impl_WrongSides.J1 x4 (rdOf ByteArray.empty x13 x15) t261 x13 x14 x15 false x256000 x256001 x256002) else ((strings_HasSuffix.f (rdOf ByteArray.empty x13 x15) (⟨#[45, 115]⟩ : ByteArray)).bind fun t263 => (impl_WrongSides.J1 x4 (rdOf ByteArray.empty x13 x15) t261 x13 x14 x15 (!t263) x256000 x256001 x256002))))))) else (none)) else (none)) else (some (x4, 0)) := by
  refine Lim.step (f := fun k => if x15 < x14 then (if 0 ≤ x15 then (if x15 < (x13.length : Int) then ((impl_belayOf.f x256000 x256001 x256002 (rdOf ByteArray.empty x13 x15)).bind fun t261 => (if t261 < 0 then (impl_WrongSides.j1 k x4 (rdOf ByteArray.empty x13 x15) t261 x13 x14 x15 true x256000 x256001 x256002) else (if ((rdOf ByteArray.empty x13 x15).size : Int) < 3 then (impl_WrongSides.j1 k x4 (rdOf ByteArray.empty x13 x15) t261 x13 x14 x15 true x256000 x256001 x256002) else ((strings_HasSuffix.f (rdOf ByteArray.empty x13 x15) (⟨#[45, 112]⟩ : ByteArray)).bind fun t262 => (if t262 = true then (impl_WrongSides.j1 k x4 (rdOf ByteArray.empty x13 x15) t261 x13 x14 x15 false x256000 x256001 x256002) else ((strings_HasSuffix.f (rdOf ByteArray.empty x13 x15) (⟨#[45, 115]⟩ : ByteArray)).bind fun t263 => (impl_WrongSides.j1 k x4 (rdOf ByteArray.empty x13 x15) t261 x13 x14 x15 (!t263) x256000 x256001 x256002))))))) else (none)) else (none)) else (some (x4, 0))) (fun k => (impl_WrongSides.mono_l k).1 x4 x13 x14 x15 x256000 x256001 x256002) (fun k => by simp only [impl_WrongSides.l0]) ?_
  repeat' first
    | with_reducible exact Lim.const _
    | with_reducible exact impl_WrongSides.J1_lim _ _ _ _ _ _ _ _ _ _
    | with_reducible refine Lim.ite ?_ ?_
    | with_reducible refine Lim.bind ?_ (fun _ => ?_)
theorem impl_WrongSides.J1_eq (x4 : List ByteArray) (x6 : ByteArray) (x7 : Int) (x13 : List ByteArray) (x14 : Int) (x15 : Int) (x38 : Bool) (x256000 : List (S69)) (x256001 : List ByteArray) (x256002 : List (S40)) : impl_WrongSides.J1 x4 x6 x7 x13 x14 x15 x38 x256000 x256001 x256002 = if x38 = true then (impl_WrongSides.L0 x4 x13 x14 (wrap64 (x15 + 1)) x256000 x256001 x256002) else (if 0 ≤ x7 then (if x7 < (x256002.length : Int) then ((impl_railNamed.f x256000 x256001 x256002 ((rd_T40 x256002 x7).f1)).bind fun t265 => (if 0 ≤ t265 then (if t265 < (x256000.length : Int) then (if 0 ≤ (wrap64 ((x6.size : Int) - 1)) then (if (wrap64 ((x6.size : Int) - 1)) ≤ (x6.size : Int) then (if ((rd_T69 x256000 t265).f1).toList = (x6.extract ((wrap64 ((x6.size : Int) - 1)) : Int).toNat x6.size).toList then (impl_WrongSides.L0 x4 x13 x14 (wrap64 (x15 + 1)) x256000 x256001 x256002) else (if x4.length < 8796093022208 then (impl_WrongSides.L0 (x4 ++ [x6]) x13 x14 (wrap64 (x15 + 1)) x256000 x256001 x256002) else (none))) else (none)) else (none)) else (none)) else (none))) else (none)) else (none)) := by
  refine Lim.step (f := fun k => if x38 = true then (impl_WrongSides.l0 k x4 x13 x14 (wrap64 (x15 + 1)) x256000 x256001 x256002) else (if 0 ≤ x7 then (if x7 < (x256002.length : Int) then ((impl_railNamed.f x256000 x256001 x256002 ((rd_T40 x256002 x7).f1)).bind fun t265 => (if 0 ≤ t265 then (if t265 < (x256000.length : Int) then (if 0 ≤ (wrap64 ((x6.size : Int) - 1)) then (if (wrap64 ((x6.size : Int) - 1)) ≤ (x6.size : Int) then (if ((rd_T69 x256000 t265).f1).toList = (x6.extract ((wrap64 ((x6.size : Int) - 1)) : Int).toNat x6.size).toList then (impl_WrongSides.l0 k x4 x13 x14 (wrap64 (x15 + 1)) x256000 x256001 x256002) else (if x4.length < 8796093022208 then (impl_WrongSides.l0 k (x4 ++ [x6]) x13 x14 (wrap64 (x15 + 1)) x256000 x256001 x256002) else (none))) else (none)) else (none)) else (none)) else (none))) else (none)) else (none))) (fun k => (impl_WrongSides.mono_l k).2 x4 x6 x7 x13 x14 x15 x38 x256000 x256001 x256002) (fun k => by simp only [impl_WrongSides.j1]) ?_
  repeat' first
    | with_reducible exact Lim.const _
    | with_reducible exact impl_WrongSides.L0_lim _ _ _ _ _ _ _
    | with_reducible refine Lim.ite ?_ ?_
    | with_reducible refine Lim.bind ?_ (fun _ => ?_)
theorem impl_WrongSides.F_eq (l0_0 : List (S69)) (l0_1 : List ByteArray) (l0_2 : List (S40)) : impl_WrongSides.F l0_0 l0_1 l0_2 = (impl_ValidRig.F l0_0 l0_1 l0_2).bind fun t256 => (if t256 = true then (impl_WrongSides.L0 (([] : List ByteArray)) l0_1 (l0_1.length : Int) 0 l0_0 l0_1 l0_2) else (some (([] : List ByteArray), 1))) := by
  refine Lim.eq (g := fun k => impl_WrongSides.f k l0_0 l0_1 l0_2) ?_
  unfold impl_WrongSides.f
  repeat' first
    | with_reducible exact Lim.const _
    | with_reducible exact impl_ValidRig.F_lim _ _ _
    | with_reducible exact impl_WrongSides.L0_lim _ _ _ _ _ _ _
    | with_reducible refine Lim.ite ?_ ?_
    | with_reducible refine Lim.bind ?_ (fun _ => ?_)

noncomputable def laws_FnExactWrongSides.J0 (x4 : List ByteArray) (x5 : Int) (x7 : List ByteArray) (x8 : Int) (x40 : Bool) (x271000 : List (S92)) (x271001 : List ByteArray) (x271002 : List (S55)) (x295000 : List (S69)) (x295001 : List ByteArray) (x295002 : List (S40)) : Option (Bool) := lim (fun k => laws_FnExactWrongSides.j0 k x4 x5 x7 x8 x40 x271000 x271001 x271002 x295000 x295001 x295002)
theorem laws_FnExactWrongSides.J0_lim (x4 : List ByteArray) (x5 : Int) (x7 : List ByteArray) (x8 : Int) (x40 : Bool) (x271000 : List (S92)) (x271001 : List ByteArray) (x271002 : List (S55)) (x295000 : List (S69)) (x295001 : List ByteArray) (x295002 : List (S40)) : Lim (fun k => laws_FnExactWrongSides.j0 k x4 x5 x7 x8 x40 x271000 x271001 x271002 x295000 x295001 x295002) (laws_FnExactWrongSides.J0 x4 x5 x7 x8 x40 x271000 x271001 x271002 x295000 x295001 x295002) := Lim.of (fun k => (laws_FnExactWrongSides.mono_l k).1 x4 x5 x7 x8 x40 x271000 x271001 x271002 x295000 x295001 x295002)
noncomputable def laws_FnExactWrongSides.J1 (x4 : List ByteArray) (x5 : Int) (x7 : List ByteArray) (x61 : Bool) (x271000 : List (S92)) (x271001 : List ByteArray) (x271002 : List (S55)) : Option (Bool) := lim (fun k => laws_FnExactWrongSides.j1 k x4 x5 x7 x61 x271000 x271001 x271002)
theorem laws_FnExactWrongSides.J1_lim (x4 : List ByteArray) (x5 : Int) (x7 : List ByteArray) (x61 : Bool) (x271000 : List (S92)) (x271001 : List ByteArray) (x271002 : List (S55)) : Lim (fun k => laws_FnExactWrongSides.j1 k x4 x5 x7 x61 x271000 x271001 x271002) (laws_FnExactWrongSides.J1 x4 x5 x7 x61 x271000 x271001 x271002) := Lim.of (fun k => (laws_FnExactWrongSides.mono_l k).2.1 x4 x5 x7 x61 x271000 x271001 x271002)
noncomputable def laws_FnExactWrongSides.J2 (x7 : List ByteArray) (x10 : Int) (x87 : Bool) : Option (Bool) := lim (fun k => laws_FnExactWrongSides.j2 k x7 x10 x87)
theorem laws_FnExactWrongSides.J2_lim (x7 : List ByteArray) (x10 : Int) (x87 : Bool) : Lim (fun k => laws_FnExactWrongSides.j2 k x7 x10 x87) (laws_FnExactWrongSides.J2 x7 x10 x87) := Lim.of (fun k => (laws_FnExactWrongSides.mono_l k).2.2 x7 x10 x87)
noncomputable def laws_FnExactWrongSides.F (l0_0 : List (S92)) (l0_1 : List ByteArray) (l0_2 : List (S55)) : Option (Bool) := lim (fun k => laws_FnExactWrongSides.f k l0_0 l0_1 l0_2)
theorem laws_FnExactWrongSides.F_lim (l0_0 : List (S92)) (l0_1 : List ByteArray) (l0_2 : List (S55)) : Lim (fun k => laws_FnExactWrongSides.f k l0_0 l0_1 l0_2) (laws_FnExactWrongSides.F l0_0 l0_1 l0_2) := Lim.of (fun k => laws_FnExactWrongSides.mono l0_0 l0_1 l0_2 k)
theorem laws_FnExactWrongSides.J0_eq (x4 : List ByteArray) (x5 : Int) (x7 : List ByteArray) (x8 : Int) (x40 : Bool) (x271000 : List (S92)) (x271001 : List ByteArray) (x271002 : List (S55)) (x295000 : List (S69)) (x295001 : List ByteArray) (x295002 : List (S40)) : laws_FnExactWrongSides.J0 x4 x5 x7 x8 x40 x271000 x271001 x271002 x295000 x295001 x295002 = if x40 = true then (some false) else ((laws_toRig.F x271000 x271001 x271002).bind fun bt300 => ((laws_eqRig.F x295000 x295001 x295002 bt300.1 bt300.2.1 bt300.2.2).bind fun t309 => (if t309 = true then ((laws_markRig.F x295000 x295001 x295002 1).bind fun bt310 => (if bt310.1 < 0 then (laws_FnExactWrongSides.J1 x4 x5 x7 true x271000 x271001 x271002) else ((laws_eqStringS.F x7 x4).bind fun t314 => (if t314 = true then (laws_FnExactWrongSides.J1 x4 x5 x7 (x8 != x5) x271000 x271001 x271002) else (laws_FnExactWrongSides.J1 x4 x5 x7 true x271000 x271001 x271002))))) else (some false)))) := by
  refine Lim.step (f := fun k => if x40 = true then (some false) else ((laws_toRig.f k x271000 x271001 x271002).bind fun bt300 => ((laws_eqRig.f k x295000 x295001 x295002 bt300.1 bt300.2.1 bt300.2.2).bind fun t309 => (if t309 = true then ((laws_markRig.f k x295000 x295001 x295002 1).bind fun bt310 => (if bt310.1 < 0 then (laws_FnExactWrongSides.j1 k x4 x5 x7 true x271000 x271001 x271002) else ((laws_eqStringS.f k x7 x4).bind fun t314 => (if t314 = true then (laws_FnExactWrongSides.j1 k x4 x5 x7 (x8 != x5) x271000 x271001 x271002) else (laws_FnExactWrongSides.j1 k x4 x5 x7 true x271000 x271001 x271002))))) else (some false))))) (fun k => (laws_FnExactWrongSides.mono_l k).1 x4 x5 x7 x8 x40 x271000 x271001 x271002 x295000 x295001 x295002) (fun k => by simp only [laws_FnExactWrongSides.j0]) ?_
  repeat' first
    | with_reducible exact Lim.const _
    | with_reducible exact laws_FnExactWrongSides.J1_lim _ _ _ _ _ _ _
    | with_reducible exact laws_eqRig.F_lim _ _ _ _ _ _
    | with_reducible exact laws_eqStringS.F_lim _ _
    | with_reducible exact laws_markRig.F_lim _ _ _ _
    | with_reducible exact laws_toRig.F_lim _ _ _
    | with_reducible refine Lim.ite ?_ ?_
    | with_reducible refine Lim.bind ?_ (fun _ => ?_)
theorem laws_FnExactWrongSides.J1_eq (x4 : List ByteArray) (x5 : Int) (x7 : List ByteArray) (x61 : Bool) (x271000 : List (S92)) (x271001 : List ByteArray) (x271002 : List (S55)) : laws_FnExactWrongSides.J1 x4 x5 x7 x61 x271000 x271001 x271002 = if x61 = true then (some false) else ((laws_markStringS.F x7 1).bind fun bt315 => ((laws_heldStringS.F bt315.2 1).bind fun t317 => (if t317 < 0 then (some false) else (if t317 = bt315.1 then ((laws_toRig.F x271000 x271001 x271002).bind fun bt318 => ((impl_WrongSides.F bt318.1 bt318.2.1 bt318.2.2).bind fun bt327 => ((laws_eqStringS.F bt327.1 x4).bind fun t331 => (if t331 = true then (laws_FnExactWrongSides.J2 bt315.2 bt315.1 (bt327.2 != x5)) else (laws_FnExactWrongSides.J2 bt315.2 bt315.1 true))))) else (some false))))) := by
  refine Lim.step (f := fun k => if x61 = true then (some false) else ((laws_markStringS.f k x7 1).bind fun bt315 => ((laws_heldStringS.f k bt315.2 1).bind fun t317 => (if t317 < 0 then (some false) else (if t317 = bt315.1 then ((laws_toRig.f k x271000 x271001 x271002).bind fun bt318 => ((impl_WrongSides.f k bt318.1 bt318.2.1 bt318.2.2).bind fun bt327 => ((laws_eqStringS.f k bt327.1 x4).bind fun t331 => (if t331 = true then (laws_FnExactWrongSides.j2 k bt315.2 bt315.1 (bt327.2 != x5)) else (laws_FnExactWrongSides.j2 k bt315.2 bt315.1 true))))) else (some false)))))) (fun k => (laws_FnExactWrongSides.mono_l k).2.1 x4 x5 x7 x61 x271000 x271001 x271002) (fun k => by simp only [laws_FnExactWrongSides.j1]) ?_
  repeat' first
    | with_reducible exact Lim.const _
    | with_reducible exact impl_WrongSides.F_lim _ _ _
    | with_reducible exact laws_FnExactWrongSides.J2_lim _ _ _
    | with_reducible exact laws_eqStringS.F_lim _ _
    | with_reducible exact laws_heldStringS.F_lim _ _
    | with_reducible exact laws_markStringS.F_lim _ _
    | with_reducible exact laws_toRig.F_lim _ _ _
    | with_reducible refine Lim.ite ?_ ?_
    | with_reducible refine Lim.bind ?_ (fun _ => ?_)
theorem laws_FnExactWrongSides.J2_eq (x7 : List ByteArray) (x10 : Int) (x87 : Bool) : laws_FnExactWrongSides.J2 x7 x10 x87 = if x87 = true then (some false) else ((laws_heldStringS.F x7 1).bind fun t332 => (if t332 < 0 then (some false) else (if t332 = x10 then (some true) else (some false)))) := by
  refine Lim.step (f := fun k => if x87 = true then (some false) else ((laws_heldStringS.f k x7 1).bind fun t332 => (if t332 < 0 then (some false) else (if t332 = x10 then (some true) else (some false))))) (fun k => (laws_FnExactWrongSides.mono_l k).2.2 x7 x10 x87) (fun k => by simp only [laws_FnExactWrongSides.j2]) ?_
  repeat' first
    | with_reducible exact Lim.const _
    | with_reducible exact laws_heldStringS.F_lim _ _
    | with_reducible refine Lim.ite ?_ ?_
    | with_reducible refine Lim.bind ?_ (fun _ => ?_)
theorem laws_FnExactWrongSides.F_eq (l0_0 : List (S92)) (l0_1 : List ByteArray) (l0_2 : List (S55)) : laws_FnExactWrongSides.F l0_0 l0_1 l0_2 = (laws_szRig.F l0_0 l0_1 l0_2 1048576).bind fun t271 => (if t271 < 0 then (some true) else ((laws_toRig.F l0_0 l0_1 l0_2).bind fun bt272 => ((spec_WrongSides.F bt272.1 bt272.2.1 bt272.2.2).bind fun bt281 => ((laws_toRig.F l0_0 l0_1 l0_2).bind fun bt285 => ((impl_WrongSides.F bt285.1 bt285.2.1 bt285.2.2).bind fun bt295 => ((laws_eqStringS.F bt295.1 bt281.1).bind fun t299 => (if t299 = true then (laws_FnExactWrongSides.J0 bt281.1 bt281.2 bt295.1 bt295.2 (bt295.2 != bt281.2) l0_0 l0_1 l0_2 bt285.1 bt285.2.1 bt285.2.2) else (laws_FnExactWrongSides.J0 bt281.1 bt281.2 bt295.1 bt295.2 true l0_0 l0_1 l0_2 bt285.1 bt285.2.1 bt285.2.2)))))))) := by
  refine Lim.eq (g := fun k => laws_FnExactWrongSides.f k l0_0 l0_1 l0_2) ?_
  unfold laws_FnExactWrongSides.f
  repeat' first
    | with_reducible exact Lim.const _
    | with_reducible exact impl_WrongSides.F_lim _ _ _
    | with_reducible exact laws_FnExactWrongSides.J0_lim _ _ _ _ _ _ _ _ _ _ _
    | with_reducible exact laws_eqStringS.F_lim _ _
    | with_reducible exact laws_szRig.F_lim _ _ _ _
    | with_reducible exact laws_toRig.F_lim _ _ _
    | with_reducible exact spec_WrongSides.F_lim _ _ _
    | with_reducible refine Lim.ite ?_ ?_
    | with_reducible refine Lim.bind ?_ (fun _ => ?_)

end Go.Proofs.Ytpngklefeaolfaa.PFnExactWrongSides
