/-
  Written by a program of this session (wip/tools/lims.py): the printed functions without their bound on rounds.
-/
import Derived.Test.YtbhijlhlopljmaaPFnExactPieceFaultx1
import Derived.Test.YtbhijlhlopljmaaPFnExactPieceFaultx2
import Derived.Test.YtbhijlhlopljmaaPFnExactPieceFaultx3
import Derived.Test.YtbhijlhlopljmaaPFnExactPieceFaultx4
import Derived.Test.YtbhijlhlopljmaaPFnExactPieceFaultx5
import Derived.Test.YtbhijlhlopljmaaPFnExactPieceFaultx6
import Derived.Test.YtbhijlhlopljmaaPFnExactPieceFaultx7
import Derived.Test.YtbhijlhlopljmaaPFnExactPieceFaultx8
import Derived.Test.YtbhijlhlopljmaaPFnExactPieceFaultx9
import Derived.Test.YtbhijlhlopljmaaKit
set_option linter.unusedVariables false
set_option linter.unusedSimpArgs false
namespace Go.Proofs.Ytbhijlhlopljmaa.PFnExactPieceFault
open Go.RowKit Go.Proofs.Ytbhijlhlopljmaa.Kit Go.Proofs.YtbhijlhlopljmaaW.PrintWords Go.Proofs.YtbhijlhlopljmaaW.PrintLast Go.Proofs.YtbhijlhlopljmaaW.PrintMore

noncomputable def laws_toInt64S.L0 (x0 : List Int) (x3 : List Int) (x4 : Int) : Option (List Int) := lim (fun k => laws_toInt64S.l0 k x0 x3 x4)
theorem laws_toInt64S.L0_lim (x0 : List Int) (x3 : List Int) (x4 : Int) : Lim (fun k => laws_toInt64S.l0 k x0 x3 x4) (laws_toInt64S.L0 x0 x3 x4) := Lim.of (fun k => (laws_toInt64S.mono_l k) x0 x3 x4)
noncomputable def laws_toInt64S.F (l0 : List Int) : Option (List Int) := lim (fun k => laws_toInt64S.f k l0)
theorem laws_toInt64S.F_lim (l0 : List Int) : Lim (fun k => laws_toInt64S.f k l0) (laws_toInt64S.F l0) := Lim.of (fun k => laws_toInt64S.mono l0 k)
theorem laws_toInt64S.L0_eq (x0 : List Int) (x3 : List Int) (x4 : Int) : laws_toInt64S.L0 x0 x3 x4 = if x4 < (x0.length : Int) then (if 0 ≤ x4 then (if x4 < (x3.length : Int) then (laws_toInt64S.L0 x0 (x3.set (x4 : Int).toNat (rd x0 x4)) (wrap64 (x4 + 1))) else (none)) else (none)) else (some x3) := by
  refine Lim.step (f := fun k => if x4 < (x0.length : Int) then (if 0 ≤ x4 then (if x4 < (x3.length : Int) then (laws_toInt64S.l0 k x0 (x3.set (x4 : Int).toNat (rd x0 x4)) (wrap64 (x4 + 1))) else (none)) else (none)) else (some x3)) (fun k => (laws_toInt64S.mono_l k) x0 x3 x4) (fun k => by simp only [laws_toInt64S.l0]) ?_
  repeat' first
    | with_reducible exact Lim.const _
    | with_reducible exact laws_toInt64S.L0_lim _ _ _
    | with_reducible refine Lim.ite ?_ ?_
    | with_reducible refine Lim.bind ?_ (fun _ => ?_)
theorem laws_toInt64S.F_eq (l0 : List Int) : laws_toInt64S.F l0 = if 0 ≤ (l0.length : Int) then (if ((l0.length : Int) : Int).toNat ≤ 35184372088832 then (laws_toInt64S.L0 l0 (List.replicate ((l0.length : Int) : Int).toNat 0) 0) else (none)) else (none) := by
  refine Lim.eq (g := fun k => laws_toInt64S.f k l0) ?_
  unfold laws_toInt64S.f
  repeat' first
    | with_reducible exact Lim.const _
    | with_reducible exact laws_toInt64S.L0_lim _ _ _
    | with_reducible refine Lim.ite ?_ ?_
    | with_reducible refine Lim.bind ?_ (fun _ => ?_)

noncomputable def laws_eqInt64S.L0 (x0 : List Int) (x1 : List Int) (x5 : Int) : Option (Bool) := lim (fun k => laws_eqInt64S.l0 k x0 x1 x5)
theorem laws_eqInt64S.L0_lim (x0 : List Int) (x1 : List Int) (x5 : Int) : Lim (fun k => laws_eqInt64S.l0 k x0 x1 x5) (laws_eqInt64S.L0 x0 x1 x5) := Lim.of (fun k => (laws_eqInt64S.mono_l k) x0 x1 x5)
noncomputable def laws_eqInt64S.F (l0 : List Int) (l1 : List Int) : Option (Bool) := lim (fun k => laws_eqInt64S.f k l0 l1)
theorem laws_eqInt64S.F_lim (l0 : List Int) (l1 : List Int) : Lim (fun k => laws_eqInt64S.f k l0 l1) (laws_eqInt64S.F l0 l1) := Lim.of (fun k => laws_eqInt64S.mono l0 l1 k)
theorem laws_eqInt64S.L0_eq (x0 : List Int) (x1 : List Int) (x5 : Int) : laws_eqInt64S.L0 x0 x1 x5 = if x5 < (x0.length : Int) then (if 0 ≤ x5 then (if x5 < (x1.length : Int) then (if (rd x0 x5) = (rd x1 x5) then (laws_eqInt64S.L0 x0 x1 (wrap64 (x5 + 1))) else (some false)) else (none)) else (none)) else (some true) := by
  refine Lim.step (f := fun k => if x5 < (x0.length : Int) then (if 0 ≤ x5 then (if x5 < (x1.length : Int) then (if (rd x0 x5) = (rd x1 x5) then (laws_eqInt64S.l0 k x0 x1 (wrap64 (x5 + 1))) else (some false)) else (none)) else (none)) else (some true)) (fun k => (laws_eqInt64S.mono_l k) x0 x1 x5) (fun k => by simp only [laws_eqInt64S.l0]) ?_
  repeat' first
    | with_reducible exact Lim.const _
    | with_reducible exact laws_eqInt64S.L0_lim _ _ _
    | with_reducible refine Lim.ite ?_ ?_
    | with_reducible refine Lim.bind ?_ (fun _ => ?_)
theorem laws_eqInt64S.F_eq (l0 : List Int) (l1 : List Int) : laws_eqInt64S.F l0 l1 = if (l0.length : Int) = (l1.length : Int) then (laws_eqInt64S.L0 l0 l1 0) else (some false) := by
  refine Lim.eq (g := fun k => laws_eqInt64S.f k l0 l1) ?_
  unfold laws_eqInt64S.f
  repeat' first
    | with_reducible exact Lim.const _
    | with_reducible exact laws_eqInt64S.L0_lim _ _ _
    | with_reducible refine Lim.ite ?_ ?_
    | with_reducible refine Lim.bind ?_ (fun _ => ?_)

noncomputable def laws_szBoltS.L0 (x0 : List (S77)) (x1 : Int) (x5 : Int) : Option (Int) := lim (fun k => laws_szBoltS.l0 k x0 x1 x5)
theorem laws_szBoltS.L0_lim (x0 : List (S77)) (x1 : Int) (x5 : Int) : Lim (fun k => laws_szBoltS.l0 k x0 x1 x5) (laws_szBoltS.L0 x0 x1 x5) := Lim.of (fun k => (laws_szBoltS.mono_l k) x0 x1 x5)
noncomputable def laws_szBoltS.F (l0 : List (S77)) (a1 : Int) : Option (Int) := lim (fun k => laws_szBoltS.f k l0 a1)
theorem laws_szBoltS.F_lim (l0 : List (S77)) (a1 : Int) : Lim (fun k => laws_szBoltS.f k l0 a1) (laws_szBoltS.F l0 a1) := Lim.of (fun k => laws_szBoltS.mono l0 a1 k)
theorem laws_szBoltS.L0_eq (x0 : List (S77)) (x1 : Int) (x5 : Int) : laws_szBoltS.L0 x0 x1 x5 = if x5 < (x0.length : Int) then (if 0 ≤ x5 then ((laws_szBolt.f ((rd_T77 x0 x5).f0) ((rd_T77 x0 x5).f1) x1).bind fun t111 => (if t111 < 0 then (some (-1)) else (laws_szBoltS.L0 x0 t111 (wrap64 (x5 + 1))))) else (none)) else (some x1) := by
  refine Lim.step (f := fun k => if x5 < (x0.length : Int) then (if 0 ≤ x5 then ((laws_szBolt.f ((rd_T77 x0 x5).f0) ((rd_T77 x0 x5).f1) x1).bind fun t111 => (if t111 < 0 then (some (-1)) else (laws_szBoltS.l0 k x0 t111 (wrap64 (x5 + 1))))) else (none)) else (some x1)) (fun k => (laws_szBoltS.mono_l k) x0 x1 x5) (fun k => by simp only [laws_szBoltS.l0]) ?_
  repeat' first
    | with_reducible exact Lim.const _
    | with_reducible exact laws_szBoltS.L0_lim _ _ _
    | with_reducible refine Lim.ite ?_ ?_
    | with_reducible refine Lim.bind ?_ (fun _ => ?_)
theorem laws_szBoltS.F_eq (l0 : List (S77)) (a1 : Int) : laws_szBoltS.F l0 a1 = if (wrap64 (a1 - (l0.length : Int))) < 0 then (some (-1)) else (laws_szBoltS.L0 l0 (wrap64 (a1 - (l0.length : Int))) 0) := by
  refine Lim.eq (g := fun k => laws_szBoltS.f k l0 a1) ?_
  unfold laws_szBoltS.f
  repeat' first
    | with_reducible exact Lim.const _
    | with_reducible exact laws_szBoltS.L0_lim _ _ _
    | with_reducible refine Lim.ite ?_ ?_
    | with_reducible refine Lim.bind ?_ (fun _ => ?_)

noncomputable def spec_l00Rises.L0 (x0 : List Int) (x1 : Int) (x2 : Int) (x7 : Int) : Option (Bool) := lim (fun k => spec_l00Rises.l0 k x0 x1 x2 x7)
theorem spec_l00Rises.L0_lim (x0 : List Int) (x1 : Int) (x2 : Int) (x7 : Int) : Lim (fun k => spec_l00Rises.l0 k x0 x1 x2 x7) (spec_l00Rises.L0 x0 x1 x2 x7) := Lim.of (fun k => (spec_l00Rises.mono_l k) x0 x1 x2 x7)
noncomputable def spec_l00Rises.F (l0 : List Int) (a1 : Int) (a2 : Int) : Option (Bool) := lim (fun k => spec_l00Rises.f k l0 a1 a2)
theorem spec_l00Rises.F_lim (l0 : List Int) (a1 : Int) (a2 : Int) : Lim (fun k => spec_l00Rises.f k l0 a1 a2) (spec_l00Rises.F l0 a1 a2) := Lim.of (fun k => spec_l00Rises.mono l0 a1 a2 k)
theorem spec_l00Rises.L0_eq (x0 : List Int) (x1 : Int) (x2 : Int) (x7 : Int) : spec_l00Rises.L0 x0 x1 x2 x7 = if x7 < (x0.length : Int) then (if 0 ≤ x7 then ((spec_l00In.f (rd x0 x7) x1 x2).bind fun t113 => (if t113 = true then (if x7 > 0 then (if 0 ≤ (wrap64 (x7 - 1)) then (if (wrap64 (x7 - 1)) < (x0.length : Int) then (if (rd x0 (wrap64 (x7 - 1))) ≥ (rd x0 x7) then (some false) else (spec_l00Rises.L0 x0 x1 x2 (wrap64 (x7 + 1)))) else (none)) else (none)) else (spec_l00Rises.L0 x0 x1 x2 (wrap64 (x7 + 1)))) else (some false))) else (none)) else (some true) := by
  refine Lim.step (f := fun k => if x7 < (x0.length : Int) then (if 0 ≤ x7 then ((spec_l00In.f (rd x0 x7) x1 x2).bind fun t113 => (if t113 = true then (if x7 > 0 then (if 0 ≤ (wrap64 (x7 - 1)) then (if (wrap64 (x7 - 1)) < (x0.length : Int) then (if (rd x0 (wrap64 (x7 - 1))) ≥ (rd x0 x7) then (some false) else (spec_l00Rises.l0 k x0 x1 x2 (wrap64 (x7 + 1)))) else (none)) else (none)) else (spec_l00Rises.l0 k x0 x1 x2 (wrap64 (x7 + 1)))) else (some false))) else (none)) else (some true)) (fun k => (spec_l00Rises.mono_l k) x0 x1 x2 x7) (fun k => by simp only [spec_l00Rises.l0]) ?_
  repeat' first
    | with_reducible exact Lim.const _
    | with_reducible exact spec_l00Rises.L0_lim _ _ _ _
    | with_reducible refine Lim.ite ?_ ?_
    | with_reducible refine Lim.bind ?_ (fun _ => ?_)
theorem spec_l00Rises.F_eq (l0 : List Int) (a1 : Int) (a2 : Int) : spec_l00Rises.F l0 a1 a2 = spec_l00Rises.L0 l0 a1 a2 0 := by
  refine Lim.eq (g := fun k => spec_l00Rises.f k l0 a1 a2) ?_
  unfold spec_l00Rises.f
  repeat' first
    | with_reducible exact Lim.const _
    | with_reducible exact spec_l00Rises.L0_lim _ _ _ _
    | with_reducible refine Lim.ite ?_ ?_
    | with_reducible refine Lim.bind ?_ (fun _ => ?_)

noncomputable def spec_l16One.F (l0 : List (S79)) : Option (Bool) := lim (fun k => spec_l16One.f k l0)
theorem spec_l16One.F_lim (l0 : List (S79)) : Lim (fun k => spec_l16One.f k l0) (spec_l16One.F l0) := Lim.of (fun k => spec_l16One.mono l0 k)
theorem spec_l16One.F_eq (l0 : List (S79)) : spec_l16One.F l0 = if 0 < (l0.length : Int) then ((spec_l00In.f ((rd_T79 l0 0).f0) 1 10000).bind fun t118 => (if t118 = true then (if (((rd_T79 l0 0).f1).length : Int) ≤ 6 then ((spec_l00Rises.F ((rd_T79 l0 0).f1) 1 (wrap64 (((rd_T79 l0 0).f0) - 1))).bind fun t122 => (some t122)) else (some false)) else (some false))) else (none) := by
  refine Lim.eq (g := fun k => spec_l16One.f k l0) ?_
  unfold spec_l16One.f
  repeat' first
    | with_reducible exact Lim.const _
    | with_reducible exact spec_l00Rises.F_lim _ _ _
    | with_reducible refine Lim.ite ?_ ?_
    | with_reducible refine Lim.bind ?_ (fun _ => ?_)

noncomputable def spec_l16Ok.L0 (x0 : List (S79)) (x3 : Int) : Option (Bool) := lim (fun k => spec_l16Ok.l0 k x0 x3)
theorem spec_l16Ok.L0_lim (x0 : List (S79)) (x3 : Int) : Lim (fun k => spec_l16Ok.l0 k x0 x3) (spec_l16Ok.L0 x0 x3) := Lim.of (fun k => (spec_l16Ok.mono_l k) x0 x3)
noncomputable def spec_l16Ok.F (l0 : List (S79)) : Option (Bool) := lim (fun k => spec_l16Ok.f k l0)
theorem spec_l16Ok.F_lim (l0 : List (S79)) : Lim (fun k => spec_l16Ok.f k l0) (spec_l16Ok.F l0) := Lim.of (fun k => spec_l16Ok.mono l0 k)
theorem spec_l16Ok.L0_eq (x0 : List (S79)) (x3 : Int) : spec_l16Ok.L0 x0 x3 = if x3 < (x0.length : Int) then (if 0 ≤ x3 then ((spec_l16One.F [rd_T79 x0 x3]).bind fun t125 => (if t125 = true then (spec_l16Ok.L0 x0 (wrap64 (x3 + 1))) else (some false))) else (none)) else (some (decide ((x0.length : Int) ≤ 4))) := by
  refine Lim.step (f := fun k => if x3 < (x0.length : Int) then (if 0 ≤ x3 then ((spec_l16One.f k [rd_T79 x0 x3]).bind fun t125 => (if t125 = true then (spec_l16Ok.l0 k x0 (wrap64 (x3 + 1))) else (some false))) else (none)) else (some (decide ((x0.length : Int) ≤ 4)))) (fun k => (spec_l16Ok.mono_l k) x0 x3) (fun k => by simp only [spec_l16Ok.l0]) ?_
  repeat' first
    | with_reducible exact Lim.const _
    | with_reducible exact spec_l16Ok.L0_lim _ _
    | with_reducible exact spec_l16One.F_lim _
    | with_reducible refine Lim.ite ?_ ?_
    | with_reducible refine Lim.bind ?_ (fun _ => ?_)
theorem spec_l16Ok.F_eq (l0 : List (S79)) : spec_l16Ok.F l0 = spec_l16Ok.L0 l0 0 := by
  refine Lim.eq (g := fun k => spec_l16Ok.f k l0) ?_
  unfold spec_l16Ok.f
  repeat' first
    | with_reducible exact Lim.const _
    | with_reducible exact spec_l16Ok.L0_lim _ _
    | with_reducible refine Lim.ite ?_ ?_
    | with_reducible refine Lim.bind ?_ (fun _ => ?_)

noncomputable def spec_l16Panels.L0 (x0 : List Int) (x3 : Int) : Option (Bool) := lim (fun k => spec_l16Panels.l0 k x0 x3)
theorem spec_l16Panels.L0_lim (x0 : List Int) (x3 : Int) : Lim (fun k => spec_l16Panels.l0 k x0 x3) (spec_l16Panels.L0 x0 x3) := Lim.of (fun k => (spec_l16Panels.mono_l k) x0 x3)
noncomputable def spec_l16Panels.F (l0 : List Int) : Option (Bool) := lim (fun k => spec_l16Panels.f k l0)
theorem spec_l16Panels.F_lim (l0 : List Int) : Lim (fun k => spec_l16Panels.f k l0) (spec_l16Panels.F l0) := Lim.of (fun k => spec_l16Panels.mono l0 k)
theorem spec_l16Panels.L0_eq (x0 : List Int) (x3 : Int) : spec_l16Panels.L0 x0 x3 = if x3 < (x0.length : Int) then (if 0 ≤ x3 then ((spec_l00In.f (rd x0 x3) 1 10000).bind fun t127 => (if t127 = true then (spec_l16Panels.L0 x0 (wrap64 (x3 + 1))) else (some false))) else (none)) else (some (decide ((x0.length : Int) ≤ 6))) := by
  refine Lim.step (f := fun k => if x3 < (x0.length : Int) then (if 0 ≤ x3 then ((spec_l00In.f (rd x0 x3) 1 10000).bind fun t127 => (if t127 = true then (spec_l16Panels.l0 k x0 (wrap64 (x3 + 1))) else (some false))) else (none)) else (some (decide ((x0.length : Int) ≤ 6)))) (fun k => (spec_l16Panels.mono_l k) x0 x3) (fun k => by simp only [spec_l16Panels.l0]) ?_
  repeat' first
    | with_reducible exact Lim.const _
    | with_reducible exact spec_l16Panels.L0_lim _ _
    | with_reducible refine Lim.ite ?_ ?_
    | with_reducible refine Lim.bind ?_ (fun _ => ?_)
theorem spec_l16Panels.F_eq (l0 : List Int) : spec_l16Panels.F l0 = spec_l16Panels.L0 l0 0 := by
  refine Lim.eq (g := fun k => spec_l16Panels.f k l0) ?_
  unfold spec_l16Panels.f
  repeat' first
    | with_reducible exact Lim.const _
    | with_reducible exact spec_l16Panels.L0_lim _ _
    | with_reducible refine Lim.ite ?_ ?_
    | with_reducible refine Lim.bind ?_ (fun _ => ?_)

noncomputable def spec_l16Code.L0 (x0 : List (S79)) (x1 : List Int) (x2 : List (S127)) (x7 : Int) : Option (Int) := lim (fun k => spec_l16Code.l0 k x0 x1 x2 x7)
theorem spec_l16Code.L0_lim (x0 : List (S79)) (x1 : List Int) (x2 : List (S127)) (x7 : Int) : Lim (fun k => spec_l16Code.l0 k x0 x1 x2 x7) (spec_l16Code.L0 x0 x1 x2 x7) := Lim.of (fun k => (spec_l16Code.mono_l k) x0 x1 x2 x7)
noncomputable def spec_l16Code.F (l0 : List (S79)) (l1 : List Int) (l2 : List (S127)) : Option (Int) := lim (fun k => spec_l16Code.f k l0 l1 l2)
theorem spec_l16Code.F_lim (l0 : List (S79)) (l1 : List Int) (l2 : List (S127)) : Lim (fun k => spec_l16Code.f k l0 l1 l2) (spec_l16Code.F l0 l1 l2) := Lim.of (fun k => spec_l16Code.mono l0 l1 l2 k)
theorem spec_l16Code.L0_eq (x0 : List (S79)) (x1 : List Int) (x2 : List (S127)) (x7 : Int) : spec_l16Code.L0 x0 x1 x2 x7 = if x7 < (x2.length : Int) then (if 0 ≤ x7 then ((spec_l00In.f ((rd_T127 x2 x7).f0) 0 (wrap64 ((x0.length : Int) - 1))).bind fun t130 => (if t130 = true then (spec_l16Code.L0 x0 x1 x2 (wrap64 (x7 + 1))) else (some 2))) else (none)) else ((spec_l16Panels.F x1).bind fun t131 => (if t131 = true then (if (x2.length : Int) = (x1.length : Int) then (some 0) else (some 2)) else (some 2))) := by
  refine Lim.step (f := fun k => if x7 < (x2.length : Int) then (if 0 ≤ x7 then ((spec_l00In.f ((rd_T127 x2 x7).f0) 0 (wrap64 ((x0.length : Int) - 1))).bind fun t130 => (if t130 = true then (spec_l16Code.l0 k x0 x1 x2 (wrap64 (x7 + 1))) else (some 2))) else (none)) else ((spec_l16Panels.f k x1).bind fun t131 => (if t131 = true then (if (x2.length : Int) = (x1.length : Int) then (some 0) else (some 2)) else (some 2)))) (fun k => (spec_l16Code.mono_l k) x0 x1 x2 x7) (fun k => by simp only [spec_l16Code.l0]) ?_
  repeat' first
    | with_reducible exact Lim.const _
    | with_reducible exact spec_l16Code.L0_lim _ _ _ _
    | with_reducible exact spec_l16Panels.F_lim _
    | with_reducible refine Lim.ite ?_ ?_
    | with_reducible refine Lim.bind ?_ (fun _ => ?_)
theorem spec_l16Code.F_eq (l0 : List (S79)) (l1 : List Int) (l2 : List (S127)) : spec_l16Code.F l0 l1 l2 = (spec_l16Ok.F l0).bind fun t128 => (if t128 = true then (spec_l16Code.L0 l0 l1 l2 0) else (some 1)) := by
  refine Lim.eq (g := fun k => spec_l16Code.f k l0 l1 l2) ?_
  unfold spec_l16Code.f
  repeat' first
    | with_reducible exact Lim.const _
    | with_reducible exact spec_l16Code.L0_lim _ _ _ _
    | with_reducible exact spec_l16Ok.F_lim _
    | with_reducible refine Lim.ite ?_ ?_
    | with_reducible refine Lim.bind ?_ (fun _ => ?_)

noncomputable def spec_l16Parts.L0 (x0 : List (S79)) (x3 : List (List Int)) (x4 : Int) (x5 : Int) : Option ((List (List Int))) := lim (fun k => spec_l16Parts.l0 k x0 x3 x4 x5)
theorem spec_l16Parts.L0_lim (x0 : List (S79)) (x3 : List (List Int)) (x4 : Int) (x5 : Int) : Lim (fun k => spec_l16Parts.l0 k x0 x3 x4 x5) (spec_l16Parts.L0 x0 x3 x4 x5) := Lim.of (fun k => (spec_l16Parts.mono_l k) x0 x3 x4 x5)
noncomputable def spec_l16Parts.F (l0 : List (S79)) : Option ((List (List Int))) := lim (fun k => spec_l16Parts.f k l0)
theorem spec_l16Parts.F_lim (l0 : List (S79)) : Lim (fun k => spec_l16Parts.f k l0) (spec_l16Parts.F l0) := Lim.of (fun k => spec_l16Parts.mono l0 k)
theorem spec_l16Parts.L0_eq (x0 : List (S79)) (x3 : List (List Int)) (x4 : Int) (x5 : Int) : spec_l16Parts.L0 x0 x3 x4 x5 = if x5 < (((rd_T79 x0 0).f1).length : Int) then (if 0 ≤ x5 then (if x3.length < 5864062014805 then (spec_l16Parts.L0 x0 (x3 ++ [(([x4, rd ((rd_T79 x0 0).f1) x5] : List Int))]) (rd ((rd_T79 x0 0).f1) x5) (wrap64 (x5 + 1))) else (none)) else (none)) else (if x3.length < 5864062014805 then (some (x3 ++ [(([x4, (rd_T79 x0 0).f0] : List Int))])) else (none)) := by
  refine Lim.step (f := fun k => if x5 < (((rd_T79 x0 0).f1).length : Int) then (if 0 ≤ x5 then (if x3.length < 5864062014805 then (spec_l16Parts.l0 k x0 (x3 ++ [(([x4, rd ((rd_T79 x0 0).f1) x5] : List Int))]) (rd ((rd_T79 x0 0).f1) x5) (wrap64 (x5 + 1))) else (none)) else (none)) else (if x3.length < 5864062014805 then (some (x3 ++ [(([x4, (rd_T79 x0 0).f0] : List Int))])) else (none))) (fun k => (spec_l16Parts.mono_l k) x0 x3 x4 x5) (fun k => by simp only [spec_l16Parts.l0]) ?_
  repeat' first
    | with_reducible exact Lim.const _
    | with_reducible exact spec_l16Parts.L0_lim _ _ _ _
    | with_reducible refine Lim.ite ?_ ?_
    | with_reducible refine Lim.bind ?_ (fun _ => ?_)
theorem spec_l16Parts.F_eq (l0 : List (S79)) : spec_l16Parts.F l0 = if 0 < (l0.length : Int) then (spec_l16Parts.L0 l0 (([] : List (List Int))) 0 0) else (none) := by
  refine Lim.eq (g := fun k => spec_l16Parts.f k l0) ?_
  unfold spec_l16Parts.f
  repeat' first
    | with_reducible exact Lim.const _
    | with_reducible exact spec_l16Parts.L0_lim _ _ _ _
    | with_reducible refine Lim.ite ?_ ?_
    | with_reducible refine Lim.bind ?_ (fun _ => ?_)

noncomputable def spec_l16Sound.L0 (x1 : Int) (x2 : Int) (x7 : List (List Int)) (x8 : Int) : Option (Bool) := lim (fun k => spec_l16Sound.l0 k x1 x2 x7 x8)
theorem spec_l16Sound.L0_lim (x1 : Int) (x2 : Int) (x7 : List (List Int)) (x8 : Int) : Lim (fun k => spec_l16Sound.l0 k x1 x2 x7 x8) (spec_l16Sound.L0 x1 x2 x7 x8) := Lim.of (fun k => (spec_l16Sound.mono_l k) x1 x2 x7 x8)
noncomputable def spec_l16Sound.F (l0 : List (S79)) (a1 : Int) (a2 : Int) : Option (Bool) := lim (fun k => spec_l16Sound.f k l0 a1 a2)
theorem spec_l16Sound.F_lim (l0 : List (S79)) (a1 : Int) (a2 : Int) : Lim (fun k => spec_l16Sound.f k l0 a1 a2) (spec_l16Sound.F l0 a1 a2) := Lim.of (fun k => spec_l16Sound.mono l0 a1 a2 k)
theorem spec_l16Sound.L0_eq (x1 : Int) (x2 : Int) (x7 : List (List Int)) (x8 : Int) : spec_l16Sound.L0 x1 x2 x7 x8 = if x8 < (x7.length : Int) then (if 0 ≤ x8 then (if 0 < ((rd_L1 x7 x8).length : Int) then (if 1 < ((rd_L1 x7 x8).length : Int) then ((spec_l00In.f x1 (rd (rd_L1 x7 x8) 0) (wrap64 ((rd (rd_L1 x7 x8) 1) - x2))).bind fun t162 => (if t162 = true then (some true) else (spec_l16Sound.L0 x1 x2 x7 (wrap64 (x8 + 1))))) else (none)) else (none)) else (none)) else (some false) := by
  refine Lim.step (f := fun k => if x8 < (x7.length : Int) then (if 0 ≤ x8 then (if 0 < ((rd_L1 x7 x8).length : Int) then (if 1 < ((rd_L1 x7 x8).length : Int) then ((spec_l00In.f x1 (rd (rd_L1 x7 x8) 0) (wrap64 ((rd (rd_L1 x7 x8) 1) - x2))).bind fun t162 => (if t162 = true then (some true) else (spec_l16Sound.l0 k x1 x2 x7 (wrap64 (x8 + 1))))) else (none)) else (none)) else (none)) else (some false)) (fun k => (spec_l16Sound.mono_l k) x1 x2 x7 x8) (fun k => by simp only [spec_l16Sound.l0]) ?_
  repeat' first
    | with_reducible exact Lim.const _
    | with_reducible exact spec_l16Sound.L0_lim _ _ _ _
    | with_reducible refine Lim.ite ?_ ?_
    | with_reducible refine Lim.bind ?_ (fun _ => ?_)
theorem spec_l16Sound.F_eq (l0 : List (S79)) (a1 : Int) (a2 : Int) : spec_l16Sound.F l0 a1 a2 = if 0 < (l0.length : Int) then ((spec_l16Parts.F l0).bind fun t155 => (spec_l16Sound.L0 a1 a2 t155 0)) else (none) := by
  refine Lim.eq (g := fun k => spec_l16Sound.f k l0 a1 a2) ?_
  unfold spec_l16Sound.f
  repeat' first
    | with_reducible exact Lim.const _
    | with_reducible exact spec_l16Parts.F_lim _
    | with_reducible exact spec_l16Sound.L0_lim _ _ _ _
    | with_reducible refine Lim.ite ?_ ?_
    | with_reducible refine Lim.bind ?_ (fun _ => ?_)

noncomputable def spec_l16Fault.L0 (x0 : List (S79)) (x1 : List Int) (x2 : List (S127)) (x7 : Int) : Option (Int) := lim (fun k => spec_l16Fault.l0 k x0 x1 x2 x7)
theorem spec_l16Fault.L0_lim (x0 : List (S79)) (x1 : List Int) (x2 : List (S127)) (x7 : Int) : Lim (fun k => spec_l16Fault.l0 k x0 x1 x2 x7) (spec_l16Fault.L0 x0 x1 x2 x7) := Lim.of (fun k => (spec_l16Fault.mono_l k).1 x0 x1 x2 x7)
noncomputable def spec_l16Fault.L1 (x0 : List (S79)) (x1 : List Int) (x2 : List (S127)) (x7 : Int) (x9 : Int) (x165000 : Int) (x165001 : Int) : Option (Int) := lim (fun k => spec_l16Fault.l1 k x0 x1 x2 x7 x9 x165000 x165001)
theorem spec_l16Fault.L1_lim (x0 : List (S79)) (x1 : List Int) (x2 : List (S127)) (x7 : Int) (x9 : Int) (x165000 : Int) (x165001 : Int) : Lim (fun k => spec_l16Fault.l1 k x0 x1 x2 x7 x9 x165000 x165001) (spec_l16Fault.L1 x0 x1 x2 x7 x9 x165000 x165001) := Lim.of (fun k => (spec_l16Fault.mono_l k).2 x0 x1 x2 x7 x9 x165000 x165001)
noncomputable def spec_l16Fault.F (l0 : List (S79)) (l1 : List Int) (l2 : List (S127)) : Option (Int) := lim (fun k => spec_l16Fault.f k l0 l1 l2)
theorem spec_l16Fault.F_lim (l0 : List (S79)) (l1 : List Int) (l2 : List (S127)) : Lim (fun k => spec_l16Fault.f k l0 l1 l2) (spec_l16Fault.F l0 l1 l2) := Lim.of (fun k => spec_l16Fault.mono l0 l1 l2 k)
theorem spec_l16Fault.L0_eq (x0 : List (S79)) (x1 : List Int) (x2 : List (S127)) (x7 : Int) : spec_l16Fault.L0 x0 x1 x2 x7 = if x7 < (x2.length : Int) then (if 0 ≤ x7 then (if 0 ≤ ((rd_T127 x2 x7).f0) then (if ((rd_T127 x2 x7).f0) < (x0.length : Int) then (if x7 < (x1.length : Int) then ((spec_l16Sound.F [rd_T79 x0 ((rd_T127 x2 x7).f0)] ((rd_T127 x2 x7).f1) (rd x1 x7)).bind fun t168 => (if t168 = true then (spec_l16Fault.L1 x0 x1 x2 x7 0 ((rd_T127 x2 x7).f0) ((rd_T127 x2 x7).f1)) else (some x7))) else (none)) else (none)) else (none)) else (none)) else (some (-1)) := by
  refine Lim.step (f := fun k => if x7 < (x2.length : Int) then (if 0 ≤ x7 then (if 0 ≤ ((rd_T127 x2 x7).f0) then (if ((rd_T127 x2 x7).f0) < (x0.length : Int) then (if x7 < (x1.length : Int) then ((spec_l16Sound.f k [rd_T79 x0 ((rd_T127 x2 x7).f0)] ((rd_T127 x2 x7).f1) (rd x1 x7)).bind fun t168 => (if t168 = true then (spec_l16Fault.l1 k x0 x1 x2 x7 0 ((rd_T127 x2 x7).f0) ((rd_T127 x2 x7).f1)) else (some x7))) else (none)) else (none)) else (none)) else (none)) else (some (-1))) (fun k => (spec_l16Fault.mono_l k).1 x0 x1 x2 x7) (fun k => by simp only [spec_l16Fault.l0]) ?_
  repeat' first
    | with_reducible exact Lim.const _
    | with_reducible exact spec_l16Fault.L1_lim _ _ _ _ _ _ _
    | with_reducible exact spec_l16Sound.F_lim _ _ _
    | with_reducible refine Lim.ite ?_ ?_
    | with_reducible refine Lim.bind ?_ (fun _ => ?_)
theorem spec_l16Fault.L1_eq (x0 : List (S79)) (x1 : List Int) (x2 : List (S127)) (x7 : Int) (x9 : Int) (x165000 : Int) (x165001 : Int) : spec_l16Fault.L1 x0 x1 x2 x7 x9 x165000 x165001 = if x9 < x7 then (if 0 ≤ x9 then (if x9 < (x2.length : Int) then (if ((rd_T127 x2 x9).f0) = x165000 then (if 0 ≤ x7 then (if x7 < (x1.length : Int) then (if ((rd_T127 x2 x9).f1) < (wrap64 (x165001 + (rd x1 x7))) then (if x9 < (x1.length : Int) then (if x165001 < (wrap64 (((rd_T127 x2 x9).f1) + (rd x1 x9))) then (some x7) else (spec_l16Fault.L1 x0 x1 x2 x7 (wrap64 (x9 + 1)) x165000 x165001)) else (none)) else (spec_l16Fault.L1 x0 x1 x2 x7 (wrap64 (x9 + 1)) x165000 x165001)) else (none)) else (none)) else (spec_l16Fault.L1 x0 x1 x2 x7 (wrap64 (x9 + 1)) x165000 x165001)) else (none)) else (none)) else (spec_l16Fault.L0 x0 x1 x2 (wrap64 (x7 + 1))) := by
  refine Lim.step (f := fun k => if x9 < x7 then (if 0 ≤ x9 then (if x9 < (x2.length : Int) then (if ((rd_T127 x2 x9).f0) = x165000 then (if 0 ≤ x7 then (if x7 < (x1.length : Int) then (if ((rd_T127 x2 x9).f1) < (wrap64 (x165001 + (rd x1 x7))) then (if x9 < (x1.length : Int) then (if x165001 < (wrap64 (((rd_T127 x2 x9).f1) + (rd x1 x9))) then (some x7) else (spec_l16Fault.l1 k x0 x1 x2 x7 (wrap64 (x9 + 1)) x165000 x165001)) else (none)) else (spec_l16Fault.l1 k x0 x1 x2 x7 (wrap64 (x9 + 1)) x165000 x165001)) else (none)) else (none)) else (spec_l16Fault.l1 k x0 x1 x2 x7 (wrap64 (x9 + 1)) x165000 x165001)) else (none)) else (none)) else (spec_l16Fault.l0 k x0 x1 x2 (wrap64 (x7 + 1)))) (fun k => (spec_l16Fault.mono_l k).2 x0 x1 x2 x7 x9 x165000 x165001) (fun k => by simp only [spec_l16Fault.l1]) ?_
  repeat' first
    | with_reducible exact Lim.const _
    | with_reducible exact spec_l16Fault.L0_lim _ _ _ _
    | with_reducible exact spec_l16Fault.L1_lim _ _ _ _ _ _ _
    | with_reducible refine Lim.ite ?_ ?_
    | with_reducible refine Lim.bind ?_ (fun _ => ?_)
theorem spec_l16Fault.F_eq (l0 : List (S79)) (l1 : List Int) (l2 : List (S127)) : spec_l16Fault.F l0 l1 l2 = spec_l16Fault.L0 l0 l1 l2 0 := by
  refine Lim.eq (g := fun k => spec_l16Fault.f k l0 l1 l2) ?_
  unfold spec_l16Fault.f
  repeat' first
    | with_reducible exact Lim.const _
    | with_reducible exact spec_l16Fault.L0_lim _ _ _ _
    | with_reducible refine Lim.ite ?_ ?_
    | with_reducible refine Lim.bind ?_ (fun _ => ?_)

noncomputable def spec_PieceFault.F (l0 : List (S79)) (l1 : List Int) (l2 : List (S127)) : Option (Int × Int) := lim (fun k => spec_PieceFault.f k l0 l1 l2)
theorem spec_PieceFault.F_lim (l0 : List (S79)) (l1 : List Int) (l2 : List (S127)) : Lim (fun k => spec_PieceFault.f k l0 l1 l2) (spec_PieceFault.F l0 l1 l2) := Lim.of (fun k => spec_PieceFault.mono l0 l1 l2 k)
theorem spec_PieceFault.F_eq (l0 : List (S79)) (l1 : List Int) (l2 : List (S127)) : spec_PieceFault.F l0 l1 l2 = (spec_l16Code.F l0 l1 l2).bind fun t174 => (if t174 = 0 then ((spec_l16Fault.F l0 l1 l2).bind fun t175 => (some (t175, 0))) else (some (0, t174))) := by
  refine Lim.eq (g := fun k => spec_PieceFault.f k l0 l1 l2) ?_
  unfold spec_PieceFault.f
  repeat' first
    | with_reducible exact Lim.const _
    | with_reducible exact spec_l16Code.F_lim _ _ _
    | with_reducible exact spec_l16Fault.F_lim _ _ _
    | with_reducible refine Lim.ite ?_ ?_
    | with_reducible refine Lim.bind ?_ (fun _ => ?_)

noncomputable def laws_toBolt.F (a0_0 : Int) (l0_1 : List Int) : Option (Int × List Int) := lim (fun k => laws_toBolt.f k a0_0 l0_1)
theorem laws_toBolt.F_lim (a0_0 : Int) (l0_1 : List Int) : Lim (fun k => laws_toBolt.f k a0_0 l0_1) (laws_toBolt.F a0_0 l0_1) := Lim.of (fun k => laws_toBolt.mono a0_0 l0_1 k)
theorem laws_toBolt.F_eq (a0_0 : Int) (l0_1 : List Int) : laws_toBolt.F a0_0 l0_1 = (laws_toInt64S.F l0_1).bind fun t179 => (some (a0_0, t179)) := by
  refine Lim.eq (g := fun k => laws_toBolt.f k a0_0 l0_1) ?_
  unfold laws_toBolt.f
  repeat' first
    | with_reducible exact Lim.const _
    | with_reducible exact laws_toInt64S.F_lim _
    | with_reducible refine Lim.ite ?_ ?_
    | with_reducible refine Lim.bind ?_ (fun _ => ?_)

noncomputable def laws_toBoltS.L0 (x0 : List (S77)) (x3 : List (S79)) (x4 : Int) : Option ((List (S79))) := lim (fun k => laws_toBoltS.l0 k x0 x3 x4)
theorem laws_toBoltS.L0_lim (x0 : List (S77)) (x3 : List (S79)) (x4 : Int) : Lim (fun k => laws_toBoltS.l0 k x0 x3 x4) (laws_toBoltS.L0 x0 x3 x4) := Lim.of (fun k => (laws_toBoltS.mono_l k) x0 x3 x4)
noncomputable def laws_toBoltS.F (l0 : List (S77)) : Option ((List (S79))) := lim (fun k => laws_toBoltS.f k l0)
theorem laws_toBoltS.F_lim (l0 : List (S77)) : Lim (fun k => laws_toBoltS.f k l0) (laws_toBoltS.F l0) := Lim.of (fun k => laws_toBoltS.mono l0 k)
theorem laws_toBoltS.L0_eq (x0 : List (S77)) (x3 : List (S79)) (x4 : Int) : laws_toBoltS.L0 x0 x3 x4 = if x4 < (x0.length : Int) then (if 0 ≤ x4 then ((laws_toBolt.F ((rd_T77 x0 x4).f0) ((rd_T77 x0 x4).f1)).bind fun bt186 => (if x4 < (x3.length : Int) then (laws_toBoltS.L0 x0 (x3.set (x4 : Int).toNat (⟨bt186.1, bt186.2⟩ : S79)) (wrap64 (x4 + 1))) else (none))) else (none)) else (some x3) := by
  refine Lim.step (f := fun k => if x4 < (x0.length : Int) then (if 0 ≤ x4 then ((laws_toBolt.f k ((rd_T77 x0 x4).f0) ((rd_T77 x0 x4).f1)).bind fun bt186 => (if x4 < (x3.length : Int) then (laws_toBoltS.l0 k x0 (x3.set (x4 : Int).toNat (⟨bt186.1, bt186.2⟩ : S79)) (wrap64 (x4 + 1))) else (none))) else (none)) else (some x3)) (fun k => (laws_toBoltS.mono_l k) x0 x3 x4) (fun k => by simp only [laws_toBoltS.l0]) ?_
  repeat' first
    | with_reducible exact Lim.const _
    | with_reducible exact laws_toBolt.F_lim _ _
    | with_reducible exact laws_toBoltS.L0_lim _ _ _
    | with_reducible refine Lim.ite ?_ ?_
    | with_reducible refine Lim.bind ?_ (fun _ => ?_)
theorem laws_toBoltS.F_eq (l0 : List (S77)) : laws_toBoltS.F l0 = if 0 ≤ (l0.length : Int) then (if ((l0.length : Int) : Int).toNat ≤ 8796093022208 then (laws_toBoltS.L0 l0 (List.replicate ((l0.length : Int) : Int).toNat z79) 0) else (none)) else (none) := by
  refine Lim.eq (g := fun k => laws_toBoltS.f k l0) ?_
  unfold laws_toBoltS.f
  repeat' first
    | with_reducible exact Lim.const _
    | with_reducible exact laws_toBoltS.L0_lim _ _ _
    | with_reducible refine Lim.ite ?_ ?_
    | with_reducible refine Lim.bind ?_ (fun _ => ?_)

noncomputable def laws_toPieceS.L0 (x0 : List (S129)) (x3 : List (S127)) (x4 : Int) : Option ((List (S127))) := lim (fun k => laws_toPieceS.l0 k x0 x3 x4)
theorem laws_toPieceS.L0_lim (x0 : List (S129)) (x3 : List (S127)) (x4 : Int) : Lim (fun k => laws_toPieceS.l0 k x0 x3 x4) (laws_toPieceS.L0 x0 x3 x4) := Lim.of (fun k => (laws_toPieceS.mono_l k) x0 x3 x4)
noncomputable def laws_toPieceS.F (l0 : List (S129)) : Option ((List (S127))) := lim (fun k => laws_toPieceS.f k l0)
theorem laws_toPieceS.F_lim (l0 : List (S129)) : Lim (fun k => laws_toPieceS.f k l0) (laws_toPieceS.F l0) := Lim.of (fun k => laws_toPieceS.mono l0 k)
theorem laws_toPieceS.L0_eq (x0 : List (S129)) (x3 : List (S127)) (x4 : Int) : laws_toPieceS.L0 x0 x3 x4 = if x4 < (x0.length : Int) then (if 0 ≤ x4 then ((laws_toPiece.f ((rd_T129 x0 x4).f0) ((rd_T129 x0 x4).f1)).bind fun bt198 => (if x4 < (x3.length : Int) then (laws_toPieceS.L0 x0 (x3.set (x4 : Int).toNat (⟨bt198.1, bt198.2⟩ : S127)) (wrap64 (x4 + 1))) else (none))) else (none)) else (some x3) := by
  refine Lim.step (f := fun k => if x4 < (x0.length : Int) then (if 0 ≤ x4 then ((laws_toPiece.f ((rd_T129 x0 x4).f0) ((rd_T129 x0 x4).f1)).bind fun bt198 => (if x4 < (x3.length : Int) then (laws_toPieceS.l0 k x0 (x3.set (x4 : Int).toNat (⟨bt198.1, bt198.2⟩ : S127)) (wrap64 (x4 + 1))) else (none))) else (none)) else (some x3)) (fun k => (laws_toPieceS.mono_l k) x0 x3 x4) (fun k => by simp only [laws_toPieceS.l0]) ?_
  repeat' first
    | with_reducible exact Lim.const _
    | with_reducible exact laws_toPieceS.L0_lim _ _ _
    | with_reducible refine Lim.ite ?_ ?_
    | with_reducible refine Lim.bind ?_ (fun _ => ?_)
theorem laws_toPieceS.F_eq (l0 : List (S129)) : laws_toPieceS.F l0 = if 0 ≤ (l0.length : Int) then (if ((l0.length : Int) : Int).toNat ≤ 17592186044416 then (laws_toPieceS.L0 l0 (List.replicate ((l0.length : Int) : Int).toNat z127) 0) else (none)) else (none) := by
  refine Lim.eq (g := fun k => laws_toPieceS.f k l0) ?_
  unfold laws_toPieceS.f
  repeat' first
    | with_reducible exact Lim.const _
    | with_reducible exact laws_toPieceS.L0_lim _ _ _
    | with_reducible refine Lim.ite ?_ ?_
    | with_reducible refine Lim.bind ?_ (fun _ => ?_)

noncomputable def impl_validBolt.J0 (x14 : Bool) (x202000 : Int) (x202001 : List Int) : Option (Bool) := lim (fun k => impl_validBolt.j0 k x14 x202000 x202001)
theorem impl_validBolt.J0_lim (x14 : Bool) (x202000 : Int) (x202001 : List Int) : Lim (fun k => impl_validBolt.j0 k x14 x202000 x202001) (impl_validBolt.J0 x14 x202000 x202001) := Lim.of (fun k => (impl_validBolt.mono_l k).1 x14 x202000 x202001)
noncomputable def impl_validBolt.L0 (x16 : List Int) (x17 : Int) (x18 : Int) (x202000 : Int) (x202001 : List Int) : Option (Bool) := lim (fun k => impl_validBolt.l0 k x16 x17 x18 x202000 x202001)
theorem impl_validBolt.L0_lim (x16 : List Int) (x17 : Int) (x18 : Int) (x202000 : Int) (x202001 : List Int) : Lim (fun k => impl_validBolt.l0 k x16 x17 x18 x202000 x202001) (impl_validBolt.L0 x16 x17 x18 x202000 x202001) := Lim.of (fun k => (impl_validBolt.mono_l k).2 x16 x17 x18 x202000 x202001)
noncomputable def impl_validBolt.F (a0_0 : Int) (l0_1 : List Int) : Option (Bool) := lim (fun k => impl_validBolt.f k a0_0 l0_1)
theorem impl_validBolt.F_lim (a0_0 : Int) (l0_1 : List Int) : Lim (fun k => impl_validBolt.f k a0_0 l0_1) (impl_validBolt.F a0_0 l0_1) := Lim.of (fun k => impl_validBolt.mono a0_0 l0_1 k)
theorem impl_validBolt.J0_eq (x14 : Bool) (x202000 : Int) (x202001 : List Int) : impl_validBolt.J0 x14 x202000 x202001 = if x14 = true then (some false) else (impl_validBolt.L0 x202001 (x202001.length : Int) 0 x202000 x202001) := by
  refine Lim.step (f := fun k => if x14 = true then (some false) else (impl_validBolt.l0 k x202001 (x202001.length : Int) 0 x202000 x202001)) (fun k => (impl_validBolt.mono_l k).1 x14 x202000 x202001) (fun k => by simp only [impl_validBolt.j0]) ?_
  repeat' first
    | with_reducible exact Lim.const _
    | with_reducible exact impl_validBolt.L0_lim _ _ _ _ _
    | with_reducible refine Lim.ite ?_ ?_
    | with_reducible refine Lim.bind ?_ (fun _ => ?_)
theorem impl_validBolt.L0_eq (x16 : List Int) (x17 : Int) (x18 : Int) (x202000 : Int) (x202001 : List Int) : impl_validBolt.L0 x16 x17 x18 x202000 x202001 = if x18 < x17 then (if 0 ≤ x18 then (if x18 < (x16.length : Int) then ((impl_within.f (rd x16 x18) 1 (wrap64 (x202000 - 1))).bind fun t204 => (if t204 = true then (if x18 > 0 then (if 0 ≤ (wrap64 (x18 - 1)) then (if (wrap64 (x18 - 1)) < (x202001.length : Int) then (if (rd x16 x18) ≤ (rd x202001 (wrap64 (x18 - 1))) then (some false) else (impl_validBolt.L0 x16 x17 (wrap64 (x18 + 1)) x202000 x202001)) else (none)) else (none)) else (impl_validBolt.L0 x16 x17 (wrap64 (x18 + 1)) x202000 x202001)) else (some false))) else (none)) else (none)) else (some true) := by
  refine Lim.step (f := fun k => if x18 < x17 then (if 0 ≤ x18 then (if x18 < (x16.length : Int) then ((impl_within.f (rd x16 x18) 1 (wrap64 (x202000 - 1))).bind fun t204 => (if t204 = true then (if x18 > 0 then (if 0 ≤ (wrap64 (x18 - 1)) then (if (wrap64 (x18 - 1)) < (x202001.length : Int) then (if (rd x16 x18) ≤ (rd x202001 (wrap64 (x18 - 1))) then (some false) else (impl_validBolt.l0 k x16 x17 (wrap64 (x18 + 1)) x202000 x202001)) else (none)) else (none)) else (impl_validBolt.l0 k x16 x17 (wrap64 (x18 + 1)) x202000 x202001)) else (some false))) else (none)) else (none)) else (some true)) (fun k => (impl_validBolt.mono_l k).2 x16 x17 x18 x202000 x202001) (fun k => by simp only [impl_validBolt.l0]) ?_
  repeat' first
    | with_reducible exact Lim.const _
    | with_reducible exact impl_validBolt.L0_lim _ _ _ _ _
    | with_reducible refine Lim.ite ?_ ?_
    | with_reducible refine Lim.bind ?_ (fun _ => ?_)
theorem impl_validBolt.F_eq (a0_0 : Int) (l0_1 : List Int) : impl_validBolt.F a0_0 l0_1 = (impl_within.f a0_0 1 10000).bind fun t202 => (if t202 = true then (impl_validBolt.J0 (decide ((l0_1.length : Int) > 6)) a0_0 l0_1) else (impl_validBolt.J0 true a0_0 l0_1)) := by
  refine Lim.eq (g := fun k => impl_validBolt.f k a0_0 l0_1) ?_
  unfold impl_validBolt.f
  repeat' first
    | with_reducible exact Lim.const _
    | with_reducible exact impl_validBolt.J0_lim _ _ _
    | with_reducible refine Lim.ite ?_ ?_
    | with_reducible refine Lim.bind ?_ (fun _ => ?_)

noncomputable def impl_ValidBolts.L0 (x8 : List (S79)) (x9 : Int) (x10 : Int) : Option (Bool) := lim (fun k => impl_ValidBolts.l0 k x8 x9 x10)
theorem impl_ValidBolts.L0_lim (x8 : List (S79)) (x9 : Int) (x10 : Int) : Lim (fun k => impl_ValidBolts.l0 k x8 x9 x10) (impl_ValidBolts.L0 x8 x9 x10) := Lim.of (fun k => (impl_ValidBolts.mono_l k) x8 x9 x10)
noncomputable def impl_ValidBolts.F (l0 : List (S79)) : Option (Bool) := lim (fun k => impl_ValidBolts.f k l0)
theorem impl_ValidBolts.F_lim (l0 : List (S79)) : Lim (fun k => impl_ValidBolts.f k l0) (impl_ValidBolts.F l0) := Lim.of (fun k => impl_ValidBolts.mono l0 k)
theorem impl_ValidBolts.L0_eq (x8 : List (S79)) (x9 : Int) (x10 : Int) : impl_ValidBolts.L0 x8 x9 x10 = if x10 < x9 then (if 0 ≤ x10 then (if x10 < (x8.length : Int) then ((impl_validBolt.F ((rd_T79 x8 x10).f0) ((rd_T79 x8 x10).f1)).bind fun t208 => (if t208 = true then (impl_ValidBolts.L0 x8 x9 (wrap64 (x10 + 1))) else (some false))) else (none)) else (none)) else (some true) := by
  refine Lim.step (f := fun k => if x10 < x9 then (if 0 ≤ x10 then (if x10 < (x8.length : Int) then ((impl_validBolt.f k ((rd_T79 x8 x10).f0) ((rd_T79 x8 x10).f1)).bind fun t208 => (if t208 = true then (impl_ValidBolts.l0 k x8 x9 (wrap64 (x10 + 1))) else (some false))) else (none)) else (none)) else (some true)) (fun k => (impl_ValidBolts.mono_l k) x8 x9 x10) (fun k => by simp only [impl_ValidBolts.l0]) ?_
  repeat' first
    | with_reducible exact Lim.const _
    | with_reducible exact impl_ValidBolts.L0_lim _ _ _
    | with_reducible exact impl_validBolt.F_lim _ _
    | with_reducible refine Lim.ite ?_ ?_
    | with_reducible refine Lim.bind ?_ (fun _ => ?_)
theorem impl_ValidBolts.F_eq (l0 : List (S79)) : impl_ValidBolts.F l0 = if (l0.length : Int) > 4 then (some false) else (impl_ValidBolts.L0 l0 (l0.length : Int) 0) := by
  refine Lim.eq (g := fun k => impl_ValidBolts.f k l0) ?_
  unfold impl_ValidBolts.f
  repeat' first
    | with_reducible exact Lim.const _
    | with_reducible exact impl_ValidBolts.L0_lim _ _ _
    | with_reducible refine Lim.ite ?_ ?_
    | with_reducible refine Lim.bind ?_ (fun _ => ?_)

noncomputable def impl_areIn.L0 (x2 : Int) (x3 : Int) (x15 : List Int) (x16 : Int) (x17 : Int) : Option (Bool) := lim (fun k => impl_areIn.l0 k x2 x3 x15 x16 x17)
theorem impl_areIn.L0_lim (x2 : Int) (x3 : Int) (x15 : List Int) (x16 : Int) (x17 : Int) : Lim (fun k => impl_areIn.l0 k x2 x3 x15 x16 x17) (impl_areIn.L0 x2 x3 x15 x16 x17) := Lim.of (fun k => (impl_areIn.mono_l k) x2 x3 x15 x16 x17)
noncomputable def impl_areIn.F (l0 : List Int) (a1 : Int) (a2 : Int) (a3 : Int) : Option (Bool) := lim (fun k => impl_areIn.f k l0 a1 a2 a3)
theorem impl_areIn.F_lim (l0 : List Int) (a1 : Int) (a2 : Int) (a3 : Int) : Lim (fun k => impl_areIn.f k l0 a1 a2 a3) (impl_areIn.F l0 a1 a2 a3) := Lim.of (fun k => impl_areIn.mono l0 a1 a2 a3 k)
theorem impl_areIn.L0_eq (x2 : Int) (x3 : Int) (x15 : List Int) (x16 : Int) (x17 : Int) : impl_areIn.L0 x2 x3 x15 x16 x17 = if x17 < x16 then (if 0 ≤ x17 then (if x17 < (x15.length : Int) then ((impl_within.f (rd x15 x17) x2 x3).bind fun t210 => (if t210 = true then (impl_areIn.L0 x2 x3 x15 x16 (wrap64 (x17 + 1))) else (some false))) else (none)) else (none)) else (some true) := by
  refine Lim.step (f := fun k => if x17 < x16 then (if 0 ≤ x17 then (if x17 < (x15.length : Int) then ((impl_within.f (rd x15 x17) x2 x3).bind fun t210 => (if t210 = true then (impl_areIn.l0 k x2 x3 x15 x16 (wrap64 (x17 + 1))) else (some false))) else (none)) else (none)) else (some true)) (fun k => (impl_areIn.mono_l k) x2 x3 x15 x16 x17) (fun k => by simp only [impl_areIn.l0]) ?_
  repeat' first
    | with_reducible exact Lim.const _
    | with_reducible exact impl_areIn.L0_lim _ _ _ _ _
    | with_reducible refine Lim.ite ?_ ?_
    | with_reducible refine Lim.bind ?_ (fun _ => ?_)
theorem impl_areIn.F_eq (l0 : List Int) (a1 : Int) (a2 : Int) (a3 : Int) : impl_areIn.F l0 a1 a2 a3 = if (l0.length : Int) = a1 then (impl_areIn.L0 a2 a3 l0 (l0.length : Int) 0) else (some false) := by
  refine Lim.eq (g := fun k => impl_areIn.f k l0 a1 a2 a3) ?_
  unfold impl_areIn.f
  repeat' first
    | with_reducible exact Lim.const _
    | with_reducible exact impl_areIn.L0_lim _ _ _ _ _
    | with_reducible refine Lim.ite ?_ ?_
    | with_reducible refine Lim.bind ?_ (fun _ => ?_)

noncomputable def impl_panelsCode.F (l0 : List (S79)) (l1 : List Int) : Option (Int) := lim (fun k => impl_panelsCode.f k l0 l1)
theorem impl_panelsCode.F_lim (l0 : List (S79)) (l1 : List Int) : Lim (fun k => impl_panelsCode.f k l0 l1) (impl_panelsCode.F l0 l1) := Lim.of (fun k => impl_panelsCode.mono l0 l1 k)
theorem impl_panelsCode.F_eq (l0 : List (S79)) (l1 : List Int) : impl_panelsCode.F l0 l1 = (impl_ValidBolts.F l0).bind fun t211 => (if t211 = true then (if (l1.length : Int) > 6 then (some 2) else ((impl_areIn.F l1 (l1.length : Int) 1 10000).bind fun t212 => (if t212 = true then (some 0) else (some 2)))) else (some 1)) := by
  refine Lim.eq (g := fun k => impl_panelsCode.f k l0 l1) ?_
  unfold impl_panelsCode.f
  repeat' first
    | with_reducible exact Lim.const _
    | with_reducible exact impl_ValidBolts.F_lim _
    | with_reducible exact impl_areIn.F_lim _ _ _ _
    | with_reducible refine Lim.ite ?_ ?_
    | with_reducible refine Lim.bind ?_ (fun _ => ?_)

noncomputable def impl_placesCode.L0 (x0 : List (S79)) (x21 : List (S127)) (x22 : Int) (x23 : Int) : Option (Int) := lim (fun k => impl_placesCode.l0 k x0 x21 x22 x23)
theorem impl_placesCode.L0_lim (x0 : List (S79)) (x21 : List (S127)) (x22 : Int) (x23 : Int) : Lim (fun k => impl_placesCode.l0 k x0 x21 x22 x23) (impl_placesCode.L0 x0 x21 x22 x23) := Lim.of (fun k => (impl_placesCode.mono_l k) x0 x21 x22 x23)
noncomputable def impl_placesCode.F (l0 : List (S79)) (l1 : List Int) (l2 : List (S127)) : Option (Int) := lim (fun k => impl_placesCode.f k l0 l1 l2)
theorem impl_placesCode.F_lim (l0 : List (S79)) (l1 : List Int) (l2 : List (S127)) : Lim (fun k => impl_placesCode.f k l0 l1 l2) (impl_placesCode.F l0 l1 l2) := Lim.of (fun k => impl_placesCode.mono l0 l1 l2 k)
theorem impl_placesCode.L0_eq (x0 : List (S79)) (x21 : List (S127)) (x22 : Int) (x23 : Int) : impl_placesCode.L0 x0 x21 x22 x23 = if x23 < x22 then (if 0 ≤ x23 then (if x23 < (x21.length : Int) then ((impl_within.f ((rd_T127 x21 x23).f0) 0 (wrap64 ((x0.length : Int) - 1))).bind fun t216 => (if t216 = true then (impl_placesCode.L0 x0 x21 x22 (wrap64 (x23 + 1))) else (some 2))) else (none)) else (none)) else (some 0) := by
  refine Lim.step (f := fun k => if x23 < x22 then (if 0 ≤ x23 then (if x23 < (x21.length : Int) then ((impl_within.f ((rd_T127 x21 x23).f0) 0 (wrap64 ((x0.length : Int) - 1))).bind fun t216 => (if t216 = true then (impl_placesCode.l0 k x0 x21 x22 (wrap64 (x23 + 1))) else (some 2))) else (none)) else (none)) else (some 0)) (fun k => (impl_placesCode.mono_l k) x0 x21 x22 x23) (fun k => by simp only [impl_placesCode.l0]) ?_
  repeat' first
    | with_reducible exact Lim.const _
    | with_reducible exact impl_placesCode.L0_lim _ _ _ _
    | with_reducible refine Lim.ite ?_ ?_
    | with_reducible refine Lim.bind ?_ (fun _ => ?_)
theorem impl_placesCode.F_eq (l0 : List (S79)) (l1 : List Int) (l2 : List (S127)) : impl_placesCode.F l0 l1 l2 = (impl_panelsCode.F l0 l1).bind fun t213 => (if t213 = 0 then (if (l2.length : Int) = (l1.length : Int) then (impl_placesCode.L0 l0 l2 (l2.length : Int) 0) else (some 2)) else (some t213)) := by
  refine Lim.eq (g := fun k => impl_placesCode.f k l0 l1 l2) ?_
  unfold impl_placesCode.f
  repeat' first
    | with_reducible exact Lim.const _
    | with_reducible exact impl_panelsCode.F_lim _ _
    | with_reducible exact impl_placesCode.L0_lim _ _ _ _
    | with_reducible refine Lim.ite ?_ ?_
    | with_reducible refine Lim.bind ?_ (fun _ => ?_)

noncomputable def impl_soundParts.L0 (x3 : List (List Int)) (x4 : Int) (x9 : List Int) (x10 : Int) (x11 : Int) (x218000 : Int) (x218001 : List Int) : Option ((List (List Int))) := lim (fun k => impl_soundParts.l0 k x3 x4 x9 x10 x11 x218000 x218001)
theorem impl_soundParts.L0_lim (x3 : List (List Int)) (x4 : Int) (x9 : List Int) (x10 : Int) (x11 : Int) (x218000 : Int) (x218001 : List Int) : Lim (fun k => impl_soundParts.l0 k x3 x4 x9 x10 x11 x218000 x218001) (impl_soundParts.L0 x3 x4 x9 x10 x11 x218000 x218001) := Lim.of (fun k => (impl_soundParts.mono_l k) x3 x4 x9 x10 x11 x218000 x218001)
noncomputable def impl_soundParts.F (a0_0 : Int) (l0_1 : List Int) : Option ((List (List Int))) := lim (fun k => impl_soundParts.f k a0_0 l0_1)
theorem impl_soundParts.F_lim (a0_0 : Int) (l0_1 : List Int) : Lim (fun k => impl_soundParts.f k a0_0 l0_1) (impl_soundParts.F a0_0 l0_1) := Lim.of (fun k => impl_soundParts.mono a0_0 l0_1 k)
theorem impl_soundParts.L0_eq (x3 : List (List Int)) (x4 : Int) (x9 : List Int) (x10 : Int) (x11 : Int) (x218000 : Int) (x218001 : List Int) : impl_soundParts.L0 x3 x4 x9 x10 x11 x218000 x218001 = if x11 < x10 then (if 0 ≤ x11 then (if x11 < (x9.length : Int) then (if x3.length < 5864062014805 then (impl_soundParts.L0 (x3 ++ [(([x4, rd x9 x11] : List Int))]) (rd x9 x11) x9 x10 (wrap64 (x11 + 1)) x218000 x218001) else (none)) else (none)) else (none)) else (if x3.length < 5864062014805 then (some (x3 ++ [(([x4, x218000] : List Int))])) else (none)) := by
  refine Lim.step (f := fun k => if x11 < x10 then (if 0 ≤ x11 then (if x11 < (x9.length : Int) then (if x3.length < 5864062014805 then (impl_soundParts.l0 k (x3 ++ [(([x4, rd x9 x11] : List Int))]) (rd x9 x11) x9 x10 (wrap64 (x11 + 1)) x218000 x218001) else (none)) else (none)) else (none)) else (if x3.length < 5864062014805 then (some (x3 ++ [(([x4, x218000] : List Int))])) else (none))) (fun k => (impl_soundParts.mono_l k) x3 x4 x9 x10 x11 x218000 x218001) (fun k => by simp only [impl_soundParts.l0]) ?_
  repeat' first
    | with_reducible exact Lim.const _
    | with_reducible exact impl_soundParts.L0_lim _ _ _ _ _ _ _
    | with_reducible refine Lim.ite ?_ ?_
    | with_reducible refine Lim.bind ?_ (fun _ => ?_)
theorem impl_soundParts.F_eq (a0_0 : Int) (l0_1 : List Int) : impl_soundParts.F a0_0 l0_1 = impl_soundParts.L0 (([] : List (List Int))) 0 l0_1 (l0_1.length : Int) 0 a0_0 l0_1 := by
  refine Lim.eq (g := fun k => impl_soundParts.f k a0_0 l0_1) ?_
  unfold impl_soundParts.f
  repeat' first
    | with_reducible exact Lim.const _
    | with_reducible exact impl_soundParts.L0_lim _ _ _ _ _ _ _
    | with_reducible refine Lim.ite ?_ ?_
    | with_reducible refine Lim.bind ?_ (fun _ => ?_)

noncomputable def impl_pieceFault.L0 (x0 : List (S79)) (x1 : List Int) (x2 : List (S127)) (x14 : List (S127)) (x15 : Int) (x16 : Int) : Option (Int) := lim (fun k => impl_pieceFault.l0 k x0 x1 x2 x14 x15 x16)
theorem impl_pieceFault.L0_lim (x0 : List (S79)) (x1 : List Int) (x2 : List (S127)) (x14 : List (S127)) (x15 : Int) (x16 : Int) : Lim (fun k => impl_pieceFault.l0 k x0 x1 x2 x14 x15 x16) (impl_pieceFault.L0 x0 x1 x2 x14 x15 x16) := Lim.of (fun k => (impl_pieceFault.mono_l k).1 x0 x1 x2 x14 x15 x16)
noncomputable def impl_pieceFault.L1 (x0 : List (S79)) (x1 : List Int) (x2 : List (S127)) (x7 : Int) (x9 : Bool) (x14 : List (S127)) (x15 : Int) (x16 : Int) (x26 : List (List Int)) (x27 : Int) (x28 : Int) (x236000 : Int) (x236001 : Int) : Option (Int) := lim (fun k => impl_pieceFault.l1 k x0 x1 x2 x7 x9 x14 x15 x16 x26 x27 x28 x236000 x236001)
theorem impl_pieceFault.L1_lim (x0 : List (S79)) (x1 : List Int) (x2 : List (S127)) (x7 : Int) (x9 : Bool) (x14 : List (S127)) (x15 : Int) (x16 : Int) (x26 : List (List Int)) (x27 : Int) (x28 : Int) (x236000 : Int) (x236001 : Int) : Lim (fun k => impl_pieceFault.l1 k x0 x1 x2 x7 x9 x14 x15 x16 x26 x27 x28 x236000 x236001) (impl_pieceFault.L1 x0 x1 x2 x7 x9 x14 x15 x16 x26 x27 x28 x236000 x236001) := Lim.of (fun k => (impl_pieceFault.mono_l k).2.1 x0 x1 x2 x7 x9 x14 x15 x16 x26 x27 x28 x236000 x236001)
noncomputable def impl_pieceFault.L2 (x0 : List (S79)) (x1 : List Int) (x2 : List (S127)) (x7 : Int) (x14 : List (S127)) (x15 : Int) (x16 : Int) (x68 : List (S127)) (x69 : Int) (x70 : Int) (x236000 : Int) (x236001 : Int) : Option (Int) := lim (fun k => impl_pieceFault.l2 k x0 x1 x2 x7 x14 x15 x16 x68 x69 x70 x236000 x236001)
theorem impl_pieceFault.L2_lim (x0 : List (S79)) (x1 : List Int) (x2 : List (S127)) (x7 : Int) (x14 : List (S127)) (x15 : Int) (x16 : Int) (x68 : List (S127)) (x69 : Int) (x70 : Int) (x236000 : Int) (x236001 : Int) : Lim (fun k => impl_pieceFault.l2 k x0 x1 x2 x7 x14 x15 x16 x68 x69 x70 x236000 x236001) (impl_pieceFault.L2 x0 x1 x2 x7 x14 x15 x16 x68 x69 x70 x236000 x236001) := Lim.of (fun k => (impl_pieceFault.mono_l k).2.2 x0 x1 x2 x7 x14 x15 x16 x68 x69 x70 x236000 x236001)
noncomputable def impl_pieceFault.F (l0 : List (S79)) (l1 : List Int) (l2 : List (S127)) : Option (Int) := lim (fun k => impl_pieceFault.f k l0 l1 l2)
theorem impl_pieceFault.F_lim (l0 : List (S79)) (l1 : List Int) (l2 : List (S127)) : Lim (fun k => impl_pieceFault.f k l0 l1 l2) (impl_pieceFault.F l0 l1 l2) := Lim.of (fun k => impl_pieceFault.mono l0 l1 l2 k)
theorem impl_pieceFault.L0_eq (x0 : List (S79)) (x1 : List Int) (x2 : List (S127)) (x14 : List (S127)) (x15 : Int) (x16 : Int) : impl_pieceFault.L0 x0 x1 x2 x14 x15 x16 = if x16 < x15 then (if 0 ≤ x16 then (if x16 < (x14.length : Int) then (if 0 ≤ ((rd_T127 x14 x16).f0) then (if ((rd_T127 x14 x16).f0) < (x0.length : Int) then ((impl_soundParts.F ((rd_T79 x0 ((rd_T127 x14 x16).f0)).f0) ((rd_T79 x0 ((rd_T127 x14 x16).f0)).f1)).bind fun t237 => (impl_pieceFault.L1 x0 x1 x2 x16 false x14 x15 x16 t237 (t237.length : Int) 0 ((rd_T127 x14 x16).f0) ((rd_T127 x14 x16).f1))) else (none)) else (none)) else (none)) else (none)) else (some (-1)) := by
  refine Lim.step (f := fun k => if x16 < x15 then (if 0 ≤ x16 then (if x16 < (x14.length : Int) then (if 0 ≤ ((rd_T127 x14 x16).f0) then (if ((rd_T127 x14 x16).f0) < (x0.length : Int) then ((impl_soundParts.f k ((rd_T79 x0 ((rd_T127 x14 x16).f0)).f0) ((rd_T79 x0 ((rd_T127 x14 x16).f0)).f1)).bind fun t237 => (impl_pieceFault.l1 k x0 x1 x2 x16 false x14 x15 x16 t237 (t237.length : Int) 0 ((rd_T127 x14 x16).f0) ((rd_T127 x14 x16).f1))) else (none)) else (none)) else (none)) else (none)) else (some (-1))) (fun k => (impl_pieceFault.mono_l k).1 x0 x1 x2 x14 x15 x16) (fun k => by simp only [impl_pieceFault.l0]) ?_
  repeat' first
    | with_reducible exact Lim.const _
    | with_reducible exact impl_pieceFault.L1_lim _ _ _ _ _ _ _ _ _ _ _ _ _
    | with_reducible exact impl_soundParts.F_lim _ _
    | with_reducible refine Lim.ite ?_ ?_
    | with_reducible refine Lim.bind ?_ (fun _ => ?_)
theorem impl_pieceFault.L1_eq (x0 : List (S79)) (x1 : List Int) (x2 : List (S127)) (x7 : Int) (x9 : Bool) (x14 : List (S127)) (x15 : Int) (x16 : Int) (x26 : List (List Int)) (x27 : Int) (x28 : Int) (x236000 : Int) (x236001 : Int) : impl_pieceFault.L1 x0 x1 x2 x7 x9 x14 x15 x16 x26 x27 x28 x236000 x236001 = if x28 < x27 then (if 0 ≤ x28 then (if x28 < (x26.length : Int) then (if x9 = true then (impl_pieceFault.L1 x0 x1 x2 x7 true x14 x15 x16 x26 x27 (wrap64 (x28 + 1)) x236000 x236001) else (if 0 < ((rd_L1 x26 x28).length : Int) then (if x236001 ≥ (rd (rd_L1 x26 x28) 0) then (if 1 < ((rd_L1 x26 x28).length : Int) then (if x236001 ≤ (rd (rd_L1 x26 x28) 1) then (if 0 ≤ x7 then (if x7 < (x1.length : Int) then (impl_pieceFault.L1 x0 x1 x2 x7 (decide ((wrap64 (x236001 + (rd x1 x7))) ≤ (rd (rd_L1 x26 x28) 1))) x14 x15 x16 x26 x27 (wrap64 (x28 + 1)) x236000 x236001) else (none)) else (none)) else (impl_pieceFault.L1 x0 x1 x2 x7 false x14 x15 x16 x26 x27 (wrap64 (x28 + 1)) x236000 x236001)) else (none)) else (impl_pieceFault.L1 x0 x1 x2 x7 false x14 x15 x16 x26 x27 (wrap64 (x28 + 1)) x236000 x236001)) else (none))) else (none)) else (none)) else (if x9 = true then (if 0 ≤ x7 then (if x7 ≤ (x2.length : Int) then ((some (x2.take (x7 : Int).toNat : List (S127))).bind fun y245 => (impl_pieceFault.L2 x0 x1 x2 x7 x14 x15 x16 y245 (y245.length : Int) 0 x236000 x236001)) else (none)) else (none)) else (some x7)) := by
  refine Lim.step (f := fun k => if x28 < x27 then (if 0 ≤ x28 then (if x28 < (x26.length : Int) then (if x9 = true then (impl_pieceFault.l1 k x0 x1 x2 x7 true x14 x15 x16 x26 x27 (wrap64 (x28 + 1)) x236000 x236001) else (if 0 < ((rd_L1 x26 x28).length : Int) then (if x236001 ≥ (rd (rd_L1 x26 x28) 0) then (if 1 < ((rd_L1 x26 x28).length : Int) then (if x236001 ≤ (rd (rd_L1 x26 x28) 1) then (if 0 ≤ x7 then (if x7 < (x1.length : Int) then (impl_pieceFault.l1 k x0 x1 x2 x7 (decide ((wrap64 (x236001 + (rd x1 x7))) ≤ (rd (rd_L1 x26 x28) 1))) x14 x15 x16 x26 x27 (wrap64 (x28 + 1)) x236000 x236001) else (none)) else (none)) else (impl_pieceFault.l1 k x0 x1 x2 x7 false x14 x15 x16 x26 x27 (wrap64 (x28 + 1)) x236000 x236001)) else (none)) else (impl_pieceFault.l1 k x0 x1 x2 x7 false x14 x15 x16 x26 x27 (wrap64 (x28 + 1)) x236000 x236001)) else (none))) else (none)) else (none)) else (if x9 = true then (if 0 ≤ x7 then (if x7 ≤ (x2.length : Int) then ((some (x2.take (x7 : Int).toNat : List (S127))).bind fun y245 => (impl_pieceFault.l2 k x0 x1 x2 x7 x14 x15 x16 y245 (y245.length : Int) 0 x236000 x236001)) else (none)) else (none)) else (some x7))) (fun k => (impl_pieceFault.mono_l k).2.1 x0 x1 x2 x7 x9 x14 x15 x16 x26 x27 x28 x236000 x236001) (fun k => by simp only [impl_pieceFault.l1]) ?_
  repeat' first
    | with_reducible exact Lim.const _
    | with_reducible exact impl_pieceFault.L1_lim _ _ _ _ _ _ _ _ _ _ _ _ _
    | with_reducible exact impl_pieceFault.L2_lim _ _ _ _ _ _ _ _ _ _ _ _
    | with_reducible refine Lim.ite ?_ ?_
    | with_reducible refine Lim.bind ?_ (fun _ => ?_)
theorem impl_pieceFault.L2_eq (x0 : List (S79)) (x1 : List Int) (x2 : List (S127)) (x7 : Int) (x14 : List (S127)) (x15 : Int) (x16 : Int) (x68 : List (S127)) (x69 : Int) (x70 : Int) (x236000 : Int) (x236001 : Int) : impl_pieceFault.L2 x0 x1 x2 x7 x14 x15 x16 x68 x69 x70 x236000 x236001 = if x70 < x69 then (if 0 ≤ x70 then (if x70 < (x68.length : Int) then (if ((rd_T127 x68 x70).f0) = x236000 then (if x70 < (x1.length : Int) then (if x236001 < (wrap64 (((rd_T127 x68 x70).f1) + (rd x1 x70))) then (if 0 ≤ x7 then (if x7 < (x1.length : Int) then (if ((rd_T127 x68 x70).f1) < (wrap64 (x236001 + (rd x1 x7))) then (some x7) else (impl_pieceFault.L2 x0 x1 x2 x7 x14 x15 x16 x68 x69 (wrap64 (x70 + 1)) x236000 x236001)) else (none)) else (none)) else (impl_pieceFault.L2 x0 x1 x2 x7 x14 x15 x16 x68 x69 (wrap64 (x70 + 1)) x236000 x236001)) else (none)) else (impl_pieceFault.L2 x0 x1 x2 x7 x14 x15 x16 x68 x69 (wrap64 (x70 + 1)) x236000 x236001)) else (none)) else (none)) else (impl_pieceFault.L0 x0 x1 x2 x14 x15 (wrap64 (x16 + 1))) := by
  refine Lim.step (f := fun k => if x70 < x69 then (if 0 ≤ x70 then (if x70 < (x68.length : Int) then (if ((rd_T127 x68 x70).f0) = x236000 then (if x70 < (x1.length : Int) then (if x236001 < (wrap64 (((rd_T127 x68 x70).f1) + (rd x1 x70))) then (if 0 ≤ x7 then (if x7 < (x1.length : Int) then (if ((rd_T127 x68 x70).f1) < (wrap64 (x236001 + (rd x1 x7))) then (some x7) else (impl_pieceFault.l2 k x0 x1 x2 x7 x14 x15 x16 x68 x69 (wrap64 (x70 + 1)) x236000 x236001)) else (none)) else (none)) else (impl_pieceFault.l2 k x0 x1 x2 x7 x14 x15 x16 x68 x69 (wrap64 (x70 + 1)) x236000 x236001)) else (none)) else (impl_pieceFault.l2 k x0 x1 x2 x7 x14 x15 x16 x68 x69 (wrap64 (x70 + 1)) x236000 x236001)) else (none)) else (none)) else (impl_pieceFault.l0 k x0 x1 x2 x14 x15 (wrap64 (x16 + 1)))) (fun k => (impl_pieceFault.mono_l k).2.2 x0 x1 x2 x7 x14 x15 x16 x68 x69 x70 x236000 x236001) (fun k => by simp only [impl_pieceFault.l2]) ?_
  repeat' first
    | with_reducible exact Lim.const _
    | with_reducible exact impl_pieceFault.L0_lim _ _ _ _ _ _
    | with_reducible exact impl_pieceFault.L2_lim _ _ _ _ _ _ _ _ _ _ _ _
    | with_reducible refine Lim.ite ?_ ?_
    | with_reducible refine Lim.bind ?_ (fun _ => ?_)
theorem impl_pieceFault.F_eq (l0 : List (S79)) (l1 : List Int) (l2 : List (S127)) : impl_pieceFault.F l0 l1 l2 = impl_pieceFault.L0 l0 l1 l2 l2 (l2.length : Int) 0 := by
  refine Lim.eq (g := fun k => impl_pieceFault.f k l0 l1 l2) ?_
  unfold impl_pieceFault.f
  repeat' first
    | with_reducible exact Lim.const _
    | with_reducible exact impl_pieceFault.L0_lim _ _ _ _ _ _
    | with_reducible refine Lim.ite ?_ ?_
    | with_reducible refine Lim.bind ?_ (fun _ => ?_)

noncomputable def impl_PieceFault.F (l0 : List (S79)) (l1 : List Int) (l2 : List (S127)) : Option (Int × Int) := lim (fun k => impl_PieceFault.f k l0 l1 l2)
theorem impl_PieceFault.F_lim (l0 : List (S79)) (l1 : List Int) (l2 : List (S127)) : Lim (fun k => impl_PieceFault.f k l0 l1 l2) (impl_PieceFault.F l0 l1 l2) := Lim.of (fun k => impl_PieceFault.mono l0 l1 l2 k)
theorem impl_PieceFault.F_eq (l0 : List (S79)) (l1 : List Int) (l2 : List (S127)) : impl_PieceFault.F l0 l1 l2 = (impl_placesCode.F l0 l1 l2).bind fun t253 => (if t253 = 0 then ((impl_pieceFault.F l0 l1 l2).bind fun t254 => (some (t254, 0))) else (some (0, t253))) := by
  refine Lim.eq (g := fun k => impl_PieceFault.f k l0 l1 l2) ?_
  unfold impl_PieceFault.f
  repeat' first
    | with_reducible exact Lim.const _
    | with_reducible exact impl_pieceFault.F_lim _ _ _
    | with_reducible exact impl_placesCode.F_lim _ _ _
    | with_reducible refine Lim.ite ?_ ?_
    | with_reducible refine Lim.bind ?_ (fun _ => ?_)

noncomputable def laws_eqBolt.F (a0_0 : Int) (l0_1 : List Int) (a1_0 : Int) (l1_1 : List Int) : Option (Bool) := lim (fun k => laws_eqBolt.f k a0_0 l0_1 a1_0 l1_1)
theorem laws_eqBolt.F_lim (a0_0 : Int) (l0_1 : List Int) (a1_0 : Int) (l1_1 : List Int) : Lim (fun k => laws_eqBolt.f k a0_0 l0_1 a1_0 l1_1) (laws_eqBolt.F a0_0 l0_1 a1_0 l1_1) := Lim.of (fun k => laws_eqBolt.mono a0_0 l0_1 a1_0 l1_1 k)
theorem laws_eqBolt.F_eq (a0_0 : Int) (l0_1 : List Int) (a1_0 : Int) (l1_1 : List Int) : laws_eqBolt.F a0_0 l0_1 a1_0 l1_1 = if a0_0 = a1_0 then ((laws_eqInt64S.F l0_1 l1_1).bind fun t257 => (if t257 = true then (some true) else (some false))) else (some false) := by
  refine Lim.eq (g := fun k => laws_eqBolt.f k a0_0 l0_1 a1_0 l1_1) ?_
  unfold laws_eqBolt.f
  repeat' first
    | with_reducible exact Lim.const _
    | with_reducible exact laws_eqInt64S.F_lim _ _
    | with_reducible refine Lim.ite ?_ ?_
    | with_reducible refine Lim.bind ?_ (fun _ => ?_)

noncomputable def laws_eqBoltS.L0 (x0 : List (S79)) (x1 : List (S79)) (x5 : Int) : Option (Bool) := lim (fun k => laws_eqBoltS.l0 k x0 x1 x5)
theorem laws_eqBoltS.L0_lim (x0 : List (S79)) (x1 : List (S79)) (x5 : Int) : Lim (fun k => laws_eqBoltS.l0 k x0 x1 x5) (laws_eqBoltS.L0 x0 x1 x5) := Lim.of (fun k => (laws_eqBoltS.mono_l k) x0 x1 x5)
noncomputable def laws_eqBoltS.F (l0 : List (S79)) (l1 : List (S79)) : Option (Bool) := lim (fun k => laws_eqBoltS.f k l0 l1)
theorem laws_eqBoltS.F_lim (l0 : List (S79)) (l1 : List (S79)) : Lim (fun k => laws_eqBoltS.f k l0 l1) (laws_eqBoltS.F l0 l1) := Lim.of (fun k => laws_eqBoltS.mono l0 l1 k)
theorem laws_eqBoltS.L0_eq (x0 : List (S79)) (x1 : List (S79)) (x5 : Int) : laws_eqBoltS.L0 x0 x1 x5 = if x5 < (x0.length : Int) then (if 0 ≤ x5 then (if x5 < (x1.length : Int) then ((laws_eqBolt.F ((rd_T79 x0 x5).f0) ((rd_T79 x0 x5).f1) ((rd_T79 x1 x5).f0) ((rd_T79 x1 x5).f1)).bind fun t260 => (if t260 = true then (laws_eqBoltS.L0 x0 x1 (wrap64 (x5 + 1))) else (some false))) else (none)) else (none)) else (some true) := by
  refine Lim.step (f := fun k => if x5 < (x0.length : Int) then (if 0 ≤ x5 then (if x5 < (x1.length : Int) then ((laws_eqBolt.f k ((rd_T79 x0 x5).f0) ((rd_T79 x0 x5).f1) ((rd_T79 x1 x5).f0) ((rd_T79 x1 x5).f1)).bind fun t260 => (if t260 = true then (laws_eqBoltS.l0 k x0 x1 (wrap64 (x5 + 1))) else (some false))) else (none)) else (none)) else (some true)) (fun k => (laws_eqBoltS.mono_l k) x0 x1 x5) (fun k => by simp only [laws_eqBoltS.l0]) ?_
  repeat' first
    | with_reducible exact Lim.const _
    | with_reducible exact laws_eqBolt.F_lim _ _ _ _
    | with_reducible exact laws_eqBoltS.L0_lim _ _ _
    | with_reducible refine Lim.ite ?_ ?_
    | with_reducible refine Lim.bind ?_ (fun _ => ?_)
theorem laws_eqBoltS.F_eq (l0 : List (S79)) (l1 : List (S79)) : laws_eqBoltS.F l0 l1 = if (l0.length : Int) = (l1.length : Int) then (laws_eqBoltS.L0 l0 l1 0) else (some false) := by
  refine Lim.eq (g := fun k => laws_eqBoltS.f k l0 l1) ?_
  unfold laws_eqBoltS.f
  repeat' first
    | with_reducible exact Lim.const _
    | with_reducible exact laws_eqBoltS.L0_lim _ _ _
    | with_reducible refine Lim.ite ?_ ?_
    | with_reducible refine Lim.bind ?_ (fun _ => ?_)

noncomputable def laws_eqPieceS.L0 (x0 : List (S127)) (x1 : List (S127)) (x5 : Int) : Option (Bool) := lim (fun k => laws_eqPieceS.l0 k x0 x1 x5)
theorem laws_eqPieceS.L0_lim (x0 : List (S127)) (x1 : List (S127)) (x5 : Int) : Lim (fun k => laws_eqPieceS.l0 k x0 x1 x5) (laws_eqPieceS.L0 x0 x1 x5) := Lim.of (fun k => (laws_eqPieceS.mono_l k) x0 x1 x5)
noncomputable def laws_eqPieceS.F (l0 : List (S127)) (l1 : List (S127)) : Option (Bool) := lim (fun k => laws_eqPieceS.f k l0 l1)
theorem laws_eqPieceS.F_lim (l0 : List (S127)) (l1 : List (S127)) : Lim (fun k => laws_eqPieceS.f k l0 l1) (laws_eqPieceS.F l0 l1) := Lim.of (fun k => laws_eqPieceS.mono l0 l1 k)
theorem laws_eqPieceS.L0_eq (x0 : List (S127)) (x1 : List (S127)) (x5 : Int) : laws_eqPieceS.L0 x0 x1 x5 = if x5 < (x0.length : Int) then (if 0 ≤ x5 then (if x5 < (x1.length : Int) then ((laws_eqPiece.f ((rd_T127 x0 x5).f0) ((rd_T127 x0 x5).f1) ((rd_T127 x1 x5).f0) ((rd_T127 x1 x5).f1)).bind fun t265 => (if t265 = true then (laws_eqPieceS.L0 x0 x1 (wrap64 (x5 + 1))) else (some false))) else (none)) else (none)) else (some true) := by
  refine Lim.step (f := fun k => if x5 < (x0.length : Int) then (if 0 ≤ x5 then (if x5 < (x1.length : Int) then ((laws_eqPiece.f ((rd_T127 x0 x5).f0) ((rd_T127 x0 x5).f1) ((rd_T127 x1 x5).f0) ((rd_T127 x1 x5).f1)).bind fun t265 => (if t265 = true then (laws_eqPieceS.l0 k x0 x1 (wrap64 (x5 + 1))) else (some false))) else (none)) else (none)) else (some true)) (fun k => (laws_eqPieceS.mono_l k) x0 x1 x5) (fun k => by simp only [laws_eqPieceS.l0]) ?_
  repeat' first
    | with_reducible exact Lim.const _
    | with_reducible exact laws_eqPieceS.L0_lim _ _ _
    | with_reducible refine Lim.ite ?_ ?_
    | with_reducible refine Lim.bind ?_ (fun _ => ?_)
theorem laws_eqPieceS.F_eq (l0 : List (S127)) (l1 : List (S127)) : laws_eqPieceS.F l0 l1 = if (l0.length : Int) = (l1.length : Int) then (laws_eqPieceS.L0 l0 l1 0) else (some false) := by
  refine Lim.eq (g := fun k => laws_eqPieceS.f k l0 l1) ?_
  unfold laws_eqPieceS.f
  repeat' first
    | with_reducible exact Lim.const _
    | with_reducible exact laws_eqPieceS.L0_lim _ _ _
    | with_reducible refine Lim.ite ?_ ?_
    | with_reducible refine Lim.bind ?_ (fun _ => ?_)

noncomputable def laws_FnExactPieceFault.J0 (x0 : List (S77)) (x1 : List Int) (x2 : List (S129)) (x10 : List (S79)) (x11 : List Int) (x12 : List (S127)) (x58 : Bool) : Option (Bool) := lim (fun k => laws_FnExactPieceFault.j0 k x0 x1 x2 x10 x11 x12 x58)
theorem laws_FnExactPieceFault.J0_lim (x0 : List (S77)) (x1 : List Int) (x2 : List (S129)) (x10 : List (S79)) (x11 : List Int) (x12 : List (S127)) (x58 : Bool) : Lim (fun k => laws_FnExactPieceFault.j0 k x0 x1 x2 x10 x11 x12 x58) (laws_FnExactPieceFault.J0 x0 x1 x2 x10 x11 x12 x58) := Lim.of (fun k => (laws_FnExactPieceFault.mono_l k) x0 x1 x2 x10 x11 x12 x58)
noncomputable def laws_FnExactPieceFault.F (l0 : List (S77)) (l1 : List Int) (l2 : List (S129)) : Option (Bool) := lim (fun k => laws_FnExactPieceFault.f k l0 l1 l2)
theorem laws_FnExactPieceFault.F_lim (l0 : List (S77)) (l1 : List Int) (l2 : List (S129)) : Lim (fun k => laws_FnExactPieceFault.f k l0 l1 l2) (laws_FnExactPieceFault.F l0 l1 l2) := Lim.of (fun k => laws_FnExactPieceFault.mono l0 l1 l2 k)
theorem laws_FnExactPieceFault.J0_eq (x0 : List (S77)) (x1 : List Int) (x2 : List (S129)) (x10 : List (S79)) (x11 : List Int) (x12 : List (S127)) (x58 : Bool) : laws_FnExactPieceFault.J0 x0 x1 x2 x10 x11 x12 x58 = if x58 = true then (some false) else ((laws_toBoltS.F x0).bind fun t290 => ((laws_eqBoltS.F x10 t290).bind fun t293 => (if t293 = true then ((laws_toInt64S.F x1).bind fun t294 => ((laws_eqInt64S.F x11 t294).bind fun t297 => (if t297 = true then ((laws_toPieceS.F x2).bind fun t298 => ((laws_eqPieceS.F x12 t298).bind fun t301 => (if t301 = true then (some true) else (some false)))) else (some false)))) else (some false)))) := by
  refine Lim.step (f := fun k => if x58 = true then (some false) else ((laws_toBoltS.f k x0).bind fun t290 => ((laws_eqBoltS.f k x10 t290).bind fun t293 => (if t293 = true then ((laws_toInt64S.f k x1).bind fun t294 => ((laws_eqInt64S.f k x11 t294).bind fun t297 => (if t297 = true then ((laws_toPieceS.f k x2).bind fun t298 => ((laws_eqPieceS.f k x12 t298).bind fun t301 => (if t301 = true then (some true) else (some false)))) else (some false)))) else (some false))))) (fun k => (laws_FnExactPieceFault.mono_l k) x0 x1 x2 x10 x11 x12 x58) (fun k => by simp only [laws_FnExactPieceFault.j0]) ?_
  repeat' first
    | with_reducible exact Lim.const _
    | with_reducible exact laws_eqBoltS.F_lim _ _
    | with_reducible exact laws_eqInt64S.F_lim _ _
    | with_reducible exact laws_eqPieceS.F_lim _ _
    | with_reducible exact laws_toBoltS.F_lim _
    | with_reducible exact laws_toInt64S.F_lim _
    | with_reducible exact laws_toPieceS.F_lim _
    | with_reducible refine Lim.ite ?_ ?_
    | with_reducible refine Lim.bind ?_ (fun _ => ?_)
theorem laws_FnExactPieceFault.F_eq (l0 : List (S77)) (l1 : List Int) (l2 : List (S129)) : laws_FnExactPieceFault.F l0 l1 l2 = if (l1.length : Int) > 1048576 then (some true) else ((laws_szBoltS.F l0 1048576).bind fun t266 => (if t266 < 0 then (some true) else ((laws_szPieceS.f l2 t266).bind fun t267 => (if t267 < 0 then (some true) else ((laws_toBoltS.F l0).bind fun t268 => ((laws_toInt64S.F l1).bind fun t271 => ((laws_toPieceS.F l2).bind fun t274 => ((spec_PieceFault.F t268 t271 t274).bind fun bt277 => ((laws_toBoltS.F l0).bind fun t279 => ((laws_toInt64S.F l1).bind fun t282 => ((laws_toPieceS.F l2).bind fun t285 => ((impl_PieceFault.F t279 t282 t285).bind fun bt288 => (if bt288.1 = bt277.1 then (laws_FnExactPieceFault.J0 l0 l1 l2 t279 t282 t285 (bt288.2 != bt277.2)) else (laws_FnExactPieceFault.J0 l0 l1 l2 t279 t282 t285 true)))))))))))))) := by
  refine Lim.eq (g := fun k => laws_FnExactPieceFault.f k l0 l1 l2) ?_
  unfold laws_FnExactPieceFault.f
  repeat' first
    | with_reducible exact Lim.const _
    | with_reducible exact impl_PieceFault.F_lim _ _ _
    | with_reducible exact laws_FnExactPieceFault.J0_lim _ _ _ _ _ _ _
    | with_reducible exact laws_szBoltS.F_lim _ _
    | with_reducible exact laws_toBoltS.F_lim _
    | with_reducible exact laws_toInt64S.F_lim _
    | with_reducible exact laws_toPieceS.F_lim _
    | with_reducible exact spec_PieceFault.F_lim _ _ _
    | with_reducible refine Lim.ite ?_ ?_
    | with_reducible refine Lim.bind ?_ (fun _ => ?_)

end Go.Proofs.Ytbhijlhlopljmaa.PFnExactPieceFault
