/-
  Written by a program of this session (wip/tools/lims.py): the printed functions without their bound on rounds.
-/
import Derived.Test.YtlphfgbeeckjnaaPFnExactOverlapsOfx1
import Derived.Test.YtlphfgbeeckjnaaPFnExactOverlapsOfx2
import Derived.Test.YtlphfgbeeckjnaaPFnExactOverlapsOfx3
import Derived.Test.YtlphfgbeeckjnaaPFnExactOverlapsOfx4
import Derived.Test.YtlphfgbeeckjnaaPFnExactOverlapsOfx5
import Derived.Test.YtlphfgbeeckjnaaPFnExactOverlapsOfx6
import Derived.Test.YtlphfgbeeckjnaaPFnExactOverlapsOfx7
import Derived.Test.YtlphfgbeeckjnaaPFnExactOverlapsOfx8
import Derived.Test.YtlphfgbeeckjnaaPFnExactOverlapsOfx9
import Derived.Test.YtlphfgbeeckjnaaPFnExactOverlapsOfx10
import Derived.Test.YtlphfgbeeckjnaaPFnExactOverlapsOfx11
import Derived.Test.YtlphfgbeeckjnaaPFnExactOverlapsOfx12
import Derived.Test.YtlphfgbeeckjnaaPFnExactOverlapsOfx13
import Derived.Test.YtlphfgbeeckjnaaPFnExactOverlapsOfx14
import Derived.Test.YtlphfgbeeckjnaaPFnExactOverlapsOfx15
import Derived.Test.YtlphfgbeeckjnaaPFnExactOverlapsOfx16
import Derived.Test.YtlphfgbeeckjnaaPFnExactOverlapsOfx17
import Derived.Test.YtlphfgbeeckjnaaPFnExactOverlapsOfx18
import Derived.Test.YtlphfgbeeckjnaaPFnExactOverlapsOfx19
import Derived.Test.YtlphfgbeeckjnaaKit
set_option linter.unusedVariables false
set_option linter.unusedSimpArgs false
namespace Go.Proofs.Ytlphfgbeeckjnaa.PFnExactOverlapsOf
open Go.RowKit Go.Proofs.Ytlphfgbeeckjnaa.Kit Go.Proofs.YtlphfgbeeckjnaaW.PrintWords Go.Proofs.YtlphfgbeeckjnaaW.PrintLast Go.Proofs.YtlphfgbeeckjnaaW.PrintMore

noncomputable def laws_eqInt64S.L0 (x0 : List Int) (x1 : List Int) (x5 : Int) : Option (Bool) := lim (fun k => laws_eqInt64S.l0 k x0 x1 x5)
theorem laws_eqInt64S.L0_lim (x0 : List Int) (x1 : List Int) (x5 : Int) : Lim (fun k => laws_eqInt64S.l0 k x0 x1 x5) (laws_eqInt64S.L0 x0 x1 x5) := Lim.of (fun k => (laws_eqInt64S.mono_l k) x0 x1 x5)
noncomputable def laws_eqInt64S.F (l0 : List Int) (l1 : List Int) : Option (Bool) := lim (fun k => laws_eqInt64S.f k l0 l1)
theorem laws_eqInt64S.F_lim (l0 : List Int) (l1 : List Int) : Lim (fun k => laws_eqInt64S.f k l0 l1) (laws_eqInt64S.F l0 l1) := Lim.of (fun k => laws_eqInt64S.mono l0 l1 k)
theorem laws_eqInt64S.L0_eq (x0 : List Int) (x1 : List Int) (x5 : Int) : laws_eqInt64S.L0 x0 x1 x5 = if x5 < (x0.length : Int) then (if 0 ≤ x5 then (if x5 < (x1.length : Int) then (if (rd x0 x5) = (rd x1 x5) then (laws_eqInt64S.L0 x0 x1 (wrap64 (x5 + 1))) else (some false)) else (none)) else (none)) else (some true) := by
  refine Lim.step (f := fun k => if x5 < (x0.length : Int) then (if 0 ≤ x5 then (if x5 < (x1.length : Int) then (if (rd x0 x5) = (rd x1 x5) then (laws_eqInt64S.l0 k x0 x1 (wrap64 (x5 + 1))) else (some false)) else (none)) else (none)) else (some true)) (fun k => (laws_eqInt64S.mono_l k) x0 x1 x5) (fun k => by simp only [laws_eqInt64S.l0]) ?_
  repeat' first
    | with_reducible exact Lim.const _
    | with_reducible exact laws_eqInt64S.L0_lim _ _ _
    | with_reducible refine Lim.ite ?_ ?_
    | with_reducible refine Lim.bind ?_ (fun _ => ?_)
theorem laws_eqInt64S.F_eq (l0 : List Int) (l1 : List Int) : laws_eqInt64S.F l0 l1 = if (l0.length : Int) = (l1.length : Int) then (laws_eqInt64S.L0 l0 l1 0) else (some false) := by
  refine Lim.eq (g := fun k => laws_eqInt64S.f k l0 l1) ?_
  unfold laws_eqInt64S.f
  repeat' first
    | with_reducible exact Lim.const _
    | with_reducible exact laws_eqInt64S.L0_lim _ _ _
    | with_reducible refine Lim.ite ?_ ?_
    | with_reducible refine Lim.bind ?_ (fun _ => ?_)

noncomputable def laws_eqInt64SS.L0 (x0 : List (List Int)) (x1 : List (List Int)) (x5 : Int) : Option (Bool) := lim (fun k => laws_eqInt64SS.l0 k x0 x1 x5)
theorem laws_eqInt64SS.L0_lim (x0 : List (List Int)) (x1 : List (List Int)) (x5 : Int) : Lim (fun k => laws_eqInt64SS.l0 k x0 x1 x5) (laws_eqInt64SS.L0 x0 x1 x5) := Lim.of (fun k => (laws_eqInt64SS.mono_l k) x0 x1 x5)
noncomputable def laws_eqInt64SS.F (l0 : List (List Int)) (l1 : List (List Int)) : Option (Bool) := lim (fun k => laws_eqInt64SS.f k l0 l1)
theorem laws_eqInt64SS.F_lim (l0 : List (List Int)) (l1 : List (List Int)) : Lim (fun k => laws_eqInt64SS.f k l0 l1) (laws_eqInt64SS.F l0 l1) := Lim.of (fun k => laws_eqInt64SS.mono l0 l1 k)
theorem laws_eqInt64SS.L0_eq (x0 : List (List Int)) (x1 : List (List Int)) (x5 : Int) : laws_eqInt64SS.L0 x0 x1 x5 = if x5 < (x0.length : Int) then (if 0 ≤ x5 then (if x5 < (x1.length : Int) then ((laws_eqInt64S.F (rd_L1 x0 x5) (rd_L1 x1 x5)).bind fun t105 => (if t105 = true then (laws_eqInt64SS.L0 x0 x1 (wrap64 (x5 + 1))) else (some false))) else (none)) else (none)) else (some true) := by
  refine Lim.step (f := fun k => if x5 < (x0.length : Int) then (if 0 ≤ x5 then (if x5 < (x1.length : Int) then ((laws_eqInt64S.f k (rd_L1 x0 x5) (rd_L1 x1 x5)).bind fun t105 => (if t105 = true then (laws_eqInt64SS.l0 k x0 x1 (wrap64 (x5 + 1))) else (some false))) else (none)) else (none)) else (some true)) (fun k => (laws_eqInt64SS.mono_l k) x0 x1 x5) (fun k => by simp only [laws_eqInt64SS.l0]) ?_
  repeat' first
    | with_reducible exact Lim.const _
    | with_reducible exact laws_eqInt64S.F_lim _ _
    | with_reducible exact laws_eqInt64SS.L0_lim _ _ _
    | with_reducible refine Lim.ite ?_ ?_
    | with_reducible refine Lim.bind ?_ (fun _ => ?_)
theorem laws_eqInt64SS.F_eq (l0 : List (List Int)) (l1 : List (List Int)) : laws_eqInt64SS.F l0 l1 = if (l0.length : Int) = (l1.length : Int) then (laws_eqInt64SS.L0 l0 l1 0) else (some false) := by
  refine Lim.eq (g := fun k => laws_eqInt64SS.f k l0 l1) ?_
  unfold laws_eqInt64SS.f
  repeat' first
    | with_reducible exact Lim.const _
    | with_reducible exact laws_eqInt64SS.L0_lim _ _ _
    | with_reducible refine Lim.ite ?_ ?_
    | with_reducible refine Lim.bind ?_ (fun _ => ?_)

noncomputable def laws_markInt64S.L0 (x0 : List Int) (x1 : Int) (x5 : Int) : Option (Int × List Int) := lim (fun k => laws_markInt64S.l0 k x0 x1 x5)
theorem laws_markInt64S.L0_lim (x0 : List Int) (x1 : Int) (x5 : Int) : Lim (fun k => laws_markInt64S.l0 k x0 x1 x5) (laws_markInt64S.L0 x0 x1 x5) := Lim.of (fun k => (laws_markInt64S.mono_l k) x0 x1 x5)
noncomputable def laws_markInt64S.F (l0 : List Int) (a1 : Int) : Option (Int × List Int) := lim (fun k => laws_markInt64S.f k l0 a1)
theorem laws_markInt64S.F_lim (l0 : List Int) (a1 : Int) : Lim (fun k => laws_markInt64S.f k l0 a1) (laws_markInt64S.F l0 a1) := Lim.of (fun k => laws_markInt64S.mono l0 a1 k)
theorem laws_markInt64S.L0_eq (x0 : List Int) (x1 : Int) (x5 : Int) : laws_markInt64S.L0 x0 x1 x5 = if x5 < (x0.length : Int) then (if 0 ≤ x5 then (laws_markInt64S.L0 (x0.set (x5 : Int).toNat x1) (wrap64 (x1 + 1)) (wrap64 (x5 + 1))) else (none)) else (some (x1, x0)) := by
  refine Lim.step (f := fun k => if x5 < (x0.length : Int) then (if 0 ≤ x5 then (laws_markInt64S.l0 k (x0.set (x5 : Int).toNat x1) (wrap64 (x1 + 1)) (wrap64 (x5 + 1))) else (none)) else (some (x1, x0))) (fun k => (laws_markInt64S.mono_l k) x0 x1 x5) (fun k => by simp only [laws_markInt64S.l0]) ?_
  repeat' first
    | with_reducible exact Lim.const _
    | with_reducible exact laws_markInt64S.L0_lim _ _ _
    | with_reducible refine Lim.ite ?_ ?_
    | with_reducible refine Lim.bind ?_ (fun _ => ?_)
theorem laws_markInt64S.F_eq (l0 : List Int) (a1 : Int) : laws_markInt64S.F l0 a1 = laws_markInt64S.L0 l0 a1 0 := by
  refine Lim.eq (g := fun k => laws_markInt64S.f k l0 a1) ?_
  unfold laws_markInt64S.f
  repeat' first
    | with_reducible exact Lim.const _
    | with_reducible exact laws_markInt64S.L0_lim _ _ _
    | with_reducible refine Lim.ite ?_ ?_
    | with_reducible refine Lim.bind ?_ (fun _ => ?_)

noncomputable def laws_markInt64SS.L0 (x0 : List (List Int)) (x1 : Int) (x2 : Int) : Option (Int × List (List Int)) := lim (fun k => laws_markInt64SS.l0 k x0 x1 x2)
theorem laws_markInt64SS.L0_lim (x0 : List (List Int)) (x1 : Int) (x2 : Int) : Lim (fun k => laws_markInt64SS.l0 k x0 x1 x2) (laws_markInt64SS.L0 x0 x1 x2) := Lim.of (fun k => (laws_markInt64SS.mono_l k) x0 x1 x2)
noncomputable def laws_markInt64SS.F (l0 : List (List Int)) (a1 : Int) : Option (Int × List (List Int)) := lim (fun k => laws_markInt64SS.f k l0 a1)
theorem laws_markInt64SS.F_lim (l0 : List (List Int)) (a1 : Int) : Lim (fun k => laws_markInt64SS.f k l0 a1) (laws_markInt64SS.F l0 a1) := Lim.of (fun k => laws_markInt64SS.mono l0 a1 k)
theorem laws_markInt64SS.L0_eq (x0 : List (List Int)) (x1 : Int) (x2 : Int) : laws_markInt64SS.L0 x0 x1 x2 = if x2 < (x0.length : Int) then (if 0 ≤ x2 then ((laws_markInt64S.F (rd_L1 x0 x2) x1).bind fun bt1 => (laws_markInt64SS.L0 (x0.set (x2 : Int).toNat bt1.2) bt1.1 (wrap64 (x2 + 1)))) else (none)) else (some (x1, x0)) := by
  refine Lim.step (f := fun k => if x2 < (x0.length : Int) then (if 0 ≤ x2 then ((laws_markInt64S.f k (rd_L1 x0 x2) x1).bind fun bt1 => (laws_markInt64SS.l0 k (x0.set (x2 : Int).toNat bt1.2) bt1.1 (wrap64 (x2 + 1)))) else (none)) else (some (x1, x0))) (fun k => (laws_markInt64SS.mono_l k) x0 x1 x2) (fun k => by simp only [laws_markInt64SS.l0]) ?_
  repeat' first
    | with_reducible exact Lim.const _
    | with_reducible exact laws_markInt64S.F_lim _ _
    | with_reducible exact laws_markInt64SS.L0_lim _ _ _
    | with_reducible refine Lim.ite ?_ ?_
    | with_reducible refine Lim.bind ?_ (fun _ => ?_)
theorem laws_markInt64SS.F_eq (l0 : List (List Int)) (a1 : Int) : laws_markInt64SS.F l0 a1 = laws_markInt64SS.L0 l0 a1 0 := by
  refine Lim.eq (g := fun k => laws_markInt64SS.f k l0 a1) ?_
  unfold laws_markInt64SS.f
  repeat' first
    | with_reducible exact Lim.const _
    | with_reducible exact laws_markInt64SS.L0_lim _ _ _
    | with_reducible refine Lim.ite ?_ ?_
    | with_reducible refine Lim.bind ?_ (fun _ => ?_)

noncomputable def laws_heldInt64S.L0 (x0 : List Int) (x1 : Int) (x5 : Int) : Option (Int) := lim (fun k => laws_heldInt64S.l0 k x0 x1 x5)
theorem laws_heldInt64S.L0_lim (x0 : List Int) (x1 : Int) (x5 : Int) : Lim (fun k => laws_heldInt64S.l0 k x0 x1 x5) (laws_heldInt64S.L0 x0 x1 x5) := Lim.of (fun k => (laws_heldInt64S.mono_l k) x0 x1 x5)
noncomputable def laws_heldInt64S.F (l0 : List Int) (a1 : Int) : Option (Int) := lim (fun k => laws_heldInt64S.f k l0 a1)
theorem laws_heldInt64S.F_lim (l0 : List Int) (a1 : Int) : Lim (fun k => laws_heldInt64S.f k l0 a1) (laws_heldInt64S.F l0 a1) := Lim.of (fun k => laws_heldInt64S.mono l0 a1 k)
theorem laws_heldInt64S.L0_eq (x0 : List Int) (x1 : Int) (x5 : Int) : laws_heldInt64S.L0 x0 x1 x5 = if x5 < (x0.length : Int) then (if 0 ≤ x5 then (if (rd x0 x5) = x1 then (laws_heldInt64S.L0 x0 (wrap64 (x1 + 1)) (wrap64 (x5 + 1))) else (some (-1))) else (none)) else (some x1) := by
  refine Lim.step (f := fun k => if x5 < (x0.length : Int) then (if 0 ≤ x5 then (if (rd x0 x5) = x1 then (laws_heldInt64S.l0 k x0 (wrap64 (x1 + 1)) (wrap64 (x5 + 1))) else (some (-1))) else (none)) else (some x1)) (fun k => (laws_heldInt64S.mono_l k) x0 x1 x5) (fun k => by simp only [laws_heldInt64S.l0]) ?_
  repeat' first
    | with_reducible exact Lim.const _
    | with_reducible exact laws_heldInt64S.L0_lim _ _ _
    | with_reducible refine Lim.ite ?_ ?_
    | with_reducible refine Lim.bind ?_ (fun _ => ?_)
theorem laws_heldInt64S.F_eq (l0 : List Int) (a1 : Int) : laws_heldInt64S.F l0 a1 = laws_heldInt64S.L0 l0 a1 0 := by
  refine Lim.eq (g := fun k => laws_heldInt64S.f k l0 a1) ?_
  unfold laws_heldInt64S.f
  repeat' first
    | with_reducible exact Lim.const _
    | with_reducible exact laws_heldInt64S.L0_lim _ _ _
    | with_reducible refine Lim.ite ?_ ?_
    | with_reducible refine Lim.bind ?_ (fun _ => ?_)

noncomputable def laws_heldInt64SS.L0 (x0 : List (List Int)) (x1 : Int) (x5 : Int) : Option (Int) := lim (fun k => laws_heldInt64SS.l0 k x0 x1 x5)
theorem laws_heldInt64SS.L0_lim (x0 : List (List Int)) (x1 : Int) (x5 : Int) : Lim (fun k => laws_heldInt64SS.l0 k x0 x1 x5) (laws_heldInt64SS.L0 x0 x1 x5) := Lim.of (fun k => (laws_heldInt64SS.mono_l k) x0 x1 x5)
noncomputable def laws_heldInt64SS.F (l0 : List (List Int)) (a1 : Int) : Option (Int) := lim (fun k => laws_heldInt64SS.f k l0 a1)
theorem laws_heldInt64SS.F_lim (l0 : List (List Int)) (a1 : Int) : Lim (fun k => laws_heldInt64SS.f k l0 a1) (laws_heldInt64SS.F l0 a1) := Lim.of (fun k => laws_heldInt64SS.mono l0 a1 k)
theorem laws_heldInt64SS.L0_eq (x0 : List (List Int)) (x1 : Int) (x5 : Int) : laws_heldInt64SS.L0 x0 x1 x5 = if x5 < (x0.length : Int) then (if 0 ≤ x5 then ((laws_heldInt64S.F (rd_L1 x0 x5) x1).bind fun t109 => (if t109 < 0 then (some (-1)) else (laws_heldInt64SS.L0 x0 t109 (wrap64 (x5 + 1))))) else (none)) else (some x1) := by
  refine Lim.step (f := fun k => if x5 < (x0.length : Int) then (if 0 ≤ x5 then ((laws_heldInt64S.f k (rd_L1 x0 x5) x1).bind fun t109 => (if t109 < 0 then (some (-1)) else (laws_heldInt64SS.l0 k x0 t109 (wrap64 (x5 + 1))))) else (none)) else (some x1)) (fun k => (laws_heldInt64SS.mono_l k) x0 x1 x5) (fun k => by simp only [laws_heldInt64SS.l0]) ?_
  repeat' first
    | with_reducible exact Lim.const _
    | with_reducible exact laws_heldInt64S.F_lim _ _
    | with_reducible exact laws_heldInt64SS.L0_lim _ _ _
    | with_reducible refine Lim.ite ?_ ?_
    | with_reducible refine Lim.bind ?_ (fun _ => ?_)
theorem laws_heldInt64SS.F_eq (l0 : List (List Int)) (a1 : Int) : laws_heldInt64SS.F l0 a1 = laws_heldInt64SS.L0 l0 a1 0 := by
  refine Lim.eq (g := fun k => laws_heldInt64SS.f k l0 a1) ?_
  unfold laws_heldInt64SS.f
  repeat' first
    | with_reducible exact Lim.const _
    | with_reducible exact laws_heldInt64SS.L0_lim _ _ _
    | with_reducible refine Lim.ite ?_ ?_
    | with_reducible refine Lim.bind ?_ (fun _ => ?_)

noncomputable def laws_szHungS.L0 (x0 : List (S74)) (x1 : Int) (x5 : Int) : Option (Int) := lim (fun k => laws_szHungS.l0 k x0 x1 x5)
theorem laws_szHungS.L0_lim (x0 : List (S74)) (x1 : Int) (x5 : Int) : Lim (fun k => laws_szHungS.l0 k x0 x1 x5) (laws_szHungS.L0 x0 x1 x5) := Lim.of (fun k => (laws_szHungS.mono_l k) x0 x1 x5)
noncomputable def laws_szHungS.F (l0 : List (S74)) (a1 : Int) : Option (Int) := lim (fun k => laws_szHungS.f k l0 a1)
theorem laws_szHungS.F_lim (l0 : List (S74)) (a1 : Int) : Lim (fun k => laws_szHungS.f k l0 a1) (laws_szHungS.F l0 a1) := Lim.of (fun k => laws_szHungS.mono l0 a1 k)
theorem laws_szHungS.L0_eq (x0 : List (S74)) (x1 : Int) (x5 : Int) : laws_szHungS.L0 x0 x1 x5 = if x5 < (x0.length : Int) then (if 0 ≤ x5 then ((laws_szHung.f ((rd_T74 x0 x5).f0) ((rd_T74 x0 x5).f1) ((rd_T74 x0 x5).f2) x1).bind fun t113 => (if t113 < 0 then (some (-1)) else (laws_szHungS.L0 x0 t113 (wrap64 (x5 + 1))))) else (none)) else (some x1) := by
  refine Lim.step (f := fun k => if x5 < (x0.length : Int) then (if 0 ≤ x5 then ((laws_szHung.f ((rd_T74 x0 x5).f0) ((rd_T74 x0 x5).f1) ((rd_T74 x0 x5).f2) x1).bind fun t113 => (if t113 < 0 then (some (-1)) else (laws_szHungS.l0 k x0 t113 (wrap64 (x5 + 1))))) else (none)) else (some x1)) (fun k => (laws_szHungS.mono_l k) x0 x1 x5) (fun k => by simp only [laws_szHungS.l0]) ?_
  repeat' first
    | with_reducible exact Lim.const _
    | with_reducible exact laws_szHungS.L0_lim _ _ _
    | with_reducible refine Lim.ite ?_ ?_
    | with_reducible refine Lim.bind ?_ (fun _ => ?_)
theorem laws_szHungS.F_eq (l0 : List (S74)) (a1 : Int) : laws_szHungS.F l0 a1 = if (wrap64 (a1 - (l0.length : Int))) < 0 then (some (-1)) else (laws_szHungS.L0 l0 (wrap64 (a1 - (l0.length : Int))) 0) := by
  refine Lim.eq (g := fun k => laws_szHungS.f k l0 a1) ?_
  unfold laws_szHungS.f
  repeat' first
    | with_reducible exact Lim.const _
    | with_reducible exact laws_szHungS.L0_lim _ _ _
    | with_reducible refine Lim.ite ?_ ?_
    | with_reducible refine Lim.bind ?_ (fun _ => ?_)

noncomputable def laws_szPlan.F (l0_0 : List (S74)) (a0_1 : Int) (a0_2 : Int) (a1 : Int) : Option (Int) := lim (fun k => laws_szPlan.f k l0_0 a0_1 a0_2 a1)
theorem laws_szPlan.F_lim (l0_0 : List (S74)) (a0_1 : Int) (a0_2 : Int) (a1 : Int) : Lim (fun k => laws_szPlan.f k l0_0 a0_1 a0_2 a1) (laws_szPlan.F l0_0 a0_1 a0_2 a1) := Lim.of (fun k => laws_szPlan.mono l0_0 a0_1 a0_2 a1 k)
theorem laws_szPlan.F_eq (l0_0 : List (S74)) (a0_1 : Int) (a0_2 : Int) (a1 : Int) : laws_szPlan.F l0_0 a0_1 a0_2 a1 = (laws_szHungS.F l0_0 a1).bind fun t115 => (if t115 < 0 then (some (-1)) else (some t115)) := by
  refine Lim.eq (g := fun k => laws_szPlan.f k l0_0 a0_1 a0_2 a1) ?_
  unfold laws_szPlan.f
  repeat' first
    | with_reducible exact Lim.const _
    | with_reducible exact laws_szHungS.F_lim _ _
    | with_reducible refine Lim.ite ?_ ?_
    | with_reducible refine Lim.bind ?_ (fun _ => ?_)

noncomputable def spec_l17Find.L0 (x0 : List (S64)) (x1 : ByteArray) (x5 : Int) : Option (Int) := lim (fun k => spec_l17Find.l0 k x0 x1 x5)
theorem spec_l17Find.L0_lim (x0 : List (S64)) (x1 : ByteArray) (x5 : Int) : Lim (fun k => spec_l17Find.l0 k x0 x1 x5) (spec_l17Find.L0 x0 x1 x5) := Lim.of (fun k => (spec_l17Find.mono_l k) x0 x1 x5)
noncomputable def spec_l17Find.F (l0 : List (S64)) (a1 : ByteArray) : Option (Int) := lim (fun k => spec_l17Find.f k l0 a1)
theorem spec_l17Find.F_lim (l0 : List (S64)) (a1 : ByteArray) : Lim (fun k => spec_l17Find.f k l0 a1) (spec_l17Find.F l0 a1) := Lim.of (fun k => spec_l17Find.mono l0 a1 k)
theorem spec_l17Find.L0_eq (x0 : List (S64)) (x1 : ByteArray) (x5 : Int) : spec_l17Find.L0 x0 x1 x5 = if x5 < (((rd_T64 x0 0).f0).length : Int) then (if 0 ≤ x5 then (if ((rd_T79 ((rd_T64 x0 0).f0) x5).f0).toList = x1.toList then (some x5) else (spec_l17Find.L0 x0 x1 (wrap64 (x5 + 1)))) else (none)) else (some (-1)) := by
  refine Lim.step (f := fun k => if x5 < (((rd_T64 x0 0).f0).length : Int) then (if 0 ≤ x5 then (if ((rd_T79 ((rd_T64 x0 0).f0) x5).f0).toList = x1.toList then (some x5) else (spec_l17Find.l0 k x0 x1 (wrap64 (x5 + 1)))) else (none)) else (some (-1))) (fun k => (spec_l17Find.mono_l k) x0 x1 x5) (fun k => by simp only [spec_l17Find.l0]) ?_
  repeat' first
    | with_reducible exact Lim.const _
    | with_reducible exact spec_l17Find.L0_lim _ _ _
    | with_reducible refine Lim.ite ?_ ?_
    | with_reducible refine Lim.bind ?_ (fun _ => ?_)
theorem spec_l17Find.F_eq (l0 : List (S64)) (a1 : ByteArray) : spec_l17Find.F l0 a1 = if 0 < (l0.length : Int) then (spec_l17Find.L0 l0 a1 0) else (none) := by
  refine Lim.eq (g := fun k => spec_l17Find.f k l0 a1) ?_
  unfold spec_l17Find.f
  repeat' first
    | with_reducible exact Lim.const _
    | with_reducible exact spec_l17Find.L0_lim _ _ _
    | with_reducible refine Lim.ite ?_ ?_
    | with_reducible refine Lim.bind ?_ (fun _ => ?_)

noncomputable def spec_IsName.J0 (x0 : ByteArray) (x16 : Bool) : Option (Bool) := lim (fun k => spec_IsName.j0 k x0 x16)
theorem spec_IsName.J0_lim (x0 : ByteArray) (x16 : Bool) : Lim (fun k => spec_IsName.j0 k x0 x16) (spec_IsName.J0 x0 x16) := Lim.of (fun k => (spec_IsName.mono_l k).1 x0 x16)
noncomputable def spec_IsName.L0 (x0 : ByteArray) (x3 : Int) : Option (Bool) := lim (fun k => spec_IsName.l0 k x0 x3)
theorem spec_IsName.L0_lim (x0 : ByteArray) (x3 : Int) : Lim (fun k => spec_IsName.l0 k x0 x3) (spec_IsName.L0 x0 x3) := Lim.of (fun k => (spec_IsName.mono_l k).2 x0 x3)
noncomputable def spec_IsName.F (a0 : ByteArray) : Option (Bool) := lim (fun k => spec_IsName.f k a0)
theorem spec_IsName.F_lim (a0 : ByteArray) : Lim (fun k => spec_IsName.f k a0) (spec_IsName.F a0) := Lim.of (fun k => spec_IsName.mono a0 k)
theorem spec_IsName.J0_eq (x0 : ByteArray) (x16 : Bool) : spec_IsName.J0 x0 x16 = if x16 = true then (some false) else (spec_IsName.L0 x0 0) := by
  refine Lim.step (f := fun k => if x16 = true then (some false) else (spec_IsName.l0 k x0 0)) (fun k => (spec_IsName.mono_l k).1 x0 x16) (fun k => by simp only [spec_IsName.j0]) ?_
  repeat' first
    | with_reducible exact Lim.const _
    | with_reducible exact spec_IsName.L0_lim _ _
    | with_reducible refine Lim.ite ?_ ?_
    | with_reducible refine Lim.bind ?_ (fun _ => ?_)
theorem spec_IsName.L0_eq (x0 : ByteArray) (x3 : Int) : spec_IsName.L0 x0 x3 = if x3 < (x0.size : Int) then (if 0 ≤ x3 then ((spec_l01Small.f (bt x0 x3)).bind fun t121 => (if t121 = true then (spec_IsName.L0 x0 (wrap64 (x3 + 1))) else ((spec_l01Digit.f (bt x0 x3)).bind fun t122 => (if t122 = true then (spec_IsName.L0 x0 (wrap64 (x3 + 1))) else (if (bt x0 x3) = 45 then (spec_IsName.L0 x0 (wrap64 (x3 + 1))) else (some false)))))) else (none)) else (some true) := by
  refine Lim.step (f := fun k => if x3 < (x0.size : Int) then (if 0 ≤ x3 then ((spec_l01Small.f (bt x0 x3)).bind fun t121 => (if t121 = true then (spec_IsName.l0 k x0 (wrap64 (x3 + 1))) else ((spec_l01Digit.f (bt x0 x3)).bind fun t122 => (if t122 = true then (spec_IsName.l0 k x0 (wrap64 (x3 + 1))) else (if (bt x0 x3) = 45 then (spec_IsName.l0 k x0 (wrap64 (x3 + 1))) else (some false)))))) else (none)) else (some true)) (fun k => (spec_IsName.mono_l k).2 x0 x3) (fun k => by simp only [spec_IsName.l0]) ?_
  repeat' first
    | with_reducible exact Lim.const _
    | with_reducible exact spec_IsName.L0_lim _ _
    | with_reducible refine Lim.ite ?_ ?_
    | with_reducible refine Lim.bind ?_ (fun _ => ?_)
theorem spec_IsName.F_eq (a0 : ByteArray) : spec_IsName.F a0 = if a0.toList = ([] : List UInt8) then (spec_IsName.J0 a0 true) else (if (a0.size : Int) > 12 then (spec_IsName.J0 a0 true) else (if 0 < (a0.size : Int) then ((spec_l01Small.f (bt a0 0)).bind fun t120 => (spec_IsName.J0 a0 (!t120))) else (none))) := by
  refine Lim.eq (g := fun k => spec_IsName.f k a0) ?_
  unfold spec_IsName.f
  repeat' first
    | with_reducible exact Lim.const _
    | with_reducible exact spec_IsName.J0_lim _ _
    | with_reducible refine Lim.ite ?_ ?_
    | with_reducible refine Lim.bind ?_ (fun _ => ?_)

noncomputable def spec_l13Meet.J0 (x30 : Bool) (x143000 : Int) (x143001 : Int) (x144000 : Int) (x144001 : Int) (x145000 : Int) (x145001 : Int) (x146000 : Int) (x146001 : Int) : Option (Bool) := lim (fun k => spec_l13Meet.j0 k x30 x143000 x143001 x144000 x144001 x145000 x145001 x146000 x146001)
theorem spec_l13Meet.J0_lim (x30 : Bool) (x143000 : Int) (x143001 : Int) (x144000 : Int) (x144001 : Int) (x145000 : Int) (x145001 : Int) (x146000 : Int) (x146001 : Int) : Lim (fun k => spec_l13Meet.j0 k x30 x143000 x143001 x144000 x144001 x145000 x145001 x146000 x146001) (spec_l13Meet.J0 x30 x143000 x143001 x144000 x144001 x145000 x145001 x146000 x146001) := Lim.of (fun k => (spec_l13Meet.mono_l k) x30 x143000 x143001 x144000 x144001 x145000 x145001 x146000 x146001)
noncomputable def spec_l13Meet.F (a0_0 : Int) (a0_1 : Int) (a1_0 : Int) (a1_1 : Int) (a2_0 : Int) (a2_1 : Int) (a3_0 : Int) (a3_1 : Int) : Option (Bool) := lim (fun k => spec_l13Meet.f k a0_0 a0_1 a1_0 a1_1 a2_0 a2_1 a3_0 a3_1)
theorem spec_l13Meet.F_lim (a0_0 : Int) (a0_1 : Int) (a1_0 : Int) (a1_1 : Int) (a2_0 : Int) (a2_1 : Int) (a3_0 : Int) (a3_1 : Int) : Lim (fun k => spec_l13Meet.f k a0_0 a0_1 a1_0 a1_1 a2_0 a2_1 a3_0 a3_1) (spec_l13Meet.F a0_0 a0_1 a1_0 a1_1 a2_0 a2_1 a3_0 a3_1) := Lim.of (fun k => spec_l13Meet.mono a0_0 a0_1 a1_0 a1_1 a2_0 a2_1 a3_0 a3_1 k)
theorem spec_l13Meet.J0_eq (x30 : Bool) (x143000 : Int) (x143001 : Int) (x144000 : Int) (x144001 : Int) (x145000 : Int) (x145001 : Int) (x146000 : Int) (x146001 : Int) : spec_l13Meet.J0 x30 x143000 x143001 x144000 x144001 x145000 x145001 x146000 x146001 = if x30 = true then (some true) else ((spec_l13Sides.f x143000 x143001 x144000 x144001 x145000 x145001 x146000 x146001).bind fun t150 => (if t150 = true then ((spec_l13Sides.f x145000 x145001 x146000 x146001 x143000 x143001 x144000 x144001).bind fun t151 => (some t151)) else (some false))) := by
  refine Lim.step (f := fun k => if x30 = true then (some true) else ((spec_l13Sides.f x143000 x143001 x144000 x144001 x145000 x145001 x146000 x146001).bind fun t150 => (if t150 = true then ((spec_l13Sides.f x145000 x145001 x146000 x146001 x143000 x143001 x144000 x144001).bind fun t151 => (some t151)) else (some false)))) (fun k => (spec_l13Meet.mono_l k) x30 x143000 x143001 x144000 x144001 x145000 x145001 x146000 x146001) (fun k => by simp only [spec_l13Meet.j0]) ?_
  repeat' first
    | with_reducible exact Lim.const _
    | with_reducible refine Lim.ite ?_ ?_
    | with_reducible refine Lim.bind ?_ (fun _ => ?_)
theorem spec_l13Meet.F_eq (a0_0 : Int) (a0_1 : Int) (a1_0 : Int) (a1_1 : Int) (a2_0 : Int) (a2_1 : Int) (a3_0 : Int) (a3_1 : Int) : spec_l13Meet.F a0_0 a0_1 a1_0 a1_1 a2_0 a2_1 a3_0 a3_1 = (spec_l13On.f a0_0 a0_1 a1_0 a1_1 a2_0 a2_1).bind fun t146 => (if t146 = true then (spec_l13Meet.J0 true a0_0 a0_1 a1_0 a1_1 a2_0 a2_1 a3_0 a3_1) else ((spec_l13On.f a0_0 a0_1 a1_0 a1_1 a3_0 a3_1).bind fun t147 => (if t147 = true then (spec_l13Meet.J0 true a0_0 a0_1 a1_0 a1_1 a2_0 a2_1 a3_0 a3_1) else ((spec_l13On.f a2_0 a2_1 a3_0 a3_1 a0_0 a0_1).bind fun t148 => (if t148 = true then (spec_l13Meet.J0 true a0_0 a0_1 a1_0 a1_1 a2_0 a2_1 a3_0 a3_1) else ((spec_l13On.f a2_0 a2_1 a3_0 a3_1 a1_0 a1_1).bind fun t149 => (spec_l13Meet.J0 t149 a0_0 a0_1 a1_0 a1_1 a2_0 a2_1 a3_0 a3_1))))))) := by
  refine Lim.eq (g := fun k => spec_l13Meet.f k a0_0 a0_1 a1_0 a1_1 a2_0 a2_1 a3_0 a3_1) ?_
  unfold spec_l13Meet.f
  repeat' first
    | with_reducible exact Lim.const _
    | with_reducible exact spec_l13Meet.J0_lim _ _ _ _ _ _ _ _ _
    | with_reducible refine Lim.ite ?_ ?_
    | with_reducible refine Lim.bind ?_ (fun _ => ?_)

noncomputable def spec_l13Twice.L0 (x0 : List (S129)) (x3 : Int) (x4 : Int) : Option (Int) := lim (fun k => spec_l13Twice.l0 k x0 x3 x4)
theorem spec_l13Twice.L0_lim (x0 : List (S129)) (x3 : Int) (x4 : Int) : Lim (fun k => spec_l13Twice.l0 k x0 x3 x4) (spec_l13Twice.L0 x0 x3 x4) := Lim.of (fun k => (spec_l13Twice.mono_l k) x0 x3 x4)
noncomputable def spec_l13Twice.F (l0 : List (S129)) : Option (Int) := lim (fun k => spec_l13Twice.f k l0)
theorem spec_l13Twice.F_lim (l0 : List (S129)) : Lim (fun k => spec_l13Twice.f k l0) (spec_l13Twice.F l0) := Lim.of (fun k => spec_l13Twice.mono l0 k)
theorem spec_l13Twice.L0_eq (x0 : List (S129)) (x3 : Int) (x4 : Int) : spec_l13Twice.L0 x0 x3 x4 = if x4 < (x0.length : Int) then (if (x0.length : Int) = 0 then (none) else (if 0 ≤ (Int.tmod (wrap64 (x4 + 1)) (x0.length : Int)) then (if (Int.tmod (wrap64 (x4 + 1)) (x0.length : Int)) < (x0.length : Int) then (if 0 ≤ x4 then (spec_l13Twice.L0 x0 (wrap64 (x3 + (wrap64 ((wrap64 (((rd_T129 x0 x4).f0) * ((rd_T129 x0 (Int.tmod (wrap64 (x4 + 1)) (x0.length : Int))).f1))) - (wrap64 (((rd_T129 x0 (Int.tmod (wrap64 (x4 + 1)) (x0.length : Int))).f0) * ((rd_T129 x0 x4).f1))))))) (wrap64 (x4 + 1))) else (none)) else (none)) else (none))) else (some x3) := by
  refine Lim.step (f := fun k => if x4 < (x0.length : Int) then (if (x0.length : Int) = 0 then (none) else (if 0 ≤ (Int.tmod (wrap64 (x4 + 1)) (x0.length : Int)) then (if (Int.tmod (wrap64 (x4 + 1)) (x0.length : Int)) < (x0.length : Int) then (if 0 ≤ x4 then (spec_l13Twice.l0 k x0 (wrap64 (x3 + (wrap64 ((wrap64 (((rd_T129 x0 x4).f0) * ((rd_T129 x0 (Int.tmod (wrap64 (x4 + 1)) (x0.length : Int))).f1))) - (wrap64 (((rd_T129 x0 (Int.tmod (wrap64 (x4 + 1)) (x0.length : Int))).f0) * ((rd_T129 x0 x4).f1))))))) (wrap64 (x4 + 1))) else (none)) else (none)) else (none))) else (some x3)) (fun k => (spec_l13Twice.mono_l k) x0 x3 x4) (fun k => by simp only [spec_l13Twice.l0]) ?_
  repeat' first
    | with_reducible exact Lim.const _
    | with_reducible exact spec_l13Twice.L0_lim _ _ _
    | with_reducible refine Lim.ite ?_ ?_
    | with_reducible refine Lim.bind ?_ (fun _ => ?_)
theorem spec_l13Twice.F_eq (l0 : List (S129)) : spec_l13Twice.F l0 = spec_l13Twice.L0 l0 0 0 := by
  refine Lim.eq (g := fun k => spec_l13Twice.f k l0) ?_
  unfold spec_l13Twice.f
  repeat' first
    | with_reducible exact Lim.const _
    | with_reducible exact spec_l13Twice.L0_lim _ _ _
    | with_reducible refine Lim.ite ?_ ?_
    | with_reducible refine Lim.bind ?_ (fun _ => ?_)

noncomputable def spec_l13Ok.L0 (x0 : List (S129)) (x3 : Int) (x4 : Int) : Option (Bool) := lim (fun k => spec_l13Ok.l0 k x0 x3 x4)
theorem spec_l13Ok.L0_lim (x0 : List (S129)) (x3 : Int) (x4 : Int) : Lim (fun k => spec_l13Ok.l0 k x0 x3 x4) (spec_l13Ok.L0 x0 x3 x4) := Lim.of (fun k => (spec_l13Ok.mono_l k).1 x0 x3 x4)
noncomputable def spec_l13Ok.L1 (x0 : List (S129)) (x3 : Int) (x5 : Int) : Option (Bool) := lim (fun k => spec_l13Ok.l1 k x0 x3 x5)
theorem spec_l13Ok.L1_lim (x0 : List (S129)) (x3 : Int) (x5 : Int) : Lim (fun k => spec_l13Ok.l1 k x0 x3 x5) (spec_l13Ok.L1 x0 x3 x5) := Lim.of (fun k => (spec_l13Ok.mono_l k).2.1 x0 x3 x5)
noncomputable def spec_l13Ok.L2 (x0 : List (S129)) (x3 : Int) (x5 : Int) (x8 : Int) (x164000 : Int) (x164001 : Int) (x166000 : Int) (x166001 : Int) : Option (Bool) := lim (fun k => spec_l13Ok.l2 k x0 x3 x5 x8 x164000 x164001 x166000 x166001)
theorem spec_l13Ok.L2_lim (x0 : List (S129)) (x3 : Int) (x5 : Int) (x8 : Int) (x164000 : Int) (x164001 : Int) (x166000 : Int) (x166001 : Int) : Lim (fun k => spec_l13Ok.l2 k x0 x3 x5 x8 x164000 x164001 x166000 x166001) (spec_l13Ok.L2 x0 x3 x5 x8 x164000 x164001 x166000 x166001) := Lim.of (fun k => (spec_l13Ok.mono_l k).2.2 x0 x3 x5 x8 x164000 x164001 x166000 x166001)
noncomputable def spec_l13Ok.F (l0 : List (S129)) : Option (Bool) := lim (fun k => spec_l13Ok.f k l0)
theorem spec_l13Ok.F_lim (l0 : List (S129)) : Lim (fun k => spec_l13Ok.f k l0) (spec_l13Ok.F l0) := Lim.of (fun k => spec_l13Ok.mono l0 k)
theorem spec_l13Ok.L0_eq (x0 : List (S129)) (x3 : Int) (x4 : Int) : spec_l13Ok.L0 x0 x3 x4 = if x4 < x3 then (if 0 ≤ x4 then (if x4 < (x0.length : Int) then ((spec_l00In.f ((rd_T129 x0 x4).f0) 0 2000).bind fun t158 => (if t158 = true then ((spec_l00In.f ((rd_T129 x0 x4).f1) 0 2000).bind fun t160 => (if t160 = true then (spec_l13Ok.L0 x0 x3 (wrap64 (x4 + 1))) else (some false))) else (some false))) else (none)) else (none)) else (spec_l13Ok.L1 x0 x3 0) := by
  refine Lim.step (f := fun k => if x4 < x3 then (if 0 ≤ x4 then (if x4 < (x0.length : Int) then ((spec_l00In.f ((rd_T129 x0 x4).f0) 0 2000).bind fun t158 => (if t158 = true then ((spec_l00In.f ((rd_T129 x0 x4).f1) 0 2000).bind fun t160 => (if t160 = true then (spec_l13Ok.l0 k x0 x3 (wrap64 (x4 + 1))) else (some false))) else (some false))) else (none)) else (none)) else (spec_l13Ok.l1 k x0 x3 0)) (fun k => (spec_l13Ok.mono_l k).1 x0 x3 x4) (fun k => by simp only [spec_l13Ok.l0]) ?_
  repeat' first
    | with_reducible exact Lim.const _
    | with_reducible exact spec_l13Ok.L0_lim _ _ _
    | with_reducible exact spec_l13Ok.L1_lim _ _ _
    | with_reducible refine Lim.ite ?_ ?_
    | with_reducible refine Lim.bind ?_ (fun _ => ?_)
theorem spec_l13Ok.L1_eq (x0 : List (S129)) (x3 : Int) (x5 : Int) : spec_l13Ok.L1 x0 x3 x5 = if x5 < x3 then (if 0 ≤ x5 then (if x5 < (x0.length : Int) then (if x3 = 0 then (none) else (if 0 ≤ (Int.tmod (wrap64 (x5 + 1)) x3) then (if (Int.tmod (wrap64 (x5 + 1)) x3) < (x0.length : Int) then (if 0 ≤ (Int.tmod (wrap64 (x5 + 2)) x3) then (if (Int.tmod (wrap64 (x5 + 2)) x3) < (x0.length : Int) then ((spec_l13Cross.f ((rd_T129 x0 x5).f0) ((rd_T129 x0 x5).f1) ((rd_T129 x0 (Int.tmod (wrap64 (x5 + 1)) x3)).f0) ((rd_T129 x0 (Int.tmod (wrap64 (x5 + 1)) x3)).f1) ((rd_T129 x0 (Int.tmod (wrap64 (x5 + 2)) x3)).f0) ((rd_T129 x0 (Int.tmod (wrap64 (x5 + 2)) x3)).f1)).bind fun t167 => (if t167 = 0 then (some false) else (spec_l13Ok.L2 x0 x3 x5 (wrap64 (x5 + 2)) ((rd_T129 x0 x5).f0) ((rd_T129 x0 x5).f1) ((rd_T129 x0 (Int.tmod (wrap64 (x5 + 1)) x3)).f0) ((rd_T129 x0 (Int.tmod (wrap64 (x5 + 1)) x3)).f1)))) else (none)) else (none)) else (none)) else (none))) else (none)) else (none)) else ((spec_l13Twice.F x0).bind fun t161 => (some (decide (t161 > 0)))) := by
  refine Lim.step (f := fun k => if x5 < x3 then (if 0 ≤ x5 then (if x5 < (x0.length : Int) then (if x3 = 0 then (none) else (if 0 ≤ (Int.tmod (wrap64 (x5 + 1)) x3) then (if (Int.tmod (wrap64 (x5 + 1)) x3) < (x0.length : Int) then (if 0 ≤ (Int.tmod (wrap64 (x5 + 2)) x3) then (if (Int.tmod (wrap64 (x5 + 2)) x3) < (x0.length : Int) then ((spec_l13Cross.f ((rd_T129 x0 x5).f0) ((rd_T129 x0 x5).f1) ((rd_T129 x0 (Int.tmod (wrap64 (x5 + 1)) x3)).f0) ((rd_T129 x0 (Int.tmod (wrap64 (x5 + 1)) x3)).f1) ((rd_T129 x0 (Int.tmod (wrap64 (x5 + 2)) x3)).f0) ((rd_T129 x0 (Int.tmod (wrap64 (x5 + 2)) x3)).f1)).bind fun t167 => (if t167 = 0 then (some false) else (spec_l13Ok.l2 k x0 x3 x5 (wrap64 (x5 + 2)) ((rd_T129 x0 x5).f0) ((rd_T129 x0 x5).f1) ((rd_T129 x0 (Int.tmod (wrap64 (x5 + 1)) x3)).f0) ((rd_T129 x0 (Int.tmod (wrap64 (x5 + 1)) x3)).f1)))) else (none)) else (none)) else (none)) else (none))) else (none)) else (none)) else ((spec_l13Twice.f k x0).bind fun t161 => (some (decide (t161 > 0))))) (fun k => (spec_l13Ok.mono_l k).2.1 x0 x3 x5) (fun k => by simp only [spec_l13Ok.l1]) ?_
  repeat' first
    | with_reducible exact Lim.const _
    | with_reducible exact spec_l13Ok.L2_lim _ _ _ _ _ _ _ _
    | with_reducible exact spec_l13Twice.F_lim _
    | with_reducible refine Lim.ite ?_ ?_
    | with_reducible refine Lim.bind ?_ (fun _ => ?_)
theorem spec_l13Ok.L2_eq (x0 : List (S129)) (x3 : Int) (x5 : Int) (x8 : Int) (x164000 : Int) (x164001 : Int) (x166000 : Int) (x166001 : Int) : spec_l13Ok.L2 x0 x3 x5 x8 x164000 x164001 x166000 x166001 = if x8 < x3 then (if x5 > 0 then (if 0 ≤ x8 then (if x8 < (x0.length : Int) then (if x3 = 0 then (none) else (if 0 ≤ (Int.tmod (wrap64 (x8 + 1)) x3) then (if (Int.tmod (wrap64 (x8 + 1)) x3) < (x0.length : Int) then ((spec_l13Meet.F x164000 x164001 x166000 x166001 ((rd_T129 x0 x8).f0) ((rd_T129 x0 x8).f1) ((rd_T129 x0 (Int.tmod (wrap64 (x8 + 1)) x3)).f0) ((rd_T129 x0 (Int.tmod (wrap64 (x8 + 1)) x3)).f1)).bind fun t170 => (if t170 = true then (some false) else (spec_l13Ok.L2 x0 x3 x5 (wrap64 (x8 + 1)) x164000 x164001 x166000 x166001))) else (none)) else (none))) else (none)) else (none)) else (if x8 < (wrap64 (x3 - 1)) then (if 0 ≤ x8 then (if x8 < (x0.length : Int) then (if x3 = 0 then (none) else (if 0 ≤ (Int.tmod (wrap64 (x8 + 1)) x3) then (if (Int.tmod (wrap64 (x8 + 1)) x3) < (x0.length : Int) then ((spec_l13Meet.F x164000 x164001 x166000 x166001 ((rd_T129 x0 x8).f0) ((rd_T129 x0 x8).f1) ((rd_T129 x0 (Int.tmod (wrap64 (x8 + 1)) x3)).f0) ((rd_T129 x0 (Int.tmod (wrap64 (x8 + 1)) x3)).f1)).bind fun t173 => (if t173 = true then (some false) else (spec_l13Ok.L2 x0 x3 x5 (wrap64 (x8 + 1)) x164000 x164001 x166000 x166001))) else (none)) else (none))) else (none)) else (none)) else (spec_l13Ok.L2 x0 x3 x5 (wrap64 (x8 + 1)) x164000 x164001 x166000 x166001))) else (spec_l13Ok.L1 x0 x3 (wrap64 (x5 + 1))) := by
  refine Lim.step (f := fun k => if x8 < x3 then (if x5 > 0 then (if 0 ≤ x8 then (if x8 < (x0.length : Int) then (if x3 = 0 then (none) else (if 0 ≤ (Int.tmod (wrap64 (x8 + 1)) x3) then (if (Int.tmod (wrap64 (x8 + 1)) x3) < (x0.length : Int) then ((spec_l13Meet.f k x164000 x164001 x166000 x166001 ((rd_T129 x0 x8).f0) ((rd_T129 x0 x8).f1) ((rd_T129 x0 (Int.tmod (wrap64 (x8 + 1)) x3)).f0) ((rd_T129 x0 (Int.tmod (wrap64 (x8 + 1)) x3)).f1)).bind fun t170 => (if t170 = true then (some false) else (spec_l13Ok.l2 k x0 x3 x5 (wrap64 (x8 + 1)) x164000 x164001 x166000 x166001))) else (none)) else (none))) else (none)) else (none)) else (if x8 < (wrap64 (x3 - 1)) then (if 0 ≤ x8 then (if x8 < (x0.length : Int) then (if x3 = 0 then (none) else (if 0 ≤ (Int.tmod (wrap64 (x8 + 1)) x3) then (if (Int.tmod (wrap64 (x8 + 1)) x3) < (x0.length : Int) then ((spec_l13Meet.f k x164000 x164001 x166000 x166001 ((rd_T129 x0 x8).f0) ((rd_T129 x0 x8).f1) ((rd_T129 x0 (Int.tmod (wrap64 (x8 + 1)) x3)).f0) ((rd_T129 x0 (Int.tmod (wrap64 (x8 + 1)) x3)).f1)).bind fun t173 => (if t173 = true then (some false) else (spec_l13Ok.l2 k x0 x3 x5 (wrap64 (x8 + 1)) x164000 x164001 x166000 x166001))) else (none)) else (none))) else (none)) else (none)) else (spec_l13Ok.l2 k x0 x3 x5 (wrap64 (x8 + 1)) x164000 x164001 x166000 x166001))) else (spec_l13Ok.l1 k x0 x3 (wrap64 (x5 + 1)))) (fun k => (spec_l13Ok.mono_l k).2.2 x0 x3 x5 x8 x164000 x164001 x166000 x166001) (fun k => by simp only [spec_l13Ok.l2]) ?_
  repeat' first
    | with_reducible exact Lim.const _
    | with_reducible exact spec_l13Meet.F_lim _ _ _ _ _ _ _ _
    | with_reducible exact spec_l13Ok.L1_lim _ _ _
    | with_reducible exact spec_l13Ok.L2_lim _ _ _ _ _ _ _ _
    | with_reducible refine Lim.ite ?_ ?_
    | with_reducible refine Lim.bind ?_ (fun _ => ?_)
theorem spec_l13Ok.F_eq (l0 : List (S129)) : spec_l13Ok.F l0 = (spec_l00In.f (l0.length : Int) 3 8).bind fun t156 => (if t156 = true then (spec_l13Ok.L0 l0 (l0.length : Int) 0) else (some false)) := by
  refine Lim.eq (g := fun k => spec_l13Ok.f k l0) ?_
  unfold spec_l13Ok.f
  repeat' first
    | with_reducible exact Lim.const _
    | with_reducible exact spec_l13Ok.L0_lim _ _ _
    | with_reducible refine Lim.ite ?_ ?_
    | with_reducible refine Lim.bind ?_ (fun _ => ?_)

noncomputable def spec_l17Ok.L0 (x0 : List (S64)) (x3 : Int) : Option (Bool) := lim (fun k => spec_l17Ok.l0 k x0 x3)
theorem spec_l17Ok.L0_lim (x0 : List (S64)) (x3 : Int) : Lim (fun k => spec_l17Ok.l0 k x0 x3) (spec_l17Ok.L0 x0 x3) := Lim.of (fun k => (spec_l17Ok.mono_l k) x0 x3)
noncomputable def spec_l17Ok.F (l0 : List (S64)) : Option (Bool) := lim (fun k => spec_l17Ok.f k l0)
theorem spec_l17Ok.F_lim (l0 : List (S64)) : Lim (fun k => spec_l17Ok.f k l0) (spec_l17Ok.F l0) := Lim.of (fun k => spec_l17Ok.mono l0 k)
theorem spec_l17Ok.L0_eq (x0 : List (S64)) (x3 : Int) : spec_l17Ok.L0 x0 x3 = if x3 < (((rd_T64 x0 0).f0).length : Int) then (if 0 ≤ x3 then ((spec_IsName.F ((rd_T79 ((rd_T64 x0 0).f0) x3).f0)).bind fun t184 => (if t184 = true then ((spec_l17Find.F x0 ((rd_T79 ((rd_T64 x0 0).f0) x3).f0)).bind fun t185 => (if t185 = x3 then ((spec_l13Ok.F ((rd_T79 ((rd_T64 x0 0).f0) x3).f1)).bind fun t186 => (if t186 = true then (spec_l17Ok.L0 x0 (wrap64 (x3 + 1))) else (some false))) else (some false))) else (some false))) else (none)) else (if (((rd_T64 x0 0).f0).length : Int) ≤ 8 then ((spec_l00In.f ((rd_T64 x0 0).f2) 1 5000).bind fun t178 => (if t178 = true then ((spec_l00In.f ((rd_T64 x0 0).f1) 0 ((rd_T64 x0 0).f2)).bind fun t181 => (some t181)) else (some false))) else (some false)) := by
  refine Lim.step (f := fun k => if x3 < (((rd_T64 x0 0).f0).length : Int) then (if 0 ≤ x3 then ((spec_IsName.f k ((rd_T79 ((rd_T64 x0 0).f0) x3).f0)).bind fun t184 => (if t184 = true then ((spec_l17Find.f k x0 ((rd_T79 ((rd_T64 x0 0).f0) x3).f0)).bind fun t185 => (if t185 = x3 then ((spec_l13Ok.f k ((rd_T79 ((rd_T64 x0 0).f0) x3).f1)).bind fun t186 => (if t186 = true then (spec_l17Ok.l0 k x0 (wrap64 (x3 + 1))) else (some false))) else (some false))) else (some false))) else (none)) else (if (((rd_T64 x0 0).f0).length : Int) ≤ 8 then ((spec_l00In.f ((rd_T64 x0 0).f2) 1 5000).bind fun t178 => (if t178 = true then ((spec_l00In.f ((rd_T64 x0 0).f1) 0 ((rd_T64 x0 0).f2)).bind fun t181 => (some t181)) else (some false))) else (some false))) (fun k => (spec_l17Ok.mono_l k) x0 x3) (fun k => by simp only [spec_l17Ok.l0]) ?_
  repeat' first
    | with_reducible exact Lim.const _
    | with_reducible exact spec_IsName.F_lim _
    | with_reducible exact spec_l13Ok.F_lim _
    | with_reducible exact spec_l17Find.F_lim _ _
    | with_reducible exact spec_l17Ok.L0_lim _ _
    | with_reducible refine Lim.ite ?_ ?_
    | with_reducible refine Lim.bind ?_ (fun _ => ?_)
theorem spec_l17Ok.F_eq (l0 : List (S64)) : spec_l17Ok.F l0 = if 0 < (l0.length : Int) then (spec_l17Ok.L0 l0 0) else (none) := by
  refine Lim.eq (g := fun k => spec_l17Ok.f k l0) ?_
  unfold spec_l17Ok.f
  repeat' first
    | with_reducible exact Lim.const _
    | with_reducible exact spec_l17Ok.L0_lim _ _
    | with_reducible refine Lim.ite ?_ ?_
    | with_reducible refine Lim.bind ?_ (fun _ => ?_)

noncomputable def spec_l17Box.L0 (x0 : List (S129)) (x6 : Int) (x191000 : Int) (x191001 : Int) (x193000 : Int) (x193001 : Int) : Option (Int × Int × Int × Int) := lim (fun k => spec_l17Box.l0 k x0 x6 x191000 x191001 x193000 x193001)
theorem spec_l17Box.L0_lim (x0 : List (S129)) (x6 : Int) (x191000 : Int) (x191001 : Int) (x193000 : Int) (x193001 : Int) : Lim (fun k => spec_l17Box.l0 k x0 x6 x191000 x191001 x193000 x193001) (spec_l17Box.L0 x0 x6 x191000 x191001 x193000 x193001) := Lim.of (fun k => (spec_l17Box.mono_l k) x0 x6 x191000 x191001 x193000 x193001)
noncomputable def spec_l17Box.F (l0 : List (S129)) : Option (Int × Int × Int × Int) := lim (fun k => spec_l17Box.f k l0)
theorem spec_l17Box.F_lim (l0 : List (S129)) : Lim (fun k => spec_l17Box.f k l0) (spec_l17Box.F l0) := Lim.of (fun k => spec_l17Box.mono l0 k)
theorem spec_l17Box.L0_eq (x0 : List (S129)) (x6 : Int) (x191000 : Int) (x191001 : Int) (x193000 : Int) (x193001 : Int) : spec_l17Box.L0 x0 x6 x191000 x191001 x193000 x193001 = if x6 < (x0.length : Int) then (if 0 ≤ x6 then ((spec_l00Min.f x191000 ((rd_T129 x0 x6).f0)).bind fun t194 => ((spec_l00Min.f x191001 ((rd_T129 x0 x6).f1)).bind fun t196 => ((spec_l00Max.f x193000 ((rd_T129 x0 x6).f0)).bind fun t198 => ((spec_l00Max.f x193001 ((rd_T129 x0 x6).f1)).bind fun t200 => (spec_l17Box.L0 x0 (wrap64 (x6 + 1)) t194 t196 t198 t200))))) else (none)) else (some (x191000, x191001, x193000, x193001)) := by
  refine Lim.step (f := fun k => if x6 < (x0.length : Int) then (if 0 ≤ x6 then ((spec_l00Min.f x191000 ((rd_T129 x0 x6).f0)).bind fun t194 => ((spec_l00Min.f x191001 ((rd_T129 x0 x6).f1)).bind fun t196 => ((spec_l00Max.f x193000 ((rd_T129 x0 x6).f0)).bind fun t198 => ((spec_l00Max.f x193001 ((rd_T129 x0 x6).f1)).bind fun t200 => (spec_l17Box.l0 k x0 (wrap64 (x6 + 1)) t194 t196 t198 t200))))) else (none)) else (some (x191000, x191001, x193000, x193001))) (fun k => (spec_l17Box.mono_l k) x0 x6 x191000 x191001 x193000 x193001) (fun k => by simp only [spec_l17Box.l0]) ?_
  repeat' first
    | with_reducible exact Lim.const _
    | with_reducible exact spec_l17Box.L0_lim _ _ _ _ _ _
    | with_reducible refine Lim.ite ?_ ?_
    | with_reducible refine Lim.bind ?_ (fun _ => ?_)
theorem spec_l17Box.F_eq (l0 : List (S129)) : spec_l17Box.F l0 = if 0 < (l0.length : Int) then (spec_l17Box.L0 l0 1 ((rd_T129 l0 0).f0) ((rd_T129 l0 0).f1) ((rd_T129 l0 0).f0) ((rd_T129 l0 0).f1)) else (none) := by
  refine Lim.eq (g := fun k => spec_l17Box.f k l0) ?_
  unfold spec_l17Box.f
  repeat' first
    | with_reducible exact Lim.const _
    | with_reducible exact spec_l17Box.L0_lim _ _ _ _ _ _
    | with_reducible refine Lim.ite ?_ ?_
    | with_reducible refine Lim.bind ?_ (fun _ => ?_)

noncomputable def spec_OverlapsOf.L0 (x4 : List (List Int)) (x5 : Int) (x202000 : List (S79)) (x202001 : Int) (x202002 : Int) : Option ((List (List Int)) × Int) := lim (fun k => spec_OverlapsOf.l0 k x4 x5 x202000 x202001 x202002)
theorem spec_OverlapsOf.L0_lim (x4 : List (List Int)) (x5 : Int) (x202000 : List (S79)) (x202001 : Int) (x202002 : Int) : Lim (fun k => spec_OverlapsOf.l0 k x4 x5 x202000 x202001 x202002) (spec_OverlapsOf.L0 x4 x5 x202000 x202001 x202002) := Lim.of (fun k => (spec_OverlapsOf.mono_l k).1 x4 x5 x202000 x202001 x202002)
noncomputable def spec_OverlapsOf.L1 (x4 : List (List Int)) (x5 : Int) (x8 : Int) (x202000 : List (S79)) (x202001 : Int) (x202002 : Int) (x213000 : Int) (x213001 : Int) (x214000 : Int) (x214001 : Int) : Option ((List (List Int)) × Int) := lim (fun k => spec_OverlapsOf.l1 k x4 x5 x8 x202000 x202001 x202002 x213000 x213001 x214000 x214001)
theorem spec_OverlapsOf.L1_lim (x4 : List (List Int)) (x5 : Int) (x8 : Int) (x202000 : List (S79)) (x202001 : Int) (x202002 : Int) (x213000 : Int) (x213001 : Int) (x214000 : Int) (x214001 : Int) : Lim (fun k => spec_OverlapsOf.l1 k x4 x5 x8 x202000 x202001 x202002 x213000 x213001 x214000 x214001) (spec_OverlapsOf.L1 x4 x5 x8 x202000 x202001 x202002 x213000 x213001 x214000 x214001) := Lim.of (fun k => (spec_OverlapsOf.mono_l k).2 x4 x5 x8 x202000 x202001 x202002 x213000 x213001 x214000 x214001)
noncomputable def spec_OverlapsOf.F (l0_0 : List (S79)) (a0_1 : Int) (a0_2 : Int) : Option ((List (List Int)) × Int) := lim (fun k => spec_OverlapsOf.f k l0_0 a0_1 a0_2)
theorem spec_OverlapsOf.F_lim (l0_0 : List (S79)) (a0_1 : Int) (a0_2 : Int) : Lim (fun k => spec_OverlapsOf.f k l0_0 a0_1 a0_2) (spec_OverlapsOf.F l0_0 a0_1 a0_2) := Lim.of (fun k => spec_OverlapsOf.mono l0_0 a0_1 a0_2 k)
theorem spec_OverlapsOf.L0_eq (x4 : List (List Int)) (x5 : Int) (x202000 : List (S79)) (x202001 : Int) (x202002 : Int) : spec_OverlapsOf.L0 x4 x5 x202000 x202001 x202002 = if x5 < (x202000.length : Int) then (if 0 ≤ x5 then ((spec_l17Box.F ((rd_T79 x202000 x5).f1)).bind fun bt208 => (spec_OverlapsOf.L1 x4 x5 (wrap64 (x5 + 1)) x202000 x202001 x202002 bt208.1 bt208.2.1 bt208.2.2.1 bt208.2.2.2)) else (none)) else (some (x4, 0)) := by
  refine Lim.step (f := fun k => if x5 < (x202000.length : Int) then (if 0 ≤ x5 then ((spec_l17Box.f k ((rd_T79 x202000 x5).f1)).bind fun bt208 => (spec_OverlapsOf.l1 k x4 x5 (wrap64 (x5 + 1)) x202000 x202001 x202002 bt208.1 bt208.2.1 bt208.2.2.1 bt208.2.2.2)) else (none)) else (some (x4, 0))) (fun k => (spec_OverlapsOf.mono_l k).1 x4 x5 x202000 x202001 x202002) (fun k => by simp only [spec_OverlapsOf.l0]) ?_
  repeat' first
    | with_reducible exact Lim.const _
    | with_reducible exact spec_OverlapsOf.L1_lim _ _ _ _ _ _ _ _ _ _
    | with_reducible exact spec_l17Box.F_lim _
    | with_reducible refine Lim.ite ?_ ?_
    | with_reducible refine Lim.bind ?_ (fun _ => ?_)
theorem spec_OverlapsOf.L1_eq (x4 : List (List Int)) (x5 : Int) (x8 : Int) (x202000 : List (S79)) (x202001 : Int) (x202002 : Int) (x213000 : Int) (x213001 : Int) (x214000 : Int) (x214001 : Int) : spec_OverlapsOf.L1 x4 x5 x8 x202000 x202001 x202002 x213000 x213001 x214000 x214001 = if x8 < (x202000.length : Int) then (if 0 ≤ x8 then ((spec_l17Box.F ((rd_T79 x202000 x8).f1)).bind fun bt215 => (if 0 ≤ x5 then (if x5 < (x202000.length : Int) then (if (rd_T79 x202000 x5).f2 = true then (if (rd_T79 x202000 x8).f2 = true then (if x213000 < bt215.2.2.1 then (if bt215.1 < x214000 then (if x213001 < bt215.2.2.2 then (if bt215.2.1 < x214001 then (if x4.length < 5864062014805 then (spec_OverlapsOf.L1 (x4 ++ [(([x5, x8] : List Int))]) x5 (wrap64 (x8 + 1)) x202000 x202001 x202002 x213000 x213001 x214000 x214001) else (none)) else (spec_OverlapsOf.L1 x4 x5 (wrap64 (x8 + 1)) x202000 x202001 x202002 x213000 x213001 x214000 x214001)) else (spec_OverlapsOf.L1 x4 x5 (wrap64 (x8 + 1)) x202000 x202001 x202002 x213000 x213001 x214000 x214001)) else (spec_OverlapsOf.L1 x4 x5 (wrap64 (x8 + 1)) x202000 x202001 x202002 x213000 x213001 x214000 x214001)) else (spec_OverlapsOf.L1 x4 x5 (wrap64 (x8 + 1)) x202000 x202001 x202002 x213000 x213001 x214000 x214001)) else (spec_OverlapsOf.L1 x4 x5 (wrap64 (x8 + 1)) x202000 x202001 x202002 x213000 x213001 x214000 x214001)) else (spec_OverlapsOf.L1 x4 x5 (wrap64 (x8 + 1)) x202000 x202001 x202002 x213000 x213001 x214000 x214001)) else (none)) else (none))) else (none)) else (spec_OverlapsOf.L0 x4 (wrap64 (x5 + 1)) x202000 x202001 x202002) := by
  refine Lim.step (f := fun k => if x8 < (x202000.length : Int) then (if 0 ≤ x8 then ((spec_l17Box.f k ((rd_T79 x202000 x8).f1)).bind fun bt215 => (if 0 ≤ x5 then (if x5 < (x202000.length : Int) then (if (rd_T79 x202000 x5).f2 = true then (if (rd_T79 x202000 x8).f2 = true then (if x213000 < bt215.2.2.1 then (if bt215.1 < x214000 then (if x213001 < bt215.2.2.2 then (if bt215.2.1 < x214001 then (if x4.length < 5864062014805 then (spec_OverlapsOf.l1 k (x4 ++ [(([x5, x8] : List Int))]) x5 (wrap64 (x8 + 1)) x202000 x202001 x202002 x213000 x213001 x214000 x214001) else (none)) else (spec_OverlapsOf.l1 k x4 x5 (wrap64 (x8 + 1)) x202000 x202001 x202002 x213000 x213001 x214000 x214001)) else (spec_OverlapsOf.l1 k x4 x5 (wrap64 (x8 + 1)) x202000 x202001 x202002 x213000 x213001 x214000 x214001)) else (spec_OverlapsOf.l1 k x4 x5 (wrap64 (x8 + 1)) x202000 x202001 x202002 x213000 x213001 x214000 x214001)) else (spec_OverlapsOf.l1 k x4 x5 (wrap64 (x8 + 1)) x202000 x202001 x202002 x213000 x213001 x214000 x214001)) else (spec_OverlapsOf.l1 k x4 x5 (wrap64 (x8 + 1)) x202000 x202001 x202002 x213000 x213001 x214000 x214001)) else (spec_OverlapsOf.l1 k x4 x5 (wrap64 (x8 + 1)) x202000 x202001 x202002 x213000 x213001 x214000 x214001)) else (none)) else (none))) else (none)) else (spec_OverlapsOf.l0 k x4 (wrap64 (x5 + 1)) x202000 x202001 x202002)) (fun k => (spec_OverlapsOf.mono_l k).2 x4 x5 x8 x202000 x202001 x202002 x213000 x213001 x214000 x214001) (fun k => by simp only [spec_OverlapsOf.l1]) ?_
  repeat' first
    | with_reducible exact Lim.const _
    | with_reducible exact spec_OverlapsOf.L0_lim _ _ _ _ _
    | with_reducible exact spec_OverlapsOf.L1_lim _ _ _ _ _ _ _ _ _ _
    | with_reducible exact spec_l17Box.F_lim _
    | with_reducible refine Lim.ite ?_ ?_
    | with_reducible refine Lim.bind ?_ (fun _ => ?_)
theorem spec_OverlapsOf.F_eq (l0_0 : List (S79)) (a0_1 : Int) (a0_2 : Int) : spec_OverlapsOf.F l0_0 a0_1 a0_2 = (spec_l17Ok.F [(⟨l0_0, a0_1, a0_2⟩ : S64)]).bind fun t203 => (if t203 = true then (spec_OverlapsOf.L0 (([] : List (List Int))) 0 l0_0 a0_1 a0_2) else (some (([] : List (List Int)), 1))) := by
  refine Lim.eq (g := fun k => spec_OverlapsOf.f k l0_0 a0_1 a0_2) ?_
  unfold spec_OverlapsOf.f
  repeat' first
    | with_reducible exact Lim.const _
    | with_reducible exact spec_OverlapsOf.L0_lim _ _ _ _ _
    | with_reducible exact spec_l17Ok.F_lim _
    | with_reducible refine Lim.ite ?_ ?_
    | with_reducible refine Lim.bind ?_ (fun _ => ?_)

noncomputable def laws_toSpotS.L0 (x0 : List (S176)) (x3 : List (S129)) (x4 : Int) : Option ((List (S129))) := lim (fun k => laws_toSpotS.l0 k x0 x3 x4)
theorem laws_toSpotS.L0_lim (x0 : List (S176)) (x3 : List (S129)) (x4 : Int) : Lim (fun k => laws_toSpotS.l0 k x0 x3 x4) (laws_toSpotS.L0 x0 x3 x4) := Lim.of (fun k => (laws_toSpotS.mono_l k) x0 x3 x4)
noncomputable def laws_toSpotS.F (l0 : List (S176)) : Option ((List (S129))) := lim (fun k => laws_toSpotS.f k l0)
theorem laws_toSpotS.F_lim (l0 : List (S176)) : Lim (fun k => laws_toSpotS.f k l0) (laws_toSpotS.F l0) := Lim.of (fun k => laws_toSpotS.mono l0 k)
theorem laws_toSpotS.L0_eq (x0 : List (S176)) (x3 : List (S129)) (x4 : Int) : laws_toSpotS.L0 x0 x3 x4 = if x4 < (x0.length : Int) then (if 0 ≤ x4 then ((laws_toSpot.f ((rd_T176 x0 x4).f0) ((rd_T176 x0 x4).f1)).bind fun bt236 => (if x4 < (x3.length : Int) then (laws_toSpotS.L0 x0 (x3.set (x4 : Int).toNat (⟨bt236.1, bt236.2⟩ : S129)) (wrap64 (x4 + 1))) else (none))) else (none)) else (some x3) := by
  refine Lim.step (f := fun k => if x4 < (x0.length : Int) then (if 0 ≤ x4 then ((laws_toSpot.f ((rd_T176 x0 x4).f0) ((rd_T176 x0 x4).f1)).bind fun bt236 => (if x4 < (x3.length : Int) then (laws_toSpotS.l0 k x0 (x3.set (x4 : Int).toNat (⟨bt236.1, bt236.2⟩ : S129)) (wrap64 (x4 + 1))) else (none))) else (none)) else (some x3)) (fun k => (laws_toSpotS.mono_l k) x0 x3 x4) (fun k => by simp only [laws_toSpotS.l0]) ?_
  repeat' first
    | with_reducible exact Lim.const _
    | with_reducible exact laws_toSpotS.L0_lim _ _ _
    | with_reducible refine Lim.ite ?_ ?_
    | with_reducible refine Lim.bind ?_ (fun _ => ?_)
theorem laws_toSpotS.F_eq (l0 : List (S176)) : laws_toSpotS.F l0 = if 0 ≤ (l0.length : Int) then (if ((l0.length : Int) : Int).toNat ≤ 17592186044416 then (laws_toSpotS.L0 l0 (List.replicate ((l0.length : Int) : Int).toNat z129) 0) else (none)) else (none) := by
  refine Lim.eq (g := fun k => laws_toSpotS.f k l0) ?_
  unfold laws_toSpotS.f
  repeat' first
    | with_reducible exact Lim.const _
    | with_reducible exact laws_toSpotS.L0_lim _ _ _
    | with_reducible refine Lim.ite ?_ ?_
    | with_reducible refine Lim.bind ?_ (fun _ => ?_)

noncomputable def laws_toHung.F (a0_0 : ByteArray) (l0_1 : List (S176)) (a0_2 : Bool) : Option (ByteArray × (List (S129)) × Bool) := lim (fun k => laws_toHung.f k a0_0 l0_1 a0_2)
theorem laws_toHung.F_lim (a0_0 : ByteArray) (l0_1 : List (S176)) (a0_2 : Bool) : Lim (fun k => laws_toHung.f k a0_0 l0_1 a0_2) (laws_toHung.F a0_0 l0_1 a0_2) := Lim.of (fun k => laws_toHung.mono a0_0 l0_1 a0_2 k)
theorem laws_toHung.F_eq (a0_0 : ByteArray) (l0_1 : List (S176)) (a0_2 : Bool) : laws_toHung.F a0_0 l0_1 a0_2 = (laws_toSpotS.F l0_1).bind fun t242 => (some (a0_0, t242, a0_2)) := by
  refine Lim.eq (g := fun k => laws_toHung.f k a0_0 l0_1 a0_2) ?_
  unfold laws_toHung.f
  repeat' first
    | with_reducible exact Lim.const _
    | with_reducible exact laws_toSpotS.F_lim _
    | with_reducible refine Lim.ite ?_ ?_
    | with_reducible refine Lim.bind ?_ (fun _ => ?_)

noncomputable def laws_toHungS.L0 (x0 : List (S74)) (x3 : List (S79)) (x4 : Int) : Option ((List (S79))) := lim (fun k => laws_toHungS.l0 k x0 x3 x4)
theorem laws_toHungS.L0_lim (x0 : List (S74)) (x3 : List (S79)) (x4 : Int) : Lim (fun k => laws_toHungS.l0 k x0 x3 x4) (laws_toHungS.L0 x0 x3 x4) := Lim.of (fun k => (laws_toHungS.mono_l k) x0 x3 x4)
noncomputable def laws_toHungS.F (l0 : List (S74)) : Option ((List (S79))) := lim (fun k => laws_toHungS.f k l0)
theorem laws_toHungS.F_lim (l0 : List (S74)) : Lim (fun k => laws_toHungS.f k l0) (laws_toHungS.F l0) := Lim.of (fun k => laws_toHungS.mono l0 k)
theorem laws_toHungS.L0_eq (x0 : List (S74)) (x3 : List (S79)) (x4 : Int) : laws_toHungS.L0 x0 x3 x4 = if x4 < (x0.length : Int) then (if 0 ≤ x4 then ((laws_toHung.F ((rd_T74 x0 x4).f0) ((rd_T74 x0 x4).f1) ((rd_T74 x0 x4).f2)).bind fun bt249 => (if x4 < (x3.length : Int) then (laws_toHungS.L0 x0 (x3.set (x4 : Int).toNat (⟨bt249.1, bt249.2.1, bt249.2.2⟩ : S79)) (wrap64 (x4 + 1))) else (none))) else (none)) else (some x3) := by
  refine Lim.step (f := fun k => if x4 < (x0.length : Int) then (if 0 ≤ x4 then ((laws_toHung.f k ((rd_T74 x0 x4).f0) ((rd_T74 x0 x4).f1) ((rd_T74 x0 x4).f2)).bind fun bt249 => (if x4 < (x3.length : Int) then (laws_toHungS.l0 k x0 (x3.set (x4 : Int).toNat (⟨bt249.1, bt249.2.1, bt249.2.2⟩ : S79)) (wrap64 (x4 + 1))) else (none))) else (none)) else (some x3)) (fun k => (laws_toHungS.mono_l k) x0 x3 x4) (fun k => by simp only [laws_toHungS.l0]) ?_
  repeat' first
    | with_reducible exact Lim.const _
    | with_reducible exact laws_toHung.F_lim _ _ _
    | with_reducible exact laws_toHungS.L0_lim _ _ _
    | with_reducible refine Lim.ite ?_ ?_
    | with_reducible refine Lim.bind ?_ (fun _ => ?_)
theorem laws_toHungS.F_eq (l0 : List (S74)) : laws_toHungS.F l0 = if 0 ≤ (l0.length : Int) then (if ((l0.length : Int) : Int).toNat ≤ 5864062014805 then (laws_toHungS.L0 l0 (List.replicate ((l0.length : Int) : Int).toNat z79) 0) else (none)) else (none) := by
  refine Lim.eq (g := fun k => laws_toHungS.f k l0) ?_
  unfold laws_toHungS.f
  repeat' first
    | with_reducible exact Lim.const _
    | with_reducible exact laws_toHungS.L0_lim _ _ _
    | with_reducible refine Lim.ite ?_ ?_
    | with_reducible refine Lim.bind ?_ (fun _ => ?_)

noncomputable def laws_toPlan.F (l0_0 : List (S74)) (a0_1 : Int) (a0_2 : Int) : Option ((List (S79)) × Int × Int) := lim (fun k => laws_toPlan.f k l0_0 a0_1 a0_2)
theorem laws_toPlan.F_lim (l0_0 : List (S74)) (a0_1 : Int) (a0_2 : Int) : Lim (fun k => laws_toPlan.f k l0_0 a0_1 a0_2) (laws_toPlan.F l0_0 a0_1 a0_2) := Lim.of (fun k => laws_toPlan.mono l0_0 a0_1 a0_2 k)
theorem laws_toPlan.F_eq (l0_0 : List (S74)) (a0_1 : Int) (a0_2 : Int) : laws_toPlan.F l0_0 a0_1 a0_2 = (laws_toHungS.F l0_0).bind fun t258 => (some (t258, a0_1, a0_2)) := by
  refine Lim.eq (g := fun k => laws_toPlan.f k l0_0 a0_1 a0_2) ?_
  unfold laws_toPlan.f
  repeat' first
    | with_reducible exact Lim.const _
    | with_reducible exact laws_toHungS.F_lim _
    | with_reducible refine Lim.ite ?_ ?_
    | with_reducible refine Lim.bind ?_ (fun _ => ?_)

noncomputable def impl_IsName.J0 (x0 : ByteArray) (x21 : Bool) : Option (Bool) := lim (fun k => impl_IsName.j0 k x0 x21)
theorem impl_IsName.J0_lim (x0 : ByteArray) (x21 : Bool) : Lim (fun k => impl_IsName.j0 k x0 x21) (impl_IsName.J0 x0 x21) := Lim.of (fun k => (impl_IsName.mono_l k).1 x0 x21)
noncomputable def impl_IsName.L0 (x0 : ByteArray) (x3 : Int) : Option (Bool) := lim (fun k => impl_IsName.l0 k x0 x3)
theorem impl_IsName.L0_lim (x0 : ByteArray) (x3 : Int) : Lim (fun k => impl_IsName.l0 k x0 x3) (impl_IsName.L0 x0 x3) := Lim.of (fun k => (impl_IsName.mono_l k).2 x0 x3)
noncomputable def impl_IsName.F (a0 : ByteArray) : Option (Bool) := lim (fun k => impl_IsName.f k a0)
theorem impl_IsName.F_lim (a0 : ByteArray) : Lim (fun k => impl_IsName.f k a0) (impl_IsName.F a0) := Lim.of (fun k => impl_IsName.mono a0 k)
theorem impl_IsName.J0_eq (x0 : ByteArray) (x21 : Bool) : impl_IsName.J0 x0 x21 = if x21 = true then (some false) else (impl_IsName.L0 x0 0) := by
  refine Lim.step (f := fun k => if x21 = true then (some false) else (impl_IsName.l0 k x0 0)) (fun k => (impl_IsName.mono_l k).1 x0 x21) (fun k => by simp only [impl_IsName.j0]) ?_
  repeat' first
    | with_reducible exact Lim.const _
    | with_reducible exact impl_IsName.L0_lim _ _
    | with_reducible refine Lim.ite ?_ ?_
    | with_reducible refine Lim.bind ?_ (fun _ => ?_)
theorem impl_IsName.L0_eq (x0 : ByteArray) (x3 : Int) : impl_IsName.L0 x0 x3 = if x3 < (x0.size : Int) then (if 0 ≤ x3 then (if (bt x0 x3) < 97 then (if (bt x0 x3) < 48 then (if (bt x0 x3) = 45 then (impl_IsName.L0 x0 (wrap64 (x3 + 1))) else (some false)) else (if (bt x0 x3) > 57 then (if (bt x0 x3) = 45 then (impl_IsName.L0 x0 (wrap64 (x3 + 1))) else (some false)) else (impl_IsName.L0 x0 (wrap64 (x3 + 1))))) else (if (bt x0 x3) > 122 then (if (bt x0 x3) < 48 then (if (bt x0 x3) = 45 then (impl_IsName.L0 x0 (wrap64 (x3 + 1))) else (some false)) else (if (bt x0 x3) > 57 then (if (bt x0 x3) = 45 then (impl_IsName.L0 x0 (wrap64 (x3 + 1))) else (some false)) else (impl_IsName.L0 x0 (wrap64 (x3 + 1))))) else (impl_IsName.L0 x0 (wrap64 (x3 + 1))))) else (none)) else (some true) := by
  refine Lim.step (f := fun k => if x3 < (x0.size : Int) then (if 0 ≤ x3 then (if (bt x0 x3) < 97 then (if (bt x0 x3) < 48 then (if (bt x0 x3) = 45 then (impl_IsName.l0 k x0 (wrap64 (x3 + 1))) else (some false)) else (if (bt x0 x3) > 57 then (if (bt x0 x3) = 45 then (impl_IsName.l0 k x0 (wrap64 (x3 + 1))) else (some false)) else (impl_IsName.l0 k x0 (wrap64 (x3 + 1))))) else (if (bt x0 x3) > 122 then (if (bt x0 x3) < 48 then (if (bt x0 x3) = 45 then (impl_IsName.l0 k x0 (wrap64 (x3 + 1))) else (some false)) else (if (bt x0 x3) > 57 then (if (bt x0 x3) = 45 then (impl_IsName.l0 k x0 (wrap64 (x3 + 1))) else (some false)) else (impl_IsName.l0 k x0 (wrap64 (x3 + 1))))) else (impl_IsName.l0 k x0 (wrap64 (x3 + 1))))) else (none)) else (some true)) (fun k => (impl_IsName.mono_l k).2 x0 x3) (fun k => by simp only [impl_IsName.l0]) ?_
  repeat' first
    | with_reducible exact Lim.const _
    | with_reducible exact impl_IsName.L0_lim _ _
    | with_reducible refine Lim.ite ?_ ?_
    | with_reducible refine Lim.bind ?_ (fun _ => ?_)
theorem impl_IsName.F_eq (a0 : ByteArray) : impl_IsName.F a0 = if (a0.size : Int) < 1 then (impl_IsName.J0 a0 true) else (if (a0.size : Int) > 12 then (impl_IsName.J0 a0 true) else (if 0 < (a0.size : Int) then (if (bt a0 0) < 97 then (impl_IsName.J0 a0 true) else (impl_IsName.J0 a0 (decide ((bt a0 0) > 122)))) else (none))) := by
  refine Lim.eq (g := fun k => impl_IsName.f k a0) ?_
  unfold impl_IsName.f
  repeat' first
    | with_reducible exact Lim.const _
    | with_reducible exact impl_IsName.J0_lim _ _
    | with_reducible refine Lim.ite ?_ ?_
    | with_reducible refine Lim.bind ?_ (fun _ => ?_)

noncomputable def impl_edgesMeet.J0 (x9 : Int) (x10 : Int) (x11 : Int) (x12 : Int) (x42 : Bool) (x270000 : Int) (x270001 : Int) (x271000 : Int) (x271001 : Int) (x272000 : Int) (x272001 : Int) (x273000 : Int) (x273001 : Int) : Option (Bool) := lim (fun k => impl_edgesMeet.j0 k x9 x10 x11 x12 x42 x270000 x270001 x271000 x271001 x272000 x272001 x273000 x273001)
theorem impl_edgesMeet.J0_lim (x9 : Int) (x10 : Int) (x11 : Int) (x12 : Int) (x42 : Bool) (x270000 : Int) (x270001 : Int) (x271000 : Int) (x271001 : Int) (x272000 : Int) (x272001 : Int) (x273000 : Int) (x273001 : Int) : Lim (fun k => impl_edgesMeet.j0 k x9 x10 x11 x12 x42 x270000 x270001 x271000 x271001 x272000 x272001 x273000 x273001) (impl_edgesMeet.J0 x9 x10 x11 x12 x42 x270000 x270001 x271000 x271001 x272000 x272001 x273000 x273001) := Lim.of (fun k => (impl_edgesMeet.mono_l k) x9 x10 x11 x12 x42 x270000 x270001 x271000 x271001 x272000 x272001 x273000 x273001)
noncomputable def impl_edgesMeet.F (a0_0 : Int) (a0_1 : Int) (a1_0 : Int) (a1_1 : Int) (a2_0 : Int) (a2_1 : Int) (a3_0 : Int) (a3_1 : Int) : Option (Bool) := lim (fun k => impl_edgesMeet.f k a0_0 a0_1 a1_0 a1_1 a2_0 a2_1 a3_0 a3_1)
theorem impl_edgesMeet.F_lim (a0_0 : Int) (a0_1 : Int) (a1_0 : Int) (a1_1 : Int) (a2_0 : Int) (a2_1 : Int) (a3_0 : Int) (a3_1 : Int) : Lim (fun k => impl_edgesMeet.f k a0_0 a0_1 a1_0 a1_1 a2_0 a2_1 a3_0 a3_1) (impl_edgesMeet.F a0_0 a0_1 a1_0 a1_1 a2_0 a2_1 a3_0 a3_1) := Lim.of (fun k => impl_edgesMeet.mono a0_0 a0_1 a1_0 a1_1 a2_0 a2_1 a3_0 a3_1 k)
theorem impl_edgesMeet.J0_eq (x9 : Int) (x10 : Int) (x11 : Int) (x12 : Int) (x42 : Bool) (x270000 : Int) (x270001 : Int) (x271000 : Int) (x271001 : Int) (x272000 : Int) (x272001 : Int) (x273000 : Int) (x273001 : Int) : impl_edgesMeet.J0 x9 x10 x11 x12 x42 x270000 x270001 x271000 x271001 x272000 x272001 x273000 x273001 = if x42 = true then (some true) else (if x9 = 0 then ((impl_between.f x270000 x270001 x271000 x271001 x272000 x272001).bind fun t281 => (if t281 = true then (some true) else (if x10 = 0 then ((impl_between.f x270000 x270001 x271000 x271001 x273000 x273001).bind fun t282 => (if t282 = true then (some true) else (if x11 = 0 then ((impl_between.f x272000 x272001 x273000 x273001 x270000 x270001).bind fun t283 => (if t283 = true then (some true) else (if x12 = 0 then ((impl_between.f x272000 x272001 x273000 x273001 x271000 x271001).bind fun t284 => (some t284)) else (some false)))) else (if x12 = 0 then ((impl_between.f x272000 x272001 x273000 x273001 x271000 x271001).bind fun t285 => (some t285)) else (some false))))) else (if x11 = 0 then ((impl_between.f x272000 x272001 x273000 x273001 x270000 x270001).bind fun t286 => (if t286 = true then (some true) else (if x12 = 0 then ((impl_between.f x272000 x272001 x273000 x273001 x271000 x271001).bind fun t287 => (some t287)) else (some false)))) else (if x12 = 0 then ((impl_between.f x272000 x272001 x273000 x273001 x271000 x271001).bind fun t288 => (some t288)) else (some false)))))) else (if x10 = 0 then ((impl_between.f x270000 x270001 x271000 x271001 x273000 x273001).bind fun t289 => (if t289 = true then (some true) else (if x11 = 0 then ((impl_between.f x272000 x272001 x273000 x273001 x270000 x270001).bind fun t290 => (if t290 = true then (some true) else (if x12 = 0 then ((impl_between.f x272000 x272001 x273000 x273001 x271000 x271001).bind fun t291 => (some t291)) else (some false)))) else (if x12 = 0 then ((impl_between.f x272000 x272001 x273000 x273001 x271000 x271001).bind fun t292 => (some t292)) else (some false))))) else (if x11 = 0 then ((impl_between.f x272000 x272001 x273000 x273001 x270000 x270001).bind fun t293 => (if t293 = true then (some true) else (if x12 = 0 then ((impl_between.f x272000 x272001 x273000 x273001 x271000 x271001).bind fun t294 => (some t294)) else (some false)))) else (if x12 = 0 then ((impl_between.f x272000 x272001 x273000 x273001 x271000 x271001).bind fun t295 => (some t295)) else (some false))))) := by
  refine Lim.step (f := fun k => if x42 = true then (some true) else (if x9 = 0 then ((impl_between.f x270000 x270001 x271000 x271001 x272000 x272001).bind fun t281 => (if t281 = true then (some true) else (if x10 = 0 then ((impl_between.f x270000 x270001 x271000 x271001 x273000 x273001).bind fun t282 => (if t282 = true then (some true) else (if x11 = 0 then ((impl_between.f x272000 x272001 x273000 x273001 x270000 x270001).bind fun t283 => (if t283 = true then (some true) else (if x12 = 0 then ((impl_between.f x272000 x272001 x273000 x273001 x271000 x271001).bind fun t284 => (some t284)) else (some false)))) else (if x12 = 0 then ((impl_between.f x272000 x272001 x273000 x273001 x271000 x271001).bind fun t285 => (some t285)) else (some false))))) else (if x11 = 0 then ((impl_between.f x272000 x272001 x273000 x273001 x270000 x270001).bind fun t286 => (if t286 = true then (some true) else (if x12 = 0 then ((impl_between.f x272000 x272001 x273000 x273001 x271000 x271001).bind fun t287 => (some t287)) else (some false)))) else (if x12 = 0 then ((impl_between.f x272000 x272001 x273000 x273001 x271000 x271001).bind fun t288 => (some t288)) else (some false)))))) else (if x10 = 0 then ((impl_between.f x270000 x270001 x271000 x271001 x273000 x273001).bind fun t289 => (if t289 = true then (some true) else (if x11 = 0 then ((impl_between.f x272000 x272001 x273000 x273001 x270000 x270001).bind fun t290 => (if t290 = true then (some true) else (if x12 = 0 then ((impl_between.f x272000 x272001 x273000 x273001 x271000 x271001).bind fun t291 => (some t291)) else (some false)))) else (if x12 = 0 then ((impl_between.f x272000 x272001 x273000 x273001 x271000 x271001).bind fun t292 => (some t292)) else (some false))))) else (if x11 = 0 then ((impl_between.f x272000 x272001 x273000 x273001 x270000 x270001).bind fun t293 => (if t293 = true then (some true) else (if x12 = 0 then ((impl_between.f x272000 x272001 x273000 x273001 x271000 x271001).bind fun t294 => (some t294)) else (some false)))) else (if x12 = 0 then ((impl_between.f x272000 x272001 x273000 x273001 x271000 x271001).bind fun t295 => (some t295)) else (some false)))))) (fun k => (impl_edgesMeet.mono_l k) x9 x10 x11 x12 x42 x270000 x270001 x271000 x271001 x272000 x272001 x273000 x273001) (fun k => by simp only [impl_edgesMeet.j0]) ?_
  repeat' first
    | with_reducible exact Lim.const _
    | with_reducible refine Lim.ite ?_ ?_
    | with_reducible refine Lim.bind ?_ (fun _ => ?_)
theorem impl_edgesMeet.F_eq (a0_0 : Int) (a0_1 : Int) (a1_0 : Int) (a1_1 : Int) (a2_0 : Int) (a2_1 : Int) (a3_0 : Int) (a3_1 : Int) : impl_edgesMeet.F a0_0 a0_1 a1_0 a1_1 a2_0 a2_1 a3_0 a3_1 = (impl_turnAt.f a0_0 a0_1 a1_0 a1_1 a2_0 a2_1).bind fun t273 => ((impl_turnAt.f a0_0 a0_1 a1_0 a1_1 a3_0 a3_1).bind fun t274 => ((impl_turnAt.f a2_0 a2_1 a3_0 a3_1 a0_0 a0_1).bind fun t275 => ((impl_turnAt.f a2_0 a2_1 a3_0 a3_1 a1_0 a1_1).bind fun t276 => ((impl_sign.f t273).bind fun t277 => ((impl_sign.f t274).bind fun t278 => (if (wrap64 (t277 * t278)) < 0 then ((impl_sign.f t275).bind fun t279 => ((impl_sign.f t276).bind fun t280 => (impl_edgesMeet.J0 t273 t274 t275 t276 (decide ((wrap64 (t279 * t280)) < 0)) a0_0 a0_1 a1_0 a1_1 a2_0 a2_1 a3_0 a3_1))) else (impl_edgesMeet.J0 t273 t274 t275 t276 false a0_0 a0_1 a1_0 a1_1 a2_0 a2_1 a3_0 a3_1))))))) := by
  refine Lim.eq (g := fun k => impl_edgesMeet.f k a0_0 a0_1 a1_0 a1_1 a2_0 a2_1 a3_0 a3_1) ?_
  unfold impl_edgesMeet.f
  repeat' first
    | with_reducible exact Lim.const _
    | with_reducible exact impl_edgesMeet.J0_lim _ _ _ _ _ _ _ _ _ _ _ _ _
    | with_reducible refine Lim.ite ?_ ?_
    | with_reducible refine Lim.bind ?_ (fun _ => ?_)

noncomputable def impl_twiceSail.L0 (x0 : List (S129)) (x3 : Int) (x7 : List (S129)) (x8 : Int) (x9 : Int) : Option (Int) := lim (fun k => impl_twiceSail.l0 k x0 x3 x7 x8 x9)
theorem impl_twiceSail.L0_lim (x0 : List (S129)) (x3 : Int) (x7 : List (S129)) (x8 : Int) (x9 : Int) : Lim (fun k => impl_twiceSail.l0 k x0 x3 x7 x8 x9) (impl_twiceSail.L0 x0 x3 x7 x8 x9) := Lim.of (fun k => (impl_twiceSail.mono_l k) x0 x3 x7 x8 x9)
noncomputable def impl_twiceSail.F (l0 : List (S129)) : Option (Int) := lim (fun k => impl_twiceSail.f k l0)
theorem impl_twiceSail.F_lim (l0 : List (S129)) : Lim (fun k => impl_twiceSail.f k l0) (impl_twiceSail.F l0) := Lim.of (fun k => impl_twiceSail.mono l0 k)
theorem impl_twiceSail.L0_eq (x0 : List (S129)) (x3 : Int) (x7 : List (S129)) (x8 : Int) (x9 : Int) : impl_twiceSail.L0 x0 x3 x7 x8 x9 = if x9 < x8 then (if 0 ≤ x9 then (if x9 < (x7.length : Int) then (if (x0.length : Int) = 0 then (none) else (if 0 ≤ (Int.tmod (wrap64 (x9 + 1)) (x0.length : Int)) then (if (Int.tmod (wrap64 (x9 + 1)) (x0.length : Int)) < (x0.length : Int) then (impl_twiceSail.L0 x0 (wrap64 (x3 + (wrap64 ((wrap64 (((rd_T129 x7 x9).f0) * ((rd_T129 x0 (Int.tmod (wrap64 (x9 + 1)) (x0.length : Int))).f1))) - (wrap64 (((rd_T129 x0 (Int.tmod (wrap64 (x9 + 1)) (x0.length : Int))).f0) * ((rd_T129 x7 x9).f1))))))) x7 x8 (wrap64 (x9 + 1))) else (none)) else (none))) else (none)) else (none)) else (some x3) := by
  refine Lim.step (f := fun k => if x9 < x8 then (if 0 ≤ x9 then (if x9 < (x7.length : Int) then (if (x0.length : Int) = 0 then (none) else (if 0 ≤ (Int.tmod (wrap64 (x9 + 1)) (x0.length : Int)) then (if (Int.tmod (wrap64 (x9 + 1)) (x0.length : Int)) < (x0.length : Int) then (impl_twiceSail.l0 k x0 (wrap64 (x3 + (wrap64 ((wrap64 (((rd_T129 x7 x9).f0) * ((rd_T129 x0 (Int.tmod (wrap64 (x9 + 1)) (x0.length : Int))).f1))) - (wrap64 (((rd_T129 x0 (Int.tmod (wrap64 (x9 + 1)) (x0.length : Int))).f0) * ((rd_T129 x7 x9).f1))))))) x7 x8 (wrap64 (x9 + 1))) else (none)) else (none))) else (none)) else (none)) else (some x3)) (fun k => (impl_twiceSail.mono_l k) x0 x3 x7 x8 x9) (fun k => by simp only [impl_twiceSail.l0]) ?_
  repeat' first
    | with_reducible exact Lim.const _
    | with_reducible exact impl_twiceSail.L0_lim _ _ _ _ _
    | with_reducible refine Lim.ite ?_ ?_
    | with_reducible refine Lim.bind ?_ (fun _ => ?_)
theorem impl_twiceSail.F_eq (l0 : List (S129)) : impl_twiceSail.F l0 = impl_twiceSail.L0 l0 0 l0 (l0.length : Int) 0 := by
  refine Lim.eq (g := fun k => impl_twiceSail.f k l0) ?_
  unfold impl_twiceSail.f
  repeat' first
    | with_reducible exact Lim.const _
    | with_reducible exact impl_twiceSail.L0_lim _ _ _ _ _
    | with_reducible refine Lim.ite ?_ ?_
    | with_reducible refine Lim.bind ?_ (fun _ => ?_)

noncomputable def impl_ValidSail.J0 (x0 : List (S129)) (x3 : Int) (x16 : Bool) : Option (Bool) := lim (fun k => impl_ValidSail.j0 k x0 x3 x16)
theorem impl_ValidSail.J0_lim (x0 : List (S129)) (x3 : Int) (x16 : Bool) : Lim (fun k => impl_ValidSail.j0 k x0 x3 x16) (impl_ValidSail.J0 x0 x3 x16) := Lim.of (fun k => (impl_ValidSail.mono_l k).1 x0 x3 x16)
noncomputable def impl_ValidSail.L0 (x0 : List (S129)) (x3 : Int) (x17 : List (S129)) (x18 : Int) (x19 : Int) : Option (Bool) := lim (fun k => impl_ValidSail.l0 k x0 x3 x17 x18 x19)
theorem impl_ValidSail.L0_lim (x0 : List (S129)) (x3 : Int) (x17 : List (S129)) (x18 : Int) (x19 : Int) : Lim (fun k => impl_ValidSail.l0 k x0 x3 x17 x18 x19) (impl_ValidSail.L0 x0 x3 x17 x18 x19) := Lim.of (fun k => (impl_ValidSail.mono_l k).2.1 x0 x3 x17 x18 x19)
noncomputable def impl_ValidSail.L1 (x0 : List (S129)) (x3 : Int) (x35 : Int) (x36 : Int) : Option (Bool) := lim (fun k => impl_ValidSail.l1 k x0 x3 x35 x36)
theorem impl_ValidSail.L1_lim (x0 : List (S129)) (x3 : Int) (x35 : Int) (x36 : Int) : Lim (fun k => impl_ValidSail.l1 k x0 x3 x35 x36) (impl_ValidSail.L1 x0 x3 x35 x36) := Lim.of (fun k => (impl_ValidSail.mono_l k).2.2.1 x0 x3 x35 x36)
noncomputable def impl_ValidSail.L2 (x0 : List (S129)) (x3 : Int) (x61 : Int) (x62 : Int) : Option (Bool) := lim (fun k => impl_ValidSail.l2 k x0 x3 x61 x62)
theorem impl_ValidSail.L2_lim (x0 : List (S129)) (x3 : Int) (x61 : Int) (x62 : Int) : Lim (fun k => impl_ValidSail.l2 k x0 x3 x61 x62) (impl_ValidSail.L2 x0 x3 x61 x62) := Lim.of (fun k => (impl_ValidSail.mono_l k).2.2.2.1 x0 x3 x61 x62)
noncomputable def impl_ValidSail.L3 (x0 : List (S129)) (x3 : Int) (x7 : Int) (x8 : Int) (x61 : Int) (x62 : Int) : Option (Bool) := lim (fun k => impl_ValidSail.l3 k x0 x3 x7 x8 x61 x62)
theorem impl_ValidSail.L3_lim (x0 : List (S129)) (x3 : Int) (x7 : Int) (x8 : Int) (x61 : Int) (x62 : Int) : Lim (fun k => impl_ValidSail.l3 k x0 x3 x7 x8 x61 x62) (impl_ValidSail.L3 x0 x3 x7 x8 x61 x62) := Lim.of (fun k => (impl_ValidSail.mono_l k).2.2.2.2 x0 x3 x7 x8 x61 x62)
noncomputable def impl_ValidSail.F (l0 : List (S129)) : Option (Bool) := lim (fun k => impl_ValidSail.f k l0)
theorem impl_ValidSail.F_lim (l0 : List (S129)) : Lim (fun k => impl_ValidSail.f k l0) (impl_ValidSail.F l0) := Lim.of (fun k => impl_ValidSail.mono l0 k)
theorem impl_ValidSail.J0_eq (x0 : List (S129)) (x3 : Int) (x16 : Bool) : impl_ValidSail.J0 x0 x3 x16 = if x16 = true then (some false) else (impl_ValidSail.L0 x0 x3 x0 (x0.length : Int) 0) := by
  refine Lim.step (f := fun k => if x16 = true then (some false) else (impl_ValidSail.l0 k x0 x3 x0 (x0.length : Int) 0)) (fun k => (impl_ValidSail.mono_l k).1 x0 x3 x16) (fun k => by simp only [impl_ValidSail.j0]) ?_
  repeat' first
    | with_reducible exact Lim.const _
    | with_reducible exact impl_ValidSail.L0_lim _ _ _ _ _
    | with_reducible refine Lim.ite ?_ ?_
    | with_reducible refine Lim.bind ?_ (fun _ => ?_)
theorem impl_ValidSail.L0_eq (x0 : List (S129)) (x3 : Int) (x17 : List (S129)) (x18 : Int) (x19 : Int) : impl_ValidSail.L0 x0 x3 x17 x18 x19 = if x19 < x18 then (if 0 ≤ x19 then (if x19 < (x17.length : Int) then ((impl_within.f ((rd_T129 x17 x19).f0) 0 2000).bind fun t302 => (if t302 = true then ((impl_within.f ((rd_T129 x17 x19).f1) 0 2000).bind fun t303 => (if t303 = true then (impl_ValidSail.L0 x0 x3 x17 x18 (wrap64 (x19 + 1))) else (some false))) else (some false))) else (none)) else (none)) else (impl_ValidSail.L1 x0 x3 (x0.length : Int) 0) := by
  refine Lim.step (f := fun k => if x19 < x18 then (if 0 ≤ x19 then (if x19 < (x17.length : Int) then ((impl_within.f ((rd_T129 x17 x19).f0) 0 2000).bind fun t302 => (if t302 = true then ((impl_within.f ((rd_T129 x17 x19).f1) 0 2000).bind fun t303 => (if t303 = true then (impl_ValidSail.l0 k x0 x3 x17 x18 (wrap64 (x19 + 1))) else (some false))) else (some false))) else (none)) else (none)) else (impl_ValidSail.l1 k x0 x3 (x0.length : Int) 0)) (fun k => (impl_ValidSail.mono_l k).2.1 x0 x3 x17 x18 x19) (fun k => by simp only [impl_ValidSail.l0]) ?_
  repeat' first
    | with_reducible exact Lim.const _
    | with_reducible exact impl_ValidSail.L0_lim _ _ _ _ _
    | with_reducible exact impl_ValidSail.L1_lim _ _ _ _
    | with_reducible refine Lim.ite ?_ ?_
    | with_reducible refine Lim.bind ?_ (fun _ => ?_)
theorem impl_ValidSail.L1_eq (x0 : List (S129)) (x3 : Int) (x35 : Int) (x36 : Int) : impl_ValidSail.L1 x0 x3 x35 x36 = if x36 < x35 then (if 0 ≤ x36 then (if x36 < (x0.length : Int) then (if x3 = 0 then (none) else (if 0 ≤ (Int.tmod (wrap64 (x36 + 1)) x3) then (if (Int.tmod (wrap64 (x36 + 1)) x3) < (x0.length : Int) then (if 0 ≤ (Int.tmod (wrap64 (x36 + 2)) x3) then (if (Int.tmod (wrap64 (x36 + 2)) x3) < (x0.length : Int) then ((impl_turnAt.f ((rd_T129 x0 x36).f0) ((rd_T129 x0 x36).f1) ((rd_T129 x0 (Int.tmod (wrap64 (x36 + 1)) x3)).f0) ((rd_T129 x0 (Int.tmod (wrap64 (x36 + 1)) x3)).f1) ((rd_T129 x0 (Int.tmod (wrap64 (x36 + 2)) x3)).f0) ((rd_T129 x0 (Int.tmod (wrap64 (x36 + 2)) x3)).f1)).bind fun t307 => (if t307 = 0 then (some false) else (impl_ValidSail.L1 x0 x3 x35 (wrap64 (x36 + 1))))) else (none)) else (none)) else (none)) else (none))) else (none)) else (none)) else (impl_ValidSail.L2 x0 x3 (x0.length : Int) 0) := by
  refine Lim.step (f := fun k => if x36 < x35 then (if 0 ≤ x36 then (if x36 < (x0.length : Int) then (if x3 = 0 then (none) else (if 0 ≤ (Int.tmod (wrap64 (x36 + 1)) x3) then (if (Int.tmod (wrap64 (x36 + 1)) x3) < (x0.length : Int) then (if 0 ≤ (Int.tmod (wrap64 (x36 + 2)) x3) then (if (Int.tmod (wrap64 (x36 + 2)) x3) < (x0.length : Int) then ((impl_turnAt.f ((rd_T129 x0 x36).f0) ((rd_T129 x0 x36).f1) ((rd_T129 x0 (Int.tmod (wrap64 (x36 + 1)) x3)).f0) ((rd_T129 x0 (Int.tmod (wrap64 (x36 + 1)) x3)).f1) ((rd_T129 x0 (Int.tmod (wrap64 (x36 + 2)) x3)).f0) ((rd_T129 x0 (Int.tmod (wrap64 (x36 + 2)) x3)).f1)).bind fun t307 => (if t307 = 0 then (some false) else (impl_ValidSail.l1 k x0 x3 x35 (wrap64 (x36 + 1))))) else (none)) else (none)) else (none)) else (none))) else (none)) else (none)) else (impl_ValidSail.l2 k x0 x3 (x0.length : Int) 0)) (fun k => (impl_ValidSail.mono_l k).2.2.1 x0 x3 x35 x36) (fun k => by simp only [impl_ValidSail.l1]) ?_
  repeat' first
    | with_reducible exact Lim.const _
    | with_reducible exact impl_ValidSail.L1_lim _ _ _ _
    | with_reducible exact impl_ValidSail.L2_lim _ _ _ _
    | with_reducible refine Lim.ite ?_ ?_
    | with_reducible refine Lim.bind ?_ (fun _ => ?_)
theorem impl_ValidSail.L2_eq (x0 : List (S129)) (x3 : Int) (x61 : Int) (x62 : Int) : impl_ValidSail.L2 x0 x3 x61 x62 = if x62 < x61 then (impl_ValidSail.L3 x0 x3 x62 (wrap64 (x62 + 2)) x61 x62) else ((impl_twiceSail.F x0).bind fun t308 => (some (decide (t308 > 0)))) := by
  refine Lim.step (f := fun k => if x62 < x61 then (impl_ValidSail.l3 k x0 x3 x62 (wrap64 (x62 + 2)) x61 x62) else ((impl_twiceSail.f k x0).bind fun t308 => (some (decide (t308 > 0))))) (fun k => (impl_ValidSail.mono_l k).2.2.2.1 x0 x3 x61 x62) (fun k => by simp only [impl_ValidSail.l2]) ?_
  repeat' first
    | with_reducible exact Lim.const _
    | with_reducible exact impl_ValidSail.L3_lim _ _ _ _ _ _
    | with_reducible exact impl_twiceSail.F_lim _
    | with_reducible refine Lim.ite ?_ ?_
    | with_reducible refine Lim.bind ?_ (fun _ => ?_)
theorem impl_ValidSail.L3_eq (x0 : List (S129)) (x3 : Int) (x7 : Int) (x8 : Int) (x61 : Int) (x62 : Int) : impl_ValidSail.L3 x0 x3 x7 x8 x61 x62 = if x8 < x3 then (if x3 = 0 then (none) else (if (Int.tmod (wrap64 (x8 + 1)) x3) = x7 then (impl_ValidSail.L3 x0 x3 x7 (wrap64 (x8 + 1)) x61 x62) else (if 0 ≤ x7 then (if x7 < (x0.length : Int) then (if 0 ≤ (wrap64 (x7 + 1)) then (if (wrap64 (x7 + 1)) < (x0.length : Int) then (if 0 ≤ x8 then (if x8 < (x0.length : Int) then (if 0 ≤ (Int.tmod (wrap64 (x8 + 1)) x3) then (if (Int.tmod (wrap64 (x8 + 1)) x3) < (x0.length : Int) then ((impl_edgesMeet.F ((rd_T129 x0 x7).f0) ((rd_T129 x0 x7).f1) ((rd_T129 x0 (wrap64 (x7 + 1))).f0) ((rd_T129 x0 (wrap64 (x7 + 1))).f1) ((rd_T129 x0 x8).f0) ((rd_T129 x0 x8).f1) ((rd_T129 x0 (Int.tmod (wrap64 (x8 + 1)) x3)).f0) ((rd_T129 x0 (Int.tmod (wrap64 (x8 + 1)) x3)).f1)).bind fun t313 => (if t313 = true then (some false) else (impl_ValidSail.L3 x0 x3 x7 (wrap64 (x8 + 1)) x61 x62))) else (none)) else (none)) else (none)) else (none)) else (none)) else (none)) else (none)) else (none)))) else (impl_ValidSail.L2 x0 x3 x61 (wrap64 (x62 + 1))) := by
  refine Lim.step (f := fun k => if x8 < x3 then (if x3 = 0 then (none) else (if (Int.tmod (wrap64 (x8 + 1)) x3) = x7 then (impl_ValidSail.l3 k x0 x3 x7 (wrap64 (x8 + 1)) x61 x62) else (if 0 ≤ x7 then (if x7 < (x0.length : Int) then (if 0 ≤ (wrap64 (x7 + 1)) then (if (wrap64 (x7 + 1)) < (x0.length : Int) then (if 0 ≤ x8 then (if x8 < (x0.length : Int) then (if 0 ≤ (Int.tmod (wrap64 (x8 + 1)) x3) then (if (Int.tmod (wrap64 (x8 + 1)) x3) < (x0.length : Int) then ((impl_edgesMeet.f k ((rd_T129 x0 x7).f0) ((rd_T129 x0 x7).f1) ((rd_T129 x0 (wrap64 (x7 + 1))).f0) ((rd_T129 x0 (wrap64 (x7 + 1))).f1) ((rd_T129 x0 x8).f0) ((rd_T129 x0 x8).f1) ((rd_T129 x0 (Int.tmod (wrap64 (x8 + 1)) x3)).f0) ((rd_T129 x0 (Int.tmod (wrap64 (x8 + 1)) x3)).f1)).bind fun t313 => (if t313 = true then (some false) else (impl_ValidSail.l3 k x0 x3 x7 (wrap64 (x8 + 1)) x61 x62))) else (none)) else (none)) else (none)) else (none)) else (none)) else (none)) else (none)) else (none)))) else (impl_ValidSail.l2 k x0 x3 x61 (wrap64 (x62 + 1)))) (fun k => (impl_ValidSail.mono_l k).2.2.2.2 x0 x3 x7 x8 x61 x62) (fun k => by simp only [impl_ValidSail.l3]) ?_
  repeat' first
    | with_reducible exact Lim.const _
    | with_reducible exact impl_ValidSail.L2_lim _ _ _ _
    | with_reducible exact impl_ValidSail.L3_lim _ _ _ _ _ _
    | with_reducible exact impl_edgesMeet.F_lim _ _ _ _ _ _ _ _
    | with_reducible refine Lim.ite ?_ ?_
    | with_reducible refine Lim.bind ?_ (fun _ => ?_)
theorem impl_ValidSail.F_eq (l0 : List (S129)) : impl_ValidSail.F l0 = if (l0.length : Int) < 3 then (impl_ValidSail.J0 l0 (l0.length : Int) true) else (impl_ValidSail.J0 l0 (l0.length : Int) (decide ((l0.length : Int) > 8))) := by
  refine Lim.eq (g := fun k => impl_ValidSail.f k l0) ?_
  unfold impl_ValidSail.f
  repeat' first
    | with_reducible exact Lim.const _
    | with_reducible exact impl_ValidSail.J0_lim _ _ _
    | with_reducible refine Lim.ite ?_ ?_
    | with_reducible refine Lim.bind ?_ (fun _ => ?_)

noncomputable def impl_ValidPlan.J0 (x22 : Bool) (x315000 : List (S79)) (x315001 : Int) (x315002 : Int) : Option (Bool) := lim (fun k => impl_ValidPlan.j0 k x22 x315000 x315001 x315002)
theorem impl_ValidPlan.J0_lim (x22 : Bool) (x315000 : List (S79)) (x315001 : Int) (x315002 : Int) : Lim (fun k => impl_ValidPlan.j0 k x22 x315000 x315001 x315002) (impl_ValidPlan.J0 x22 x315000 x315001 x315002) := Lim.of (fun k => (impl_ValidPlan.mono_l k).1 x22 x315000 x315001 x315002)
noncomputable def impl_ValidPlan.L0 (x24 : List (S79)) (x25 : Int) (x26 : Int) (x315000 : List (S79)) (x315001 : Int) (x315002 : Int) : Option (Bool) := lim (fun k => impl_ValidPlan.l0 k x24 x25 x26 x315000 x315001 x315002)
theorem impl_ValidPlan.L0_lim (x24 : List (S79)) (x25 : Int) (x26 : Int) (x315000 : List (S79)) (x315001 : Int) (x315002 : Int) : Lim (fun k => impl_ValidPlan.l0 k x24 x25 x26 x315000 x315001 x315002) (impl_ValidPlan.L0 x24 x25 x26 x315000 x315001 x315002) := Lim.of (fun k => (impl_ValidPlan.mono_l k).2 x24 x25 x26 x315000 x315001 x315002)
noncomputable def impl_ValidPlan.F (l0_0 : List (S79)) (a0_1 : Int) (a0_2 : Int) : Option (Bool) := lim (fun k => impl_ValidPlan.f k l0_0 a0_1 a0_2)
theorem impl_ValidPlan.F_lim (l0_0 : List (S79)) (a0_1 : Int) (a0_2 : Int) : Lim (fun k => impl_ValidPlan.f k l0_0 a0_1 a0_2) (impl_ValidPlan.F l0_0 a0_1 a0_2) := Lim.of (fun k => impl_ValidPlan.mono l0_0 a0_1 a0_2 k)
theorem impl_ValidPlan.J0_eq (x22 : Bool) (x315000 : List (S79)) (x315001 : Int) (x315002 : Int) : impl_ValidPlan.J0 x22 x315000 x315001 x315002 = if x22 = true then (some false) else (impl_ValidPlan.L0 x315000 (x315000.length : Int) 0 x315000 x315001 x315002) := by
  refine Lim.step (f := fun k => if x22 = true then (some false) else (impl_ValidPlan.l0 k x315000 (x315000.length : Int) 0 x315000 x315001 x315002)) (fun k => (impl_ValidPlan.mono_l k).1 x22 x315000 x315001 x315002) (fun k => by simp only [impl_ValidPlan.j0]) ?_
  repeat' first
    | with_reducible exact Lim.const _
    | with_reducible exact impl_ValidPlan.L0_lim _ _ _ _ _ _
    | with_reducible refine Lim.ite ?_ ?_
    | with_reducible refine Lim.bind ?_ (fun _ => ?_)
theorem impl_ValidPlan.L0_eq (x24 : List (S79)) (x25 : Int) (x26 : Int) (x315000 : List (S79)) (x315001 : Int) (x315002 : Int) : impl_ValidPlan.L0 x24 x25 x26 x315000 x315001 x315002 = if x26 < x25 then (if 0 ≤ x26 then (if x26 < (x24.length : Int) then ((impl_IsName.F ((rd_T79 x24 x26).f0)).bind fun t319 => (if t319 = true then ((impl_ValidSail.F ((rd_T79 x24 x26).f1)).bind fun t320 => (if t320 = true then (if x26 ≤ (x315000.length : Int) then ((impl_sailNamed.f (x315000.take (x26 : Int).toNat) ((rd_T79 x24 x26).f0)).bind fun t325 => (if t325 ≥ 0 then (some false) else (impl_ValidPlan.L0 x24 x25 (wrap64 (x26 + 1)) x315000 x315001 x315002))) else (none)) else (some false))) else (some false))) else (none)) else (none)) else (some true) := by
  refine Lim.step (f := fun k => if x26 < x25 then (if 0 ≤ x26 then (if x26 < (x24.length : Int) then ((impl_IsName.f k ((rd_T79 x24 x26).f0)).bind fun t319 => (if t319 = true then ((impl_ValidSail.f k ((rd_T79 x24 x26).f1)).bind fun t320 => (if t320 = true then (if x26 ≤ (x315000.length : Int) then ((impl_sailNamed.f (x315000.take (x26 : Int).toNat) ((rd_T79 x24 x26).f0)).bind fun t325 => (if t325 ≥ 0 then (some false) else (impl_ValidPlan.l0 k x24 x25 (wrap64 (x26 + 1)) x315000 x315001 x315002))) else (none)) else (some false))) else (some false))) else (none)) else (none)) else (some true)) (fun k => (impl_ValidPlan.mono_l k).2 x24 x25 x26 x315000 x315001 x315002) (fun k => by simp only [impl_ValidPlan.l0]) ?_
  repeat' first
    | with_reducible exact Lim.const _
    | with_reducible exact impl_IsName.F_lim _
    | with_reducible exact impl_ValidPlan.L0_lim _ _ _ _ _ _
    | with_reducible exact impl_ValidSail.F_lim _
    | with_reducible refine Lim.ite ?_ ?_
    | with_reducible refine Lim.bind ?_ (fun _ => ?_)
theorem impl_ValidPlan.F_eq (l0_0 : List (S79)) (a0_1 : Int) (a0_2 : Int) : impl_ValidPlan.F l0_0 a0_1 a0_2 = if (l0_0.length : Int) > 8 then (impl_ValidPlan.J0 true l0_0 a0_1 a0_2) else ((impl_within.f a0_2 1 5000).bind fun t315 => (if t315 = true then ((impl_within.f a0_1 0 a0_2).bind fun t316 => (impl_ValidPlan.J0 (!t316) l0_0 a0_1 a0_2)) else (impl_ValidPlan.J0 true l0_0 a0_1 a0_2))) := by
  refine Lim.eq (g := fun k => impl_ValidPlan.f k l0_0 a0_1 a0_2) ?_
  unfold impl_ValidPlan.f
  repeat' first
    | with_reducible exact Lim.const _
    | with_reducible exact impl_ValidPlan.J0_lim _ _ _ _
    | with_reducible refine Lim.ite ?_ ?_
    | with_reducible refine Lim.bind ?_ (fun _ => ?_)

noncomputable def impl_OverlapsOf.L0 (x4 : List (List Int)) (x13 : List (S79)) (x14 : Int) (x15 : Int) (x327000 : List (S79)) (x327001 : Int) (x327002 : Int) : Option ((List (List Int)) × Int) := lim (fun k => impl_OverlapsOf.l0 k x4 x13 x14 x15 x327000 x327001 x327002)
theorem impl_OverlapsOf.L0_lim (x4 : List (List Int)) (x13 : List (S79)) (x14 : Int) (x15 : Int) (x327000 : List (S79)) (x327001 : Int) (x327002 : Int) : Lim (fun k => impl_OverlapsOf.l0 k x4 x13 x14 x15 x327000 x327001 x327002) (impl_OverlapsOf.L0 x4 x13 x14 x15 x327000 x327001 x327002) := Lim.of (fun k => (impl_OverlapsOf.mono_l k).1 x4 x13 x14 x15 x327000 x327001 x327002)
noncomputable def impl_OverlapsOf.L1 (x4 : List (List Int)) (x5 : Int) (x7 : Int) (x13 : List (S79)) (x14 : Int) (x15 : Int) (x327000 : List (S79)) (x327001 : Int) (x327002 : Int) (x333000 : ByteArray) (x333001 : List (S129)) (x333002 : Bool) : Option ((List (List Int)) × Int) := lim (fun k => impl_OverlapsOf.l1 k x4 x5 x7 x13 x14 x15 x327000 x327001 x327002 x333000 x333001 x333002)
theorem impl_OverlapsOf.L1_lim (x4 : List (List Int)) (x5 : Int) (x7 : Int) (x13 : List (S79)) (x14 : Int) (x15 : Int) (x327000 : List (S79)) (x327001 : Int) (x327002 : Int) (x333000 : ByteArray) (x333001 : List (S129)) (x333002 : Bool) : Lim (fun k => impl_OverlapsOf.l1 k x4 x5 x7 x13 x14 x15 x327000 x327001 x327002 x333000 x333001 x333002) (impl_OverlapsOf.L1 x4 x5 x7 x13 x14 x15 x327000 x327001 x327002 x333000 x333001 x333002) := Lim.of (fun k => (impl_OverlapsOf.mono_l k).2 x4 x5 x7 x13 x14 x15 x327000 x327001 x327002 x333000 x333001 x333002)
noncomputable def impl_OverlapsOf.F (l0_0 : List (S79)) (a0_1 : Int) (a0_2 : Int) : Option ((List (List Int)) × Int) := lim (fun k => impl_OverlapsOf.f k l0_0 a0_1 a0_2)
theorem impl_OverlapsOf.F_lim (l0_0 : List (S79)) (a0_1 : Int) (a0_2 : Int) : Lim (fun k => impl_OverlapsOf.f k l0_0 a0_1 a0_2) (impl_OverlapsOf.F l0_0 a0_1 a0_2) := Lim.of (fun k => impl_OverlapsOf.mono l0_0 a0_1 a0_2 k)
theorem impl_OverlapsOf.L0_eq (x4 : List (List Int)) (x13 : List (S79)) (x14 : Int) (x15 : Int) (x327000 : List (S79)) (x327001 : Int) (x327002 : Int) : impl_OverlapsOf.L0 x4 x13 x14 x15 x327000 x327001 x327002 = if x15 < x14 then (if 0 ≤ x15 then (if x15 < (x13.length : Int) then (impl_OverlapsOf.L1 x4 x15 (wrap64 (x15 + 1)) x13 x14 x15 x327000 x327001 x327002 ((rd_T79 x13 x15).f0) ((rd_T79 x13 x15).f1) ((rd_T79 x13 x15).f2)) else (none)) else (none)) else (some (x4, 0)) := by
  refine Lim.step (f := fun k => if x15 < x14 then (if 0 ≤ x15 then (if x15 < (x13.length : Int) then (impl_OverlapsOf.l1 k x4 x15 (wrap64 (x15 + 1)) x13 x14 x15 x327000 x327001 x327002 ((rd_T79 x13 x15).f0) ((rd_T79 x13 x15).f1) ((rd_T79 x13 x15).f2)) else (none)) else (none)) else (some (x4, 0))) (fun k => (impl_OverlapsOf.mono_l k).1 x4 x13 x14 x15 x327000 x327001 x327002) (fun k => by simp only [impl_OverlapsOf.l0]) ?_
  repeat' first
    | with_reducible exact Lim.const _
    | with_reducible exact impl_OverlapsOf.L1_lim _ _ _ _ _ _ _ _ _ _ _ _
    | with_reducible refine Lim.ite ?_ ?_
    | with_reducible refine Lim.bind ?_ (fun _ => ?_)
theorem impl_OverlapsOf.L1_eq (x4 : List (List Int)) (x5 : Int) (x7 : Int) (x13 : List (S79)) (x14 : Int) (x15 : Int) (x327000 : List (S79)) (x327001 : Int) (x327002 : Int) (x333000 : ByteArray) (x333001 : List (S129)) (x333002 : Bool) : impl_OverlapsOf.L1 x4 x5 x7 x13 x14 x15 x327000 x327001 x327002 x333000 x333001 x333002 = if x7 < (x327000.length : Int) then (if x333002 = true then (if 0 ≤ x7 then (if (rd_T79 x327000 x7).f2 = true then ((impl_boxesMeet.f x333001 ((rd_T79 x327000 x7).f1)).bind fun t335 => (if t335 = true then (if x4.length < 5864062014805 then (impl_OverlapsOf.L1 (x4 ++ [(([x5, x7] : List Int))]) x5 (wrap64 (x7 + 1)) x13 x14 x15 x327000 x327001 x327002 x333000 x333001 x333002) else (none)) else (impl_OverlapsOf.L1 x4 x5 (wrap64 (x7 + 1)) x13 x14 x15 x327000 x327001 x327002 x333000 x333001 x333002))) else (impl_OverlapsOf.L1 x4 x5 (wrap64 (x7 + 1)) x13 x14 x15 x327000 x327001 x327002 x333000 x333001 x333002)) else (none)) else (impl_OverlapsOf.L1 x4 x5 (wrap64 (x7 + 1)) x13 x14 x15 x327000 x327001 x327002 x333000 x333001 x333002)) else (impl_OverlapsOf.L0 x4 x13 x14 (wrap64 (x15 + 1)) x327000 x327001 x327002) := by
  refine Lim.step (f := fun k => if x7 < (x327000.length : Int) then (if x333002 = true then (if 0 ≤ x7 then (if (rd_T79 x327000 x7).f2 = true then ((impl_boxesMeet.f x333001 ((rd_T79 x327000 x7).f1)).bind fun t335 => (if t335 = true then (if x4.length < 5864062014805 then (impl_OverlapsOf.l1 k (x4 ++ [(([x5, x7] : List Int))]) x5 (wrap64 (x7 + 1)) x13 x14 x15 x327000 x327001 x327002 x333000 x333001 x333002) else (none)) else (impl_OverlapsOf.l1 k x4 x5 (wrap64 (x7 + 1)) x13 x14 x15 x327000 x327001 x327002 x333000 x333001 x333002))) else (impl_OverlapsOf.l1 k x4 x5 (wrap64 (x7 + 1)) x13 x14 x15 x327000 x327001 x327002 x333000 x333001 x333002)) else (none)) else (impl_OverlapsOf.l1 k x4 x5 (wrap64 (x7 + 1)) x13 x14 x15 x327000 x327001 x327002 x333000 x333001 x333002)) else (impl_OverlapsOf.l0 k x4 x13 x14 (wrap64 (x15 + 1)) x327000 x327001 x327002)) (fun k => (impl_OverlapsOf.mono_l k).2 x4 x5 x7 x13 x14 x15 x327000 x327001 x327002 x333000 x333001 x333002) (fun k => by simp only [impl_OverlapsOf.l1]) ?_
  repeat' first
    | with_reducible exact Lim.const _
    | with_reducible exact impl_OverlapsOf.L0_lim _ _ _ _ _ _ _
    | with_reducible exact impl_OverlapsOf.L1_lim _ _ _ _ _ _ _ _ _ _ _ _
    | with_reducible refine Lim.ite ?_ ?_
    | with_reducible refine Lim.bind ?_ (fun _ => ?_)
theorem impl_OverlapsOf.F_eq (l0_0 : List (S79)) (a0_1 : Int) (a0_2 : Int) : impl_OverlapsOf.F l0_0 a0_1 a0_2 = (impl_ValidPlan.F l0_0 a0_1 a0_2).bind fun t327 => (if t327 = true then (impl_OverlapsOf.L0 (([] : List (List Int))) l0_0 (l0_0.length : Int) 0 l0_0 a0_1 a0_2) else (some (([] : List (List Int)), 1))) := by
  refine Lim.eq (g := fun k => impl_OverlapsOf.f k l0_0 a0_1 a0_2) ?_
  unfold impl_OverlapsOf.f
  repeat' first
    | with_reducible exact Lim.const _
    | with_reducible exact impl_OverlapsOf.L0_lim _ _ _ _ _ _ _
    | with_reducible exact impl_ValidPlan.F_lim _ _ _
    | with_reducible refine Lim.ite ?_ ?_
    | with_reducible refine Lim.bind ?_ (fun _ => ?_)

noncomputable def laws_eqSpotS.L0 (x0 : List (S129)) (x1 : List (S129)) (x5 : Int) : Option (Bool) := lim (fun k => laws_eqSpotS.l0 k x0 x1 x5)
theorem laws_eqSpotS.L0_lim (x0 : List (S129)) (x1 : List (S129)) (x5 : Int) : Lim (fun k => laws_eqSpotS.l0 k x0 x1 x5) (laws_eqSpotS.L0 x0 x1 x5) := Lim.of (fun k => (laws_eqSpotS.mono_l k) x0 x1 x5)
noncomputable def laws_eqSpotS.F (l0 : List (S129)) (l1 : List (S129)) : Option (Bool) := lim (fun k => laws_eqSpotS.f k l0 l1)
theorem laws_eqSpotS.F_lim (l0 : List (S129)) (l1 : List (S129)) : Lim (fun k => laws_eqSpotS.f k l0 l1) (laws_eqSpotS.F l0 l1) := Lim.of (fun k => laws_eqSpotS.mono l0 l1 k)
theorem laws_eqSpotS.L0_eq (x0 : List (S129)) (x1 : List (S129)) (x5 : Int) : laws_eqSpotS.L0 x0 x1 x5 = if x5 < (x0.length : Int) then (if 0 ≤ x5 then (if x5 < (x1.length : Int) then ((laws_eqSpot.f ((rd_T129 x0 x5).f0) ((rd_T129 x0 x5).f1) ((rd_T129 x1 x5).f0) ((rd_T129 x1 x5).f1)).bind fun t346 => (if t346 = true then (laws_eqSpotS.L0 x0 x1 (wrap64 (x5 + 1))) else (some false))) else (none)) else (none)) else (some true) := by
  refine Lim.step (f := fun k => if x5 < (x0.length : Int) then (if 0 ≤ x5 then (if x5 < (x1.length : Int) then ((laws_eqSpot.f ((rd_T129 x0 x5).f0) ((rd_T129 x0 x5).f1) ((rd_T129 x1 x5).f0) ((rd_T129 x1 x5).f1)).bind fun t346 => (if t346 = true then (laws_eqSpotS.l0 k x0 x1 (wrap64 (x5 + 1))) else (some false))) else (none)) else (none)) else (some true)) (fun k => (laws_eqSpotS.mono_l k) x0 x1 x5) (fun k => by simp only [laws_eqSpotS.l0]) ?_
  repeat' first
    | with_reducible exact Lim.const _
    | with_reducible exact laws_eqSpotS.L0_lim _ _ _
    | with_reducible refine Lim.ite ?_ ?_
    | with_reducible refine Lim.bind ?_ (fun _ => ?_)
theorem laws_eqSpotS.F_eq (l0 : List (S129)) (l1 : List (S129)) : laws_eqSpotS.F l0 l1 = if (l0.length : Int) = (l1.length : Int) then (laws_eqSpotS.L0 l0 l1 0) else (some false) := by
  refine Lim.eq (g := fun k => laws_eqSpotS.f k l0 l1) ?_
  unfold laws_eqSpotS.f
  repeat' first
    | with_reducible exact Lim.const _
    | with_reducible exact laws_eqSpotS.L0_lim _ _ _
    | with_reducible refine Lim.ite ?_ ?_
    | with_reducible refine Lim.bind ?_ (fun _ => ?_)

noncomputable def laws_eqHung.F (a0_0 : ByteArray) (l0_1 : List (S129)) (a0_2 : Bool) (a1_0 : ByteArray) (l1_1 : List (S129)) (a1_2 : Bool) : Option (Bool) := lim (fun k => laws_eqHung.f k a0_0 l0_1 a0_2 a1_0 l1_1 a1_2)
theorem laws_eqHung.F_lim (a0_0 : ByteArray) (l0_1 : List (S129)) (a0_2 : Bool) (a1_0 : ByteArray) (l1_1 : List (S129)) (a1_2 : Bool) : Lim (fun k => laws_eqHung.f k a0_0 l0_1 a0_2 a1_0 l1_1 a1_2) (laws_eqHung.F a0_0 l0_1 a0_2 a1_0 l1_1 a1_2) := Lim.of (fun k => laws_eqHung.mono a0_0 l0_1 a0_2 a1_0 l1_1 a1_2 k)
theorem laws_eqHung.F_eq (a0_0 : ByteArray) (l0_1 : List (S129)) (a0_2 : Bool) (a1_0 : ByteArray) (l1_1 : List (S129)) (a1_2 : Bool) : laws_eqHung.F a0_0 l0_1 a0_2 a1_0 l1_1 a1_2 = if a0_0.toList = a1_0.toList then ((laws_eqSpotS.F l0_1 l1_1).bind fun t349 => (if t349 = true then (if (a0_2 != a1_2) = true then (some false) else (some true)) else (some false))) else (some false) := by
  refine Lim.eq (g := fun k => laws_eqHung.f k a0_0 l0_1 a0_2 a1_0 l1_1 a1_2) ?_
  unfold laws_eqHung.f
  repeat' first
    | with_reducible exact Lim.const _
    | with_reducible exact laws_eqSpotS.F_lim _ _
    | with_reducible refine Lim.ite ?_ ?_
    | with_reducible refine Lim.bind ?_ (fun _ => ?_)

noncomputable def laws_eqHungS.L0 (x0 : List (S79)) (x1 : List (S79)) (x5 : Int) : Option (Bool) := lim (fun k => laws_eqHungS.l0 k x0 x1 x5)
theorem laws_eqHungS.L0_lim (x0 : List (S79)) (x1 : List (S79)) (x5 : Int) : Lim (fun k => laws_eqHungS.l0 k x0 x1 x5) (laws_eqHungS.L0 x0 x1 x5) := Lim.of (fun k => (laws_eqHungS.mono_l k) x0 x1 x5)
noncomputable def laws_eqHungS.F (l0 : List (S79)) (l1 : List (S79)) : Option (Bool) := lim (fun k => laws_eqHungS.f k l0 l1)
theorem laws_eqHungS.F_lim (l0 : List (S79)) (l1 : List (S79)) : Lim (fun k => laws_eqHungS.f k l0 l1) (laws_eqHungS.F l0 l1) := Lim.of (fun k => laws_eqHungS.mono l0 l1 k)
theorem laws_eqHungS.L0_eq (x0 : List (S79)) (x1 : List (S79)) (x5 : Int) : laws_eqHungS.L0 x0 x1 x5 = if x5 < (x0.length : Int) then (if 0 ≤ x5 then (if x5 < (x1.length : Int) then ((laws_eqHung.F ((rd_T79 x0 x5).f0) ((rd_T79 x0 x5).f1) ((rd_T79 x0 x5).f2) ((rd_T79 x1 x5).f0) ((rd_T79 x1 x5).f1) ((rd_T79 x1 x5).f2)).bind fun t352 => (if t352 = true then (laws_eqHungS.L0 x0 x1 (wrap64 (x5 + 1))) else (some false))) else (none)) else (none)) else (some true) := by
  refine Lim.step (f := fun k => if x5 < (x0.length : Int) then (if 0 ≤ x5 then (if x5 < (x1.length : Int) then ((laws_eqHung.f k ((rd_T79 x0 x5).f0) ((rd_T79 x0 x5).f1) ((rd_T79 x0 x5).f2) ((rd_T79 x1 x5).f0) ((rd_T79 x1 x5).f1) ((rd_T79 x1 x5).f2)).bind fun t352 => (if t352 = true then (laws_eqHungS.l0 k x0 x1 (wrap64 (x5 + 1))) else (some false))) else (none)) else (none)) else (some true)) (fun k => (laws_eqHungS.mono_l k) x0 x1 x5) (fun k => by simp only [laws_eqHungS.l0]) ?_
  repeat' first
    | with_reducible exact Lim.const _
    | with_reducible exact laws_eqHung.F_lim _ _ _ _ _ _
    | with_reducible exact laws_eqHungS.L0_lim _ _ _
    | with_reducible refine Lim.ite ?_ ?_
    | with_reducible refine Lim.bind ?_ (fun _ => ?_)
theorem laws_eqHungS.F_eq (l0 : List (S79)) (l1 : List (S79)) : laws_eqHungS.F l0 l1 = if (l0.length : Int) = (l1.length : Int) then (laws_eqHungS.L0 l0 l1 0) else (some false) := by
  refine Lim.eq (g := fun k => laws_eqHungS.f k l0 l1) ?_
  unfold laws_eqHungS.f
  repeat' first
    | with_reducible exact Lim.const _
    | with_reducible exact laws_eqHungS.L0_lim _ _ _
    | with_reducible refine Lim.ite ?_ ?_
    | with_reducible refine Lim.bind ?_ (fun _ => ?_)

noncomputable def laws_eqPlan.F (l0_0 : List (S79)) (a0_1 : Int) (a0_2 : Int) (l1_0 : List (S79)) (a1_1 : Int) (a1_2 : Int) : Option (Bool) := lim (fun k => laws_eqPlan.f k l0_0 a0_1 a0_2 l1_0 a1_1 a1_2)
theorem laws_eqPlan.F_lim (l0_0 : List (S79)) (a0_1 : Int) (a0_2 : Int) (l1_0 : List (S79)) (a1_1 : Int) (a1_2 : Int) : Lim (fun k => laws_eqPlan.f k l0_0 a0_1 a0_2 l1_0 a1_1 a1_2) (laws_eqPlan.F l0_0 a0_1 a0_2 l1_0 a1_1 a1_2) := Lim.of (fun k => laws_eqPlan.mono l0_0 a0_1 a0_2 l1_0 a1_1 a1_2 k)
theorem laws_eqPlan.F_eq (l0_0 : List (S79)) (a0_1 : Int) (a0_2 : Int) (l1_0 : List (S79)) (a1_1 : Int) (a1_2 : Int) : laws_eqPlan.F l0_0 a0_1 a0_2 l1_0 a1_1 a1_2 = (laws_eqHungS.F l0_0 l1_0).bind fun t355 => (if t355 = true then (if a0_1 = a1_1 then (if a0_2 = a1_2 then (some true) else (some false)) else (some false)) else (some false)) := by
  refine Lim.eq (g := fun k => laws_eqPlan.f k l0_0 a0_1 a0_2 l1_0 a1_1 a1_2) ?_
  unfold laws_eqPlan.f
  repeat' first
    | with_reducible exact Lim.const _
    | with_reducible exact laws_eqHungS.F_lim _ _
    | with_reducible refine Lim.ite ?_ ?_
    | with_reducible refine Lim.bind ?_ (fun _ => ?_)

noncomputable def laws_markSpotS.L0 (x0 : List (S129)) (x1 : Int) (x5 : Int) : Option (Int × (List (S129))) := lim (fun k => laws_markSpotS.l0 k x0 x1 x5)
theorem laws_markSpotS.L0_lim (x0 : List (S129)) (x1 : Int) (x5 : Int) : Lim (fun k => laws_markSpotS.l0 k x0 x1 x5) (laws_markSpotS.L0 x0 x1 x5) := Lim.of (fun k => (laws_markSpotS.mono_l k) x0 x1 x5)
noncomputable def laws_markSpotS.F (l0 : List (S129)) (a1 : Int) : Option (Int × (List (S129))) := lim (fun k => laws_markSpotS.f k l0 a1)
theorem laws_markSpotS.F_lim (l0 : List (S129)) (a1 : Int) : Lim (fun k => laws_markSpotS.f k l0 a1) (laws_markSpotS.F l0 a1) := Lim.of (fun k => laws_markSpotS.mono l0 a1 k)
theorem laws_markSpotS.L0_eq (x0 : List (S129)) (x1 : Int) (x5 : Int) : laws_markSpotS.L0 x0 x1 x5 = if x5 < (x0.length : Int) then (if 0 ≤ x5 then ((some (x0.set (x5 : Int).toNat (⟨x1, (rd_T129 x0 x5).f1⟩ : S129) : List (S129))).bind fun y356 => (laws_markSpotS.L0 (y356.set (x5 : Int).toNat (⟨(rd_T129 y356 x5).f0, wrap64 (x1 + 1)⟩ : S129)) (wrap64 ((wrap64 (x1 + 1)) + 1)) (wrap64 (x5 + 1)))) else (none)) else (some (x1, x0)) := by
  refine Lim.step (f := fun k => if x5 < (x0.length : Int) then (if 0 ≤ x5 then ((some (x0.set (x5 : Int).toNat (⟨x1, (rd_T129 x0 x5).f1⟩ : S129) : List (S129))).bind fun y356 => (laws_markSpotS.l0 k (y356.set (x5 : Int).toNat (⟨(rd_T129 y356 x5).f0, wrap64 (x1 + 1)⟩ : S129)) (wrap64 ((wrap64 (x1 + 1)) + 1)) (wrap64 (x5 + 1)))) else (none)) else (some (x1, x0))) (fun k => (laws_markSpotS.mono_l k) x0 x1 x5) (fun k => by simp only [laws_markSpotS.l0]) ?_
  repeat' first
    | with_reducible exact Lim.const _
    | with_reducible exact laws_markSpotS.L0_lim _ _ _
    | with_reducible refine Lim.ite ?_ ?_
    | with_reducible refine Lim.bind ?_ (fun _ => ?_)
theorem laws_markSpotS.F_eq (l0 : List (S129)) (a1 : Int) : laws_markSpotS.F l0 a1 = laws_markSpotS.L0 l0 a1 0 := by
  refine Lim.eq (g := fun k => laws_markSpotS.f k l0 a1) ?_
  unfold laws_markSpotS.f
  repeat' first
    | with_reducible exact Lim.const _
    | with_reducible exact laws_markSpotS.L0_lim _ _ _
    | with_reducible refine Lim.ite ?_ ?_
    | with_reducible refine Lim.bind ?_ (fun _ => ?_)

noncomputable def laws_markText.L0 (x0 : Int) (x3 : ByteArray) : Option (ByteArray) := lim (fun k => laws_markText.l0 k x0 x3)
theorem laws_markText.L0_lim (x0 : Int) (x3 : ByteArray) : Lim (fun k => laws_markText.l0 k x0 x3) (laws_markText.L0 x0 x3) := Lim.of (fun k => (laws_markText.mono_l k) x0 x3)
noncomputable def laws_markText.F (a0 : Int) : Option (ByteArray) := lim (fun k => laws_markText.f k a0)
theorem laws_markText.F_lim (a0 : Int) : Lim (fun k => laws_markText.f k a0) (laws_markText.F a0) := Lim.of (fun k => laws_markText.mono a0 k)
theorem laws_markText.L0_eq (x0 : Int) (x3 : ByteArray) : laws_markText.L0 x0 x3 = if x0 > 0 then ((some (([(wrap64 (48 + (Int.tmod x0 10))) % 256] : List Int) : List Int)).bind fun y358 => (if (strOfNums y358).size + x3.size ≤ 9223372036854775807 then (laws_markText.L0 (wrap64 (Int.tdiv x0 10)) ((strOfNums y358) ++ x3)) else (none))) else (if 1 + x3.size ≤ 9223372036854775807 then (some ((⟨#[109]⟩ : ByteArray) ++ x3)) else (none)) := by
  refine Lim.step (f := fun k => if x0 > 0 then ((some (([(wrap64 (48 + (Int.tmod x0 10))) % 256] : List Int) : List Int)).bind fun y358 => (if (strOfNums y358).size + x3.size ≤ 9223372036854775807 then (laws_markText.l0 k (wrap64 (Int.tdiv x0 10)) ((strOfNums y358) ++ x3)) else (none))) else (if 1 + x3.size ≤ 9223372036854775807 then (some ((⟨#[109]⟩ : ByteArray) ++ x3)) else (none))) (fun k => (laws_markText.mono_l k) x0 x3) (fun k => by simp only [laws_markText.l0]) ?_
  repeat' first
    | with_reducible exact Lim.const _
    | with_reducible exact laws_markText.L0_lim _ _
    | with_reducible refine Lim.ite ?_ ?_
    | with_reducible refine Lim.bind ?_ (fun _ => ?_)
theorem laws_markText.F_eq (a0 : Int) : laws_markText.F a0 = if a0 ≤ 0 then (some (⟨#[109, 48]⟩ : ByteArray)) else (laws_markText.L0 a0 (⟨#[]⟩ : ByteArray)) := by
  refine Lim.eq (g := fun k => laws_markText.f k a0) ?_
  unfold laws_markText.f
  repeat' first
    | with_reducible exact Lim.const _
    | with_reducible exact laws_markText.L0_lim _ _
    | with_reducible refine Lim.ite ?_ ?_
    | with_reducible refine Lim.bind ?_ (fun _ => ?_)

noncomputable def laws_markHungS.L0 (x0 : List (S79)) (x1 : Int) (x2 : Int) : Option (Int × (List (S79))) := lim (fun k => laws_markHungS.l0 k x0 x1 x2)
theorem laws_markHungS.L0_lim (x0 : List (S79)) (x1 : Int) (x2 : Int) : Lim (fun k => laws_markHungS.l0 k x0 x1 x2) (laws_markHungS.L0 x0 x1 x2) := Lim.of (fun k => (laws_markHungS.mono_l k) x0 x1 x2)
noncomputable def laws_markHungS.F (l0 : List (S79)) (a1 : Int) : Option (Int × (List (S79))) := lim (fun k => laws_markHungS.f k l0 a1)
theorem laws_markHungS.F_lim (l0 : List (S79)) (a1 : Int) : Lim (fun k => laws_markHungS.f k l0 a1) (laws_markHungS.F l0 a1) := Lim.of (fun k => laws_markHungS.mono l0 a1 k)
theorem laws_markHungS.L0_eq (x0 : List (S79)) (x1 : Int) (x2 : Int) : laws_markHungS.L0 x0 x1 x2 = if x2 < (x0.length : Int) then (if 0 ≤ x2 then ((laws_markText.F x1).bind fun t1 => ((laws_markSpotS.F ((rd_T79 x0 x2).f1) (wrap64 (x1 + 1))).bind fun bt1 => (laws_markHungS.L0 (x0.set (x2 : Int).toNat (⟨t1, bt1.2, (Int.tmod bt1.1 3) == 0⟩ : S79)) (wrap64 (bt1.1 + 1)) (wrap64 (x2 + 1))))) else (none)) else (some (x1, x0)) := by
  refine Lim.step (f := fun k => if x2 < (x0.length : Int) then (if 0 ≤ x2 then ((laws_markText.f k x1).bind fun t1 => ((laws_markSpotS.f k ((rd_T79 x0 x2).f1) (wrap64 (x1 + 1))).bind fun bt1 => (laws_markHungS.l0 k (x0.set (x2 : Int).toNat (⟨t1, bt1.2, (Int.tmod bt1.1 3) == 0⟩ : S79)) (wrap64 (bt1.1 + 1)) (wrap64 (x2 + 1))))) else (none)) else (some (x1, x0))) (fun k => (laws_markHungS.mono_l k) x0 x1 x2) (fun k => by simp only [laws_markHungS.l0]) ?_
  repeat' first
    | with_reducible exact Lim.const _
    | with_reducible exact laws_markHungS.L0_lim _ _ _
    | with_reducible exact laws_markSpotS.F_lim _ _
    | with_reducible exact laws_markText.F_lim _
    | with_reducible refine Lim.ite ?_ ?_
    | with_reducible refine Lim.bind ?_ (fun _ => ?_)
theorem laws_markHungS.F_eq (l0 : List (S79)) (a1 : Int) : laws_markHungS.F l0 a1 = laws_markHungS.L0 l0 a1 0 := by
  refine Lim.eq (g := fun k => laws_markHungS.f k l0 a1) ?_
  unfold laws_markHungS.f
  repeat' first
    | with_reducible exact Lim.const _
    | with_reducible exact laws_markHungS.L0_lim _ _ _
    | with_reducible refine Lim.ite ?_ ?_
    | with_reducible refine Lim.bind ?_ (fun _ => ?_)

noncomputable def laws_markPlan.F (l0_0 : List (S79)) (a0_1 : Int) (a0_2 : Int) (a1 : Int) : Option (Int × (List (S79))) := lim (fun k => laws_markPlan.f k l0_0 a0_1 a0_2 a1)
theorem laws_markPlan.F_lim (l0_0 : List (S79)) (a0_1 : Int) (a0_2 : Int) (a1 : Int) : Lim (fun k => laws_markPlan.f k l0_0 a0_1 a0_2 a1) (laws_markPlan.F l0_0 a0_1 a0_2 a1) := Lim.of (fun k => laws_markPlan.mono l0_0 a0_1 a0_2 a1 k)
theorem laws_markPlan.F_eq (l0_0 : List (S79)) (a0_1 : Int) (a0_2 : Int) (a1 : Int) : laws_markPlan.F l0_0 a0_1 a0_2 a1 = laws_markHungS.F l0_0 a1 := by
  refine Lim.eq (g := fun k => laws_markPlan.f k l0_0 a0_1 a0_2 a1) ?_
  unfold laws_markPlan.f
  repeat' first
    | with_reducible exact Lim.const _
    | with_reducible exact laws_markHungS.F_lim _ _
    | with_reducible refine Lim.ite ?_ ?_
    | with_reducible refine Lim.bind ?_ (fun _ => ?_)

noncomputable def laws_FnExactOverlapsOf.J0 (x4 : List (List Int)) (x5 : Int) (x7 : List (List Int)) (x8 : Int) (x40 : Bool) (x362000 : List (S74)) (x362001 : Int) (x362002 : Int) (x378000 : List (S79)) (x378001 : Int) (x378002 : Int) : Option (Bool) := lim (fun k => laws_FnExactOverlapsOf.j0 k x4 x5 x7 x8 x40 x362000 x362001 x362002 x378000 x378001 x378002)
theorem laws_FnExactOverlapsOf.J0_lim (x4 : List (List Int)) (x5 : Int) (x7 : List (List Int)) (x8 : Int) (x40 : Bool) (x362000 : List (S74)) (x362001 : Int) (x362002 : Int) (x378000 : List (S79)) (x378001 : Int) (x378002 : Int) : Lim (fun k => laws_FnExactOverlapsOf.j0 k x4 x5 x7 x8 x40 x362000 x362001 x362002 x378000 x378001 x378002) (laws_FnExactOverlapsOf.J0 x4 x5 x7 x8 x40 x362000 x362001 x362002 x378000 x378001 x378002) := Lim.of (fun k => (laws_FnExactOverlapsOf.mono_l k).1 x4 x5 x7 x8 x40 x362000 x362001 x362002 x378000 x378001 x378002)
noncomputable def laws_FnExactOverlapsOf.J1 (x4 : List (List Int)) (x5 : Int) (x7 : List (List Int)) (x61 : Bool) (x362000 : List (S74)) (x362001 : Int) (x362002 : Int) : Option (Bool) := lim (fun k => laws_FnExactOverlapsOf.j1 k x4 x5 x7 x61 x362000 x362001 x362002)
theorem laws_FnExactOverlapsOf.J1_lim (x4 : List (List Int)) (x5 : Int) (x7 : List (List Int)) (x61 : Bool) (x362000 : List (S74)) (x362001 : Int) (x362002 : Int) : Lim (fun k => laws_FnExactOverlapsOf.j1 k x4 x5 x7 x61 x362000 x362001 x362002) (laws_FnExactOverlapsOf.J1 x4 x5 x7 x61 x362000 x362001 x362002) := Lim.of (fun k => (laws_FnExactOverlapsOf.mono_l k).2.1 x4 x5 x7 x61 x362000 x362001 x362002)
noncomputable def laws_FnExactOverlapsOf.J2 (x7 : List (List Int)) (x10 : Int) (x87 : Bool) : Option (Bool) := lim (fun k => laws_FnExactOverlapsOf.j2 k x7 x10 x87)
theorem laws_FnExactOverlapsOf.J2_lim (x7 : List (List Int)) (x10 : Int) (x87 : Bool) : Lim (fun k => laws_FnExactOverlapsOf.j2 k x7 x10 x87) (laws_FnExactOverlapsOf.J2 x7 x10 x87) := Lim.of (fun k => (laws_FnExactOverlapsOf.mono_l k).2.2 x7 x10 x87)
noncomputable def laws_FnExactOverlapsOf.F (l0_0 : List (S74)) (a0_1 : Int) (a0_2 : Int) : Option (Bool) := lim (fun k => laws_FnExactOverlapsOf.f k l0_0 a0_1 a0_2)
theorem laws_FnExactOverlapsOf.F_lim (l0_0 : List (S74)) (a0_1 : Int) (a0_2 : Int) : Lim (fun k => laws_FnExactOverlapsOf.f k l0_0 a0_1 a0_2) (laws_FnExactOverlapsOf.F l0_0 a0_1 a0_2) := Lim.of (fun k => laws_FnExactOverlapsOf.mono l0_0 a0_1 a0_2 k)
theorem laws_FnExactOverlapsOf.J0_eq (x4 : List (List Int)) (x5 : Int) (x7 : List (List Int)) (x8 : Int) (x40 : Bool) (x362000 : List (S74)) (x362001 : Int) (x362002 : Int) (x378000 : List (S79)) (x378001 : Int) (x378002 : Int) : laws_FnExactOverlapsOf.J0 x4 x5 x7 x8 x40 x362000 x362001 x362002 x378000 x378001 x378002 = if x40 = true then (some false) else ((laws_toPlan.F x362000 x362001 x362002).bind fun bt383 => ((laws_eqPlan.F x378000 x378001 x378002 bt383.1 bt383.2.1 bt383.2.2).bind fun t388 => (if t388 = true then ((laws_markPlan.F x378000 x378001 x378002 1).bind fun bt389 => (if bt389.1 < 0 then (laws_FnExactOverlapsOf.J1 x4 x5 x7 true x362000 x362001 x362002) else ((laws_eqInt64SS.F x7 x4).bind fun t391 => (if t391 = true then (laws_FnExactOverlapsOf.J1 x4 x5 x7 (x8 != x5) x362000 x362001 x362002) else (laws_FnExactOverlapsOf.J1 x4 x5 x7 true x362000 x362001 x362002))))) else (some false)))) := by
  refine Lim.step (f := fun k => if x40 = true then (some false) else ((laws_toPlan.f k x362000 x362001 x362002).bind fun bt383 => ((laws_eqPlan.f k x378000 x378001 x378002 bt383.1 bt383.2.1 bt383.2.2).bind fun t388 => (if t388 = true then ((laws_markPlan.f k x378000 x378001 x378002 1).bind fun bt389 => (if bt389.1 < 0 then (laws_FnExactOverlapsOf.j1 k x4 x5 x7 true x362000 x362001 x362002) else ((laws_eqInt64SS.f k x7 x4).bind fun t391 => (if t391 = true then (laws_FnExactOverlapsOf.j1 k x4 x5 x7 (x8 != x5) x362000 x362001 x362002) else (laws_FnExactOverlapsOf.j1 k x4 x5 x7 true x362000 x362001 x362002))))) else (some false))))) (fun k => (laws_FnExactOverlapsOf.mono_l k).1 x4 x5 x7 x8 x40 x362000 x362001 x362002 x378000 x378001 x378002) (fun k => by simp only [laws_FnExactOverlapsOf.j0]) ?_
  repeat' first
    | with_reducible exact Lim.const _
    | with_reducible exact laws_FnExactOverlapsOf.J1_lim _ _ _ _ _ _ _
    | with_reducible exact laws_eqInt64SS.F_lim _ _
    | with_reducible exact laws_eqPlan.F_lim _ _ _ _ _ _
    | with_reducible exact laws_markPlan.F_lim _ _ _ _
    | with_reducible exact laws_toPlan.F_lim _ _ _
    | with_reducible refine Lim.ite ?_ ?_
    | with_reducible refine Lim.bind ?_ (fun _ => ?_)
theorem laws_FnExactOverlapsOf.J1_eq (x4 : List (List Int)) (x5 : Int) (x7 : List (List Int)) (x61 : Bool) (x362000 : List (S74)) (x362001 : Int) (x362002 : Int) : laws_FnExactOverlapsOf.J1 x4 x5 x7 x61 x362000 x362001 x362002 = if x61 = true then (some false) else ((laws_markInt64SS.F x7 1).bind fun bt392 => ((laws_heldInt64SS.F bt392.2 1).bind fun t394 => (if t394 < 0 then (some false) else (if t394 = bt392.1 then ((laws_toPlan.F x362000 x362001 x362002).bind fun bt395 => ((impl_OverlapsOf.F bt395.1 bt395.2.1 bt395.2.2).bind fun bt400 => ((laws_eqInt64SS.F bt400.1 x4).bind fun t404 => (if t404 = true then (laws_FnExactOverlapsOf.J2 bt392.2 bt392.1 (bt400.2 != x5)) else (laws_FnExactOverlapsOf.J2 bt392.2 bt392.1 true))))) else (some false))))) := by
  refine Lim.step (f := fun k => if x61 = true then (some false) else ((laws_markInt64SS.f k x7 1).bind fun bt392 => ((laws_heldInt64SS.f k bt392.2 1).bind fun t394 => (if t394 < 0 then (some false) else (if t394 = bt392.1 then ((laws_toPlan.f k x362000 x362001 x362002).bind fun bt395 => ((impl_OverlapsOf.f k bt395.1 bt395.2.1 bt395.2.2).bind fun bt400 => ((laws_eqInt64SS.f k bt400.1 x4).bind fun t404 => (if t404 = true then (laws_FnExactOverlapsOf.j2 k bt392.2 bt392.1 (bt400.2 != x5)) else (laws_FnExactOverlapsOf.j2 k bt392.2 bt392.1 true))))) else (some false)))))) (fun k => (laws_FnExactOverlapsOf.mono_l k).2.1 x4 x5 x7 x61 x362000 x362001 x362002) (fun k => by simp only [laws_FnExactOverlapsOf.j1]) ?_
  repeat' first
    | with_reducible exact Lim.const _
    | with_reducible exact impl_OverlapsOf.F_lim _ _ _
    | with_reducible exact laws_FnExactOverlapsOf.J2_lim _ _ _
    | with_reducible exact laws_eqInt64SS.F_lim _ _
    | with_reducible exact laws_heldInt64SS.F_lim _ _
    | with_reducible exact laws_markInt64SS.F_lim _ _
    | with_reducible exact laws_toPlan.F_lim _ _ _
    | with_reducible refine Lim.ite ?_ ?_
    | with_reducible refine Lim.bind ?_ (fun _ => ?_)
theorem laws_FnExactOverlapsOf.J2_eq (x7 : List (List Int)) (x10 : Int) (x87 : Bool) : laws_FnExactOverlapsOf.J2 x7 x10 x87 = if x87 = true then (some false) else ((laws_heldInt64SS.F x7 1).bind fun t405 => (if t405 < 0 then (some false) else (if t405 = x10 then (some true) else (some false)))) := by
  refine Lim.step (f := fun k => if x87 = true then (some false) else ((laws_heldInt64SS.f k x7 1).bind fun t405 => (if t405 < 0 then (some false) else (if t405 = x10 then (some true) else (some false))))) (fun k => (laws_FnExactOverlapsOf.mono_l k).2.2 x7 x10 x87) (fun k => by simp only [laws_FnExactOverlapsOf.j2]) ?_
  repeat' first
    | with_reducible exact Lim.const _
    | with_reducible exact laws_heldInt64SS.F_lim _ _
    | with_reducible refine Lim.ite ?_ ?_
    | with_reducible refine Lim.bind ?_ (fun _ => ?_)
theorem laws_FnExactOverlapsOf.F_eq (l0_0 : List (S74)) (a0_1 : Int) (a0_2 : Int) : laws_FnExactOverlapsOf.F l0_0 a0_1 a0_2 = (laws_szPlan.F l0_0 a0_1 a0_2 1048576).bind fun t362 => (if t362 < 0 then (some true) else ((laws_toPlan.F l0_0 a0_1 a0_2).bind fun bt363 => ((spec_OverlapsOf.F bt363.1 bt363.2.1 bt363.2.2).bind fun bt368 => ((laws_toPlan.F l0_0 a0_1 a0_2).bind fun bt372 => ((impl_OverlapsOf.F bt372.1 bt372.2.1 bt372.2.2).bind fun bt378 => ((laws_eqInt64SS.F bt378.1 bt368.1).bind fun t382 => (if t382 = true then (laws_FnExactOverlapsOf.J0 bt368.1 bt368.2 bt378.1 bt378.2 (bt378.2 != bt368.2) l0_0 a0_1 a0_2 bt372.1 bt372.2.1 bt372.2.2) else (laws_FnExactOverlapsOf.J0 bt368.1 bt368.2 bt378.1 bt378.2 true l0_0 a0_1 a0_2 bt372.1 bt372.2.1 bt372.2.2)))))))) := by
  refine Lim.eq (g := fun k => laws_FnExactOverlapsOf.f k l0_0 a0_1 a0_2) ?_
  unfold laws_FnExactOverlapsOf.f
  repeat' first
    | with_reducible exact Lim.const _
    | with_reducible exact impl_OverlapsOf.F_lim _ _ _
    | with_reducible exact laws_FnExactOverlapsOf.J0_lim _ _ _ _ _ _ _ _ _ _ _
    | with_reducible exact laws_eqInt64SS.F_lim _ _
    | with_reducible exact laws_szPlan.F_lim _ _ _ _
    | with_reducible exact laws_toPlan.F_lim _ _ _
    | with_reducible exact spec_OverlapsOf.F_lim _ _ _
    | with_reducible refine Lim.ite ?_ ?_
    | with_reducible refine Lim.bind ?_ (fun _ => ?_)

end Go.Proofs.Ytlphfgbeeckjnaa.PFnExactOverlapsOf
