/-
  Written by a program of this session (wip/tools/lims.py): the printed functions without their bound on rounds.
-/
import Derived.Test.YtlphfgbeeckjnaaPFnExactClothLeftx1
import Derived.Test.YtlphfgbeeckjnaaPFnExactClothLeftx2
import Derived.Test.YtlphfgbeeckjnaaPFnExactClothLeftx3
import Derived.Test.YtlphfgbeeckjnaaPFnExactClothLeftx4
import Derived.Test.YtlphfgbeeckjnaaPFnExactClothLeftx5
import Derived.Test.YtlphfgbeeckjnaaPFnExactClothLeftx6
import Derived.Test.YtlphfgbeeckjnaaPFnExactClothLeftx7
import Derived.Test.YtlphfgbeeckjnaaPFnExactClothLeftx8
import Derived.Test.YtlphfgbeeckjnaaPFnExactClothLeftx9
import Derived.Test.YtlphfgbeeckjnaaPFnExactClothLeftx10
import Derived.Test.YtlphfgbeeckjnaaPFnExactClothLeftx11
import Derived.Test.YtlphfgbeeckjnaaKit
set_option linter.unusedVariables false
set_option linter.unusedSimpArgs false
namespace Go.Proofs.Ytlphfgbeeckjnaa.PFnExactClothLeft
open Go.RowKit Go.Proofs.Ytlphfgbeeckjnaa.Kit Go.Proofs.YtlphfgbeeckjnaaW.PrintWords Go.Proofs.YtlphfgbeeckjnaaW.PrintLast Go.Proofs.YtlphfgbeeckjnaaW.PrintMore

noncomputable def laws_szBoltS.L0 (x0 : List (S24)) (x1 : Int) (x5 : Int) : Option (Int) := lim (fun k => laws_szBoltS.l0 k x0 x1 x5)
theorem laws_szBoltS.L0_lim (x0 : List (S24)) (x1 : Int) (x5 : Int) : Lim (fun k => laws_szBoltS.l0 k x0 x1 x5) (laws_szBoltS.L0 x0 x1 x5) := Lim.of (fun k => (laws_szBoltS.mono_l k) x0 x1 x5)
noncomputable def laws_szBoltS.F (l0 : List (S24)) (a1 : Int) : Option (Int) := lim (fun k => laws_szBoltS.f k l0 a1)
theorem laws_szBoltS.F_lim (l0 : List (S24)) (a1 : Int) : Lim (fun k => laws_szBoltS.f k l0 a1) (laws_szBoltS.F l0 a1) := Lim.of (fun k => laws_szBoltS.mono l0 a1 k)
theorem laws_szBoltS.L0_eq (x0 : List (S24)) (x1 : Int) (x5 : Int) : laws_szBoltS.L0 x0 x1 x5 = if x5 < (x0.length : Int) then (if 0 ≤ x5 then ((laws_szBolt.f ((rd_T24 x0 x5).f0) ((rd_T24 x0 x5).f1) x1).bind fun t104 => (if t104 < 0 then (some (-1)) else (laws_szBoltS.L0 x0 t104 (wrap64 (x5 + 1))))) else (none)) else (some x1) := by
  refine Lim.step (f := fun k => if x5 < (x0.length : Int) then (if 0 ≤ x5 then ((laws_szBolt.f ((rd_T24 x0 x5).f0) ((rd_T24 x0 x5).f1) x1).bind fun t104 => (if t104 < 0 then (some (-1)) else (laws_szBoltS.l0 k x0 t104 (wrap64 (x5 + 1))))) else (none)) else (some x1)) (fun k => (laws_szBoltS.mono_l k) x0 x1 x5) (fun k => by simp only [laws_szBoltS.l0]) ?_
  repeat' first
    | with_reducible exact Lim.const _
    | with_reducible exact laws_szBoltS.L0_lim _ _ _
    | with_reducible refine Lim.ite ?_ ?_
    | with_reducible refine Lim.bind ?_ (fun _ => ?_)
theorem laws_szBoltS.F_eq (l0 : List (S24)) (a1 : Int) : laws_szBoltS.F l0 a1 = if (wrap64 (a1 - (l0.length : Int))) < 0 then (some (-1)) else (laws_szBoltS.L0 l0 (wrap64 (a1 - (l0.length : Int))) 0) := by
  refine Lim.eq (g := fun k => laws_szBoltS.f k l0 a1) ?_
  unfold laws_szBoltS.f
  repeat' first
    | with_reducible exact Lim.const _
    | with_reducible exact laws_szBoltS.L0_lim _ _ _
    | with_reducible refine Lim.ite ?_ ?_
    | with_reducible refine Lim.bind ?_ (fun _ => ?_)

noncomputable def laws_toInt64S.L0 (x0 : List Int) (x3 : List Int) (x4 : Int) : Option (List Int) := lim (fun k => laws_toInt64S.l0 k x0 x3 x4)
theorem laws_toInt64S.L0_lim (x0 : List Int) (x3 : List Int) (x4 : Int) : Lim (fun k => laws_toInt64S.l0 k x0 x3 x4) (laws_toInt64S.L0 x0 x3 x4) := Lim.of (fun k => (laws_toInt64S.mono_l k) x0 x3 x4)
noncomputable def laws_toInt64S.F (l0 : List Int) : Option (List Int) := lim (fun k => laws_toInt64S.f k l0)
theorem laws_toInt64S.F_lim (l0 : List Int) : Lim (fun k => laws_toInt64S.f k l0) (laws_toInt64S.F l0) := Lim.of (fun k => laws_toInt64S.mono l0 k)
theorem laws_toInt64S.L0_eq (x0 : List Int) (x3 : List Int) (x4 : Int) : laws_toInt64S.L0 x0 x3 x4 = if x4 < (x0.length : Int) then (if 0 ≤ x4 then (if x4 < (x3.length : Int) then (laws_toInt64S.L0 x0 (x3.set (x4 : Int).toNat (rd x0 x4)) (wrap64 (x4 + 1))) else (none)) else (none)) else (some x3) := by
  refine Lim.step (f := fun k => if x4 < (x0.length : Int) then (if 0 ≤ x4 then (if x4 < (x3.length : Int) then (laws_toInt64S.l0 k x0 (x3.set (x4 : Int).toNat (rd x0 x4)) (wrap64 (x4 + 1))) else (none)) else (none)) else (some x3)) (fun k => (laws_toInt64S.mono_l k) x0 x3 x4) (fun k => by simp only [laws_toInt64S.l0]) ?_
  repeat' first
    | with_reducible exact Lim.const _
    | with_reducible exact laws_toInt64S.L0_lim _ _ _
    | with_reducible refine Lim.ite ?_ ?_
    | with_reducible refine Lim.bind ?_ (fun _ => ?_)
theorem laws_toInt64S.F_eq (l0 : List Int) : laws_toInt64S.F l0 = if 0 ≤ (l0.length : Int) then (if ((l0.length : Int) : Int).toNat ≤ 35184372088832 then (laws_toInt64S.L0 l0 (List.replicate ((l0.length : Int) : Int).toNat 0) 0) else (none)) else (none) := by
  refine Lim.eq (g := fun k => laws_toInt64S.f k l0) ?_
  unfold laws_toInt64S.f
  repeat' first
    | with_reducible exact Lim.const _
    | with_reducible exact laws_toInt64S.L0_lim _ _ _
    | with_reducible refine Lim.ite ?_ ?_
    | with_reducible refine Lim.bind ?_ (fun _ => ?_)

noncomputable def laws_toBolt.F (a0_0 : Int) (l0_1 : List Int) : Option (Int × List Int) := lim (fun k => laws_toBolt.f k a0_0 l0_1)
theorem laws_toBolt.F_lim (a0_0 : Int) (l0_1 : List Int) : Lim (fun k => laws_toBolt.f k a0_0 l0_1) (laws_toBolt.F a0_0 l0_1) := Lim.of (fun k => laws_toBolt.mono a0_0 l0_1 k)
theorem laws_toBolt.F_eq (a0_0 : Int) (l0_1 : List Int) : laws_toBolt.F a0_0 l0_1 = (laws_toInt64S.F l0_1).bind fun t113 => (some (a0_0, t113)) := by
  refine Lim.eq (g := fun k => laws_toBolt.f k a0_0 l0_1) ?_
  unfold laws_toBolt.f
  repeat' first
    | with_reducible exact Lim.const _
    | with_reducible exact laws_toInt64S.F_lim _
    | with_reducible refine Lim.ite ?_ ?_
    | with_reducible refine Lim.bind ?_ (fun _ => ?_)

noncomputable def laws_toBoltS.L0 (x0 : List (S24)) (x3 : List (S29)) (x4 : Int) : Option ((List (S29))) := lim (fun k => laws_toBoltS.l0 k x0 x3 x4)
theorem laws_toBoltS.L0_lim (x0 : List (S24)) (x3 : List (S29)) (x4 : Int) : Lim (fun k => laws_toBoltS.l0 k x0 x3 x4) (laws_toBoltS.L0 x0 x3 x4) := Lim.of (fun k => (laws_toBoltS.mono_l k) x0 x3 x4)
noncomputable def laws_toBoltS.F (l0 : List (S24)) : Option ((List (S29))) := lim (fun k => laws_toBoltS.f k l0)
theorem laws_toBoltS.F_lim (l0 : List (S24)) : Lim (fun k => laws_toBoltS.f k l0) (laws_toBoltS.F l0) := Lim.of (fun k => laws_toBoltS.mono l0 k)
theorem laws_toBoltS.L0_eq (x0 : List (S24)) (x3 : List (S29)) (x4 : Int) : laws_toBoltS.L0 x0 x3 x4 = if x4 < (x0.length : Int) then (if 0 ≤ x4 then ((laws_toBolt.F ((rd_T24 x0 x4).f0) ((rd_T24 x0 x4).f1)).bind fun bt120 => (if x4 < (x3.length : Int) then (laws_toBoltS.L0 x0 (x3.set (x4 : Int).toNat (⟨bt120.1, bt120.2⟩ : S29)) (wrap64 (x4 + 1))) else (none))) else (none)) else (some x3) := by
  refine Lim.step (f := fun k => if x4 < (x0.length : Int) then (if 0 ≤ x4 then ((laws_toBolt.f k ((rd_T24 x0 x4).f0) ((rd_T24 x0 x4).f1)).bind fun bt120 => (if x4 < (x3.length : Int) then (laws_toBoltS.l0 k x0 (x3.set (x4 : Int).toNat (⟨bt120.1, bt120.2⟩ : S29)) (wrap64 (x4 + 1))) else (none))) else (none)) else (some x3)) (fun k => (laws_toBoltS.mono_l k) x0 x3 x4) (fun k => by simp only [laws_toBoltS.l0]) ?_
  repeat' first
    | with_reducible exact Lim.const _
    | with_reducible exact laws_toBolt.F_lim _ _
    | with_reducible exact laws_toBoltS.L0_lim _ _ _
    | with_reducible refine Lim.ite ?_ ?_
    | with_reducible refine Lim.bind ?_ (fun _ => ?_)
theorem laws_toBoltS.F_eq (l0 : List (S24)) : laws_toBoltS.F l0 = if 0 ≤ (l0.length : Int) then (if ((l0.length : Int) : Int).toNat ≤ 8796093022208 then (laws_toBoltS.L0 l0 (List.replicate ((l0.length : Int) : Int).toNat z29) 0) else (none)) else (none) := by
  refine Lim.eq (g := fun k => laws_toBoltS.f k l0) ?_
  unfold laws_toBoltS.f
  repeat' first
    | with_reducible exact Lim.const _
    | with_reducible exact laws_toBoltS.L0_lim _ _ _
    | with_reducible refine Lim.ite ?_ ?_
    | with_reducible refine Lim.bind ?_ (fun _ => ?_)

noncomputable def laws_eqPieceS.L0 (x0 : List (S114)) (x1 : List (S114)) (x5 : Int) : Option (Bool) := lim (fun k => laws_eqPieceS.l0 k x0 x1 x5)
theorem laws_eqPieceS.L0_lim (x0 : List (S114)) (x1 : List (S114)) (x5 : Int) : Lim (fun k => laws_eqPieceS.l0 k x0 x1 x5) (laws_eqPieceS.L0 x0 x1 x5) := Lim.of (fun k => (laws_eqPieceS.mono_l k) x0 x1 x5)
noncomputable def laws_eqPieceS.F (l0 : List (S114)) (l1 : List (S114)) : Option (Bool) := lim (fun k => laws_eqPieceS.f k l0 l1)
theorem laws_eqPieceS.F_lim (l0 : List (S114)) (l1 : List (S114)) : Lim (fun k => laws_eqPieceS.f k l0 l1) (laws_eqPieceS.F l0 l1) := Lim.of (fun k => laws_eqPieceS.mono l0 l1 k)
theorem laws_eqPieceS.L0_eq (x0 : List (S114)) (x1 : List (S114)) (x5 : Int) : laws_eqPieceS.L0 x0 x1 x5 = if x5 < (x0.length : Int) then (if 0 ≤ x5 then (if x5 < (x1.length : Int) then ((laws_eqPiece.f ((rd_T114 x0 x5).f0) ((rd_T114 x0 x5).f1) ((rd_T114 x1 x5).f0) ((rd_T114 x1 x5).f1)).bind fun t129 => (if t129 = true then (laws_eqPieceS.L0 x0 x1 (wrap64 (x5 + 1))) else (some false))) else (none)) else (none)) else (some true) := by
  refine Lim.step (f := fun k => if x5 < (x0.length : Int) then (if 0 ≤ x5 then (if x5 < (x1.length : Int) then ((laws_eqPiece.f ((rd_T114 x0 x5).f0) ((rd_T114 x0 x5).f1) ((rd_T114 x1 x5).f0) ((rd_T114 x1 x5).f1)).bind fun t129 => (if t129 = true then (laws_eqPieceS.l0 k x0 x1 (wrap64 (x5 + 1))) else (some false))) else (none)) else (none)) else (some true)) (fun k => (laws_eqPieceS.mono_l k) x0 x1 x5) (fun k => by simp only [laws_eqPieceS.l0]) ?_
  repeat' first
    | with_reducible exact Lim.const _
    | with_reducible exact laws_eqPieceS.L0_lim _ _ _
    | with_reducible refine Lim.ite ?_ ?_
    | with_reducible refine Lim.bind ?_ (fun _ => ?_)
theorem laws_eqPieceS.F_eq (l0 : List (S114)) (l1 : List (S114)) : laws_eqPieceS.F l0 l1 = if (l0.length : Int) = (l1.length : Int) then (laws_eqPieceS.L0 l0 l1 0) else (some false) := by
  refine Lim.eq (g := fun k => laws_eqPieceS.f k l0 l1) ?_
  unfold laws_eqPieceS.f
  repeat' first
    | with_reducible exact Lim.const _
    | with_reducible exact laws_eqPieceS.L0_lim _ _ _
    | with_reducible refine Lim.ite ?_ ?_
    | with_reducible refine Lim.bind ?_ (fun _ => ?_)

noncomputable def laws_eqInt64S.L0 (x0 : List Int) (x1 : List Int) (x5 : Int) : Option (Bool) := lim (fun k => laws_eqInt64S.l0 k x0 x1 x5)
theorem laws_eqInt64S.L0_lim (x0 : List Int) (x1 : List Int) (x5 : Int) : Lim (fun k => laws_eqInt64S.l0 k x0 x1 x5) (laws_eqInt64S.L0 x0 x1 x5) := Lim.of (fun k => (laws_eqInt64S.mono_l k) x0 x1 x5)
noncomputable def laws_eqInt64S.F (l0 : List Int) (l1 : List Int) : Option (Bool) := lim (fun k => laws_eqInt64S.f k l0 l1)
theorem laws_eqInt64S.F_lim (l0 : List Int) (l1 : List Int) : Lim (fun k => laws_eqInt64S.f k l0 l1) (laws_eqInt64S.F l0 l1) := Lim.of (fun k => laws_eqInt64S.mono l0 l1 k)
theorem laws_eqInt64S.L0_eq (x0 : List Int) (x1 : List Int) (x5 : Int) : laws_eqInt64S.L0 x0 x1 x5 = if x5 < (x0.length : Int) then (if 0 ≤ x5 then (if x5 < (x1.length : Int) then (if (rd x0 x5) = (rd x1 x5) then (laws_eqInt64S.L0 x0 x1 (wrap64 (x5 + 1))) else (some false)) else (none)) else (none)) else (some true) := by
  refine Lim.step (f := fun k => if x5 < (x0.length : Int) then (if 0 ≤ x5 then (if x5 < (x1.length : Int) then (if (rd x0 x5) = (rd x1 x5) then (laws_eqInt64S.l0 k x0 x1 (wrap64 (x5 + 1))) else (some false)) else (none)) else (none)) else (some true)) (fun k => (laws_eqInt64S.mono_l k) x0 x1 x5) (fun k => by simp only [laws_eqInt64S.l0]) ?_
  repeat' first
    | with_reducible exact Lim.const _
    | with_reducible exact laws_eqInt64S.L0_lim _ _ _
    | with_reducible refine Lim.ite ?_ ?_
    | with_reducible refine Lim.bind ?_ (fun _ => ?_)
theorem laws_eqInt64S.F_eq (l0 : List Int) (l1 : List Int) : laws_eqInt64S.F l0 l1 = if (l0.length : Int) = (l1.length : Int) then (laws_eqInt64S.L0 l0 l1 0) else (some false) := by
  refine Lim.eq (g := fun k => laws_eqInt64S.f k l0 l1) ?_
  unfold laws_eqInt64S.f
  repeat' first
    | with_reducible exact Lim.const _
    | with_reducible exact laws_eqInt64S.L0_lim _ _ _
    | with_reducible refine Lim.ite ?_ ?_
    | with_reducible refine Lim.bind ?_ (fun _ => ?_)

noncomputable def laws_eqBolt.F (a0_0 : Int) (l0_1 : List Int) (a1_0 : Int) (l1_1 : List Int) : Option (Bool) := lim (fun k => laws_eqBolt.f k a0_0 l0_1 a1_0 l1_1)
theorem laws_eqBolt.F_lim (a0_0 : Int) (l0_1 : List Int) (a1_0 : Int) (l1_1 : List Int) : Lim (fun k => laws_eqBolt.f k a0_0 l0_1 a1_0 l1_1) (laws_eqBolt.F a0_0 l0_1 a1_0 l1_1) := Lim.of (fun k => laws_eqBolt.mono a0_0 l0_1 a1_0 l1_1 k)
theorem laws_eqBolt.F_eq (a0_0 : Int) (l0_1 : List Int) (a1_0 : Int) (l1_1 : List Int) : laws_eqBolt.F a0_0 l0_1 a1_0 l1_1 = if a0_0 = a1_0 then ((laws_eqInt64S.F l0_1 l1_1).bind fun t134 => (if t134 = true then (some true) else (some false))) else (some false) := by
  refine Lim.eq (g := fun k => laws_eqBolt.f k a0_0 l0_1 a1_0 l1_1) ?_
  unfold laws_eqBolt.f
  repeat' first
    | with_reducible exact Lim.const _
    | with_reducible exact laws_eqInt64S.F_lim _ _
    | with_reducible refine Lim.ite ?_ ?_
    | with_reducible refine Lim.bind ?_ (fun _ => ?_)

noncomputable def laws_eqBoltS.L0 (x0 : List (S29)) (x1 : List (S29)) (x5 : Int) : Option (Bool) := lim (fun k => laws_eqBoltS.l0 k x0 x1 x5)
theorem laws_eqBoltS.L0_lim (x0 : List (S29)) (x1 : List (S29)) (x5 : Int) : Lim (fun k => laws_eqBoltS.l0 k x0 x1 x5) (laws_eqBoltS.L0 x0 x1 x5) := Lim.of (fun k => (laws_eqBoltS.mono_l k) x0 x1 x5)
noncomputable def laws_eqBoltS.F (l0 : List (S29)) (l1 : List (S29)) : Option (Bool) := lim (fun k => laws_eqBoltS.f k l0 l1)
theorem laws_eqBoltS.F_lim (l0 : List (S29)) (l1 : List (S29)) : Lim (fun k => laws_eqBoltS.f k l0 l1) (laws_eqBoltS.F l0 l1) := Lim.of (fun k => laws_eqBoltS.mono l0 l1 k)
theorem laws_eqBoltS.L0_eq (x0 : List (S29)) (x1 : List (S29)) (x5 : Int) : laws_eqBoltS.L0 x0 x1 x5 = if x5 < (x0.length : Int) then (if 0 ≤ x5 then (if x5 < (x1.length : Int) then ((laws_eqBolt.F ((rd_T29 x0 x5).f0) ((rd_T29 x0 x5).f1) ((rd_T29 x1 x5).f0) ((rd_T29 x1 x5).f1)).bind fun t137 => (if t137 = true then (laws_eqBoltS.L0 x0 x1 (wrap64 (x5 + 1))) else (some false))) else (none)) else (none)) else (some true) := by
  refine Lim.step (f := fun k => if x5 < (x0.length : Int) then (if 0 ≤ x5 then (if x5 < (x1.length : Int) then ((laws_eqBolt.f k ((rd_T29 x0 x5).f0) ((rd_T29 x0 x5).f1) ((rd_T29 x1 x5).f0) ((rd_T29 x1 x5).f1)).bind fun t137 => (if t137 = true then (laws_eqBoltS.l0 k x0 x1 (wrap64 (x5 + 1))) else (some false))) else (none)) else (none)) else (some true)) (fun k => (laws_eqBoltS.mono_l k) x0 x1 x5) (fun k => by simp only [laws_eqBoltS.l0]) ?_
  repeat' first
    | with_reducible exact Lim.const _
    | with_reducible exact laws_eqBolt.F_lim _ _ _ _
    | with_reducible exact laws_eqBoltS.L0_lim _ _ _
    | with_reducible refine Lim.ite ?_ ?_
    | with_reducible refine Lim.bind ?_ (fun _ => ?_)
theorem laws_eqBoltS.F_eq (l0 : List (S29)) (l1 : List (S29)) : laws_eqBoltS.F l0 l1 = if (l0.length : Int) = (l1.length : Int) then (laws_eqBoltS.L0 l0 l1 0) else (some false) := by
  refine Lim.eq (g := fun k => laws_eqBoltS.f k l0 l1) ?_
  unfold laws_eqBoltS.f
  repeat' first
    | with_reducible exact Lim.const _
    | with_reducible exact laws_eqBoltS.L0_lim _ _ _
    | with_reducible refine Lim.ite ?_ ?_
    | with_reducible refine Lim.bind ?_ (fun _ => ?_)

noncomputable def laws_markInt64S.L0 (x0 : List Int) (x1 : Int) (x5 : Int) : Option (Int × List Int) := lim (fun k => laws_markInt64S.l0 k x0 x1 x5)
theorem laws_markInt64S.L0_lim (x0 : List Int) (x1 : Int) (x5 : Int) : Lim (fun k => laws_markInt64S.l0 k x0 x1 x5) (laws_markInt64S.L0 x0 x1 x5) := Lim.of (fun k => (laws_markInt64S.mono_l k) x0 x1 x5)
noncomputable def laws_markInt64S.F (l0 : List Int) (a1 : Int) : Option (Int × List Int) := lim (fun k => laws_markInt64S.f k l0 a1)
theorem laws_markInt64S.F_lim (l0 : List Int) (a1 : Int) : Lim (fun k => laws_markInt64S.f k l0 a1) (laws_markInt64S.F l0 a1) := Lim.of (fun k => laws_markInt64S.mono l0 a1 k)
theorem laws_markInt64S.L0_eq (x0 : List Int) (x1 : Int) (x5 : Int) : laws_markInt64S.L0 x0 x1 x5 = if x5 < (x0.length : Int) then (if 0 ≤ x5 then (laws_markInt64S.L0 (x0.set (x5 : Int).toNat x1) (wrap64 (x1 + 1)) (wrap64 (x5 + 1))) else (none)) else (some (x1, x0)) := by
  refine Lim.step (f := fun k => if x5 < (x0.length : Int) then (if 0 ≤ x5 then (laws_markInt64S.l0 k (x0.set (x5 : Int).toNat x1) (wrap64 (x1 + 1)) (wrap64 (x5 + 1))) else (none)) else (some (x1, x0))) (fun k => (laws_markInt64S.mono_l k) x0 x1 x5) (fun k => by simp only [laws_markInt64S.l0]) ?_
  repeat' first
    | with_reducible exact Lim.const _
    | with_reducible exact laws_markInt64S.L0_lim _ _ _
    | with_reducible refine Lim.ite ?_ ?_
    | with_reducible refine Lim.bind ?_ (fun _ => ?_)
theorem laws_markInt64S.F_eq (l0 : List Int) (a1 : Int) : laws_markInt64S.F l0 a1 = laws_markInt64S.L0 l0 a1 0 := by
  refine Lim.eq (g := fun k => laws_markInt64S.f k l0 a1) ?_
  unfold laws_markInt64S.f
  repeat' first
    | with_reducible exact Lim.const _
    | with_reducible exact laws_markInt64S.L0_lim _ _ _
    | with_reducible refine Lim.ite ?_ ?_
    | with_reducible refine Lim.bind ?_ (fun _ => ?_)

noncomputable def laws_markBoltS.L0 (x0 : List (S29)) (x1 : Int) (x2 : Int) : Option (Int × (List (S29))) := lim (fun k => laws_markBoltS.l0 k x0 x1 x2)
theorem laws_markBoltS.L0_lim (x0 : List (S29)) (x1 : Int) (x2 : Int) : Lim (fun k => laws_markBoltS.l0 k x0 x1 x2) (laws_markBoltS.L0 x0 x1 x2) := Lim.of (fun k => (laws_markBoltS.mono_l k) x0 x1 x2)
noncomputable def laws_markBoltS.F (l0 : List (S29)) (a1 : Int) : Option (Int × (List (S29))) := lim (fun k => laws_markBoltS.f k l0 a1)
theorem laws_markBoltS.F_lim (l0 : List (S29)) (a1 : Int) : Lim (fun k => laws_markBoltS.f k l0 a1) (laws_markBoltS.F l0 a1) := Lim.of (fun k => laws_markBoltS.mono l0 a1 k)
theorem laws_markBoltS.L0_eq (x0 : List (S29)) (x1 : Int) (x2 : Int) : laws_markBoltS.L0 x0 x1 x2 = if x2 < (x0.length : Int) then (if 0 ≤ x2 then ((laws_markInt64S.F ((rd_T29 x0 x2).f1) (wrap64 (x1 + 1))).bind fun bt1 => (laws_markBoltS.L0 (x0.set (x2 : Int).toNat (⟨x1, bt1.2⟩ : S29)) bt1.1 (wrap64 (x2 + 1)))) else (none)) else (some (x1, x0)) := by
  refine Lim.step (f := fun k => if x2 < (x0.length : Int) then (if 0 ≤ x2 then ((laws_markInt64S.f k ((rd_T29 x0 x2).f1) (wrap64 (x1 + 1))).bind fun bt1 => (laws_markBoltS.l0 k (x0.set (x2 : Int).toNat (⟨x1, bt1.2⟩ : S29)) bt1.1 (wrap64 (x2 + 1)))) else (none)) else (some (x1, x0))) (fun k => (laws_markBoltS.mono_l k) x0 x1 x2) (fun k => by simp only [laws_markBoltS.l0]) ?_
  repeat' first
    | with_reducible exact Lim.const _
    | with_reducible exact laws_markBoltS.L0_lim _ _ _
    | with_reducible exact laws_markInt64S.F_lim _ _
    | with_reducible refine Lim.ite ?_ ?_
    | with_reducible refine Lim.bind ?_ (fun _ => ?_)
theorem laws_markBoltS.F_eq (l0 : List (S29)) (a1 : Int) : laws_markBoltS.F l0 a1 = laws_markBoltS.L0 l0 a1 0 := by
  refine Lim.eq (g := fun k => laws_markBoltS.f k l0 a1) ?_
  unfold laws_markBoltS.f
  repeat' first
    | with_reducible exact Lim.const _
    | with_reducible exact laws_markBoltS.L0_lim _ _ _
    | with_reducible refine Lim.ite ?_ ?_
    | with_reducible refine Lim.bind ?_ (fun _ => ?_)

noncomputable def laws_markPieceS.L0 (x0 : List (S114)) (x1 : Int) (x5 : Int) : Option (Int × (List (S114))) := lim (fun k => laws_markPieceS.l0 k x0 x1 x5)
theorem laws_markPieceS.L0_lim (x0 : List (S114)) (x1 : Int) (x5 : Int) : Lim (fun k => laws_markPieceS.l0 k x0 x1 x5) (laws_markPieceS.L0 x0 x1 x5) := Lim.of (fun k => (laws_markPieceS.mono_l k) x0 x1 x5)
noncomputable def laws_markPieceS.F (l0 : List (S114)) (a1 : Int) : Option (Int × (List (S114))) := lim (fun k => laws_markPieceS.f k l0 a1)
theorem laws_markPieceS.F_lim (l0 : List (S114)) (a1 : Int) : Lim (fun k => laws_markPieceS.f k l0 a1) (laws_markPieceS.F l0 a1) := Lim.of (fun k => laws_markPieceS.mono l0 a1 k)
theorem laws_markPieceS.L0_eq (x0 : List (S114)) (x1 : Int) (x5 : Int) : laws_markPieceS.L0 x0 x1 x5 = if x5 < (x0.length : Int) then (if 0 ≤ x5 then ((some (x0.set (x5 : Int).toNat (⟨x1, (rd_T114 x0 x5).f1⟩ : S114) : List (S114))).bind fun y139 => (laws_markPieceS.L0 (y139.set (x5 : Int).toNat (⟨(rd_T114 y139 x5).f0, wrap64 (x1 + 1)⟩ : S114)) (wrap64 ((wrap64 (x1 + 1)) + 1)) (wrap64 (x5 + 1)))) else (none)) else (some (x1, x0)) := by
  refine Lim.step (f := fun k => if x5 < (x0.length : Int) then (if 0 ≤ x5 then ((some (x0.set (x5 : Int).toNat (⟨x1, (rd_T114 x0 x5).f1⟩ : S114) : List (S114))).bind fun y139 => (laws_markPieceS.l0 k (y139.set (x5 : Int).toNat (⟨(rd_T114 y139 x5).f0, wrap64 (x1 + 1)⟩ : S114)) (wrap64 ((wrap64 (x1 + 1)) + 1)) (wrap64 (x5 + 1)))) else (none)) else (some (x1, x0))) (fun k => (laws_markPieceS.mono_l k) x0 x1 x5) (fun k => by simp only [laws_markPieceS.l0]) ?_
  repeat' first
    | with_reducible exact Lim.const _
    | with_reducible exact laws_markPieceS.L0_lim _ _ _
    | with_reducible refine Lim.ite ?_ ?_
    | with_reducible refine Lim.bind ?_ (fun _ => ?_)
theorem laws_markPieceS.F_eq (l0 : List (S114)) (a1 : Int) : laws_markPieceS.F l0 a1 = laws_markPieceS.L0 l0 a1 0 := by
  refine Lim.eq (g := fun k => laws_markPieceS.f k l0 a1) ?_
  unfold laws_markPieceS.f
  repeat' first
    | with_reducible exact Lim.const _
    | with_reducible exact laws_markPieceS.L0_lim _ _ _
    | with_reducible refine Lim.ite ?_ ?_
    | with_reducible refine Lim.bind ?_ (fun _ => ?_)

noncomputable def spec_l00Rises.L0 (x0 : List Int) (x1 : Int) (x2 : Int) (x7 : Int) : Option (Bool) := lim (fun k => spec_l00Rises.l0 k x0 x1 x2 x7)
theorem spec_l00Rises.L0_lim (x0 : List Int) (x1 : Int) (x2 : Int) (x7 : Int) : Lim (fun k => spec_l00Rises.l0 k x0 x1 x2 x7) (spec_l00Rises.L0 x0 x1 x2 x7) := Lim.of (fun k => (spec_l00Rises.mono_l k) x0 x1 x2 x7)
noncomputable def spec_l00Rises.F (l0 : List Int) (a1 : Int) (a2 : Int) : Option (Bool) := lim (fun k => spec_l00Rises.f k l0 a1 a2)
theorem spec_l00Rises.F_lim (l0 : List Int) (a1 : Int) (a2 : Int) : Lim (fun k => spec_l00Rises.f k l0 a1 a2) (spec_l00Rises.F l0 a1 a2) := Lim.of (fun k => spec_l00Rises.mono l0 a1 a2 k)
theorem spec_l00Rises.L0_eq (x0 : List Int) (x1 : Int) (x2 : Int) (x7 : Int) : spec_l00Rises.L0 x0 x1 x2 x7 = if x7 < (x0.length : Int) then (if 0 ≤ x7 then ((spec_l00In.f (rd x0 x7) x1 x2).bind fun t142 => (if t142 = true then (if x7 > 0 then (if 0 ≤ (wrap64 (x7 - 1)) then (if (wrap64 (x7 - 1)) < (x0.length : Int) then (if (rd x0 (wrap64 (x7 - 1))) ≥ (rd x0 x7) then (some false) else (spec_l00Rises.L0 x0 x1 x2 (wrap64 (x7 + 1)))) else (none)) else (none)) else (spec_l00Rises.L0 x0 x1 x2 (wrap64 (x7 + 1)))) else (some false))) else (none)) else (some true) := by
  refine Lim.step (f := fun k => if x7 < (x0.length : Int) then (if 0 ≤ x7 then ((spec_l00In.f (rd x0 x7) x1 x2).bind fun t142 => (if t142 = true then (if x7 > 0 then (if 0 ≤ (wrap64 (x7 - 1)) then (if (wrap64 (x7 - 1)) < (x0.length : Int) then (if (rd x0 (wrap64 (x7 - 1))) ≥ (rd x0 x7) then (some false) else (spec_l00Rises.l0 k x0 x1 x2 (wrap64 (x7 + 1)))) else (none)) else (none)) else (spec_l00Rises.l0 k x0 x1 x2 (wrap64 (x7 + 1)))) else (some false))) else (none)) else (some true)) (fun k => (spec_l00Rises.mono_l k) x0 x1 x2 x7) (fun k => by simp only [spec_l00Rises.l0]) ?_
  repeat' first
    | with_reducible exact Lim.const _
    | with_reducible exact spec_l00Rises.L0_lim _ _ _ _
    | with_reducible refine Lim.ite ?_ ?_
    | with_reducible refine Lim.bind ?_ (fun _ => ?_)
theorem spec_l00Rises.F_eq (l0 : List Int) (a1 : Int) (a2 : Int) : spec_l00Rises.F l0 a1 a2 = spec_l00Rises.L0 l0 a1 a2 0 := by
  refine Lim.eq (g := fun k => spec_l00Rises.f k l0 a1 a2) ?_
  unfold spec_l00Rises.f
  repeat' first
    | with_reducible exact Lim.const _
    | with_reducible exact spec_l00Rises.L0_lim _ _ _ _
    | with_reducible refine Lim.ite ?_ ?_
    | with_reducible refine Lim.bind ?_ (fun _ => ?_)

noncomputable def spec_l16One.F (l0 : List (S29)) : Option (Bool) := lim (fun k => spec_l16One.f k l0)
theorem spec_l16One.F_lim (l0 : List (S29)) : Lim (fun k => spec_l16One.f k l0) (spec_l16One.F l0) := Lim.of (fun k => spec_l16One.mono l0 k)
theorem spec_l16One.F_eq (l0 : List (S29)) : spec_l16One.F l0 = if 0 < (l0.length : Int) then ((spec_l00In.f ((rd_T29 l0 0).f0) 1 10000).bind fun t147 => (if t147 = true then (if (((rd_T29 l0 0).f1).length : Int) ≤ 6 then ((spec_l00Rises.F ((rd_T29 l0 0).f1) 1 (wrap64 (((rd_T29 l0 0).f0) - 1))).bind fun t151 => (some t151)) else (some false)) else (some false))) else (none) := by
  refine Lim.eq (g := fun k => spec_l16One.f k l0) ?_
  unfold spec_l16One.f
  repeat' first
    | with_reducible exact Lim.const _
    | with_reducible exact spec_l00Rises.F_lim _ _ _
    | with_reducible refine Lim.ite ?_ ?_
    | with_reducible refine Lim.bind ?_ (fun _ => ?_)

noncomputable def spec_l16Ok.L0 (x0 : List (S29)) (x3 : Int) : Option (Bool) := lim (fun k => spec_l16Ok.l0 k x0 x3)
theorem spec_l16Ok.L0_lim (x0 : List (S29)) (x3 : Int) : Lim (fun k => spec_l16Ok.l0 k x0 x3) (spec_l16Ok.L0 x0 x3) := Lim.of (fun k => (spec_l16Ok.mono_l k) x0 x3)
noncomputable def spec_l16Ok.F (l0 : List (S29)) : Option (Bool) := lim (fun k => spec_l16Ok.f k l0)
theorem spec_l16Ok.F_lim (l0 : List (S29)) : Lim (fun k => spec_l16Ok.f k l0) (spec_l16Ok.F l0) := Lim.of (fun k => spec_l16Ok.mono l0 k)
theorem spec_l16Ok.L0_eq (x0 : List (S29)) (x3 : Int) : spec_l16Ok.L0 x0 x3 = if x3 < (x0.length : Int) then (if 0 ≤ x3 then ((spec_l16One.F [rd_T29 x0 x3]).bind fun t154 => (if t154 = true then (spec_l16Ok.L0 x0 (wrap64 (x3 + 1))) else (some false))) else (none)) else (some (decide ((x0.length : Int) ≤ 4))) := by
  refine Lim.step (f := fun k => if x3 < (x0.length : Int) then (if 0 ≤ x3 then ((spec_l16One.f k [rd_T29 x0 x3]).bind fun t154 => (if t154 = true then (spec_l16Ok.l0 k x0 (wrap64 (x3 + 1))) else (some false))) else (none)) else (some (decide ((x0.length : Int) ≤ 4)))) (fun k => (spec_l16Ok.mono_l k) x0 x3) (fun k => by simp only [spec_l16Ok.l0]) ?_
  repeat' first
    | with_reducible exact Lim.const _
    | with_reducible exact spec_l16Ok.L0_lim _ _
    | with_reducible exact spec_l16One.F_lim _
    | with_reducible refine Lim.ite ?_ ?_
    | with_reducible refine Lim.bind ?_ (fun _ => ?_)
theorem spec_l16Ok.F_eq (l0 : List (S29)) : spec_l16Ok.F l0 = spec_l16Ok.L0 l0 0 := by
  refine Lim.eq (g := fun k => spec_l16Ok.f k l0) ?_
  unfold spec_l16Ok.f
  repeat' first
    | with_reducible exact Lim.const _
    | with_reducible exact spec_l16Ok.L0_lim _ _
    | with_reducible refine Lim.ite ?_ ?_
    | with_reducible refine Lim.bind ?_ (fun _ => ?_)

noncomputable def spec_l16Panels.L0 (x0 : List Int) (x3 : Int) : Option (Bool) := lim (fun k => spec_l16Panels.l0 k x0 x3)
theorem spec_l16Panels.L0_lim (x0 : List Int) (x3 : Int) : Lim (fun k => spec_l16Panels.l0 k x0 x3) (spec_l16Panels.L0 x0 x3) := Lim.of (fun k => (spec_l16Panels.mono_l k) x0 x3)
noncomputable def spec_l16Panels.F (l0 : List Int) : Option (Bool) := lim (fun k => spec_l16Panels.f k l0)
theorem spec_l16Panels.F_lim (l0 : List Int) : Lim (fun k => spec_l16Panels.f k l0) (spec_l16Panels.F l0) := Lim.of (fun k => spec_l16Panels.mono l0 k)
theorem spec_l16Panels.L0_eq (x0 : List Int) (x3 : Int) : spec_l16Panels.L0 x0 x3 = if x3 < (x0.length : Int) then (if 0 ≤ x3 then ((spec_l00In.f (rd x0 x3) 1 10000).bind fun t156 => (if t156 = true then (spec_l16Panels.L0 x0 (wrap64 (x3 + 1))) else (some false))) else (none)) else (some (decide ((x0.length : Int) ≤ 6))) := by
  refine Lim.step (f := fun k => if x3 < (x0.length : Int) then (if 0 ≤ x3 then ((spec_l00In.f (rd x0 x3) 1 10000).bind fun t156 => (if t156 = true then (spec_l16Panels.l0 k x0 (wrap64 (x3 + 1))) else (some false))) else (none)) else (some (decide ((x0.length : Int) ≤ 6)))) (fun k => (spec_l16Panels.mono_l k) x0 x3) (fun k => by simp only [spec_l16Panels.l0]) ?_
  repeat' first
    | with_reducible exact Lim.const _
    | with_reducible exact spec_l16Panels.L0_lim _ _
    | with_reducible refine Lim.ite ?_ ?_
    | with_reducible refine Lim.bind ?_ (fun _ => ?_)
theorem spec_l16Panels.F_eq (l0 : List Int) : spec_l16Panels.F l0 = spec_l16Panels.L0 l0 0 := by
  refine Lim.eq (g := fun k => spec_l16Panels.f k l0) ?_
  unfold spec_l16Panels.f
  repeat' first
    | with_reducible exact Lim.const _
    | with_reducible exact spec_l16Panels.L0_lim _ _
    | with_reducible refine Lim.ite ?_ ?_
    | with_reducible refine Lim.bind ?_ (fun _ => ?_)

noncomputable def spec_l16Code.L0 (x0 : List (S29)) (x1 : List Int) (x2 : List (S114)) (x7 : Int) : Option (Int) := lim (fun k => spec_l16Code.l0 k x0 x1 x2 x7)
theorem spec_l16Code.L0_lim (x0 : List (S29)) (x1 : List Int) (x2 : List (S114)) (x7 : Int) : Lim (fun k => spec_l16Code.l0 k x0 x1 x2 x7) (spec_l16Code.L0 x0 x1 x2 x7) := Lim.of (fun k => (spec_l16Code.mono_l k) x0 x1 x2 x7)
noncomputable def spec_l16Code.F (l0 : List (S29)) (l1 : List Int) (l2 : List (S114)) : Option (Int) := lim (fun k => spec_l16Code.f k l0 l1 l2)
theorem spec_l16Code.F_lim (l0 : List (S29)) (l1 : List Int) (l2 : List (S114)) : Lim (fun k => spec_l16Code.f k l0 l1 l2) (spec_l16Code.F l0 l1 l2) := Lim.of (fun k => spec_l16Code.mono l0 l1 l2 k)
theorem spec_l16Code.L0_eq (x0 : List (S29)) (x1 : List Int) (x2 : List (S114)) (x7 : Int) : spec_l16Code.L0 x0 x1 x2 x7 = if x7 < (x2.length : Int) then (if 0 ≤ x7 then ((spec_l00In.f ((rd_T114 x2 x7).f0) 0 (wrap64 ((x0.length : Int) - 1))).bind fun t159 => (if t159 = true then (spec_l16Code.L0 x0 x1 x2 (wrap64 (x7 + 1))) else (some 2))) else (none)) else ((spec_l16Panels.F x1).bind fun t160 => (if t160 = true then (if (x2.length : Int) = (x1.length : Int) then (some 0) else (some 2)) else (some 2))) := by
  refine Lim.step (f := fun k => if x7 < (x2.length : Int) then (if 0 ≤ x7 then ((spec_l00In.f ((rd_T114 x2 x7).f0) 0 (wrap64 ((x0.length : Int) - 1))).bind fun t159 => (if t159 = true then (spec_l16Code.l0 k x0 x1 x2 (wrap64 (x7 + 1))) else (some 2))) else (none)) else ((spec_l16Panels.f k x1).bind fun t160 => (if t160 = true then (if (x2.length : Int) = (x1.length : Int) then (some 0) else (some 2)) else (some 2)))) (fun k => (spec_l16Code.mono_l k) x0 x1 x2 x7) (fun k => by simp only [spec_l16Code.l0]) ?_
  repeat' first
    | with_reducible exact Lim.const _
    | with_reducible exact spec_l16Code.L0_lim _ _ _ _
    | with_reducible exact spec_l16Panels.F_lim _
    | with_reducible refine Lim.ite ?_ ?_
    | with_reducible refine Lim.bind ?_ (fun _ => ?_)
theorem spec_l16Code.F_eq (l0 : List (S29)) (l1 : List Int) (l2 : List (S114)) : spec_l16Code.F l0 l1 l2 = (spec_l16Ok.F l0).bind fun t157 => (if t157 = true then (spec_l16Code.L0 l0 l1 l2 0) else (some 1)) := by
  refine Lim.eq (g := fun k => spec_l16Code.f k l0 l1 l2) ?_
  unfold spec_l16Code.f
  repeat' first
    | with_reducible exact Lim.const _
    | with_reducible exact spec_l16Code.L0_lim _ _ _ _
    | with_reducible exact spec_l16Ok.F_lim _
    | with_reducible refine Lim.ite ?_ ?_
    | with_reducible refine Lim.bind ?_ (fun _ => ?_)

noncomputable def spec_l16Parts.L0 (x0 : List (S29)) (x3 : List (List Int)) (x4 : Int) (x5 : Int) : Option ((List (List Int))) := lim (fun k => spec_l16Parts.l0 k x0 x3 x4 x5)
theorem spec_l16Parts.L0_lim (x0 : List (S29)) (x3 : List (List Int)) (x4 : Int) (x5 : Int) : Lim (fun k => spec_l16Parts.l0 k x0 x3 x4 x5) (spec_l16Parts.L0 x0 x3 x4 x5) := Lim.of (fun k => (spec_l16Parts.mono_l k) x0 x3 x4 x5)
noncomputable def spec_l16Parts.F (l0 : List (S29)) : Option ((List (List Int))) := lim (fun k => spec_l16Parts.f k l0)
theorem spec_l16Parts.F_lim (l0 : List (S29)) : Lim (fun k => spec_l16Parts.f k l0) (spec_l16Parts.F l0) := Lim.of (fun k => spec_l16Parts.mono l0 k)
theorem spec_l16Parts.L0_eq (x0 : List (S29)) (x3 : List (List Int)) (x4 : Int) (x5 : Int) : spec_l16Parts.L0 x0 x3 x4 x5 = if x5 < (((rd_T29 x0 0).f1).length : Int) then (if 0 ≤ x5 then (if x3.length < 5864062014805 then (spec_l16Parts.L0 x0 (x3 ++ [(([x4, rd ((rd_T29 x0 0).f1) x5] : List Int))]) (rd ((rd_T29 x0 0).f1) x5) (wrap64 (x5 + 1))) else (none)) else (none)) else (if x3.length < 5864062014805 then (some (x3 ++ [(([x4, (rd_T29 x0 0).f0] : List Int))])) else (none)) := by
  refine Lim.step (f := fun k => if x5 < (((rd_T29 x0 0).f1).length : Int) then (if 0 ≤ x5 then (if x3.length < 5864062014805 then (spec_l16Parts.l0 k x0 (x3 ++ [(([x4, rd ((rd_T29 x0 0).f1) x5] : List Int))]) (rd ((rd_T29 x0 0).f1) x5) (wrap64 (x5 + 1))) else (none)) else (none)) else (if x3.length < 5864062014805 then (some (x3 ++ [(([x4, (rd_T29 x0 0).f0] : List Int))])) else (none))) (fun k => (spec_l16Parts.mono_l k) x0 x3 x4 x5) (fun k => by simp only [spec_l16Parts.l0]) ?_
  repeat' first
    | with_reducible exact Lim.const _
    | with_reducible exact spec_l16Parts.L0_lim _ _ _ _
    | with_reducible refine Lim.ite ?_ ?_
    | with_reducible refine Lim.bind ?_ (fun _ => ?_)
theorem spec_l16Parts.F_eq (l0 : List (S29)) : spec_l16Parts.F l0 = if 0 < (l0.length : Int) then (spec_l16Parts.L0 l0 (([] : List (List Int))) 0 0) else (none) := by
  refine Lim.eq (g := fun k => spec_l16Parts.f k l0) ?_
  unfold spec_l16Parts.f
  repeat' first
    | with_reducible exact Lim.const _
    | with_reducible exact spec_l16Parts.L0_lim _ _ _ _
    | with_reducible refine Lim.ite ?_ ?_
    | with_reducible refine Lim.bind ?_ (fun _ => ?_)

noncomputable def spec_l16Sound.L0 (x1 : Int) (x2 : Int) (x7 : List (List Int)) (x8 : Int) : Option (Bool) := lim (fun k => spec_l16Sound.l0 k x1 x2 x7 x8)
theorem spec_l16Sound.L0_lim (x1 : Int) (x2 : Int) (x7 : List (List Int)) (x8 : Int) : Lim (fun k => spec_l16Sound.l0 k x1 x2 x7 x8) (spec_l16Sound.L0 x1 x2 x7 x8) := Lim.of (fun k => (spec_l16Sound.mono_l k) x1 x2 x7 x8)
noncomputable def spec_l16Sound.F (l0 : List (S29)) (a1 : Int) (a2 : Int) : Option (Bool) := lim (fun k => spec_l16Sound.f k l0 a1 a2)
theorem spec_l16Sound.F_lim (l0 : List (S29)) (a1 : Int) (a2 : Int) : Lim (fun k => spec_l16Sound.f k l0 a1 a2) (spec_l16Sound.F l0 a1 a2) := Lim.of (fun k => spec_l16Sound.mono l0 a1 a2 k)
theorem spec_l16Sound.L0_eq (x1 : Int) (x2 : Int) (x7 : List (List Int)) (x8 : Int) : spec_l16Sound.L0 x1 x2 x7 x8 = if x8 < (x7.length : Int) then (if 0 ≤ x8 then (if 0 < ((rd_L1 x7 x8).length : Int) then (if 1 < ((rd_L1 x7 x8).length : Int) then ((spec_l00In.f x1 (rd (rd_L1 x7 x8) 0) (wrap64 ((rd (rd_L1 x7 x8) 1) - x2))).bind fun t191 => (if t191 = true then (some true) else (spec_l16Sound.L0 x1 x2 x7 (wrap64 (x8 + 1))))) else (none)) else (none)) else (none)) else (some false) := by
  refine Lim.step (f := fun k => if x8 < (x7.length : Int) then (if 0 ≤ x8 then (if 0 < ((rd_L1 x7 x8).length : Int) then (if 1 < ((rd_L1 x7 x8).length : Int) then ((spec_l00In.f x1 (rd (rd_L1 x7 x8) 0) (wrap64 ((rd (rd_L1 x7 x8) 1) - x2))).bind fun t191 => (if t191 = true then (some true) else (spec_l16Sound.l0 k x1 x2 x7 (wrap64 (x8 + 1))))) else (none)) else (none)) else (none)) else (some false)) (fun k => (spec_l16Sound.mono_l k) x1 x2 x7 x8) (fun k => by simp only [spec_l16Sound.l0]) ?_
  repeat' first
    | with_reducible exact Lim.const _
    | with_reducible exact spec_l16Sound.L0_lim _ _ _ _
    | with_reducible refine Lim.ite ?_ ?_
    | with_reducible refine Lim.bind ?_ (fun _ => ?_)
theorem spec_l16Sound.F_eq (l0 : List (S29)) (a1 : Int) (a2 : Int) : spec_l16Sound.F l0 a1 a2 = if 0 < (l0.length : Int) then ((spec_l16Parts.F l0).bind fun t184 => (spec_l16Sound.L0 a1 a2 t184 0)) else (none) := by
  refine Lim.eq (g := fun k => spec_l16Sound.f k l0 a1 a2) ?_
  unfold spec_l16Sound.f
  repeat' first
    | with_reducible exact Lim.const _
    | with_reducible exact spec_l16Parts.F_lim _
    | with_reducible exact spec_l16Sound.L0_lim _ _ _ _
    | with_reducible refine Lim.ite ?_ ?_
    | with_reducible refine Lim.bind ?_ (fun _ => ?_)

noncomputable def spec_l16Fault.L0 (x0 : List (S29)) (x1 : List Int) (x2 : List (S114)) (x7 : Int) : Option (Int) := lim (fun k => spec_l16Fault.l0 k x0 x1 x2 x7)
theorem spec_l16Fault.L0_lim (x0 : List (S29)) (x1 : List Int) (x2 : List (S114)) (x7 : Int) : Lim (fun k => spec_l16Fault.l0 k x0 x1 x2 x7) (spec_l16Fault.L0 x0 x1 x2 x7) := Lim.of (fun k => (spec_l16Fault.mono_l k).1 x0 x1 x2 x7)
noncomputable def spec_l16Fault.L1 (x0 : List (S29)) (x1 : List Int) (x2 : List (S114)) (x7 : Int) (x9 : Int) (x194000 : Int) (x194001 : Int) : Option (Int) := lim (fun k => spec_l16Fault.l1 k x0 x1 x2 x7 x9 x194000 x194001)
theorem spec_l16Fault.L1_lim (x0 : List (S29)) (x1 : List Int) (x2 : List (S114)) (x7 : Int) (x9 : Int) (x194000 : Int) (x194001 : Int) : Lim (fun k => spec_l16Fault.l1 k x0 x1 x2 x7 x9 x194000 x194001) (spec_l16Fault.L1 x0 x1 x2 x7 x9 x194000 x194001) := Lim.of (fun k => (spec_l16Fault.mono_l k).2 x0 x1 x2 x7 x9 x194000 x194001)
noncomputable def spec_l16Fault.F (l0 : List (S29)) (l1 : List Int) (l2 : List (S114)) : Option (Int) := lim (fun k => spec_l16Fault.f k l0 l1 l2)
theorem spec_l16Fault.F_lim (l0 : List (S29)) (l1 : List Int) (l2 : List (S114)) : Lim (fun k => spec_l16Fault.f k l0 l1 l2) (spec_l16Fault.F l0 l1 l2) := Lim.of (fun k => spec_l16Fault.mono l0 l1 l2 k)
theorem spec_l16Fault.L0_eq (x0 : List (S29)) (x1 : List Int) (x2 : List (S114)) (x7 : Int) : spec_l16Fault.L0 x0 x1 x2 x7 = if x7 < (x2.length : Int) then (if 0 ≤ x7 then (if 0 ≤ ((rd_T114 x2 x7).f0) then (if ((rd_T114 x2 x7).f0) < (x0.length : Int) then (if x7 < (x1.length : Int) then ((spec_l16Sound.F [rd_T29 x0 ((rd_T114 x2 x7).f0)] ((rd_T114 x2 x7).f1) (rd x1 x7)).bind fun t197 => (if t197 = true then (spec_l16Fault.L1 x0 x1 x2 x7 0 ((rd_T114 x2 x7).f0) ((rd_T114 x2 x7).f1)) else (some x7))) else (none)) else (none)) else (none)) else (none)) else (some (-1)) := by
  refine Lim.step (f := fun k => if x7 < (x2.length : Int) then (if 0 ≤ x7 then (if 0 ≤ ((rd_T114 x2 x7).f0) then (if ((rd_T114 x2 x7).f0) < (x0.length : Int) then (if x7 < (x1.length : Int) then ((spec_l16Sound.f k [rd_T29 x0 ((rd_T114 x2 x7).f0)] ((rd_T114 x2 x7).f1) (rd x1 x7)).bind fun t197 => (if t197 = true then (spec_l16Fault.l1 k x0 x1 x2 x7 0 ((rd_T114 x2 x7).f0) ((rd_T114 x2 x7).f1)) else (some x7))) else (none)) else (none)) else (none)) else (none)) else (some (-1))) (fun k => (spec_l16Fault.mono_l k).1 x0 x1 x2 x7) (fun k => by simp only [spec_l16Fault.l0]) ?_
  repeat' first
    | with_reducible exact Lim.const _
    | with_reducible exact spec_l16Fault.L1_lim _ _ _ _ _ _ _
    | with_reducible exact spec_l16Sound.F_lim _ _ _
    | with_reducible refine Lim.ite ?_ ?_
    | with_reducible refine Lim.bind ?_ (fun _ => ?_)
theorem spec_l16Fault.L1_eq (x0 : List (S29)) (x1 : List Int) (x2 : List (S114)) (x7 : Int) (x9 : Int) (x194000 : Int) (x194001 : Int) : spec_l16Fault.L1 x0 x1 x2 x7 x9 x194000 x194001 = if x9 < x7 then (if 0 ≤ x9 then (if x9 < (x2.length : Int) then (if ((rd_T114 x2 x9).f0) = x194000 then (if 0 ≤ x7 then (if x7 < (x1.length : Int) then (if ((rd_T114 x2 x9).f1) < (wrap64 (x194001 + (rd x1 x7))) then (if x9 < (x1.length : Int) then (if x194001 < (wrap64 (((rd_T114 x2 x9).f1) + (rd x1 x9))) then (some x7) else (spec_l16Fault.L1 x0 x1 x2 x7 (wrap64 (x9 + 1)) x194000 x194001)) else (none)) else (spec_l16Fault.L1 x0 x1 x2 x7 (wrap64 (x9 + 1)) x194000 x194001)) else (none)) else (none)) else (spec_l16Fault.L1 x0 x1 x2 x7 (wrap64 (x9 + 1)) x194000 x194001)) else (none)) else (none)) else (spec_l16Fault.L0 x0 x1 x2 (wrap64 (x7 + 1))) := by
  refine Lim.step (f := fun k => if x9 < x7 then (if 0 ≤ x9 then (if x9 < (x2.length : Int) then (if ((rd_T114 x2 x9).f0) = x194000 then (if 0 ≤ x7 then (if x7 < (x1.length : Int) then (if ((rd_T114 x2 x9).f1) < (wrap64 (x194001 + (rd x1 x7))) then (if x9 < (x1.length : Int) then (if x194001 < (wrap64 (((rd_T114 x2 x9).f1) + (rd x1 x9))) then (some x7) else (spec_l16Fault.l1 k x0 x1 x2 x7 (wrap64 (x9 + 1)) x194000 x194001)) else (none)) else (spec_l16Fault.l1 k x0 x1 x2 x7 (wrap64 (x9 + 1)) x194000 x194001)) else (none)) else (none)) else (spec_l16Fault.l1 k x0 x1 x2 x7 (wrap64 (x9 + 1)) x194000 x194001)) else (none)) else (none)) else (spec_l16Fault.l0 k x0 x1 x2 (wrap64 (x7 + 1)))) (fun k => (spec_l16Fault.mono_l k).2 x0 x1 x2 x7 x9 x194000 x194001) (fun k => by simp only [spec_l16Fault.l1]) ?_
  repeat' first
    | with_reducible exact Lim.const _
    | with_reducible exact spec_l16Fault.L0_lim _ _ _ _
    | with_reducible exact spec_l16Fault.L1_lim _ _ _ _ _ _ _
    | with_reducible refine Lim.ite ?_ ?_
    | with_reducible refine Lim.bind ?_ (fun _ => ?_)
theorem spec_l16Fault.F_eq (l0 : List (S29)) (l1 : List Int) (l2 : List (S114)) : spec_l16Fault.F l0 l1 l2 = spec_l16Fault.L0 l0 l1 l2 0 := by
  refine Lim.eq (g := fun k => spec_l16Fault.f k l0 l1 l2) ?_
  unfold spec_l16Fault.f
  repeat' first
    | with_reducible exact Lim.const _
    | with_reducible exact spec_l16Fault.L0_lim _ _ _ _
    | with_reducible refine Lim.ite ?_ ?_
    | with_reducible refine Lim.bind ?_ (fun _ => ?_)

noncomputable def spec_ClothLeft.J0 (x0 : List (S29)) (x1 : List Int) (x2 : List (S114)) (x8 : Int) (x24 : Bool) : Option (List Int × Int) := lim (fun k => spec_ClothLeft.j0 k x0 x1 x2 x8 x24)
theorem spec_ClothLeft.J0_lim (x0 : List (S29)) (x1 : List Int) (x2 : List (S114)) (x8 : Int) (x24 : Bool) : Lim (fun k => spec_ClothLeft.j0 k x0 x1 x2 x8 x24) (spec_ClothLeft.J0 x0 x1 x2 x8 x24) := Lim.of (fun k => (spec_ClothLeft.mono_l k).1 x0 x1 x2 x8 x24)
noncomputable def spec_ClothLeft.J1 (x0 : List (S29)) (x1 : List Int) (x2 : List (S114)) (x8 : Int) : Option (List Int × Int) := lim (fun k => spec_ClothLeft.j1 k x0 x1 x2 x8)
theorem spec_ClothLeft.J1_lim (x0 : List (S29)) (x1 : List Int) (x2 : List (S114)) (x8 : Int) : Lim (fun k => spec_ClothLeft.j1 k x0 x1 x2 x8) (spec_ClothLeft.J1 x0 x1 x2 x8) := Lim.of (fun k => (spec_ClothLeft.mono_l k).2.1 x0 x1 x2 x8)
noncomputable def spec_ClothLeft.L0 (x0 : List (S29)) (x1 : List Int) (x2 : List (S114)) (x9 : List Int) (x10 : Int) : Option (List Int × Int) := lim (fun k => spec_ClothLeft.l0 k x0 x1 x2 x9 x10)
theorem spec_ClothLeft.L0_lim (x0 : List (S29)) (x1 : List Int) (x2 : List (S114)) (x9 : List Int) (x10 : Int) : Lim (fun k => spec_ClothLeft.l0 k x0 x1 x2 x9 x10) (spec_ClothLeft.L0 x0 x1 x2 x9 x10) := Lim.of (fun k => (spec_ClothLeft.mono_l k).2.2.1 x0 x1 x2 x9 x10)
noncomputable def spec_ClothLeft.L1 (x1 : List Int) (x2 : List (S114)) (x9 : List Int) (x11 : Int) : Option (List Int × Int) := lim (fun k => spec_ClothLeft.l1 k x1 x2 x9 x11)
theorem spec_ClothLeft.L1_lim (x1 : List Int) (x2 : List (S114)) (x9 : List Int) (x11 : Int) : Lim (fun k => spec_ClothLeft.l1 k x1 x2 x9 x11) (spec_ClothLeft.L1 x1 x2 x9 x11) := Lim.of (fun k => (spec_ClothLeft.mono_l k).2.2.2 x1 x2 x9 x11)
noncomputable def spec_ClothLeft.F (l0 : List (S29)) (l1 : List Int) (l2 : List (S114)) : Option (List Int × Int) := lim (fun k => spec_ClothLeft.f k l0 l1 l2)
theorem spec_ClothLeft.F_lim (l0 : List (S29)) (l1 : List Int) (l2 : List (S114)) : Lim (fun k => spec_ClothLeft.f k l0 l1 l2) (spec_ClothLeft.F l0 l1 l2) := Lim.of (fun k => spec_ClothLeft.mono l0 l1 l2 k)
theorem spec_ClothLeft.J0_eq (x0 : List (S29)) (x1 : List Int) (x2 : List (S114)) (x8 : Int) (x24 : Bool) : spec_ClothLeft.J0 x0 x1 x2 x8 x24 = if x24 = true then (spec_ClothLeft.J1 x0 x1 x2 6) else (spec_ClothLeft.J1 x0 x1 x2 x8) := by
  refine Lim.step (f := fun k => if x24 = true then (spec_ClothLeft.j1 k x0 x1 x2 6) else (spec_ClothLeft.j1 k x0 x1 x2 x8)) (fun k => (spec_ClothLeft.mono_l k).1 x0 x1 x2 x8 x24) (fun k => by simp only [spec_ClothLeft.j0]) ?_
  repeat' first
    | with_reducible exact Lim.const _
    | with_reducible exact spec_ClothLeft.J1_lim _ _ _ _
    | with_reducible refine Lim.ite ?_ ?_
    | with_reducible refine Lim.bind ?_ (fun _ => ?_)
theorem spec_ClothLeft.J1_eq (x0 : List (S29)) (x1 : List Int) (x2 : List (S114)) (x8 : Int) : spec_ClothLeft.J1 x0 x1 x2 x8 = if x8 = 0 then (spec_ClothLeft.L0 x0 x1 x2 (([] : List Int)) 0) else (some (([] : List Int), x8)) := by
  refine Lim.step (f := fun k => if x8 = 0 then (spec_ClothLeft.l0 k x0 x1 x2 (([] : List Int)) 0) else (some (([] : List Int), x8))) (fun k => (spec_ClothLeft.mono_l k).2.1 x0 x1 x2 x8) (fun k => by simp only [spec_ClothLeft.j1]) ?_
  repeat' first
    | with_reducible exact Lim.const _
    | with_reducible exact spec_ClothLeft.L0_lim _ _ _ _ _
    | with_reducible refine Lim.ite ?_ ?_
    | with_reducible refine Lim.bind ?_ (fun _ => ?_)
theorem spec_ClothLeft.L0_eq (x0 : List (S29)) (x1 : List Int) (x2 : List (S114)) (x9 : List Int) (x10 : Int) : spec_ClothLeft.L0 x0 x1 x2 x9 x10 = if x10 < (x0.length : Int) then (if 0 ≤ x10 then (if x9.length < 17592186044416 then (spec_ClothLeft.L0 x0 x1 x2 (x9 ++ [(rd_T29 x0 x10).f0]) (wrap64 (x10 + 1))) else (none)) else (none)) else (spec_ClothLeft.L1 x1 x2 x9 0) := by
  refine Lim.step (f := fun k => if x10 < (x0.length : Int) then (if 0 ≤ x10 then (if x9.length < 17592186044416 then (spec_ClothLeft.l0 k x0 x1 x2 (x9 ++ [(rd_T29 x0 x10).f0]) (wrap64 (x10 + 1))) else (none)) else (none)) else (spec_ClothLeft.l1 k x1 x2 x9 0)) (fun k => (spec_ClothLeft.mono_l k).2.2.1 x0 x1 x2 x9 x10) (fun k => by simp only [spec_ClothLeft.l0]) ?_
  repeat' first
    | with_reducible exact Lim.const _
    | with_reducible exact spec_ClothLeft.L0_lim _ _ _ _ _
    | with_reducible exact spec_ClothLeft.L1_lim _ _ _ _
    | with_reducible refine Lim.ite ?_ ?_
    | with_reducible refine Lim.bind ?_ (fun _ => ?_)
theorem spec_ClothLeft.L1_eq (x1 : List Int) (x2 : List (S114)) (x9 : List Int) (x11 : Int) : spec_ClothLeft.L1 x1 x2 x9 x11 = if x11 < (x2.length : Int) then (if 0 ≤ x11 then (if 0 ≤ ((rd_T114 x2 x11).f0) then (if ((rd_T114 x2 x11).f0) < (x9.length : Int) then (if x11 < (x1.length : Int) then (spec_ClothLeft.L1 x1 x2 (x9.set (((rd_T114 x2 x11).f0) : Int).toNat (wrap64 ((rd x9 ((rd_T114 x2 x11).f0)) - (rd x1 x11)))) (wrap64 (x11 + 1))) else (none)) else (none)) else (none)) else (none)) else (some (x9, 0)) := by
  refine Lim.step (f := fun k => if x11 < (x2.length : Int) then (if 0 ≤ x11 then (if 0 ≤ ((rd_T114 x2 x11).f0) then (if ((rd_T114 x2 x11).f0) < (x9.length : Int) then (if x11 < (x1.length : Int) then (spec_ClothLeft.l1 k x1 x2 (x9.set (((rd_T114 x2 x11).f0) : Int).toNat (wrap64 ((rd x9 ((rd_T114 x2 x11).f0)) - (rd x1 x11)))) (wrap64 (x11 + 1))) else (none)) else (none)) else (none)) else (none)) else (some (x9, 0))) (fun k => (spec_ClothLeft.mono_l k).2.2.2 x1 x2 x9 x11) (fun k => by simp only [spec_ClothLeft.l1]) ?_
  repeat' first
    | with_reducible exact Lim.const _
    | with_reducible exact spec_ClothLeft.L1_lim _ _ _ _
    | with_reducible refine Lim.ite ?_ ?_
    | with_reducible refine Lim.bind ?_ (fun _ => ?_)
theorem spec_ClothLeft.F_eq (l0 : List (S29)) (l1 : List Int) (l2 : List (S114)) : spec_ClothLeft.F l0 l1 l2 = (spec_l16Code.F l0 l1 l2).bind fun t203 => (if t203 = 0 then ((spec_l16Fault.F l0 l1 l2).bind fun t204 => (spec_ClothLeft.J0 l0 l1 l2 t203 (decide (t204 ≥ 0)))) else (spec_ClothLeft.J0 l0 l1 l2 t203 false)) := by
  refine Lim.eq (g := fun k => spec_ClothLeft.f k l0 l1 l2) ?_
  unfold spec_ClothLeft.f
  repeat' first
    | with_reducible exact Lim.const _
    | with_reducible exact spec_ClothLeft.J0_lim _ _ _ _ _
    | with_reducible exact spec_l16Code.F_lim _ _ _
    | with_reducible exact spec_l16Fault.F_lim _ _ _
    | with_reducible refine Lim.ite ?_ ?_
    | with_reducible refine Lim.bind ?_ (fun _ => ?_)

noncomputable def laws_toPieceS.L0 (x0 : List (S124)) (x3 : List (S114)) (x4 : Int) : Option ((List (S114))) := lim (fun k => laws_toPieceS.l0 k x0 x3 x4)
theorem laws_toPieceS.L0_lim (x0 : List (S124)) (x3 : List (S114)) (x4 : Int) : Lim (fun k => laws_toPieceS.l0 k x0 x3 x4) (laws_toPieceS.L0 x0 x3 x4) := Lim.of (fun k => (laws_toPieceS.mono_l k) x0 x3 x4)
noncomputable def laws_toPieceS.F (l0 : List (S124)) : Option ((List (S114))) := lim (fun k => laws_toPieceS.f k l0)
theorem laws_toPieceS.F_lim (l0 : List (S124)) : Lim (fun k => laws_toPieceS.f k l0) (laws_toPieceS.F l0) := Lim.of (fun k => laws_toPieceS.mono l0 k)
theorem laws_toPieceS.L0_eq (x0 : List (S124)) (x3 : List (S114)) (x4 : Int) : laws_toPieceS.L0 x0 x3 x4 = if x4 < (x0.length : Int) then (if 0 ≤ x4 then ((laws_toPiece.f ((rd_T124 x0 x4).f0) ((rd_T124 x0 x4).f1)).bind fun bt223 => (if x4 < (x3.length : Int) then (laws_toPieceS.L0 x0 (x3.set (x4 : Int).toNat (⟨bt223.1, bt223.2⟩ : S114)) (wrap64 (x4 + 1))) else (none))) else (none)) else (some x3) := by
  refine Lim.step (f := fun k => if x4 < (x0.length : Int) then (if 0 ≤ x4 then ((laws_toPiece.f ((rd_T124 x0 x4).f0) ((rd_T124 x0 x4).f1)).bind fun bt223 => (if x4 < (x3.length : Int) then (laws_toPieceS.l0 k x0 (x3.set (x4 : Int).toNat (⟨bt223.1, bt223.2⟩ : S114)) (wrap64 (x4 + 1))) else (none))) else (none)) else (some x3)) (fun k => (laws_toPieceS.mono_l k) x0 x3 x4) (fun k => by simp only [laws_toPieceS.l0]) ?_
  repeat' first
    | with_reducible exact Lim.const _
    | with_reducible exact laws_toPieceS.L0_lim _ _ _
    | with_reducible refine Lim.ite ?_ ?_
    | with_reducible refine Lim.bind ?_ (fun _ => ?_)
theorem laws_toPieceS.F_eq (l0 : List (S124)) : laws_toPieceS.F l0 = if 0 ≤ (l0.length : Int) then (if ((l0.length : Int) : Int).toNat ≤ 17592186044416 then (laws_toPieceS.L0 l0 (List.replicate ((l0.length : Int) : Int).toNat z114) 0) else (none)) else (none) := by
  refine Lim.eq (g := fun k => laws_toPieceS.f k l0) ?_
  unfold laws_toPieceS.f
  repeat' first
    | with_reducible exact Lim.const _
    | with_reducible exact laws_toPieceS.L0_lim _ _ _
    | with_reducible refine Lim.ite ?_ ?_
    | with_reducible refine Lim.bind ?_ (fun _ => ?_)

noncomputable def impl_validBolt.J0 (x14 : Bool) (x227000 : Int) (x227001 : List Int) : Option (Bool) := lim (fun k => impl_validBolt.j0 k x14 x227000 x227001)
theorem impl_validBolt.J0_lim (x14 : Bool) (x227000 : Int) (x227001 : List Int) : Lim (fun k => impl_validBolt.j0 k x14 x227000 x227001) (impl_validBolt.J0 x14 x227000 x227001) := Lim.of (fun k => (impl_validBolt.mono_l k).1 x14 x227000 x227001)
noncomputable def impl_validBolt.L0 (x16 : List Int) (x17 : Int) (x18 : Int) (x227000 : Int) (x227001 : List Int) : Option (Bool) := lim (fun k => impl_validBolt.l0 k x16 x17 x18 x227000 x227001)
theorem impl_validBolt.L0_lim (x16 : List Int) (x17 : Int) (x18 : Int) (x227000 : Int) (x227001 : List Int) : Lim (fun k => impl_validBolt.l0 k x16 x17 x18 x227000 x227001) (impl_validBolt.L0 x16 x17 x18 x227000 x227001) := Lim.of (fun k => (impl_validBolt.mono_l k).2 x16 x17 x18 x227000 x227001)
noncomputable def impl_validBolt.F (a0_0 : Int) (l0_1 : List Int) : Option (Bool) := lim (fun k => impl_validBolt.f k a0_0 l0_1)
theorem impl_validBolt.F_lim (a0_0 : Int) (l0_1 : List Int) : Lim (fun k => impl_validBolt.f k a0_0 l0_1) (impl_validBolt.F a0_0 l0_1) := Lim.of (fun k => impl_validBolt.mono a0_0 l0_1 k)
theorem impl_validBolt.J0_eq (x14 : Bool) (x227000 : Int) (x227001 : List Int) : impl_validBolt.J0 x14 x227000 x227001 = if x14 = true then (some false) else (impl_validBolt.L0 x227001 (x227001.length : Int) 0 x227000 x227001) := by
  refine Lim.step (f := fun k => if x14 = true then (some false) else (impl_validBolt.l0 k x227001 (x227001.length : Int) 0 x227000 x227001)) (fun k => (impl_validBolt.mono_l k).1 x14 x227000 x227001) (fun k => by simp only [impl_validBolt.j0]) ?_
  repeat' first
    | with_reducible exact Lim.const _
    | with_reducible exact impl_validBolt.L0_lim _ _ _ _ _
    | with_reducible refine Lim.ite ?_ ?_
    | with_reducible refine Lim.bind ?_ (fun _ => ?_)
theorem impl_validBolt.L0_eq (x16 : List Int) (x17 : Int) (x18 : Int) (x227000 : Int) (x227001 : List Int) : impl_validBolt.L0 x16 x17 x18 x227000 x227001 = if x18 < x17 then (if 0 ≤ x18 then (if x18 < (x16.length : Int) then ((impl_within.f (rd x16 x18) 1 (wrap64 (x227000 - 1))).bind fun t229 => (if t229 = true then (if x18 > 0 then (if 0 ≤ (wrap64 (x18 - 1)) then (if (wrap64 (x18 - 1)) < (x227001.length : Int) then (if (rd x16 x18) ≤ (rd x227001 (wrap64 (x18 - 1))) then (some false) else (impl_validBolt.L0 x16 x17 (wrap64 (x18 + 1)) x227000 x227001)) else (none)) else (none)) else (impl_validBolt.L0 x16 x17 (wrap64 (x18 + 1)) x227000 x227001)) else (some false))) else (none)) else (none)) else (some true) := by
  refine Lim.step (f := fun k => if x18 < x17 then (if 0 ≤ x18 then (if x18 < (x16.length : Int) then ((impl_within.f (rd x16 x18) 1 (wrap64 (x227000 - 1))).bind fun t229 => (if t229 = true then (if x18 > 0 then (if 0 ≤ (wrap64 (x18 - 1)) then (if (wrap64 (x18 - 1)) < (x227001.length : Int) then (if (rd x16 x18) ≤ (rd x227001 (wrap64 (x18 - 1))) then (some false) else (impl_validBolt.l0 k x16 x17 (wrap64 (x18 + 1)) x227000 x227001)) else (none)) else (none)) else (impl_validBolt.l0 k x16 x17 (wrap64 (x18 + 1)) x227000 x227001)) else (some false))) else (none)) else (none)) else (some true)) (fun k => (impl_validBolt.mono_l k).2 x16 x17 x18 x227000 x227001) (fun k => by simp only [impl_validBolt.l0]) ?_
  repeat' first
    | with_reducible exact Lim.const _
    | with_reducible exact impl_validBolt.L0_lim _ _ _ _ _
    | with_reducible refine Lim.ite ?_ ?_
    | with_reducible refine Lim.bind ?_ (fun _ => ?_)
theorem impl_validBolt.F_eq (a0_0 : Int) (l0_1 : List Int) : impl_validBolt.F a0_0 l0_1 = (impl_within.f a0_0 1 10000).bind fun t227 => (if t227 = true then (impl_validBolt.J0 (decide ((l0_1.length : Int) > 6)) a0_0 l0_1) else (impl_validBolt.J0 true a0_0 l0_1)) := by
  refine Lim.eq (g := fun k => impl_validBolt.f k a0_0 l0_1) ?_
  unfold impl_validBolt.f
  repeat' first
    | with_reducible exact Lim.const _
    | with_reducible exact impl_validBolt.J0_lim _ _ _
    | with_reducible refine Lim.ite ?_ ?_
    | with_reducible refine Lim.bind ?_ (fun _ => ?_)

noncomputable def impl_ValidBolts.L0 (x8 : List (S29)) (x9 : Int) (x10 : Int) : Option (Bool) := lim (fun k => impl_ValidBolts.l0 k x8 x9 x10)
theorem impl_ValidBolts.L0_lim (x8 : List (S29)) (x9 : Int) (x10 : Int) : Lim (fun k => impl_ValidBolts.l0 k x8 x9 x10) (impl_ValidBolts.L0 x8 x9 x10) := Lim.of (fun k => (impl_ValidBolts.mono_l k) x8 x9 x10)
noncomputable def impl_ValidBolts.F (l0 : List (S29)) : Option (Bool) := lim (fun k => impl_ValidBolts.f k l0)
theorem impl_ValidBolts.F_lim (l0 : List (S29)) : Lim (fun k => impl_ValidBolts.f k l0) (impl_ValidBolts.F l0) := Lim.of (fun k => impl_ValidBolts.mono l0 k)
theorem impl_ValidBolts.L0_eq (x8 : List (S29)) (x9 : Int) (x10 : Int) : impl_ValidBolts.L0 x8 x9 x10 = if x10 < x9 then (if 0 ≤ x10 then (if x10 < (x8.length : Int) then ((impl_validBolt.F ((rd_T29 x8 x10).f0) ((rd_T29 x8 x10).f1)).bind fun t233 => (if t233 = true then (impl_ValidBolts.L0 x8 x9 (wrap64 (x10 + 1))) else (some false))) else (none)) else (none)) else (some true) := by
  refine Lim.step (f := fun k => if x10 < x9 then (if 0 ≤ x10 then (if x10 < (x8.length : Int) then ((impl_validBolt.f k ((rd_T29 x8 x10).f0) ((rd_T29 x8 x10).f1)).bind fun t233 => (if t233 = true then (impl_ValidBolts.l0 k x8 x9 (wrap64 (x10 + 1))) else (some false))) else (none)) else (none)) else (some true)) (fun k => (impl_ValidBolts.mono_l k) x8 x9 x10) (fun k => by simp only [impl_ValidBolts.l0]) ?_
  repeat' first
    | with_reducible exact Lim.const _
    | with_reducible exact impl_ValidBolts.L0_lim _ _ _
    | with_reducible exact impl_validBolt.F_lim _ _
    | with_reducible refine Lim.ite ?_ ?_
    | with_reducible refine Lim.bind ?_ (fun _ => ?_)
theorem impl_ValidBolts.F_eq (l0 : List (S29)) : impl_ValidBolts.F l0 = if (l0.length : Int) > 4 then (some false) else (impl_ValidBolts.L0 l0 (l0.length : Int) 0) := by
  refine Lim.eq (g := fun k => impl_ValidBolts.f k l0) ?_
  unfold impl_ValidBolts.f
  repeat' first
    | with_reducible exact Lim.const _
    | with_reducible exact impl_ValidBolts.L0_lim _ _ _
    | with_reducible refine Lim.ite ?_ ?_
    | with_reducible refine Lim.bind ?_ (fun _ => ?_)

noncomputable def impl_areIn.L0 (x2 : Int) (x3 : Int) (x15 : List Int) (x16 : Int) (x17 : Int) : Option (Bool) := lim (fun k => impl_areIn.l0 k x2 x3 x15 x16 x17)
theorem impl_areIn.L0_lim (x2 : Int) (x3 : Int) (x15 : List Int) (x16 : Int) (x17 : Int) : Lim (fun k => impl_areIn.l0 k x2 x3 x15 x16 x17) (impl_areIn.L0 x2 x3 x15 x16 x17) := Lim.of (fun k => (impl_areIn.mono_l k) x2 x3 x15 x16 x17)
noncomputable def impl_areIn.F (l0 : List Int) (a1 : Int) (a2 : Int) (a3 : Int) : Option (Bool) := lim (fun k => impl_areIn.f k l0 a1 a2 a3)
theorem impl_areIn.F_lim (l0 : List Int) (a1 : Int) (a2 : Int) (a3 : Int) : Lim (fun k => impl_areIn.f k l0 a1 a2 a3) (impl_areIn.F l0 a1 a2 a3) := Lim.of (fun k => impl_areIn.mono l0 a1 a2 a3 k)
theorem impl_areIn.L0_eq (x2 : Int) (x3 : Int) (x15 : List Int) (x16 : Int) (x17 : Int) : impl_areIn.L0 x2 x3 x15 x16 x17 = if x17 < x16 then (if 0 ≤ x17 then (if x17 < (x15.length : Int) then ((impl_within.f (rd x15 x17) x2 x3).bind fun t235 => (if t235 = true then (impl_areIn.L0 x2 x3 x15 x16 (wrap64 (x17 + 1))) else (some false))) else (none)) else (none)) else (some true) := by
  refine Lim.step (f := fun k => if x17 < x16 then (if 0 ≤ x17 then (if x17 < (x15.length : Int) then ((impl_within.f (rd x15 x17) x2 x3).bind fun t235 => (if t235 = true then (impl_areIn.l0 k x2 x3 x15 x16 (wrap64 (x17 + 1))) else (some false))) else (none)) else (none)) else (some true)) (fun k => (impl_areIn.mono_l k) x2 x3 x15 x16 x17) (fun k => by simp only [impl_areIn.l0]) ?_
  repeat' first
    | with_reducible exact Lim.const _
    | with_reducible exact impl_areIn.L0_lim _ _ _ _ _
    | with_reducible refine Lim.ite ?_ ?_
    | with_reducible refine Lim.bind ?_ (fun _ => ?_)
theorem impl_areIn.F_eq (l0 : List Int) (a1 : Int) (a2 : Int) (a3 : Int) : impl_areIn.F l0 a1 a2 a3 = if (l0.length : Int) = a1 then (impl_areIn.L0 a2 a3 l0 (l0.length : Int) 0) else (some false) := by
  refine Lim.eq (g := fun k => impl_areIn.f k l0 a1 a2 a3) ?_
  unfold impl_areIn.f
  repeat' first
    | with_reducible exact Lim.const _
    | with_reducible exact impl_areIn.L0_lim _ _ _ _ _
    | with_reducible refine Lim.ite ?_ ?_
    | with_reducible refine Lim.bind ?_ (fun _ => ?_)

noncomputable def impl_panelsCode.F (l0 : List (S29)) (l1 : List Int) : Option (Int) := lim (fun k => impl_panelsCode.f k l0 l1)
theorem impl_panelsCode.F_lim (l0 : List (S29)) (l1 : List Int) : Lim (fun k => impl_panelsCode.f k l0 l1) (impl_panelsCode.F l0 l1) := Lim.of (fun k => impl_panelsCode.mono l0 l1 k)
theorem impl_panelsCode.F_eq (l0 : List (S29)) (l1 : List Int) : impl_panelsCode.F l0 l1 = (impl_ValidBolts.F l0).bind fun t236 => (if t236 = true then (if (l1.length : Int) > 6 then (some 2) else ((impl_areIn.F l1 (l1.length : Int) 1 10000).bind fun t237 => (if t237 = true then (some 0) else (some 2)))) else (some 1)) := by
  refine Lim.eq (g := fun k => impl_panelsCode.f k l0 l1) ?_
  unfold impl_panelsCode.f
  repeat' first
    | with_reducible exact Lim.const _
    | with_reducible exact impl_ValidBolts.F_lim _
    | with_reducible exact impl_areIn.F_lim _ _ _ _
    | with_reducible refine Lim.ite ?_ ?_
    | with_reducible refine Lim.bind ?_ (fun _ => ?_)

noncomputable def impl_placesCode.L0 (x0 : List (S29)) (x21 : List (S114)) (x22 : Int) (x23 : Int) : Option (Int) := lim (fun k => impl_placesCode.l0 k x0 x21 x22 x23)
theorem impl_placesCode.L0_lim (x0 : List (S29)) (x21 : List (S114)) (x22 : Int) (x23 : Int) : Lim (fun k => impl_placesCode.l0 k x0 x21 x22 x23) (impl_placesCode.L0 x0 x21 x22 x23) := Lim.of (fun k => (impl_placesCode.mono_l k) x0 x21 x22 x23)
noncomputable def impl_placesCode.F (l0 : List (S29)) (l1 : List Int) (l2 : List (S114)) : Option (Int) := lim (fun k => impl_placesCode.f k l0 l1 l2)
theorem impl_placesCode.F_lim (l0 : List (S29)) (l1 : List Int) (l2 : List (S114)) : Lim (fun k => impl_placesCode.f k l0 l1 l2) (impl_placesCode.F l0 l1 l2) := Lim.of (fun k => impl_placesCode.mono l0 l1 l2 k)
theorem impl_placesCode.L0_eq (x0 : List (S29)) (x21 : List (S114)) (x22 : Int) (x23 : Int) : impl_placesCode.L0 x0 x21 x22 x23 = if x23 < x22 then (if 0 ≤ x23 then (if x23 < (x21.length : Int) then ((impl_within.f ((rd_T114 x21 x23).f0) 0 (wrap64 ((x0.length : Int) - 1))).bind fun t241 => (if t241 = true then (impl_placesCode.L0 x0 x21 x22 (wrap64 (x23 + 1))) else (some 2))) else (none)) else (none)) else (some 0) := by
  refine Lim.step (f := fun k => if x23 < x22 then (if 0 ≤ x23 then (if x23 < (x21.length : Int) then ((impl_within.f ((rd_T114 x21 x23).f0) 0 (wrap64 ((x0.length : Int) - 1))).bind fun t241 => (if t241 = true then (impl_placesCode.l0 k x0 x21 x22 (wrap64 (x23 + 1))) else (some 2))) else (none)) else (none)) else (some 0)) (fun k => (impl_placesCode.mono_l k) x0 x21 x22 x23) (fun k => by simp only [impl_placesCode.l0]) ?_
  repeat' first
    | with_reducible exact Lim.const _
    | with_reducible exact impl_placesCode.L0_lim _ _ _ _
    | with_reducible refine Lim.ite ?_ ?_
    | with_reducible refine Lim.bind ?_ (fun _ => ?_)
theorem impl_placesCode.F_eq (l0 : List (S29)) (l1 : List Int) (l2 : List (S114)) : impl_placesCode.F l0 l1 l2 = (impl_panelsCode.F l0 l1).bind fun t238 => (if t238 = 0 then (if (l2.length : Int) = (l1.length : Int) then (impl_placesCode.L0 l0 l2 (l2.length : Int) 0) else (some 2)) else (some t238)) := by
  refine Lim.eq (g := fun k => impl_placesCode.f k l0 l1 l2) ?_
  unfold impl_placesCode.f
  repeat' first
    | with_reducible exact Lim.const _
    | with_reducible exact impl_panelsCode.F_lim _ _
    | with_reducible exact impl_placesCode.L0_lim _ _ _ _
    | with_reducible refine Lim.ite ?_ ?_
    | with_reducible refine Lim.bind ?_ (fun _ => ?_)

noncomputable def impl_soundParts.L0 (x3 : List (List Int)) (x4 : Int) (x9 : List Int) (x10 : Int) (x11 : Int) (x243000 : Int) (x243001 : List Int) : Option ((List (List Int))) := lim (fun k => impl_soundParts.l0 k x3 x4 x9 x10 x11 x243000 x243001)
theorem impl_soundParts.L0_lim (x3 : List (List Int)) (x4 : Int) (x9 : List Int) (x10 : Int) (x11 : Int) (x243000 : Int) (x243001 : List Int) : Lim (fun k => impl_soundParts.l0 k x3 x4 x9 x10 x11 x243000 x243001) (impl_soundParts.L0 x3 x4 x9 x10 x11 x243000 x243001) := Lim.of (fun k => (impl_soundParts.mono_l k) x3 x4 x9 x10 x11 x243000 x243001)
noncomputable def impl_soundParts.F (a0_0 : Int) (l0_1 : List Int) : Option ((List (List Int))) := lim (fun k => impl_soundParts.f k a0_0 l0_1)
theorem impl_soundParts.F_lim (a0_0 : Int) (l0_1 : List Int) : Lim (fun k => impl_soundParts.f k a0_0 l0_1) (impl_soundParts.F a0_0 l0_1) := Lim.of (fun k => impl_soundParts.mono a0_0 l0_1 k)
theorem impl_soundParts.L0_eq (x3 : List (List Int)) (x4 : Int) (x9 : List Int) (x10 : Int) (x11 : Int) (x243000 : Int) (x243001 : List Int) : impl_soundParts.L0 x3 x4 x9 x10 x11 x243000 x243001 = if x11 < x10 then (if 0 ≤ x11 then (if x11 < (x9.length : Int) then (if x3.length < 5864062014805 then (impl_soundParts.L0 (x3 ++ [(([x4, rd x9 x11] : List Int))]) (rd x9 x11) x9 x10 (wrap64 (x11 + 1)) x243000 x243001) else (none)) else (none)) else (none)) else (if x3.length < 5864062014805 then (some (x3 ++ [(([x4, x243000] : List Int))])) else (none)) := by
  refine Lim.step (f := fun k => if x11 < x10 then (if 0 ≤ x11 then (if x11 < (x9.length : Int) then (if x3.length < 5864062014805 then (impl_soundParts.l0 k (x3 ++ [(([x4, rd x9 x11] : List Int))]) (rd x9 x11) x9 x10 (wrap64 (x11 + 1)) x243000 x243001) else (none)) else (none)) else (none)) else (if x3.length < 5864062014805 then (some (x3 ++ [(([x4, x243000] : List Int))])) else (none))) (fun k => (impl_soundParts.mono_l k) x3 x4 x9 x10 x11 x243000 x243001) (fun k => by simp only [impl_soundParts.l0]) ?_
  repeat' first
    | with_reducible exact Lim.const _
    | with_reducible exact impl_soundParts.L0_lim _ _ _ _ _ _ _
    | with_reducible refine Lim.ite ?_ ?_
    | with_reducible refine Lim.bind ?_ (fun _ => ?_)
theorem impl_soundParts.F_eq (a0_0 : Int) (l0_1 : List Int) : impl_soundParts.F a0_0 l0_1 = impl_soundParts.L0 (([] : List (List Int))) 0 l0_1 (l0_1.length : Int) 0 a0_0 l0_1 := by
  refine Lim.eq (g := fun k => impl_soundParts.f k a0_0 l0_1) ?_
  unfold impl_soundParts.f
  repeat' first
    | with_reducible exact Lim.const _
    | with_reducible exact impl_soundParts.L0_lim _ _ _ _ _ _ _
    | with_reducible refine Lim.ite ?_ ?_
    | with_reducible refine Lim.bind ?_ (fun _ => ?_)

noncomputable def impl_pieceFault.L0 (x0 : List (S29)) (x1 : List Int) (x2 : List (S114)) (x14 : List (S114)) (x15 : Int) (x16 : Int) : Option (Int) := lim (fun k => impl_pieceFault.l0 k x0 x1 x2 x14 x15 x16)
theorem impl_pieceFault.L0_lim (x0 : List (S29)) (x1 : List Int) (x2 : List (S114)) (x14 : List (S114)) (x15 : Int) (x16 : Int) : Lim (fun k => impl_pieceFault.l0 k x0 x1 x2 x14 x15 x16) (impl_pieceFault.L0 x0 x1 x2 x14 x15 x16) := Lim.of (fun k => (impl_pieceFault.mono_l k).1 x0 x1 x2 x14 x15 x16)
noncomputable def impl_pieceFault.L1 (x0 : List (S29)) (x1 : List Int) (x2 : List (S114)) (x7 : Int) (x9 : Bool) (x14 : List (S114)) (x15 : Int) (x16 : Int) (x26 : List (List Int)) (x27 : Int) (x28 : Int) (x261000 : Int) (x261001 : Int) : Option (Int) := lim (fun k => impl_pieceFault.l1 k x0 x1 x2 x7 x9 x14 x15 x16 x26 x27 x28 x261000 x261001)
theorem impl_pieceFault.L1_lim (x0 : List (S29)) (x1 : List Int) (x2 : List (S114)) (x7 : Int) (x9 : Bool) (x14 : List (S114)) (x15 : Int) (x16 : Int) (x26 : List (List Int)) (x27 : Int) (x28 : Int) (x261000 : Int) (x261001 : Int) : Lim (fun k => impl_pieceFault.l1 k x0 x1 x2 x7 x9 x14 x15 x16 x26 x27 x28 x261000 x261001) (impl_pieceFault.L1 x0 x1 x2 x7 x9 x14 x15 x16 x26 x27 x28 x261000 x261001) := Lim.of (fun k => (impl_pieceFault.mono_l k).2.1 x0 x1 x2 x7 x9 x14 x15 x16 x26 x27 x28 x261000 x261001)
noncomputable def impl_pieceFault.L2 (x0 : List (S29)) (x1 : List Int) (x2 : List (S114)) (x7 : Int) (x14 : List (S114)) (x15 : Int) (x16 : Int) (x68 : List (S114)) (x69 : Int) (x70 : Int) (x261000 : Int) (x261001 : Int) : Option (Int) := lim (fun k => impl_pieceFault.l2 k x0 x1 x2 x7 x14 x15 x16 x68 x69 x70 x261000 x261001)
theorem impl_pieceFault.L2_lim (x0 : List (S29)) (x1 : List Int) (x2 : List (S114)) (x7 : Int) (x14 : List (S114)) (x15 : Int) (x16 : Int) (x68 : List (S114)) (x69 : Int) (x70 : Int) (x261000 : Int) (x261001 : Int) : Lim (fun k => impl_pieceFault.l2 k x0 x1 x2 x7 x14 x15 x16 x68 x69 x70 x261000 x261001) (impl_pieceFault.L2 x0 x1 x2 x7 x14 x15 x16 x68 x69 x70 x261000 x261001) := Lim.of (fun k => (impl_pieceFault.mono_l k).2.2 x0 x1 x2 x7 x14 x15 x16 x68 x69 x70 x261000 x261001)
noncomputable def impl_pieceFault.F (l0 : List (S29)) (l1 : List Int) (l2 : List (S114)) : Option (Int) := lim (fun k => impl_pieceFault.f k l0 l1 l2)
theorem impl_pieceFault.F_lim (l0 : List (S29)) (l1 : List Int) (l2 : List (S114)) : Lim (fun k => impl_pieceFault.f k l0 l1 l2) (impl_pieceFault.F l0 l1 l2) := Lim.of (fun k => impl_pieceFault.mono l0 l1 l2 k)
theorem impl_pieceFault.L0_eq (x0 : List (S29)) (x1 : List Int) (x2 : List (S114)) (x14 : List (S114)) (x15 : Int) (x16 : Int) : impl_pieceFault.L0 x0 x1 x2 x14 x15 x16 = if x16 < x15 then (if 0 ≤ x16 then (if x16 < (x14.length : Int) then (if 0 ≤ ((rd_T114 x14 x16).f0) then (if ((rd_T114 x14 x16).f0) < (x0.length : Int) then ((impl_soundParts.F ((rd_T29 x0 ((rd_T114 x14 x16).f0)).f0) ((rd_T29 x0 ((rd_T114 x14 x16).f0)).f1)).bind fun t262 => (impl_pieceFault.L1 x0 x1 x2 x16 false x14 x15 x16 t262 (t262.length : Int) 0 ((rd_T114 x14 x16).f0) ((rd_T114 x14 x16).f1))) else (none)) else (none)) else (none)) else (none)) else (some (-1)) := by
  refine Lim.step (f := fun k => if x16 < x15 then (if 0 ≤ x16 then (if x16 < (x14.length : Int) then (if 0 ≤ ((rd_T114 x14 x16).f0) then (if ((rd_T114 x14 x16).f0) < (x0.length : Int) then ((impl_soundParts.f k ((rd_T29 x0 ((rd_T114 x14 x16).f0)).f0) ((rd_T29 x0 ((rd_T114 x14 x16).f0)).f1)).bind fun t262 => (impl_pieceFault.l1 k x0 x1 x2 x16 false x14 x15 x16 t262 (t262.length : Int) 0 ((rd_T114 x14 x16).f0) ((rd_T114 x14 x16).f1))) else (none)) else (none)) else (none)) else (none)) else (some (-1))) (fun k => (impl_pieceFault.mono_l k).1 x0 x1 x2 x14 x15 x16) (fun k => by simp only [impl_pieceFault.l0]) ?_
  repeat' first
    | with_reducible exact Lim.const _
    | with_reducible exact impl_pieceFault.L1_lim _ _ _ _ _ _ _ _ _ _ _ _ _
    | with_reducible exact impl_soundParts.F_lim _ _
    | with_reducible refine Lim.ite ?_ ?_
    | with_reducible refine Lim.bind ?_ (fun _ => ?_)
theorem impl_pieceFault.L1_eq (x0 : List (S29)) (x1 : List Int) (x2 : List (S114)) (x7 : Int) (x9 : Bool) (x14 : List (S114)) (x15 : Int) (x16 : Int) (x26 : List (List Int)) (x27 : Int) (x28 : Int) (x261000 : Int) (x261001 : Int) : impl_pieceFault.L1 x0 x1 x2 x7 x9 x14 x15 x16 x26 x27 x28 x261000 x261001 = if x28 < x27 then (if 0 ≤ x28 then (if x28 < (x26.length : Int) then (if x9 = true then (impl_pieceFault.L1 x0 x1 x2 x7 true x14 x15 x16 x26 x27 (wrap64 (x28 + 1)) x261000 x261001) else (if 0 < ((rd_L1 x26 x28).length : Int) then (if x261001 ≥ (rd (rd_L1 x26 x28) 0) then (if 1 < ((rd_L1 x26 x28).length : Int) then (if x261001 ≤ (rd (rd_L1 x26 x28) 1) then (if 0 ≤ x7 then (if x7 < (x1.length : Int) then (impl_pieceFault.L1 x0 x1 x2 x7 (decide ((wrap64 (x261001 + (rd x1 x7))) ≤ (rd (rd_L1 x26 x28) 1))) x14 x15 x16 x26 x27 (wrap64 (x28 + 1)) x261000 x261001) else (none)) else (none)) else (impl_pieceFault.L1 x0 x1 x2 x7 false x14 x15 x16 x26 x27 (wrap64 (x28 + 1)) x261000 x261001)) else (none)) else (impl_pieceFault.L1 x0 x1 x2 x7 false x14 x15 x16 x26 x27 (wrap64 (x28 + 1)) x261000 x261001)) else (none))) else (none)) else (none)) else (if x9 = true then (if 0 ≤ x7 then (if x7 ≤ (x2.length : Int) then ((some (x2.take (x7 : Int).toNat : List (S114))).bind fun y270 => (impl_pieceFault.L2 x0 x1 x2 x7 x14 x15 x16 y270 (y270.length : Int) 0 x261000 x261001)) else (none)) else (none)) else (some x7)) := by
  refine Lim.step (f := fun k => if x28 < x27 then (if 0 ≤ x28 then (if x28 < (x26.length : Int) then (if x9 = true then (impl_pieceFault.l1 k x0 x1 x2 x7 true x14 x15 x16 x26 x27 (wrap64 (x28 + 1)) x261000 x261001) else (if 0 < ((rd_L1 x26 x28).length : Int) then (if x261001 ≥ (rd (rd_L1 x26 x28) 0) then (if 1 < ((rd_L1 x26 x28).length : Int) then (if x261001 ≤ (rd (rd_L1 x26 x28) 1) then (if 0 ≤ x7 then (if x7 < (x1.length : Int) then (impl_pieceFault.l1 k x0 x1 x2 x7 (decide ((wrap64 (x261001 + (rd x1 x7))) ≤ (rd (rd_L1 x26 x28) 1))) x14 x15 x16 x26 x27 (wrap64 (x28 + 1)) x261000 x261001) else (none)) else (none)) else (impl_pieceFault.l1 k x0 x1 x2 x7 false x14 x15 x16 x26 x27 (wrap64 (x28 + 1)) x261000 x261001)) else (none)) else (impl_pieceFault.l1 k x0 x1 x2 x7 false x14 x15 x16 x26 x27 (wrap64 (x28 + 1)) x261000 x261001)) else (none))) else (none)) else (none)) else (if x9 = true then (if 0 ≤ x7 then (if x7 ≤ (x2.length : Int) then ((some (x2.take (x7 : Int).toNat : List (S114))).bind fun y270 => (impl_pieceFault.l2 k x0 x1 x2 x7 x14 x15 x16 y270 (y270.length : Int) 0 x261000 x261001)) else (none)) else (none)) else (some x7))) (fun k => (impl_pieceFault.mono_l k).2.1 x0 x1 x2 x7 x9 x14 x15 x16 x26 x27 x28 x261000 x261001) (fun k => by simp only [impl_pieceFault.l1]) ?_
  repeat' first
    | with_reducible exact Lim.const _
    | with_reducible exact impl_pieceFault.L1_lim _ _ _ _ _ _ _ _ _ _ _ _ _
    | with_reducible exact impl_pieceFault.L2_lim _ _ _ _ _ _ _ _ _ _ _ _
    | with_reducible refine Lim.ite ?_ ?_
    | with_reducible refine Lim.bind ?_ (fun _ => ?_)
theorem impl_pieceFault.L2_eq (x0 : List (S29)) (x1 : List Int) (x2 : List (S114)) (x7 : Int) (x14 : List (S114)) (x15 : Int) (x16 : Int) (x68 : List (S114)) (x69 : Int) (x70 : Int) (x261000 : Int) (x261001 : Int) : impl_pieceFault.L2 x0 x1 x2 x7 x14 x15 x16 x68 x69 x70 x261000 x261001 = if x70 < x69 then (if 0 ≤ x70 then (if x70 < (x68.length : Int) then (if ((rd_T114 x68 x70).f0) = x261000 then (if x70 < (x1.length : Int) then (if x261001 < (wrap64 (((rd_T114 x68 x70).f1) + (rd x1 x70))) then (if 0 ≤ x7 then (if x7 < (x1.length : Int) then (if ((rd_T114 x68 x70).f1) < (wrap64 (x261001 + (rd x1 x7))) then (some x7) else (impl_pieceFault.L2 x0 x1 x2 x7 x14 x15 x16 x68 x69 (wrap64 (x70 + 1)) x261000 x261001)) else (none)) else (none)) else (impl_pieceFault.L2 x0 x1 x2 x7 x14 x15 x16 x68 x69 (wrap64 (x70 + 1)) x261000 x261001)) else (none)) else (impl_pieceFault.L2 x0 x1 x2 x7 x14 x15 x16 x68 x69 (wrap64 (x70 + 1)) x261000 x261001)) else (none)) else (none)) else (impl_pieceFault.L0 x0 x1 x2 x14 x15 (wrap64 (x16 + 1))) := by
  refine Lim.step (f := fun k => if x70 < x69 then (if 0 ≤ x70 then (if x70 < (x68.length : Int) then (if ((rd_T114 x68 x70).f0) = x261000 then (if x70 < (x1.length : Int) then (if x261001 < (wrap64 (((rd_T114 x68 x70).f1) + (rd x1 x70))) then (if 0 ≤ x7 then (if x7 < (x1.length : Int) then (if ((rd_T114 x68 x70).f1) < (wrap64 (x261001 + (rd x1 x7))) then (some x7) else (impl_pieceFault.l2 k x0 x1 x2 x7 x14 x15 x16 x68 x69 (wrap64 (x70 + 1)) x261000 x261001)) else (none)) else (none)) else (impl_pieceFault.l2 k x0 x1 x2 x7 x14 x15 x16 x68 x69 (wrap64 (x70 + 1)) x261000 x261001)) else (none)) else (impl_pieceFault.l2 k x0 x1 x2 x7 x14 x15 x16 x68 x69 (wrap64 (x70 + 1)) x261000 x261001)) else (none)) else (none)) else (impl_pieceFault.l0 k x0 x1 x2 x14 x15 (wrap64 (x16 + 1)))) (fun k => (impl_pieceFault.mono_l k).2.2 x0 x1 x2 x7 x14 x15 x16 x68 x69 x70 x261000 x261001) (fun k => by simp only [impl_pieceFault.l2]) ?_
  repeat' first
    | with_reducible exact Lim.const _
    | with_reducible exact impl_pieceFault.L0_lim _ _ _ _ _ _
    | with_reducible exact impl_pieceFault.L2_lim _ _ _ _ _ _ _ _ _ _ _ _
    | with_reducible refine Lim.ite ?_ ?_
    | with_reducible refine Lim.bind ?_ (fun _ => ?_)
theorem impl_pieceFault.F_eq (l0 : List (S29)) (l1 : List Int) (l2 : List (S114)) : impl_pieceFault.F l0 l1 l2 = impl_pieceFault.L0 l0 l1 l2 l2 (l2.length : Int) 0 := by
  refine Lim.eq (g := fun k => impl_pieceFault.f k l0 l1 l2) ?_
  unfold impl_pieceFault.f
  repeat' first
    | with_reducible exact Lim.const _
    | with_reducible exact impl_pieceFault.L0_lim _ _ _ _ _ _
    | with_reducible refine Lim.ite ?_ ?_
    | with_reducible refine Lim.bind ?_ (fun _ => ?_)

noncomputable def impl_ClothLeft.L0 (x1 : List Int) (x2 : List (S114)) (x9 : List Int) (x27 : List (S29)) (x28 : Int) (x29 : Int) : Option (List Int × Int) := lim (fun k => impl_ClothLeft.l0 k x1 x2 x9 x27 x28 x29)
theorem impl_ClothLeft.L0_lim (x1 : List Int) (x2 : List (S114)) (x9 : List Int) (x27 : List (S29)) (x28 : Int) (x29 : Int) : Lim (fun k => impl_ClothLeft.l0 k x1 x2 x9 x27 x28 x29) (impl_ClothLeft.L0 x1 x2 x9 x27 x28 x29) := Lim.of (fun k => (impl_ClothLeft.mono_l k).1 x1 x2 x9 x27 x28 x29)
noncomputable def impl_ClothLeft.L1 (x1 : List Int) (x9 : List Int) (x39 : List (S114)) (x40 : Int) (x41 : Int) : Option (List Int × Int) := lim (fun k => impl_ClothLeft.l1 k x1 x9 x39 x40 x41)
theorem impl_ClothLeft.L1_lim (x1 : List Int) (x9 : List Int) (x39 : List (S114)) (x40 : Int) (x41 : Int) : Lim (fun k => impl_ClothLeft.l1 k x1 x9 x39 x40 x41) (impl_ClothLeft.L1 x1 x9 x39 x40 x41) := Lim.of (fun k => (impl_ClothLeft.mono_l k).2 x1 x9 x39 x40 x41)
noncomputable def impl_ClothLeft.F (l0 : List (S29)) (l1 : List Int) (l2 : List (S114)) : Option (List Int × Int) := lim (fun k => impl_ClothLeft.f k l0 l1 l2)
theorem impl_ClothLeft.F_lim (l0 : List (S29)) (l1 : List Int) (l2 : List (S114)) : Lim (fun k => impl_ClothLeft.f k l0 l1 l2) (impl_ClothLeft.F l0 l1 l2) := Lim.of (fun k => impl_ClothLeft.mono l0 l1 l2 k)
theorem impl_ClothLeft.L0_eq (x1 : List Int) (x2 : List (S114)) (x9 : List Int) (x27 : List (S29)) (x28 : Int) (x29 : Int) : impl_ClothLeft.L0 x1 x2 x9 x27 x28 x29 = if x29 < x28 then (if 0 ≤ x29 then (if x29 < (x27.length : Int) then (if x9.length < 17592186044416 then (impl_ClothLeft.L0 x1 x2 (x9 ++ [(rd_T29 x27 x29).f0]) x27 x28 (wrap64 (x29 + 1))) else (none)) else (none)) else (none)) else (impl_ClothLeft.L1 x1 x9 x2 (x2.length : Int) 0) := by
  refine Lim.step (f := fun k => if x29 < x28 then (if 0 ≤ x29 then (if x29 < (x27.length : Int) then (if x9.length < 17592186044416 then (impl_ClothLeft.l0 k x1 x2 (x9 ++ [(rd_T29 x27 x29).f0]) x27 x28 (wrap64 (x29 + 1))) else (none)) else (none)) else (none)) else (impl_ClothLeft.l1 k x1 x9 x2 (x2.length : Int) 0)) (fun k => (impl_ClothLeft.mono_l k).1 x1 x2 x9 x27 x28 x29) (fun k => by simp only [impl_ClothLeft.l0]) ?_
  repeat' first
    | with_reducible exact Lim.const _
    | with_reducible exact impl_ClothLeft.L0_lim _ _ _ _ _ _
    | with_reducible exact impl_ClothLeft.L1_lim _ _ _ _ _
    | with_reducible refine Lim.ite ?_ ?_
    | with_reducible refine Lim.bind ?_ (fun _ => ?_)
theorem impl_ClothLeft.L1_eq (x1 : List Int) (x9 : List Int) (x39 : List (S114)) (x40 : Int) (x41 : Int) : impl_ClothLeft.L1 x1 x9 x39 x40 x41 = if x41 < x40 then (if 0 ≤ x41 then (if x41 < (x39.length : Int) then (if 0 ≤ ((rd_T114 x39 x41).f0) then (if ((rd_T114 x39 x41).f0) < (x9.length : Int) then (if x41 < (x1.length : Int) then (impl_ClothLeft.L1 x1 (x9.set (((rd_T114 x39 x41).f0) : Int).toNat (wrap64 ((rd x9 ((rd_T114 x39 x41).f0)) - (rd x1 x41)))) x39 x40 (wrap64 (x41 + 1))) else (none)) else (none)) else (none)) else (none)) else (none)) else (some (x9, 0)) := by
  refine Lim.step (f := fun k => if x41 < x40 then (if 0 ≤ x41 then (if x41 < (x39.length : Int) then (if 0 ≤ ((rd_T114 x39 x41).f0) then (if ((rd_T114 x39 x41).f0) < (x9.length : Int) then (if x41 < (x1.length : Int) then (impl_ClothLeft.l1 k x1 (x9.set (((rd_T114 x39 x41).f0) : Int).toNat (wrap64 ((rd x9 ((rd_T114 x39 x41).f0)) - (rd x1 x41)))) x39 x40 (wrap64 (x41 + 1))) else (none)) else (none)) else (none)) else (none)) else (none)) else (some (x9, 0))) (fun k => (impl_ClothLeft.mono_l k).2 x1 x9 x39 x40 x41) (fun k => by simp only [impl_ClothLeft.l1]) ?_
  repeat' first
    | with_reducible exact Lim.const _
    | with_reducible exact impl_ClothLeft.L1_lim _ _ _ _ _
    | with_reducible refine Lim.ite ?_ ?_
    | with_reducible refine Lim.bind ?_ (fun _ => ?_)
theorem impl_ClothLeft.F_eq (l0 : List (S29)) (l1 : List Int) (l2 : List (S114)) : impl_ClothLeft.F l0 l1 l2 = (impl_placesCode.F l0 l1 l2).bind fun t278 => (if t278 = 0 then ((impl_pieceFault.F l0 l1 l2).bind fun t279 => (if t279 ≥ 0 then (some (([] : List Int), 6)) else (impl_ClothLeft.L0 l1 l2 (([] : List Int)) l0 (l0.length : Int) 0))) else (some (([] : List Int), t278))) := by
  refine Lim.eq (g := fun k => impl_ClothLeft.f k l0 l1 l2) ?_
  unfold impl_ClothLeft.f
  repeat' first
    | with_reducible exact Lim.const _
    | with_reducible exact impl_ClothLeft.L0_lim _ _ _ _ _ _
    | with_reducible exact impl_pieceFault.F_lim _ _ _
    | with_reducible exact impl_placesCode.F_lim _ _ _
    | with_reducible refine Lim.ite ?_ ?_
    | with_reducible refine Lim.bind ?_ (fun _ => ?_)

noncomputable def laws_heldInt64S.L0 (x0 : List Int) (x1 : Int) (x5 : Int) : Option (Int) := lim (fun k => laws_heldInt64S.l0 k x0 x1 x5)
theorem laws_heldInt64S.L0_lim (x0 : List Int) (x1 : Int) (x5 : Int) : Lim (fun k => laws_heldInt64S.l0 k x0 x1 x5) (laws_heldInt64S.L0 x0 x1 x5) := Lim.of (fun k => (laws_heldInt64S.mono_l k) x0 x1 x5)
noncomputable def laws_heldInt64S.F (l0 : List Int) (a1 : Int) : Option (Int) := lim (fun k => laws_heldInt64S.f k l0 a1)
theorem laws_heldInt64S.F_lim (l0 : List Int) (a1 : Int) : Lim (fun k => laws_heldInt64S.f k l0 a1) (laws_heldInt64S.F l0 a1) := Lim.of (fun k => laws_heldInt64S.mono l0 a1 k)
theorem laws_heldInt64S.L0_eq (x0 : List Int) (x1 : Int) (x5 : Int) : laws_heldInt64S.L0 x0 x1 x5 = if x5 < (x0.length : Int) then (if 0 ≤ x5 then (if (rd x0 x5) = x1 then (laws_heldInt64S.L0 x0 (wrap64 (x1 + 1)) (wrap64 (x5 + 1))) else (some (-1))) else (none)) else (some x1) := by
  refine Lim.step (f := fun k => if x5 < (x0.length : Int) then (if 0 ≤ x5 then (if (rd x0 x5) = x1 then (laws_heldInt64S.l0 k x0 (wrap64 (x1 + 1)) (wrap64 (x5 + 1))) else (some (-1))) else (none)) else (some x1)) (fun k => (laws_heldInt64S.mono_l k) x0 x1 x5) (fun k => by simp only [laws_heldInt64S.l0]) ?_
  repeat' first
    | with_reducible exact Lim.const _
    | with_reducible exact laws_heldInt64S.L0_lim _ _ _
    | with_reducible refine Lim.ite ?_ ?_
    | with_reducible refine Lim.bind ?_ (fun _ => ?_)
theorem laws_heldInt64S.F_eq (l0 : List Int) (a1 : Int) : laws_heldInt64S.F l0 a1 = laws_heldInt64S.L0 l0 a1 0 := by
  refine Lim.eq (g := fun k => laws_heldInt64S.f k l0 a1) ?_
  unfold laws_heldInt64S.f
  repeat' first
    | with_reducible exact Lim.const _
    | with_reducible exact laws_heldInt64S.L0_lim _ _ _
    | with_reducible refine Lim.ite ?_ ?_
    | with_reducible refine Lim.bind ?_ (fun _ => ?_)

noncomputable def laws_FnExactClothLeft.J0 (x0 : List (S24)) (x1 : List Int) (x2 : List (S124)) (x8 : List Int) (x9 : Int) (x10 : List (S29)) (x11 : List Int) (x12 : List (S114)) (x13 : List Int) (x14 : Int) (x64 : Bool) : Option (Bool) := lim (fun k => laws_FnExactClothLeft.j0 k x0 x1 x2 x8 x9 x10 x11 x12 x13 x14 x64)
theorem laws_FnExactClothLeft.J0_lim (x0 : List (S24)) (x1 : List Int) (x2 : List (S124)) (x8 : List Int) (x9 : Int) (x10 : List (S29)) (x11 : List Int) (x12 : List (S114)) (x13 : List Int) (x14 : Int) (x64 : Bool) : Lim (fun k => laws_FnExactClothLeft.j0 k x0 x1 x2 x8 x9 x10 x11 x12 x13 x14 x64) (laws_FnExactClothLeft.J0 x0 x1 x2 x8 x9 x10 x11 x12 x13 x14 x64) := Lim.of (fun k => (laws_FnExactClothLeft.mono_l k).1 x0 x1 x2 x8 x9 x10 x11 x12 x13 x14 x64)
noncomputable def laws_FnExactClothLeft.J1 (x0 : List (S24)) (x1 : List Int) (x2 : List (S124)) (x8 : List Int) (x9 : Int) (x13 : List Int) (x101 : Bool) : Option (Bool) := lim (fun k => laws_FnExactClothLeft.j1 k x0 x1 x2 x8 x9 x13 x101)
theorem laws_FnExactClothLeft.J1_lim (x0 : List (S24)) (x1 : List Int) (x2 : List (S124)) (x8 : List Int) (x9 : Int) (x13 : List Int) (x101 : Bool) : Lim (fun k => laws_FnExactClothLeft.j1 k x0 x1 x2 x8 x9 x13 x101) (laws_FnExactClothLeft.J1 x0 x1 x2 x8 x9 x13 x101) := Lim.of (fun k => (laws_FnExactClothLeft.mono_l k).2.1 x0 x1 x2 x8 x9 x13 x101)
noncomputable def laws_FnExactClothLeft.J2 (x13 : List Int) (x16 : Int) (x131 : Bool) : Option (Bool) := lim (fun k => laws_FnExactClothLeft.j2 k x13 x16 x131)
theorem laws_FnExactClothLeft.J2_lim (x13 : List Int) (x16 : Int) (x131 : Bool) : Lim (fun k => laws_FnExactClothLeft.j2 k x13 x16 x131) (laws_FnExactClothLeft.J2 x13 x16 x131) := Lim.of (fun k => (laws_FnExactClothLeft.mono_l k).2.2 x13 x16 x131)
noncomputable def laws_FnExactClothLeft.F (l0 : List (S24)) (l1 : List Int) (l2 : List (S124)) : Option (Bool) := lim (fun k => laws_FnExactClothLeft.f k l0 l1 l2)
theorem laws_FnExactClothLeft.F_lim (l0 : List (S24)) (l1 : List Int) (l2 : List (S124)) : Lim (fun k => laws_FnExactClothLeft.f k l0 l1 l2) (laws_FnExactClothLeft.F l0 l1 l2) := Lim.of (fun k => laws_FnExactClothLeft.mono l0 l1 l2 k)
theorem laws_FnExactClothLeft.J0_eq (x0 : List (S24)) (x1 : List Int) (x2 : List (S124)) (x8 : List Int) (x9 : Int) (x10 : List (S29)) (x11 : List Int) (x12 : List (S114)) (x13 : List Int) (x14 : Int) (x64 : Bool) : laws_FnExactClothLeft.J0 x0 x1 x2 x8 x9 x10 x11 x12 x13 x14 x64 = if x64 = true then (some false) else ((laws_toBoltS.F x0).bind fun t323 => ((laws_eqBoltS.F x10 t323).bind fun t326 => (if t326 = true then ((laws_toInt64S.F x1).bind fun t327 => ((laws_eqInt64S.F x11 t327).bind fun t330 => (if t330 = true then ((laws_toPieceS.F x2).bind fun t331 => ((laws_eqPieceS.F x12 t331).bind fun t334 => (if t334 = true then ((laws_markBoltS.F x10 1).bind fun bt335 => ((laws_markInt64S.F x11 bt335.1).bind fun bt337 => ((laws_markPieceS.F x12 bt337.1).bind fun bt339 => (if bt339.1 < 0 then (laws_FnExactClothLeft.J1 x0 x1 x2 x8 x9 x13 true) else ((laws_eqInt64S.F x13 x8).bind fun t341 => (if t341 = true then (laws_FnExactClothLeft.J1 x0 x1 x2 x8 x9 x13 (x14 != x9)) else (laws_FnExactClothLeft.J1 x0 x1 x2 x8 x9 x13 true))))))) else (some false)))) else (some false)))) else (some false)))) := by
  refine Lim.step (f := fun k => if x64 = true then (some false) else ((laws_toBoltS.f k x0).bind fun t323 => ((laws_eqBoltS.f k x10 t323).bind fun t326 => (if t326 = true then ((laws_toInt64S.f k x1).bind fun t327 => ((laws_eqInt64S.f k x11 t327).bind fun t330 => (if t330 = true then ((laws_toPieceS.f k x2).bind fun t331 => ((laws_eqPieceS.f k x12 t331).bind fun t334 => (if t334 = true then ((laws_markBoltS.f k x10 1).bind fun bt335 => ((laws_markInt64S.f k x11 bt335.1).bind fun bt337 => ((laws_markPieceS.f k x12 bt337.1).bind fun bt339 => (if bt339.1 < 0 then (laws_FnExactClothLeft.j1 k x0 x1 x2 x8 x9 x13 true) else ((laws_eqInt64S.f k x13 x8).bind fun t341 => (if t341 = true then (laws_FnExactClothLeft.j1 k x0 x1 x2 x8 x9 x13 (x14 != x9)) else (laws_FnExactClothLeft.j1 k x0 x1 x2 x8 x9 x13 true))))))) else (some false)))) else (some false)))) else (some false))))) (fun k => (laws_FnExactClothLeft.mono_l k).1 x0 x1 x2 x8 x9 x10 x11 x12 x13 x14 x64) (fun k => by simp only [laws_FnExactClothLeft.j0]) ?_
  repeat' first
    | with_reducible exact Lim.const _
    | with_reducible exact laws_FnExactClothLeft.J1_lim _ _ _ _ _ _ _
    | with_reducible exact laws_eqBoltS.F_lim _ _
    | with_reducible exact laws_eqInt64S.F_lim _ _
    | with_reducible exact laws_eqPieceS.F_lim _ _
    | with_reducible exact laws_markBoltS.F_lim _ _
    | with_reducible exact laws_markInt64S.F_lim _ _
    | with_reducible exact laws_markPieceS.F_lim _ _
    | with_reducible exact laws_toBoltS.F_lim _
    | with_reducible exact laws_toInt64S.F_lim _
    | with_reducible exact laws_toPieceS.F_lim _
    | with_reducible refine Lim.ite ?_ ?_
    | with_reducible refine Lim.bind ?_ (fun _ => ?_)
theorem laws_FnExactClothLeft.J1_eq (x0 : List (S24)) (x1 : List Int) (x2 : List (S124)) (x8 : List Int) (x9 : Int) (x13 : List Int) (x101 : Bool) : laws_FnExactClothLeft.J1 x0 x1 x2 x8 x9 x13 x101 = if x101 = true then (some false) else ((laws_markInt64S.F x13 1).bind fun bt342 => ((laws_heldInt64S.F bt342.2 1).bind fun t344 => (if t344 < 0 then (some false) else (if t344 = bt342.1 then ((laws_toBoltS.F x0).bind fun t345 => ((laws_toInt64S.F x1).bind fun t348 => ((laws_toPieceS.F x2).bind fun t351 => ((impl_ClothLeft.F t345 t348 t351).bind fun bt354 => ((laws_eqInt64S.F bt354.1 x8).bind fun t358 => (if t358 = true then (laws_FnExactClothLeft.J2 bt342.2 bt342.1 (bt354.2 != x9)) else (laws_FnExactClothLeft.J2 bt342.2 bt342.1 true))))))) else (some false))))) := by
  refine Lim.step (f := fun k => if x101 = true then (some false) else ((laws_markInt64S.f k x13 1).bind fun bt342 => ((laws_heldInt64S.f k bt342.2 1).bind fun t344 => (if t344 < 0 then (some false) else (if t344 = bt342.1 then ((laws_toBoltS.f k x0).bind fun t345 => ((laws_toInt64S.f k x1).bind fun t348 => ((laws_toPieceS.f k x2).bind fun t351 => ((impl_ClothLeft.f k t345 t348 t351).bind fun bt354 => ((laws_eqInt64S.f k bt354.1 x8).bind fun t358 => (if t358 = true then (laws_FnExactClothLeft.j2 k bt342.2 bt342.1 (bt354.2 != x9)) else (laws_FnExactClothLeft.j2 k bt342.2 bt342.1 true))))))) else (some false)))))) (fun k => (laws_FnExactClothLeft.mono_l k).2.1 x0 x1 x2 x8 x9 x13 x101) (fun k => by simp only [laws_FnExactClothLeft.j1]) ?_
  repeat' first
    | with_reducible exact Lim.const _
    | with_reducible exact impl_ClothLeft.F_lim _ _ _
    | with_reducible exact laws_FnExactClothLeft.J2_lim _ _ _
    | with_reducible exact laws_eqInt64S.F_lim _ _
    | with_reducible exact laws_heldInt64S.F_lim _ _
    | with_reducible exact laws_markInt64S.F_lim _ _
    | with_reducible exact laws_toBoltS.F_lim _
    | with_reducible exact laws_toInt64S.F_lim _
    | with_reducible exact laws_toPieceS.F_lim _
    | with_reducible refine Lim.ite ?_ ?_
    | with_reducible refine Lim.bind ?_ (fun _ => ?_)
theorem laws_FnExactClothLeft.J2_eq (x13 : List Int) (x16 : Int) (x131 : Bool) : laws_FnExactClothLeft.J2 x13 x16 x131 = if x131 = true then (some false) else ((laws_heldInt64S.F x13 1).bind fun t359 => (if t359 < 0 then (some false) else (if t359 = x16 then (some true) else (some false)))) := by
  refine Lim.step (f := fun k => if x131 = true then (some false) else ((laws_heldInt64S.f k x13 1).bind fun t359 => (if t359 < 0 then (some false) else (if t359 = x16 then (some true) else (some false))))) (fun k => (laws_FnExactClothLeft.mono_l k).2.2 x13 x16 x131) (fun k => by simp only [laws_FnExactClothLeft.j2]) ?_
  repeat' first
    | with_reducible exact Lim.const _
    | with_reducible exact laws_heldInt64S.F_lim _ _
    | with_reducible refine Lim.ite ?_ ?_
    | with_reducible refine Lim.bind ?_ (fun _ => ?_)
theorem laws_FnExactClothLeft.F_eq (l0 : List (S24)) (l1 : List Int) (l2 : List (S124)) : laws_FnExactClothLeft.F l0 l1 l2 = if (l1.length : Int) > 1048576 then (some true) else ((laws_szBoltS.F l0 1048576).bind fun t294 => (if t294 < 0 then (some true) else ((laws_szPieceS.f l2 t294).bind fun t295 => (if t295 < 0 then (some true) else ((laws_toBoltS.F l0).bind fun t296 => ((laws_toInt64S.F l1).bind fun t299 => ((laws_toPieceS.F l2).bind fun t302 => ((spec_ClothLeft.F t296 t299 t302).bind fun bt305 => ((laws_toBoltS.F l0).bind fun t309 => ((laws_toInt64S.F l1).bind fun t312 => ((laws_toPieceS.F l2).bind fun t315 => ((impl_ClothLeft.F t309 t312 t315).bind fun bt318 => ((laws_eqInt64S.F bt318.1 bt305.1).bind fun t322 => (if t322 = true then (laws_FnExactClothLeft.J0 l0 l1 l2 bt305.1 bt305.2 t309 t312 t315 bt318.1 bt318.2 (bt318.2 != bt305.2)) else (laws_FnExactClothLeft.J0 l0 l1 l2 bt305.1 bt305.2 t309 t312 t315 bt318.1 bt318.2 true))))))))))))))) := by
  refine Lim.eq (g := fun k => laws_FnExactClothLeft.f k l0 l1 l2) ?_
  unfold laws_FnExactClothLeft.f
  repeat' first
    | with_reducible exact Lim.const _
    | with_reducible exact impl_ClothLeft.F_lim _ _ _
    | with_reducible exact laws_FnExactClothLeft.J0_lim _ _ _ _ _ _ _ _ _ _ _
    | with_reducible exact laws_eqInt64S.F_lim _ _
    | with_reducible exact laws_szBoltS.F_lim _ _
    | with_reducible exact laws_toBoltS.F_lim _
    | with_reducible exact laws_toInt64S.F_lim _
    | with_reducible exact laws_toPieceS.F_lim _
    | with_reducible exact spec_ClothLeft.F_lim _ _ _
    | with_reducible refine Lim.ite ?_ ?_
    | with_reducible refine Lim.bind ?_ (fun _ => ?_)

end Go.Proofs.Ytlphfgbeeckjnaa.PFnExactClothLeft
