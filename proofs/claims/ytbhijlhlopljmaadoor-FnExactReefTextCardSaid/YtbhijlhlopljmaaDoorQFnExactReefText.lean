/-
  Written by a program of this session (wip/tools/lims.py): the printed functions without their bound on rounds.
-/
import Derived.Test.YtbhijlhlopljmaaDoorPFnExactReefTextx1
import Derived.Test.YtbhijlhlopljmaaDoorPFnExactReefTextx2
import Derived.Test.YtbhijlhlopljmaaDoorPFnExactReefTextx3
import Derived.Test.YtbhijlhlopljmaaDoorPFnExactReefTextx4
import Derived.Test.YtbhijlhlopljmaaDoorPFnExactReefTextx5
import Derived.Test.YtbhijlhlopljmaaDoorPFnExactReefTextx6
import Derived.Test.YtbhijlhlopljmaaDoorKit
set_option linter.unusedVariables false
set_option linter.unusedSimpArgs false
namespace Go.Proofs.YtbhijlhlopljmaaDoor.PFnExactReefText
open Go.RowKit Go.Proofs.YtbhijlhlopljmaaDoor.Kit Go.Proofs.YtbhijlhlopljmaaDoorW.PrintWords Go.Proofs.YtbhijlhlopljmaaDoorW.PrintLast Go.Proofs.YtbhijlhlopljmaaDoorW.PrintMore

noncomputable def spec_l00Rises.L0 (x0 : List Int) (x1 x2 x7 : Int) : Option (Bool) := lim (fun k => spec_l00Rises.l0 k x0 x1 x2 x7)
theorem spec_l00Rises.L0_lim (x0 : List Int) (x1 x2 x7 : Int) : Lim (fun k => spec_l00Rises.l0 k x0 x1 x2 x7) (spec_l00Rises.L0 x0 x1 x2 x7) := Lim.of (fun k => (spec_l00Rises.mono_l k) x0 x1 x2 x7)
noncomputable def spec_l00Rises.F (l0 : List Int) (a1 a2 : Int) : Option (Bool) := lim (fun k => spec_l00Rises.f k l0 a1 a2)
theorem spec_l00Rises.F_lim (l0 : List Int) (a1 a2 : Int) : Lim (fun k => spec_l00Rises.f k l0 a1 a2) (spec_l00Rises.F l0 a1 a2) := Lim.of (fun k => spec_l00Rises.mono l0 a1 a2 k)
theorem spec_l00Rises.L0_eq (x0 : List Int) (x1 x2 x7 : Int) : spec_l00Rises.L0 x0 x1 x2 x7 = if x7 < (x0.length : Int) then (if 0 ≤ x7 then ((spec_l00In.f (rd x0 x7) x1 x2).bind fun t105 => (if t105 = true then (if x7 > 0 then (if 0 ≤ (wrap64 (x7 - 1)) then (if (wrap64 (x7 - 1)) < (x0.length : Int) then (if (rd x0 (wrap64 (x7 - 1))) ≥ (rd x0 x7) then (some false) else (spec_l00Rises.L0 x0 x1 x2 (wrap64 (x7 + 1)))) else (none)) else (none)) else (spec_l00Rises.L0 x0 x1 x2 (wrap64 (x7 + 1)))) else (some false))) else (none)) else (some true) := by
  refine Lim.next (fun k => (spec_l00Rises.mono_l k) x0 x1 x2 x7) ?_
  simp only [spec_l00Rises.l0]
  repeat' with_reducible first | exact Lim.const _ | exact spec_l00Rises.L0_lim _ _ _ _ | refine Lim.ite ?_ ?_ | refine Lim.bind ?_ (fun _ => ?_)
theorem spec_l00Rises.F_eq (l0 : List Int) (a1 a2 : Int) : spec_l00Rises.F l0 a1 a2 = spec_l00Rises.L0 l0 a1 a2 0 := by
  refine Lim.eq (g := fun k => spec_l00Rises.f k l0 a1 a2) ?_
  unfold spec_l00Rises.f
  repeat' with_reducible first | exact Lim.const _ | exact spec_l00Rises.L0_lim _ _ _ _ | refine Lim.ite ?_ ?_ | refine Lim.bind ?_ (fun _ => ?_)

noncomputable def spec_l18Ok.J0 (x0 : List (S40)) (x3 : Int) (x36 : Bool) : Option (Bool) := lim (fun k => spec_l18Ok.j0 k x0 x3 x36)
theorem spec_l18Ok.J0_lim (x0 : List (S40)) (x3 : Int) (x36 : Bool) : Lim (fun k => spec_l18Ok.j0 k x0 x3 x36) (spec_l18Ok.J0 x0 x3 x36) := Lim.of (fun k => (spec_l18Ok.mono_l k).1 x0 x3 x36)
noncomputable def spec_l18Ok.L0 (x0 : List (S40)) (x3 x4 : Int) : Option (Bool) := lim (fun k => spec_l18Ok.l0 k x0 x3 x4)
theorem spec_l18Ok.L0_lim (x0 : List (S40)) (x3 x4 : Int) : Lim (fun k => spec_l18Ok.l0 k x0 x3 x4) (spec_l18Ok.L0 x0 x3 x4) := Lim.of (fun k => (spec_l18Ok.mono_l k).2 x0 x3 x4)
noncomputable def spec_l18Ok.F (l0 : List (S40)) : Option (Bool) := lim (fun k => spec_l18Ok.f k l0)
theorem spec_l18Ok.F_lim (l0 : List (S40)) : Lim (fun k => spec_l18Ok.f k l0) (spec_l18Ok.F l0) := Lim.of (fun k => spec_l18Ok.mono l0 k)
theorem spec_l18Ok.J0_eq (x0 : List (S40)) (x3 : Int) (x36 : Bool) : spec_l18Ok.J0 x0 x3 x36 = if x36 = true then (some false) else (spec_l18Ok.L0 x0 x3 0) := by
  refine Lim.next (fun k => (spec_l18Ok.mono_l k).1 x0 x3 x36) ?_
  simp only [spec_l18Ok.j0]
  repeat' with_reducible first | exact Lim.const _ | exact spec_l18Ok.L0_lim _ _ _ | refine Lim.ite ?_ ?_ | refine Lim.bind ?_ (fun _ => ?_)
theorem spec_l18Ok.L0_eq (x0 : List (S40)) (x3 x4 : Int) : spec_l18Ok.L0 x0 x3 x4 = if x4 < x3 then (if 0 ≤ x4 then (if x4 < (((rd_T40 x0 0).f1).length : Int) then (if x4 < (((rd_T40 x0 0).f0).length : Int) then (if (rd ((rd_T40 x0 0).f1) x4) > (rd ((rd_T40 x0 0).f0) x4) then (some false) else (spec_l18Ok.L0 x0 x3 (wrap64 (x4 + 1)))) else (none)) else (none)) else (none)) else (some true) := by
  refine Lim.next (fun k => (spec_l18Ok.mono_l k).2 x0 x3 x4) ?_
  simp only [spec_l18Ok.l0]
  repeat' with_reducible first | exact Lim.const _ | exact spec_l18Ok.L0_lim _ _ _ | refine Lim.ite ?_ ?_ | refine Lim.bind ?_ (fun _ => ?_)
theorem spec_l18Ok.F_eq (l0 : List (S40)) : spec_l18Ok.F l0 = if 0 < (l0.length : Int) then (if (((rd_T40 l0 0).f1).length : Int) = (((rd_T40 l0 0).f0).length : Int) then (if (((rd_T40 l0 0).f0).length : Int) > 6 then (spec_l18Ok.J0 l0 (((rd_T40 l0 0).f0).length : Int) true) else ((spec_l00Rises.F ((rd_T40 l0 0).f0) 1 600).bind fun t112 => (if t112 = true then ((spec_l00Rises.F ((rd_T40 l0 0).f1) 0 600).bind fun t114 => (spec_l18Ok.J0 l0 (((rd_T40 l0 0).f0).length : Int) (!t114))) else (spec_l18Ok.J0 l0 (((rd_T40 l0 0).f0).length : Int) true)))) else (spec_l18Ok.J0 l0 (((rd_T40 l0 0).f0).length : Int) true)) else (none) := by
  refine Lim.eq (g := fun k => spec_l18Ok.f k l0) ?_
  unfold spec_l18Ok.f
  repeat' with_reducible first | exact Lim.const _ | exact spec_l00Rises.F_lim _ _ _ | exact spec_l18Ok.J0_lim _ _ _ | refine Lim.ite ?_ ?_ | refine Lim.bind ?_ (fun _ => ?_)

noncomputable def spec_l01Dec.L0 (x0 : Int) (x3 : List Int) (x4 : Int) : Option (ByteArray) := lim (fun k => spec_l01Dec.l0 k x0 x3 x4)
theorem spec_l01Dec.L0_lim (x0 : Int) (x3 : List Int) (x4 : Int) : Lim (fun k => spec_l01Dec.l0 k x0 x3 x4) (spec_l01Dec.L0 x0 x3 x4) := Lim.of (fun k => (spec_l01Dec.mono_l k) x0 x3 x4)
noncomputable def spec_l01Dec.F (a0 : Int) : Option (ByteArray) := lim (fun k => spec_l01Dec.f k a0)
theorem spec_l01Dec.F_lim (a0 : Int) : Lim (fun k => spec_l01Dec.f k a0) (spec_l01Dec.F a0) := Lim.of (fun k => spec_l01Dec.mono a0 k)
theorem spec_l01Dec.L0_eq (x0 : Int) (x3 : List Int) (x4 : Int) : spec_l01Dec.L0 x0 x3 x4 = if x4 = 0 then (if (x3.length : Int) = 0 then (some (⟨#[48]⟩ : ByteArray)) else (if x0 < 0 then (if 1 + (strOfNums x3).size ≤ 9223372036854775807 then (some ((⟨#[45]⟩ : ByteArray) ++ (strOfNums x3))) else (none)) else (some (strOfNums x3)))) else (if (Int.tmod x4 10) < 0 then ((some (([(wrap64 (48 + (wrap64 (-(Int.tmod x4 10))))) % 256] : List Int) : List Int)).bind fun y122 => (if y122.length + x3.length < 140737488355328 then (spec_l01Dec.L0 x0 (y122 ++ x3) (wrap64 (Int.tdiv x4 10))) else (none))) else ((some (([(wrap64 (48 + (Int.tmod x4 10))) % 256] : List Int) : List Int)).bind fun y128 => (if y128.length + x3.length < 140737488355328 then (spec_l01Dec.L0 x0 (y128 ++ x3) (wrap64 (Int.tdiv x4 10))) else (none)))) := by
  refine Lim.next (fun k => (spec_l01Dec.mono_l k) x0 x3 x4) ?_
  simp only [spec_l01Dec.l0]
  repeat' with_reducible first | exact Lim.const _ | exact spec_l01Dec.L0_lim _ _ _ | refine Lim.ite ?_ ?_ | refine Lim.bind ?_ (fun _ => ?_)
theorem spec_l01Dec.F_eq (a0 : Int) : spec_l01Dec.F a0 = spec_l01Dec.L0 a0 (([] : List Int)) a0 := by
  refine Lim.eq (g := fun k => spec_l01Dec.f k a0) ?_
  unfold spec_l01Dec.f
  repeat' with_reducible first | exact Lim.const _ | exact spec_l01Dec.L0_lim _ _ _ | refine Lim.ite ?_ ?_ | refine Lim.bind ?_ (fun _ => ?_)

noncomputable def spec_l18Text.L0 (x0 : List (S40)) (x3 : ByteArray) (x4 : Int) : Option (ByteArray) := lim (fun k => spec_l18Text.l0 k x0 x3 x4)
theorem spec_l18Text.L0_lim (x0 : List (S40)) (x3 : ByteArray) (x4 : Int) : Lim (fun k => spec_l18Text.l0 k x0 x3 x4) (spec_l18Text.L0 x0 x3 x4) := Lim.of (fun k => (spec_l18Text.mono_l k) x0 x3 x4)
noncomputable def spec_l18Text.F (l0 : List (S40)) : Option (ByteArray) := lim (fun k => spec_l18Text.f k l0)
theorem spec_l18Text.F_lim (l0 : List (S40)) : Lim (fun k => spec_l18Text.f k l0) (spec_l18Text.F l0) := Lim.of (fun k => spec_l18Text.mono l0 k)
theorem spec_l18Text.L0_eq (x0 : List (S40)) (x3 : ByteArray) (x4 : Int) : spec_l18Text.L0 x0 x3 x4 = if x4 < (((rd_T40 x0 0).f0).length : Int) then (if x4 > 0 then (if x3.size + 1 ≤ 9223372036854775807 then (if 0 ≤ x4 then ((spec_l01Dec.F (rd ((rd_T40 x0 0).f0) x4)).bind fun t139 => (if t139.size + 1 ≤ 9223372036854775807 then (if x4 < (((rd_T40 x0 0).f1).length : Int) then ((spec_l01Dec.F (rd ((rd_T40 x0 0).f1) x4)).bind fun t142 => (if t139.size + 1 + t142.size ≤ 9223372036854775807 then (if x3.size + 1 + (t139.size + 1 + t142.size) ≤ 9223372036854775807 then (spec_l18Text.L0 x0 ((x3 ++ (⟨#[32]⟩ : ByteArray)) ++ ((t139 ++ (⟨#[47]⟩ : ByteArray)) ++ t142)) (wrap64 (x4 + 1))) else (none)) else (none))) else (none)) else (none))) else (none)) else (none)) else (if 0 ≤ x4 then ((spec_l01Dec.F (rd ((rd_T40 x0 0).f0) x4)).bind fun t145 => (if t145.size + 1 ≤ 9223372036854775807 then (if x4 < (((rd_T40 x0 0).f1).length : Int) then ((spec_l01Dec.F (rd ((rd_T40 x0 0).f1) x4)).bind fun t148 => (if t145.size + 1 + t148.size ≤ 9223372036854775807 then (if x3.size + (t145.size + 1 + t148.size) ≤ 9223372036854775807 then (spec_l18Text.L0 x0 (x3 ++ ((t145 ++ (⟨#[47]⟩ : ByteArray)) ++ t148)) (wrap64 (x4 + 1))) else (none)) else (none))) else (none)) else (none))) else (none))) else (some x3) := by
  refine Lim.next (fun k => (spec_l18Text.mono_l k) x0 x3 x4) ?_
  simp only [spec_l18Text.l0]
  repeat' with_reducible first | exact Lim.const _ | exact spec_l01Dec.F_lim _ | exact spec_l18Text.L0_lim _ _ _ | refine Lim.ite ?_ ?_ | refine Lim.bind ?_ (fun _ => ?_)
theorem spec_l18Text.F_eq (l0 : List (S40)) : spec_l18Text.F l0 = if 0 < (l0.length : Int) then (if (((rd_T40 l0 0).f0).length : Int) = 0 then (some (⟨#[110, 111, 110, 101]⟩ : ByteArray)) else (spec_l18Text.L0 l0 (⟨#[]⟩ : ByteArray) 0)) else (none) := by
  refine Lim.eq (g := fun k => spec_l18Text.f k l0) ?_
  unfold spec_l18Text.f
  repeat' with_reducible first | exact Lim.const _ | exact spec_l18Text.L0_lim _ _ _ | refine Lim.ite ?_ ?_ | refine Lim.bind ?_ (fun _ => ?_)

noncomputable def spec_ReefText.F (l0_0 l0_1 : List Int) : Option (ByteArray) := lim (fun k => spec_ReefText.f k l0_0 l0_1)
theorem spec_ReefText.F_lim (l0_0 l0_1 : List Int) : Lim (fun k => spec_ReefText.f k l0_0 l0_1) (spec_ReefText.F l0_0 l0_1) := Lim.of (fun k => spec_ReefText.mono l0_0 l0_1 k)
theorem spec_ReefText.F_eq (l0_0 l0_1 : List Int) : spec_ReefText.F l0_0 l0_1 = (spec_l18Ok.F [(⟨l0_0, l0_1⟩ : S40)]).bind fun t151 => (if t151 = true then ((spec_l18Text.F [(⟨l0_0, l0_1⟩ : S40)]).bind fun t153 => (some t153)) else (some (⟨#[]⟩ : ByteArray))) := by
  refine Lim.eq (g := fun k => spec_ReefText.f k l0_0 l0_1) ?_
  unfold spec_ReefText.f
  repeat' with_reducible first | exact Lim.const _ | exact spec_l18Ok.F_lim _ | exact spec_l18Text.F_lim _ | refine Lim.ite ?_ ?_ | refine Lim.bind ?_ (fun _ => ?_)

noncomputable def laws_toInt64S.L0 (x0 x3 : List Int) (x4 : Int) : Option (List Int) := lim (fun k => laws_toInt64S.l0 k x0 x3 x4)
theorem laws_toInt64S.L0_lim (x0 x3 : List Int) (x4 : Int) : Lim (fun k => laws_toInt64S.l0 k x0 x3 x4) (laws_toInt64S.L0 x0 x3 x4) := Lim.of (fun k => (laws_toInt64S.mono_l k) x0 x3 x4)
noncomputable def laws_toInt64S.F (l0 : List Int) : Option (List Int) := lim (fun k => laws_toInt64S.f k l0)
theorem laws_toInt64S.F_lim (l0 : List Int) : Lim (fun k => laws_toInt64S.f k l0) (laws_toInt64S.F l0) := Lim.of (fun k => laws_toInt64S.mono l0 k)
theorem laws_toInt64S.L0_eq (x0 x3 : List Int) (x4 : Int) : laws_toInt64S.L0 x0 x3 x4 = if x4 < (x0.length : Int) then (if 0 ≤ x4 then (if x4 < (x3.length : Int) then (laws_toInt64S.L0 x0 (x3.set (x4 : Int).toNat (rd x0 x4)) (wrap64 (x4 + 1))) else (none)) else (none)) else (some x3) := by
  refine Lim.next (fun k => (laws_toInt64S.mono_l k) x0 x3 x4) ?_
  simp only [laws_toInt64S.l0]
  repeat' with_reducible first | exact Lim.const _ | exact laws_toInt64S.L0_lim _ _ _ | refine Lim.ite ?_ ?_ | refine Lim.bind ?_ (fun _ => ?_)
theorem laws_toInt64S.F_eq (l0 : List Int) : laws_toInt64S.F l0 = if 0 ≤ (l0.length : Int) then (if ((l0.length : Int) : Int).toNat ≤ 35184372088832 then (laws_toInt64S.L0 l0 (List.replicate ((l0.length : Int) : Int).toNat 0) 0) else (none)) else (none) := by
  refine Lim.eq (g := fun k => laws_toInt64S.f k l0) ?_
  unfold laws_toInt64S.f
  repeat' with_reducible first | exact Lim.const _ | exact laws_toInt64S.L0_lim _ _ _ | refine Lim.ite ?_ ?_ | refine Lim.bind ?_ (fun _ => ?_)

noncomputable def laws_toReefing.F (l0_0 l0_1 : List Int) : Option (List Int × List Int) := lim (fun k => laws_toReefing.f k l0_0 l0_1)
theorem laws_toReefing.F_lim (l0_0 l0_1 : List Int) : Lim (fun k => laws_toReefing.f k l0_0 l0_1) (laws_toReefing.F l0_0 l0_1) := Lim.of (fun k => laws_toReefing.mono l0_0 l0_1 k)
theorem laws_toReefing.F_eq (l0_0 l0_1 : List Int) : laws_toReefing.F l0_0 l0_1 = (laws_toInt64S.F l0_0).bind fun t162 => ((laws_toInt64S.F l0_1).bind fun t165 => (some (t162, t165))) := by
  refine Lim.eq (g := fun k => laws_toReefing.f k l0_0 l0_1) ?_
  unfold laws_toReefing.f
  repeat' with_reducible first | exact Lim.const _ | exact laws_toInt64S.F_lim _ | refine Lim.ite ?_ ?_ | refine Lim.bind ?_ (fun _ => ?_)

noncomputable def impl_ValidReefing.J0 (x17 : Bool) (x170000 x170001 : List Int) : Option (Bool) := lim (fun k => impl_ValidReefing.j0 k x17 x170000 x170001)
theorem impl_ValidReefing.J0_lim (x17 : Bool) (x170000 x170001 : List Int) : Lim (fun k => impl_ValidReefing.j0 k x17 x170000 x170001) (impl_ValidReefing.J0 x17 x170000 x170001) := Lim.of (fun k => (impl_ValidReefing.mono_l k).1 x17 x170000 x170001)
noncomputable def impl_ValidReefing.L0 (x19 : List Int) (x20 x21 : Int) (x170000 x170001 : List Int) : Option (Bool) := lim (fun k => impl_ValidReefing.l0 k x19 x20 x21 x170000 x170001)
theorem impl_ValidReefing.L0_lim (x19 : List Int) (x20 x21 : Int) (x170000 x170001 : List Int) : Lim (fun k => impl_ValidReefing.l0 k x19 x20 x21 x170000 x170001) (impl_ValidReefing.L0 x19 x20 x21 x170000 x170001) := Lim.of (fun k => (impl_ValidReefing.mono_l k).2 x19 x20 x21 x170000 x170001)
noncomputable def impl_ValidReefing.F (l0_0 l0_1 : List Int) : Option (Bool) := lim (fun k => impl_ValidReefing.f k l0_0 l0_1)
theorem impl_ValidReefing.F_lim (l0_0 l0_1 : List Int) : Lim (fun k => impl_ValidReefing.f k l0_0 l0_1) (impl_ValidReefing.F l0_0 l0_1) := Lim.of (fun k => impl_ValidReefing.mono l0_0 l0_1 k)
theorem impl_ValidReefing.J0_eq (x17 : Bool) (x170000 x170001 : List Int) : impl_ValidReefing.J0 x17 x170000 x170001 = if x17 = true then (some false) else (impl_ValidReefing.L0 x170000 (x170000.length : Int) 0 x170000 x170001) := by
  refine Lim.next (fun k => (impl_ValidReefing.mono_l k).1 x17 x170000 x170001) ?_
  simp only [impl_ValidReefing.j0]
  repeat' with_reducible first | exact Lim.const _ | exact impl_ValidReefing.L0_lim _ _ _ _ _ | refine Lim.ite ?_ ?_ | refine Lim.bind ?_ (fun _ => ?_)
theorem impl_ValidReefing.L0_eq (x19 : List Int) (x20 x21 : Int) (x170000 x170001 : List Int) : impl_ValidReefing.L0 x19 x20 x21 x170000 x170001 = if x21 < x20 then (if 0 ≤ x21 then (if x21 < (x19.length : Int) then ((impl_within.f (rd x19 x21) 1 600).bind fun t171 => (if t171 = true then (if x21 < (x170001.length : Int) then ((impl_within.f (rd x170001 x21) 0 (rd x19 x21)).bind fun t173 => (if t173 = true then (if x21 > 0 then (if 0 ≤ (wrap64 (x21 - 1)) then (if (wrap64 (x21 - 1)) < (x170000.length : Int) then (if (rd x19 x21) ≤ (rd x170000 (wrap64 (x21 - 1))) then (some false) else (if (wrap64 (x21 - 1)) < (x170001.length : Int) then (if (rd x170001 x21) ≤ (rd x170001 (wrap64 (x21 - 1))) then (some false) else (impl_ValidReefing.L0 x19 x20 (wrap64 (x21 + 1)) x170000 x170001)) else (none))) else (none)) else (none)) else (impl_ValidReefing.L0 x19 x20 (wrap64 (x21 + 1)) x170000 x170001)) else (some false))) else (none)) else (some false))) else (none)) else (none)) else (some true) := by
  refine Lim.next (fun k => (impl_ValidReefing.mono_l k).2 x19 x20 x21 x170000 x170001) ?_
  simp only [impl_ValidReefing.l0]
  repeat' with_reducible first | exact Lim.const _ | exact impl_ValidReefing.L0_lim _ _ _ _ _ | refine Lim.ite ?_ ?_ | refine Lim.bind ?_ (fun _ => ?_)
theorem impl_ValidReefing.F_eq (l0_0 l0_1 : List Int) : impl_ValidReefing.F l0_0 l0_1 = if (l0_0.length : Int) > 6 then (impl_ValidReefing.J0 true l0_0 l0_1) else (impl_ValidReefing.J0 ((l0_1.length : Int) != (l0_0.length : Int)) l0_0 l0_1) := by
  refine Lim.eq (g := fun k => impl_ValidReefing.f k l0_0 l0_1) ?_
  unfold impl_ValidReefing.f
  repeat' with_reducible first | exact Lim.const _ | exact impl_ValidReefing.J0_lim _ _ _ | refine Lim.ite ?_ ?_ | refine Lim.bind ?_ (fun _ => ?_)

noncomputable def impl_ReefText.L0 (x3 : List ByteArray) (x15 : List Int) (x16 x17 : Int) (x178000 x178001 : List Int) : Option (ByteArray) := lim (fun k => impl_ReefText.l0 k x3 x15 x16 x17 x178000 x178001)
theorem impl_ReefText.L0_lim (x3 : List ByteArray) (x15 : List Int) (x16 x17 : Int) (x178000 x178001 : List Int) : Lim (fun k => impl_ReefText.l0 k x3 x15 x16 x17 x178000 x178001) (impl_ReefText.L0 x3 x15 x16 x17 x178000 x178001) := Lim.of (fun k => (impl_ReefText.mono_l k) x3 x15 x16 x17 x178000 x178001)
noncomputable def impl_ReefText.F (l0_0 l0_1 : List Int) : Option (ByteArray) := lim (fun k => impl_ReefText.f k l0_0 l0_1)
theorem impl_ReefText.F_lim (l0_0 l0_1 : List Int) : Lim (fun k => impl_ReefText.f k l0_0 l0_1) (impl_ReefText.F l0_0 l0_1) := Lim.of (fun k => impl_ReefText.mono l0_0 l0_1 k)
theorem impl_ReefText.L0_eq (x3 : List ByteArray) (x15 : List Int) (x16 x17 : Int) (x178000 x178001 : List Int) : impl_ReefText.L0 x3 x15 x16 x17 x178000 x178001 = if x17 < x16 then (if 0 ≤ x17 then (if x17 < (x15.length : Int) then ((impl_Decimal.f (rd x15 x17)).bind fun t183 => (if t183.size + 1 ≤ 9223372036854775807 then (if x17 < (x178001.length : Int) then ((impl_Decimal.f (rd x178001 x17)).bind fun t185 => (if t183.size + 1 + t185.size ≤ 9223372036854775807 then (if x3.length < 8796093022208 then (impl_ReefText.L0 (x3 ++ [(t183 ++ (⟨#[47]⟩ : ByteArray)) ++ t185]) x15 x16 (wrap64 (x17 + 1)) x178000 x178001) else (none)) else (none))) else (none)) else (none))) else (none)) else (none)) else ((strings_Join.f x3 (⟨#[32]⟩ : ByteArray)).bind fun t189 => (some t189)) := by
  refine Lim.next (fun k => (impl_ReefText.mono_l k) x3 x15 x16 x17 x178000 x178001) ?_
  simp only [impl_ReefText.l0]
  repeat' with_reducible first | exact Lim.const _ | exact impl_ReefText.L0_lim _ _ _ _ _ _ | refine Lim.ite ?_ ?_ | refine Lim.bind ?_ (fun _ => ?_)
theorem impl_ReefText.F_eq (l0_0 l0_1 : List Int) : impl_ReefText.F l0_0 l0_1 = (impl_ValidReefing.F l0_0 l0_1).bind fun t178 => (if t178 = true then (if (l0_0.length : Int) = 0 then (some (⟨#[110, 111, 110, 101]⟩ : ByteArray)) else (impl_ReefText.L0 (([] : List ByteArray)) l0_0 (l0_0.length : Int) 0 l0_0 l0_1)) else (some (⟨#[]⟩ : ByteArray))) := by
  refine Lim.eq (g := fun k => impl_ReefText.f k l0_0 l0_1) ?_
  unfold impl_ReefText.f
  repeat' with_reducible first | exact Lim.const _ | exact impl_ReefText.L0_lim _ _ _ _ _ _ | exact impl_ValidReefing.F_lim _ _ | refine Lim.ite ?_ ?_ | refine Lim.bind ?_ (fun _ => ?_)

noncomputable def laws_eqInt64S.L0 (x0 x1 : List Int) (x5 : Int) : Option (Bool) := lim (fun k => laws_eqInt64S.l0 k x0 x1 x5)
theorem laws_eqInt64S.L0_lim (x0 x1 : List Int) (x5 : Int) : Lim (fun k => laws_eqInt64S.l0 k x0 x1 x5) (laws_eqInt64S.L0 x0 x1 x5) := Lim.of (fun k => (laws_eqInt64S.mono_l k) x0 x1 x5)
noncomputable def laws_eqInt64S.F (l0 l1 : List Int) : Option (Bool) := lim (fun k => laws_eqInt64S.f k l0 l1)
theorem laws_eqInt64S.F_lim (l0 l1 : List Int) : Lim (fun k => laws_eqInt64S.f k l0 l1) (laws_eqInt64S.F l0 l1) := Lim.of (fun k => laws_eqInt64S.mono l0 l1 k)
theorem laws_eqInt64S.L0_eq (x0 x1 : List Int) (x5 : Int) : laws_eqInt64S.L0 x0 x1 x5 = if x5 < (x0.length : Int) then (if 0 ≤ x5 then (if x5 < (x1.length : Int) then (if (rd x0 x5) = (rd x1 x5) then (laws_eqInt64S.L0 x0 x1 (wrap64 (x5 + 1))) else (some false)) else (none)) else (none)) else (some true) := by
  refine Lim.next (fun k => (laws_eqInt64S.mono_l k) x0 x1 x5) ?_
  simp only [laws_eqInt64S.l0]
  repeat' with_reducible first | exact Lim.const _ | exact laws_eqInt64S.L0_lim _ _ _ | refine Lim.ite ?_ ?_ | refine Lim.bind ?_ (fun _ => ?_)
theorem laws_eqInt64S.F_eq (l0 l1 : List Int) : laws_eqInt64S.F l0 l1 = if (l0.length : Int) = (l1.length : Int) then (laws_eqInt64S.L0 l0 l1 0) else (some false) := by
  refine Lim.eq (g := fun k => laws_eqInt64S.f k l0 l1) ?_
  unfold laws_eqInt64S.f
  repeat' with_reducible first | exact Lim.const _ | exact laws_eqInt64S.L0_lim _ _ _ | refine Lim.ite ?_ ?_ | refine Lim.bind ?_ (fun _ => ?_)

noncomputable def laws_eqReefing.F (l0_0 l0_1 l1_0 l1_1 : List Int) : Option (Bool) := lim (fun k => laws_eqReefing.f k l0_0 l0_1 l1_0 l1_1)
theorem laws_eqReefing.F_lim (l0_0 l0_1 l1_0 l1_1 : List Int) : Lim (fun k => laws_eqReefing.f k l0_0 l0_1 l1_0 l1_1) (laws_eqReefing.F l0_0 l0_1 l1_0 l1_1) := Lim.of (fun k => laws_eqReefing.mono l0_0 l0_1 l1_0 l1_1 k)
theorem laws_eqReefing.F_eq (l0_0 l0_1 l1_0 l1_1 : List Int) : laws_eqReefing.F l0_0 l0_1 l1_0 l1_1 = (laws_eqInt64S.F l0_0 l1_0).bind fun t194 => (if t194 = true then ((laws_eqInt64S.F l0_1 l1_1).bind fun t195 => (if t195 = true then (some true) else (some false))) else (some false)) := by
  refine Lim.eq (g := fun k => laws_eqReefing.f k l0_0 l0_1 l1_0 l1_1) ?_
  unfold laws_eqReefing.f
  repeat' with_reducible first | exact Lim.const _ | exact laws_eqInt64S.F_lim _ _ | refine Lim.ite ?_ ?_ | refine Lim.bind ?_ (fun _ => ?_)

noncomputable def laws_FnExactReefText.F (l0_0 l0_1 : List Int) : Option (Bool) := lim (fun k => laws_FnExactReefText.f k l0_0 l0_1)
theorem laws_FnExactReefText.F_lim (l0_0 l0_1 : List Int) : Lim (fun k => laws_FnExactReefText.f k l0_0 l0_1) (laws_FnExactReefText.F l0_0 l0_1) := Lim.of (fun k => laws_FnExactReefText.mono l0_0 l0_1 k)
theorem laws_FnExactReefText.F_eq (l0_0 l0_1 : List Int) : laws_FnExactReefText.F l0_0 l0_1 = (laws_szReefing.f l0_0 l0_1 1048576).bind fun t197 => (if t197 < 0 then (some true) else ((laws_toReefing.F l0_0 l0_1).bind fun bt198 => ((spec_ReefText.F bt198.1 bt198.2).bind fun t204 => ((laws_toReefing.F l0_0 l0_1).bind fun bt205 => ((impl_ReefText.F bt205.1 bt205.2).bind fun t212 => (if t212.toList = t204.toList then ((laws_toReefing.F l0_0 l0_1).bind fun bt213 => ((laws_eqReefing.F bt205.1 bt205.2 bt213.1 bt213.2).bind fun t219 => (if t219 = true then (some true) else (some false)))) else (some false))))))) := by
  refine Lim.eq (g := fun k => laws_FnExactReefText.f k l0_0 l0_1) ?_
  unfold laws_FnExactReefText.f
  repeat' with_reducible first | exact Lim.const _ | exact impl_ReefText.F_lim _ _ | exact laws_eqReefing.F_lim _ _ _ _ | exact laws_toReefing.F_lim _ _ | exact spec_ReefText.F_lim _ _ | refine Lim.ite ?_ ?_ | refine Lim.bind ?_ (fun _ => ?_)

end Go.Proofs.YtbhijlhlopljmaaDoor.PFnExactReefText
