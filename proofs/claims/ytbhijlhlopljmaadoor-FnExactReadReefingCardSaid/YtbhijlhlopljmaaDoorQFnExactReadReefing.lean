/-
  Written by a program of this session (wip/tools/lims.py): the printed functions without their bound on rounds.
-/
import Derived.Test.YtbhijlhlopljmaaDoorPFnExactReadReefingx1
import Derived.Test.YtbhijlhlopljmaaDoorPFnExactReadReefingx2
import Derived.Test.YtbhijlhlopljmaaDoorPFnExactReadReefingx3
import Derived.Test.YtbhijlhlopljmaaDoorPFnExactReadReefingx4
import Derived.Test.YtbhijlhlopljmaaDoorPFnExactReadReefingx5
import Derived.Test.YtbhijlhlopljmaaDoorPFnExactReadReefingx6
import Derived.Test.YtbhijlhlopljmaaDoorKit
set_option linter.unusedVariables false
set_option linter.unusedSimpArgs false
namespace Go.Proofs.YtbhijlhlopljmaaDoor.PFnExactReadReefing
open Go.RowKit Go.Proofs.YtbhijlhlopljmaaDoor.Kit Go.Proofs.YtbhijlhlopljmaaDoorW.PrintWords Go.Proofs.YtbhijlhlopljmaaDoorW.PrintLast Go.Proofs.YtbhijlhlopljmaaDoorW.PrintMore

noncomputable def laws_eqInt64S.L0 (x0 x1 : List Int) (x5 : Int) : Option (Bool) := lim (fun k => laws_eqInt64S.l0 k x0 x1 x5)
theorem laws_eqInt64S.L0_lim (x0 x1 : List Int) (x5 : Int) : Lim (fun k => laws_eqInt64S.l0 k x0 x1 x5) (laws_eqInt64S.L0 x0 x1 x5) := Lim.of (fun k => (laws_eqInt64S.mono_l k) x0 x1 x5)
noncomputable def laws_eqInt64S.F (l0 l1 : List Int) : Option (Bool) := lim (fun k => laws_eqInt64S.f k l0 l1)
theorem laws_eqInt64S.F_lim (l0 l1 : List Int) : Lim (fun k => laws_eqInt64S.f k l0 l1) (laws_eqInt64S.F l0 l1) := Lim.of (fun k => laws_eqInt64S.mono l0 l1 k)
theorem laws_eqInt64S.L0_eq (x0 x1 : List Int) (x5 : Int) : laws_eqInt64S.L0 x0 x1 x5 = if x5 < (x0.length : Int) then (if 0 ≤ x5 then (if x5 < (x1.length : Int) then (if (rd x0 x5) = (rd x1 x5) then (laws_eqInt64S.L0 x0 x1 (wrap64 (x5 + 1))) else (some false)) else (none)) else (none)) else (some true) := by
  refine Lim.next (fun k => (laws_eqInt64S.mono_l k) x0 x1 x5) ?_
  simp only [laws_eqInt64S.l0]
  repeat' with_reducible first | exact Lim.const _ | exact laws_eqInt64S.L0_lim _ _ _ | refine Lim.ite ?_ ?_ | refine Lim.bind ?_ (fun _ => ?_)
theorem laws_eqInt64S.F_eq (l0 l1 : List Int) : laws_eqInt64S.F l0 l1 = if (l0.length : Int) = (l1.length : Int) then (laws_eqInt64S.L0 l0 l1 0) else (some false) := by
  refine Lim.eq (g := fun k => laws_eqInt64S.f k l0 l1) ?_
  unfold laws_eqInt64S.f
  repeat' with_reducible first | exact Lim.const _ | exact laws_eqInt64S.L0_lim _ _ _ | refine Lim.ite ?_ ?_ | refine Lim.bind ?_ (fun _ => ?_)

noncomputable def laws_eqReefing.F (l0_0 l0_1 l1_0 l1_1 : List Int) : Option (Bool) := lim (fun k => laws_eqReefing.f k l0_0 l0_1 l1_0 l1_1)
theorem laws_eqReefing.F_lim (l0_0 l0_1 l1_0 l1_1 : List Int) : Lim (fun k => laws_eqReefing.f k l0_0 l0_1 l1_0 l1_1) (laws_eqReefing.F l0_0 l0_1 l1_0 l1_1) := Lim.of (fun k => laws_eqReefing.mono l0_0 l0_1 l1_0 l1_1 k)
theorem laws_eqReefing.F_eq (l0_0 l0_1 l1_0 l1_1 : List Int) : laws_eqReefing.F l0_0 l0_1 l1_0 l1_1 = (laws_eqInt64S.F l0_0 l1_0).bind fun t105 => (if t105 = true then ((laws_eqInt64S.F l0_1 l1_1).bind fun t106 => (if t106 = true then (some true) else (some false))) else (some false)) := by
  refine Lim.eq (g := fun k => laws_eqReefing.f k l0_0 l0_1 l1_0 l1_1) ?_
  unfold laws_eqReefing.f
  repeat' with_reducible first | exact Lim.const _ | exact laws_eqInt64S.F_lim _ _ | refine Lim.ite ?_ ?_ | refine Lim.bind ?_ (fun _ => ?_)

noncomputable def spec_l00Rises.L0 (x0 : List Int) (x1 x2 x7 : Int) : Option (Bool) := lim (fun k => spec_l00Rises.l0 k x0 x1 x2 x7)
theorem spec_l00Rises.L0_lim (x0 : List Int) (x1 x2 x7 : Int) : Lim (fun k => spec_l00Rises.l0 k x0 x1 x2 x7) (spec_l00Rises.L0 x0 x1 x2 x7) := Lim.of (fun k => (spec_l00Rises.mono_l k) x0 x1 x2 x7)
noncomputable def spec_l00Rises.F (l0 : List Int) (a1 a2 : Int) : Option (Bool) := lim (fun k => spec_l00Rises.f k l0 a1 a2)
theorem spec_l00Rises.F_lim (l0 : List Int) (a1 a2 : Int) : Lim (fun k => spec_l00Rises.f k l0 a1 a2) (spec_l00Rises.F l0 a1 a2) := Lim.of (fun k => spec_l00Rises.mono l0 a1 a2 k)
theorem spec_l00Rises.L0_eq (x0 : List Int) (x1 x2 x7 : Int) : spec_l00Rises.L0 x0 x1 x2 x7 = if x7 < (x0.length : Int) then (if 0 ≤ x7 then ((spec_l00In.f (rd x0 x7) x1 x2).bind fun t108 => (if t108 = true then (if x7 > 0 then (if 0 ≤ (wrap64 (x7 - 1)) then (if (wrap64 (x7 - 1)) < (x0.length : Int) then (if (rd x0 (wrap64 (x7 - 1))) ≥ (rd x0 x7) then (some false) else (spec_l00Rises.L0 x0 x1 x2 (wrap64 (x7 + 1)))) else (none)) else (none)) else (spec_l00Rises.L0 x0 x1 x2 (wrap64 (x7 + 1)))) else (some false))) else (none)) else (some true) := by
  refine Lim.next (fun k => (spec_l00Rises.mono_l k) x0 x1 x2 x7) ?_
  simp only [spec_l00Rises.l0]
  repeat' with_reducible first | exact Lim.const _ | exact spec_l00Rises.L0_lim _ _ _ _ | refine Lim.ite ?_ ?_ | refine Lim.bind ?_ (fun _ => ?_)
theorem spec_l00Rises.F_eq (l0 : List Int) (a1 a2 : Int) : spec_l00Rises.F l0 a1 a2 = spec_l00Rises.L0 l0 a1 a2 0 := by
  refine Lim.eq (g := fun k => spec_l00Rises.f k l0 a1 a2) ?_
  unfold spec_l00Rises.f
  repeat' with_reducible first | exact Lim.const _ | exact spec_l00Rises.L0_lim _ _ _ _ | refine Lim.ite ?_ ?_ | refine Lim.bind ?_ (fun _ => ?_)

noncomputable def spec_l18Ok.J0 (x0 : List (S40)) (x3 : Int) (x36 : Bool) : Option (Bool) := lim (fun k => spec_l18Ok.j0 k x0 x3 x36)
theorem spec_l18Ok.J0_lim (x0 : List (S40)) (x3 : Int) (x36 : Bool) : Lim (fun k => spec_l18Ok.j0 k x0 x3 x36) (spec_l18Ok.J0 x0 x3 x36) := Lim.of (fun k => (spec_l18Ok.mono_l k).1 x0 x3 x36)
noncomputable def spec_l18Ok.L0 (x0 : List (S40)) (x3 x4 : Int) : Option (Bool) := lim (fun k => spec_l18Ok.l0 k x0 x3 x4)
theorem spec_l18Ok.L0_lim (x0 : List (S40)) (x3 x4 : Int) : Lim (fun k => spec_l18Ok.l0 k x0 x3 x4) (spec_l18Ok.L0 x0 x3 x4) := Lim.of (fun k => (spec_l18Ok.mono_l k).2 x0 x3 x4)
noncomputable def spec_l18Ok.F (l0 : List (S40)) : Option (Bool) := lim (fun k => spec_l18Ok.f k l0)
theorem spec_l18Ok.F_lim (l0 : List (S40)) : Lim (fun k => spec_l18Ok.f k l0) (spec_l18Ok.F l0) := Lim.of (fun k => spec_l18Ok.mono l0 k)
theorem spec_l18Ok.J0_eq (x0 : List (S40)) (x3 : Int) (x36 : Bool) : spec_l18Ok.J0 x0 x3 x36 = if x36 = true then (some false) else (spec_l18Ok.L0 x0 x3 0) := by
  refine Lim.next (fun k => (spec_l18Ok.mono_l k).1 x0 x3 x36) ?_
  simp only [spec_l18Ok.j0]
  repeat' with_reducible first | exact Lim.const _ | exact spec_l18Ok.L0_lim _ _ _ | refine Lim.ite ?_ ?_ | refine Lim.bind ?_ (fun _ => ?_)
theorem spec_l18Ok.L0_eq (x0 : List (S40)) (x3 x4 : Int) : spec_l18Ok.L0 x0 x3 x4 = if x4 < x3 then (if 0 ≤ x4 then (if x4 < (((rd_T40 x0 0).f1).length : Int) then (if x4 < (((rd_T40 x0 0).f0).length : Int) then (if (rd ((rd_T40 x0 0).f1) x4) > (rd ((rd_T40 x0 0).f0) x4) then (some false) else (spec_l18Ok.L0 x0 x3 (wrap64 (x4 + 1)))) else (none)) else (none)) else (none)) else (some true) := by
  refine Lim.next (fun k => (spec_l18Ok.mono_l k).2 x0 x3 x4) ?_
  simp only [spec_l18Ok.l0]
  repeat' with_reducible first | exact Lim.const _ | exact spec_l18Ok.L0_lim _ _ _ | refine Lim.ite ?_ ?_ | refine Lim.bind ?_ (fun _ => ?_)
theorem spec_l18Ok.F_eq (l0 : List (S40)) : spec_l18Ok.F l0 = if 0 < (l0.length : Int) then (if (((rd_T40 l0 0).f1).length : Int) = (((rd_T40 l0 0).f0).length : Int) then (if (((rd_T40 l0 0).f0).length : Int) > 6 then (spec_l18Ok.J0 l0 (((rd_T40 l0 0).f0).length : Int) true) else ((spec_l00Rises.F ((rd_T40 l0 0).f0) 1 600).bind fun t115 => (if t115 = true then ((spec_l00Rises.F ((rd_T40 l0 0).f1) 0 600).bind fun t117 => (spec_l18Ok.J0 l0 (((rd_T40 l0 0).f0).length : Int) (!t117))) else (spec_l18Ok.J0 l0 (((rd_T40 l0 0).f0).length : Int) true)))) else (spec_l18Ok.J0 l0 (((rd_T40 l0 0).f0).length : Int) true)) else (none) := by
  refine Lim.eq (g := fun k => spec_l18Ok.f k l0) ?_
  unfold spec_l18Ok.f
  repeat' with_reducible first | exact Lim.const _ | exact spec_l00Rises.F_lim _ _ _ | exact spec_l18Ok.J0_lim _ _ _ | refine Lim.ite ?_ ?_ | refine Lim.bind ?_ (fun _ => ?_)

noncomputable def spec_l01Split.L0 (x0 : ByteArray) (x1 : Int) (x5 : List ByteArray) (x6 x7 : Int) : Option (List ByteArray) := lim (fun k => spec_l01Split.l0 k x0 x1 x5 x6 x7)
theorem spec_l01Split.L0_lim (x0 : ByteArray) (x1 : Int) (x5 : List ByteArray) (x6 x7 : Int) : Lim (fun k => spec_l01Split.l0 k x0 x1 x5 x6 x7) (spec_l01Split.L0 x0 x1 x5 x6 x7) := Lim.of (fun k => (spec_l01Split.mono_l k) x0 x1 x5 x6 x7)
noncomputable def spec_l01Split.F (a0 : ByteArray) (a1 : Int) : Option (List ByteArray) := lim (fun k => spec_l01Split.f k a0 a1)
theorem spec_l01Split.F_lim (a0 : ByteArray) (a1 : Int) : Lim (fun k => spec_l01Split.f k a0 a1) (spec_l01Split.F a0 a1) := Lim.of (fun k => spec_l01Split.mono a0 a1 k)
theorem spec_l01Split.L0_eq (x0 : ByteArray) (x1 : Int) (x5 : List ByteArray) (x6 x7 : Int) : spec_l01Split.L0 x0 x1 x5 x6 x7 = if x7 < (x0.size : Int) then (if 0 ≤ x7 then (if (bt x0 x7) = x1 then (if 0 ≤ x6 then (if x6 ≤ x7 then (if x7 ≤ (x0.size : Int) then (if x5.length < 8796093022208 then (spec_l01Split.L0 x0 x1 (x5 ++ [x0.extract (x6 : Int).toNat (x7 : Int).toNat]) (wrap64 (x7 + 1)) (wrap64 (x7 + 1))) else (none)) else (none)) else (none)) else (none)) else (spec_l01Split.L0 x0 x1 x5 x6 (wrap64 (x7 + 1)))) else (none)) else (if 0 ≤ x6 then (if x6 ≤ (x0.size : Int) then (if x5.length < 8796093022208 then (some (x5 ++ [x0.extract (x6 : Int).toNat x0.size])) else (none)) else (none)) else (none)) := by
  refine Lim.next (fun k => (spec_l01Split.mono_l k) x0 x1 x5 x6 x7) ?_
  simp only [spec_l01Split.l0]
  repeat' with_reducible first | exact Lim.const _ | exact spec_l01Split.L0_lim _ _ _ _ _ | refine Lim.ite ?_ ?_ | refine Lim.bind ?_ (fun _ => ?_)
theorem spec_l01Split.F_eq (a0 : ByteArray) (a1 : Int) : spec_l01Split.F a0 a1 = spec_l01Split.L0 a0 a1 (([] : List ByteArray)) 0 0 := by
  refine Lim.eq (g := fun k => spec_l01Split.f k a0 a1) ?_
  unfold spec_l01Split.f
  repeat' with_reducible first | exact Lim.const _ | exact spec_l01Split.L0_lim _ _ _ _ _ | refine Lim.ite ?_ ?_ | refine Lim.bind ?_ (fun _ => ?_)

noncomputable def spec_l01Dec.L0 (x0 : Int) (x3 : List Int) (x4 : Int) : Option (ByteArray) := lim (fun k => spec_l01Dec.l0 k x0 x3 x4)
theorem spec_l01Dec.L0_lim (x0 : Int) (x3 : List Int) (x4 : Int) : Lim (fun k => spec_l01Dec.l0 k x0 x3 x4) (spec_l01Dec.L0 x0 x3 x4) := Lim.of (fun k => (spec_l01Dec.mono_l k) x0 x3 x4)
noncomputable def spec_l01Dec.F (a0 : Int) : Option (ByteArray) := lim (fun k => spec_l01Dec.f k a0)
theorem spec_l01Dec.F_lim (a0 : Int) : Lim (fun k => spec_l01Dec.f k a0) (spec_l01Dec.F a0) := Lim.of (fun k => spec_l01Dec.mono a0 k)
theorem spec_l01Dec.L0_eq (x0 : Int) (x3 : List Int) (x4 : Int) : spec_l01Dec.L0 x0 x3 x4 = if x4 = 0 then (if (x3.length : Int) = 0 then (some (⟨#[48]⟩ : ByteArray)) else (if x0 < 0 then (if 1 + (strOfNums x3).size ≤ 9223372036854775807 then (some ((⟨#[45]⟩ : ByteArray) ++ (strOfNums x3))) else (none)) else (some (strOfNums x3)))) else (if (Int.tmod x4 10) < 0 then ((some (([(wrap64 (48 + (wrap64 (-(Int.tmod x4 10))))) % 256] : List Int) : List Int)).bind fun y134 => (if y134.length + x3.length < 140737488355328 then (spec_l01Dec.L0 x0 (y134 ++ x3) (wrap64 (Int.tdiv x4 10))) else (none))) else ((some (([(wrap64 (48 + (Int.tmod x4 10))) % 256] : List Int) : List Int)).bind fun y140 => (if y140.length + x3.length < 140737488355328 then (spec_l01Dec.L0 x0 (y140 ++ x3) (wrap64 (Int.tdiv x4 10))) else (none)))) := by
  refine Lim.next (fun k => (spec_l01Dec.mono_l k) x0 x3 x4) ?_
  simp only [spec_l01Dec.l0]
  repeat' with_reducible first | exact Lim.const _ | exact spec_l01Dec.L0_lim _ _ _ | refine Lim.ite ?_ ?_ | refine Lim.bind ?_ (fun _ => ?_)
theorem spec_l01Dec.F_eq (a0 : Int) : spec_l01Dec.F a0 = spec_l01Dec.L0 a0 (([] : List Int)) a0 := by
  refine Lim.eq (g := fun k => spec_l01Dec.f k a0) ?_
  unfold spec_l01Dec.f
  repeat' with_reducible first | exact Lim.const _ | exact spec_l01Dec.L0_lim _ _ _ | refine Lim.ite ?_ ?_ | refine Lim.bind ?_ (fun _ => ?_)

noncomputable def spec_l01Number.J0 (x0 x4 : ByteArray) (x14 : Bool) : Option (Int × Bool) := lim (fun k => spec_l01Number.j0 k x0 x4 x14)
theorem spec_l01Number.J0_lim (x0 x4 : ByteArray) (x14 : Bool) : Lim (fun k => spec_l01Number.j0 k x0 x4 x14) (spec_l01Number.J0 x0 x4 x14) := Lim.of (fun k => (spec_l01Number.mono_l k).1 x0 x4 x14)
noncomputable def spec_l01Number.J1 (x0 x4 : ByteArray) : Option (Int × Bool) := lim (fun k => spec_l01Number.j1 k x0 x4)
theorem spec_l01Number.J1_lim (x0 x4 : ByteArray) : Lim (fun k => spec_l01Number.j1 k x0 x4) (spec_l01Number.J1 x0 x4) := Lim.of (fun k => (spec_l01Number.mono_l k).2.1 x0 x4)
noncomputable def spec_l01Number.J2 (x0 x4 : ByteArray) (x24 : Bool) : Option (Int × Bool) := lim (fun k => spec_l01Number.j2 k x0 x4 x24)
theorem spec_l01Number.J2_lim (x0 x4 : ByteArray) (x24 : Bool) : Lim (fun k => spec_l01Number.j2 k x0 x4 x24) (spec_l01Number.J2 x0 x4 x24) := Lim.of (fun k => (spec_l01Number.mono_l k).2.2.1 x0 x4 x24)
noncomputable def spec_l01Number.L0 (x0 x4 : ByteArray) (x5 x6 : Int) : Option (Int × Bool) := lim (fun k => spec_l01Number.l0 k x0 x4 x5 x6)
theorem spec_l01Number.L0_lim (x0 x4 : ByteArray) (x5 x6 : Int) : Lim (fun k => spec_l01Number.l0 k x0 x4 x5 x6) (spec_l01Number.L0 x0 x4 x5 x6) := Lim.of (fun k => (spec_l01Number.mono_l k).2.2.2 x0 x4 x5 x6)
noncomputable def spec_l01Number.F (a0 : ByteArray) : Option (Int × Bool) := lim (fun k => spec_l01Number.f k a0)
theorem spec_l01Number.F_lim (a0 : ByteArray) : Lim (fun k => spec_l01Number.f k a0) (spec_l01Number.F a0) := Lim.of (fun k => spec_l01Number.mono a0 k)
theorem spec_l01Number.J0_eq (x0 x4 : ByteArray) (x14 : Bool) : spec_l01Number.J0 x0 x4 x14 = if x14 = true then (if 1 ≤ (x4.size : Int) then (spec_l01Number.J1 x0 (x4.extract 1 x4.size)) else (none)) else (spec_l01Number.J1 x0 x4) := by
  refine Lim.next (fun k => (spec_l01Number.mono_l k).1 x0 x4 x14) ?_
  simp only [spec_l01Number.j0]
  repeat' with_reducible first | exact Lim.const _ | exact spec_l01Number.J1_lim _ _ | refine Lim.ite ?_ ?_ | refine Lim.bind ?_ (fun _ => ?_)
theorem spec_l01Number.J1_eq (x0 x4 : ByteArray) : spec_l01Number.J1 x0 x4 = if (x4.size : Int) < 1 then (spec_l01Number.J2 x0 x4 true) else (spec_l01Number.J2 x0 x4 (decide ((x4.size : Int) > 18))) := by
  refine Lim.next (fun k => (spec_l01Number.mono_l k).2.1 x0 x4) ?_
  simp only [spec_l01Number.j1]
  repeat' with_reducible first | exact Lim.const _ | exact spec_l01Number.J2_lim _ _ _ | refine Lim.ite ?_ ?_ | refine Lim.bind ?_ (fun _ => ?_)
theorem spec_l01Number.J2_eq (x0 x4 : ByteArray) (x24 : Bool) : spec_l01Number.J2 x0 x4 x24 = if x24 = true then (some (0, false)) else (spec_l01Number.L0 x0 x4 0 0) := by
  refine Lim.next (fun k => (spec_l01Number.mono_l k).2.2.1 x0 x4 x24) ?_
  simp only [spec_l01Number.j2]
  repeat' with_reducible first | exact Lim.const _ | exact spec_l01Number.L0_lim _ _ _ _ | refine Lim.ite ?_ ?_ | refine Lim.bind ?_ (fun _ => ?_)
theorem spec_l01Number.L0_eq (x0 x4 : ByteArray) (x5 x6 : Int) : spec_l01Number.L0 x0 x4 x5 x6 = if x6 < (x4.size : Int) then (if 0 ≤ x6 then ((spec_l01Digit.f (bt x4 x6)).bind fun t146 => (if t146 = true then (spec_l01Number.L0 x0 x4 (wrap64 ((wrap64 (10 * x5)) + (((bt x4 x6) - 48) % 256))) (wrap64 (x6 + 1))) else (some (0, false)))) else (none)) else (if (x4.size : Int) < (x0.size : Int) then ((spec_l01Dec.F (wrap64 (-x5))).bind fun t147 => (if t147.toList = x0.toList then (some (wrap64 (-x5), true)) else (some (0, false)))) else ((spec_l01Dec.F x5).bind fun t148 => (if t148.toList = x0.toList then (some (x5, true)) else (some (0, false))))) := by
  refine Lim.next (fun k => (spec_l01Number.mono_l k).2.2.2 x0 x4 x5 x6) ?_
  simp only [spec_l01Number.l0]
  repeat' with_reducible first | exact Lim.const _ | exact spec_l01Dec.F_lim _ | exact spec_l01Number.L0_lim _ _ _ _ | refine Lim.ite ?_ ?_ | refine Lim.bind ?_ (fun _ => ?_)
theorem spec_l01Number.F_eq (a0 : ByteArray) : spec_l01Number.F a0 = if a0.toList = ([] : List UInt8) then (spec_l01Number.J0 a0 a0 false) else (if 0 < (a0.size : Int) then (spec_l01Number.J0 a0 a0 ((bt a0 0) == 45)) else (none)) := by
  refine Lim.eq (g := fun k => spec_l01Number.f k a0) ?_
  unfold spec_l01Number.f
  repeat' with_reducible first | exact Lim.const _ | exact spec_l01Number.J0_lim _ _ _ | refine Lim.ite ?_ ?_ | refine Lim.bind ?_ (fun _ => ?_)

noncomputable def spec_ReadReefing.L0 (x4 : List ByteArray) (x6 : Int) (x166000 x166001 : List Int) : Option (List Int × List Int × Bool) := lim (fun k => spec_ReadReefing.l0 k x4 x6 x166000 x166001)
theorem spec_ReadReefing.L0_lim (x4 : List ByteArray) (x6 : Int) (x166000 x166001 : List Int) : Lim (fun k => spec_ReadReefing.l0 k x4 x6 x166000 x166001) (spec_ReadReefing.L0 x4 x6 x166000 x166001) := Lim.of (fun k => (spec_ReadReefing.mono_l k) x4 x6 x166000 x166001)
noncomputable def spec_ReadReefing.F (a0 : ByteArray) : Option (List Int × List Int × Bool) := lim (fun k => spec_ReadReefing.f k a0)
theorem spec_ReadReefing.F_lim (a0 : ByteArray) : Lim (fun k => spec_ReadReefing.f k a0) (spec_ReadReefing.F a0) := Lim.of (fun k => spec_ReadReefing.mono a0 k)
theorem spec_ReadReefing.L0_eq (x4 : List ByteArray) (x6 : Int) (x166000 x166001 : List Int) : spec_ReadReefing.L0 x4 x6 x166000 x166001 = if x6 < (x4.length : Int) then (if 0 ≤ x6 then ((spec_l01Split.F (rdOf ByteArray.empty x4 x6) 47).bind fun t169 => (if (t169.length : Int) = 2 then (if 0 < (t169.length : Int) then ((spec_l01Number.F (rdOf ByteArray.empty t169 0)).bind fun bt173 => (if 1 < (t169.length : Int) then ((spec_l01Number.F (rdOf ByteArray.empty t169 1)).bind fun bt176 => (if bt173.2 = true then (if bt176.2 = true then (if x166000.length < 17592186044416 then (if x166001.length < 17592186044416 then (spec_ReadReefing.L0 x4 (wrap64 (x6 + 1)) (x166000 ++ [bt173.1]) (x166001 ++ [bt176.1])) else (none)) else (none)) else (some (([] : List Int), ([] : List Int), false))) else (some (([] : List Int), ([] : List Int), false)))) else (none))) else (none)) else (some (([] : List Int), ([] : List Int), false)))) else (none)) else ((spec_l18Ok.F [(⟨x166000, x166001⟩ : S40)]).bind fun t167 => (if t167 = true then (some (x166000, x166001, true)) else (some (([] : List Int), ([] : List Int), false)))) := by
  refine Lim.next (fun k => (spec_ReadReefing.mono_l k) x4 x6 x166000 x166001) ?_
  simp only [spec_ReadReefing.l0]
  repeat' with_reducible first | exact Lim.const _ | exact spec_ReadReefing.L0_lim _ _ _ _ | exact spec_l01Number.F_lim _ | exact spec_l01Split.F_lim _ _ | exact spec_l18Ok.F_lim _ | refine Lim.ite ?_ ?_ | refine Lim.bind ?_ (fun _ => ?_)
theorem spec_ReadReefing.F_eq (a0 : ByteArray) : spec_ReadReefing.F a0 = if a0.toList = ([110, 111, 110, 101] : List UInt8) then (some ((([] : List Int)), (([] : List Int)), true)) else ((spec_l01Split.F a0 32).bind fun t156 => (spec_ReadReefing.L0 t156 0 (([] : List Int)) (([] : List Int)))) := by
  refine Lim.eq (g := fun k => spec_ReadReefing.f k a0) ?_
  unfold spec_ReadReefing.f
  repeat' with_reducible first | exact Lim.const _ | exact spec_ReadReefing.L0_lim _ _ _ _ | exact spec_l01Split.F_lim _ _ | refine Lim.ite ?_ ?_ | refine Lim.bind ?_ (fun _ => ?_)

noncomputable def impl_ValidReefing.J0 (x17 : Bool) (x185000 x185001 : List Int) : Option (Bool) := lim (fun k => impl_ValidReefing.j0 k x17 x185000 x185001)
theorem impl_ValidReefing.J0_lim (x17 : Bool) (x185000 x185001 : List Int) : Lim (fun k => impl_ValidReefing.j0 k x17 x185000 x185001) (impl_ValidReefing.J0 x17 x185000 x185001) := Lim.of (fun k => (impl_ValidReefing.mono_l k).1 x17 x185000 x185001)
noncomputable def impl_ValidReefing.L0 (x19 : List Int) (x20 x21 : Int) (x185000 x185001 : List Int) : Option (Bool) := lim (fun k => impl_ValidReefing.l0 k x19 x20 x21 x185000 x185001)
theorem impl_ValidReefing.L0_lim (x19 : List Int) (x20 x21 : Int) (x185000 x185001 : List Int) : Lim (fun k => impl_ValidReefing.l0 k x19 x20 x21 x185000 x185001) (impl_ValidReefing.L0 x19 x20 x21 x185000 x185001) := Lim.of (fun k => (impl_ValidReefing.mono_l k).2 x19 x20 x21 x185000 x185001)
noncomputable def impl_ValidReefing.F (l0_0 l0_1 : List Int) : Option (Bool) := lim (fun k => impl_ValidReefing.f k l0_0 l0_1)
theorem impl_ValidReefing.F_lim (l0_0 l0_1 : List Int) : Lim (fun k => impl_ValidReefing.f k l0_0 l0_1) (impl_ValidReefing.F l0_0 l0_1) := Lim.of (fun k => impl_ValidReefing.mono l0_0 l0_1 k)
theorem impl_ValidReefing.J0_eq (x17 : Bool) (x185000 x185001 : List Int) : impl_ValidReefing.J0 x17 x185000 x185001 = if x17 = true then (some false) else (impl_ValidReefing.L0 x185000 (x185000.length : Int) 0 x185000 x185001) := by
  refine Lim.next (fun k => (impl_ValidReefing.mono_l k).1 x17 x185000 x185001) ?_
  simp only [impl_ValidReefing.j0]
  repeat' with_reducible first | exact Lim.const _ | exact impl_ValidReefing.L0_lim _ _ _ _ _ | refine Lim.ite ?_ ?_ | refine Lim.bind ?_ (fun _ => ?_)
theorem impl_ValidReefing.L0_eq (x19 : List Int) (x20 x21 : Int) (x185000 x185001 : List Int) : impl_ValidReefing.L0 x19 x20 x21 x185000 x185001 = if x21 < x20 then (if 0 ≤ x21 then (if x21 < (x19.length : Int) then ((impl_within.f (rd x19 x21) 1 600).bind fun t186 => (if t186 = true then (if x21 < (x185001.length : Int) then ((impl_within.f (rd x185001 x21) 0 (rd x19 x21)).bind fun t188 => (if t188 = true then (if x21 > 0 then (if 0 ≤ (wrap64 (x21 - 1)) then (if (wrap64 (x21 - 1)) < (x185000.length : Int) then (if (rd x19 x21) ≤ (rd x185000 (wrap64 (x21 - 1))) then (some false) else (if (wrap64 (x21 - 1)) < (x185001.length : Int) then (if (rd x185001 x21) ≤ (rd x185001 (wrap64 (x21 - 1))) then (some false) else (impl_ValidReefing.L0 x19 x20 (wrap64 (x21 + 1)) x185000 x185001)) else (none))) else (none)) else (none)) else (impl_ValidReefing.L0 x19 x20 (wrap64 (x21 + 1)) x185000 x185001)) else (some false))) else (none)) else (some false))) else (none)) else (none)) else (some true) := by
  refine Lim.next (fun k => (impl_ValidReefing.mono_l k).2 x19 x20 x21 x185000 x185001) ?_
  simp only [impl_ValidReefing.l0]
  repeat' with_reducible first | exact Lim.const _ | exact impl_ValidReefing.L0_lim _ _ _ _ _ | refine Lim.ite ?_ ?_ | refine Lim.bind ?_ (fun _ => ?_)
theorem impl_ValidReefing.F_eq (l0_0 l0_1 : List Int) : impl_ValidReefing.F l0_0 l0_1 = if (l0_0.length : Int) > 6 then (impl_ValidReefing.J0 true l0_0 l0_1) else (impl_ValidReefing.J0 ((l0_1.length : Int) != (l0_0.length : Int)) l0_0 l0_1) := by
  refine Lim.eq (g := fun k => impl_ValidReefing.f k l0_0 l0_1) ?_
  unfold impl_ValidReefing.f
  repeat' with_reducible first | exact Lim.const _ | exact impl_ValidReefing.J0_lim _ _ _ | refine Lim.ite ?_ ?_ | refine Lim.bind ?_ (fun _ => ?_)

noncomputable def impl_ReadDecimal.J0 (x0 x4 : ByteArray) (x16 : Bool) : Option (Int × Bool) := lim (fun k => impl_ReadDecimal.j0 k x0 x4 x16)
theorem impl_ReadDecimal.J0_lim (x0 x4 : ByteArray) (x16 : Bool) : Lim (fun k => impl_ReadDecimal.j0 k x0 x4 x16) (impl_ReadDecimal.J0 x0 x4 x16) := Lim.of (fun k => (impl_ReadDecimal.mono_l k).1 x0 x4 x16)
noncomputable def impl_ReadDecimal.L0 (x0 x4 : ByteArray) (x5 x6 : Int) : Option (Int × Bool) := lim (fun k => impl_ReadDecimal.l0 k x0 x4 x5 x6)
theorem impl_ReadDecimal.L0_lim (x0 x4 : ByteArray) (x5 x6 : Int) : Lim (fun k => impl_ReadDecimal.l0 k x0 x4 x5 x6) (impl_ReadDecimal.L0 x0 x4 x5 x6) := Lim.of (fun k => (impl_ReadDecimal.mono_l k).2 x0 x4 x5 x6)
noncomputable def impl_ReadDecimal.F (a0 : ByteArray) : Option (Int × Bool) := lim (fun k => impl_ReadDecimal.f k a0)
theorem impl_ReadDecimal.F_lim (a0 : ByteArray) : Lim (fun k => impl_ReadDecimal.f k a0) (impl_ReadDecimal.F a0) := Lim.of (fun k => impl_ReadDecimal.mono a0 k)
theorem impl_ReadDecimal.J0_eq (x0 x4 : ByteArray) (x16 : Bool) : impl_ReadDecimal.J0 x0 x4 x16 = if x16 = true then (some (0, false)) else (impl_ReadDecimal.L0 x0 x4 0 0) := by
  refine Lim.next (fun k => (impl_ReadDecimal.mono_l k).1 x0 x4 x16) ?_
  simp only [impl_ReadDecimal.j0]
  repeat' with_reducible first | exact Lim.const _ | exact impl_ReadDecimal.L0_lim _ _ _ _ | refine Lim.ite ?_ ?_ | refine Lim.bind ?_ (fun _ => ?_)
theorem impl_ReadDecimal.L0_eq (x0 x4 : ByteArray) (x5 x6 : Int) : impl_ReadDecimal.L0 x0 x4 x5 x6 = if x6 < (x4.size : Int) then (if 0 ≤ x6 then (if (bt x4 x6) < 48 then (some (0, false)) else (if (bt x4 x6) > 57 then (some (0, false)) else (impl_ReadDecimal.L0 x0 x4 (wrap64 ((wrap64 (10 * x5)) + (((bt x4 x6) - 48) % 256))) (wrap64 (x6 + 1))))) else (none)) else (if (x4.size : Int) < (x0.size : Int) then ((impl_Decimal.f (wrap64 (-x5))).bind fun t196 => (if t196.toList = x0.toList then (some (wrap64 (-x5), true)) else (some (0, false)))) else ((impl_Decimal.f x5).bind fun t197 => (if t197.toList = x0.toList then (some (x5, true)) else (some (0, false))))) := by
  refine Lim.next (fun k => (impl_ReadDecimal.mono_l k).2 x0 x4 x5 x6) ?_
  simp only [impl_ReadDecimal.l0]
  repeat' with_reducible first | exact Lim.const _ | exact impl_ReadDecimal.L0_lim _ _ _ _ | refine Lim.ite ?_ ?_ | refine Lim.bind ?_ (fun _ => ?_)
theorem impl_ReadDecimal.F_eq (a0 : ByteArray) : impl_ReadDecimal.F a0 = (strings_TrimPrefix.f a0 (⟨#[45]⟩ : ByteArray)).bind fun t195 => (if (t195.size : Int) < 1 then (impl_ReadDecimal.J0 a0 t195 true) else (impl_ReadDecimal.J0 a0 t195 (decide ((t195.size : Int) > 18)))) := by
  refine Lim.eq (g := fun k => impl_ReadDecimal.f k a0) ?_
  unfold impl_ReadDecimal.f
  repeat' with_reducible first | exact Lim.const _ | exact impl_ReadDecimal.J0_lim _ _ _ | refine Lim.ite ?_ ?_ | refine Lim.bind ?_ (fun _ => ?_)

noncomputable def impl_ReadReefing.L0 (x19 : List ByteArray) (x20 x21 : Int) (x200000 x200001 : List Int) : Option (List Int × List Int × Bool) := lim (fun k => impl_ReadReefing.l0 k x19 x20 x21 x200000 x200001)
theorem impl_ReadReefing.L0_lim (x19 : List ByteArray) (x20 x21 : Int) (x200000 x200001 : List Int) : Lim (fun k => impl_ReadReefing.l0 k x19 x20 x21 x200000 x200001) (impl_ReadReefing.L0 x19 x20 x21 x200000 x200001) := Lim.of (fun k => (impl_ReadReefing.mono_l k) x19 x20 x21 x200000 x200001)
noncomputable def impl_ReadReefing.F (a0 : ByteArray) : Option (List Int × List Int × Bool) := lim (fun k => impl_ReadReefing.f k a0)
theorem impl_ReadReefing.F_lim (a0 : ByteArray) : Lim (fun k => impl_ReadReefing.f k a0) (impl_ReadReefing.F a0) := Lim.of (fun k => impl_ReadReefing.mono a0 k)
theorem impl_ReadReefing.L0_eq (x19 : List ByteArray) (x20 x21 : Int) (x200000 x200001 : List Int) : impl_ReadReefing.L0 x19 x20 x21 x200000 x200001 = if x21 < x20 then (if 0 ≤ x21 then (if x21 < (x19.length : Int) then ((strings_Cut.f (rdOf ByteArray.empty x19 x21) (⟨#[47]⟩ : ByteArray)).bind fun bt205 => ((impl_ReadDecimal.F bt205.1).bind fun bt208 => ((impl_ReadDecimal.F bt205.2.1).bind fun bt210 => (if bt205.2.2 = true then (if bt208.2 = true then (if bt210.2 = true then (if x200000.length < 17592186044416 then (if x200001.length < 17592186044416 then (impl_ReadReefing.L0 x19 x20 (wrap64 (x21 + 1)) (x200000 ++ [bt208.1]) (x200001 ++ [bt210.1])) else (none)) else (none)) else (some (([] : List Int), ([] : List Int), false))) else (some (([] : List Int), ([] : List Int), false))) else (some (([] : List Int), ([] : List Int), false)))))) else (none)) else (none)) else ((impl_ValidReefing.F x200000 x200001).bind fun t203 => (if t203 = true then (some (x200000, x200001, true)) else (some (([] : List Int), ([] : List Int), false)))) := by
  refine Lim.next (fun k => (impl_ReadReefing.mono_l k) x19 x20 x21 x200000 x200001) ?_
  simp only [impl_ReadReefing.l0]
  repeat' with_reducible first | exact Lim.const _ | exact impl_ReadDecimal.F_lim _ | exact impl_ReadReefing.L0_lim _ _ _ _ _ | exact impl_ValidReefing.F_lim _ _ | refine Lim.ite ?_ ?_ | refine Lim.bind ?_ (fun _ => ?_)
theorem impl_ReadReefing.F_eq (a0 : ByteArray) : impl_ReadReefing.F a0 = if a0.toList = ([110, 111, 110, 101] : List UInt8) then (some (([] : List Int), ([] : List Int), true)) else ((strings_Split.f a0 (⟨#[32]⟩ : ByteArray)).bind fun t200 => (impl_ReadReefing.L0 t200 (t200.length : Int) 0 ([] : List Int) ([] : List Int))) := by
  refine Lim.eq (g := fun k => impl_ReadReefing.f k a0) ?_
  unfold impl_ReadReefing.f
  repeat' with_reducible first | exact Lim.const _ | exact impl_ReadReefing.L0_lim _ _ _ _ _ | refine Lim.ite ?_ ?_ | refine Lim.bind ?_ (fun _ => ?_)

noncomputable def laws_markInt64S.L0 (x0 : List Int) (x1 x5 : Int) : Option (Int × List Int) := lim (fun k => laws_markInt64S.l0 k x0 x1 x5)
theorem laws_markInt64S.L0_lim (x0 : List Int) (x1 x5 : Int) : Lim (fun k => laws_markInt64S.l0 k x0 x1 x5) (laws_markInt64S.L0 x0 x1 x5) := Lim.of (fun k => (laws_markInt64S.mono_l k) x0 x1 x5)
noncomputable def laws_markInt64S.F (l0 : List Int) (a1 : Int) : Option (Int × List Int) := lim (fun k => laws_markInt64S.f k l0 a1)
theorem laws_markInt64S.F_lim (l0 : List Int) (a1 : Int) : Lim (fun k => laws_markInt64S.f k l0 a1) (laws_markInt64S.F l0 a1) := Lim.of (fun k => laws_markInt64S.mono l0 a1 k)
theorem laws_markInt64S.L0_eq (x0 : List Int) (x1 x5 : Int) : laws_markInt64S.L0 x0 x1 x5 = if x5 < (x0.length : Int) then (if 0 ≤ x5 then (laws_markInt64S.L0 (x0.set (x5 : Int).toNat x1) (wrap64 (x1 + 1)) (wrap64 (x5 + 1))) else (none)) else (some (x1, x0)) := by
  refine Lim.next (fun k => (laws_markInt64S.mono_l k) x0 x1 x5) ?_
  simp only [laws_markInt64S.l0]
  repeat' with_reducible first | exact Lim.const _ | exact laws_markInt64S.L0_lim _ _ _ | refine Lim.ite ?_ ?_ | refine Lim.bind ?_ (fun _ => ?_)
theorem laws_markInt64S.F_eq (l0 : List Int) (a1 : Int) : laws_markInt64S.F l0 a1 = laws_markInt64S.L0 l0 a1 0 := by
  refine Lim.eq (g := fun k => laws_markInt64S.f k l0 a1) ?_
  unfold laws_markInt64S.f
  repeat' with_reducible first | exact Lim.const _ | exact laws_markInt64S.L0_lim _ _ _ | refine Lim.ite ?_ ?_ | refine Lim.bind ?_ (fun _ => ?_)

noncomputable def laws_markReefing.F (l0_0 l0_1 : List Int) (a1 : Int) : Option (Int × List Int × List Int) := lim (fun k => laws_markReefing.f k l0_0 l0_1 a1)
theorem laws_markReefing.F_lim (l0_0 l0_1 : List Int) (a1 : Int) : Lim (fun k => laws_markReefing.f k l0_0 l0_1 a1) (laws_markReefing.F l0_0 l0_1 a1) := Lim.of (fun k => laws_markReefing.mono l0_0 l0_1 a1 k)
theorem laws_markReefing.F_eq (l0_0 l0_1 : List Int) (a1 : Int) : laws_markReefing.F l0_0 l0_1 a1 = (laws_markInt64S.F l0_0 a1).bind fun bt220 => ((laws_markInt64S.F l0_1 bt220.1).bind fun bt222 => (some (bt222.1, bt220.2, bt222.2))) := by
  refine Lim.eq (g := fun k => laws_markReefing.f k l0_0 l0_1 a1) ?_
  unfold laws_markReefing.f
  repeat' with_reducible first | exact Lim.const _ | exact laws_markInt64S.F_lim _ _ | refine Lim.ite ?_ ?_ | refine Lim.bind ?_ (fun _ => ?_)

noncomputable def laws_heldInt64S.L0 (x0 : List Int) (x1 x5 : Int) : Option (Int) := lim (fun k => laws_heldInt64S.l0 k x0 x1 x5)
theorem laws_heldInt64S.L0_lim (x0 : List Int) (x1 x5 : Int) : Lim (fun k => laws_heldInt64S.l0 k x0 x1 x5) (laws_heldInt64S.L0 x0 x1 x5) := Lim.of (fun k => (laws_heldInt64S.mono_l k) x0 x1 x5)
noncomputable def laws_heldInt64S.F (l0 : List Int) (a1 : Int) : Option (Int) := lim (fun k => laws_heldInt64S.f k l0 a1)
theorem laws_heldInt64S.F_lim (l0 : List Int) (a1 : Int) : Lim (fun k => laws_heldInt64S.f k l0 a1) (laws_heldInt64S.F l0 a1) := Lim.of (fun k => laws_heldInt64S.mono l0 a1 k)
theorem laws_heldInt64S.L0_eq (x0 : List Int) (x1 x5 : Int) : laws_heldInt64S.L0 x0 x1 x5 = if x5 < (x0.length : Int) then (if 0 ≤ x5 then (if (rd x0 x5) = x1 then (laws_heldInt64S.L0 x0 (wrap64 (x1 + 1)) (wrap64 (x5 + 1))) else (some (-1))) else (none)) else (some x1) := by
  refine Lim.next (fun k => (laws_heldInt64S.mono_l k) x0 x1 x5) ?_
  simp only [laws_heldInt64S.l0]
  repeat' with_reducible first | exact Lim.const _ | exact laws_heldInt64S.L0_lim _ _ _ | refine Lim.ite ?_ ?_ | refine Lim.bind ?_ (fun _ => ?_)
theorem laws_heldInt64S.F_eq (l0 : List Int) (a1 : Int) : laws_heldInt64S.F l0 a1 = laws_heldInt64S.L0 l0 a1 0 := by
  refine Lim.eq (g := fun k => laws_heldInt64S.f k l0 a1) ?_
  unfold laws_heldInt64S.f
  repeat' with_reducible first | exact Lim.const _ | exact laws_heldInt64S.L0_lim _ _ _ | refine Lim.ite ?_ ?_ | refine Lim.bind ?_ (fun _ => ?_)

noncomputable def laws_heldReefing.F (l0_0 l0_1 : List Int) (a1 : Int) : Option (Int) := lim (fun k => laws_heldReefing.f k l0_0 l0_1 a1)
theorem laws_heldReefing.F_lim (l0_0 l0_1 : List Int) (a1 : Int) : Lim (fun k => laws_heldReefing.f k l0_0 l0_1 a1) (laws_heldReefing.F l0_0 l0_1 a1) := Lim.of (fun k => laws_heldReefing.mono l0_0 l0_1 a1 k)
theorem laws_heldReefing.F_eq (l0_0 l0_1 : List Int) (a1 : Int) : laws_heldReefing.F l0_0 l0_1 a1 = (laws_heldInt64S.F l0_0 a1).bind fun t226 => (if t226 < 0 then (some (-1)) else ((laws_heldInt64S.F l0_1 t226).bind fun t227 => (if t227 < 0 then (some (-1)) else (some t227)))) := by
  refine Lim.eq (g := fun k => laws_heldReefing.f k l0_0 l0_1 a1) ?_
  unfold laws_heldReefing.f
  repeat' with_reducible first | exact Lim.const _ | exact laws_heldInt64S.F_lim _ _ | refine Lim.ite ?_ ?_ | refine Lim.bind ?_ (fun _ => ?_)

noncomputable def laws_FnExactReadReefing.J0 (x0 : ByteArray) (x4 x32 : Bool) (x236000 x236001 x244000 x244001 : List Int) : Option (Bool) := lim (fun k => laws_FnExactReadReefing.j0 k x0 x4 x32 x236000 x236001 x244000 x244001)
theorem laws_FnExactReadReefing.J0_lim (x0 : ByteArray) (x4 x32 : Bool) (x236000 x236001 x244000 x244001 : List Int) : Lim (fun k => laws_FnExactReadReefing.j0 k x0 x4 x32 x236000 x236001 x244000 x244001) (laws_FnExactReadReefing.J0 x0 x4 x32 x236000 x236001 x244000 x244001) := Lim.of (fun k => (laws_FnExactReadReefing.mono_l k).1 x0 x4 x32 x236000 x236001 x244000 x244001)
noncomputable def laws_FnExactReadReefing.J1 (x7 : Int) (x57 : Bool) (x244000 x244001 : List Int) : Option (Bool) := lim (fun k => laws_FnExactReadReefing.j1 k x7 x57 x244000 x244001)
theorem laws_FnExactReadReefing.J1_lim (x7 : Int) (x57 : Bool) (x244000 x244001 : List Int) : Lim (fun k => laws_FnExactReadReefing.j1 k x7 x57 x244000 x244001) (laws_FnExactReadReefing.J1 x7 x57 x244000 x244001) := Lim.of (fun k => (laws_FnExactReadReefing.mono_l k).2 x7 x57 x244000 x244001)
noncomputable def laws_FnExactReadReefing.F (a0 : ByteArray) : Option (Bool) := lim (fun k => laws_FnExactReadReefing.f k a0)
theorem laws_FnExactReadReefing.F_lim (a0 : ByteArray) : Lim (fun k => laws_FnExactReadReefing.f k a0) (laws_FnExactReadReefing.F a0) := Lim.of (fun k => laws_FnExactReadReefing.mono a0 k)
theorem laws_FnExactReadReefing.J0_eq (x0 : ByteArray) (x4 x32 : Bool) (x236000 x236001 x244000 x244001 : List Int) : laws_FnExactReadReefing.J0 x0 x4 x32 x236000 x236001 x244000 x244001 = if x32 = true then (some false) else ((laws_markReefing.F x244000 x244001 1).bind fun bt245 => ((laws_heldReefing.F bt245.2.1 bt245.2.2 1).bind fun t248 => (if t248 < 0 then (some false) else (if t248 = bt245.1 then ((impl_ReadReefing.F x0).bind fun bt249 => ((laws_eqReefing.F bt249.1 bt249.2.1 x236000 x236001).bind fun t257 => (if t257 = true then (laws_FnExactReadReefing.J1 bt245.1 (bt249.2.2 != x4) bt245.2.1 bt245.2.2) else (laws_FnExactReadReefing.J1 bt245.1 true bt245.2.1 bt245.2.2)))) else (some false))))) := by
  refine Lim.next (fun k => (laws_FnExactReadReefing.mono_l k).1 x0 x4 x32 x236000 x236001 x244000 x244001) ?_
  simp only [laws_FnExactReadReefing.j0]
  repeat' with_reducible first | exact Lim.const _ | exact impl_ReadReefing.F_lim _ | exact laws_FnExactReadReefing.J1_lim _ _ _ _ | exact laws_eqReefing.F_lim _ _ _ _ | exact laws_heldReefing.F_lim _ _ _ | exact laws_markReefing.F_lim _ _ _ | refine Lim.ite ?_ ?_ | refine Lim.bind ?_ (fun _ => ?_)
theorem laws_FnExactReadReefing.J1_eq (x7 : Int) (x57 : Bool) (x244000 x244001 : List Int) : laws_FnExactReadReefing.J1 x7 x57 x244000 x244001 = if x57 = true then (some false) else ((laws_heldReefing.F x244000 x244001 1).bind fun t258 => (if t258 < 0 then (some false) else (if t258 = x7 then (some true) else (some false)))) := by
  refine Lim.next (fun k => (laws_FnExactReadReefing.mono_l k).2 x7 x57 x244000 x244001) ?_
  simp only [laws_FnExactReadReefing.j1]
  repeat' with_reducible first | exact Lim.const _ | exact laws_heldReefing.F_lim _ _ _ | refine Lim.ite ?_ ?_ | refine Lim.bind ?_ (fun _ => ?_)
theorem laws_FnExactReadReefing.F_eq (a0 : ByteArray) : laws_FnExactReadReefing.F a0 = if (a0.size : Int) > 1048576 then (some true) else ((spec_ReadReefing.F a0).bind fun bt228 => ((impl_ReadReefing.F a0).bind fun bt236 => ((laws_eqReefing.F bt236.1 bt236.2.1 bt228.1 bt228.2.1).bind fun t244 => (if t244 = true then (laws_FnExactReadReefing.J0 a0 bt228.2.2 (bt236.2.2 != bt228.2.2) bt228.1 bt228.2.1 bt236.1 bt236.2.1) else (laws_FnExactReadReefing.J0 a0 bt228.2.2 true bt228.1 bt228.2.1 bt236.1 bt236.2.1))))) := by
  refine Lim.eq (g := fun k => laws_FnExactReadReefing.f k a0) ?_
  unfold laws_FnExactReadReefing.f
  repeat' with_reducible first | exact Lim.const _ | exact impl_ReadReefing.F_lim _ | exact laws_FnExactReadReefing.J0_lim _ _ _ _ _ _ _ | exact laws_eqReefing.F_lim _ _ _ _ | exact spec_ReadReefing.F_lim _ | refine Lim.ite ?_ ?_ | refine Lim.bind ?_ (fun _ => ?_)

end Go.Proofs.YtbhijlhlopljmaaDoor.PFnExactReadReefing
