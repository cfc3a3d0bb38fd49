/-
  Written by a program of this session (wip/tools/lims.py): the printed functions without their bound on rounds.
-/
import Derived.Test.YtdlckliobloodaaDoorPFnReefRunsx1
import Derived.Test.YtdlckliobloodaaDoorPFnReefRunsx2
import Derived.Test.YtdlckliobloodaaDoorPFnReefRunsx3
import Derived.Test.YtdlckliobloodaaDoorPFnReefRunsx4
import Derived.Test.YtdlckliobloodaaDoorPFnReefRunsx5
import Derived.Test.YtdlckliobloodaaDoorPFnReefRunsx6
import Derived.Test.YtdlckliobloodaaDoorPFnReefRunsx7
import Derived.Test.YtdlckliobloodaaDoorKit
set_option linter.unusedVariables false
set_option linter.unusedSimpArgs false
namespace Go.Proofs.YtdlckliobloodaaDoor.PFnReefRuns
open Go.RowKit Go.Proofs.YtdlckliobloodaaDoor.Kit Go.Proofs.YtdlckliobloodaaDoorW.PrintWords Go.Proofs.YtdlckliobloodaaDoorW.PrintLast Go.Proofs.YtdlckliobloodaaDoorW.PrintMore

noncomputable def spec_l18Draw.L0 (x4 x5 x6 : Int) (x1000 : List Int) (x1001 x1002 : Int) (x116000 x116001 : List Int) : Option (List Int × List Int × Int × Int) := lim (fun k => spec_l18Draw.l0 k x4 x5 x6 x1000 x1001 x1002 x116000 x116001)
theorem spec_l18Draw.L0_lim (x4 x5 x6 : Int) (x1000 : List Int) (x1001 x1002 : Int) (x116000 x116001 : List Int) : Lim (fun k => spec_l18Draw.l0 k x4 x5 x6 x1000 x1001 x1002 x116000 x116001) (spec_l18Draw.L0 x4 x5 x6 x1000 x1001 x1002 x116000 x116001) := Lim.of (fun k => (spec_l18Draw.mono_l k) x4 x5 x6 x1000 x1001 x1002 x116000 x116001)
noncomputable def spec_l18Draw.F (s0_0 : List Int) (s0_1 s0_2 : Int) : Option (List Int × List Int × Int × Int) := lim (fun k => spec_l18Draw.f k s0_0 s0_1 s0_2)
theorem spec_l18Draw.F_lim (s0_0 : List Int) (s0_1 s0_2 : Int) : Lim (fun k => spec_l18Draw.f k s0_0 s0_1 s0_2) (spec_l18Draw.F s0_0 s0_1 s0_2) := Lim.of (fun k => spec_l18Draw.mono s0_0 s0_1 s0_2 k)
theorem spec_l18Draw.L0_eq (x4 x5 x6 : Int) (x1000 : List Int) (x1001 x1002 : Int) (x116000 x116001 : List Int) : spec_l18Draw.L0 x4 x5 x6 x1000 x1001 x1002 x116000 x116001 = if x6 > 0 then (if x116000.length < 17592186044416 then ((spec_l00Src_pick.f x1000 x1001 x1002 (wrap64 (x4 - x5))).bind fun bt128 => ((spec_l00Min.f x4 (wrap64 ((wrap64 (x5 + 1)) + bt128.1))).bind fun t131 => (if x116001.length < 17592186044416 then ((spec_l00Src_pick.f x1000 bt128.2.1 bt128.2.2 60).bind fun bt135 => (spec_l18Draw.L0 (wrap64 (x4 + (wrap64 (1 + bt135.1)))) t131 (wrap64 (x6 - 1)) x1000 bt135.2.1 bt135.2.2 (x116000 ++ [x4]) (x116001 ++ [t131]))) else (none)))) else (none)) else (some (x116000, x116001, x1001, x1002)) := by
  refine Lim.next (fun k => (spec_l18Draw.mono_l k) x4 x5 x6 x1000 x1001 x1002 x116000 x116001) ?_
  simp only [spec_l18Draw.l0]
  repeat' with_reducible first | exact Lim.const _ | exact spec_l18Draw.L0_lim _ _ _ _ _ _ _ _ | refine Lim.ite ?_ ?_ | refine Lim.bind ?_ (fun _ => ?_)
theorem spec_l18Draw.F_eq (s0_0 : List Int) (s0_1 s0_2 : Int) : spec_l18Draw.F s0_0 s0_1 s0_2 = (spec_l00Src_pick.f s0_0 s0_1 s0_2 60).bind fun bt116 => ((spec_l00Src_pick.f s0_0 bt116.2.1 bt116.2.2 20).bind fun bt119 => ((spec_l00Src_pick.f s0_0 bt119.2.1 bt119.2.2 5).bind fun bt122 => (spec_l18Draw.L0 (wrap64 (20 + bt116.1)) bt119.1 bt122.1 s0_0 bt122.2.1 bt122.2.2 (([] : List Int)) (([] : List Int))))) := by
  refine Lim.eq (g := fun k => spec_l18Draw.f k s0_0 s0_1 s0_2) ?_
  unfold spec_l18Draw.f
  repeat' with_reducible first | exact Lim.const _ | exact spec_l18Draw.L0_lim _ _ _ _ _ _ _ _ | refine Lim.ite ?_ ?_ | refine Lim.bind ?_ (fun _ => ?_)

noncomputable def spec_A2Reefing.F (l0 : List Int) : Option (List Int × List Int) := lim (fun k => spec_A2Reefing.f k l0)
theorem spec_A2Reefing.F_lim (l0 : List Int) : Lim (fun k => spec_A2Reefing.f k l0) (spec_A2Reefing.F l0) := Lim.of (fun k => spec_A2Reefing.mono l0 k)
theorem spec_A2Reefing.F_eq (l0 : List Int) : spec_A2Reefing.F l0 = (spec_l00From.f l0).bind fun bt140 => ((spec_l18Draw.F bt140.1 bt140.2.1 bt140.2.2).bind fun bt144 => (some (bt144.1, bt144.2.1))) := by
  refine Lim.eq (g := fun k => spec_A2Reefing.f k l0) ?_
  unfold spec_A2Reefing.f
  repeat' with_reducible first | exact Lim.const _ | exact spec_l18Draw.F_lim _ _ _ | refine Lim.ite ?_ ?_ | refine Lim.bind ?_ (fun _ => ?_)

noncomputable def spec_A2Blows.L0 (x4 : List Int) (x5 x6 : Int) (x156000 : List Int) (x156001 x156002 : Int) : Option (List Int) := lim (fun k => spec_A2Blows.l0 k x4 x5 x6 x156000 x156001 x156002)
theorem spec_A2Blows.L0_lim (x4 : List Int) (x5 x6 : Int) (x156000 : List Int) (x156001 x156002 : Int) : Lim (fun k => spec_A2Blows.l0 k x4 x5 x6 x156000 x156001 x156002) (spec_A2Blows.L0 x4 x5 x6 x156000 x156001 x156002) := Lim.of (fun k => (spec_A2Blows.mono_l k) x4 x5 x6 x156000 x156001 x156002)
noncomputable def spec_A2Blows.F (l0 : List Int) : Option (List Int) := lim (fun k => spec_A2Blows.f k l0)
theorem spec_A2Blows.F_lim (l0 : List Int) : Lim (fun k => spec_A2Blows.f k l0) (spec_A2Blows.F l0) := Lim.of (fun k => spec_A2Blows.mono l0 k)
theorem spec_A2Blows.L0_eq (x4 : List Int) (x5 x6 : Int) (x156000 : List Int) (x156001 x156002 : Int) : spec_A2Blows.L0 x4 x5 x6 x156000 x156001 x156002 = if x6 > 0 then ((spec_l00Src_pick.f x156000 x156001 x156002 81).bind fun bt165 => ((spec_l00Max.f 0 (wrap64 ((wrap64 (x5 + bt165.1)) - 40))).bind fun t168 => ((spec_l00Min.f 600 t168).bind fun t169 => (if x4.length < 17592186044416 then (spec_A2Blows.L0 (x4 ++ [t169]) t169 (wrap64 (x6 - 1)) x156000 bt165.2.1 bt165.2.2) else (none))))) else (some x4) := by
  refine Lim.next (fun k => (spec_A2Blows.mono_l k) x4 x5 x6 x156000 x156001 x156002) ?_
  simp only [spec_A2Blows.l0]
  repeat' with_reducible first | exact Lim.const _ | exact spec_A2Blows.L0_lim _ _ _ _ _ _ | refine Lim.ite ?_ ?_ | refine Lim.bind ?_ (fun _ => ?_)
theorem spec_A2Blows.F_eq (l0 : List Int) : spec_A2Blows.F l0 = (spec_l00From.f l0).bind fun bt152 => ((spec_l00Src_pick.f bt152.1 bt152.2.1 bt152.2.2 150).bind fun bt159 => ((spec_l00Src_pick.f bt152.1 bt159.2.1 bt159.2.2 14).bind fun bt162 => (spec_A2Blows.L0 (([] : List Int)) bt159.1 bt162.1 bt152.1 bt162.2.1 bt162.2.2))) := by
  refine Lim.eq (g := fun k => spec_A2Blows.f k l0) ?_
  unfold spec_A2Blows.f
  repeat' with_reducible first | exact Lim.const _ | exact spec_A2Blows.L0_lim _ _ _ _ _ _ | refine Lim.ite ?_ ?_ | refine Lim.bind ?_ (fun _ => ?_)

noncomputable def impl_ValidReefing.J0 (x17 : Bool) (x175000 x175001 : List Int) : Option (Bool) := lim (fun k => impl_ValidReefing.j0 k x17 x175000 x175001)
theorem impl_ValidReefing.J0_lim (x17 : Bool) (x175000 x175001 : List Int) : Lim (fun k => impl_ValidReefing.j0 k x17 x175000 x175001) (impl_ValidReefing.J0 x17 x175000 x175001) := Lim.of (fun k => (impl_ValidReefing.mono_l k).1 x17 x175000 x175001)
noncomputable def impl_ValidReefing.L0 (x19 : List Int) (x20 x21 : Int) (x175000 x175001 : List Int) : Option (Bool) := lim (fun k => impl_ValidReefing.l0 k x19 x20 x21 x175000 x175001)
theorem impl_ValidReefing.L0_lim (x19 : List Int) (x20 x21 : Int) (x175000 x175001 : List Int) : Lim (fun k => impl_ValidReefing.l0 k x19 x20 x21 x175000 x175001) (impl_ValidReefing.L0 x19 x20 x21 x175000 x175001) := Lim.of (fun k => (impl_ValidReefing.mono_l k).2 x19 x20 x21 x175000 x175001)
noncomputable def impl_ValidReefing.F (l0_0 l0_1 : List Int) : Option (Bool) := lim (fun k => impl_ValidReefing.f k l0_0 l0_1)
theorem impl_ValidReefing.F_lim (l0_0 l0_1 : List Int) : Lim (fun k => impl_ValidReefing.f k l0_0 l0_1) (impl_ValidReefing.F l0_0 l0_1) := Lim.of (fun k => impl_ValidReefing.mono l0_0 l0_1 k)
theorem impl_ValidReefing.J0_eq (x17 : Bool) (x175000 x175001 : List Int) : impl_ValidReefing.J0 x17 x175000 x175001 = if x17 = true then (some false) else (impl_ValidReefing.L0 x175000 (x175000.length : Int) 0 x175000 x175001) := by
  refine Lim.next (fun k => (impl_ValidReefing.mono_l k).1 x17 x175000 x175001) ?_
  simp only [impl_ValidReefing.j0]
  repeat' with_reducible first | exact Lim.const _ | exact impl_ValidReefing.L0_lim _ _ _ _ _ | refine Lim.ite ?_ ?_ | refine Lim.bind ?_ (fun _ => ?_)
theorem impl_ValidReefing.L0_eq (x19 : List Int) (x20 x21 : Int) (x175000 x175001 : List Int) : impl_ValidReefing.L0 x19 x20 x21 x175000 x175001 = if x21 < x20 then (if 0 ≤ x21 then (if x21 < (x19.length : Int) then ((impl_within.f (rd x19 x21) 1 600).bind fun t176 => (if t176 = true then (if x21 < (x175001.length : Int) then ((impl_within.f (rd x175001 x21) 0 (rd x19 x21)).bind fun t178 => (if t178 = true then (if x21 > 0 then (if 0 ≤ (wrap64 (x21 - 1)) then (if (wrap64 (x21 - 1)) < (x175000.length : Int) then (if (rd x19 x21) ≤ (rd x175000 (wrap64 (x21 - 1))) then (some false) else (if (wrap64 (x21 - 1)) < (x175001.length : Int) then (if (rd x175001 x21) ≤ (rd x175001 (wrap64 (x21 - 1))) then (some false) else (impl_ValidReefing.L0 x19 x20 (wrap64 (x21 + 1)) x175000 x175001)) else (none))) else (none)) else (none)) else (impl_ValidReefing.L0 x19 x20 (wrap64 (x21 + 1)) x175000 x175001)) else (some false))) else (none)) else (some false))) else (none)) else (none)) else (some true) := by
  refine Lim.next (fun k => (impl_ValidReefing.mono_l k).2 x19 x20 x21 x175000 x175001) ?_
  simp only [impl_ValidReefing.l0]
  repeat' with_reducible first | exact Lim.const _ | exact impl_ValidReefing.L0_lim _ _ _ _ _ | refine Lim.ite ?_ ?_ | refine Lim.bind ?_ (fun _ => ?_)
theorem impl_ValidReefing.F_eq (l0_0 l0_1 : List Int) : impl_ValidReefing.F l0_0 l0_1 = if (l0_0.length : Int) > 6 then (impl_ValidReefing.J0 true l0_0 l0_1) else (impl_ValidReefing.J0 ((l0_1.length : Int) != (l0_0.length : Int)) l0_0 l0_1) := by
  refine Lim.eq (g := fun k => impl_ValidReefing.f k l0_0 l0_1) ?_
  unfold impl_ValidReefing.f
  repeat' with_reducible first | exact Lim.const _ | exact impl_ValidReefing.J0_lim _ _ _ | refine Lim.ite ?_ ?_ | refine Lim.bind ?_ (fun _ => ?_)

noncomputable def impl_areIn.L0 (x2 x3 : Int) (x15 : List Int) (x16 x17 : Int) : Option (Bool) := lim (fun k => impl_areIn.l0 k x2 x3 x15 x16 x17)
theorem impl_areIn.L0_lim (x2 x3 : Int) (x15 : List Int) (x16 x17 : Int) : Lim (fun k => impl_areIn.l0 k x2 x3 x15 x16 x17) (impl_areIn.L0 x2 x3 x15 x16 x17) := Lim.of (fun k => (impl_areIn.mono_l k) x2 x3 x15 x16 x17)
noncomputable def impl_areIn.F (l0 : List Int) (a1 a2 a3 : Int) : Option (Bool) := lim (fun k => impl_areIn.f k l0 a1 a2 a3)
theorem impl_areIn.F_lim (l0 : List Int) (a1 a2 a3 : Int) : Lim (fun k => impl_areIn.f k l0 a1 a2 a3) (impl_areIn.F l0 a1 a2 a3) := Lim.of (fun k => impl_areIn.mono l0 a1 a2 a3 k)
theorem impl_areIn.L0_eq (x2 x3 : Int) (x15 : List Int) (x16 x17 : Int) : impl_areIn.L0 x2 x3 x15 x16 x17 = if x17 < x16 then (if 0 ≤ x17 then (if x17 < (x15.length : Int) then ((impl_within.f (rd x15 x17) x2 x3).bind fun t183 => (if t183 = true then (impl_areIn.L0 x2 x3 x15 x16 (wrap64 (x17 + 1))) else (some false))) else (none)) else (none)) else (some true) := by
  refine Lim.next (fun k => (impl_areIn.mono_l k) x2 x3 x15 x16 x17) ?_
  simp only [impl_areIn.l0]
  repeat' with_reducible first | exact Lim.const _ | exact impl_areIn.L0_lim _ _ _ _ _ | refine Lim.ite ?_ ?_ | refine Lim.bind ?_ (fun _ => ?_)
theorem impl_areIn.F_eq (l0 : List Int) (a1 a2 a3 : Int) : impl_areIn.F l0 a1 a2 a3 = if (l0.length : Int) = a1 then (impl_areIn.L0 a2 a3 l0 (l0.length : Int) 0) else (some false) := by
  refine Lim.eq (g := fun k => impl_areIn.f k l0 a1 a2 a3) ?_
  unfold impl_areIn.f
  repeat' with_reducible first | exact Lim.const _ | exact impl_areIn.L0_lim _ _ _ _ _ | refine Lim.ite ?_ ?_ | refine Lim.bind ?_ (fun _ => ?_)

noncomputable def impl_reefCode.F (l0_0 l0_1 : List Int) (a1 : Int) (l2 : List Int) : Option (Int) := lim (fun k => impl_reefCode.f k l0_0 l0_1 a1 l2)
theorem impl_reefCode.F_lim (l0_0 l0_1 : List Int) (a1 : Int) (l2 : List Int) : Lim (fun k => impl_reefCode.f k l0_0 l0_1 a1 l2) (impl_reefCode.F l0_0 l0_1 a1 l2) := Lim.of (fun k => impl_reefCode.mono l0_0 l0_1 a1 l2 k)
theorem impl_reefCode.F_eq (l0_0 l0_1 : List Int) (a1 : Int) (l2 : List Int) : impl_reefCode.F l0_0 l0_1 a1 l2 = (impl_ValidReefing.F l0_0 l0_1).bind fun t185 => (if t185 = true then ((impl_within.f a1 0 (l0_0.length : Int)).bind fun t186 => (if t186 = true then (if (l2.length : Int) > 60 then (some 2) else ((impl_areIn.F l2 (l2.length : Int) 0 600).bind fun t187 => (if t187 = true then (some 0) else (some 2)))) else (some 2))) else (some 1)) := by
  refine Lim.eq (g := fun k => impl_reefCode.f k l0_0 l0_1 a1 l2) ?_
  unfold impl_reefCode.f
  repeat' with_reducible first | exact Lim.const _ | exact impl_ValidReefing.F_lim _ _ | exact impl_areIn.F_lim _ _ _ _ | refine Lim.ite ?_ ?_ | refine Lim.bind ?_ (fun _ => ?_)

noncomputable def impl_nextReef.J1 (x1 x2 : Int) (x189000 x189001 : List Int) : Option (Int) := lim (fun k => impl_nextReef.j1 k x1 x2 x189000 x189001)
theorem impl_nextReef.J1_lim (x1 x2 : Int) (x189000 x189001 : List Int) : Lim (fun k => impl_nextReef.j1 k x1 x2 x189000 x189001) (impl_nextReef.J1 x1 x2 x189000 x189001) := Lim.of (fun k => (impl_nextReef.mono_l k).1 x1 x2 x189000 x189001)
noncomputable def impl_nextReef.L1 (x1 x2 : Int) (x189000 x189001 : List Int) : Option (Int) := lim (fun k => impl_nextReef.l1 k x1 x2 x189000 x189001)
theorem impl_nextReef.L1_lim (x1 x2 : Int) (x189000 x189001 : List Int) : Lim (fun k => impl_nextReef.l1 k x1 x2 x189000 x189001) (impl_nextReef.L1 x1 x2 x189000 x189001) := Lim.of (fun k => (impl_nextReef.mono_l k).2.1 x1 x2 x189000 x189001)
noncomputable def impl_nextReef.L0 (x1 x2 : Int) (x189000 x189001 : List Int) : Option (Int) := lim (fun k => impl_nextReef.l0 k x1 x2 x189000 x189001)
theorem impl_nextReef.L0_lim (x1 x2 : Int) (x189000 x189001 : List Int) : Lim (fun k => impl_nextReef.l0 k x1 x2 x189000 x189001) (impl_nextReef.L0 x1 x2 x189000 x189001) := Lim.of (fun k => (impl_nextReef.mono_l k).2.2 x1 x2 x189000 x189001)
noncomputable def impl_nextReef.F (l0_0 l0_1 : List Int) (a1 a2 : Int) : Option (Int) := lim (fun k => impl_nextReef.f k l0_0 l0_1 a1 a2)
theorem impl_nextReef.F_lim (l0_0 l0_1 : List Int) (a1 a2 : Int) : Lim (fun k => impl_nextReef.f k l0_0 l0_1 a1 a2) (impl_nextReef.F l0_0 l0_1 a1 a2) := Lim.of (fun k => impl_nextReef.mono l0_0 l0_1 a1 a2 k)
theorem impl_nextReef.J1_eq (x1 x2 : Int) (x189000 x189001 : List Int) : impl_nextReef.J1 x1 x2 x189000 x189001 = impl_nextReef.L1 x1 x2 x189000 x189001 := by
  refine Lim.next (fun k => (impl_nextReef.mono_l k).1 x1 x2 x189000 x189001) ?_
  simp only [impl_nextReef.j1]
  repeat' with_reducible first | exact Lim.const _ | exact impl_nextReef.L1_lim _ _ _ _ | refine Lim.ite ?_ ?_ | refine Lim.bind ?_ (fun _ => ?_)
theorem impl_nextReef.L1_eq (x1 x2 : Int) (x189000 x189001 : List Int) : impl_nextReef.L1 x1 x2 x189000 x189001 = if x1 > 0 then (if 0 ≤ (wrap64 (x1 - 1)) then (if (wrap64 (x1 - 1)) < (x189001.length : Int) then (if x2 < (rd x189001 (wrap64 (x1 - 1))) then (impl_nextReef.L1 (wrap64 (x1 - 1)) x2 x189000 x189001) else (some x1)) else (none)) else (none)) else (some x1) := by
  refine Lim.next (fun k => (impl_nextReef.mono_l k).2.1 x1 x2 x189000 x189001) ?_
  simp only [impl_nextReef.l1]
  repeat' with_reducible first | exact Lim.const _ | exact impl_nextReef.L1_lim _ _ _ _ | refine Lim.ite ?_ ?_ | refine Lim.bind ?_ (fun _ => ?_)
theorem impl_nextReef.L0_eq (x1 x2 : Int) (x189000 x189001 : List Int) : impl_nextReef.L0 x1 x2 x189000 x189001 = if x1 < (x189000.length : Int) then (if 0 ≤ x1 then (if x2 ≥ (rd x189000 x1) then (impl_nextReef.L0 (wrap64 (x1 + 1)) x2 x189000 x189001) else (impl_nextReef.J1 x1 x2 x189000 x189001)) else (none)) else (impl_nextReef.J1 x1 x2 x189000 x189001) := by
  refine Lim.next (fun k => (impl_nextReef.mono_l k).2.2 x1 x2 x189000 x189001) ?_
  simp only [impl_nextReef.l0]
  repeat' with_reducible first | exact Lim.const _ | exact impl_nextReef.J1_lim _ _ _ _ | exact impl_nextReef.L0_lim _ _ _ _ | refine Lim.ite ?_ ?_ | refine Lim.bind ?_ (fun _ => ?_)
theorem impl_nextReef.F_eq (l0_0 l0_1 : List Int) (a1 a2 : Int) : impl_nextReef.F l0_0 l0_1 a1 a2 = impl_nextReef.L0 a1 a2 l0_0 l0_1 := by
  refine Lim.eq (g := fun k => impl_nextReef.f k l0_0 l0_1 a1 a2) ?_
  unfold impl_nextReef.f
  repeat' with_reducible first | exact Lim.const _ | exact impl_nextReef.L0_lim _ _ _ _ | refine Lim.ite ?_ ?_ | refine Lim.bind ?_ (fun _ => ?_)

noncomputable def impl_runReefs.L0 (x1 : Int) (x7 x11 : List Int) (x12 x13 : Int) (x192000 x192001 : List Int) : Option (List Int) := lim (fun k => impl_runReefs.l0 k x1 x7 x11 x12 x13 x192000 x192001)
theorem impl_runReefs.L0_lim (x1 : Int) (x7 x11 : List Int) (x12 x13 : Int) (x192000 x192001 : List Int) : Lim (fun k => impl_runReefs.l0 k x1 x7 x11 x12 x13 x192000 x192001) (impl_runReefs.L0 x1 x7 x11 x12 x13 x192000 x192001) := Lim.of (fun k => (impl_runReefs.mono_l k) x1 x7 x11 x12 x13 x192000 x192001)
noncomputable def impl_runReefs.F (l0_0 l0_1 : List Int) (a1 : Int) (l2 : List Int) : Option (List Int) := lim (fun k => impl_runReefs.f k l0_0 l0_1 a1 l2)
theorem impl_runReefs.F_lim (l0_0 l0_1 : List Int) (a1 : Int) (l2 : List Int) : Lim (fun k => impl_runReefs.f k l0_0 l0_1 a1 l2) (impl_runReefs.F l0_0 l0_1 a1 l2) := Lim.of (fun k => impl_runReefs.mono l0_0 l0_1 a1 l2 k)
theorem impl_runReefs.L0_eq (x1 : Int) (x7 x11 : List Int) (x12 x13 : Int) (x192000 x192001 : List Int) : impl_runReefs.L0 x1 x7 x11 x12 x13 x192000 x192001 = if x13 < x12 then (if 0 ≤ x13 then (if x13 < (x11.length : Int) then ((impl_nextReef.F x192000 x192001 x1 (rd x11 x13)).bind fun t196 => (if x7.length < 17592186044416 then (impl_runReefs.L0 t196 (x7 ++ [t196]) x11 x12 (wrap64 (x13 + 1)) x192000 x192001) else (none))) else (none)) else (none)) else (some x7) := by
  refine Lim.next (fun k => (impl_runReefs.mono_l k) x1 x7 x11 x12 x13 x192000 x192001) ?_
  simp only [impl_runReefs.l0]
  repeat' with_reducible first | exact Lim.const _ | exact impl_nextReef.F_lim _ _ _ _ | exact impl_runReefs.L0_lim _ _ _ _ _ _ _ | refine Lim.ite ?_ ?_ | refine Lim.bind ?_ (fun _ => ?_)
theorem impl_runReefs.F_eq (l0_0 l0_1 : List Int) (a1 : Int) (l2 : List Int) : impl_runReefs.F l0_0 l0_1 a1 l2 = impl_runReefs.L0 a1 (([] : List Int)) l2 (l2.length : Int) 0 l0_0 l0_1 := by
  refine Lim.eq (g := fun k => impl_runReefs.f k l0_0 l0_1 a1 l2) ?_
  unfold impl_runReefs.f
  repeat' with_reducible first | exact Lim.const _ | exact impl_runReefs.L0_lim _ _ _ _ _ _ _ | refine Lim.ite ?_ ?_ | refine Lim.bind ?_ (fun _ => ?_)

noncomputable def impl_RunReefs.F (l0_0 l0_1 : List Int) (a1 : Int) (l2 : List Int) : Option (List Int × Int) := lim (fun k => impl_RunReefs.f k l0_0 l0_1 a1 l2)
theorem impl_RunReefs.F_lim (l0_0 l0_1 : List Int) (a1 : Int) (l2 : List Int) : Lim (fun k => impl_RunReefs.f k l0_0 l0_1 a1 l2) (impl_RunReefs.F l0_0 l0_1 a1 l2) := Lim.of (fun k => impl_RunReefs.mono l0_0 l0_1 a1 l2 k)
theorem impl_RunReefs.F_eq (l0_0 l0_1 : List Int) (a1 : Int) (l2 : List Int) : impl_RunReefs.F l0_0 l0_1 a1 l2 = (impl_reefCode.F l0_0 l0_1 a1 l2).bind fun t201 => (if t201 = 0 then ((impl_runReefs.F l0_0 l0_1 a1 l2).bind fun t202 => (some (t202, 0))) else (some (([] : List Int), t201))) := by
  refine Lim.eq (g := fun k => impl_RunReefs.f k l0_0 l0_1 a1 l2) ?_
  unfold impl_RunReefs.f
  repeat' with_reducible first | exact Lim.const _ | exact impl_reefCode.F_lim _ _ _ _ | exact impl_runReefs.F_lim _ _ _ _ | refine Lim.ite ?_ ?_ | refine Lim.bind ?_ (fun _ => ?_)

noncomputable def impl_countChanges.L0 (x1 x7 : Int) (x13 : List Int) (x14 x15 : Int) : Option (Int) := lim (fun k => impl_countChanges.l0 k x1 x7 x13 x14 x15)
theorem impl_countChanges.L0_lim (x1 x7 : Int) (x13 : List Int) (x14 x15 : Int) : Lim (fun k => impl_countChanges.l0 k x1 x7 x13 x14 x15) (impl_countChanges.L0 x1 x7 x13 x14 x15) := Lim.of (fun k => (impl_countChanges.mono_l k) x1 x7 x13 x14 x15)
noncomputable def impl_countChanges.F (l0_0 l0_1 : List Int) (a1 : Int) (l2 : List Int) : Option (Int) := lim (fun k => impl_countChanges.f k l0_0 l0_1 a1 l2)
theorem impl_countChanges.F_lim (l0_0 l0_1 : List Int) (a1 : Int) (l2 : List Int) : Lim (fun k => impl_countChanges.f k l0_0 l0_1 a1 l2) (impl_countChanges.F l0_0 l0_1 a1 l2) := Lim.of (fun k => impl_countChanges.mono l0_0 l0_1 a1 l2 k)
theorem impl_countChanges.L0_eq (x1 x7 : Int) (x13 : List Int) (x14 x15 : Int) : impl_countChanges.L0 x1 x7 x13 x14 x15 = if x15 < x14 then (if 0 ≤ x15 then (if x15 < (x13.length : Int) then (impl_countChanges.L0 (rd x13 x15) (wrap64 (x7 + (mx (wrap64 ((rd x13 x15) - x1)) (wrap64 (x1 - (rd x13 x15)))))) x13 x14 (wrap64 (x15 + 1))) else (none)) else (none)) else (some x7) := by
  refine Lim.next (fun k => (impl_countChanges.mono_l k) x1 x7 x13 x14 x15) ?_
  simp only [impl_countChanges.l0]
  repeat' with_reducible first | exact Lim.const _ | exact impl_countChanges.L0_lim _ _ _ _ _ | refine Lim.ite ?_ ?_ | refine Lim.bind ?_ (fun _ => ?_)
theorem impl_countChanges.F_eq (l0_0 l0_1 : List Int) (a1 : Int) (l2 : List Int) : impl_countChanges.F l0_0 l0_1 a1 l2 = (impl_runReefs.F l0_0 l0_1 a1 l2).bind fun t206 => (impl_countChanges.L0 a1 0 t206 (t206.length : Int) 0) := by
  refine Lim.eq (g := fun k => impl_countChanges.f k l0_0 l0_1 a1 l2) ?_
  unfold impl_countChanges.f
  repeat' with_reducible first | exact Lim.const _ | exact impl_countChanges.L0_lim _ _ _ _ _ | exact impl_runReefs.F_lim _ _ _ _ | refine Lim.ite ?_ ?_ | refine Lim.bind ?_ (fun _ => ?_)

noncomputable def impl_CountChanges.F (l0_0 l0_1 : List Int) (a1 : Int) (l2 : List Int) : Option (Int × Int) := lim (fun k => impl_CountChanges.f k l0_0 l0_1 a1 l2)
theorem impl_CountChanges.F_lim (l0_0 l0_1 : List Int) (a1 : Int) (l2 : List Int) : Lim (fun k => impl_CountChanges.f k l0_0 l0_1 a1 l2) (impl_CountChanges.F l0_0 l0_1 a1 l2) := Lim.of (fun k => impl_CountChanges.mono l0_0 l0_1 a1 l2 k)
theorem impl_CountChanges.F_eq (l0_0 l0_1 : List Int) (a1 : Int) (l2 : List Int) : impl_CountChanges.F l0_0 l0_1 a1 l2 = (impl_reefCode.F l0_0 l0_1 a1 l2).bind fun t211 => (if t211 = 0 then ((impl_countChanges.F l0_0 l0_1 a1 l2).bind fun t212 => (some (t212, 0))) else (some (0, t211))) := by
  refine Lim.eq (g := fun k => impl_CountChanges.f k l0_0 l0_1 a1 l2) ?_
  unfold impl_CountChanges.f
  repeat' with_reducible first | exact Lim.const _ | exact impl_countChanges.F_lim _ _ _ _ | exact impl_reefCode.F_lim _ _ _ _ | refine Lim.ite ?_ ?_ | refine Lim.bind ?_ (fun _ => ?_)

noncomputable def impl_neededReefs.L0 (x1 x5 : Int) (x9 : List Int) (x10 x11 : Int) : Option (Int) := lim (fun k => impl_neededReefs.l0 k x1 x5 x9 x10 x11)
theorem impl_neededReefs.L0_lim (x1 x5 : Int) (x9 : List Int) (x10 x11 : Int) : Lim (fun k => impl_neededReefs.l0 k x1 x5 x9 x10 x11) (impl_neededReefs.L0 x1 x5 x9 x10 x11) := Lim.of (fun k => (impl_neededReefs.mono_l k) x1 x5 x9 x10 x11)
noncomputable def impl_neededReefs.F (l0_0 l0_1 : List Int) (a1 : Int) : Option (Int) := lim (fun k => impl_neededReefs.f k l0_0 l0_1 a1)
theorem impl_neededReefs.F_lim (l0_0 l0_1 : List Int) (a1 : Int) : Lim (fun k => impl_neededReefs.f k l0_0 l0_1 a1) (impl_neededReefs.F l0_0 l0_1 a1) := Lim.of (fun k => impl_neededReefs.mono l0_0 l0_1 a1 k)
theorem impl_neededReefs.L0_eq (x1 x5 : Int) (x9 : List Int) (x10 x11 : Int) : impl_neededReefs.L0 x1 x5 x9 x10 x11 = if x11 < x10 then (if 0 ≤ x11 then (if x11 < (x9.length : Int) then (if (rd x9 x11) ≤ x1 then (impl_neededReefs.L0 x1 (wrap64 (x5 + 1)) x9 x10 (wrap64 (x11 + 1))) else (impl_neededReefs.L0 x1 x5 x9 x10 (wrap64 (x11 + 1)))) else (none)) else (none)) else (some x5) := by
  refine Lim.next (fun k => (impl_neededReefs.mono_l k) x1 x5 x9 x10 x11) ?_
  simp only [impl_neededReefs.l0]
  repeat' with_reducible first | exact Lim.const _ | exact impl_neededReefs.L0_lim _ _ _ _ _ | refine Lim.ite ?_ ?_ | refine Lim.bind ?_ (fun _ => ?_)
theorem impl_neededReefs.F_eq (l0_0 l0_1 : List Int) (a1 : Int) : impl_neededReefs.F l0_0 l0_1 a1 = impl_neededReefs.L0 a1 0 l0_0 (l0_0.length : Int) 0 := by
  refine Lim.eq (g := fun k => impl_neededReefs.f k l0_0 l0_1 a1) ?_
  unfold impl_neededReefs.f
  repeat' with_reducible first | exact Lim.const _ | exact impl_neededReefs.L0_lim _ _ _ _ _ | refine Lim.ite ?_ ?_ | refine Lim.bind ?_ (fun _ => ?_)

noncomputable def impl_TooManyReefs.L0 (x2 : List Int) (x9 : Int) (x22 : List Int) (x23 x24 : Int) (x216000 x216001 : List Int) : Option (Int × Int) := lim (fun k => impl_TooManyReefs.l0 k x2 x9 x22 x23 x24 x216000 x216001)
theorem impl_TooManyReefs.L0_lim (x2 : List Int) (x9 : Int) (x22 : List Int) (x23 x24 : Int) (x216000 x216001 : List Int) : Lim (fun k => impl_TooManyReefs.l0 k x2 x9 x22 x23 x24 x216000 x216001) (impl_TooManyReefs.L0 x2 x9 x22 x23 x24 x216000 x216001) := Lim.of (fun k => (impl_TooManyReefs.mono_l k) x2 x9 x22 x23 x24 x216000 x216001)
noncomputable def impl_TooManyReefs.F (l0_0 l0_1 : List Int) (a1 : Int) (l2 : List Int) : Option (Int × Int) := lim (fun k => impl_TooManyReefs.f k l0_0 l0_1 a1 l2)
theorem impl_TooManyReefs.F_lim (l0_0 l0_1 : List Int) (a1 : Int) (l2 : List Int) : Lim (fun k => impl_TooManyReefs.f k l0_0 l0_1 a1 l2) (impl_TooManyReefs.F l0_0 l0_1 a1 l2) := Lim.of (fun k => impl_TooManyReefs.mono l0_0 l0_1 a1 l2 k)
theorem impl_TooManyReefs.L0_eq (x2 : List Int) (x9 : Int) (x22 : List Int) (x23 x24 : Int) (x216000 x216001 : List Int) : impl_TooManyReefs.L0 x2 x9 x22 x23 x24 x216000 x216001 = if x24 < x23 then (if 0 ≤ x24 then (if x24 < (x22.length : Int) then (if x24 < (x2.length : Int) then ((impl_neededReefs.F x216000 x216001 (rd x2 x24)).bind fun t222 => (if (rd x22 x24) > t222 then (impl_TooManyReefs.L0 x2 (wrap64 (x9 + 1)) x22 x23 (wrap64 (x24 + 1)) x216000 x216001) else (impl_TooManyReefs.L0 x2 x9 x22 x23 (wrap64 (x24 + 1)) x216000 x216001))) else (none)) else (none)) else (none)) else (some (x9, 0)) := by
  refine Lim.next (fun k => (impl_TooManyReefs.mono_l k) x2 x9 x22 x23 x24 x216000 x216001) ?_
  simp only [impl_TooManyReefs.l0]
  repeat' with_reducible first | exact Lim.const _ | exact impl_TooManyReefs.L0_lim _ _ _ _ _ _ _ | exact impl_neededReefs.F_lim _ _ _ | refine Lim.ite ?_ ?_ | refine Lim.bind ?_ (fun _ => ?_)
theorem impl_TooManyReefs.F_eq (l0_0 l0_1 : List Int) (a1 : Int) (l2 : List Int) : impl_TooManyReefs.F l0_0 l0_1 a1 l2 = (impl_reefCode.F l0_0 l0_1 a1 l2).bind fun t216 => (if t216 = 0 then ((impl_runReefs.F l0_0 l0_1 a1 l2).bind fun t217 => (impl_TooManyReefs.L0 l2 0 t217 (t217.length : Int) 0 l0_0 l0_1)) else (some (0, t216))) := by
  refine Lim.eq (g := fun k => impl_TooManyReefs.f k l0_0 l0_1 a1 l2) ?_
  unfold impl_TooManyReefs.f
  repeat' with_reducible first | exact Lim.const _ | exact impl_TooManyReefs.L0_lim _ _ _ _ _ _ _ | exact impl_reefCode.F_lim _ _ _ _ | exact impl_runReefs.F_lim _ _ _ _ | refine Lim.ite ?_ ?_ | refine Lim.bind ?_ (fun _ => ?_)

noncomputable def impl_NextReef.F (l0_0 l0_1 : List Int) (a1 a2 : Int) : Option (Int × Int) := lim (fun k => impl_NextReef.f k l0_0 l0_1 a1 a2)
theorem impl_NextReef.F_lim (l0_0 l0_1 : List Int) (a1 a2 : Int) : Lim (fun k => impl_NextReef.f k l0_0 l0_1 a1 a2) (impl_NextReef.F l0_0 l0_1 a1 a2) := Lim.of (fun k => impl_NextReef.mono l0_0 l0_1 a1 a2 k)
theorem impl_NextReef.F_eq (l0_0 l0_1 : List Int) (a1 a2 : Int) : impl_NextReef.F l0_0 l0_1 a1 a2 = (impl_reefCode.F l0_0 l0_1 a1 (([a2] : List Int))).bind fun t227 => (if t227 = 0 then ((impl_nextReef.F l0_0 l0_1 a1 a2).bind fun t228 => (some (t228, 0))) else (some (0, t227))) := by
  refine Lim.eq (g := fun k => impl_NextReef.f k l0_0 l0_1 a1 a2) ?_
  unfold impl_NextReef.f
  repeat' with_reducible first | exact Lim.const _ | exact impl_nextReef.F_lim _ _ _ _ | exact impl_reefCode.F_lim _ _ _ _ | refine Lim.ite ?_ ?_ | refine Lim.bind ?_ (fun _ => ?_)

noncomputable def impl_NeededReefs.F (l0_0 l0_1 : List Int) (a1 : Int) : Option (Int × Int) := lim (fun k => impl_NeededReefs.f k l0_0 l0_1 a1)
theorem impl_NeededReefs.F_lim (l0_0 l0_1 : List Int) (a1 : Int) : Lim (fun k => impl_NeededReefs.f k l0_0 l0_1 a1) (impl_NeededReefs.F l0_0 l0_1 a1) := Lim.of (fun k => impl_NeededReefs.mono l0_0 l0_1 a1 k)
theorem impl_NeededReefs.F_eq (l0_0 l0_1 : List Int) (a1 : Int) : impl_NeededReefs.F l0_0 l0_1 a1 = (impl_reefCode.F l0_0 l0_1 0 (([a1] : List Int))).bind fun t233 => (if t233 = 0 then ((impl_neededReefs.F l0_0 l0_1 a1).bind fun t234 => (some (t234, 0))) else (some (0, t233))) := by
  refine Lim.eq (g := fun k => impl_NeededReefs.f k l0_0 l0_1 a1) ?_
  unfold impl_NeededReefs.f
  repeat' with_reducible first | exact Lim.const _ | exact impl_neededReefs.F_lim _ _ _ | exact impl_reefCode.F_lim _ _ _ _ | refine Lim.ite ?_ ?_ | refine Lim.bind ?_ (fun _ => ?_)

noncomputable def impl_ReadDecimal.J0 (x0 x4 : ByteArray) (x16 : Bool) : Option (Int × Bool) := lim (fun k => impl_ReadDecimal.j0 k x0 x4 x16)
theorem impl_ReadDecimal.J0_lim (x0 x4 : ByteArray) (x16 : Bool) : Lim (fun k => impl_ReadDecimal.j0 k x0 x4 x16) (impl_ReadDecimal.J0 x0 x4 x16) := Lim.of (fun k => (impl_ReadDecimal.mono_l k).1 x0 x4 x16)
noncomputable def impl_ReadDecimal.L0 (x0 x4 : ByteArray) (x5 x6 : Int) : Option (Int × Bool) := lim (fun k => impl_ReadDecimal.l0 k x0 x4 x5 x6)
theorem impl_ReadDecimal.L0_lim (x0 x4 : ByteArray) (x5 x6 : Int) : Lim (fun k => impl_ReadDecimal.l0 k x0 x4 x5 x6) (impl_ReadDecimal.L0 x0 x4 x5 x6) := Lim.of (fun k => (impl_ReadDecimal.mono_l k).2 x0 x4 x5 x6)
noncomputable def impl_ReadDecimal.F (a0 : ByteArray) : Option (Int × Bool) := lim (fun k => impl_ReadDecimal.f k a0)
theorem impl_ReadDecimal.F_lim (a0 : ByteArray) : Lim (fun k => impl_ReadDecimal.f k a0) (impl_ReadDecimal.F a0) := Lim.of (fun k => impl_ReadDecimal.mono a0 k)
theorem impl_ReadDecimal.J0_eq (x0 x4 : ByteArray) (x16 : Bool) : impl_ReadDecimal.J0 x0 x4 x16 = if x16 = true then (some (0, false)) else (impl_ReadDecimal.L0 x0 x4 0 0) := by
  refine Lim.next (fun k => (impl_ReadDecimal.mono_l k).1 x0 x4 x16) ?_
  simp only [impl_ReadDecimal.j0]
  repeat' with_reducible first | exact Lim.const _ | exact impl_ReadDecimal.L0_lim _ _ _ _ | refine Lim.ite ?_ ?_ | refine Lim.bind ?_ (fun _ => ?_)
theorem impl_ReadDecimal.L0_eq (x0 x4 : ByteArray) (x5 x6 : Int) : impl_ReadDecimal.L0 x0 x4 x5 x6 = if x6 < (x4.size : Int) then (if 0 ≤ x6 then (if (bt x4 x6) < 48 then (some (0, false)) else (if (bt x4 x6) > 57 then (some (0, false)) else (impl_ReadDecimal.L0 x0 x4 (wrap64 ((wrap64 (10 * x5)) + (((bt x4 x6) - 48) % 256))) (wrap64 (x6 + 1))))) else (none)) else (if (x4.size : Int) < (x0.size : Int) then ((impl_Decimal.f (wrap64 (-x5))).bind fun t239 => (if t239.toList = x0.toList then (some (wrap64 (-x5), true)) else (some (0, false)))) else ((impl_Decimal.f x5).bind fun t240 => (if t240.toList = x0.toList then (some (x5, true)) else (some (0, false))))) := by
  refine Lim.next (fun k => (impl_ReadDecimal.mono_l k).2 x0 x4 x5 x6) ?_
  simp only [impl_ReadDecimal.l0]
  repeat' with_reducible first | exact Lim.const _ | exact impl_ReadDecimal.L0_lim _ _ _ _ | refine Lim.ite ?_ ?_ | refine Lim.bind ?_ (fun _ => ?_)
theorem impl_ReadDecimal.F_eq (a0 : ByteArray) : impl_ReadDecimal.F a0 = (strings_TrimPrefix.f a0 (⟨#[45]⟩ : ByteArray)).bind fun t238 => (if (t238.size : Int) < 1 then (impl_ReadDecimal.J0 a0 t238 true) else (impl_ReadDecimal.J0 a0 t238 (decide ((t238.size : Int) > 18)))) := by
  refine Lim.eq (g := fun k => impl_ReadDecimal.f k a0) ?_
  unfold impl_ReadDecimal.f
  repeat' with_reducible first | exact Lim.const _ | exact impl_ReadDecimal.J0_lim _ _ _ | refine Lim.ite ?_ ?_ | refine Lim.bind ?_ (fun _ => ?_)

noncomputable def impl_ReadReefing.L0 (x19 : List ByteArray) (x20 x21 : Int) (x243000 x243001 : List Int) : Option (List Int × List Int × Bool) := lim (fun k => impl_ReadReefing.l0 k x19 x20 x21 x243000 x243001)
theorem impl_ReadReefing.L0_lim (x19 : List ByteArray) (x20 x21 : Int) (x243000 x243001 : List Int) : Lim (fun k => impl_ReadReefing.l0 k x19 x20 x21 x243000 x243001) (impl_ReadReefing.L0 x19 x20 x21 x243000 x243001) := Lim.of (fun k => (impl_ReadReefing.mono_l k) x19 x20 x21 x243000 x243001)
noncomputable def impl_ReadReefing.F (a0 : ByteArray) : Option (List Int × List Int × Bool) := lim (fun k => impl_ReadReefing.f k a0)
theorem impl_ReadReefing.F_lim (a0 : ByteArray) : Lim (fun k => impl_ReadReefing.f k a0) (impl_ReadReefing.F a0) := Lim.of (fun k => impl_ReadReefing.mono a0 k)
theorem impl_ReadReefing.L0_eq (x19 : List ByteArray) (x20 x21 : Int) (x243000 x243001 : List Int) : impl_ReadReefing.L0 x19 x20 x21 x243000 x243001 = if x21 < x20 then (if 0 ≤ x21 then (if x21 < (x19.length : Int) then ((strings_Cut.f (rdOf ByteArray.empty x19 x21) (⟨#[47]⟩ : ByteArray)).bind fun bt248 => ((impl_ReadDecimal.F bt248.1).bind fun bt251 => ((impl_ReadDecimal.F bt248.2.1).bind fun bt253 => (if bt248.2.2 = true then (if bt251.2 = true then (if bt253.2 = true then (if x243000.length < 17592186044416 then (if x243001.length < 17592186044416 then (impl_ReadReefing.L0 x19 x20 (wrap64 (x21 + 1)) (x243000 ++ [bt251.1]) (x243001 ++ [bt253.1])) else (none)) else (none)) else (some (([] : List Int), ([] : List Int), false))) else (some (([] : List Int), ([] : List Int), false))) else (some (([] : List Int), ([] : List Int), false)))))) else (none)) else (none)) else ((impl_ValidReefing.F x243000 x243001).bind fun t246 => (if t246 = true then (some (x243000, x243001, true)) else (some (([] : List Int), ([] : List Int), false)))) := by
  refine Lim.next (fun k => (impl_ReadReefing.mono_l k) x19 x20 x21 x243000 x243001) ?_
  simp only [impl_ReadReefing.l0]
  repeat' with_reducible first | exact Lim.const _ | exact impl_ReadDecimal.F_lim _ | exact impl_ReadReefing.L0_lim _ _ _ _ _ | exact impl_ValidReefing.F_lim _ _ | refine Lim.ite ?_ ?_ | refine Lim.bind ?_ (fun _ => ?_)
theorem impl_ReadReefing.F_eq (a0 : ByteArray) : impl_ReadReefing.F a0 = if a0.toList = ([110, 111, 110, 101] : List UInt8) then (some (([] : List Int), ([] : List Int), true)) else ((strings_Split.f a0 (⟨#[32]⟩ : ByteArray)).bind fun t243 => (impl_ReadReefing.L0 t243 (t243.length : Int) 0 ([] : List Int) ([] : List Int))) := by
  refine Lim.eq (g := fun k => impl_ReadReefing.f k a0) ?_
  unfold impl_ReadReefing.f
  repeat' with_reducible first | exact Lim.const _ | exact impl_ReadReefing.L0_lim _ _ _ _ _ | refine Lim.ite ?_ ?_ | refine Lim.bind ?_ (fun _ => ?_)

noncomputable def impl_ReefText.L0 (x3 : List ByteArray) (x15 : List Int) (x16 x17 : Int) (x262000 x262001 : List Int) : Option (ByteArray) := lim (fun k => impl_ReefText.l0 k x3 x15 x16 x17 x262000 x262001)
theorem impl_ReefText.L0_lim (x3 : List ByteArray) (x15 : List Int) (x16 x17 : Int) (x262000 x262001 : List Int) : Lim (fun k => impl_ReefText.l0 k x3 x15 x16 x17 x262000 x262001) (impl_ReefText.L0 x3 x15 x16 x17 x262000 x262001) := Lim.of (fun k => (impl_ReefText.mono_l k) x3 x15 x16 x17 x262000 x262001)
noncomputable def impl_ReefText.F (l0_0 l0_1 : List Int) : Option (ByteArray) := lim (fun k => impl_ReefText.f k l0_0 l0_1)
theorem impl_ReefText.F_lim (l0_0 l0_1 : List Int) : Lim (fun k => impl_ReefText.f k l0_0 l0_1) (impl_ReefText.F l0_0 l0_1) := Lim.of (fun k => impl_ReefText.mono l0_0 l0_1 k)
theorem impl_ReefText.L0_eq (x3 : List ByteArray) (x15 : List Int) (x16 x17 : Int) (x262000 x262001 : List Int) : impl_ReefText.L0 x3 x15 x16 x17 x262000 x262001 = if x17 < x16 then (if 0 ≤ x17 then (if x17 < (x15.length : Int) then ((impl_Decimal.f (rd x15 x17)).bind fun t267 => (if t267.size + 1 ≤ 9223372036854775807 then (if x17 < (x262001.length : Int) then ((impl_Decimal.f (rd x262001 x17)).bind fun t269 => (if t267.size + 1 + t269.size ≤ 9223372036854775807 then (if x3.length < 8796093022208 then (impl_ReefText.L0 (x3 ++ [(t267 ++ (⟨#[47]⟩ : ByteArray)) ++ t269]) x15 x16 (wrap64 (x17 + 1)) x262000 x262001) else (none)) else (none))) else (none)) else (none))) else (none)) else (none)) else ((strings_Join.f x3 (⟨#[32]⟩ : ByteArray)).bind fun t273 => (some t273)) := by
  refine Lim.next (fun k => (impl_ReefText.mono_l k) x3 x15 x16 x17 x262000 x262001) ?_
  simp only [impl_ReefText.l0]
  repeat' with_reducible first | exact Lim.const _ | exact impl_ReefText.L0_lim _ _ _ _ _ _ | refine Lim.ite ?_ ?_ | refine Lim.bind ?_ (fun _ => ?_)
theorem impl_ReefText.F_eq (l0_0 l0_1 : List Int) : impl_ReefText.F l0_0 l0_1 = (impl_ValidReefing.F l0_0 l0_1).bind fun t262 => (if t262 = true then (if (l0_0.length : Int) = 0 then (some (⟨#[110, 111, 110, 101]⟩ : ByteArray)) else (impl_ReefText.L0 (([] : List ByteArray)) l0_0 (l0_0.length : Int) 0 l0_0 l0_1)) else (some (⟨#[]⟩ : ByteArray))) := by
  refine Lim.eq (g := fun k => impl_ReefText.f k l0_0 l0_1) ?_
  unfold impl_ReefText.f
  repeat' with_reducible first | exact Lim.const _ | exact impl_ReefText.L0_lim _ _ _ _ _ _ | exact impl_ValidReefing.F_lim _ _ | refine Lim.ite ?_ ?_ | refine Lim.bind ?_ (fun _ => ?_)

noncomputable def laws_a2Same.L0 (x0 x1 : List Int) (x5 : Int) : Option (Bool) := lim (fun k => laws_a2Same.l0 k x0 x1 x5)
theorem laws_a2Same.L0_lim (x0 x1 : List Int) (x5 : Int) : Lim (fun k => laws_a2Same.l0 k x0 x1 x5) (laws_a2Same.L0 x0 x1 x5) := Lim.of (fun k => (laws_a2Same.mono_l k) x0 x1 x5)
noncomputable def laws_a2Same.F (l0 l1 : List Int) : Option (Bool) := lim (fun k => laws_a2Same.f k l0 l1)
theorem laws_a2Same.F_lim (l0 l1 : List Int) : Lim (fun k => laws_a2Same.f k l0 l1) (laws_a2Same.F l0 l1) := Lim.of (fun k => laws_a2Same.mono l0 l1 k)
theorem laws_a2Same.L0_eq (x0 x1 : List Int) (x5 : Int) : laws_a2Same.L0 x0 x1 x5 = if x5 < (x0.length : Int) then (if 0 ≤ x5 then (if x5 < (x1.length : Int) then (if (rd x0 x5) = (rd x1 x5) then (laws_a2Same.L0 x0 x1 (wrap64 (x5 + 1))) else (some false)) else (none)) else (none)) else (some true) := by
  refine Lim.next (fun k => (laws_a2Same.mono_l k) x0 x1 x5) ?_
  simp only [laws_a2Same.l0]
  repeat' with_reducible first | exact Lim.const _ | exact laws_a2Same.L0_lim _ _ _ | refine Lim.ite ?_ ?_ | refine Lim.bind ?_ (fun _ => ?_)
theorem laws_a2Same.F_eq (l0 l1 : List Int) : laws_a2Same.F l0 l1 = if (l0.length : Int) = (l1.length : Int) then (laws_a2Same.L0 l0 l1 0) else (some false) := by
  refine Lim.eq (g := fun k => laws_a2Same.f k l0 l1) ?_
  unfold laws_a2Same.f
  repeat' with_reducible first | exact Lim.const _ | exact laws_a2Same.L0_lim _ _ _ | refine Lim.ite ?_ ?_ | refine Lim.bind ?_ (fun _ => ?_)

noncomputable def laws_FnReefRuns.J0 (x6 : Int) (x7 : List Int) (x8 : Int) (x9 : List Int) (x11 x13 : Int) (x77 : Bool) (x284000 x284001 : List Int) : Option (Bool) := lim (fun k => laws_FnReefRuns.j0 k x6 x7 x8 x9 x11 x13 x77 x284000 x284001)
theorem laws_FnReefRuns.J0_lim (x6 : Int) (x7 : List Int) (x8 : Int) (x9 : List Int) (x11 x13 : Int) (x77 : Bool) (x284000 x284001 : List Int) : Lim (fun k => laws_FnReefRuns.j0 k x6 x7 x8 x9 x11 x13 x77 x284000 x284001) (laws_FnReefRuns.J0 x6 x7 x8 x9 x11 x13 x77 x284000 x284001) := Lim.of (fun k => (laws_FnReefRuns.mono_l k).1 x6 x7 x8 x9 x11 x13 x77 x284000 x284001)
noncomputable def laws_FnReefRuns.L0 (x6 : Int) (x7 x9 : List Int) (x11 x13 x15 x16 x17 x18 : Int) (x284000 x284001 : List Int) : Option (Bool) := lim (fun k => laws_FnReefRuns.l0 k x6 x7 x9 x11 x13 x15 x16 x17 x18 x284000 x284001)
theorem laws_FnReefRuns.L0_lim (x6 : Int) (x7 x9 : List Int) (x11 x13 x15 x16 x17 x18 : Int) (x284000 x284001 : List Int) : Lim (fun k => laws_FnReefRuns.l0 k x6 x7 x9 x11 x13 x15 x16 x17 x18 x284000 x284001) (laws_FnReefRuns.L0 x6 x7 x9 x11 x13 x15 x16 x17 x18 x284000 x284001) := Lim.of (fun k => (laws_FnReefRuns.mono_l k).2.1 x6 x7 x9 x11 x13 x15 x16 x17 x18 x284000 x284001)
noncomputable def laws_FnReefRuns.J2 (x6 : Int) (x7 x9 : List Int) (x11 x13 x15 x16 x17 x18 x19 x22 : Int) (x166 : Bool) (x284000 x284001 : List Int) : Option (Bool) := lim (fun k => laws_FnReefRuns.j2 k x6 x7 x9 x11 x13 x15 x16 x17 x18 x19 x22 x166 x284000 x284001)
theorem laws_FnReefRuns.J2_lim (x6 : Int) (x7 x9 : List Int) (x11 x13 x15 x16 x17 x18 x19 x22 : Int) (x166 : Bool) (x284000 x284001 : List Int) : Lim (fun k => laws_FnReefRuns.j2 k x6 x7 x9 x11 x13 x15 x16 x17 x18 x19 x22 x166 x284000 x284001) (laws_FnReefRuns.J2 x6 x7 x9 x11 x13 x15 x16 x17 x18 x19 x22 x166 x284000 x284001) := Lim.of (fun k => (laws_FnReefRuns.mono_l k).2.2 x6 x7 x9 x11 x13 x15 x16 x17 x18 x19 x22 x166 x284000 x284001)
noncomputable def laws_FnReefRuns.F (l0 l1 : List Int) : Option (Bool) := lim (fun k => laws_FnReefRuns.f k l0 l1)
theorem laws_FnReefRuns.F_lim (l0 l1 : List Int) : Lim (fun k => laws_FnReefRuns.f k l0 l1) (laws_FnReefRuns.F l0 l1) := Lim.of (fun k => laws_FnReefRuns.mono l0 l1 k)
theorem laws_FnReefRuns.J0_eq (x6 : Int) (x7 : List Int) (x8 : Int) (x9 : List Int) (x11 x13 : Int) (x77 : Bool) (x284000 x284001 : List Int) : laws_FnReefRuns.J0 x6 x7 x8 x9 x11 x13 x77 x284000 x284001 = if x77 = true then (some false) else (laws_FnReefRuns.L0 x6 x7 x9 x11 x13 0 0 x8 0 x284000 x284001) := by
  refine Lim.next (fun k => (laws_FnReefRuns.mono_l k).1 x6 x7 x8 x9 x11 x13 x77 x284000 x284001) ?_
  simp only [laws_FnReefRuns.j0]
  repeat' with_reducible first | exact Lim.const _ | exact laws_FnReefRuns.L0_lim _ _ _ _ _ _ _ _ _ _ _ | refine Lim.ite ?_ ?_ | refine Lim.bind ?_ (fun _ => ?_)
theorem laws_FnReefRuns.L0_eq (x6 : Int) (x7 x9 : List Int) (x11 x13 x15 x16 x17 x18 : Int) (x284000 x284001 : List Int) : laws_FnReefRuns.L0 x6 x7 x9 x11 x13 x15 x16 x17 x18 x284000 x284001 = if x18 < (x7.length : Int) then (if 0 ≤ x18 then (if x18 < (x9.length : Int) then ((impl_NextReef.F x284000 x284001 x17 (rd x7 x18)).bind fun bt298 => ((impl_NeededReefs.F x284000 x284001 (rd x7 x18)).bind fun bt301 => (if bt298.2 = 0 then (if bt298.1 = (rd x9 x18) then (if bt301.2 = 0 then (if (rd x9 x18) < 0 then (laws_FnReefRuns.J2 x6 x7 x9 x11 x13 x15 x16 x17 x18 (rd x9 x18) bt301.1 true x284000 x284001) else (if (rd x9 x18) > x6 then (laws_FnReefRuns.J2 x6 x7 x9 x11 x13 x15 x16 x17 x18 (rd x9 x18) bt301.1 true x284000 x284001) else (if (rd x9 x18) < bt301.1 then (laws_FnReefRuns.J2 x6 x7 x9 x11 x13 x15 x16 x17 x18 (rd x9 x18) bt301.1 true x284000 x284001) else (if (rd x9 x18) < x6 then (if 0 ≤ (rd x9 x18) then (if (rd x9 x18) < (x284000.length : Int) then (if (rd x7 x18) ≥ (rd x284000 (rd x9 x18)) then (laws_FnReefRuns.J2 x6 x7 x9 x11 x13 x15 x16 x17 x18 (rd x9 x18) bt301.1 true x284000 x284001) else (if (rd x9 x18) > 0 then (if 0 ≤ (wrap64 ((rd x9 x18) - 1)) then (if (wrap64 ((rd x9 x18) - 1)) < (x284001.length : Int) then (laws_FnReefRuns.J2 x6 x7 x9 x11 x13 x15 x16 x17 x18 (rd x9 x18) bt301.1 (decide ((rd x7 x18) < (rd x284001 (wrap64 ((rd x9 x18) - 1))))) x284000 x284001) else (none)) else (none)) else (laws_FnReefRuns.J2 x6 x7 x9 x11 x13 x15 x16 x17 x18 (rd x9 x18) bt301.1 false x284000 x284001))) else (none)) else (none)) else (if (rd x9 x18) > 0 then (if 0 ≤ (wrap64 ((rd x9 x18) - 1)) then (if (wrap64 ((rd x9 x18) - 1)) < (x284001.length : Int) then (laws_FnReefRuns.J2 x6 x7 x9 x11 x13 x15 x16 x17 x18 (rd x9 x18) bt301.1 (decide ((rd x7 x18) < (rd x284001 (wrap64 ((rd x9 x18) - 1))))) x284000 x284001) else (none)) else (none)) else (laws_FnReefRuns.J2 x6 x7 x9 x11 x13 x15 x16 x17 x18 (rd x9 x18) bt301.1 false x284000 x284001)))))) else (laws_FnReefRuns.J2 x6 x7 x9 x11 x13 x15 x16 x17 x18 (rd x9 x18) bt301.1 true x284000 x284001)) else (laws_FnReefRuns.J2 x6 x7 x9 x11 x13 x15 x16 x17 x18 (rd x9 x18) bt301.1 true x284000 x284001)) else (laws_FnReefRuns.J2 x6 x7 x9 x11 x13 x15 x16 x17 x18 (rd x9 x18) bt301.1 true x284000 x284001)))) else (none)) else (none)) else ((impl_ReefText.F x284000 x284001).bind fun t309 => ((impl_ReadReefing.F t309).bind fun bt310 => (if x15 = x11 then (if x16 = x13 then (if bt310.2.2 = true then ((laws_a2Same.F bt310.1 x284000).bind fun t318 => (if t318 = true then ((laws_a2Same.F bt310.2.1 x284001).bind fun t319 => (some t319)) else (some false))) else (some false)) else (some false)) else (some false)))) := by
  refine Lim.next (fun k => (laws_FnReefRuns.mono_l k).2.1 x6 x7 x9 x11 x13 x15 x16 x17 x18 x284000 x284001) ?_
  simp only [laws_FnReefRuns.l0]
  repeat' with_reducible first | exact Lim.const _ | exact impl_NeededReefs.F_lim _ _ _ | exact impl_NextReef.F_lim _ _ _ _ | exact impl_ReadReefing.F_lim _ | exact impl_ReefText.F_lim _ _ | exact laws_FnReefRuns.J2_lim _ _ _ _ _ _ _ _ _ _ _ _ _ _ | exact laws_a2Same.F_lim _ _ | refine Lim.ite ?_ ?_ | refine Lim.bind ?_ (fun _ => ?_)
theorem laws_FnReefRuns.J2_eq (x6 : Int) (x7 x9 : List Int) (x11 x13 x15 x16 x17 x18 x19 x22 : Int) (x166 : Bool) (x284000 x284001 : List Int) : laws_FnReefRuns.J2 x6 x7 x9 x11 x13 x15 x16 x17 x18 x19 x22 x166 x284000 x284001 = if x166 = true then (some false) else (if x19 > x22 then (laws_FnReefRuns.L0 x6 x7 x9 x11 x13 (wrap64 (x15 + (mx (wrap64 (x19 - x17)) (wrap64 (x17 - x19))))) (wrap64 (x16 + 1)) x19 (wrap64 (x18 + 1)) x284000 x284001) else (laws_FnReefRuns.L0 x6 x7 x9 x11 x13 (wrap64 (x15 + (mx (wrap64 (x19 - x17)) (wrap64 (x17 - x19))))) x16 x19 (wrap64 (x18 + 1)) x284000 x284001)) := by
  refine Lim.next (fun k => (laws_FnReefRuns.mono_l k).2.2 x6 x7 x9 x11 x13 x15 x16 x17 x18 x19 x22 x166 x284000 x284001) ?_
  simp only [laws_FnReefRuns.j2]
  repeat' with_reducible first | exact Lim.const _ | exact laws_FnReefRuns.L0_lim _ _ _ _ _ _ _ _ _ _ _ | refine Lim.ite ?_ ?_ | refine Lim.bind ?_ (fun _ => ?_)
theorem laws_FnReefRuns.F_eq (l0 l1 : List Int) : laws_FnReefRuns.F l0 l1 = (laws_a2Long.f l0 l1).bind fun t276 => (if t276 = true then (some true) else ((spec_A2Reefing.F l0).bind fun bt277 => ((spec_A2Blows.F l1).bind fun t284 => ((laws_a2At.f l1 0 (wrap64 ((bt277.1.length : Int) + 1))).bind fun t287 => ((impl_RunReefs.F bt277.1 bt277.2 t287 t284).bind fun bt288 => ((impl_CountChanges.F bt277.1 bt277.2 t287 t284).bind fun bt292 => ((impl_TooManyReefs.F bt277.1 bt277.2 t287 t284).bind fun bt294 => (if bt288.2 = 0 then (if (bt288.1.length : Int) = (t284.length : Int) then (if bt292.2 = 0 then (laws_FnReefRuns.J0 (bt277.1.length : Int) t284 t287 bt288.1 bt292.1 bt294.1 (bt294.2 != 0) bt277.1 bt277.2) else (laws_FnReefRuns.J0 (bt277.1.length : Int) t284 t287 bt288.1 bt292.1 bt294.1 true bt277.1 bt277.2)) else (laws_FnReefRuns.J0 (bt277.1.length : Int) t284 t287 bt288.1 bt292.1 bt294.1 true bt277.1 bt277.2)) else (laws_FnReefRuns.J0 (bt277.1.length : Int) t284 t287 bt288.1 bt292.1 bt294.1 true bt277.1 bt277.2))))))))) := by
  refine Lim.eq (g := fun k => laws_FnReefRuns.f k l0 l1) ?_
  unfold laws_FnReefRuns.f
  repeat' with_reducible first | exact Lim.const _ | exact impl_CountChanges.F_lim _ _ _ _ | exact impl_RunReefs.F_lim _ _ _ _ | exact impl_TooManyReefs.F_lim _ _ _ _ | exact laws_FnReefRuns.J0_lim _ _ _ _ _ _ _ _ _ | exact spec_A2Blows.F_lim _ | exact spec_A2Reefing.F_lim _ | refine Lim.ite ?_ ?_ | refine Lim.bind ?_ (fun _ => ?_)

end Go.Proofs.YtdlckliobloodaaDoor.PFnReefRuns
