/-
  Written by a program of this session (wip/tools/lims.py): the printed functions without their bound on rounds.
-/
import Derived.Test.YtbhijlhlopljmaaPFnReefGapsx1
import Derived.Test.YtbhijlhlopljmaaPFnReefGapsx2
import Derived.Test.YtbhijlhlopljmaaPFnReefGapsx3
import Derived.Test.YtbhijlhlopljmaaPFnReefGapsx4
import Derived.Test.YtbhijlhlopljmaaPFnReefGapsx5
import Derived.Test.YtbhijlhlopljmaaPFnReefGapsx6
import Derived.Test.YtbhijlhlopljmaaPFnReefGapsx7
import Derived.Test.YtbhijlhlopljmaaPFnReefGapsx8
import Derived.Test.YtbhijlhlopljmaaKit
set_option linter.unusedVariables false
set_option linter.unusedSimpArgs false
namespace Go.Proofs.Ytbhijlhlopljmaa.PFnReefGaps
open Go.RowKit Go.Proofs.Ytbhijlhlopljmaa.Kit Go.Proofs.YtbhijlhlopljmaaW.PrintWords Go.Proofs.YtbhijlhlopljmaaW.PrintLast Go.Proofs.YtbhijlhlopljmaaW.PrintMore

noncomputable def spec_l18Draw.L0 (x4 : Int) (x5 : Int) (x6 : Int) (x1000 : List Int) (x1001 : Int) (x1002 : Int) (x116000 : List Int) (x116001 : List Int) : Option (List Int × List Int × Int × Int) := lim (fun k => spec_l18Draw.l0 k x4 x5 x6 x1000 x1001 x1002 x116000 x116001)
theorem spec_l18Draw.L0_lim (x4 : Int) (x5 : Int) (x6 : Int) (x1000 : List Int) (x1001 : Int) (x1002 : Int) (x116000 : List Int) (x116001 : List Int) : Lim (fun k => spec_l18Draw.l0 k x4 x5 x6 x1000 x1001 x1002 x116000 x116001) (spec_l18Draw.L0 x4 x5 x6 x1000 x1001 x1002 x116000 x116001) := Lim.of (fun k => (spec_l18Draw.mono_l k) x4 x5 x6 x1000 x1001 x1002 x116000 x116001)
noncomputable def spec_l18Draw.F (s0_0 : List Int) (s0_1 : Int) (s0_2 : Int) : Option (List Int × List Int × Int × Int) := lim (fun k => spec_l18Draw.f k s0_0 s0_1 s0_2)
theorem spec_l18Draw.F_lim (s0_0 : List Int) (s0_1 : Int) (s0_2 : Int) : Lim (fun k => spec_l18Draw.f k s0_0 s0_1 s0_2) (spec_l18Draw.F s0_0 s0_1 s0_2) := Lim.of (fun k => spec_l18Draw.mono s0_0 s0_1 s0_2 k)
theorem spec_l18Draw.L0_eq (x4 : Int) (x5 : Int) (x6 : Int) (x1000 : List Int) (x1001 : Int) (x1002 : Int) (x116000 : List Int) (x116001 : List Int) : spec_l18Draw.L0 x4 x5 x6 x1000 x1001 x1002 x116000 x116001 = if x6 > 0 then (if x116000.length < 17592186044416 then ((spec_l00Src_pick.f x1000 x1001 x1002 (wrap64 (x4 - x5))).bind fun bt128 => ((spec_l00Min.f x4 (wrap64 ((wrap64 (x5 + 1)) + bt128.1))).bind fun t131 => (if x116001.length < 17592186044416 then ((spec_l00Src_pick.f x1000 bt128.2.1 bt128.2.2 60).bind fun bt135 => (spec_l18Draw.L0 (wrap64 (x4 + (wrap64 (1 + bt135.1)))) t131 (wrap64 (x6 - 1)) x1000 bt135.2.1 bt135.2.2 (x116000 ++ [x4]) (x116001 ++ [t131]))) else (none)))) else (none)) else (some (x116000, x116001, x1001, x1002)) := by
  refine Lim.step (f := fun k => if x6 > 0 then (if x116000.length < 17592186044416 then ((spec_l00Src_pick.f x1000 x1001 x1002 (wrap64 (x4 - x5))).bind fun bt128 => ((spec_l00Min.f x4 (wrap64 ((wrap64 (x5 + 1)) + bt128.1))).bind fun t131 => (if x116001.length < 17592186044416 then ((spec_l00Src_pick.f x1000 bt128.2.1 bt128.2.2 60).bind fun bt135 => (spec_l18Draw.l0 k (wrap64 (x4 + (wrap64 (1 + bt135.1)))) t131 (wrap64 (x6 - 1)) x1000 bt135.2.1 bt135.2.2 (x116000 ++ [x4]) (x116001 ++ [t131]))) else (none)))) else (none)) else (some (x116000, x116001, x1001, x1002))) (fun k => (spec_l18Draw.mono_l k) x4 x5 x6 x1000 x1001 x1002 x116000 x116001) (fun k => by simp only [spec_l18Draw.l0]) ?_
  repeat' first
    | with_reducible exact Lim.const _
    | with_reducible exact spec_l18Draw.L0_lim _ _ _ _ _ _ _ _
    | with_reducible refine Lim.ite ?_ ?_
    | with_reducible refine Lim.bind ?_ (fun _ => ?_)
theorem spec_l18Draw.F_eq (s0_0 : List Int) (s0_1 : Int) (s0_2 : Int) : spec_l18Draw.F s0_0 s0_1 s0_2 = (spec_l00Src_pick.f s0_0 s0_1 s0_2 60).bind fun bt116 => ((spec_l00Src_pick.f s0_0 bt116.2.1 bt116.2.2 20).bind fun bt119 => ((spec_l00Src_pick.f s0_0 bt119.2.1 bt119.2.2 5).bind fun bt122 => (spec_l18Draw.L0 (wrap64 (20 + bt116.1)) bt119.1 bt122.1 s0_0 bt122.2.1 bt122.2.2 (([] : List Int)) (([] : List Int))))) := by
  refine Lim.eq (g := fun k => spec_l18Draw.f k s0_0 s0_1 s0_2) ?_
  unfold spec_l18Draw.f
  repeat' first
    | with_reducible exact Lim.const _
    | with_reducible exact spec_l18Draw.L0_lim _ _ _ _ _ _ _ _
    | with_reducible refine Lim.ite ?_ ?_
    | with_reducible refine Lim.bind ?_ (fun _ => ?_)

noncomputable def spec_A2Reefing.F (l0 : List Int) : Option (List Int × List Int) := lim (fun k => spec_A2Reefing.f k l0)
theorem spec_A2Reefing.F_lim (l0 : List Int) : Lim (fun k => spec_A2Reefing.f k l0) (spec_A2Reefing.F l0) := Lim.of (fun k => spec_A2Reefing.mono l0 k)
theorem spec_A2Reefing.F_eq (l0 : List Int) : spec_A2Reefing.F l0 = (spec_l00From.f l0).bind fun bt140 => ((spec_l18Draw.F bt140.1 bt140.2.1 bt140.2.2).bind fun bt144 => (some (bt144.1, bt144.2.1))) := by
  refine Lim.eq (g := fun k => spec_A2Reefing.f k l0) ?_
  unfold spec_A2Reefing.f
  repeat' first
    | with_reducible exact Lim.const _
    | with_reducible exact spec_l18Draw.F_lim _ _ _
    | with_reducible refine Lim.ite ?_ ?_
    | with_reducible refine Lim.bind ?_ (fun _ => ?_)

noncomputable def spec_A2Blows.L0 (x4 : List Int) (x5 : Int) (x6 : Int) (x156000 : List Int) (x156001 : Int) (x156002 : Int) : Option (List Int) := lim (fun k => spec_A2Blows.l0 k x4 x5 x6 x156000 x156001 x156002)
theorem spec_A2Blows.L0_lim (x4 : List Int) (x5 : Int) (x6 : Int) (x156000 : List Int) (x156001 : Int) (x156002 : Int) : Lim (fun k => spec_A2Blows.l0 k x4 x5 x6 x156000 x156001 x156002) (spec_A2Blows.L0 x4 x5 x6 x156000 x156001 x156002) := Lim.of (fun k => (spec_A2Blows.mono_l k) x4 x5 x6 x156000 x156001 x156002)
noncomputable def spec_A2Blows.F (l0 : List Int) : Option (List Int) := lim (fun k => spec_A2Blows.f k l0)
theorem spec_A2Blows.F_lim (l0 : List Int) : Lim (fun k => spec_A2Blows.f k l0) (spec_A2Blows.F l0) := Lim.of (fun k => spec_A2Blows.mono l0 k)
theorem spec_A2Blows.L0_eq (x4 : List Int) (x5 : Int) (x6 : Int) (x156000 : List Int) (x156001 : Int) (x156002 : Int) : spec_A2Blows.L0 x4 x5 x6 x156000 x156001 x156002 = if x6 > 0 then ((spec_l00Src_pick.f x156000 x156001 x156002 81).bind fun bt165 => ((spec_l00Max.f 0 (wrap64 ((wrap64 (x5 + bt165.1)) - 40))).bind fun t168 => ((spec_l00Min.f 600 t168).bind fun t169 => (if x4.length < 17592186044416 then (spec_A2Blows.L0 (x4 ++ [t169]) t169 (wrap64 (x6 - 1)) x156000 bt165.2.1 bt165.2.2) else (none))))) else (some x4) := by
  refine Lim.step (f := fun k => if x6 > 0 then ((spec_l00Src_pick.f x156000 x156001 x156002 81).bind fun bt165 => ((spec_l00Max.f 0 (wrap64 ((wrap64 (x5 + bt165.1)) - 40))).bind fun t168 => ((spec_l00Min.f 600 t168).bind fun t169 => (if x4.length < 17592186044416 then (spec_A2Blows.l0 k (x4 ++ [t169]) t169 (wrap64 (x6 - 1)) x156000 bt165.2.1 bt165.2.2) else (none))))) else (some x4)) (fun k => (spec_A2Blows.mono_l k) x4 x5 x6 x156000 x156001 x156002) (fun k => by simp only [spec_A2Blows.l0]) ?_
  repeat' first
    | with_reducible exact Lim.const _
    | with_reducible exact spec_A2Blows.L0_lim _ _ _ _ _ _
    | with_reducible refine Lim.ite ?_ ?_
    | with_reducible refine Lim.bind ?_ (fun _ => ?_)
theorem spec_A2Blows.F_eq (l0 : List Int) : spec_A2Blows.F l0 = (spec_l00From.f l0).bind fun bt152 => ((spec_l00Src_pick.f bt152.1 bt152.2.1 bt152.2.2 150).bind fun bt159 => ((spec_l00Src_pick.f bt152.1 bt159.2.1 bt159.2.2 14).bind fun bt162 => (spec_A2Blows.L0 (([] : List Int)) bt159.1 bt162.1 bt152.1 bt162.2.1 bt162.2.2))) := by
  refine Lim.eq (g := fun k => spec_A2Blows.f k l0) ?_
  unfold spec_A2Blows.f
  repeat' first
    | with_reducible exact Lim.const _
    | with_reducible exact spec_A2Blows.L0_lim _ _ _ _ _ _
    | with_reducible refine Lim.ite ?_ ?_
    | with_reducible refine Lim.bind ?_ (fun _ => ?_)

noncomputable def impl_ValidReefing.J0 (x17 : Bool) (x175000 : List Int) (x175001 : List Int) : Option (Bool) := lim (fun k => impl_ValidReefing.j0 k x17 x175000 x175001)
theorem impl_ValidReefing.J0_lim (x17 : Bool) (x175000 : List Int) (x175001 : List Int) : Lim (fun k => impl_ValidReefing.j0 k x17 x175000 x175001) (impl_ValidReefing.J0 x17 x175000 x175001) := Lim.of (fun k => (impl_ValidReefing.mono_l k).1 x17 x175000 x175001)
noncomputable def impl_ValidReefing.L0 (x19 : List Int) (x20 : Int) (x21 : Int) (x175000 : List Int) (x175001 : List Int) : Option (Bool) := lim (fun k => impl_ValidReefing.l0 k x19 x20 x21 x175000 x175001)
theorem impl_ValidReefing.L0_lim (x19 : List Int) (x20 : Int) (x21 : Int) (x175000 : List Int) (x175001 : List Int) : Lim (fun k => impl_ValidReefing.l0 k x19 x20 x21 x175000 x175001) (impl_ValidReefing.L0 x19 x20 x21 x175000 x175001) := Lim.of (fun k => (impl_ValidReefing.mono_l k).2 x19 x20 x21 x175000 x175001)
noncomputable def impl_ValidReefing.F (l0_0 : List Int) (l0_1 : List Int) : Option (Bool) := lim (fun k => impl_ValidReefing.f k l0_0 l0_1)
theorem impl_ValidReefing.F_lim (l0_0 : List Int) (l0_1 : List Int) : Lim (fun k => impl_ValidReefing.f k l0_0 l0_1) (impl_ValidReefing.F l0_0 l0_1) := Lim.of (fun k => impl_ValidReefing.mono l0_0 l0_1 k)
theorem impl_ValidReefing.J0_eq (x17 : Bool) (x175000 : List Int) (x175001 : List Int) : impl_ValidReefing.J0 x17 x175000 x175001 = if x17 = true then (some false) else (impl_ValidReefing.L0 x175000 (x175000.length : Int) 0 x175000 x175001) := by
  refine Lim.step (f := fun k => if x17 = true then (some false) else (impl_ValidReefing.l0 k x175000 (x175000.length : Int) 0 x175000 x175001)) (fun k => (impl_ValidReefing.mono_l k).1 x17 x175000 x175001) (fun k => by simp only [impl_ValidReefing.j0]) ?_
  repeat' first
    | with_reducible exact Lim.const _
    | with_reducible exact impl_ValidReefing.L0_lim _ _ _ _ _
    | with_reducible refine Lim.ite ?_ ?_
    | with_reducible refine Lim.bind ?_ (fun _ => ?_)
theorem impl_ValidReefing.L0_eq (x19 : List Int) (x20 : Int) (x21 : Int) (x175000 : List Int) (x175001 : List Int) : impl_ValidReefing.L0 x19 x20 x21 x175000 x175001 = if x21 < x20 then (if 0 ≤ x21 then (if x21 < (x19.length : Int) then ((impl_within.f (rd x19 x21) 1 600).bind fun t176 => (if t176 = true then (if x21 < (x175001.length : Int) then ((impl_within.f (rd x175001 x21) 0 (rd x19 x21)).bind fun t178 => (if t178 = true then (if x21 > 0 then (if 0 ≤ (wrap64 (x21 - 1)) then (if (wrap64 (x21 - 1)) < (x175000.length : Int) then (if (rd x19 x21) ≤ (rd x175000 (wrap64 (x21 - 1))) then (some false) else (if (wrap64 (x21 - 1)) < (x175001.length : Int) then (if (rd x175001 x21) ≤ (rd x175001 (wrap64 (x21 - 1))) then (some false) else (impl_ValidReefing.L0 x19 x20 (wrap64 (x21 + 1)) x175000 x175001)) else (none))) else (none)) else (none)) else (impl_ValidReefing.L0 x19 x20 (wrap64 (x21 + 1)) x175000 x175001)) else (some false))) else (none)) else (some false))) else (none)) else (none)) else (some true) := by
  refine Lim.step (f := fun k => if x21 < x20 then (if 0 ≤ x21 then (if x21 < (x19.length : Int) then ((impl_within.f (rd x19 x21) 1 600).bind fun t176 => (if t176 = true then (if x21 < (x175001.length : Int) then ((impl_within.f (rd x175001 x21) 0 (rd x19 x21)).bind fun t178 => (if t178 = true then (if x21 > 0 then (if 0 ≤ (wrap64 (x21 - 1)) then (if (wrap64 (x21 - 1)) < (x175000.length : Int) then (if (rd x19 x21) ≤ (rd x175000 (wrap64 (x21 - 1))) then (some false) else (if (wrap64 (x21 - 1)) < (x175001.length : Int) then (if (rd x175001 x21) ≤ (rd x175001 (wrap64 (x21 - 1))) then (some false) else (impl_ValidReefing.l0 k x19 x20 (wrap64 (x21 + 1)) x175000 x175001)) else (none))) else (none)) else (none)) else (impl_ValidReefing.l0 k x19 x20 (wrap64 (x21 + 1)) x175000 x175001)) else (some false))) else (none)) else (some false))) else (none)) else (none)) else (some true)) (fun k => (impl_ValidReefing.mono_l k).2 x19 x20 x21 x175000 x175001) (fun k => by simp only [impl_ValidReefing.l0]) ?_
  repeat' first
    | with_reducible exact Lim.const _
    | with_reducible exact impl_ValidReefing.L0_lim _ _ _ _ _
    | with_reducible refine Lim.ite ?_ ?_
    | with_reducible refine Lim.bind ?_ (fun _ => ?_)
theorem impl_ValidReefing.F_eq (l0_0 : List Int) (l0_1 : List Int) : impl_ValidReefing.F l0_0 l0_1 = if (l0_0.length : Int) > 6 then (impl_ValidReefing.J0 true l0_0 l0_1) else (impl_ValidReefing.J0 ((l0_1.length : Int) != (l0_0.length : Int)) l0_0 l0_1) := by
  refine Lim.eq (g := fun k => impl_ValidReefing.f k l0_0 l0_1) ?_
  unfold impl_ValidReefing.f
  repeat' first
    | with_reducible exact Lim.const _
    | with_reducible exact impl_ValidReefing.J0_lim _ _ _
    | with_reducible refine Lim.ite ?_ ?_
    | with_reducible refine Lim.bind ?_ (fun _ => ?_)

noncomputable def impl_areIn.L0 (x2 : Int) (x3 : Int) (x15 : List Int) (x16 : Int) (x17 : Int) : Option (Bool) := lim (fun k => impl_areIn.l0 k x2 x3 x15 x16 x17)
theorem impl_areIn.L0_lim (x2 : Int) (x3 : Int) (x15 : List Int) (x16 : Int) (x17 : Int) : Lim (fun k => impl_areIn.l0 k x2 x3 x15 x16 x17) (impl_areIn.L0 x2 x3 x15 x16 x17) := Lim.of (fun k => (impl_areIn.mono_l k) x2 x3 x15 x16 x17)
noncomputable def impl_areIn.F (l0 : List Int) (a1 : Int) (a2 : Int) (a3 : Int) : Option (Bool) := lim (fun k => impl_areIn.f k l0 a1 a2 a3)
theorem impl_areIn.F_lim (l0 : List Int) (a1 : Int) (a2 : Int) (a3 : Int) : Lim (fun k => impl_areIn.f k l0 a1 a2 a3) (impl_areIn.F l0 a1 a2 a3) := Lim.of (fun k => impl_areIn.mono l0 a1 a2 a3 k)
theorem impl_areIn.L0_eq (x2 : Int) (x3 : Int) (x15 : List Int) (x16 : Int) (x17 : Int) : impl_areIn.L0 x2 x3 x15 x16 x17 = if x17 < x16 then (if 0 ≤ x17 then (if x17 < (x15.length : Int) then ((impl_within.f (rd x15 x17) x2 x3).bind fun t183 => (if t183 = true then (impl_areIn.L0 x2 x3 x15 x16 (wrap64 (x17 + 1))) else (some false))) else (none)) else (none)) else (some true) := by
  refine Lim.step (f := fun k => if x17 < x16 then (if 0 ≤ x17 then (if x17 < (x15.length : Int) then ((impl_within.f (rd x15 x17) x2 x3).bind fun t183 => (if t183 = true then (impl_areIn.l0 k x2 x3 x15 x16 (wrap64 (x17 + 1))) else (some false))) else (none)) else (none)) else (some true)) (fun k => (impl_areIn.mono_l k) x2 x3 x15 x16 x17) (fun k => by simp only [impl_areIn.l0]) ?_
  repeat' first
    | with_reducible exact Lim.const _
    | with_reducible exact impl_areIn.L0_lim _ _ _ _ _
    | with_reducible refine Lim.ite ?_ ?_
    | with_reducible refine Lim.bind ?_ (fun _ => ?_)
theorem impl_areIn.F_eq (l0 : List Int) (a1 : Int) (a2 : Int) (a3 : Int) : impl_areIn.F l0 a1 a2 a3 = if (l0.length : Int) = a1 then (impl_areIn.L0 a2 a3 l0 (l0.length : Int) 0) else (some false) := by
  refine Lim.eq (g := fun k => impl_areIn.f k l0 a1 a2 a3) ?_
  unfold impl_areIn.f
  repeat' first
    | with_reducible exact Lim.const _
    | with_reducible exact impl_areIn.L0_lim _ _ _ _ _
    | with_reducible refine Lim.ite ?_ ?_
    | with_reducible refine Lim.bind ?_ (fun _ => ?_)

noncomputable def impl_reefCode.F (l0_0 : List Int) (l0_1 : List Int) (a1 : Int) (l2 : List Int) : Option (Int) := lim (fun k => impl_reefCode.f k l0_0 l0_1 a1 l2)
theorem impl_reefCode.F_lim (l0_0 : List Int) (l0_1 : List Int) (a1 : Int) (l2 : List Int) : Lim (fun k => impl_reefCode.f k l0_0 l0_1 a1 l2) (impl_reefCode.F l0_0 l0_1 a1 l2) := Lim.of (fun k => impl_reefCode.mono l0_0 l0_1 a1 l2 k)
theorem impl_reefCode.F_eq (l0_0 : List Int) (l0_1 : List Int) (a1 : Int) (l2 : List Int) : impl_reefCode.F l0_0 l0_1 a1 l2 = (impl_ValidReefing.F l0_0 l0_1).bind fun t185 => (if t185 = true then ((impl_within.f a1 0 (l0_0.length : Int)).bind fun t186 => (if t186 = true then (if (l2.length : Int) > 60 then (some 2) else ((impl_areIn.F l2 (l2.length : Int) 0 600).bind fun t187 => (if t187 = true then (some 0) else (some 2)))) else (some 2))) else (some 1)) := by
  refine Lim.eq (g := fun k => impl_reefCode.f k l0_0 l0_1 a1 l2) ?_
  unfold impl_reefCode.f
  repeat' first
    | with_reducible exact Lim.const _
    | with_reducible exact impl_ValidReefing.F_lim _ _
    | with_reducible exact impl_areIn.F_lim _ _ _ _
    | with_reducible refine Lim.ite ?_ ?_
    | with_reducible refine Lim.bind ?_ (fun _ => ?_)

noncomputable def impl_evenReefing.L0 (x1 : Int) (x13 : List Int) (x14 : Int) (x15 : Int) (x196000 : List Int) (x196001 : List Int) : Option (List Int × List Int × Bool) := lim (fun k => impl_evenReefing.l0 k x1 x13 x14 x15 x196000 x196001)
theorem impl_evenReefing.L0_lim (x1 : Int) (x13 : List Int) (x14 : Int) (x15 : Int) (x196000 : List Int) (x196001 : List Int) : Lim (fun k => impl_evenReefing.l0 k x1 x13 x14 x15 x196000 x196001) (impl_evenReefing.L0 x1 x13 x14 x15 x196000 x196001) := Lim.of (fun k => (impl_evenReefing.mono_l k) x1 x13 x14 x15 x196000 x196001)
noncomputable def impl_evenReefing.F (l0 : List Int) (a1 : Int) : Option (List Int × List Int × Bool) := lim (fun k => impl_evenReefing.f k l0 a1)
theorem impl_evenReefing.F_lim (l0 : List Int) (a1 : Int) : Lim (fun k => impl_evenReefing.f k l0 a1) (impl_evenReefing.F l0 a1) := Lim.of (fun k => impl_evenReefing.mono l0 a1 k)
theorem impl_evenReefing.L0_eq (x1 : Int) (x13 : List Int) (x14 : Int) (x15 : Int) (x196000 : List Int) (x196001 : List Int) : impl_evenReefing.L0 x1 x13 x14 x15 x196000 x196001 = if x15 < x14 then (if 0 ≤ x15 then (if x15 < (x13.length : Int) then (if (rd x13 x15) < x1 then (some (([] : List Int), ([] : List Int), false)) else (if x196001.length < 17592186044416 then (impl_evenReefing.L0 x1 x13 x14 (wrap64 (x15 + 1)) x196000 (x196001 ++ [wrap64 ((rd x13 x15) - x1)])) else (none))) else (none)) else (none)) else (some (x196000, x196001, true)) := by
  refine Lim.step (f := fun k => if x15 < x14 then (if 0 ≤ x15 then (if x15 < (x13.length : Int) then (if (rd x13 x15) < x1 then (some (([] : List Int), ([] : List Int), false)) else (if x196001.length < 17592186044416 then (impl_evenReefing.l0 k x1 x13 x14 (wrap64 (x15 + 1)) x196000 (x196001 ++ [wrap64 ((rd x13 x15) - x1)])) else (none))) else (none)) else (none)) else (some (x196000, x196001, true))) (fun k => (impl_evenReefing.mono_l k) x1 x13 x14 x15 x196000 x196001) (fun k => by simp only [impl_evenReefing.l0]) ?_
  repeat' first
    | with_reducible exact Lim.const _
    | with_reducible exact impl_evenReefing.L0_lim _ _ _ _ _ _
    | with_reducible refine Lim.ite ?_ ?_
    | with_reducible refine Lim.bind ?_ (fun _ => ?_)
theorem impl_evenReefing.F_eq (l0 : List Int) (a1 : Int) : impl_evenReefing.F l0 a1 = (some (([] : List Int) : List Int)).bind fun y189 => (if y189.length + l0.length < 17592186044416 then (impl_evenReefing.L0 a1 l0 (l0.length : Int) 0 (y189 ++ l0) ([] : List Int)) else (none)) := by
  refine Lim.eq (g := fun k => impl_evenReefing.f k l0 a1) ?_
  unfold impl_evenReefing.f
  repeat' first
    | with_reducible exact Lim.const _
    | with_reducible exact impl_evenReefing.L0_lim _ _ _ _ _ _
    | with_reducible refine Lim.ite ?_ ?_
    | with_reducible refine Lim.bind ?_ (fun _ => ?_)

noncomputable def impl_nextReef.J1 (x1 : Int) (x2 : Int) (x201000 : List Int) (x201001 : List Int) : Option (Int) := lim (fun k => impl_nextReef.j1 k x1 x2 x201000 x201001)
theorem impl_nextReef.J1_lim (x1 : Int) (x2 : Int) (x201000 : List Int) (x201001 : List Int) : Lim (fun k => impl_nextReef.j1 k x1 x2 x201000 x201001) (impl_nextReef.J1 x1 x2 x201000 x201001) := Lim.of (fun k => (impl_nextReef.mono_l k).1 x1 x2 x201000 x201001)
noncomputable def impl_nextReef.L1 (x1 : Int) (x2 : Int) (x201000 : List Int) (x201001 : List Int) : Option (Int) := lim (fun k => impl_nextReef.l1 k x1 x2 x201000 x201001)
theorem impl_nextReef.L1_lim (x1 : Int) (x2 : Int) (x201000 : List Int) (x201001 : List Int) : Lim (fun k => impl_nextReef.l1 k x1 x2 x201000 x201001) (impl_nextReef.L1 x1 x2 x201000 x201001) := Lim.of (fun k => (impl_nextReef.mono_l k).2.1 x1 x2 x201000 x201001)
noncomputable def impl_nextReef.L0 (x1 : Int) (x2 : Int) (x201000 : List Int) (x201001 : List Int) : Option (Int) := lim (fun k => impl_nextReef.l0 k x1 x2 x201000 x201001)
theorem impl_nextReef.L0_lim (x1 : Int) (x2 : Int) (x201000 : List Int) (x201001 : List Int) : Lim (fun k => impl_nextReef.l0 k x1 x2 x201000 x201001) (impl_nextReef.L0 x1 x2 x201000 x201001) := Lim.of (fun k => (impl_nextReef.mono_l k).2.2 x1 x2 x201000 x201001)
noncomputable def impl_nextReef.F (l0_0 : List Int) (l0_1 : List Int) (a1 : Int) (a2 : Int) : Option (Int) := lim (fun k => impl_nextReef.f k l0_0 l0_1 a1 a2)
theorem impl_nextReef.F_lim (l0_0 : List Int) (l0_1 : List Int) (a1 : Int) (a2 : Int) : Lim (fun k => impl_nextReef.f k l0_0 l0_1 a1 a2) (impl_nextReef.F l0_0 l0_1 a1 a2) := Lim.of (fun k => impl_nextReef.mono l0_0 l0_1 a1 a2 k)
theorem impl_nextReef.J1_eq (x1 : Int) (x2 : Int) (x201000 : List Int) (x201001 : List Int) : impl_nextReef.J1 x1 x2 x201000 x201001 = impl_nextReef.L1 x1 x2 x201000 x201001 := by
  refine Lim.step (f := fun k => impl_nextReef.l1 k x1 x2 x201000 x201001) (fun k => (impl_nextReef.mono_l k).1 x1 x2 x201000 x201001) (fun k => by simp only [impl_nextReef.j1]) ?_
  repeat' first
    | with_reducible exact Lim.const _
    | with_reducible exact impl_nextReef.L1_lim _ _ _ _
    | with_reducible refine Lim.ite ?_ ?_
    | with_reducible refine Lim.bind ?_ (fun _ => ?_)
theorem impl_nextReef.L1_eq (x1 : Int) (x2 : Int) (x201000 : List Int) (x201001 : List Int) : impl_nextReef.L1 x1 x2 x201000 x201001 = if x1 > 0 then (if 0 ≤ (wrap64 (x1 - 1)) then (if (wrap64 (x1 - 1)) < (x201001.length : Int) then (if x2 < (rd x201001 (wrap64 (x1 - 1))) then (impl_nextReef.L1 (wrap64 (x1 - 1)) x2 x201000 x201001) else (some x1)) else (none)) else (none)) else (some x1) := by
  refine Lim.step (f := fun k => if x1 > 0 then (if 0 ≤ (wrap64 (x1 - 1)) then (if (wrap64 (x1 - 1)) < (x201001.length : Int) then (if x2 < (rd x201001 (wrap64 (x1 - 1))) then (impl_nextReef.l1 k (wrap64 (x1 - 1)) x2 x201000 x201001) else (some x1)) else (none)) else (none)) else (some x1)) (fun k => (impl_nextReef.mono_l k).2.1 x1 x2 x201000 x201001) (fun k => by simp only [impl_nextReef.l1]) ?_
  repeat' first
    | with_reducible exact Lim.const _
    | with_reducible exact impl_nextReef.L1_lim _ _ _ _
    | with_reducible refine Lim.ite ?_ ?_
    | with_reducible refine Lim.bind ?_ (fun _ => ?_)
theorem impl_nextReef.L0_eq (x1 : Int) (x2 : Int) (x201000 : List Int) (x201001 : List Int) : impl_nextReef.L0 x1 x2 x201000 x201001 = if x1 < (x201000.length : Int) then (if 0 ≤ x1 then (if x2 ≥ (rd x201000 x1) then (impl_nextReef.L0 (wrap64 (x1 + 1)) x2 x201000 x201001) else (impl_nextReef.J1 x1 x2 x201000 x201001)) else (none)) else (impl_nextReef.J1 x1 x2 x201000 x201001) := by
  refine Lim.step (f := fun k => if x1 < (x201000.length : Int) then (if 0 ≤ x1 then (if x2 ≥ (rd x201000 x1) then (impl_nextReef.l0 k (wrap64 (x1 + 1)) x2 x201000 x201001) else (impl_nextReef.j1 k x1 x2 x201000 x201001)) else (none)) else (impl_nextReef.j1 k x1 x2 x201000 x201001)) (fun k => (impl_nextReef.mono_l k).2.2 x1 x2 x201000 x201001) (fun k => by simp only [impl_nextReef.l0]) ?_
  repeat' first
    | with_reducible exact Lim.const _
    | with_reducible exact impl_nextReef.J1_lim _ _ _ _
    | with_reducible exact impl_nextReef.L0_lim _ _ _ _
    | with_reducible refine Lim.ite ?_ ?_
    | with_reducible refine Lim.bind ?_ (fun _ => ?_)
theorem impl_nextReef.F_eq (l0_0 : List Int) (l0_1 : List Int) (a1 : Int) (a2 : Int) : impl_nextReef.F l0_0 l0_1 a1 a2 = impl_nextReef.L0 a1 a2 l0_0 l0_1 := by
  refine Lim.eq (g := fun k => impl_nextReef.f k l0_0 l0_1 a1 a2) ?_
  unfold impl_nextReef.f
  repeat' first
    | with_reducible exact Lim.const _
    | with_reducible exact impl_nextReef.L0_lim _ _ _ _
    | with_reducible refine Lim.ite ?_ ?_
    | with_reducible refine Lim.bind ?_ (fun _ => ?_)

noncomputable def impl_runReefs.L0 (x1 : Int) (x7 : List Int) (x11 : List Int) (x12 : Int) (x13 : Int) (x204000 : List Int) (x204001 : List Int) : Option (List Int) := lim (fun k => impl_runReefs.l0 k x1 x7 x11 x12 x13 x204000 x204001)
theorem impl_runReefs.L0_lim (x1 : Int) (x7 : List Int) (x11 : List Int) (x12 : Int) (x13 : Int) (x204000 : List Int) (x204001 : List Int) : Lim (fun k => impl_runReefs.l0 k x1 x7 x11 x12 x13 x204000 x204001) (impl_runReefs.L0 x1 x7 x11 x12 x13 x204000 x204001) := Lim.of (fun k => (impl_runReefs.mono_l k) x1 x7 x11 x12 x13 x204000 x204001)
noncomputable def impl_runReefs.F (l0_0 : List Int) (l0_1 : List Int) (a1 : Int) (l2 : List Int) : Option (List Int) := lim (fun k => impl_runReefs.f k l0_0 l0_1 a1 l2)
theorem impl_runReefs.F_lim (l0_0 : List Int) (l0_1 : List Int) (a1 : Int) (l2 : List Int) : Lim (fun k => impl_runReefs.f k l0_0 l0_1 a1 l2) (impl_runReefs.F l0_0 l0_1 a1 l2) := Lim.of (fun k => impl_runReefs.mono l0_0 l0_1 a1 l2 k)
theorem impl_runReefs.L0_eq (x1 : Int) (x7 : List Int) (x11 : List Int) (x12 : Int) (x13 : Int) (x204000 : List Int) (x204001 : List Int) : impl_runReefs.L0 x1 x7 x11 x12 x13 x204000 x204001 = if x13 < x12 then (if 0 ≤ x13 then (if x13 < (x11.length : Int) then ((impl_nextReef.F x204000 x204001 x1 (rd x11 x13)).bind fun t208 => (if x7.length < 17592186044416 then (impl_runReefs.L0 t208 (x7 ++ [t208]) x11 x12 (wrap64 (x13 + 1)) x204000 x204001) else (none))) else (none)) else (none)) else (some x7) := by
  refine Lim.step (f := fun k => if x13 < x12 then (if 0 ≤ x13 then (if x13 < (x11.length : Int) then ((impl_nextReef.f k x204000 x204001 x1 (rd x11 x13)).bind fun t208 => (if x7.length < 17592186044416 then (impl_runReefs.l0 k t208 (x7 ++ [t208]) x11 x12 (wrap64 (x13 + 1)) x204000 x204001) else (none))) else (none)) else (none)) else (some x7)) (fun k => (impl_runReefs.mono_l k) x1 x7 x11 x12 x13 x204000 x204001) (fun k => by simp only [impl_runReefs.l0]) ?_
  repeat' first
    | with_reducible exact Lim.const _
    | with_reducible exact impl_nextReef.F_lim _ _ _ _
    | with_reducible exact impl_runReefs.L0_lim _ _ _ _ _ _ _
    | with_reducible refine Lim.ite ?_ ?_
    | with_reducible refine Lim.bind ?_ (fun _ => ?_)
theorem impl_runReefs.F_eq (l0_0 : List Int) (l0_1 : List Int) (a1 : Int) (l2 : List Int) : impl_runReefs.F l0_0 l0_1 a1 l2 = impl_runReefs.L0 a1 (([] : List Int)) l2 (l2.length : Int) 0 l0_0 l0_1 := by
  refine Lim.eq (g := fun k => impl_runReefs.f k l0_0 l0_1 a1 l2) ?_
  unfold impl_runReefs.f
  repeat' first
    | with_reducible exact Lim.const _
    | with_reducible exact impl_runReefs.L0_lim _ _ _ _ _ _ _
    | with_reducible refine Lim.ite ?_ ?_
    | with_reducible refine Lim.bind ?_ (fun _ => ?_)

noncomputable def impl_countChanges.L0 (x1 : Int) (x7 : Int) (x13 : List Int) (x14 : Int) (x15 : Int) : Option (Int) := lim (fun k => impl_countChanges.l0 k x1 x7 x13 x14 x15)
theorem impl_countChanges.L0_lim (x1 : Int) (x7 : Int) (x13 : List Int) (x14 : Int) (x15 : Int) : Lim (fun k => impl_countChanges.l0 k x1 x7 x13 x14 x15) (impl_countChanges.L0 x1 x7 x13 x14 x15) := Lim.of (fun k => (impl_countChanges.mono_l k) x1 x7 x13 x14 x15)
noncomputable def impl_countChanges.F (l0_0 : List Int) (l0_1 : List Int) (a1 : Int) (l2 : List Int) : Option (Int) := lim (fun k => impl_countChanges.f k l0_0 l0_1 a1 l2)
theorem impl_countChanges.F_lim (l0_0 : List Int) (l0_1 : List Int) (a1 : Int) (l2 : List Int) : Lim (fun k => impl_countChanges.f k l0_0 l0_1 a1 l2) (impl_countChanges.F l0_0 l0_1 a1 l2) := Lim.of (fun k => impl_countChanges.mono l0_0 l0_1 a1 l2 k)
theorem impl_countChanges.L0_eq (x1 : Int) (x7 : Int) (x13 : List Int) (x14 : Int) (x15 : Int) : impl_countChanges.L0 x1 x7 x13 x14 x15 = if x15 < x14 then (if 0 ≤ x15 then (if x15 < (x13.length : Int) then (impl_countChanges.L0 (rd x13 x15) (wrap64 (x7 + (mx (wrap64 ((rd x13 x15) - x1)) (wrap64 (x1 - (rd x13 x15)))))) x13 x14 (wrap64 (x15 + 1))) else (none)) else (none)) else (some x7) := by
  refine Lim.step (f := fun k => if x15 < x14 then (if 0 ≤ x15 then (if x15 < (x13.length : Int) then (impl_countChanges.l0 k (rd x13 x15) (wrap64 (x7 + (mx (wrap64 ((rd x13 x15) - x1)) (wrap64 (x1 - (rd x13 x15)))))) x13 x14 (wrap64 (x15 + 1))) else (none)) else (none)) else (some x7)) (fun k => (impl_countChanges.mono_l k) x1 x7 x13 x14 x15) (fun k => by simp only [impl_countChanges.l0]) ?_
  repeat' first
    | with_reducible exact Lim.const _
    | with_reducible exact impl_countChanges.L0_lim _ _ _ _ _
    | with_reducible refine Lim.ite ?_ ?_
    | with_reducible refine Lim.bind ?_ (fun _ => ?_)
theorem impl_countChanges.F_eq (l0_0 : List Int) (l0_1 : List Int) (a1 : Int) (l2 : List Int) : impl_countChanges.F l0_0 l0_1 a1 l2 = (impl_runReefs.F l0_0 l0_1 a1 l2).bind fun t213 => (impl_countChanges.L0 a1 0 t213 (t213.length : Int) 0) := by
  refine Lim.eq (g := fun k => impl_countChanges.f k l0_0 l0_1 a1 l2) ?_
  unfold impl_countChanges.f
  repeat' first
    | with_reducible exact Lim.const _
    | with_reducible exact impl_countChanges.L0_lim _ _ _ _ _
    | with_reducible exact impl_runReefs.F_lim _ _ _ _
    | with_reducible refine Lim.ite ?_ ?_
    | with_reducible refine Lim.bind ?_ (fun _ => ?_)

noncomputable def impl_LeastGap.L0 (x0 : List Int) (x1 : Int) (x2 : List Int) (x3 : Int) (x11 : Int) : Option (Int × Int) := lim (fun k => impl_LeastGap.l0 k x0 x1 x2 x3 x11)
theorem impl_LeastGap.L0_lim (x0 : List Int) (x1 : Int) (x2 : List Int) (x3 : Int) (x11 : Int) : Lim (fun k => impl_LeastGap.l0 k x0 x1 x2 x3 x11) (impl_LeastGap.L0 x0 x1 x2 x3 x11) := Lim.of (fun k => (impl_LeastGap.mono_l k) x0 x1 x2 x3 x11)
noncomputable def impl_LeastGap.F (l0 : List Int) (a1 : Int) (l2 : List Int) (a3 : Int) : Option (Int × Int) := lim (fun k => impl_LeastGap.f k l0 a1 l2 a3)
theorem impl_LeastGap.F_lim (l0 : List Int) (a1 : Int) (l2 : List Int) (a3 : Int) : Lim (fun k => impl_LeastGap.f k l0 a1 l2 a3) (impl_LeastGap.F l0 a1 l2 a3) := Lim.of (fun k => impl_LeastGap.mono l0 a1 l2 a3 k)
theorem impl_LeastGap.L0_eq (x0 : List Int) (x1 : Int) (x2 : List Int) (x3 : Int) (x11 : Int) : impl_LeastGap.L0 x0 x1 x2 x3 x11 = if x11 ≤ 600 then ((impl_evenReefing.F x0 x11).bind fun bt219 => (if bt219.2.2 = true then ((impl_countChanges.F bt219.1 bt219.2.1 x1 x2).bind fun t227 => (if t227 ≤ x3 then (some (x11, 0)) else (impl_LeastGap.L0 x0 x1 x2 x3 (wrap64 (x11 + 1))))) else (impl_LeastGap.L0 x0 x1 x2 x3 (wrap64 (x11 + 1))))) else (some (0, 3)) := by
  refine Lim.step (f := fun k => if x11 ≤ 600 then ((impl_evenReefing.f k x0 x11).bind fun bt219 => (if bt219.2.2 = true then ((impl_countChanges.f k bt219.1 bt219.2.1 x1 x2).bind fun t227 => (if t227 ≤ x3 then (some (x11, 0)) else (impl_LeastGap.l0 k x0 x1 x2 x3 (wrap64 (x11 + 1))))) else (impl_LeastGap.l0 k x0 x1 x2 x3 (wrap64 (x11 + 1))))) else (some (0, 3))) (fun k => (impl_LeastGap.mono_l k) x0 x1 x2 x3 x11) (fun k => by simp only [impl_LeastGap.l0]) ?_
  repeat' first
    | with_reducible exact Lim.const _
    | with_reducible exact impl_LeastGap.L0_lim _ _ _ _ _
    | with_reducible exact impl_countChanges.F_lim _ _ _ _
    | with_reducible exact impl_evenReefing.F_lim _ _
    | with_reducible refine Lim.ite ?_ ?_
    | with_reducible refine Lim.bind ?_ (fun _ => ?_)
theorem impl_LeastGap.F_eq (l0 : List Int) (a1 : Int) (l2 : List Int) (a3 : Int) : impl_LeastGap.F l0 a1 l2 a3 = (impl_reefCode.F l0 l0 a1 l2).bind fun t217 => (if t217 = 0 then ((impl_within.f a3 0 360).bind fun t218 => (if t218 = true then (impl_LeastGap.L0 l0 a1 l2 a3 0) else (some (0, 2)))) else (some (0, t217))) := by
  refine Lim.eq (g := fun k => impl_LeastGap.f k l0 a1 l2 a3) ?_
  unfold impl_LeastGap.f
  repeat' first
    | with_reducible exact Lim.const _
    | with_reducible exact impl_LeastGap.L0_lim _ _ _ _ _
    | with_reducible exact impl_reefCode.F_lim _ _ _ _
    | with_reducible refine Lim.ite ?_ ?_
    | with_reducible refine Lim.bind ?_ (fun _ => ?_)

noncomputable def spec_l00Rises.L0 (x0 : List Int) (x1 : Int) (x2 : Int) (x7 : Int) : Option (Bool) := lim (fun k => spec_l00Rises.l0 k x0 x1 x2 x7)
theorem spec_l00Rises.L0_lim (x0 : List Int) (x1 : Int) (x2 : Int) (x7 : Int) : Lim (fun k => spec_l00Rises.l0 k x0 x1 x2 x7) (spec_l00Rises.L0 x0 x1 x2 x7) := Lim.of (fun k => (spec_l00Rises.mono_l k) x0 x1 x2 x7)
noncomputable def spec_l00Rises.F (l0 : List Int) (a1 : Int) (a2 : Int) : Option (Bool) := lim (fun k => spec_l00Rises.f k l0 a1 a2)
theorem spec_l00Rises.F_lim (l0 : List Int) (a1 : Int) (a2 : Int) : Lim (fun k => spec_l00Rises.f k l0 a1 a2) (spec_l00Rises.F l0 a1 a2) := Lim.of (fun k => spec_l00Rises.mono l0 a1 a2 k)
theorem spec_l00Rises.L0_eq (x0 : List Int) (x1 : Int) (x2 : Int) (x7 : Int) : spec_l00Rises.L0 x0 x1 x2 x7 = if x7 < (x0.length : Int) then (if 0 ≤ x7 then ((spec_l00In.f (rd x0 x7) x1 x2).bind fun t229 => (if t229 = true then (if x7 > 0 then (if 0 ≤ (wrap64 (x7 - 1)) then (if (wrap64 (x7 - 1)) < (x0.length : Int) then (if (rd x0 (wrap64 (x7 - 1))) ≥ (rd x0 x7) then (some false) else (spec_l00Rises.L0 x0 x1 x2 (wrap64 (x7 + 1)))) else (none)) else (none)) else (spec_l00Rises.L0 x0 x1 x2 (wrap64 (x7 + 1)))) else (some false))) else (none)) else (some true) := by
  refine Lim.step (f := fun k => if x7 < (x0.length : Int) then (if 0 ≤ x7 then ((spec_l00In.f (rd x0 x7) x1 x2).bind fun t229 => (if t229 = true then (if x7 > 0 then (if 0 ≤ (wrap64 (x7 - 1)) then (if (wrap64 (x7 - 1)) < (x0.length : Int) then (if (rd x0 (wrap64 (x7 - 1))) ≥ (rd x0 x7) then (some false) else (spec_l00Rises.l0 k x0 x1 x2 (wrap64 (x7 + 1)))) else (none)) else (none)) else (spec_l00Rises.l0 k x0 x1 x2 (wrap64 (x7 + 1)))) else (some false))) else (none)) else (some true)) (fun k => (spec_l00Rises.mono_l k) x0 x1 x2 x7) (fun k => by simp only [spec_l00Rises.l0]) ?_
  repeat' first
    | with_reducible exact Lim.const _
    | with_reducible exact spec_l00Rises.L0_lim _ _ _ _
    | with_reducible refine Lim.ite ?_ ?_
    | with_reducible refine Lim.bind ?_ (fun _ => ?_)
theorem spec_l00Rises.F_eq (l0 : List Int) (a1 : Int) (a2 : Int) : spec_l00Rises.F l0 a1 a2 = spec_l00Rises.L0 l0 a1 a2 0 := by
  refine Lim.eq (g := fun k => spec_l00Rises.f k l0 a1 a2) ?_
  unfold spec_l00Rises.f
  repeat' first
    | with_reducible exact Lim.const _
    | with_reducible exact spec_l00Rises.L0_lim _ _ _ _
    | with_reducible refine Lim.ite ?_ ?_
    | with_reducible refine Lim.bind ?_ (fun _ => ?_)

noncomputable def spec_l18In.F (l0 : List Int) : Option (Bool) := lim (fun k => spec_l18In.f k l0)
theorem spec_l18In.F_lim (l0 : List Int) : Lim (fun k => spec_l18In.f k l0) (spec_l18In.F l0) := Lim.of (fun k => spec_l18In.mono l0 k)
theorem spec_l18In.F_eq (l0 : List Int) : spec_l18In.F l0 = if (l0.length : Int) ≤ 6 then ((spec_l00Rises.F l0 1 600).bind fun t232 => (some t232)) else (some false) := by
  refine Lim.eq (g := fun k => spec_l18In.f k l0) ?_
  unfold spec_l18In.f
  repeat' first
    | with_reducible exact Lim.const _
    | with_reducible exact spec_l00Rises.F_lim _ _ _
    | with_reducible refine Lim.ite ?_ ?_
    | with_reducible refine Lim.bind ?_ (fun _ => ?_)

noncomputable def spec_l18Even.L0 (x0 : List Int) (x1 : Int) (x7 : Int) (x248000 : List Int) (x248001 : List Int) : Option (List Int × List Int × Bool) := lim (fun k => spec_l18Even.l0 k x0 x1 x7 x248000 x248001)
theorem spec_l18Even.L0_lim (x0 : List Int) (x1 : Int) (x7 : Int) (x248000 : List Int) (x248001 : List Int) : Lim (fun k => spec_l18Even.l0 k x0 x1 x7 x248000 x248001) (spec_l18Even.L0 x0 x1 x7 x248000 x248001) := Lim.of (fun k => (spec_l18Even.mono_l k) x0 x1 x7 x248000 x248001)
noncomputable def spec_l18Even.F (l0 : List Int) (a1 : Int) : Option (List Int × List Int × Bool) := lim (fun k => spec_l18Even.f k l0 a1)
theorem spec_l18Even.F_lim (l0 : List Int) (a1 : Int) : Lim (fun k => spec_l18Even.f k l0 a1) (spec_l18Even.F l0 a1) := Lim.of (fun k => spec_l18Even.mono l0 a1 k)
theorem spec_l18Even.L0_eq (x0 : List Int) (x1 : Int) (x7 : Int) (x248000 : List Int) (x248001 : List Int) : spec_l18Even.L0 x0 x1 x7 x248000 x248001 = if x7 < (x0.length : Int) then (if 0 ≤ x7 then (if (rd x0 x7) < x1 then (some (([] : List Int), ([] : List Int), false)) else (if x248001.length < 17592186044416 then (spec_l18Even.L0 x0 x1 (wrap64 (x7 + 1)) x248000 (x248001 ++ [wrap64 ((rd x0 x7) - x1)])) else (none))) else (none)) else (some (x248000, x248001, true)) := by
  refine Lim.step (f := fun k => if x7 < (x0.length : Int) then (if 0 ≤ x7 then (if (rd x0 x7) < x1 then (some (([] : List Int), ([] : List Int), false)) else (if x248001.length < 17592186044416 then (spec_l18Even.l0 k x0 x1 (wrap64 (x7 + 1)) x248000 (x248001 ++ [wrap64 ((rd x0 x7) - x1)])) else (none))) else (none)) else (some (x248000, x248001, true))) (fun k => (spec_l18Even.mono_l k) x0 x1 x7 x248000 x248001) (fun k => by simp only [spec_l18Even.l0]) ?_
  repeat' first
    | with_reducible exact Lim.const _
    | with_reducible exact spec_l18Even.L0_lim _ _ _ _ _
    | with_reducible refine Lim.ite ?_ ?_
    | with_reducible refine Lim.bind ?_ (fun _ => ?_)
theorem spec_l18Even.F_eq (l0 : List Int) (a1 : Int) : spec_l18Even.F l0 a1 = (spec_l00Own.f l0).bind fun t241 => (spec_l18Even.L0 l0 a1 0 t241 (([] : List Int))) := by
  refine Lim.eq (g := fun k => spec_l18Even.f k l0 a1) ?_
  unfold spec_l18Even.f
  repeat' first
    | with_reducible exact Lim.const _
    | with_reducible exact spec_l18Even.L0_lim _ _ _ _ _
    | with_reducible refine Lim.ite ?_ ?_
    | with_reducible refine Lim.bind ?_ (fun _ => ?_)

noncomputable def spec_EvenReefing.F (l0 : List Int) (a1 : Int) : Option (List Int × List Int × Int) := lim (fun k => spec_EvenReefing.f k l0 a1)
theorem spec_EvenReefing.F_lim (l0 : List Int) (a1 : Int) : Lim (fun k => spec_EvenReefing.f k l0 a1) (spec_EvenReefing.F l0 a1) := Lim.of (fun k => spec_EvenReefing.mono l0 a1 k)
theorem spec_EvenReefing.F_eq (l0 : List Int) (a1 : Int) : spec_EvenReefing.F l0 a1 = (spec_l18In.F l0).bind fun t254 => (if t254 = true then ((spec_l18Wind.f a1).bind fun t255 => (if t255 = true then ((spec_l18Even.F l0 a1).bind fun bt256 => (if bt256.2.2 = true then (some (bt256.1, bt256.2.1, 0)) else (some (([] : List Int), ([] : List Int), 6)))) else (some (([] : List Int), ([] : List Int), 2)))) else (some (([] : List Int), ([] : List Int), 1))) := by
  refine Lim.eq (g := fun k => spec_EvenReefing.f k l0 a1) ?_
  unfold spec_EvenReefing.f
  repeat' first
    | with_reducible exact Lim.const _
    | with_reducible exact spec_l18Even.F_lim _ _
    | with_reducible exact spec_l18In.F_lim _
    | with_reducible refine Lim.ite ?_ ?_
    | with_reducible refine Lim.bind ?_ (fun _ => ?_)

noncomputable def spec_l18Ok.J0 (x0 : List (S28)) (x3 : Int) (x36 : Bool) : Option (Bool) := lim (fun k => spec_l18Ok.j0 k x0 x3 x36)
theorem spec_l18Ok.J0_lim (x0 : List (S28)) (x3 : Int) (x36 : Bool) : Lim (fun k => spec_l18Ok.j0 k x0 x3 x36) (spec_l18Ok.J0 x0 x3 x36) := Lim.of (fun k => (spec_l18Ok.mono_l k).1 x0 x3 x36)
noncomputable def spec_l18Ok.L0 (x0 : List (S28)) (x3 : Int) (x4 : Int) : Option (Bool) := lim (fun k => spec_l18Ok.l0 k x0 x3 x4)
theorem spec_l18Ok.L0_lim (x0 : List (S28)) (x3 : Int) (x4 : Int) : Lim (fun k => spec_l18Ok.l0 k x0 x3 x4) (spec_l18Ok.L0 x0 x3 x4) := Lim.of (fun k => (spec_l18Ok.mono_l k).2 x0 x3 x4)
noncomputable def spec_l18Ok.F (l0 : List (S28)) : Option (Bool) := lim (fun k => spec_l18Ok.f k l0)
theorem spec_l18Ok.F_lim (l0 : List (S28)) : Lim (fun k => spec_l18Ok.f k l0) (spec_l18Ok.F l0) := Lim.of (fun k => spec_l18Ok.mono l0 k)
theorem spec_l18Ok.J0_eq (x0 : List (S28)) (x3 : Int) (x36 : Bool) : spec_l18Ok.J0 x0 x3 x36 = if x36 = true then (some false) else (spec_l18Ok.L0 x0 x3 0) := by
  refine Lim.step (f := fun k => if x36 = true then (some false) else (spec_l18Ok.l0 k x0 x3 0)) (fun k => (spec_l18Ok.mono_l k).1 x0 x3 x36) (fun k => by simp only [spec_l18Ok.j0]) ?_
  repeat' first
    | with_reducible exact Lim.const _
    | with_reducible exact spec_l18Ok.L0_lim _ _ _
    | with_reducible refine Lim.ite ?_ ?_
    | with_reducible refine Lim.bind ?_ (fun _ => ?_)
theorem spec_l18Ok.L0_eq (x0 : List (S28)) (x3 : Int) (x4 : Int) : spec_l18Ok.L0 x0 x3 x4 = if x4 < x3 then (if 0 ≤ x4 then (if x4 < (((rd_T28 x0 0).f1).length : Int) then (if x4 < (((rd_T28 x0 0).f0).length : Int) then (if (rd ((rd_T28 x0 0).f1) x4) > (rd ((rd_T28 x0 0).f0) x4) then (some false) else (spec_l18Ok.L0 x0 x3 (wrap64 (x4 + 1)))) else (none)) else (none)) else (none)) else (some true) := by
  refine Lim.step (f := fun k => if x4 < x3 then (if 0 ≤ x4 then (if x4 < (((rd_T28 x0 0).f1).length : Int) then (if x4 < (((rd_T28 x0 0).f0).length : Int) then (if (rd ((rd_T28 x0 0).f1) x4) > (rd ((rd_T28 x0 0).f0) x4) then (some false) else (spec_l18Ok.l0 k x0 x3 (wrap64 (x4 + 1)))) else (none)) else (none)) else (none)) else (some true)) (fun k => (spec_l18Ok.mono_l k).2 x0 x3 x4) (fun k => by simp only [spec_l18Ok.l0]) ?_
  repeat' first
    | with_reducible exact Lim.const _
    | with_reducible exact spec_l18Ok.L0_lim _ _ _
    | with_reducible refine Lim.ite ?_ ?_
    | with_reducible refine Lim.bind ?_ (fun _ => ?_)
theorem spec_l18Ok.F_eq (l0 : List (S28)) : spec_l18Ok.F l0 = if 0 < (l0.length : Int) then (if (((rd_T28 l0 0).f1).length : Int) = (((rd_T28 l0 0).f0).length : Int) then (if (((rd_T28 l0 0).f0).length : Int) > 6 then (spec_l18Ok.J0 l0 (((rd_T28 l0 0).f0).length : Int) true) else ((spec_l00Rises.F ((rd_T28 l0 0).f0) 1 600).bind fun t268 => (if t268 = true then ((spec_l00Rises.F ((rd_T28 l0 0).f1) 0 600).bind fun t270 => (spec_l18Ok.J0 l0 (((rd_T28 l0 0).f0).length : Int) (!t270))) else (spec_l18Ok.J0 l0 (((rd_T28 l0 0).f0).length : Int) true)))) else (spec_l18Ok.J0 l0 (((rd_T28 l0 0).f0).length : Int) true)) else (none) := by
  refine Lim.eq (g := fun k => spec_l18Ok.f k l0) ?_
  unfold spec_l18Ok.f
  repeat' first
    | with_reducible exact Lim.const _
    | with_reducible exact spec_l00Rises.F_lim _ _ _
    | with_reducible exact spec_l18Ok.J0_lim _ _ _
    | with_reducible refine Lim.ite ?_ ?_
    | with_reducible refine Lim.bind ?_ (fun _ => ?_)

noncomputable def spec_l18Winds.L0 (x0 : List Int) (x3 : Int) : Option (Bool) := lim (fun k => spec_l18Winds.l0 k x0 x3)
theorem spec_l18Winds.L0_lim (x0 : List Int) (x3 : Int) : Lim (fun k => spec_l18Winds.l0 k x0 x3) (spec_l18Winds.L0 x0 x3) := Lim.of (fun k => (spec_l18Winds.mono_l k) x0 x3)
noncomputable def spec_l18Winds.F (l0 : List Int) : Option (Bool) := lim (fun k => spec_l18Winds.f k l0)
theorem spec_l18Winds.F_lim (l0 : List Int) : Lim (fun k => spec_l18Winds.f k l0) (spec_l18Winds.F l0) := Lim.of (fun k => spec_l18Winds.mono l0 k)
theorem spec_l18Winds.L0_eq (x0 : List Int) (x3 : Int) : spec_l18Winds.L0 x0 x3 = if x3 < (x0.length : Int) then (if 0 ≤ x3 then ((spec_l18Wind.f (rd x0 x3)).bind fun t276 => (if t276 = true then (spec_l18Winds.L0 x0 (wrap64 (x3 + 1))) else (some false))) else (none)) else (some (decide ((x0.length : Int) ≤ 60))) := by
  refine Lim.step (f := fun k => if x3 < (x0.length : Int) then (if 0 ≤ x3 then ((spec_l18Wind.f (rd x0 x3)).bind fun t276 => (if t276 = true then (spec_l18Winds.l0 k x0 (wrap64 (x3 + 1))) else (some false))) else (none)) else (some (decide ((x0.length : Int) ≤ 60)))) (fun k => (spec_l18Winds.mono_l k) x0 x3) (fun k => by simp only [spec_l18Winds.l0]) ?_
  repeat' first
    | with_reducible exact Lim.const _
    | with_reducible exact spec_l18Winds.L0_lim _ _
    | with_reducible refine Lim.ite ?_ ?_
    | with_reducible refine Lim.bind ?_ (fun _ => ?_)
theorem spec_l18Winds.F_eq (l0 : List Int) : spec_l18Winds.F l0 = spec_l18Winds.L0 l0 0 := by
  refine Lim.eq (g := fun k => spec_l18Winds.f k l0) ?_
  unfold spec_l18Winds.f
  repeat' first
    | with_reducible exact Lim.const _
    | with_reducible exact spec_l18Winds.L0_lim _ _
    | with_reducible refine Lim.ite ?_ ?_
    | with_reducible refine Lim.bind ?_ (fun _ => ?_)

noncomputable def spec_l18Code.F (l0 : List (S28)) (a1 : Int) (l2 : List Int) : Option (Int) := lim (fun k => spec_l18Code.f k l0 a1 l2)
theorem spec_l18Code.F_lim (l0 : List (S28)) (a1 : Int) (l2 : List Int) : Lim (fun k => spec_l18Code.f k l0 a1 l2) (spec_l18Code.F l0 a1 l2) := Lim.of (fun k => spec_l18Code.mono l0 a1 l2 k)
theorem spec_l18Code.F_eq (l0 : List (S28)) (a1 : Int) (l2 : List Int) : spec_l18Code.F l0 a1 l2 = if 0 < (l0.length : Int) then ((spec_l18Ok.F l0).bind fun t278 => (if t278 = true then ((spec_l00In.f a1 0 (((rd_T28 l0 0).f0).length : Int)).bind fun t280 => (if t280 = true then ((spec_l18Winds.F l2).bind fun t281 => (if t281 = true then (some 0) else (some 2))) else (some 2))) else (some 1))) else (none) := by
  refine Lim.eq (g := fun k => spec_l18Code.f k l0 a1 l2) ?_
  unfold spec_l18Code.f
  repeat' first
    | with_reducible exact Lim.const _
    | with_reducible exact spec_l18Ok.F_lim _
    | with_reducible exact spec_l18Winds.F_lim _
    | with_reducible refine Lim.ite ?_ ?_
    | with_reducible refine Lim.bind ?_ (fun _ => ?_)

noncomputable def spec_l18Next.J1 (x0 : List (S28)) (x1 : Int) (x2 : Int) : Option (Int) := lim (fun k => spec_l18Next.j1 k x0 x1 x2)
theorem spec_l18Next.J1_lim (x0 : List (S28)) (x1 : Int) (x2 : Int) : Lim (fun k => spec_l18Next.j1 k x0 x1 x2) (spec_l18Next.J1 x0 x1 x2) := Lim.of (fun k => (spec_l18Next.mono_l k).1 x0 x1 x2)
noncomputable def spec_l18Next.L1 (x0 : List (S28)) (x1 : Int) (x2 : Int) : Option (Int) := lim (fun k => spec_l18Next.l1 k x0 x1 x2)
theorem spec_l18Next.L1_lim (x0 : List (S28)) (x1 : Int) (x2 : Int) : Lim (fun k => spec_l18Next.l1 k x0 x1 x2) (spec_l18Next.L1 x0 x1 x2) := Lim.of (fun k => (spec_l18Next.mono_l k).2.1 x0 x1 x2)
noncomputable def spec_l18Next.L0 (x0 : List (S28)) (x1 : Int) (x2 : Int) : Option (Int) := lim (fun k => spec_l18Next.l0 k x0 x1 x2)
theorem spec_l18Next.L0_lim (x0 : List (S28)) (x1 : Int) (x2 : Int) : Lim (fun k => spec_l18Next.l0 k x0 x1 x2) (spec_l18Next.L0 x0 x1 x2) := Lim.of (fun k => (spec_l18Next.mono_l k).2.2 x0 x1 x2)
noncomputable def spec_l18Next.F (l0 : List (S28)) (a1 : Int) (a2 : Int) : Option (Int) := lim (fun k => spec_l18Next.f k l0 a1 a2)
theorem spec_l18Next.F_lim (l0 : List (S28)) (a1 : Int) (a2 : Int) : Lim (fun k => spec_l18Next.f k l0 a1 a2) (spec_l18Next.F l0 a1 a2) := Lim.of (fun k => spec_l18Next.mono l0 a1 a2 k)
theorem spec_l18Next.J1_eq (x0 : List (S28)) (x1 : Int) (x2 : Int) : spec_l18Next.J1 x0 x1 x2 = spec_l18Next.L1 x0 x1 x2 := by
  refine Lim.step (f := fun k => spec_l18Next.l1 k x0 x1 x2) (fun k => (spec_l18Next.mono_l k).1 x0 x1 x2) (fun k => by simp only [spec_l18Next.j1]) ?_
  repeat' first
    | with_reducible exact Lim.const _
    | with_reducible exact spec_l18Next.L1_lim _ _ _
    | with_reducible refine Lim.ite ?_ ?_
    | with_reducible refine Lim.bind ?_ (fun _ => ?_)
theorem spec_l18Next.L1_eq (x0 : List (S28)) (x1 : Int) (x2 : Int) : spec_l18Next.L1 x0 x1 x2 = if x1 > 0 then (if 0 ≤ (wrap64 (x1 - 1)) then (if (wrap64 (x1 - 1)) < (((rd_T28 x0 0).f1).length : Int) then (if x2 < (rd ((rd_T28 x0 0).f1) (wrap64 (x1 - 1))) then (spec_l18Next.L1 x0 (wrap64 (x1 - 1)) x2) else (some x1)) else (none)) else (none)) else (some x1) := by
  refine Lim.step (f := fun k => if x1 > 0 then (if 0 ≤ (wrap64 (x1 - 1)) then (if (wrap64 (x1 - 1)) < (((rd_T28 x0 0).f1).length : Int) then (if x2 < (rd ((rd_T28 x0 0).f1) (wrap64 (x1 - 1))) then (spec_l18Next.l1 k x0 (wrap64 (x1 - 1)) x2) else (some x1)) else (none)) else (none)) else (some x1)) (fun k => (spec_l18Next.mono_l k).2.1 x0 x1 x2) (fun k => by simp only [spec_l18Next.l1]) ?_
  repeat' first
    | with_reducible exact Lim.const _
    | with_reducible exact spec_l18Next.L1_lim _ _ _
    | with_reducible refine Lim.ite ?_ ?_
    | with_reducible refine Lim.bind ?_ (fun _ => ?_)
theorem spec_l18Next.L0_eq (x0 : List (S28)) (x1 : Int) (x2 : Int) : spec_l18Next.L0 x0 x1 x2 = if x1 < (((rd_T28 x0 0).f0).length : Int) then (if 0 ≤ x1 then (if x2 ≥ (rd ((rd_T28 x0 0).f0) x1) then (spec_l18Next.L0 x0 (wrap64 (x1 + 1)) x2) else (spec_l18Next.J1 x0 x1 x2)) else (none)) else (spec_l18Next.J1 x0 x1 x2) := by
  refine Lim.step (f := fun k => if x1 < (((rd_T28 x0 0).f0).length : Int) then (if 0 ≤ x1 then (if x2 ≥ (rd ((rd_T28 x0 0).f0) x1) then (spec_l18Next.l0 k x0 (wrap64 (x1 + 1)) x2) else (spec_l18Next.j1 k x0 x1 x2)) else (none)) else (spec_l18Next.j1 k x0 x1 x2)) (fun k => (spec_l18Next.mono_l k).2.2 x0 x1 x2) (fun k => by simp only [spec_l18Next.l0]) ?_
  repeat' first
    | with_reducible exact Lim.const _
    | with_reducible exact spec_l18Next.J1_lim _ _ _
    | with_reducible exact spec_l18Next.L0_lim _ _ _
    | with_reducible refine Lim.ite ?_ ?_
    | with_reducible refine Lim.bind ?_ (fun _ => ?_)
theorem spec_l18Next.F_eq (l0 : List (S28)) (a1 : Int) (a2 : Int) : spec_l18Next.F l0 a1 a2 = if 0 < (l0.length : Int) then (spec_l18Next.L0 l0 a1 a2) else (none) := by
  refine Lim.eq (g := fun k => spec_l18Next.f k l0 a1 a2) ?_
  unfold spec_l18Next.f
  repeat' first
    | with_reducible exact Lim.const _
    | with_reducible exact spec_l18Next.L0_lim _ _ _
    | with_reducible refine Lim.ite ?_ ?_
    | with_reducible refine Lim.bind ?_ (fun _ => ?_)

noncomputable def spec_l18Run.L0 (x0 : List (S28)) (x1 : Int) (x2 : List Int) (x7 : List Int) (x8 : Int) : Option (List Int) := lim (fun k => spec_l18Run.l0 k x0 x1 x2 x7 x8)
theorem spec_l18Run.L0_lim (x0 : List (S28)) (x1 : Int) (x2 : List Int) (x7 : List Int) (x8 : Int) : Lim (fun k => spec_l18Run.l0 k x0 x1 x2 x7 x8) (spec_l18Run.L0 x0 x1 x2 x7 x8) := Lim.of (fun k => (spec_l18Run.mono_l k) x0 x1 x2 x7 x8)
noncomputable def spec_l18Run.F (l0 : List (S28)) (a1 : Int) (l2 : List Int) : Option (List Int) := lim (fun k => spec_l18Run.f k l0 a1 l2)
theorem spec_l18Run.F_lim (l0 : List (S28)) (a1 : Int) (l2 : List Int) : Lim (fun k => spec_l18Run.f k l0 a1 l2) (spec_l18Run.F l0 a1 l2) := Lim.of (fun k => spec_l18Run.mono l0 a1 l2 k)
theorem spec_l18Run.L0_eq (x0 : List (S28)) (x1 : Int) (x2 : List Int) (x7 : List Int) (x8 : Int) : spec_l18Run.L0 x0 x1 x2 x7 x8 = if x8 < (x2.length : Int) then (if 0 ≤ x8 then ((spec_l18Next.F x0 x1 (rd x2 x8)).bind fun t293 => (if x7.length < 17592186044416 then (spec_l18Run.L0 x0 t293 x2 (x7 ++ [t293]) (wrap64 (x8 + 1))) else (none))) else (none)) else (some x7) := by
  refine Lim.step (f := fun k => if x8 < (x2.length : Int) then (if 0 ≤ x8 then ((spec_l18Next.f k x0 x1 (rd x2 x8)).bind fun t293 => (if x7.length < 17592186044416 then (spec_l18Run.l0 k x0 t293 x2 (x7 ++ [t293]) (wrap64 (x8 + 1))) else (none))) else (none)) else (some x7)) (fun k => (spec_l18Run.mono_l k) x0 x1 x2 x7 x8) (fun k => by simp only [spec_l18Run.l0]) ?_
  repeat' first
    | with_reducible exact Lim.const _
    | with_reducible exact spec_l18Next.F_lim _ _ _
    | with_reducible exact spec_l18Run.L0_lim _ _ _ _ _
    | with_reducible refine Lim.ite ?_ ?_
    | with_reducible refine Lim.bind ?_ (fun _ => ?_)
theorem spec_l18Run.F_eq (l0 : List (S28)) (a1 : Int) (l2 : List Int) : spec_l18Run.F l0 a1 l2 = if 0 < (l0.length : Int) then (spec_l18Run.L0 l0 a1 l2 (([] : List Int)) 0) else (none) := by
  refine Lim.eq (g := fun k => spec_l18Run.f k l0 a1 l2) ?_
  unfold spec_l18Run.f
  repeat' first
    | with_reducible exact Lim.const _
    | with_reducible exact spec_l18Run.L0_lim _ _ _ _ _
    | with_reducible refine Lim.ite ?_ ?_
    | with_reducible refine Lim.bind ?_ (fun _ => ?_)

noncomputable def spec_l18Changes.L0 (x1 : Int) (x7 : List Int) (x8 : Int) (x9 : Int) : Option (Int) := lim (fun k => spec_l18Changes.l0 k x1 x7 x8 x9)
theorem spec_l18Changes.L0_lim (x1 : Int) (x7 : List Int) (x8 : Int) (x9 : Int) : Lim (fun k => spec_l18Changes.l0 k x1 x7 x8 x9) (spec_l18Changes.L0 x1 x7 x8 x9) := Lim.of (fun k => (spec_l18Changes.mono_l k) x1 x7 x8 x9)
noncomputable def spec_l18Changes.F (l0 : List (S28)) (a1 : Int) (l2 : List Int) : Option (Int) := lim (fun k => spec_l18Changes.f k l0 a1 l2)
theorem spec_l18Changes.F_lim (l0 : List (S28)) (a1 : Int) (l2 : List Int) : Lim (fun k => spec_l18Changes.f k l0 a1 l2) (spec_l18Changes.F l0 a1 l2) := Lim.of (fun k => spec_l18Changes.mono l0 a1 l2 k)
theorem spec_l18Changes.L0_eq (x1 : Int) (x7 : List Int) (x8 : Int) (x9 : Int) : spec_l18Changes.L0 x1 x7 x8 x9 = if x9 < (x7.length : Int) then (if 0 ≤ x9 then ((spec_l00Size.f (wrap64 ((rd x7 x9) - x1))).bind fun t302 => (spec_l18Changes.L0 (rd x7 x9) x7 (wrap64 (x8 + t302)) (wrap64 (x9 + 1)))) else (none)) else (some x8) := by
  refine Lim.step (f := fun k => if x9 < (x7.length : Int) then (if 0 ≤ x9 then ((spec_l00Size.f (wrap64 ((rd x7 x9) - x1))).bind fun t302 => (spec_l18Changes.l0 k (rd x7 x9) x7 (wrap64 (x8 + t302)) (wrap64 (x9 + 1)))) else (none)) else (some x8)) (fun k => (spec_l18Changes.mono_l k) x1 x7 x8 x9) (fun k => by simp only [spec_l18Changes.l0]) ?_
  repeat' first
    | with_reducible exact Lim.const _
    | with_reducible exact spec_l18Changes.L0_lim _ _ _ _
    | with_reducible refine Lim.ite ?_ ?_
    | with_reducible refine Lim.bind ?_ (fun _ => ?_)
theorem spec_l18Changes.F_eq (l0 : List (S28)) (a1 : Int) (l2 : List Int) : spec_l18Changes.F l0 a1 l2 = if 0 < (l0.length : Int) then ((spec_l18Run.F l0 a1 l2).bind fun t298 => (spec_l18Changes.L0 a1 t298 0 0)) else (none) := by
  refine Lim.eq (g := fun k => spec_l18Changes.f k l0 a1 l2) ?_
  unfold spec_l18Changes.f
  repeat' first
    | with_reducible exact Lim.const _
    | with_reducible exact spec_l18Changes.L0_lim _ _ _ _
    | with_reducible exact spec_l18Run.F_lim _ _ _
    | with_reducible refine Lim.ite ?_ ?_
    | with_reducible refine Lim.bind ?_ (fun _ => ?_)

noncomputable def spec_CountChanges.F (l0_0 : List Int) (l0_1 : List Int) (a1 : Int) (l2 : List Int) : Option (Int × Int) := lim (fun k => spec_CountChanges.f k l0_0 l0_1 a1 l2)
theorem spec_CountChanges.F_lim (l0_0 : List Int) (l0_1 : List Int) (a1 : Int) (l2 : List Int) : Lim (fun k => spec_CountChanges.f k l0_0 l0_1 a1 l2) (spec_CountChanges.F l0_0 l0_1 a1 l2) := Lim.of (fun k => spec_CountChanges.mono l0_0 l0_1 a1 l2 k)
theorem spec_CountChanges.F_eq (l0_0 : List Int) (l0_1 : List Int) (a1 : Int) (l2 : List Int) : spec_CountChanges.F l0_0 l0_1 a1 l2 = (spec_l18Code.F [(⟨l0_0, l0_1⟩ : S28)] a1 l2).bind fun t306 => (if t306 = 0 then ((spec_l18Changes.F [(⟨l0_0, l0_1⟩ : S28)] a1 l2).bind fun t308 => (some (t308, 0))) else (some (0, t306))) := by
  refine Lim.eq (g := fun k => spec_CountChanges.f k l0_0 l0_1 a1 l2) ?_
  unfold spec_CountChanges.f
  repeat' first
    | with_reducible exact Lim.const _
    | with_reducible exact spec_l18Changes.F_lim _ _ _
    | with_reducible exact spec_l18Code.F_lim _ _ _
    | with_reducible refine Lim.ite ?_ ?_
    | with_reducible refine Lim.bind ?_ (fun _ => ?_)

noncomputable def impl_EvenReefing.F (l0 : List Int) (a1 : Int) : Option (List Int × List Int × Int) := lim (fun k => impl_EvenReefing.f k l0 a1)
theorem impl_EvenReefing.F_lim (l0 : List Int) (a1 : Int) : Lim (fun k => impl_EvenReefing.f k l0 a1) (impl_EvenReefing.F l0 a1) := Lim.of (fun k => impl_EvenReefing.mono l0 a1 k)
theorem impl_EvenReefing.F_eq (l0 : List Int) (a1 : Int) : impl_EvenReefing.F l0 a1 = (impl_ValidReefing.F l0 l0).bind fun t310 => (if t310 = true then ((impl_within.f a1 0 600).bind fun t311 => (if t311 = true then ((impl_evenReefing.F l0 a1).bind fun bt312 => (if bt312.2.2 = true then (some (bt312.1, bt312.2.1, 0)) else (some (([] : List Int), ([] : List Int), 6)))) else (some (([] : List Int), ([] : List Int), 2)))) else (some (([] : List Int), ([] : List Int), 1))) := by
  refine Lim.eq (g := fun k => impl_EvenReefing.f k l0 a1) ?_
  unfold impl_EvenReefing.f
  repeat' first
    | with_reducible exact Lim.const _
    | with_reducible exact impl_ValidReefing.F_lim _ _
    | with_reducible exact impl_evenReefing.F_lim _ _
    | with_reducible refine Lim.ite ?_ ?_
    | with_reducible refine Lim.bind ?_ (fun _ => ?_)

noncomputable def laws_a2Same.L0 (x0 : List Int) (x1 : List Int) (x5 : Int) : Option (Bool) := lim (fun k => laws_a2Same.l0 k x0 x1 x5)
theorem laws_a2Same.L0_lim (x0 : List Int) (x1 : List Int) (x5 : Int) : Lim (fun k => laws_a2Same.l0 k x0 x1 x5) (laws_a2Same.L0 x0 x1 x5) := Lim.of (fun k => (laws_a2Same.mono_l k) x0 x1 x5)
noncomputable def laws_a2Same.F (l0 : List Int) (l1 : List Int) : Option (Bool) := lim (fun k => laws_a2Same.f k l0 l1)
theorem laws_a2Same.F_lim (l0 : List Int) (l1 : List Int) : Lim (fun k => laws_a2Same.f k l0 l1) (laws_a2Same.F l0 l1) := Lim.of (fun k => laws_a2Same.mono l0 l1 k)
theorem laws_a2Same.L0_eq (x0 : List Int) (x1 : List Int) (x5 : Int) : laws_a2Same.L0 x0 x1 x5 = if x5 < (x0.length : Int) then (if 0 ≤ x5 then (if x5 < (x1.length : Int) then (if (rd x0 x5) = (rd x1 x5) then (laws_a2Same.L0 x0 x1 (wrap64 (x5 + 1))) else (some false)) else (none)) else (none)) else (some true) := by
  refine Lim.step (f := fun k => if x5 < (x0.length : Int) then (if 0 ≤ x5 then (if x5 < (x1.length : Int) then (if (rd x0 x5) = (rd x1 x5) then (laws_a2Same.l0 k x0 x1 (wrap64 (x5 + 1))) else (some false)) else (none)) else (none)) else (some true)) (fun k => (laws_a2Same.mono_l k) x0 x1 x5) (fun k => by simp only [laws_a2Same.l0]) ?_
  repeat' first
    | with_reducible exact Lim.const _
    | with_reducible exact laws_a2Same.L0_lim _ _ _
    | with_reducible refine Lim.ite ?_ ?_
    | with_reducible refine Lim.bind ?_ (fun _ => ?_)
theorem laws_a2Same.F_eq (l0 : List Int) (l1 : List Int) : laws_a2Same.F l0 l1 = if (l0.length : Int) = (l1.length : Int) then (laws_a2Same.L0 l0 l1 0) else (some false) := by
  refine Lim.eq (g := fun k => laws_a2Same.f k l0 l1) ?_
  unfold laws_a2Same.f
  repeat' first
    | with_reducible exact Lim.const _
    | with_reducible exact laws_a2Same.L0_lim _ _ _
    | with_reducible refine Lim.ite ?_ ?_
    | with_reducible refine Lim.bind ?_ (fun _ => ?_)

noncomputable def laws_FnReefGaps.J1 (x9 : Int) (x10 : Int) (x11 : Int) (x330000 : List Int) (x330001 : List Int) : Option (Bool) := lim (fun k => laws_FnReefGaps.j1 k x9 x10 x11 x330000 x330001)
theorem laws_FnReefGaps.J1_lim (x9 : Int) (x10 : Int) (x11 : Int) (x330000 : List Int) (x330001 : List Int) : Lim (fun k => laws_FnReefGaps.j1 k x9 x10 x11 x330000 x330001) (laws_FnReefGaps.J1 x9 x10 x11 x330000 x330001) := Lim.of (fun k => (laws_FnReefGaps.mono_l k).1 x9 x10 x11 x330000 x330001)
noncomputable def laws_FnReefGaps.L0 (x6 : List Int) (x7 : Int) (x8 : Int) (x9 : Int) (x10 : Int) (x11 : Int) (x12 : Int) (x330000 : List Int) (x330001 : List Int) : Option (Bool) := lim (fun k => laws_FnReefGaps.l0 k x6 x7 x8 x9 x10 x11 x12 x330000 x330001)
theorem laws_FnReefGaps.L0_lim (x6 : List Int) (x7 : Int) (x8 : Int) (x9 : Int) (x10 : Int) (x11 : Int) (x12 : Int) (x330000 : List Int) (x330001 : List Int) : Lim (fun k => laws_FnReefGaps.l0 k x6 x7 x8 x9 x10 x11 x12 x330000 x330001) (laws_FnReefGaps.L0 x6 x7 x8 x9 x10 x11 x12 x330000 x330001) := Lim.of (fun k => (laws_FnReefGaps.mono_l k).2 x6 x7 x8 x9 x10 x11 x12 x330000 x330001)
noncomputable def laws_FnReefGaps.F (l0 : List Int) (l1 : List Int) : Option (Bool) := lim (fun k => laws_FnReefGaps.f k l0 l1)
theorem laws_FnReefGaps.F_lim (l0 : List Int) (l1 : List Int) : Lim (fun k => laws_FnReefGaps.f k l0 l1) (laws_FnReefGaps.F l0 l1) := Lim.of (fun k => laws_FnReefGaps.mono l0 l1 k)
theorem laws_FnReefGaps.J1_eq (x9 : Int) (x10 : Int) (x11 : Int) (x330000 : List Int) (x330001 : List Int) : laws_FnReefGaps.J1 x9 x10 x11 x330000 x330001 = if x11 < 0 then (some (x10 == 3)) else ((impl_EvenReefing.F x330000 x11).bind fun bt347 => (if x10 = 0 then (if x9 = x11 then (if bt347.2.2 = 0 then (if (bt347.1.length : Int) = (x330000.length : Int) then (if (bt347.2.1.length : Int) = (x330000.length : Int) then ((laws_a2Same.F bt347.1 x330000).bind fun t355 => (if t355 = true then ((impl_ValidReefing.F bt347.1 bt347.2.1).bind fun t356 => (some t356)) else (some false))) else (some false)) else (some false)) else (some false)) else (some false)) else (some false))) := by
  refine Lim.step (f := fun k => if x11 < 0 then (some (x10 == 3)) else ((impl_EvenReefing.f k x330000 x11).bind fun bt347 => (if x10 = 0 then (if x9 = x11 then (if bt347.2.2 = 0 then (if (bt347.1.length : Int) = (x330000.length : Int) then (if (bt347.2.1.length : Int) = (x330000.length : Int) then ((laws_a2Same.f k bt347.1 x330000).bind fun t355 => (if t355 = true then ((impl_ValidReefing.f k bt347.1 bt347.2.1).bind fun t356 => (some t356)) else (some false))) else (some false)) else (some false)) else (some false)) else (some false)) else (some false)))) (fun k => (laws_FnReefGaps.mono_l k).1 x9 x10 x11 x330000 x330001) (fun k => by simp only [laws_FnReefGaps.j1]) ?_
  repeat' first
    | with_reducible exact Lim.const _
    | with_reducible exact impl_EvenReefing.F_lim _ _
    | with_reducible exact impl_ValidReefing.F_lim _ _
    | with_reducible exact laws_a2Same.F_lim _ _
    | with_reducible refine Lim.ite ?_ ?_
    | with_reducible refine Lim.bind ?_ (fun _ => ?_)
theorem laws_FnReefGaps.L0_eq (x6 : List Int) (x7 : Int) (x8 : Int) (x9 : Int) (x10 : Int) (x11 : Int) (x12 : Int) (x330000 : List Int) (x330001 : List Int) : laws_FnReefGaps.L0 x6 x7 x8 x9 x10 x11 x12 x330000 x330001 = if x12 ≤ 600 then ((spec_EvenReefing.F x330000 x12).bind fun bt337 => (if bt337.2.2 = 0 then ((spec_CountChanges.F bt337.1 bt337.2.1 x7 x6).bind fun bt345 => (if bt345.2 = 0 then (if bt345.1 ≤ x8 then (laws_FnReefGaps.J1 x9 x10 x12 x330000 x330001) else (laws_FnReefGaps.L0 x6 x7 x8 x9 x10 x11 (wrap64 (x12 + 1)) x330000 x330001)) else (laws_FnReefGaps.L0 x6 x7 x8 x9 x10 x11 (wrap64 (x12 + 1)) x330000 x330001))) else (laws_FnReefGaps.J1 x9 x10 x11 x330000 x330001))) else (laws_FnReefGaps.J1 x9 x10 x11 x330000 x330001) := by
  refine Lim.step (f := fun k => if x12 ≤ 600 then ((spec_EvenReefing.f k x330000 x12).bind fun bt337 => (if bt337.2.2 = 0 then ((spec_CountChanges.f k bt337.1 bt337.2.1 x7 x6).bind fun bt345 => (if bt345.2 = 0 then (if bt345.1 ≤ x8 then (laws_FnReefGaps.j1 k x9 x10 x12 x330000 x330001) else (laws_FnReefGaps.l0 k x6 x7 x8 x9 x10 x11 (wrap64 (x12 + 1)) x330000 x330001)) else (laws_FnReefGaps.l0 k x6 x7 x8 x9 x10 x11 (wrap64 (x12 + 1)) x330000 x330001))) else (laws_FnReefGaps.j1 k x9 x10 x11 x330000 x330001))) else (laws_FnReefGaps.j1 k x9 x10 x11 x330000 x330001)) (fun k => (laws_FnReefGaps.mono_l k).2 x6 x7 x8 x9 x10 x11 x12 x330000 x330001) (fun k => by simp only [laws_FnReefGaps.l0]) ?_
  repeat' first
    | with_reducible exact Lim.const _
    | with_reducible exact laws_FnReefGaps.J1_lim _ _ _ _ _
    | with_reducible exact laws_FnReefGaps.L0_lim _ _ _ _ _ _ _ _ _
    | with_reducible exact spec_CountChanges.F_lim _ _ _ _
    | with_reducible exact spec_EvenReefing.F_lim _ _
    | with_reducible refine Lim.ite ?_ ?_
    | with_reducible refine Lim.bind ?_ (fun _ => ?_)
theorem laws_FnReefGaps.F_eq (l0 : List Int) (l1 : List Int) : laws_FnReefGaps.F l0 l1 = (laws_a2Long.f l0 l1).bind fun t322 => (if t322 = true then (some true) else ((spec_A2Reefing.F l0).bind fun bt323 => ((spec_A2Blows.F l1).bind fun t330 => ((laws_a2At.f l1 0 (wrap64 ((bt323.1.length : Int) + 1))).bind fun t333 => ((laws_a2At.f l1 1 8).bind fun t334 => ((impl_LeastGap.F bt323.1 t333 t330 t334).bind fun bt335 => (laws_FnReefGaps.L0 t330 t333 t334 bt335.1 bt335.2 (-1) 0 bt323.1 bt323.2))))))) := by
  refine Lim.eq (g := fun k => laws_FnReefGaps.f k l0 l1) ?_
  unfold laws_FnReefGaps.f
  repeat' first
    | with_reducible exact Lim.const _
    | with_reducible exact impl_LeastGap.F_lim _ _ _ _
    | with_reducible exact laws_FnReefGaps.L0_lim _ _ _ _ _ _ _ _ _
    | with_reducible exact spec_A2Blows.F_lim _
    | with_reducible exact spec_A2Reefing.F_lim _
    | with_reducible refine Lim.ite ?_ ?_
    | with_reducible refine Lim.bind ?_ (fun _ => ?_)

end Go.Proofs.Ytbhijlhlopljmaa.PFnReefGaps
