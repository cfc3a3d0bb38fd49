/-
  Written by a program of this session (wip/tools/lims.py): the printed functions without their bound on rounds.
-/
import Derived.Test.YtlphfgbeeckjnaaPFnFlawsx1
import Derived.Test.YtlphfgbeeckjnaaPFnFlawsx2
import Derived.Test.YtlphfgbeeckjnaaPFnFlawsx3
import Derived.Test.YtlphfgbeeckjnaaPFnFlawsx4
import Derived.Test.YtlphfgbeeckjnaaPFnFlawsx5
import Derived.Test.YtlphfgbeeckjnaaPFnFlawsx6
import Derived.Test.YtlphfgbeeckjnaaPFnFlawsx7
import Derived.Test.YtlphfgbeeckjnaaPFnFlawsx8
import Derived.Test.YtlphfgbeeckjnaaKit
set_option linter.unusedVariables false
set_option linter.unusedSimpArgs false
namespace Go.Proofs.Ytlphfgbeeckjnaa.PFnFlaws
open Go.RowKit Go.Proofs.Ytlphfgbeeckjnaa.Kit Go.Proofs.YtlphfgbeeckjnaaW.PrintWords Go.Proofs.YtlphfgbeeckjnaaW.PrintLast Go.Proofs.YtlphfgbeeckjnaaW.PrintMore

noncomputable def impl_validBolt.J0 (x14 : Bool) (x102000 : Int) (x102001 : List Int) : Option (Bool) := lim (fun k => impl_validBolt.j0 k x14 x102000 x102001)
theorem impl_validBolt.J0_lim (x14 : Bool) (x102000 : Int) (x102001 : List Int) : Lim (fun k => impl_validBolt.j0 k x14 x102000 x102001) (impl_validBolt.J0 x14 x102000 x102001) := Lim.of (fun k => (impl_validBolt.mono_l k).1 x14 x102000 x102001)
noncomputable def impl_validBolt.L0 (x16 : List Int) (x17 x18 x102000 : Int) (x102001 : List Int) : Option (Bool) := lim (fun k => impl_validBolt.l0 k x16 x17 x18 x102000 x102001)
theorem impl_validBolt.L0_lim (x16 : List Int) (x17 x18 x102000 : Int) (x102001 : List Int) : Lim (fun k => impl_validBolt.l0 k x16 x17 x18 x102000 x102001) (impl_validBolt.L0 x16 x17 x18 x102000 x102001) := Lim.of (fun k => (impl_validBolt.mono_l k).2 x16 x17 x18 x102000 x102001)
noncomputable def impl_validBolt.F (a0_0 : Int) (l0_1 : List Int) : Option (Bool) := lim (fun k => impl_validBolt.f k a0_0 l0_1)
theorem impl_validBolt.F_lim (a0_0 : Int) (l0_1 : List Int) : Lim (fun k => impl_validBolt.f k a0_0 l0_1) (impl_validBolt.F a0_0 l0_1) := Lim.of (fun k => impl_validBolt.mono a0_0 l0_1 k)
theorem impl_validBolt.J0_eq (x14 : Bool) (x102000 : Int) (x102001 : List Int) : impl_validBolt.J0 x14 x102000 x102001 = if x14 = true then (some false) else (impl_validBolt.L0 x102001 (x102001.length : Int) 0 x102000 x102001) := by
  refine Lim.next (fun k => (impl_validBolt.mono_l k).1 x14 x102000 x102001) ?_
  simp only [impl_validBolt.j0]
  repeat' with_reducible first | exact Lim.const _ | exact impl_validBolt.L0_lim _ _ _ _ _ | refine Lim.ite ?_ ?_ | refine Lim.bind ?_ (fun _ => ?_)
theorem impl_validBolt.L0_eq (x16 : List Int) (x17 x18 x102000 : Int) (x102001 : List Int) : impl_validBolt.L0 x16 x17 x18 x102000 x102001 = if x18 < x17 then (if 0 ≤ x18 then (if x18 < (x16.length : Int) then ((impl_within.f (rd x16 x18) 1 (wrap64 (x102000 - 1))).bind fun t104 => (if t104 = true then (if x18 > 0 then (if 0 ≤ (wrap64 (x18 - 1)) then (if (wrap64 (x18 - 1)) < (x102001.length : Int) then (if (rd x16 x18) ≤ (rd x102001 (wrap64 (x18 - 1))) then (some false) else (impl_validBolt.L0 x16 x17 (wrap64 (x18 + 1)) x102000 x102001)) else (none)) else (none)) else (impl_validBolt.L0 x16 x17 (wrap64 (x18 + 1)) x102000 x102001)) else (some false))) else (none)) else (none)) else (some true) := by
  refine Lim.next (fun k => (impl_validBolt.mono_l k).2 x16 x17 x18 x102000 x102001) ?_
  simp only [impl_validBolt.l0]
  repeat' with_reducible first | exact Lim.const _ | exact impl_validBolt.L0_lim _ _ _ _ _ | refine Lim.ite ?_ ?_ | refine Lim.bind ?_ (fun _ => ?_)
theorem impl_validBolt.F_eq (a0_0 : Int) (l0_1 : List Int) : impl_validBolt.F a0_0 l0_1 = (impl_within.f a0_0 1 10000).bind fun t102 => (if t102 = true then (impl_validBolt.J0 (decide ((l0_1.length : Int) > 6)) a0_0 l0_1) else (impl_validBolt.J0 true a0_0 l0_1)) := by
  refine Lim.eq (g := fun k => impl_validBolt.f k a0_0 l0_1) ?_
  unfold impl_validBolt.f
  repeat' with_reducible first | exact Lim.const _ | exact impl_validBolt.J0_lim _ _ _ | refine Lim.ite ?_ ?_ | refine Lim.bind ?_ (fun _ => ?_)

noncomputable def impl_soundParts.L0 (x3 : List (List Int)) (x4 : Int) (x9 : List Int) (x10 x11 x107000 : Int) (x107001 : List Int) : Option ((List (List Int))) := lim (fun k => impl_soundParts.l0 k x3 x4 x9 x10 x11 x107000 x107001)
theorem impl_soundParts.L0_lim (x3 : List (List Int)) (x4 : Int) (x9 : List Int) (x10 x11 x107000 : Int) (x107001 : List Int) : Lim (fun k => impl_soundParts.l0 k x3 x4 x9 x10 x11 x107000 x107001) (impl_soundParts.L0 x3 x4 x9 x10 x11 x107000 x107001) := Lim.of (fun k => (impl_soundParts.mono_l k) x3 x4 x9 x10 x11 x107000 x107001)
noncomputable def impl_soundParts.F (a0_0 : Int) (l0_1 : List Int) : Option ((List (List Int))) := lim (fun k => impl_soundParts.f k a0_0 l0_1)
theorem impl_soundParts.F_lim (a0_0 : Int) (l0_1 : List Int) : Lim (fun k => impl_soundParts.f k a0_0 l0_1) (impl_soundParts.F a0_0 l0_1) := Lim.of (fun k => impl_soundParts.mono a0_0 l0_1 k)
theorem impl_soundParts.L0_eq (x3 : List (List Int)) (x4 : Int) (x9 : List Int) (x10 x11 x107000 : Int) (x107001 : List Int) : impl_soundParts.L0 x3 x4 x9 x10 x11 x107000 x107001 = if x11 < x10 then (if 0 ≤ x11 then (if x11 < (x9.length : Int) then (if x3.length < 5864062014805 then (impl_soundParts.L0 (x3 ++ [(([x4, rd x9 x11] : List Int))]) (rd x9 x11) x9 x10 (wrap64 (x11 + 1)) x107000 x107001) else (none)) else (none)) else (none)) else (if x3.length < 5864062014805 then (some (x3 ++ [(([x4, x107000] : List Int))])) else (none)) := by
  refine Lim.next (fun k => (impl_soundParts.mono_l k) x3 x4 x9 x10 x11 x107000 x107001) ?_
  simp only [impl_soundParts.l0]
  repeat' with_reducible first | exact Lim.const _ | exact impl_soundParts.L0_lim _ _ _ _ _ _ _ | refine Lim.ite ?_ ?_ | refine Lim.bind ?_ (fun _ => ?_)
theorem impl_soundParts.F_eq (a0_0 : Int) (l0_1 : List Int) : impl_soundParts.F a0_0 l0_1 = impl_soundParts.L0 (([] : List (List Int))) 0 l0_1 (l0_1.length : Int) 0 a0_0 l0_1 := by
  refine Lim.eq (g := fun k => impl_soundParts.f k a0_0 l0_1) ?_
  unfold impl_soundParts.f
  repeat' with_reducible first | exact Lim.const _ | exact impl_soundParts.L0_lim _ _ _ _ _ _ _ | refine Lim.ite ?_ ?_ | refine Lim.bind ?_ (fun _ => ?_)

noncomputable def impl_SoundParts.F (a0_0 : Int) (l0_1 : List Int) : Option ((List (List Int)) × Int) := lim (fun k => impl_SoundParts.f k a0_0 l0_1)
theorem impl_SoundParts.F_lim (a0_0 : Int) (l0_1 : List Int) : Lim (fun k => impl_SoundParts.f k a0_0 l0_1) (impl_SoundParts.F a0_0 l0_1) := Lim.of (fun k => impl_SoundParts.mono a0_0 l0_1 k)
theorem impl_SoundParts.F_eq (a0_0 : Int) (l0_1 : List Int) : impl_SoundParts.F a0_0 l0_1 = (impl_validBolt.F a0_0 l0_1).bind fun t124 => (if t124 = true then ((impl_soundParts.F a0_0 l0_1).bind fun t125 => (some (t125, 0))) else (some (([] : List (List Int)), 1))) := by
  refine Lim.eq (g := fun k => impl_SoundParts.f k a0_0 l0_1) ?_
  unfold impl_SoundParts.f
  repeat' with_reducible first | exact Lim.const _ | exact impl_soundParts.F_lim _ _ | exact impl_validBolt.F_lim _ _ | refine Lim.ite ?_ ?_ | refine Lim.bind ?_ (fun _ => ?_)

noncomputable def spec_l16New.L0 (x4 x5 : Int) (x1000 : List Int) (x1001 x1002 x144000 : Int) (x144001 : List Int) : Option (Int × List Int × Int × Int) := lim (fun k => spec_l16New.l0 k x4 x5 x1000 x1001 x1002 x144000 x144001)
theorem spec_l16New.L0_lim (x4 x5 : Int) (x1000 : List Int) (x1001 x1002 x144000 : Int) (x144001 : List Int) : Lim (fun k => spec_l16New.l0 k x4 x5 x1000 x1001 x1002 x144000 x144001) (spec_l16New.L0 x4 x5 x1000 x1001 x1002 x144000 x144001) := Lim.of (fun k => (spec_l16New.mono_l k) x4 x5 x1000 x1001 x1002 x144000 x144001)
noncomputable def spec_l16New.F (s0_0 : List Int) (s0_1 s0_2 : Int) : Option (Int × List Int × Int × Int) := lim (fun k => spec_l16New.f k s0_0 s0_1 s0_2)
theorem spec_l16New.F_lim (s0_0 : List Int) (s0_1 s0_2 : Int) : Lim (fun k => spec_l16New.f k s0_0 s0_1 s0_2) (spec_l16New.F s0_0 s0_1 s0_2) := Lim.of (fun k => spec_l16New.mono s0_0 s0_1 s0_2 k)
theorem spec_l16New.L0_eq (x4 x5 : Int) (x1000 : List Int) (x1001 x1002 x144000 : Int) (x144001 : List Int) : spec_l16New.L0 x4 x5 x1000 x1001 x1002 x144000 x144001 = if x5 > 0 then ((spec_l00Src_pick.f x1000 x1001 x1002 (wrap64 (Int.tdiv x144000 2))).bind fun bt147 => (if (wrap64 (x4 + (wrap64 (1 + bt147.1)))) < x144000 then (if x144001.length < 17592186044416 then (spec_l16New.L0 (wrap64 (x4 + (wrap64 (1 + bt147.1)))) (wrap64 (x5 - 1)) x1000 bt147.2.1 bt147.2.2 x144000 (x144001 ++ [wrap64 (x4 + (wrap64 (1 + bt147.1)))])) else (none)) else (spec_l16New.L0 (wrap64 (x4 + (wrap64 (1 + bt147.1)))) (wrap64 (x5 - 1)) x1000 bt147.2.1 bt147.2.2 x144000 x144001))) else (some (x144000, x144001, x1001, x1002)) := by
  refine Lim.next (fun k => (spec_l16New.mono_l k) x4 x5 x1000 x1001 x1002 x144000 x144001) ?_
  simp only [spec_l16New.l0]
  repeat' with_reducible first | exact Lim.const _ | exact spec_l16New.L0_lim _ _ _ _ _ _ _ | refine Lim.ite ?_ ?_ | refine Lim.bind ?_ (fun _ => ?_)
theorem spec_l16New.F_eq (s0_0 : List Int) (s0_1 s0_2 : Int) : spec_l16New.F s0_0 s0_1 s0_2 = (spec_l00Src_pick.f s0_0 s0_1 s0_2 20).bind fun bt137 => ((spec_l00Src_pick.f s0_0 bt137.2.1 bt137.2.2 3).bind fun bt144 => (spec_l16New.L0 0 bt144.1 s0_0 bt144.2.1 bt144.2.2 (wrap64 (20 + (wrap64 (10 * bt137.1)))) (([] : List Int)))) := by
  refine Lim.eq (g := fun k => spec_l16New.f k s0_0 s0_1 s0_2) ?_
  unfold spec_l16New.f
  repeat' with_reducible first | exact Lim.const _ | exact spec_l16New.L0_lim _ _ _ _ _ _ _ | refine Lim.ite ?_ ?_ | refine Lim.bind ?_ (fun _ => ?_)

noncomputable def spec_A2Bolts.L0 (x5 : List (S29)) (x6 : Int) (x157000 : List Int) (x157001 x157002 : Int) : Option ((List (S29)) × List Int) := lim (fun k => spec_A2Bolts.l0 k x5 x6 x157000 x157001 x157002)
theorem spec_A2Bolts.L0_lim (x5 : List (S29)) (x6 : Int) (x157000 : List Int) (x157001 x157002 : Int) : Lim (fun k => spec_A2Bolts.l0 k x5 x6 x157000 x157001 x157002) (spec_A2Bolts.L0 x5 x6 x157000 x157001 x157002) := Lim.of (fun k => (spec_A2Bolts.mono_l k).1 x5 x6 x157000 x157001 x157002)
noncomputable def spec_A2Bolts.L1 (x5 : List (S29)) (x7 : List Int) (x8 : Int) (x157000 : List Int) (x157001 x157002 : Int) : Option ((List (S29)) × List Int) := lim (fun k => spec_A2Bolts.l1 k x5 x7 x8 x157000 x157001 x157002)
theorem spec_A2Bolts.L1_lim (x5 : List (S29)) (x7 : List Int) (x8 : Int) (x157000 : List Int) (x157001 x157002 : Int) : Lim (fun k => spec_A2Bolts.l1 k x5 x7 x8 x157000 x157001 x157002) (spec_A2Bolts.L1 x5 x7 x8 x157000 x157001 x157002) := Lim.of (fun k => (spec_A2Bolts.mono_l k).2 x5 x7 x8 x157000 x157001 x157002)
noncomputable def spec_A2Bolts.F (l0 : List Int) : Option ((List (S29)) × List Int) := lim (fun k => spec_A2Bolts.f k l0)
theorem spec_A2Bolts.F_lim (l0 : List Int) : Lim (fun k => spec_A2Bolts.f k l0) (spec_A2Bolts.F l0) := Lim.of (fun k => spec_A2Bolts.mono l0 k)
theorem spec_A2Bolts.L0_eq (x5 : List (S29)) (x6 : Int) (x157000 : List Int) (x157001 x157002 : Int) : spec_A2Bolts.L0 x5 x6 x157000 x157001 x157002 = if x6 > 0 then ((spec_l16New.F x157000 x157001 x157002).bind fun bt163 => (if x5.length < 4398046511104 then (spec_A2Bolts.L0 (x5 ++ [(⟨bt163.1, bt163.2.1⟩ : S29)]) (wrap64 (x6 - 1)) x157000 bt163.2.2.1 bt163.2.2.2) else (none))) else ((spec_l00Src_pick.f x157000 x157001 x157002 5).bind fun bt175 => (spec_A2Bolts.L1 x5 (([] : List Int)) bt175.1 x157000 bt175.2.1 bt175.2.2)) := by
  refine Lim.next (fun k => (spec_A2Bolts.mono_l k).1 x5 x6 x157000 x157001 x157002) ?_
  simp only [spec_A2Bolts.l0]
  repeat' with_reducible first | exact Lim.const _ | exact spec_A2Bolts.L0_lim _ _ _ _ _ | exact spec_A2Bolts.L1_lim _ _ _ _ _ _ | exact spec_l16New.F_lim _ _ _ | refine Lim.ite ?_ ?_ | refine Lim.bind ?_ (fun _ => ?_)
theorem spec_A2Bolts.L1_eq (x5 : List (S29)) (x7 : List Int) (x8 : Int) (x157000 : List Int) (x157001 x157002 : Int) : spec_A2Bolts.L1 x5 x7 x8 x157000 x157001 x157002 = if x8 > 0 then ((spec_l00Src_pick.f x157000 x157001 x157002 16).bind fun bt178 => (if x7.length < 17592186044416 then (spec_A2Bolts.L1 x5 (x7 ++ [wrap64 (5 * (wrap64 (1 + bt178.1)))]) (wrap64 (x8 - 1)) x157000 bt178.2.1 bt178.2.2) else (none))) else (some (x5, x7)) := by
  refine Lim.next (fun k => (spec_A2Bolts.mono_l k).2 x5 x7 x8 x157000 x157001 x157002) ?_
  simp only [spec_A2Bolts.l1]
  repeat' with_reducible first | exact Lim.const _ | exact spec_A2Bolts.L1_lim _ _ _ _ _ _ | refine Lim.ite ?_ ?_ | refine Lim.bind ?_ (fun _ => ?_)
theorem spec_A2Bolts.F_eq (l0 : List Int) : spec_A2Bolts.F l0 = (spec_l00From.f l0).bind fun bt153 => ((spec_l00Src_pick.f bt153.1 bt153.2.1 bt153.2.2 4).bind fun bt160 => (spec_A2Bolts.L0 (([] : List (S29))) bt160.1 bt153.1 bt160.2.1 bt160.2.2)) := by
  refine Lim.eq (g := fun k => spec_A2Bolts.f k l0) ?_
  unfold spec_A2Bolts.f
  repeat' with_reducible first | exact Lim.const _ | exact spec_A2Bolts.L0_lim _ _ _ _ _ | refine Lim.ite ?_ ?_ | refine Lim.bind ?_ (fun _ => ?_)

noncomputable def impl_partsOfBolts.L0 (x3 : List (S119)) (x9 : List (S29)) (x10 x11 : Int) : Option ((List (S119))) := lim (fun k => impl_partsOfBolts.l0 k x3 x9 x10 x11)
theorem impl_partsOfBolts.L0_lim (x3 : List (S119)) (x9 : List (S29)) (x10 x11 : Int) : Lim (fun k => impl_partsOfBolts.l0 k x3 x9 x10 x11) (impl_partsOfBolts.L0 x3 x9 x10 x11) := Lim.of (fun k => (impl_partsOfBolts.mono_l k).1 x3 x9 x10 x11)
noncomputable def impl_partsOfBolts.L1 (x3 : List (S119)) (x4 : Int) (x9 : List (S29)) (x10 x11 : Int) (x17 : List (List Int)) (x18 x19 : Int) : Option ((List (S119))) := lim (fun k => impl_partsOfBolts.l1 k x3 x4 x9 x10 x11 x17 x18 x19)
theorem impl_partsOfBolts.L1_lim (x3 : List (S119)) (x4 : Int) (x9 : List (S29)) (x10 x11 : Int) (x17 : List (List Int)) (x18 x19 : Int) : Lim (fun k => impl_partsOfBolts.l1 k x3 x4 x9 x10 x11 x17 x18 x19) (impl_partsOfBolts.L1 x3 x4 x9 x10 x11 x17 x18 x19) := Lim.of (fun k => (impl_partsOfBolts.mono_l k).2 x3 x4 x9 x10 x11 x17 x18 x19)
noncomputable def impl_partsOfBolts.F (l0 : List (S29)) : Option ((List (S119))) := lim (fun k => impl_partsOfBolts.f k l0)
theorem impl_partsOfBolts.F_lim (l0 : List (S29)) : Lim (fun k => impl_partsOfBolts.f k l0) (impl_partsOfBolts.F l0) := Lim.of (fun k => impl_partsOfBolts.mono l0 k)
theorem impl_partsOfBolts.L0_eq (x3 : List (S119)) (x9 : List (S29)) (x10 x11 : Int) : impl_partsOfBolts.L0 x3 x9 x10 x11 = if x11 < x10 then (if 0 ≤ x11 then (if x11 < (x9.length : Int) then ((impl_soundParts.F ((rd_T29 x9 x11).f0) ((rd_T29 x9 x11).f1)).bind fun t189 => (impl_partsOfBolts.L1 x3 x11 x9 x10 x11 t189 (t189.length : Int) 0)) else (none)) else (none)) else (some x3) := by
  refine Lim.next (fun k => (impl_partsOfBolts.mono_l k).1 x3 x9 x10 x11) ?_
  simp only [impl_partsOfBolts.l0]
  repeat' with_reducible first | exact Lim.const _ | exact impl_partsOfBolts.L1_lim _ _ _ _ _ _ _ _ | exact impl_soundParts.F_lim _ _ | refine Lim.ite ?_ ?_ | refine Lim.bind ?_ (fun _ => ?_)
theorem impl_partsOfBolts.L1_eq (x3 : List (S119)) (x4 : Int) (x9 : List (S29)) (x10 x11 : Int) (x17 : List (List Int)) (x18 x19 : Int) : impl_partsOfBolts.L1 x3 x4 x9 x10 x11 x17 x18 x19 = if x19 < x18 then (if 0 ≤ x19 then (if x19 < (x17.length : Int) then (if 0 < ((rd_L1 x17 x19).length : Int) then (if 1 < ((rd_L1 x17 x19).length : Int) then (if x3.length < 5864062014805 then (impl_partsOfBolts.L1 (x3 ++ [(⟨x4, rd (rd_L1 x17 x19) 0, rd (rd_L1 x17 x19) 1⟩ : S119)]) x4 x9 x10 x11 x17 x18 (wrap64 (x19 + 1))) else (none)) else (none)) else (none)) else (none)) else (none)) else (impl_partsOfBolts.L0 x3 x9 x10 (wrap64 (x11 + 1))) := by
  refine Lim.next (fun k => (impl_partsOfBolts.mono_l k).2 x3 x4 x9 x10 x11 x17 x18 x19) ?_
  simp only [impl_partsOfBolts.l1]
  repeat' with_reducible first | exact Lim.const _ | exact impl_partsOfBolts.L0_lim _ _ _ _ | exact impl_partsOfBolts.L1_lim _ _ _ _ _ _ _ _ | refine Lim.ite ?_ ?_ | refine Lim.bind ?_ (fun _ => ?_)
theorem impl_partsOfBolts.F_eq (l0 : List (S29)) : impl_partsOfBolts.F l0 = impl_partsOfBolts.L0 (([] : List (S119))) l0 (l0.length : Int) 0 := by
  refine Lim.eq (g := fun k => impl_partsOfBolts.f k l0) ?_
  unfold impl_partsOfBolts.f
  repeat' with_reducible first | exact Lim.const _ | exact impl_partsOfBolts.L0_lim _ _ _ _ | refine Lim.ite ?_ ?_ | refine Lim.bind ?_ (fun _ => ?_)

noncomputable def impl_ValidBolts.L0 (x8 : List (S29)) (x9 x10 : Int) : Option (Bool) := lim (fun k => impl_ValidBolts.l0 k x8 x9 x10)
theorem impl_ValidBolts.L0_lim (x8 : List (S29)) (x9 x10 : Int) : Lim (fun k => impl_ValidBolts.l0 k x8 x9 x10) (impl_ValidBolts.L0 x8 x9 x10) := Lim.of (fun k => (impl_ValidBolts.mono_l k) x8 x9 x10)
noncomputable def impl_ValidBolts.F (l0 : List (S29)) : Option (Bool) := lim (fun k => impl_ValidBolts.f k l0)
theorem impl_ValidBolts.F_lim (l0 : List (S29)) : Lim (fun k => impl_ValidBolts.f k l0) (impl_ValidBolts.F l0) := Lim.of (fun k => impl_ValidBolts.mono l0 k)
theorem impl_ValidBolts.L0_eq (x8 : List (S29)) (x9 x10 : Int) : impl_ValidBolts.L0 x8 x9 x10 = if x10 < x9 then (if 0 ≤ x10 then (if x10 < (x8.length : Int) then ((impl_validBolt.F ((rd_T29 x8 x10).f0) ((rd_T29 x8 x10).f1)).bind fun t200 => (if t200 = true then (impl_ValidBolts.L0 x8 x9 (wrap64 (x10 + 1))) else (some false))) else (none)) else (none)) else (some true) := by
  refine Lim.next (fun k => (impl_ValidBolts.mono_l k) x8 x9 x10) ?_
  simp only [impl_ValidBolts.l0]
  repeat' with_reducible first | exact Lim.const _ | exact impl_ValidBolts.L0_lim _ _ _ | exact impl_validBolt.F_lim _ _ | refine Lim.ite ?_ ?_ | refine Lim.bind ?_ (fun _ => ?_)
theorem impl_ValidBolts.F_eq (l0 : List (S29)) : impl_ValidBolts.F l0 = if (l0.length : Int) > 4 then (some false) else (impl_ValidBolts.L0 l0 (l0.length : Int) 0) := by
  refine Lim.eq (g := fun k => impl_ValidBolts.f k l0) ?_
  unfold impl_ValidBolts.f
  repeat' with_reducible first | exact Lim.const _ | exact impl_ValidBolts.L0_lim _ _ _ | refine Lim.ite ?_ ?_ | refine Lim.bind ?_ (fun _ => ?_)

noncomputable def impl_LongestPanel.L0 (x4 : Int) (x14 : List (S119)) (x15 x16 : Int) : Option (Int × Int) := lim (fun k => impl_LongestPanel.l0 k x4 x14 x15 x16)
theorem impl_LongestPanel.L0_lim (x4 : Int) (x14 : List (S119)) (x15 x16 : Int) : Lim (fun k => impl_LongestPanel.l0 k x4 x14 x15 x16) (impl_LongestPanel.L0 x4 x14 x15 x16) := Lim.of (fun k => (impl_LongestPanel.mono_l k) x4 x14 x15 x16)
noncomputable def impl_LongestPanel.F (l0 : List (S29)) : Option (Int × Int) := lim (fun k => impl_LongestPanel.f k l0)
theorem impl_LongestPanel.F_lim (l0 : List (S29)) : Lim (fun k => impl_LongestPanel.f k l0) (impl_LongestPanel.F l0) := Lim.of (fun k => impl_LongestPanel.mono l0 k)
theorem impl_LongestPanel.L0_eq (x4 : Int) (x14 : List (S119)) (x15 x16 : Int) : impl_LongestPanel.L0 x4 x14 x15 x16 = if x16 < x15 then (if 0 ≤ x16 then (if x16 < (x14.length : Int) then (impl_LongestPanel.L0 (mx x4 (wrap64 (((rd_T119 x14 x16).f2) - ((rd_T119 x14 x16).f1)))) x14 x15 (wrap64 (x16 + 1))) else (none)) else (none)) else (some (x4, 0)) := by
  refine Lim.next (fun k => (impl_LongestPanel.mono_l k) x4 x14 x15 x16) ?_
  simp only [impl_LongestPanel.l0]
  repeat' with_reducible first | exact Lim.const _ | exact impl_LongestPanel.L0_lim _ _ _ _ | refine Lim.ite ?_ ?_ | refine Lim.bind ?_ (fun _ => ?_)
theorem impl_LongestPanel.F_eq (l0 : List (S29)) : impl_LongestPanel.F l0 = (impl_ValidBolts.F l0).bind fun t201 => (if t201 = true then (if (l0.length : Int) = 0 then (some (0, 3)) else ((impl_partsOfBolts.F l0).bind fun t202 => (impl_LongestPanel.L0 0 t202 (t202.length : Int) 0))) else (some (0, 1))) := by
  refine Lim.eq (g := fun k => impl_LongestPanel.f k l0) ?_
  unfold impl_LongestPanel.f
  repeat' with_reducible first | exact Lim.const _ | exact impl_LongestPanel.L0_lim _ _ _ _ | exact impl_ValidBolts.F_lim _ | exact impl_partsOfBolts.F_lim _ | refine Lim.ite ?_ ?_ | refine Lim.bind ?_ (fun _ => ?_)

noncomputable def slices_Index_int64_int64.L0 (x0 : List Int) (x1 x7 x8 : Int) : Option (Int) := lim (fun k => slices_Index_int64_int64.l0 k x0 x1 x7 x8)
theorem slices_Index_int64_int64.L0_lim (x0 : List Int) (x1 x7 x8 : Int) : Lim (fun k => slices_Index_int64_int64.l0 k x0 x1 x7 x8) (slices_Index_int64_int64.L0 x0 x1 x7 x8) := Lim.of (fun k => (slices_Index_int64_int64.mono_l k) x0 x1 x7 x8)
noncomputable def slices_Index_int64_int64.F (l0 : List Int) (a1 : Int) : Option (Int) := lim (fun k => slices_Index_int64_int64.f k l0 a1)
theorem slices_Index_int64_int64.F_lim (l0 : List Int) (a1 : Int) : Lim (fun k => slices_Index_int64_int64.f k l0 a1) (slices_Index_int64_int64.F l0 a1) := Lim.of (fun k => slices_Index_int64_int64.mono l0 a1 k)
theorem slices_Index_int64_int64.L0_eq (x0 : List Int) (x1 x7 x8 : Int) : slices_Index_int64_int64.L0 x0 x1 x7 x8 = if x8 < x7 then (if 0 ≤ x8 then (if x8 < (x0.length : Int) then (if x1 = (rd x0 x8) then (some x8) else (slices_Index_int64_int64.L0 x0 x1 x7 (wrap64 (x8 + 1)))) else (none)) else (none)) else (some (-1)) := by
  refine Lim.next (fun k => (slices_Index_int64_int64.mono_l k) x0 x1 x7 x8) ?_
  simp only [slices_Index_int64_int64.l0]
  repeat' with_reducible first | exact Lim.const _ | exact slices_Index_int64_int64.L0_lim _ _ _ _ | refine Lim.ite ?_ ?_ | refine Lim.bind ?_ (fun _ => ?_)
theorem slices_Index_int64_int64.F_eq (l0 : List Int) (a1 : Int) : slices_Index_int64_int64.F l0 a1 = slices_Index_int64_int64.L0 l0 a1 (l0.length : Int) 0 := by
  refine Lim.eq (g := fun k => slices_Index_int64_int64.f k l0 a1) ?_
  unfold slices_Index_int64_int64.f
  repeat' with_reducible first | exact Lim.const _ | exact slices_Index_int64_int64.L0_lim _ _ _ _ | refine Lim.ite ?_ ?_ | refine Lim.bind ?_ (fun _ => ?_)

noncomputable def slices_Contains_int64_int64.F (l0 : List Int) (a1 : Int) : Option (Bool) := lim (fun k => slices_Contains_int64_int64.f k l0 a1)
theorem slices_Contains_int64_int64.F_lim (l0 : List Int) (a1 : Int) : Lim (fun k => slices_Contains_int64_int64.f k l0 a1) (slices_Contains_int64_int64.F l0 a1) := Lim.of (fun k => slices_Contains_int64_int64.mono l0 a1 k)
theorem slices_Contains_int64_int64.F_eq (l0 : List Int) (a1 : Int) : slices_Contains_int64_int64.F l0 a1 = (slices_Index_int64_int64.F l0 a1).bind fun t209 => (some (decide (t209 ≥ 0))) := by
  refine Lim.eq (g := fun k => slices_Contains_int64_int64.f k l0 a1) ?_
  unfold slices_Contains_int64_int64.f
  repeat' with_reducible first | exact Lim.const _ | exact slices_Index_int64_int64.F_lim _ _ | refine Lim.ite ?_ ?_ | refine Lim.bind ?_ (fun _ => ?_)

noncomputable def slices_insertionSortOrdered_int64.L0 (x0 : List Int) (x1 x2 x6 : Int) : Option (List Int) := lim (fun k => slices_insertionSortOrdered_int64.l0 k x0 x1 x2 x6)
theorem slices_insertionSortOrdered_int64.L0_lim (x0 : List Int) (x1 x2 x6 : Int) : Lim (fun k => slices_insertionSortOrdered_int64.l0 k x0 x1 x2 x6) (slices_insertionSortOrdered_int64.L0 x0 x1 x2 x6) := Lim.of (fun k => (slices_insertionSortOrdered_int64.mono_l k).1 x0 x1 x2 x6)
noncomputable def slices_insertionSortOrdered_int64.L1 (x0 : List Int) (x1 x2 x6 x7 : Int) : Option (List Int) := lim (fun k => slices_insertionSortOrdered_int64.l1 k x0 x1 x2 x6 x7)
theorem slices_insertionSortOrdered_int64.L1_lim (x0 : List Int) (x1 x2 x6 x7 : Int) : Lim (fun k => slices_insertionSortOrdered_int64.l1 k x0 x1 x2 x6 x7) (slices_insertionSortOrdered_int64.L1 x0 x1 x2 x6 x7) := Lim.of (fun k => (slices_insertionSortOrdered_int64.mono_l k).2 x0 x1 x2 x6 x7)
noncomputable def slices_insertionSortOrdered_int64.F (l0 : List Int) (a1 a2 : Int) : Option (List Int) := lim (fun k => slices_insertionSortOrdered_int64.f k l0 a1 a2)
theorem slices_insertionSortOrdered_int64.F_lim (l0 : List Int) (a1 a2 : Int) : Lim (fun k => slices_insertionSortOrdered_int64.f k l0 a1 a2) (slices_insertionSortOrdered_int64.F l0 a1 a2) := Lim.of (fun k => slices_insertionSortOrdered_int64.mono l0 a1 a2 k)
theorem slices_insertionSortOrdered_int64.L0_eq (x0 : List Int) (x1 x2 x6 : Int) : slices_insertionSortOrdered_int64.L0 x0 x1 x2 x6 = if x6 < x2 then (slices_insertionSortOrdered_int64.L1 x0 x1 x2 x6 x6) else (some x0) := by
  refine Lim.next (fun k => (slices_insertionSortOrdered_int64.mono_l k).1 x0 x1 x2 x6) ?_
  simp only [slices_insertionSortOrdered_int64.l0]
  repeat' with_reducible first | exact Lim.const _ | exact slices_insertionSortOrdered_int64.L1_lim _ _ _ _ _ | refine Lim.ite ?_ ?_ | refine Lim.bind ?_ (fun _ => ?_)
theorem slices_insertionSortOrdered_int64.L1_eq (x0 : List Int) (x1 x2 x6 x7 : Int) : slices_insertionSortOrdered_int64.L1 x0 x1 x2 x6 x7 = if x7 > x1 then (if 0 ≤ x7 then (if x7 < (x0.length : Int) then (if 0 ≤ (wrap64 (x7 - 1)) then (if (wrap64 (x7 - 1)) < (x0.length : Int) then ((cmp_Less_int64.f (rd x0 x7) (rd x0 (wrap64 (x7 - 1)))).bind fun t214 => (if t214 = true then (slices_insertionSortOrdered_int64.L1 ((x0.set (x7 : Int).toNat (rd x0 (wrap64 (x7 - 1)))).set ((wrap64 (x7 - 1)) : Int).toNat (rd x0 x7)) x1 x2 x6 (wrap64 (x7 - 1))) else (slices_insertionSortOrdered_int64.L0 x0 x1 x2 (wrap64 (x6 + 1))))) else (none)) else (none)) else (none)) else (none)) else (slices_insertionSortOrdered_int64.L0 x0 x1 x2 (wrap64 (x6 + 1))) := by
  refine Lim.next (fun k => (slices_insertionSortOrdered_int64.mono_l k).2 x0 x1 x2 x6 x7) ?_
  simp only [slices_insertionSortOrdered_int64.l1]
  repeat' with_reducible first | exact Lim.const _ | exact slices_insertionSortOrdered_int64.L0_lim _ _ _ _ | exact slices_insertionSortOrdered_int64.L1_lim _ _ _ _ _ | refine Lim.ite ?_ ?_ | refine Lim.bind ?_ (fun _ => ?_)
theorem slices_insertionSortOrdered_int64.F_eq (l0 : List Int) (a1 a2 : Int) : slices_insertionSortOrdered_int64.F l0 a1 a2 = slices_insertionSortOrdered_int64.L0 l0 a1 a2 (wrap64 (a1 + 1)) := by
  refine Lim.eq (g := fun k => slices_insertionSortOrdered_int64.f k l0 a1 a2) ?_
  unfold slices_insertionSortOrdered_int64.f
  repeat' with_reducible first | exact Lim.const _ | exact slices_insertionSortOrdered_int64.L0_lim _ _ _ _ | refine Lim.ite ?_ ?_ | refine Lim.bind ?_ (fun _ => ?_)

noncomputable def slices_pdqsortOrdered_int64.L0 (x0 : List Int) (x1 x2 x3 : Int) (x8 : Bool) : Option (List Int) := lim (fun k => slices_pdqsortOrdered_int64.l0 k x0 x1 x2 x3 x8)
theorem slices_pdqsortOrdered_int64.L0_lim (x0 : List Int) (x1 x2 x3 : Int) (x8 : Bool) : Lim (fun k => slices_pdqsortOrdered_int64.l0 k x0 x1 x2 x3 x8) (slices_pdqsortOrdered_int64.L0 x0 x1 x2 x3 x8) := Lim.of (fun k => (slices_pdqsortOrdered_int64.mono_l k).2 x0 x1 x2 x3 x8)
noncomputable def slices_pdqsortOrdered_int64.F (l0 : List Int) (a1 a2 a3 : Int) : Option (List Int) := lim (fun k => slices_pdqsortOrdered_int64.f k l0 a1 a2 a3)
theorem slices_pdqsortOrdered_int64.F_lim (l0 : List Int) (a1 a2 a3 : Int) : Lim (fun k => slices_pdqsortOrdered_int64.f k l0 a1 a2 a3) (slices_pdqsortOrdered_int64.F l0 a1 a2 a3) := Lim.of (fun k => (slices_pdqsortOrdered_int64.mono_l k).1 l0 a1 a2 a3)
theorem slices_pdqsortOrdered_int64.L0_eq (x0 : List Int) (x1 x2 x3 : Int) (x8 : Bool) : slices_pdqsortOrdered_int64.L0 x0 x1 x2 x3 x8 = if (wrap64 (x2 - x1)) ≤ 12 then ((slices_insertionSortOrdered_int64.F x0 x1 x2).bind fun t219 => (some t219)) else (if x3 = 0 then (none) else (if x8 = true then (none) else (none))) := by
  refine Lim.next (fun k => (slices_pdqsortOrdered_int64.mono_l k).2 x0 x1 x2 x3 x8) ?_
  simp only [slices_pdqsortOrdered_int64.l0]
  repeat' with_reducible first | exact Lim.const _ | exact slices_insertionSortOrdered_int64.F_lim _ _ _ | refine Lim.ite ?_ ?_ | refine Lim.bind ?_ (fun _ => ?_)
theorem slices_pdqsortOrdered_int64.F_eq (l0 : List Int) (a1 a2 a3 : Int) : slices_pdqsortOrdered_int64.F l0 a1 a2 a3 = slices_pdqsortOrdered_int64.L0 l0 a1 a2 a3 true := by
  refine Lim.next (fun k => (slices_pdqsortOrdered_int64.mono_l k).1 l0 a1 a2 a3) ?_
  simp only [slices_pdqsortOrdered_int64.f]
  repeat' with_reducible first | exact Lim.const _ | exact slices_pdqsortOrdered_int64.L0_lim _ _ _ _ _ | refine Lim.ite ?_ ?_ | refine Lim.bind ?_ (fun _ => ?_)

noncomputable def slices_Sort_int64_int64.F (l0 : List Int) : Option (List Int) := lim (fun k => slices_Sort_int64_int64.f k l0)
theorem slices_Sort_int64_int64.F_lim (l0 : List Int) : Lim (fun k => slices_Sort_int64_int64.f k l0) (slices_Sort_int64_int64.F l0) := Lim.of (fun k => slices_Sort_int64_int64.mono l0 k)
theorem slices_Sort_int64_int64.F_eq (l0 : List Int) : slices_Sort_int64_int64.F l0 = (bits_Len.f (IntKind.u64.wrap ((l0.length : Int)))).bind fun t220 => ((slices_pdqsortOrdered_int64.F l0 0 (l0.length : Int) t220).bind fun t221 => (some t221)) := by
  refine Lim.eq (g := fun k => slices_Sort_int64_int64.f k l0) ?_
  unfold slices_Sort_int64_int64.f
  repeat' with_reducible first | exact Lim.const _ | exact slices_pdqsortOrdered_int64.F_lim _ _ _ _ | refine Lim.ite ?_ ?_ | refine Lim.bind ?_ (fun _ => ?_)

noncomputable def impl_MarkFlaw.F (a0_0 : Int) (l0_1 : List Int) (a1 : Int) : Option (Int × List Int × Int) := lim (fun k => impl_MarkFlaw.f k a0_0 l0_1 a1)
theorem impl_MarkFlaw.F_lim (a0_0 : Int) (l0_1 : List Int) (a1 : Int) : Lim (fun k => impl_MarkFlaw.f k a0_0 l0_1 a1) (impl_MarkFlaw.F a0_0 l0_1 a1) := Lim.of (fun k => impl_MarkFlaw.mono a0_0 l0_1 a1 k)
theorem impl_MarkFlaw.F_eq (a0_0 : Int) (l0_1 : List Int) (a1 : Int) : impl_MarkFlaw.F a0_0 l0_1 a1 = (impl_validBolt.F a0_0 l0_1).bind fun t224 => (if t224 = true then ((impl_within.f a1 1 (wrap64 (a0_0 - 1))).bind fun t225 => (if t225 = true then ((slices_Contains_int64_int64.F l0_1 a1).bind fun t226 => (if t226 = true then (some (0, ([] : List Int), 4)) else (if (l0_1.length : Int) = 6 then (some (0, ([] : List Int), 5)) else ((some (([] : List Int) : List Int)).bind fun y227 => (if y227.length + l0_1.length < 17592186044416 then ((some (y227 ++ l0_1 : List Int)).bind fun y230 => ((some (([a1] : List Int) : List Int)).bind fun y233 => (if y230.length + y233.length < 17592186044416 then ((slices_Sort_int64_int64.F (y230 ++ y233)).bind fun t240 => (some (a0_0, t240, 0))) else (none)))) else (none)))))) else (some (0, ([] : List Int), 2)))) else (some (0, ([] : List Int), 1))) := by
  refine Lim.eq (g := fun k => impl_MarkFlaw.f k a0_0 l0_1 a1) ?_
  unfold impl_MarkFlaw.f
  repeat' with_reducible first | exact Lim.const _ | exact impl_validBolt.F_lim _ _ | exact slices_Contains_int64_int64.F_lim _ _ | exact slices_Sort_int64_int64.F_lim _ | refine Lim.ite ?_ ?_ | refine Lim.bind ?_ (fun _ => ?_)

noncomputable def laws_a2Has.L0 (x0 : List Int) (x1 x5 : Int) : Option (Bool) := lim (fun k => laws_a2Has.l0 k x0 x1 x5)
theorem laws_a2Has.L0_lim (x0 : List Int) (x1 x5 : Int) : Lim (fun k => laws_a2Has.l0 k x0 x1 x5) (laws_a2Has.L0 x0 x1 x5) := Lim.of (fun k => (laws_a2Has.mono_l k) x0 x1 x5)
noncomputable def laws_a2Has.F (l0 : List Int) (a1 : Int) : Option (Bool) := lim (fun k => laws_a2Has.f k l0 a1)
theorem laws_a2Has.F_lim (l0 : List Int) (a1 : Int) : Lim (fun k => laws_a2Has.f k l0 a1) (laws_a2Has.F l0 a1) := Lim.of (fun k => laws_a2Has.mono l0 a1 k)
theorem laws_a2Has.L0_eq (x0 : List Int) (x1 x5 : Int) : laws_a2Has.L0 x0 x1 x5 = if x5 < (x0.length : Int) then (if 0 ≤ x5 then (if (rd x0 x5) = x1 then (some true) else (laws_a2Has.L0 x0 x1 (wrap64 (x5 + 1)))) else (none)) else (some false) := by
  refine Lim.next (fun k => (laws_a2Has.mono_l k) x0 x1 x5) ?_
  simp only [laws_a2Has.l0]
  repeat' with_reducible first | exact Lim.const _ | exact laws_a2Has.L0_lim _ _ _ | refine Lim.ite ?_ ?_ | refine Lim.bind ?_ (fun _ => ?_)
theorem laws_a2Has.F_eq (l0 : List Int) (a1 : Int) : laws_a2Has.F l0 a1 = laws_a2Has.L0 l0 a1 0 := by
  refine Lim.eq (g := fun k => laws_a2Has.f k l0 a1) ?_
  unfold laws_a2Has.f
  repeat' with_reducible first | exact Lim.const _ | exact laws_a2Has.L0_lim _ _ _ | refine Lim.ite ?_ ?_ | refine Lim.bind ?_ (fun _ => ?_)

noncomputable def spec_l00Rises.L0 (x0 : List Int) (x1 x2 x7 : Int) : Option (Bool) := lim (fun k => spec_l00Rises.l0 k x0 x1 x2 x7)
theorem spec_l00Rises.L0_lim (x0 : List Int) (x1 x2 x7 : Int) : Lim (fun k => spec_l00Rises.l0 k x0 x1 x2 x7) (spec_l00Rises.L0 x0 x1 x2 x7) := Lim.of (fun k => (spec_l00Rises.mono_l k) x0 x1 x2 x7)
noncomputable def spec_l00Rises.F (l0 : List Int) (a1 a2 : Int) : Option (Bool) := lim (fun k => spec_l00Rises.f k l0 a1 a2)
theorem spec_l00Rises.F_lim (l0 : List Int) (a1 a2 : Int) : Lim (fun k => spec_l00Rises.f k l0 a1 a2) (spec_l00Rises.F l0 a1 a2) := Lim.of (fun k => spec_l00Rises.mono l0 a1 a2 k)
theorem spec_l00Rises.L0_eq (x0 : List Int) (x1 x2 x7 : Int) : spec_l00Rises.L0 x0 x1 x2 x7 = if x7 < (x0.length : Int) then (if 0 ≤ x7 then ((spec_l00In.f (rd x0 x7) x1 x2).bind fun t243 => (if t243 = true then (if x7 > 0 then (if 0 ≤ (wrap64 (x7 - 1)) then (if (wrap64 (x7 - 1)) < (x0.length : Int) then (if (rd x0 (wrap64 (x7 - 1))) ≥ (rd x0 x7) then (some false) else (spec_l00Rises.L0 x0 x1 x2 (wrap64 (x7 + 1)))) else (none)) else (none)) else (spec_l00Rises.L0 x0 x1 x2 (wrap64 (x7 + 1)))) else (some false))) else (none)) else (some true) := by
  refine Lim.next (fun k => (spec_l00Rises.mono_l k) x0 x1 x2 x7) ?_
  simp only [spec_l00Rises.l0]
  repeat' with_reducible first | exact Lim.const _ | exact spec_l00Rises.L0_lim _ _ _ _ | refine Lim.ite ?_ ?_ | refine Lim.bind ?_ (fun _ => ?_)
theorem spec_l00Rises.F_eq (l0 : List Int) (a1 a2 : Int) : spec_l00Rises.F l0 a1 a2 = spec_l00Rises.L0 l0 a1 a2 0 := by
  refine Lim.eq (g := fun k => spec_l00Rises.f k l0 a1 a2) ?_
  unfold spec_l00Rises.f
  repeat' with_reducible first | exact Lim.const _ | exact spec_l00Rises.L0_lim _ _ _ _ | refine Lim.ite ?_ ?_ | refine Lim.bind ?_ (fun _ => ?_)

noncomputable def spec_l16One.F (l0 : List (S29)) : Option (Bool) := lim (fun k => spec_l16One.f k l0)
theorem spec_l16One.F_lim (l0 : List (S29)) : Lim (fun k => spec_l16One.f k l0) (spec_l16One.F l0) := Lim.of (fun k => spec_l16One.mono l0 k)
theorem spec_l16One.F_eq (l0 : List (S29)) : spec_l16One.F l0 = if 0 < (l0.length : Int) then ((spec_l00In.f ((rd_T29 l0 0).f0) 1 10000).bind fun t248 => (if t248 = true then (if (((rd_T29 l0 0).f1).length : Int) ≤ 6 then ((spec_l00Rises.F ((rd_T29 l0 0).f1) 1 (wrap64 (((rd_T29 l0 0).f0) - 1))).bind fun t252 => (some t252)) else (some false)) else (some false))) else (none) := by
  refine Lim.eq (g := fun k => spec_l16One.f k l0) ?_
  unfold spec_l16One.f
  repeat' with_reducible first | exact Lim.const _ | exact spec_l00Rises.F_lim _ _ _ | refine Lim.ite ?_ ?_ | refine Lim.bind ?_ (fun _ => ?_)

noncomputable def spec_l16Ok.L0 (x0 : List (S29)) (x3 : Int) : Option (Bool) := lim (fun k => spec_l16Ok.l0 k x0 x3)
theorem spec_l16Ok.L0_lim (x0 : List (S29)) (x3 : Int) : Lim (fun k => spec_l16Ok.l0 k x0 x3) (spec_l16Ok.L0 x0 x3) := Lim.of (fun k => (spec_l16Ok.mono_l k) x0 x3)
noncomputable def spec_l16Ok.F (l0 : List (S29)) : Option (Bool) := lim (fun k => spec_l16Ok.f k l0)
theorem spec_l16Ok.F_lim (l0 : List (S29)) : Lim (fun k => spec_l16Ok.f k l0) (spec_l16Ok.F l0) := Lim.of (fun k => spec_l16Ok.mono l0 k)
theorem spec_l16Ok.L0_eq (x0 : List (S29)) (x3 : Int) : spec_l16Ok.L0 x0 x3 = if x3 < (x0.length : Int) then (if 0 ≤ x3 then ((spec_l16One.F [rd_T29 x0 x3]).bind fun t255 => (if t255 = true then (spec_l16Ok.L0 x0 (wrap64 (x3 + 1))) else (some false))) else (none)) else (some (decide ((x0.length : Int) ≤ 4))) := by
  refine Lim.next (fun k => (spec_l16Ok.mono_l k) x0 x3) ?_
  simp only [spec_l16Ok.l0]
  repeat' with_reducible first | exact Lim.const _ | exact spec_l16Ok.L0_lim _ _ | exact spec_l16One.F_lim _ | refine Lim.ite ?_ ?_ | refine Lim.bind ?_ (fun _ => ?_)
theorem spec_l16Ok.F_eq (l0 : List (S29)) : spec_l16Ok.F l0 = spec_l16Ok.L0 l0 0 := by
  refine Lim.eq (g := fun k => spec_l16Ok.f k l0) ?_
  unfold spec_l16Ok.f
  repeat' with_reducible first | exact Lim.const _ | exact spec_l16Ok.L0_lim _ _ | refine Lim.ite ?_ ?_ | refine Lim.bind ?_ (fun _ => ?_)

noncomputable def spec_ValidBolts.F (l0 : List (S29)) : Option (Bool) := lim (fun k => spec_ValidBolts.f k l0)
theorem spec_ValidBolts.F_lim (l0 : List (S29)) : Lim (fun k => spec_ValidBolts.f k l0) (spec_ValidBolts.F l0) := Lim.of (fun k => spec_ValidBolts.mono l0 k)
theorem spec_ValidBolts.F_eq (l0 : List (S29)) : spec_ValidBolts.F l0 = (spec_l16Ok.F l0).bind fun t256 => (some t256) := by
  refine Lim.eq (g := fun k => spec_ValidBolts.f k l0) ?_
  unfold spec_ValidBolts.f
  repeat' with_reducible first | exact Lim.const _ | exact spec_l16Ok.F_lim _ | refine Lim.ite ?_ ?_ | refine Lim.bind ?_ (fun _ => ?_)

noncomputable def impl_ClothWidths.J0 (x0 x1 x2 : Int) (x23 : Bool) : Option (Int × Int) := lim (fun k => impl_ClothWidths.j0 k x0 x1 x2 x23)
theorem impl_ClothWidths.J0_lim (x0 x1 x2 : Int) (x23 : Bool) : Lim (fun k => impl_ClothWidths.j0 k x0 x1 x2 x23) (impl_ClothWidths.J0 x0 x1 x2 x23) := Lim.of (fun k => (impl_ClothWidths.mono_l k).1 x0 x1 x2 x23)
noncomputable def impl_ClothWidths.L0 (x0 x1 x2 x8 : Int) : Option (Int × Int) := lim (fun k => impl_ClothWidths.l0 k x0 x1 x2 x8)
theorem impl_ClothWidths.L0_lim (x0 x1 x2 x8 : Int) : Lim (fun k => impl_ClothWidths.l0 k x0 x1 x2 x8) (impl_ClothWidths.L0 x0 x1 x2 x8) := Lim.of (fun k => (impl_ClothWidths.mono_l k).2 x0 x1 x2 x8)
noncomputable def impl_ClothWidths.F (a0 a1 a2 : Int) : Option (Int × Int) := lim (fun k => impl_ClothWidths.f k a0 a1 a2)
theorem impl_ClothWidths.F_lim (a0 a1 a2 : Int) : Lim (fun k => impl_ClothWidths.f k a0 a1 a2) (impl_ClothWidths.F a0 a1 a2) := Lim.of (fun k => impl_ClothWidths.mono a0 a1 a2 k)
theorem impl_ClothWidths.J0_eq (x0 x1 x2 : Int) (x23 : Bool) : impl_ClothWidths.J0 x0 x1 x2 x23 = if x23 = true then (some (0, 2)) else (impl_ClothWidths.L0 x0 x1 x2 1) := by
  refine Lim.next (fun k => (impl_ClothWidths.mono_l k).1 x0 x1 x2 x23) ?_
  simp only [impl_ClothWidths.j0]
  repeat' with_reducible first | exact Lim.const _ | exact impl_ClothWidths.L0_lim _ _ _ _ | refine Lim.ite ?_ ?_ | refine Lim.bind ?_ (fun _ => ?_)
theorem impl_ClothWidths.L0_eq (x0 x1 x2 x8 : Int) : impl_ClothWidths.L0 x0 x1 x2 x8 = if (wrap64 ((wrap64 (x8 * x1)) - (wrap64 ((wrap64 (x8 - 1)) * x2)))) < x0 then (impl_ClothWidths.L0 x0 x1 x2 (wrap64 (x8 + 1))) else (some (x8, 0)) := by
  refine Lim.next (fun k => (impl_ClothWidths.mono_l k).2 x0 x1 x2 x8) ?_
  simp only [impl_ClothWidths.l0]
  repeat' with_reducible first | exact Lim.const _ | exact impl_ClothWidths.L0_lim _ _ _ _ | refine Lim.ite ?_ ?_ | refine Lim.bind ?_ (fun _ => ?_)
theorem impl_ClothWidths.F_eq (a0 a1 a2 : Int) : impl_ClothWidths.F a0 a1 a2 = (impl_within.f a0 1 10000).bind fun t257 => (if t257 = true then ((impl_within.f a1 1 1000).bind fun t258 => (if t258 = true then ((impl_within.f a2 0 (wrap64 (a1 - 1))).bind fun t259 => (impl_ClothWidths.J0 a0 a1 a2 (!t259))) else (impl_ClothWidths.J0 a0 a1 a2 true))) else (impl_ClothWidths.J0 a0 a1 a2 true)) := by
  refine Lim.eq (g := fun k => impl_ClothWidths.f k a0 a1 a2) ?_
  unfold impl_ClothWidths.f
  repeat' with_reducible first | exact Lim.const _ | exact impl_ClothWidths.J0_lim _ _ _ _ | refine Lim.ite ?_ ?_ | refine Lim.bind ?_ (fun _ => ?_)

noncomputable def laws_FnFlaws.L0 (x1 : List Int) (x5 : List (S29)) (x7 x8 x9 x10 : Int) : Option (Bool) := lim (fun k => laws_FnFlaws.l0 k x1 x5 x7 x8 x9 x10)
theorem laws_FnFlaws.L0_lim (x1 : List Int) (x5 : List (S29)) (x7 x8 x9 x10 : Int) : Lim (fun k => laws_FnFlaws.l0 k x1 x5 x7 x8 x9 x10) (laws_FnFlaws.L0 x1 x5 x7 x8 x9 x10) := Lim.of (fun k => (laws_FnFlaws.mono_l k).1 x1 x5 x7 x8 x9 x10)
noncomputable def laws_FnFlaws.L1 (x1 : List Int) (x5 : List (S29)) (x7 x8 x9 x10 : Int) (x11 : List (List Int)) (x13 x14 : Int) : Option (Bool) := lim (fun k => laws_FnFlaws.l1 k x1 x5 x7 x8 x9 x10 x11 x13 x14)
theorem laws_FnFlaws.L1_lim (x1 : List Int) (x5 : List (S29)) (x7 x8 x9 x10 : Int) (x11 : List (List Int)) (x13 x14 : Int) : Lim (fun k => laws_FnFlaws.l1 k x1 x5 x7 x8 x9 x10 x11 x13 x14) (laws_FnFlaws.L1 x1 x5 x7 x8 x9 x10 x11 x13 x14) := Lim.of (fun k => (laws_FnFlaws.mono_l k).2 x1 x5 x7 x8 x9 x10 x11 x13 x14)
noncomputable def laws_FnFlaws.F (l0 l1 : List Int) : Option (Bool) := lim (fun k => laws_FnFlaws.f k l0 l1)
theorem laws_FnFlaws.F_lim (l0 l1 : List Int) : Lim (fun k => laws_FnFlaws.f k l0 l1) (laws_FnFlaws.F l0 l1) := Lim.of (fun k => laws_FnFlaws.mono l0 l1 k)
theorem laws_FnFlaws.L0_eq (x1 : List Int) (x5 : List (S29)) (x7 x8 x9 x10 : Int) : laws_FnFlaws.L0 x1 x5 x7 x8 x9 x10 = if x10 < (x5.length : Int) then (if 0 ≤ x10 then ((impl_SoundParts.F ((rd_T29 x5 x10).f0) ((rd_T29 x5 x10).f1)).bind fun bt270 => (if bt270.2 = 0 then (if (bt270.1.length : Int) = (wrap64 ((((rd_T29 x5 x10).f1).length : Int) + 1)) then (laws_FnFlaws.L1 x1 x5 x7 x8 x9 x10 bt270.1 0 0) else (some false)) else (some false))) else (none)) else (if 0 < (x5.length : Int) then ((laws_a2At.f x1 0 (wrap64 (((rd_T29 x5 0).f0) - 1))).bind fun t289 => ((impl_MarkFlaw.F ((rd_T29 x5 0).f0) ((rd_T29 x5 0).f1) (wrap64 (1 + t289))).bind fun bt290 => (if bt290.2.2 = 0 then (if (bt290.2.1.length : Int) = (wrap64 ((((rd_T29 x5 0).f1).length : Int) + 1)) then ((laws_a2Has.F bt290.2.1 (wrap64 (1 + t289))).bind fun t296 => (if t296 = true then ((spec_ValidBolts.F (([(⟨bt290.1, bt290.2.1⟩ : S29)] : List (S29)))).bind fun t300 => (if t300 = true then ((laws_a2Has.F ((rd_T29 x5 0).f1) (wrap64 (1 + t289))).bind fun t301 => (if ((bt290.2.2 == 4) != t301) = true then (some false) else ((laws_a2At.f x1 1 250).bind fun t302 => ((laws_a2At.f x1 2 20).bind fun t303 => ((laws_a2At.f x1 3 90).bind fun t304 => ((impl_ClothWidths.F (wrap64 (1 + (wrap64 (t302 * 10)))) (wrap64 ((wrap64 (t303 + 1)) + t304)) t303).bind fun bt305 => (if x8 = 0 then (if x7 = x9 then (if bt305.2 = 0 then (if bt305.1 ≥ 1 then (if bt305.1 ≤ 10000 then (if (wrap64 ((wrap64 (bt305.1 * (wrap64 ((wrap64 (t303 + 1)) + t304)))) - (wrap64 ((wrap64 (bt305.1 - 1)) * t303)))) ≥ (wrap64 (1 + (wrap64 (t302 * 10)))) then (if bt305.1 = 1 then (some true) else (some (decide ((wrap64 ((wrap64 ((wrap64 (bt305.1 - 1)) * (wrap64 ((wrap64 (t303 + 1)) + t304)))) - (wrap64 ((wrap64 (bt305.1 - 2)) * t303)))) < (wrap64 (1 + (wrap64 (t302 * 10)))))))) else (some false)) else (some false)) else (some false)) else (some false)) else (some false)) else (some false)))))))) else (some false))) else (some false))) else (some false)) else ((laws_a2Has.F ((rd_T29 x5 0).f1) (wrap64 (1 + t289))).bind fun t307 => (if ((bt290.2.2 == 4) != t307) = true then (some false) else ((laws_a2At.f x1 1 250).bind fun t308 => ((laws_a2At.f x1 2 20).bind fun t309 => ((laws_a2At.f x1 3 90).bind fun t310 => ((impl_ClothWidths.F (wrap64 (1 + (wrap64 (t308 * 10)))) (wrap64 ((wrap64 (t309 + 1)) + t310)) t309).bind fun bt311 => (if x8 = 0 then (if x7 = x9 then (if bt311.2 = 0 then (if bt311.1 ≥ 1 then (if bt311.1 ≤ 10000 then (if (wrap64 ((wrap64 (bt311.1 * (wrap64 ((wrap64 (t309 + 1)) + t310)))) - (wrap64 ((wrap64 (bt311.1 - 1)) * t309)))) ≥ (wrap64 (1 + (wrap64 (t308 * 10)))) then (if bt311.1 = 1 then (some true) else (some (decide ((wrap64 ((wrap64 ((wrap64 (bt311.1 - 1)) * (wrap64 ((wrap64 (t309 + 1)) + t310)))) - (wrap64 ((wrap64 (bt311.1 - 2)) * t309)))) < (wrap64 (1 + (wrap64 (t308 * 10)))))))) else (some false)) else (some false)) else (some false)) else (some false)) else (some false)) else (some false))))))))))) else (none)) := by
  refine Lim.next (fun k => (laws_FnFlaws.mono_l k).1 x1 x5 x7 x8 x9 x10) ?_
  simp only [laws_FnFlaws.l0]
  repeat' with_reducible first | exact Lim.const _ | exact impl_ClothWidths.F_lim _ _ _ | exact impl_MarkFlaw.F_lim _ _ _ | exact impl_SoundParts.F_lim _ _ | exact laws_FnFlaws.L1_lim _ _ _ _ _ _ _ _ _ | exact laws_a2Has.F_lim _ _ | exact spec_ValidBolts.F_lim _ | refine Lim.ite ?_ ?_ | refine Lim.bind ?_ (fun _ => ?_)
theorem laws_FnFlaws.L1_eq (x1 : List Int) (x5 : List (S29)) (x7 x8 x9 x10 : Int) (x11 : List (List Int)) (x13 x14 : Int) : laws_FnFlaws.L1 x1 x5 x7 x8 x9 x10 x11 x13 x14 = if x14 < (x11.length : Int) then (if 0 ≤ x14 then (if ((rd_L1 x11 x14).length : Int) = 2 then (if 0 < ((rd_L1 x11 x14).length : Int) then (if (rd (rd_L1 x11 x14) 0) = x13 then (if 1 < ((rd_L1 x11 x14).length : Int) then (if (rd (rd_L1 x11 x14) 1) ≤ x13 then (some false) else (laws_FnFlaws.L1 x1 x5 x7 x8 (mx x9 (wrap64 ((rd (rd_L1 x11 x14) 1) - (rd (rd_L1 x11 x14) 0)))) x10 x11 (rd (rd_L1 x11 x14) 1) (wrap64 (x14 + 1)))) else (none)) else (some false)) else (none)) else (some false)) else (none)) else (if 0 ≤ x10 then (if x10 < (x5.length : Int) then (if x13 = ((rd_T29 x5 x10).f0) then (laws_FnFlaws.L0 x1 x5 x7 x8 x9 (wrap64 (x10 + 1))) else (some false)) else (none)) else (none)) := by
  refine Lim.next (fun k => (laws_FnFlaws.mono_l k).2 x1 x5 x7 x8 x9 x10 x11 x13 x14) ?_
  simp only [laws_FnFlaws.l1]
  repeat' with_reducible first | exact Lim.const _ | exact laws_FnFlaws.L0_lim _ _ _ _ _ _ | exact laws_FnFlaws.L1_lim _ _ _ _ _ _ _ _ _ | refine Lim.ite ?_ ?_ | refine Lim.bind ?_ (fun _ => ?_)
theorem laws_FnFlaws.F_eq (l0 l1 : List Int) : laws_FnFlaws.F l0 l1 = (laws_a2Long.f l0 l1).bind fun t260 => (if t260 = true then (some true) else ((spec_A2Bolts.F l0).bind fun bt261 => ((impl_LongestPanel.F bt261.1).bind fun bt267 => (if (bt261.1.length : Int) = 0 then (some (bt267.2 == 3)) else (laws_FnFlaws.L0 l1 bt261.1 bt267.1 bt267.2 0 0))))) := by
  refine Lim.eq (g := fun k => laws_FnFlaws.f k l0 l1) ?_
  unfold laws_FnFlaws.f
  repeat' with_reducible first | exact Lim.const _ | exact impl_LongestPanel.F_lim _ | exact laws_FnFlaws.L0_lim _ _ _ _ _ _ | exact spec_A2Bolts.F_lim _ | refine Lim.ite ?_ ?_ | refine Lim.bind ?_ (fun _ => ?_)

end Go.Proofs.Ytlphfgbeeckjnaa.PFnFlaws
