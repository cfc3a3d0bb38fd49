-- Written by a program of this session (wip/tools/pp.sh).
import Derived.Test.YtbhijlhlopljmaaPFnReefGapsx0
import Derived.Test.YtbhijlhlopljmaaPFnReefGapsx1
import Derived.Test.YtbhijlhlopljmaaPFnReefGapsx2
import Derived.Test.YtbhijlhlopljmaaPFnReefGapsx4
import Derived.Test.YtbhijlhlopljmaaPFnReefGapsx5
import Derived.Test.YtbhijlhlopljmaaPFnReefGapsx7
namespace Go.Proofs.Ytbhijlhlopljmaa.PFnReefGaps
open Go.RowKit Go.Proofs.YtbhijlhlopljmaaW.PrintWords Go.Proofs.YtbhijlhlopljmaaW.PrintLast Go.Proofs.YtbhijlhlopljmaaW.PrintMore
attribute [local go_sem] max2_int min2_int max_two min_two max_three min_three max_four min_four   -- for this text's walks alone
set_option linter.unusedVariables false
set_option linter.unusedSimpArgs false

/-! ### laws_FnReefGaps: function 5 -/
mutual
def laws_FnReefGaps.j1 : Nat → Int → Int → Int → List Int → List Int → Option (Bool)
 | 0, _, _, _, _, _ => none
 | k + 1, x9, x10, x11, x330000, x330001 => if x11 < 0 then (some (x10 == 3)) else ((impl_EvenReefing.f k x330000 x11).bind fun bt347 => (if x10 = 0 then (if x9 = x11 then (if bt347.2.2 = 0 then (if (bt347.1.length : Int) = (x330000.length : Int) then (if (bt347.2.1.length : Int) = (x330000.length : Int) then ((laws_a2Same.f k bt347.1 x330000).bind fun t355 => (if t355 = true then ((impl_ValidReefing.f k bt347.1 bt347.2.1).bind fun t356 => (some t356)) else (some false))) else (some false)) else (some false)) else (some false)) else (some false)) else (some false)))
def laws_FnReefGaps.l0 : Nat → List Int → Int → Int → Int → Int → Int → Int → List Int → List Int → Option (Bool)
 | 0, _, _, _, _, _, _, _, _, _ => none
 | k + 1, x6, x7, x8, x9, x10, x11, x12, x330000, x330001 => if x12 ≤ 600 then ((spec_EvenReefing.f k x330000 x12).bind fun bt337 => (if bt337.2.2 = 0 then ((spec_CountChanges.f k bt337.1 bt337.2.1 x7 x6).bind fun bt345 => (if bt345.2 = 0 then (if bt345.1 ≤ x8 then (laws_FnReefGaps.j1 k x9 x10 x12 x330000 x330001) else (laws_FnReefGaps.l0 k x6 x7 x8 x9 x10 x11 (wrap64 (x12 + 1)) x330000 x330001)) else (laws_FnReefGaps.l0 k x6 x7 x8 x9 x10 x11 (wrap64 (x12 + 1)) x330000 x330001))) else (laws_FnReefGaps.j1 k x9 x10 x11 x330000 x330001))) else (laws_FnReefGaps.j1 k x9 x10 x11 x330000 x330001)
end
def laws_FnReefGaps.f (k : Nat) (l0 : List Int) (l1 : List Int) : Option (Bool) := (laws_a2Long.f l0 l1).bind fun t322 => (if t322 = true then (some true) else ((spec_A2Reefing.f k l0).bind fun bt323 => ((spec_A2Blows.f k l1).bind fun t330 => ((laws_a2At.f l1 0 (wrap64 ((bt323.1.length : Int) + 1))).bind fun t333 => ((laws_a2At.f l1 1 8).bind fun t334 => ((impl_LeastGap.f k bt323.1 t333 t330 t334).bind fun bt335 => (laws_FnReefGaps.l0 k t330 t333 t334 bt335.1 bt335.2 (-1) 0 bt323.1 bt323.2)))))))
theorem laws_FnReefGaps.mono_l : ∀ k, (∀ y0 y1 y2 y3 y4, LeO (laws_FnReefGaps.j1 k y0 y1 y2 y3 y4) (laws_FnReefGaps.j1 (k + 1) y0 y1 y2 y3 y4)) ∧ (∀ y0 y1 y2 y3 y4 y5 y6 y7 y8, LeO (laws_FnReefGaps.l0 k y0 y1 y2 y3 y4 y5 y6 y7 y8) (laws_FnReefGaps.l0 (k + 1) y0 y1 y2 y3 y4 y5 y6 y7 y8))
 | 0 => ⟨fun _ _ _ _ _ r h => by simp [laws_FnReefGaps.j1] at h, fun _ _ _ _ _ _ _ _ _ r h => by simp [laws_FnReefGaps.l0] at h⟩
 | k + 1 => by
  obtain ⟨ih0, ih1⟩ := laws_FnReefGaps.mono_l k
  refine ⟨?_, ?_⟩
  ·intro y0 y1 y2 y3 y4
   unfold laws_FnReefGaps.j1
   repeat' first
   | (with_reducible exact ih0 _ _ _ _ _)
   | (with_reducible exact ih1 _ _ _ _ _ _ _ _ _)
   | (with_reducible exact impl_EvenReefing.mono _ _ _)
   | (with_reducible exact impl_LeastGap.mono _ _ _ _ _)
   | (with_reducible exact impl_ValidReefing.mono _ _ _)
   | (with_reducible exact laws_a2Same.mono _ _ _)
   | (with_reducible exact spec_A2Blows.mono _ _)
   | (with_reducible exact spec_A2Reefing.mono _ _)
   | (with_reducible exact spec_CountChanges.mono _ _ _ _ _)
   | (with_reducible exact spec_EvenReefing.mono _ _ _)
   | (with_reducible exact LeO.refl _)
   | (with_reducible exact LeO.none _)
   | (with_reducible refine LeO.ite ?_ ?_)
   | (with_reducible refine LeO.bind ?_ (fun _ => ?_))
   | exact ih0 _ _ _ _ _
   | exact ih1 _ _ _ _ _ _ _ _ _
   | exact impl_EvenReefing.mono _ _ _
   | exact impl_LeastGap.mono _ _ _ _ _
   | exact impl_ValidReefing.mono _ _ _
   | exact laws_a2Same.mono _ _ _
   | exact spec_A2Blows.mono _ _
   | exact spec_A2Reefing.mono _ _
   | exact spec_CountChanges.mono _ _ _ _ _
   | exact spec_EvenReefing.mono _ _ _
   | exact LeO.none _
   | refine LeO.ite ?_ ?_
   | refine LeO.bind ?_ (fun _ => ?_)
  ·intro y0 y1 y2 y3 y4 y5 y6 y7 y8
   unfold laws_FnReefGaps.l0
   repeat' first
   | (with_reducible exact ih0 _ _ _ _ _)
   | (with_reducible exact ih1 _ _ _ _ _ _ _ _ _)
   | (with_reducible exact impl_EvenReefing.mono _ _ _)
   | (with_reducible exact impl_LeastGap.mono _ _ _ _ _)
   | (with_reducible exact impl_ValidReefing.mono _ _ _)
   | (with_reducible exact laws_a2Same.mono _ _ _)
   | (with_reducible exact spec_A2Blows.mono _ _)
   | (with_reducible exact spec_A2Reefing.mono _ _)
   | (with_reducible exact spec_CountChanges.mono _ _ _ _ _)
   | (with_reducible exact spec_EvenReefing.mono _ _ _)
   | (with_reducible exact LeO.refl _)
   | (with_reducible exact LeO.none _)
   | (with_reducible refine LeO.ite ?_ ?_)
   | (with_reducible refine LeO.bind ?_ (fun _ => ?_))
   | exact ih0 _ _ _ _ _
   | exact ih1 _ _ _ _ _ _ _ _ _
   | exact impl_EvenReefing.mono _ _ _
   | exact impl_LeastGap.mono _ _ _ _ _
   | exact impl_ValidReefing.mono _ _ _
   | exact laws_a2Same.mono _ _ _
   | exact spec_A2Blows.mono _ _
   | exact spec_A2Reefing.mono _ _
   | exact spec_CountChanges.mono _ _ _ _ _
   | exact spec_EvenReefing.mono _ _ _
   | exact LeO.none _
   | refine LeO.ite ?_ ?_
   | refine LeO.bind ?_ (fun _ => ?_)
theorem laws_FnReefGaps.mono : ∀ a0 a1 k, LeO (laws_FnReefGaps.f k a0 a1) (laws_FnReefGaps.f (k + 1) a0 a1) := by
 intro a0 a1 k
 obtain ⟨ih0, ih1⟩ := laws_FnReefGaps.mono_l k
 unfold laws_FnReefGaps.f
 repeat' first
   | (with_reducible exact ih0 _ _ _ _ _)
   | (with_reducible exact ih1 _ _ _ _ _ _ _ _ _)
   | (with_reducible exact impl_EvenReefing.mono _ _ _)
   | (with_reducible exact impl_LeastGap.mono _ _ _ _ _)
   | (with_reducible exact impl_ValidReefing.mono _ _ _)
   | (with_reducible exact laws_a2Same.mono _ _ _)
   | (with_reducible exact spec_A2Blows.mono _ _)
   | (with_reducible exact spec_A2Reefing.mono _ _)
   | (with_reducible exact spec_CountChanges.mono _ _ _ _ _)
   | (with_reducible exact spec_EvenReefing.mono _ _ _)
   | (with_reducible exact LeO.refl _)
   | (with_reducible exact LeO.none _)
   | (with_reducible refine LeO.ite ?_ ?_)
   | (with_reducible refine LeO.bind ?_ (fun _ => ?_))
   | exact ih0 _ _ _ _ _
   | exact ih1 _ _ _ _ _ _ _ _ _
   | exact impl_EvenReefing.mono _ _ _
   | exact impl_LeastGap.mono _ _ _ _ _
   | exact impl_ValidReefing.mono _ _ _
   | exact laws_a2Same.mono _ _ _
   | exact spec_A2Blows.mono _ _
   | exact spec_A2Reefing.mono _ _
   | exact spec_CountChanges.mono _ _ _ _ _
   | exact spec_EvenReefing.mono _ _ _
   | exact LeO.none _
   | refine LeO.ite ?_ ?_
   | refine LeO.bind ?_ (fun _ => ?_)
set_option maxHeartbeats 8000000 in
set_option maxRecDepth 100000 in
theorem laws_FnReefGaps.calls (k : Nat) (A0 : Option Addr) (c0 : Nat) (l0 : List Int) (A1 : Option Addr) (c1 : Nat) (l1 : List Int) (r : Bool) (w : World) (hr0 : Kd.C (Kd.int .u8) w A0 l0.length l0) (hc0 : l0.length ≤ c0) (hr1 : Kd.C (Kd.int .u8) w A1 l1.length l1) (hc1 : l1.length ≤ c1) (hrt : r = true) (h : laws_FnReefGaps.f k l0 l1 = some r) :
  Calls Try.prog 5 #[.slice A0 l0.length c0, .slice A1 l1.length c1] w fun e w' => e = .returned (.bool r) ∧ Below w.heap.size w w' := by
 have hu28 := Try.underlying28
 have HRT := Aside0.mk hrt
 clear hrt
 have HR0 := Aside0.mk hr0
 have HC0 := Aside0.mk hc0
 clear hr0 hc0
 have HR1 := Aside0.mk hr1
 have HC1 := Aside0.mk hc1
 clear hr1 hc1
 have HB := Aside0.mk (Below.refl w.heap.size w)
 have H : ((laws_a2Long.f l0 l1).bind fun t322 => (if t322 = true then (some true) else ((spec_A2Reefing.f k l0).bind fun bt323 => ((spec_A2Blows.f k l1).bind fun t330 => ((laws_a2At.f l1 0 (wrap64 ((bt323.1.length : Int) + 1))).bind fun t333 => ((laws_a2At.f l1 1 8).bind fun t334 => ((impl_LeastGap.f k bt323.1 t333 t330 t334).bind fun bt335 => (laws_FnReefGaps.l0 k t330 t333 t334 bt335.1 bt335.2 (-1) 0 bt323.1 bt323.2)))))))) = some r := h
 clear h
 replace H := Option.bind_eq_some_iff.mp H
 obtain ⟨t322, A30, H⟩ := H
 replace H : (if t322 = true then (some true) else ((spec_A2Reefing.f k l0).bind fun bt323 => ((spec_A2Blows.f k l1).bind fun t330 => ((laws_a2At.f l1 0 (wrap64 ((bt323.1.length : Int) + 1))).bind fun t333 => ((laws_a2At.f l1 1 8).bind fun t334 => ((impl_LeastGap.f k bt323.1 t333 t330 t334).bind fun bt335 => (laws_FnReefGaps.l0 k t330 t333 t334 bt335.1 bt335.2 (-1) 0 bt323.1 bt323.2))))))) = some r := H
 have A3 := Aside0.mk A30
 clear A30
 by_cases c4 : t322 = true
 ·subst c4
  have H1 : (some true) = some r := by rw [if_pos rfl] at H; exact H
  clear H
  have H := H1
  clear H1
  obtain rfl := Option.some.inj H
  simp only [Option.some.injEq, Prod.mk.injEq] at H
  obtain ⟨rfl⟩ := H
  go_enter Try.func5, Try.ntmps5
  go_wp2_with (first | ((with_reducible refine gate_callee (f := 23) rfl ?_); refine goesL_ (some 21) rfl rfl Try.func23 (by kernel_rfl) rfl #[.slice A0 l0.length c0, .slice A1 l1.length c1] rfl (by (try simp only [List.map_toArray, List.map_cons, List.map_nil]); first | done | rfl | (simp only [List.length_drop, List.length_take]; rfl)) ?_; (with_reducible refine (laws_a2Long.calls _ _ l0 _ _ l1 true _ ?side1 ?side2 ?side3 ?side4 A3.out).mono ?_); (case side1 => repeat (first | exact HR0.out | (with_reducible refine Kd.C_alloc ?_ _) | (with_reducible refine Kd.C_drewN ?_ _) | (with_reducible refine Kd.C_drew ?_))); (case side2 => exact HC0.out); (case side3 => repeat (first | exact HR1.out | (with_reducible refine Kd.C_alloc ?_ _) | (with_reducible refine Kd.C_drewN ?_ _) | (with_reducible refine Kd.C_drew ?_))); (case side4 => exact HC1.out); rintro e w' ⟨rfl, ⟨nd, rfl⟩⟩; refine ⟨_, rfl, ?_⟩))
  go_ret
  exact ⟨by first | rfl | (simp [errW_none, errW_some] <;> rfl) | (simp [*, errW_none, errW_some] <;> rfl), by repeat (first | (with_reducible first | exact HB.out | apply below_alloc | apply pw_below_drewN | apply below_drew1) | exact HB.out)⟩
 ·replace c4 := Bool.eq_false_iff.mpr c4
  subst c4
  have H1 : ((spec_A2Reefing.f k l0).bind fun bt323 => ((spec_A2Blows.f k l1).bind fun t330 => ((laws_a2At.f l1 0 (wrap64 ((bt323.1.length : Int) + 1))).bind fun t333 => ((laws_a2At.f l1 1 8).bind fun t334 => ((impl_LeastGap.f k bt323.1 t333 t330 t334).bind fun bt335 => (laws_FnReefGaps.l0 k t330 t333 t334 bt335.1 bt335.2 (-1) 0 bt323.1 bt323.2)))))) = some r := by rw [if_neg (show ¬ (false = true) by decide)] at H; exact H
  clear H
  have H := H1
  clear H1
  replace H := Option.bind_eq_some_iff.mp H
  obtain ⟨⟨t323, t326⟩, A50, H⟩ := H
  replace H : ((spec_A2Blows.f k l1).bind fun t330 => ((laws_a2At.f l1 0 (wrap64 ((t323.length : Int) + 1))).bind fun t333 => ((laws_a2At.f l1 1 8).bind fun t334 => ((impl_LeastGap.f k t323 t333 t330 t334).bind fun bt335 => (laws_FnReefGaps.l0 k t330 t333 t334 bt335.1 bt335.2 (-1) 0 t323 t326))))) = some r := H
  have A5 := Aside0.mk A50
  clear A50
  replace H := Option.bind_eq_some_iff.mp H
  obtain ⟨t330, A60, H⟩ := H
  replace H : ((laws_a2At.f l1 0 (wrap64 ((t323.length : Int) + 1))).bind fun t333 => ((laws_a2At.f l1 1 8).bind fun t334 => ((impl_LeastGap.f k t323 t333 t330 t334).bind fun bt335 => (laws_FnReefGaps.l0 k t330 t333 t334 bt335.1 bt335.2 (-1) 0 t323 t326)))) = some r := H
  have A6 := Aside0.mk A60
  clear A60
  replace H := Option.bind_eq_some_iff.mp H
  obtain ⟨t333, A70, H⟩ := H
  replace H : ((laws_a2At.f l1 1 8).bind fun t334 => ((impl_LeastGap.f k t323 t333 t330 t334).bind fun bt335 => (laws_FnReefGaps.l0 k t330 t333 t334 bt335.1 bt335.2 (-1) 0 t323 t326))) = some r := H
  have A7 := Aside0.mk A70
  clear A70
  replace H := Option.bind_eq_some_iff.mp H
  obtain ⟨t334, A80, H⟩ := H
  replace H : ((impl_LeastGap.f k t323 t333 t330 t334).bind fun bt335 => (laws_FnReefGaps.l0 k t330 t333 t334 bt335.1 bt335.2 (-1) 0 t323 t326)) = some r := H
  have A8 := Aside0.mk A80
  clear A80
  replace H := Option.bind_eq_some_iff.mp H
  obtain ⟨⟨t335, t336⟩, A90, H⟩ := H
  replace H : (laws_FnReefGaps.l0 k t330 t333 t334 t335 t336 (-1) 0 t323 t326) = some r := H
  have A9 := Aside0.mk A90
  clear A90
  have HC10 := Aside0.mk H
  clear H
  go_enter Try.func5, Try.ntmps5
  go_upto_block 0 with (first | ((with_reducible refine gate_callee (f := 23) rfl ?_); refine goesL_ (some 21) rfl rfl Try.func23 (by kernel_rfl) rfl #[.slice A0 l0.length c0, .slice A1 l1.length c1] rfl (by (try simp only [List.map_toArray, List.map_cons, List.map_nil]); first | done | rfl | (simp only [List.length_drop, List.length_take]; rfl)) ?_; (with_reducible refine (laws_a2Long.calls _ _ l0 _ _ l1 false _ ?side1 ?side2 ?side3 ?side4 A3.out).mono ?_); (case side1 => repeat (first | exact HR0.out | (with_reducible refine Kd.C_alloc ?_ _) | (with_reducible refine Kd.C_drewN ?_ _) | (with_reducible refine Kd.C_drew ?_))); (case side2 => exact HC0.out); (case side3 => repeat (first | exact HR1.out | (with_reducible refine Kd.C_alloc ?_ _) | (with_reducible refine Kd.C_drewN ?_ _) | (with_reducible refine Kd.C_drew ?_))); (case side4 => exact HC1.out); rintro e w' ⟨rfl, ⟨nd, rfl⟩⟩; refine ⟨_, rfl, ?_⟩) | ((with_reducible refine gate_callee (f := 24) rfl ?_); refine goesL_ (some 23) rfl rfl Try.func24 (by kernel_rfl) rfl #[.slice A0 l0.length c0] rfl (by (try simp only [List.map_toArray, List.map_cons, List.map_nil]); first | done | rfl | (simp only [List.length_drop, List.length_take]; rfl)) ?_; (with_reducible refine (spec_A2Reefing.calls k _ _ l0 t323 t326 _ ?side1 ?side2 A5.out).mono ?_); (case side1 => repeat (first | exact HR0.out | (with_reducible refine Kd.C_alloc ?_ _) | (with_reducible refine Kd.C_drewN ?_ _) | (with_reducible refine Kd.C_drew ?_))); (case side2 => exact HC0.out); rintro e w11 ⟨v324, v327, rfl, ho0, ho1, hb⟩; refine ⟨_, rfl, ?_⟩; have n0_ := Aside0.mk (Kd.R_lower ho0 (below_size (by repeat (first | (with_reducible first | exact HB.out | apply below_alloc | apply pw_below_drewN | apply below_drew1) | exact HB.out)))); have n1_ := Aside0.mk (Kd.R_lower ho1 (below_size (by repeat (first | (with_reducible first | exact HB.out | apply below_alloc | apply pw_below_drewN | apply below_drew1) | exact HB.out)))); have n2_ := Aside0.mk (below_step (by repeat (first | (with_reducible first | exact HB.out | apply below_alloc | apply pw_below_drewN | apply below_drew1) | exact HB.out)) hb); clear HB; have HO325 := n0_; have HO328 := n1_; have HB := n2_; clear n0_ n1_ n2_; (try clear hb); (try clear hb2); (try clear hk); (try clear hi); (try clear ho0); (try clear ho1)) | ((with_reducible refine gate_dst (N := 5) rfl ?_); (try (refine gate_guard (by rfl) ?_; dsimp only)); refine box_event ?hg (N := 5) ?hd (cs := #[.slice none 0 0, .slice none 0 0]) (t := 28) ?hr ?_; (case hd => rfl); (case hg => rfl); (case hr => first | (go_simp; done) | (go_simp; rfl)); intro gb329 hg w12 hbox hb; have n0_ := Aside0.mk (Kd.R_below (by (with_reducible repeat (first | apply Kd.R_alloc | apply Kd.R_drewN | apply Kd.R_drew)); exact HO325.out) hb); have n1_ := Aside0.mk (Kd.R_below (by (with_reducible repeat (first | apply Kd.R_alloc | apply Kd.R_drewN | apply Kd.R_drew)); exact HO328.out) hb); have n2_ := Aside0.mk (below_step (by repeat (first | (with_reducible first | exact HB.out | apply below_alloc | apply pw_below_drewN | apply below_drew1) | exact HB.out)) hb); have n3_ := Aside0.mk (hbox); have n4_ := Aside0.mk ((by rw [hg]; exact (below_size (by repeat (first | (with_reducible first | exact HB.out | apply below_alloc | apply pw_below_drewN | apply below_drew1) | exact HB.out))) : w.heap.size ≤ gb329)); have n5_ := Aside0.mk ((by rw [hg]; exact (below_size (by repeat (first | (with_reducible first | exact HB.out | apply below_alloc | apply pw_below_drewN | apply below_drew1) | exact HB.out))) : w.heap.size ≤ gb329)); clear HO325; clear HO328; clear HB; have HO325 := n0_; have HO328 := n1_; have HB := n2_; have BK329 := n3_; have GW329 := n4_; have GE329 := n5_; clear n0_ n1_ n2_ n3_ n4_ n5_; clear hb hbox hg; obtain ⟨Ao13, co13, eo13⟩ := Kd.R_slice HO325.out; subst eo13; have hcz14_0 : w12.cell? ⟨gb329, 0, none⟩ = some (.slice none 0 0) := (blk_cell BK329.out 0).trans rfl; have hcz14_1 : w12.cell? ⟨gb329, 1, none⟩ = some (.slice none 0 0) := (blk_cell BK329.out 1).trans rfl; have hfz14_0 := blk_frozen BK329.out 0; have hfz14_1 := blk_frozen BK329.out 1; obtain ⟨Ao15, co15, eo15⟩ := Kd.R_slice HO328.out; subst eo15) | ((with_reducible refine gate_callee (f := 25) rfl ?_); refine goesL_ (some 25) rfl rfl Try.func25 (by kernel_rfl) rfl #[.slice A1 l1.length c1] rfl (by (try simp only [List.map_toArray, List.map_cons, List.map_nil]); first | done | rfl | (simp only [List.length_drop, List.length_take]; rfl)) ?_; (with_reducible refine (spec_A2Blows.calls k _ _ l1 t330 _ ?side1 ?side2 A6.out).mono ?_); (case side1 => exact Kd.C_below HR1.out (by repeat (first | (with_reducible first | exact HB.out | apply below_alloc | apply pw_below_drewN | apply below_drew1 | refine below_set ?_ GE329.out) | exact HB.out))); (case side2 => exact HC1.out); rintro e w16 ⟨v331, rfl, ho0, hb⟩; refine ⟨_, rfl, ?_⟩; have n0_ := Aside0.mk (Kd.R_elder' (by (with_reducible repeat (first | apply Kd.R_alloc | apply Kd.R_drewN | apply Kd.R_drew)); exact (Kd.R_mono (Kd.R_far (p := ⟨gb329, 1, none⟩) (Kd.R_far (p := ⟨gb329, 0, none⟩) (Kd.R_types HO325.out BK329.out (by decide)) (fun _ hk => hk.2) (.slice Ao13 t323.length co13)) (fun _ hk => hk.2) (.slice Ao15 t326.length co15)) (fun _ h_ => h_.1))) (Kd.R_base ho0) hb); have n1_ := Aside0.mk (Kd.R_elder' (by (with_reducible repeat (first | apply Kd.R_alloc | apply Kd.R_drewN | apply Kd.R_drew)); exact (Kd.R_mono (Kd.R_far (p := ⟨gb329, 1, none⟩) (Kd.R_far (p := ⟨gb329, 0, none⟩) (Kd.R_types HO328.out BK329.out (by decide)) (fun _ hk => hk.2) (.slice Ao13 t323.length co13)) (fun _ hk => hk.2) (.slice Ao15 t326.length co15)) (fun _ h_ => h_.1))) (Kd.R_base ho0) hb); have n2_ := Aside0.mk (Kd.R_lower (Kd.R_new' (Kd.R_new' ho0 (Kd.R_lt (by (with_reducible repeat (first | apply Kd.R_alloc | apply Kd.R_drewN | apply Kd.R_drew)); exact (Kd.R_mono (Kd.R_far (p := ⟨gb329, 1, none⟩) (Kd.R_far (p := ⟨gb329, 0, none⟩) (Kd.R_types HO325.out BK329.out (by decide)) (fun _ hk => hk.2) (.slice Ao13 t323.length co13)) (fun _ hk => hk.2) (.slice Ao15 t326.length co15)) (fun _ h_ => h_.1))))) (Kd.R_lt (by (with_reducible repeat (first | apply Kd.R_alloc | apply Kd.R_drewN | apply Kd.R_drew)); exact (Kd.R_mono (Kd.R_far (p := ⟨gb329, 1, none⟩) (Kd.R_far (p := ⟨gb329, 0, none⟩) (Kd.R_types HO328.out BK329.out (by decide)) (fun _ hk => hk.2) (.slice Ao13 t323.length co13)) (fun _ hk => hk.2) (.slice Ao15 t326.length co15)) (fun _ h_ => h_.1))))) (below_size (by repeat (first | (with_reducible first | exact HB.out | apply below_alloc | apply pw_below_drewN | apply below_drew1 | refine below_set ?_ GE329.out) | exact HB.out)))); have n3_ := Aside0.mk (blk_below (g := gb329) (o := .cells #[.slice Ao13 t323.length co13, .slice Ao15 t326.length co15] 28 (0, 0)) (by (with_reducible repeat (first | refine blk_drewN ?_ _ | refine blk_drew ?_ | refine blk_alloc ?_ _)); refine blk_put (cs := #[.slice Ao13 t323.length co13, .slice none 0 0]) ?_ 1 _ rfl; (with_reducible repeat (first | refine blk_drewN ?_ _ | refine blk_drew ?_ | refine blk_alloc ?_ _)); refine blk_put (cs := #[.slice none 0 0, .slice none 0 0]) ?_ 0 _ rfl; (with_reducible repeat (first | refine blk_drewN ?_ _ | refine blk_drew ?_ | refine blk_alloc ?_ _)); exact BK329.out) hb); have n4_ := Aside0.mk (below_step (by repeat (first | (with_reducible first | exact HB.out | apply below_alloc | apply pw_below_drewN | apply below_drew1 | refine below_set ?_ GE329.out) | exact HB.out)) hb); clear HO325; clear HO328; clear BK329; clear HB; have HO325 := n0_; have HO328 := n1_; have HO332 := n2_; have BK329 := n3_; have HB := n4_; clear n0_ n1_ n2_ n3_ n4_; (try clear hb); (try clear hb2); (try clear hk); (try clear hi); (try clear ho0); have hcz17_0 : w16.cell? ⟨gb329, 0, none⟩ = some (.slice Ao13 t323.length co13) := (blk_cell BK329.out 0).trans rfl; have hcz17_1 : w16.cell? ⟨gb329, 1, none⟩ = some (.slice Ao15 t326.length co15) := (blk_cell BK329.out 1).trans rfl; have hfz17_0 := blk_frozen BK329.out 0; have hfz17_1 := blk_frozen BK329.out 1) | ((with_reducible refine gate_callee (f := 26) rfl ?_); refine goesL_ (some 31) rfl rfl Try.func26 (by kernel_rfl) rfl #[.slice A1 l1.length c1, .int .i64 0, .int .i64 (wrap64 ((t323.length : Int) + 1))] rfl (by (try simp only [List.map_toArray, List.map_cons, List.map_nil]); first | done | rfl | (simp only [List.length_drop, List.length_take]; rfl)) ?_; (with_reducible refine (laws_a2At.calls _ _ l1 0 (wrap64 ((t323.length : Int) + 1)) t333 _ ?side1 ?side2 A7.out).mono ?_); (case side1 => repeat (first | exact (Kd.C_below HR1.out HB.out) | (with_reducible refine Kd.C_alloc ?_ _) | (with_reducible refine Kd.C_drewN ?_ _) | (with_reducible refine Kd.C_drew ?_))); (case side2 => exact HC1.out); rintro e w' ⟨rfl, ⟨nd, rfl⟩⟩; refine ⟨_, rfl, ?_⟩) | ((with_reducible refine gate_callee (f := 26) rfl ?_); refine goesL_ (some 33) rfl rfl Try.func26 (by kernel_rfl) rfl #[.slice A1 l1.length c1, .int .i64 1, .int .i64 8] rfl (by (try simp only [List.map_toArray, List.map_cons, List.map_nil]); first | done | rfl | (simp only [List.length_drop, List.length_take]; rfl)) ?_; (with_reducible refine (laws_a2At.calls _ _ l1 1 8 t334 _ ?side1 ?side2 A8.out).mono ?_); (case side1 => repeat (first | exact (Kd.C_below HR1.out (by repeat (first | (with_reducible first | exact HB.out | apply below_alloc | apply pw_below_drewN | apply below_drew1 | refine below_set ?_ GE329.out) | exact HB.out))) | (with_reducible refine Kd.C_alloc ?_ _) | (with_reducible refine Kd.C_drewN ?_ _) | (with_reducible refine Kd.C_drew ?_))); (case side2 => exact HC1.out); rintro e w' ⟨rfl, ⟨nd, rfl⟩⟩; refine ⟨_, rfl, ?_⟩; obtain ⟨Ao18, co18, eo18⟩ := Kd.R_slice HO332.out; subst eo18) | ((with_reducible refine gate_callee (f := 27) rfl ?_); refine goesL_ (some 40) rfl rfl Try.func27 (by kernel_rfl) rfl #[.slice Ao13 t323.length co13, .int .i64 t333, .slice Ao18 t330.length co18, .int .i64 t334] rfl (by (try simp only [List.map_toArray, List.map_cons, List.map_nil]); first | done | rfl | (simp only [List.length_drop, List.length_take]; rfl)) ?_; (with_reducible refine (impl_LeastGap.calls k _ _ t323 t333 _ _ t330 t334 t335 t336 _ ?side1 ?side2 ?side3 ?side4 A9.out).mono ?_); (case side1 => repeat (first | exact (Kd.R_reads' HO325.out).2.2 | (with_reducible refine Kd.C_alloc ?_ _) | (with_reducible refine Kd.C_drewN ?_ _) | (with_reducible refine Kd.C_drew ?_))); (case side2 => exact (Kd.R_reads' HO325.out).2.1); (case side3 => repeat (first | exact (Kd.R_reads' HO332.out).2.2 | (with_reducible refine Kd.C_alloc ?_ _) | (with_reducible refine Kd.C_drewN ?_ _) | (with_reducible refine Kd.C_drew ?_))); (case side4 => exact (Kd.R_reads' HO332.out).2.1); rintro e w19 ⟨rfl, hb⟩; refine ⟨_, rfl, ?_⟩; have n0_ := Aside0.mk (Kd.R_below (by (with_reducible repeat (first | apply Kd.R_alloc | apply Kd.R_drewN | apply Kd.R_drew)); exact HO325.out) hb); have n1_ := Aside0.mk (Kd.R_below (by (with_reducible repeat (first | apply Kd.R_alloc | apply Kd.R_drewN | apply Kd.R_drew)); exact HO328.out) hb); have n2_ := Aside0.mk (Kd.R_below (by (with_reducible repeat (first | apply Kd.R_alloc | apply Kd.R_drewN | apply Kd.R_drew)); exact HO332.out) hb); have n3_ := Aside0.mk (blk_below (g := gb329) (o := .cells #[.slice Ao13 t323.length co13, .slice Ao15 t326.length co15] 28 (0, 0)) (by (with_reducible repeat (first | refine blk_drewN ?_ _ | refine blk_drew ?_ | refine blk_alloc ?_ _)); exact BK329.out) hb); have n4_ := Aside0.mk (below_step (by repeat (first | (with_reducible first | exact HB.out | apply below_alloc | apply pw_below_drewN | apply below_drew1 | refine below_set ?_ GE329.out) | exact HB.out)) hb); clear HO325; clear HO328; clear HO332; clear BK329; clear HB; have HO325 := n0_; have HO328 := n1_; have HO332 := n2_; have BK329 := n3_; have HB := n4_; clear n0_ n1_ n2_ n3_ n4_; (try clear hb); (try clear hb2); (try clear hk); (try clear hi)))
  (try simp only [Act.put, List.setIfInBounds_toArray, List.set_cons_zero, List.set_cons_succ])
  go_cut [11] (fun v11 wc => ∃ (kq : Nat) (x11_9 : Int), v11 = .int .i64 x11_9 ∧ Aside0 (laws_FnReefGaps.j1 kq t335 t336 x11_9 t323 t326 = some r) ∧ Aside0 (kq ≤ k) ∧ Aside0 (Kd.R (Kd.int .i64) 2 wc w.heap.size (fun k_ => some k_ ≠ ((.slice Ao15 t326.length co15) : Value).ownBlock) (.slice Ao13 t323.length co13) t323) ∧ Aside0 (Kd.R (Kd.int .i64) 2 wc w.heap.size (fun k_ => some k_ ≠ ((.slice Ao13 t323.length co13) : Value).ownBlock) (.slice Ao15 t326.length co15) t326) ∧ Aside0 (wc.heap[gb329]? = some (.cells #[(.slice Ao13 t323.length co13), (.slice Ao15 t326.length co15)] 28 (0, 0))) ∧ Aside0 (Below w.heap.size w wc))
  case first =>
   have H := HC10.out
   clear HC10
   have H' := Aside0.mk H
   clear H
   go_wp2
   go_loopg [11, 12] k (fun kq v11 v12 w' => ∃ (x11_1 : Int) (x12_1 : Int), v11 = .int .i64 x11_1 ∧ v12 = .int .i64 x12_1 ∧ Aside0 (laws_FnReefGaps.l0 kq t330 t333 t334 t335 t336 x11_1 x12_1 t323 t326 = some r) ∧ Aside0 (kq ≤ k) ∧ Aside0 (Kd.R (Kd.int .i64) 2 w' w.heap.size (fun k_ => some k_ ≠ ((.slice Ao13 t323.length co13) : Value).ownBlock ∧ some k_ ≠ ((.slice Ao15 t326.length co15) : Value).ownBlock) (.slice Ao18 t330.length co18) t330) ∧ Aside0 (Kd.R (Kd.int .i64) 2 w' w.heap.size (fun k_ => some k_ ≠ ((.slice Ao18 t330.length co18) : Value).ownBlock ∧ some k_ ≠ ((.slice Ao15 t326.length co15) : Value).ownBlock) (.slice Ao13 t323.length co13) t323) ∧ Aside0 (Kd.R (Kd.int .i64) 2 w' w.heap.size (fun k_ => some k_ ≠ ((.slice Ao18 t330.length co18) : Value).ownBlock ∧ some k_ ≠ ((.slice Ao13 t323.length co13) : Value).ownBlock) (.slice Ao15 t326.length co15) t326) ∧ Aside0 (w'.heap[gb329]? = some (.cells #[(.slice Ao13 t323.length co13), (.slice Ao15 t326.length co15)] 28 (0, 0))) ∧ Aside0 (Below w.heap.size w w'))
   case atStart => exact ⟨((-1)), (0), (by first | rfl | (simp; done) | (simp [*]; done)), (by first | rfl | (simp; done) | (simp [*]; done)), H', ⟨Nat.le_refl _⟩, ⟨by (with_reducible repeat (first | apply Kd.R_alloc | apply Kd.R_drewN | apply Kd.R_drew)); exact Kd.R_mono HO332.out (fun _ hk => ⟨hk.1.2, hk.2⟩)⟩, ⟨by (with_reducible repeat (first | apply Kd.R_alloc | apply Kd.R_drewN | apply Kd.R_drew)); exact Kd.R_mono HO325.out (fun _ hk => ⟨hk.2, hk.1⟩)⟩, ⟨by (with_reducible repeat (first | apply Kd.R_alloc | apply Kd.R_drewN | apply Kd.R_drew)); exact Kd.R_mono HO328.out (fun _ hk => ⟨hk.2, hk.1⟩)⟩, ⟨by (with_reducible repeat (first | refine blk_drewN ?_ _ | refine blk_drew ?_ | refine blk_alloc ?_ _)); exact BK329.out⟩, ⟨by repeat (first | (with_reducible first | exact HB.out | apply below_alloc | apply pw_below_drewN | apply below_drew1 | refine below_set ?_ GE329.out) | exact HB.out)⟩⟩
   case round =>
    clear H'
    try clear c1
    try clear c2
    try clear p2
    try clear c4
    try clear c5
    try clear p6
    try clear hcz14_0
    try clear hcz14_1
    try clear hcz17_0
    try clear hcz17_1
    try clear hfz14_0
    try clear hfz14_1
    try clear hfz17_0
    try clear hfz17_1
    obtain ⟨x11_1, x12_1, rfl, rfl, HA, HK1, HO_6, HO_330000, HO_330001, BK329, HB⟩ := hrel
    cases gk with
    | zero => exact absurd HA.out (by simp [laws_FnReefGaps.l0])
    | succ k1 =>
     have H := HA.out
     clear HA
     simp only [laws_FnReefGaps.l0] at H
     by_cases c20 : x12_1 ≤ 600
     ·rw [if_pos c20] at H
      have c20b0 : decide (x12_1 ≤ 600) = true := decide_eq_true c20
      clear c20
      (first | rw [c20b0] | (simp only [i64_w, i32_w]; rw [c20b0]) | skip)
      replace H := Option.bind_eq_some_iff.mp H
      obtain ⟨⟨t337, t340, t343⟩, A210, H⟩ := H
      replace H : (if t343 = 0 then ((spec_CountChanges.f k1 t337 t340 t333 t330).bind fun bt345 => (if bt345.2 = 0 then (if bt345.1 ≤ t334 then (laws_FnReefGaps.j1 k1 t335 t336 x12_1 t323 t326) else (laws_FnReefGaps.l0 k1 t330 t333 t334 t335 t336 x11_1 (wrap64 (x12_1 + 1)) t323 t326)) else (laws_FnReefGaps.l0 k1 t330 t333 t334 t335 t336 x11_1 (wrap64 (x12_1 + 1)) t323 t326))) else (laws_FnReefGaps.j1 k1 t335 t336 x11_1 t323 t326)) = some r := H
      have A21 := Aside0.mk A210
      clear A210
      have HF_ := Aside0.mk H
      clear H
      have hcz22_0 : wr.cell? ⟨gb329, 0, none⟩ = some (.slice Ao13 t323.length co13) := (blk_cell BK329.out 0).trans rfl
      have hcz22_1 : wr.cell? ⟨gb329, 1, none⟩ = some (.slice Ao15 t326.length co15) := (blk_cell BK329.out 1).trans rfl
      have hfz22_0 := blk_frozen BK329.out 0
      have hfz22_1 := blk_frozen BK329.out 1
      go_upto_if 55 with (first | ((with_reducible refine gate_callee (f := 28) rfl ?_); refine goesL_ (some 51) rfl rfl Try.func28 (by kernel_rfl) rfl #[.slice Ao13 t323.length co13, .int .i64 x12_1] rfl (by (try simp only [List.map_toArray, List.map_cons, List.map_nil]); first | done | rfl | (simp only [List.length_drop, List.length_take]; rfl)) ?_; (with_reducible refine (spec_EvenReefing.calls k1 _ _ t323 x12_1 t337 t340 t343 _ ?side1 ?side2 A21.out).mono ?_); (case side1 => repeat (first | exact (Kd.R_reads' HO_330000.out).2.2 | (with_reducible refine Kd.C_alloc ?_ _) | (with_reducible refine Kd.C_drewN ?_ _) | (with_reducible refine Kd.C_drew ?_))); (case side2 => exact (Kd.R_reads' HO_330000.out).2.1); rintro e w23 ⟨v338, v341, rfl, ho0, ho1, hb⟩; refine ⟨_, rfl, ?_⟩; have n0_ := Aside0.mk (Kd.R_mono (Kd.R_told (Kd.R_told (Kd.R_old (by (with_reducible repeat (first | apply Kd.R_alloc | apply Kd.R_drewN | apply Kd.R_drew)); exact HO_6.out) hb) (Kd.R_base ho0)) (Kd.R_base ho1)) (fun _ h_ => h_.1)); have n1_ := Aside0.mk (Kd.R_mono (Kd.R_told (Kd.R_told (Kd.R_old (by (with_reducible repeat (first | apply Kd.R_alloc | apply Kd.R_drewN | apply Kd.R_drew)); exact HO_330000.out) hb) (Kd.R_base ho0)) (Kd.R_base ho1)) (fun _ h_ => h_.1)); have n2_ := Aside0.mk (Kd.R_mono (Kd.R_told (Kd.R_told (Kd.R_old (by (with_reducible repeat (first | apply Kd.R_alloc | apply Kd.R_drewN | apply Kd.R_drew)); exact HO_330001.out) hb) (Kd.R_base ho0)) (Kd.R_base ho1)) (fun _ h_ => h_.1)); have n3_ := Aside0.mk (Kd.R_lower (Kd.R_new' (Kd.R_new' (Kd.R_new' ho0 (Kd.R_lt (by (with_reducible repeat (first | apply Kd.R_alloc | apply Kd.R_drewN | apply Kd.R_drew)); exact HO_6.out))) (Kd.R_lt (by (with_reducible repeat (first | apply Kd.R_alloc | apply Kd.R_drewN | apply Kd.R_drew)); exact HO_330000.out))) (Kd.R_lt (by (with_reducible repeat (first | apply Kd.R_alloc | apply Kd.R_drewN | apply Kd.R_drew)); exact HO_330001.out))) (below_size (by repeat (first | (with_reducible first | exact HB.out | apply below_alloc | apply pw_below_drewN | apply below_drew1 | refine below_set ?_ GE329.out) | exact HB.out)))); have n4_ := Aside0.mk (Kd.R_lower (Kd.R_new' (Kd.R_new' (Kd.R_new' ho1 (Kd.R_lt (by (with_reducible repeat (first | apply Kd.R_alloc | apply Kd.R_drewN | apply Kd.R_drew)); exact HO_6.out))) (Kd.R_lt (by (with_reducible repeat (first | apply Kd.R_alloc | apply Kd.R_drewN | apply Kd.R_drew)); exact HO_330000.out))) (Kd.R_lt (by (with_reducible repeat (first | apply Kd.R_alloc | apply Kd.R_drewN | apply Kd.R_drew)); exact HO_330001.out))) (below_size (by repeat (first | (with_reducible first | exact HB.out | apply below_alloc | apply pw_below_drewN | apply below_drew1 | refine below_set ?_ GE329.out) | exact HB.out)))); have n5_ := Aside0.mk (blk_below (g := gb329) (o := .cells #[.slice Ao13 t323.length co13, .slice Ao15 t326.length co15] 28 (0, 0)) (by (with_reducible repeat (first | refine blk_drewN ?_ _ | refine blk_drew ?_ | refine blk_alloc ?_ _)); exact BK329.out) hb); have n6_ := Aside0.mk (below_step (by repeat (first | (with_reducible first | exact HB.out | apply below_alloc | apply pw_below_drewN | apply below_drew1 | refine below_set ?_ GE329.out) | exact HB.out)) hb); clear HO_6; clear HO_330000; clear HO_330001; clear BK329; clear HB; have HO_6 := n0_; have HO_330000 := n1_; have HO_330001 := n2_; have HO339 := n3_; have HO342 := n4_; have BK329 := n5_; have HB := n6_; clear n0_ n1_ n2_ n3_ n4_ n5_ n6_; (try clear hb); (try clear hb2); (try clear hk); (try clear hi); (try clear ho0); (try clear ho1)) | ((with_reducible refine gate_dst (N := 13) rfl ?_); (try (refine gate_guard (by rfl) ?_; dsimp only)); refine box_event ?hg (N := 13) ?hd (cs := #[.slice none 0 0, .slice none 0 0]) (t := 28) ?hr ?_; (case hd => rfl); (case hg => rfl); (case hr => first | (go_simp; done) | (go_simp; rfl)); intro gb344 hg w24 hbox hb; have n0_ := Aside0.mk (Kd.R_below (by (with_reducible repeat (first | apply Kd.R_alloc | apply Kd.R_drewN | apply Kd.R_drew)); exact HO_6.out) hb); have n1_ := Aside0.mk (Kd.R_below (by (with_reducible repeat (first | apply Kd.R_alloc | apply Kd.R_drewN | apply Kd.R_drew)); exact HO_330000.out) hb); have n2_ := Aside0.mk (Kd.R_below (by (with_reducible repeat (first | apply Kd.R_alloc | apply Kd.R_drewN | apply Kd.R_drew)); exact HO_330001.out) hb); have n3_ := Aside0.mk (Kd.R_below (by (with_reducible repeat (first | apply Kd.R_alloc | apply Kd.R_drewN | apply Kd.R_drew)); exact HO339.out) hb); have n4_ := Aside0.mk (Kd.R_below (by (with_reducible repeat (first | apply Kd.R_alloc | apply Kd.R_drewN | apply Kd.R_drew)); exact HO342.out) hb); have n5_ := Aside0.mk (blk_below (g := gb329) (o := .cells #[.slice Ao13 t323.length co13, .slice Ao15 t326.length co15] 28 (0, 0)) (by (with_reducible repeat (first | refine blk_drewN ?_ _ | refine blk_drew ?_ | refine blk_alloc ?_ _)); exact BK329.out) hb); have n6_ := Aside0.mk (below_step (by repeat (first | (with_reducible first | exact HB.out | apply below_alloc | apply pw_below_drewN | apply below_drew1 | refine below_set ?_ GE329.out) | exact HB.out)) hb); have n7_ := Aside0.mk (hbox); have n8_ := Aside0.mk ((by rw [hg]; exact (below_size (by repeat (first | (with_reducible first | exact HB.out | apply below_alloc | apply pw_below_drewN | apply below_drew1 | refine below_set ?_ GE329.out) | exact HB.out))) : w.heap.size ≤ gb344)); have n9_ := Aside0.mk ((by rw [hg]; exact (below_size (by repeat (first | (with_reducible first | exact HB.out | apply below_alloc | apply pw_below_drewN | apply below_drew1 | refine below_set ?_ GE329.out) | exact HB.out))) : w.heap.size ≤ gb344)); have n10_ := Aside0.mk ((by rw [hg]; exact Nat.ne_of_lt (blk_lt (g := gb329) (o := .cells #[.slice Ao13 t323.length co13, .slice Ao15 t326.length co15] 28 (0, 0)) (by (with_reducible repeat (first | refine blk_drewN ?_ _ | refine blk_drew ?_ | refine blk_alloc ?_ _)); exact BK329.out)) : gb329 ≠ gb344)); have n11_ := Aside0.mk ((by rw [hg]; exact Nat.ne_of_gt (blk_lt (g := gb329) (o := .cells #[.slice Ao13 t323.length co13, .slice Ao15 t326.length co15] 28 (0, 0)) (by (with_reducible repeat (first | refine blk_drewN ?_ _ | refine blk_drew ?_ | refine blk_alloc ?_ _)); exact BK329.out)) : gb344 ≠ gb329)); clear HO_6; clear HO_330000; clear HO_330001; clear HO339; clear HO342; clear BK329; clear HB; have HO_6 := n0_; have HO_330000 := n1_; have HO_330001 := n2_; have HO339 := n3_; have HO342 := n4_; have BK329 := n5_; have HB := n6_; have BK344 := n7_; have GW344 := n8_; have GE344 := n9_; have NB329_344 := n10_; have NB344_329 := n11_; clear n0_ n1_ n2_ n3_ n4_ n5_ n6_ n7_ n8_ n9_ n10_ n11_; clear hb hbox hg; obtain ⟨Ao25, co25, eo25⟩ := Kd.R_slice HO339.out; subst eo25; have hnb26 := NB344_329.out; have hnc26 := NB329_344.out; have hcz27_0 : w24.cell? ⟨gb344, 0, none⟩ = some (.slice none 0 0) := (blk_cell BK344.out 0).trans rfl; have hcz27_1 : w24.cell? ⟨gb344, 1, none⟩ = some (.slice none 0 0) := (blk_cell BK344.out 1).trans rfl; have hfz27_0 := blk_frozen BK344.out 0; have hfz27_1 := blk_frozen BK344.out 1; obtain ⟨Ao28, co28, eo28⟩ := Kd.R_slice HO342.out; subst eo28))
      (try simp only [Act.put, List.setIfInBounds_toArray, List.set_cons_zero, List.set_cons_succ])
      have H := HF_.out
      clear HF_
      by_cases c29 : t343 = 0
      ·rw [if_pos c29] at H
       have c29b0 : (t343 == 0) = true := beq_iff_eq.mpr c29
       have c29b1 : (t343 != 0) = false := bne_eq_false_iff_eq.mpr c29
       clear c29
       (first | rw [c29b0] | (simp only [i64_w, i32_w]; rw [c29b0]) | skip)
       replace H := Option.bind_eq_some_iff.mp H
       obtain ⟨⟨t345, t346⟩, A300, H⟩ := H
       replace H : (if t346 = 0 then (if t345 ≤ t334 then (laws_FnReefGaps.j1 k1 t335 t336 x12_1 t323 t326) else (laws_FnReefGaps.l0 k1 t330 t333 t334 t335 t336 x11_1 (wrap64 (x12_1 + 1)) t323 t326)) else (laws_FnReefGaps.l0 k1 t330 t333 t334 t335 t336 x11_1 (wrap64 (x12_1 + 1)) t323 t326)) = some r := H
       have A30 := Aside0.mk A300
       clear A300
       by_cases c31 : t346 = 0
       ·rw [if_pos c31] at H
        have c31b0 : (t346 == 0) = true := beq_iff_eq.mpr c31
        have c31b1 : (t346 != 0) = false := bne_eq_false_iff_eq.mpr c31
        clear c31
        by_cases c32 : t345 ≤ t334
        ·rw [if_pos c32] at H
         have c32b0 : decide (t345 ≤ t334) = true := decide_eq_true c32
         clear c32
         have H' := Aside0.mk H
         clear H
         have hnb33 := NB344_329.out
         have hnc33 := NB329_344.out
         have hcz34_0 : w24.cell? ⟨gb344, 0, none⟩ = some (.slice none 0 0) := (blk_cell BK344.out 0).trans rfl
         have hcz34_1 : w24.cell? ⟨gb344, 1, none⟩ = some (.slice none 0 0) := (blk_cell BK344.out 1).trans rfl
         have hfz34_0 := blk_frozen BK344.out 0
         have hfz34_1 := blk_frozen BK344.out 1
         go_wp2_with (first | ((with_reducible refine gate_callee (f := 29) rfl ?_); refine goesL_ (some 60) rfl rfl Try.func29 (by kernel_rfl) rfl #[.agg #[.slice Ao25 t337.length co25, .slice Ao28 t340.length co28], .int .i64 t333, .slice Ao18 t330.length co18] rfl (by (try simp only [List.map_toArray, List.map_cons, List.map_nil]); first | done | rfl | (simp only [List.length_drop, List.length_take]; rfl)) ?_; (with_reducible refine (spec_CountChanges.calls k1 _ _ t337 _ _ t340 t333 _ _ t330 t345 t346 _ ?side1 ?side2 ?side3 ?side4 ?side5 ?side6 A30.out).mono ?_); (case side1 => refine (Kd.R_reads' (e := 2) (base := w.heap.size) (ok := fun k_ => (((some k_ ≠ (.slice Ao28 t340.length co28 : Value).ownBlock ∧ some k_ ≠ (.slice Ao18 t330.length co18 : Value).ownBlock) ∧ some k_ ≠ (.slice Ao13 t323.length co13 : Value).ownBlock) ∧ some k_ ≠ (.slice Ao15 t326.length co15 : Value).ownBlock)) (n := t337.length) (c := co25) ?_).2.2; exact (by (with_reducible repeat (first | apply Kd.R_alloc | apply Kd.R_drewN | apply Kd.R_drew)); exact (Kd.R_mono (Kd.R_far (p := ⟨gb344, 1, none⟩) (Kd.R_far (p := ⟨gb344, 0, none⟩) (Kd.R_types HO339.out BK344.out (by decide)) (fun _ hk => hk.2) (.slice Ao25 t337.length co25)) (fun _ hk => hk.2) (.slice Ao28 t340.length co28)) (fun _ h_ => h_.1)))); (case side2 => exact (Kd.R_reads' HO339.out).2.1); (case side3 => refine (Kd.R_reads' (e := 2) (base := w.heap.size) (ok := fun k_ => (((some k_ ≠ (.slice Ao25 t337.length co25 : Value).ownBlock ∧ some k_ ≠ (.slice Ao18 t330.length co18 : Value).ownBlock) ∧ some k_ ≠ (.slice Ao13 t323.length co13 : Value).ownBlock) ∧ some k_ ≠ (.slice Ao15 t326.length co15 : Value).ownBlock)) (n := t340.length) (c := co28) ?_).2.2; exact (by (with_reducible repeat (first | apply Kd.R_alloc | apply Kd.R_drewN | apply Kd.R_drew)); exact (Kd.R_mono (Kd.R_far (p := ⟨gb344, 1, none⟩) (Kd.R_far (p := ⟨gb344, 0, none⟩) (Kd.R_types HO342.out BK344.out (by decide)) (fun _ hk => hk.2) (.slice Ao25 t337.length co25)) (fun _ hk => hk.2) (.slice Ao28 t340.length co28)) (fun _ h_ => h_.1)))); (case side4 => exact (Kd.R_reads' HO342.out).2.1); (case side5 => refine (Kd.R_reads' (e := 2) (base := w.heap.size) (ok := fun k_ => (((some k_ ≠ (.slice Ao13 t323.length co13 : Value).ownBlock ∧ some k_ ≠ (.slice Ao15 t326.length co15 : Value).ownBlock) ∧ some k_ ≠ (.slice Ao25 t337.length co25 : Value).ownBlock) ∧ some k_ ≠ (.slice Ao28 t340.length co28 : Value).ownBlock)) (n := t330.length) (c := co18) ?_).2.2; exact (by (with_reducible repeat (first | apply Kd.R_alloc | apply Kd.R_drewN | apply Kd.R_drew)); exact (Kd.R_mono (Kd.R_far (p := ⟨gb344, 1, none⟩) (Kd.R_far (p := ⟨gb344, 0, none⟩) (Kd.R_types HO_6.out BK344.out (by decide)) (fun _ hk => hk.2) (.slice Ao25 t337.length co25)) (fun _ hk => hk.2) (.slice Ao28 t340.length co28)) (fun _ h_ => h_.1)))); (case side6 => exact (Kd.R_reads' HO_6.out).2.1); rintro e w35 ⟨rfl, hb⟩; refine ⟨_, rfl, ?_⟩; have n0_ := Aside0.mk (Kd.R_below (by (with_reducible repeat (first | apply Kd.R_alloc | apply Kd.R_drewN | apply Kd.R_drew)); exact (Kd.R_mono (Kd.R_far (p := ⟨gb344, 1, none⟩) (Kd.R_far (p := ⟨gb344, 0, none⟩) (Kd.R_types HO_6.out BK344.out (by decide)) (fun _ hk => hk.2) (.slice Ao25 t337.length co25)) (fun _ hk => hk.2) (.slice Ao28 t340.length co28)) (fun _ h_ => h_.1))) hb); have n1_ := Aside0.mk (Kd.R_below (by (with_reducible repeat (first | apply Kd.R_alloc | apply Kd.R_drewN | apply Kd.R_drew)); exact (Kd.R_mono (Kd.R_far (p := ⟨gb344, 1, none⟩) (Kd.R_far (p := ⟨gb344, 0, none⟩) (Kd.R_types HO_330000.out BK344.out (by decide)) (fun _ hk => hk.2) (.slice Ao25 t337.length co25)) (fun _ hk => hk.2) (.slice Ao28 t340.length co28)) (fun _ h_ => h_.1))) hb); have n2_ := Aside0.mk (Kd.R_below (by (with_reducible repeat (first | apply Kd.R_alloc | apply Kd.R_drewN | apply Kd.R_drew)); exact (Kd.R_mono (Kd.R_far (p := ⟨gb344, 1, none⟩) (Kd.R_far (p := ⟨gb344, 0, none⟩) (Kd.R_types HO_330001.out BK344.out (by decide)) (fun _ hk => hk.2) (.slice Ao25 t337.length co25)) (fun _ hk => hk.2) (.slice Ao28 t340.length co28)) (fun _ h_ => h_.1))) hb); have n3_ := Aside0.mk (Kd.R_below (by (with_reducible repeat (first | apply Kd.R_alloc | apply Kd.R_drewN | apply Kd.R_drew)); exact (Kd.R_mono (Kd.R_far (p := ⟨gb344, 1, none⟩) (Kd.R_far (p := ⟨gb344, 0, none⟩) (Kd.R_types HO339.out BK344.out (by decide)) (fun _ hk => hk.2) (.slice Ao25 t337.length co25)) (fun _ hk => hk.2) (.slice Ao28 t340.length co28)) (fun _ h_ => h_.1))) hb); have n4_ := Aside0.mk (Kd.R_below (by (with_reducible repeat (first | apply Kd.R_alloc | apply Kd.R_drewN | apply Kd.R_drew)); exact (Kd.R_mono (Kd.R_far (p := ⟨gb344, 1, none⟩) (Kd.R_far (p := ⟨gb344, 0, none⟩) (Kd.R_types HO342.out BK344.out (by decide)) (fun _ hk => hk.2) (.slice Ao25 t337.length co25)) (fun _ hk => hk.2) (.slice Ao28 t340.length co28)) (fun _ h_ => h_.1))) hb); have n5_ := Aside0.mk (blk_below (g := gb329) (o := .cells #[.slice Ao13 t323.length co13, .slice Ao15 t326.length co15] 28 (0, 0)) (by (with_reducible repeat (first | refine blk_drewN ?_ _ | refine blk_drew ?_ | refine blk_alloc ?_ _)); refine blk_far ?_ NB329_344.out _; (with_reducible repeat (first | refine blk_drewN ?_ _ | refine blk_drew ?_ | refine blk_alloc ?_ _)); refine blk_far ?_ NB329_344.out _; (with_reducible repeat (first | refine blk_drewN ?_ _ | refine blk_drew ?_ | refine blk_alloc ?_ _)); exact BK329.out) hb); have n6_ := Aside0.mk (blk_below (g := gb344) (o := .cells #[.slice Ao25 t337.length co25, .slice Ao28 t340.length co28] 28 (0, 0)) (by (with_reducible repeat (first | refine blk_drewN ?_ _ | refine blk_drew ?_ | refine blk_alloc ?_ _)); refine blk_put (cs := #[.slice Ao25 t337.length co25, .slice none 0 0]) ?_ 1 _ rfl; (with_reducible repeat (first | refine blk_drewN ?_ _ | refine blk_drew ?_ | refine blk_alloc ?_ _)); refine blk_put (cs := #[.slice none 0 0, .slice none 0 0]) ?_ 0 _ rfl; (with_reducible repeat (first | refine blk_drewN ?_ _ | refine blk_drew ?_ | refine blk_alloc ?_ _)); exact BK344.out) hb); have n7_ := Aside0.mk (below_step (by repeat (first | (with_reducible first | exact HB.out | apply below_alloc | apply pw_below_drewN | apply below_drew1 | refine below_set ?_ GE329.out | refine below_set ?_ GE344.out) | exact HB.out)) hb); clear HO_6; clear HO_330000; clear HO_330001; clear HO339; clear HO342; clear BK329; clear BK344; clear HB; have HO_6 := n0_; have HO_330000 := n1_; have HO_330001 := n2_; have HO339 := n3_; have HO342 := n4_; have BK329 := n5_; have BK344 := n6_; have HB := n7_; clear n0_ n1_ n2_ n3_ n4_ n5_ n6_ n7_; (try clear hb); (try clear hb2); (try clear hk); (try clear hi)))
         go_meet
         case rel => exact ⟨_, (x12_1), (by first | rfl | (simp; done) | (simp [*]; done)), H', ⟨by have := HK1.out; first | omega | exact Nat.le_refl _⟩, ⟨by (with_reducible repeat (first | apply Kd.R_alloc | apply Kd.R_drewN | apply Kd.R_drew)); exact Kd.R_mono HO_330000.out (fun _ hk => hk.1.1.2)⟩, ⟨by (with_reducible repeat (first | apply Kd.R_alloc | apply Kd.R_drewN | apply Kd.R_drew)); exact Kd.R_mono HO_330001.out (fun _ hk => hk.1.1.2)⟩, ⟨by (with_reducible repeat (first | refine blk_drewN ?_ _ | refine blk_drew ?_ | refine blk_alloc ?_ _)); exact BK329.out⟩, ⟨by repeat (first | (with_reducible first | exact HB.out | apply below_alloc | apply pw_below_drewN | apply below_drew1 | refine below_set ?_ GE329.out | refine below_set ?_ GE344.out) | exact HB.out)⟩⟩
        ·rw [if_neg c32] at H
         have c32b0 : decide (t345 ≤ t334) = false := decide_eq_false c32
         clear c32
         have H' := Aside0.mk H
         clear H
         have hnb36 := NB344_329.out
         have hnc36 := NB329_344.out
         have hcz37_0 : w24.cell? ⟨gb344, 0, none⟩ = some (.slice none 0 0) := (blk_cell BK344.out 0).trans rfl
         have hcz37_1 : w24.cell? ⟨gb344, 1, none⟩ = some (.slice none 0 0) := (blk_cell BK344.out 1).trans rfl
         have hfz37_0 := blk_frozen BK344.out 0
         have hfz37_1 := blk_frozen BK344.out 1
         go_wp2_with (first | ((with_reducible refine gate_callee (f := 29) rfl ?_); refine goesL_ (some 60) rfl rfl Try.func29 (by kernel_rfl) rfl #[.agg #[.slice Ao25 t337.length co25, .slice Ao28 t340.length co28], .int .i64 t333, .slice Ao18 t330.length co18] rfl (by (try simp only [List.map_toArray, List.map_cons, List.map_nil]); first | done | rfl | (simp only [List.length_drop, List.length_take]; rfl)) ?_; (with_reducible refine (spec_CountChanges.calls k1 _ _ t337 _ _ t340 t333 _ _ t330 t345 t346 _ ?side1 ?side2 ?side3 ?side4 ?side5 ?side6 A30.out).mono ?_); (case side1 => refine (Kd.R_reads' (e := 2) (base := w.heap.size) (ok := fun k_ => (((some k_ ≠ (.slice Ao28 t340.length co28 : Value).ownBlock ∧ some k_ ≠ (.slice Ao18 t330.length co18 : Value).ownBlock) ∧ some k_ ≠ (.slice Ao13 t323.length co13 : Value).ownBlock) ∧ some k_ ≠ (.slice Ao15 t326.length co15 : Value).ownBlock)) (n := t337.length) (c := co25) ?_).2.2; exact (by (with_reducible repeat (first | apply Kd.R_alloc | apply Kd.R_drewN | apply Kd.R_drew)); exact (Kd.R_mono (Kd.R_far (p := ⟨gb344, 1, none⟩) (Kd.R_far (p := ⟨gb344, 0, none⟩) (Kd.R_types HO339.out BK344.out (by decide)) (fun _ hk => hk.2) (.slice Ao25 t337.length co25)) (fun _ hk => hk.2) (.slice Ao28 t340.length co28)) (fun _ h_ => h_.1)))); (case side2 => exact (Kd.R_reads' HO339.out).2.1); (case side3 => refine (Kd.R_reads' (e := 2) (base := w.heap.size) (ok := fun k_ => (((some k_ ≠ (.slice Ao25 t337.length co25 : Value).ownBlock ∧ some k_ ≠ (.slice Ao18 t330.length co18 : Value).ownBlock) ∧ some k_ ≠ (.slice Ao13 t323.length co13 : Value).ownBlock) ∧ some k_ ≠ (.slice Ao15 t326.length co15 : Value).ownBlock)) (n := t340.length) (c := co28) ?_).2.2; exact (by (with_reducible repeat (first | apply Kd.R_alloc | apply Kd.R_drewN | apply Kd.R_drew)); exact (Kd.R_mono (Kd.R_far (p := ⟨gb344, 1, none⟩) (Kd.R_far (p := ⟨gb344, 0, none⟩) (Kd.R_types HO342.out BK344.out (by decide)) (fun _ hk => hk.2) (.slice Ao25 t337.length co25)) (fun _ hk => hk.2) (.slice Ao28 t340.length co28)) (fun _ h_ => h_.1)))); (case side4 => exact (Kd.R_reads' HO342.out).2.1); (case side5 => refine (Kd.R_reads' (e := 2) (base := w.heap.size) (ok := fun k_ => (((some k_ ≠ (.slice Ao13 t323.length co13 : Value).ownBlock ∧ some k_ ≠ (.slice Ao15 t326.length co15 : Value).ownBlock) ∧ some k_ ≠ (.slice Ao25 t337.length co25 : Value).ownBlock) ∧ some k_ ≠ (.slice Ao28 t340.length co28 : Value).ownBlock)) (n := t330.length) (c := co18) ?_).2.2; exact (by (with_reducible repeat (first | apply Kd.R_alloc | apply Kd.R_drewN | apply Kd.R_drew)); exact (Kd.R_mono (Kd.R_far (p := ⟨gb344, 1, none⟩) (Kd.R_far (p := ⟨gb344, 0, none⟩) (Kd.R_types HO_6.out BK344.out (by decide)) (fun _ hk => hk.2) (.slice Ao25 t337.length co25)) (fun _ hk => hk.2) (.slice Ao28 t340.length co28)) (fun _ h_ => h_.1)))); (case side6 => exact (Kd.R_reads' HO_6.out).2.1); rintro e w38 ⟨rfl, hb⟩; refine ⟨_, rfl, ?_⟩; have n0_ := Aside0.mk (Kd.R_below (by (with_reducible repeat (first | apply Kd.R_alloc | apply Kd.R_drewN | apply Kd.R_drew)); exact (Kd.R_mono (Kd.R_far (p := ⟨gb344, 1, none⟩) (Kd.R_far (p := ⟨gb344, 0, none⟩) (Kd.R_types HO_6.out BK344.out (by decide)) (fun _ hk => hk.2) (.slice Ao25 t337.length co25)) (fun _ hk => hk.2) (.slice Ao28 t340.length co28)) (fun _ h_ => h_.1))) hb); have n1_ := Aside0.mk (Kd.R_below (by (with_reducible repeat (first | apply Kd.R_alloc | apply Kd.R_drewN | apply Kd.R_drew)); exact (Kd.R_mono (Kd.R_far (p := ⟨gb344, 1, none⟩) (Kd.R_far (p := ⟨gb344, 0, none⟩) (Kd.R_types HO_330000.out BK344.out (by decide)) (fun _ hk => hk.2) (.slice Ao25 t337.length co25)) (fun _ hk => hk.2) (.slice Ao28 t340.length co28)) (fun _ h_ => h_.1))) hb); have n2_ := Aside0.mk (Kd.R_below (by (with_reducible repeat (first | apply Kd.R_alloc | apply Kd.R_drewN | apply Kd.R_drew)); exact (Kd.R_mono (Kd.R_far (p := ⟨gb344, 1, none⟩) (Kd.R_far (p := ⟨gb344, 0, none⟩) (Kd.R_types HO_330001.out BK344.out (by decide)) (fun _ hk => hk.2) (.slice Ao25 t337.length co25)) (fun _ hk => hk.2) (.slice Ao28 t340.length co28)) (fun _ h_ => h_.1))) hb); have n3_ := Aside0.mk (Kd.R_below (by (with_reducible repeat (first | apply Kd.R_alloc | apply Kd.R_drewN | apply Kd.R_drew)); exact (Kd.R_mono (Kd.R_far (p := ⟨gb344, 1, none⟩) (Kd.R_far (p := ⟨gb344, 0, none⟩) (Kd.R_types HO339.out BK344.out (by decide)) (fun _ hk => hk.2) (.slice Ao25 t337.length co25)) (fun _ hk => hk.2) (.slice Ao28 t340.length co28)) (fun _ h_ => h_.1))) hb); have n4_ := Aside0.mk (Kd.R_below (by (with_reducible repeat (first | apply Kd.R_alloc | apply Kd.R_drewN | apply Kd.R_drew)); exact (Kd.R_mono (Kd.R_far (p := ⟨gb344, 1, none⟩) (Kd.R_far (p := ⟨gb344, 0, none⟩) (Kd.R_types HO342.out BK344.out (by decide)) (fun _ hk => hk.2) (.slice Ao25 t337.length co25)) (fun _ hk => hk.2) (.slice Ao28 t340.length co28)) (fun _ h_ => h_.1))) hb); have n5_ := Aside0.mk (blk_below (g := gb329) (o := .cells #[.slice Ao13 t323.length co13, .slice Ao15 t326.length co15] 28 (0, 0)) (by (with_reducible repeat (first | refine blk_drewN ?_ _ | refine blk_drew ?_ | refine blk_alloc ?_ _)); refine blk_far ?_ NB329_344.out _; (with_reducible repeat (first | refine blk_drewN ?_ _ | refine blk_drew ?_ | refine blk_alloc ?_ _)); refine blk_far ?_ NB329_344.out _; (with_reducible repeat (first | refine blk_drewN ?_ _ | refine blk_drew ?_ | refine blk_alloc ?_ _)); exact BK329.out) hb); have n6_ := Aside0.mk (blk_below (g := gb344) (o := .cells #[.slice Ao25 t337.length co25, .slice Ao28 t340.length co28] 28 (0, 0)) (by (with_reducible repeat (first | refine blk_drewN ?_ _ | refine blk_drew ?_ | refine blk_alloc ?_ _)); refine blk_put (cs := #[.slice Ao25 t337.length co25, .slice none 0 0]) ?_ 1 _ rfl; (with_reducible repeat (first | refine blk_drewN ?_ _ | refine blk_drew ?_ | refine blk_alloc ?_ _)); refine blk_put (cs := #[.slice none 0 0, .slice none 0 0]) ?_ 0 _ rfl; (with_reducible repeat (first | refine blk_drewN ?_ _ | refine blk_drew ?_ | refine blk_alloc ?_ _)); exact BK344.out) hb); have n7_ := Aside0.mk (below_step (by repeat (first | (with_reducible first | exact HB.out | apply below_alloc | apply pw_below_drewN | apply below_drew1 | refine below_set ?_ GE329.out | refine below_set ?_ GE344.out) | exact HB.out)) hb); clear HO_6; clear HO_330000; clear HO_330001; clear HO339; clear HO342; clear BK329; clear BK344; clear HB; have HO_6 := n0_; have HO_330000 := n1_; have HO_330001 := n2_; have HO339 := n3_; have HO342 := n4_; have BK329 := n5_; have BK344 := n6_; have HB := n7_; clear n0_ n1_ n2_ n3_ n4_ n5_ n6_ n7_; (try clear hb); (try clear hb2); (try clear hk); (try clear hi)))
         go_roundg k1
         case measure => have := HK1.out; omega
         case rel => exact ⟨(x11_1), (wrap64 (x12_1 + 1)), (by first | rfl | (simp; done) | (simp [*]; done)), (by first | rfl | (simp; done) | (simp [*]; done)), H', ⟨by have := HK1.out; omega⟩, ⟨by (with_reducible repeat (first | apply Kd.R_alloc | apply Kd.R_drewN | apply Kd.R_drew)); exact Kd.R_mono HO_6.out (fun _ hk => ⟨hk.1.1.1, hk.1.1.2⟩)⟩, ⟨by (with_reducible repeat (first | apply Kd.R_alloc | apply Kd.R_drewN | apply Kd.R_drew)); exact Kd.R_mono HO_330000.out (fun _ hk => ⟨hk.1.1.1, hk.1.1.2⟩)⟩, ⟨by (with_reducible repeat (first | apply Kd.R_alloc | apply Kd.R_drewN | apply Kd.R_drew)); exact Kd.R_mono HO_330001.out (fun _ hk => ⟨hk.1.1.1, hk.1.1.2⟩)⟩, ⟨by (with_reducible repeat (first | refine blk_drewN ?_ _ | refine blk_drew ?_ | refine blk_alloc ?_ _)); exact BK329.out⟩, ⟨by repeat (first | (with_reducible first | exact HB.out | apply below_alloc | apply pw_below_drewN | apply below_drew1 | refine below_set ?_ GE329.out | refine below_set ?_ GE344.out) | exact HB.out)⟩⟩
       ·rw [if_neg c31] at H
        have c31b0 : (t346 == 0) = false := beq_eq_false_iff_ne.mpr c31
        have c31b1 : (t346 != 0) = true := bne_iff_ne.mpr c31
        have H' := Aside0.mk H
        clear H
        have hnb39 := NB344_329.out
        have hnc39 := NB329_344.out
        have hcz40_0 : w24.cell? ⟨gb344, 0, none⟩ = some (.slice none 0 0) := (blk_cell BK344.out 0).trans rfl
        have hcz40_1 : w24.cell? ⟨gb344, 1, none⟩ = some (.slice none 0 0) := (blk_cell BK344.out 1).trans rfl
        have hfz40_0 := blk_frozen BK344.out 0
        have hfz40_1 := blk_frozen BK344.out 1
        go_wp2_with (first | ((with_reducible refine gate_callee (f := 29) rfl ?_); refine goesL_ (some 60) rfl rfl Try.func29 (by kernel_rfl) rfl #[.agg #[.slice Ao25 t337.length co25, .slice Ao28 t340.length co28], .int .i64 t333, .slice Ao18 t330.length co18] rfl (by (try simp only [List.map_toArray, List.map_cons, List.map_nil]); first | done | rfl | (simp only [List.length_drop, List.length_take]; rfl)) ?_; (with_reducible refine (spec_CountChanges.calls k1 _ _ t337 _ _ t340 t333 _ _ t330 t345 t346 _ ?side1 ?side2 ?side3 ?side4 ?side5 ?side6 A30.out).mono ?_); (case side1 => refine (Kd.R_reads' (e := 2) (base := w.heap.size) (ok := fun k_ => (((some k_ ≠ (.slice Ao28 t340.length co28 : Value).ownBlock ∧ some k_ ≠ (.slice Ao18 t330.length co18 : Value).ownBlock) ∧ some k_ ≠ (.slice Ao13 t323.length co13 : Value).ownBlock) ∧ some k_ ≠ (.slice Ao15 t326.length co15 : Value).ownBlock)) (n := t337.length) (c := co25) ?_).2.2; exact (by (with_reducible repeat (first | apply Kd.R_alloc | apply Kd.R_drewN | apply Kd.R_drew)); exact (Kd.R_mono (Kd.R_far (p := ⟨gb344, 1, none⟩) (Kd.R_far (p := ⟨gb344, 0, none⟩) (Kd.R_types HO339.out BK344.out (by decide)) (fun _ hk => hk.2) (.slice Ao25 t337.length co25)) (fun _ hk => hk.2) (.slice Ao28 t340.length co28)) (fun _ h_ => h_.1)))); (case side2 => exact (Kd.R_reads' HO339.out).2.1); (case side3 => refine (Kd.R_reads' (e := 2) (base := w.heap.size) (ok := fun k_ => (((some k_ ≠ (.slice Ao25 t337.length co25 : Value).ownBlock ∧ some k_ ≠ (.slice Ao18 t330.length co18 : Value).ownBlock) ∧ some k_ ≠ (.slice Ao13 t323.length co13 : Value).ownBlock) ∧ some k_ ≠ (.slice Ao15 t326.length co15 : Value).ownBlock)) (n := t340.length) (c := co28) ?_).2.2; exact (by (with_reducible repeat (first | apply Kd.R_alloc | apply Kd.R_drewN | apply Kd.R_drew)); exact (Kd.R_mono (Kd.R_far (p := ⟨gb344, 1, none⟩) (Kd.R_far (p := ⟨gb344, 0, none⟩) (Kd.R_types HO342.out BK344.out (by decide)) (fun _ hk => hk.2) (.slice Ao25 t337.length co25)) (fun _ hk => hk.2) (.slice Ao28 t340.length co28)) (fun _ h_ => h_.1)))); (case side4 => exact (Kd.R_reads' HO342.out).2.1); (case side5 => refine (Kd.R_reads' (e := 2) (base := w.heap.size) (ok := fun k_ => (((some k_ ≠ (.slice Ao13 t323.length co13 : Value).ownBlock ∧ some k_ ≠ (.slice Ao15 t326.length co15 : Value).ownBlock) ∧ some k_ ≠ (.slice Ao25 t337.length co25 : Value).ownBlock) ∧ some k_ ≠ (.slice Ao28 t340.length co28 : Value).ownBlock)) (n := t330.length) (c := co18) ?_).2.2; exact (by (with_reducible repeat (first | apply Kd.R_alloc | apply Kd.R_drewN | apply Kd.R_drew)); exact (Kd.R_mono (Kd.R_far (p := ⟨gb344, 1, none⟩) (Kd.R_far (p := ⟨gb344, 0, none⟩) (Kd.R_types HO_6.out BK344.out (by decide)) (fun _ hk => hk.2) (.slice Ao25 t337.length co25)) (fun _ hk => hk.2) (.slice Ao28 t340.length co28)) (fun _ h_ => h_.1)))); (case side6 => exact (Kd.R_reads' HO_6.out).2.1); rintro e w41 ⟨rfl, hb⟩; refine ⟨_, rfl, ?_⟩; have n0_ := Aside0.mk (Kd.R_below (by (with_reducible repeat (first | apply Kd.R_alloc | apply Kd.R_drewN | apply Kd.R_drew)); exact (Kd.R_mono (Kd.R_far (p := ⟨gb344, 1, none⟩) (Kd.R_far (p := ⟨gb344, 0, none⟩) (Kd.R_types HO_6.out BK344.out (by decide)) (fun _ hk => hk.2) (.slice Ao25 t337.length co25)) (fun _ hk => hk.2) (.slice Ao28 t340.length co28)) (fun _ h_ => h_.1))) hb); have n1_ := Aside0.mk (Kd.R_below (by (with_reducible repeat (first | apply Kd.R_alloc | apply Kd.R_drewN | apply Kd.R_drew)); exact (Kd.R_mono (Kd.R_far (p := ⟨gb344, 1, none⟩) (Kd.R_far (p := ⟨gb344, 0, none⟩) (Kd.R_types HO_330000.out BK344.out (by decide)) (fun _ hk => hk.2) (.slice Ao25 t337.length co25)) (fun _ hk => hk.2) (.slice Ao28 t340.length co28)) (fun _ h_ => h_.1))) hb); have n2_ := Aside0.mk (Kd.R_below (by (with_reducible repeat (first | apply Kd.R_alloc | apply Kd.R_drewN | apply Kd.R_drew)); exact (Kd.R_mono (Kd.R_far (p := ⟨gb344, 1, none⟩) (Kd.R_far (p := ⟨gb344, 0, none⟩) (Kd.R_types HO_330001.out BK344.out (by decide)) (fun _ hk => hk.2) (.slice Ao25 t337.length co25)) (fun _ hk => hk.2) (.slice Ao28 t340.length co28)) (fun _ h_ => h_.1))) hb); have n3_ := Aside0.mk (Kd.R_below (by (with_reducible repeat (first | apply Kd.R_alloc | apply Kd.R_drewN | apply Kd.R_drew)); exact (Kd.R_mono (Kd.R_far (p := ⟨gb344, 1, none⟩) (Kd.R_far (p := ⟨gb344, 0, none⟩) (Kd.R_types HO339.out BK344.out (by decide)) (fun _ hk => hk.2) (.slice Ao25 t337.length co25)) (fun _ hk => hk.2) (.slice Ao28 t340.length co28)) (fun _ h_ => h_.1))) hb); have n4_ := Aside0.mk (Kd.R_below (by (with_reducible repeat (first | apply Kd.R_alloc | apply Kd.R_drewN | apply Kd.R_drew)); exact (Kd.R_mono (Kd.R_far (p := ⟨gb344, 1, none⟩) (Kd.R_far (p := ⟨gb344, 0, none⟩) (Kd.R_types HO342.out BK344.out (by decide)) (fun _ hk => hk.2) (.slice Ao25 t337.length co25)) (fun _ hk => hk.2) (.slice Ao28 t340.length co28)) (fun _ h_ => h_.1))) hb); have n5_ := Aside0.mk (blk_below (g := gb329) (o := .cells #[.slice Ao13 t323.length co13, .slice Ao15 t326.length co15] 28 (0, 0)) (by (with_reducible repeat (first | refine blk_drewN ?_ _ | refine blk_drew ?_ | refine blk_alloc ?_ _)); refine blk_far ?_ NB329_344.out _; (with_reducible repeat (first | refine blk_drewN ?_ _ | refine blk_drew ?_ | refine blk_alloc ?_ _)); refine blk_far ?_ NB329_344.out _; (with_reducible repeat (first | refine blk_drewN ?_ _ | refine blk_drew ?_ | refine blk_alloc ?_ _)); exact BK329.out) hb); have n6_ := Aside0.mk (blk_below (g := gb344) (o := .cells #[.slice Ao25 t337.length co25, .slice Ao28 t340.length co28] 28 (0, 0)) (by (with_reducible repeat (first | refine blk_drewN ?_ _ | refine blk_drew ?_ | refine blk_alloc ?_ _)); refine blk_put (cs := #[.slice Ao25 t337.length co25, .slice none 0 0]) ?_ 1 _ rfl; (with_reducible repeat (first | refine blk_drewN ?_ _ | refine blk_drew ?_ | refine blk_alloc ?_ _)); refine blk_put (cs := #[.slice none 0 0, .slice none 0 0]) ?_ 0 _ rfl; (with_reducible repeat (first | refine blk_drewN ?_ _ | refine blk_drew ?_ | refine blk_alloc ?_ _)); exact BK344.out) hb); have n7_ := Aside0.mk (below_step (by repeat (first | (with_reducible first | exact HB.out | apply below_alloc | apply pw_below_drewN | apply below_drew1 | refine below_set ?_ GE329.out | refine below_set ?_ GE344.out) | exact HB.out)) hb); clear HO_6; clear HO_330000; clear HO_330001; clear HO339; clear HO342; clear BK329; clear BK344; clear HB; have HO_6 := n0_; have HO_330000 := n1_; have HO_330001 := n2_; have HO339 := n3_; have HO342 := n4_; have BK329 := n5_; have BK344 := n6_; have HB := n7_; clear n0_ n1_ n2_ n3_ n4_ n5_ n6_ n7_; (try clear hb); (try clear hb2); (try clear hk); (try clear hi)))
        go_roundg k1
        case measure => have := HK1.out; omega
        case rel => exact ⟨(x11_1), (wrap64 (x12_1 + 1)), (by first | rfl | (simp; done) | (simp [*]; done)), (by first | rfl | (simp; done) | (simp [*]; done)), H', ⟨by have := HK1.out; omega⟩, ⟨by (with_reducible repeat (first | apply Kd.R_alloc | apply Kd.R_drewN | apply Kd.R_drew)); exact Kd.R_mono HO_6.out (fun _ hk => ⟨hk.1.1.1, hk.1.1.2⟩)⟩, ⟨by (with_reducible repeat (first | apply Kd.R_alloc | apply Kd.R_drewN | apply Kd.R_drew)); exact Kd.R_mono HO_330000.out (fun _ hk => ⟨hk.1.1.1, hk.1.1.2⟩)⟩, ⟨by (with_reducible repeat (first | apply Kd.R_alloc | apply Kd.R_drewN | apply Kd.R_drew)); exact Kd.R_mono HO_330001.out (fun _ hk => ⟨hk.1.1.1, hk.1.1.2⟩)⟩, ⟨by (with_reducible repeat (first | refine blk_drewN ?_ _ | refine blk_drew ?_ | refine blk_alloc ?_ _)); exact BK329.out⟩, ⟨by repeat (first | (with_reducible first | exact HB.out | apply below_alloc | apply pw_below_drewN | apply below_drew1 | refine below_set ?_ GE329.out | refine below_set ?_ GE344.out) | exact HB.out)⟩⟩
      ·rw [if_neg c29] at H
       have c29b0 : (t343 == 0) = false := beq_eq_false_iff_ne.mpr c29
       have c29b1 : (t343 != 0) = true := bne_iff_ne.mpr c29
       (first | rw [c29b0] | (simp only [i64_w, i32_w]; rw [c29b0]) | skip)
       have H' := Aside0.mk H
       clear H
       go_wp2
       go_meet
       case rel => exact ⟨_, (x11_1), (by first | rfl | (simp; done) | (simp [*]; done)), H', ⟨by have := HK1.out; first | omega | exact Nat.le_refl _⟩, ⟨by (with_reducible repeat (first | apply Kd.R_alloc | apply Kd.R_drewN | apply Kd.R_drew)); exact Kd.R_mono (Kd.R_far (p := ⟨gb344, 1, none⟩) (Kd.R_far (p := ⟨gb344, 0, none⟩) (Kd.R_types HO_330000.out BK344.out (by decide)) (fun _ hk => hk.2) (.slice Ao25 t337.length co25)) (fun _ hk => hk.2) (.slice Ao28 t340.length co28)) (fun _ hk => hk.1.1.1.2)⟩, ⟨by (with_reducible repeat (first | apply Kd.R_alloc | apply Kd.R_drewN | apply Kd.R_drew)); exact Kd.R_mono (Kd.R_far (p := ⟨gb344, 1, none⟩) (Kd.R_far (p := ⟨gb344, 0, none⟩) (Kd.R_types HO_330001.out BK344.out (by decide)) (fun _ hk => hk.2) (.slice Ao25 t337.length co25)) (fun _ hk => hk.2) (.slice Ao28 t340.length co28)) (fun _ hk => hk.1.1.1.2)⟩, ⟨by (with_reducible repeat (first | refine blk_drewN ?_ _ | refine blk_drew ?_ | refine blk_alloc ?_ _)); refine blk_far ?_ NB329_344.out _; (with_reducible repeat (first | refine blk_drewN ?_ _ | refine blk_drew ?_ | refine blk_alloc ?_ _)); refine blk_far ?_ NB329_344.out _; (with_reducible repeat (first | refine blk_drewN ?_ _ | refine blk_drew ?_ | refine blk_alloc ?_ _)); exact BK329.out⟩, ⟨by repeat (first | (with_reducible first | exact HB.out | apply below_alloc | apply pw_below_drewN | apply below_drew1 | refine below_set ?_ GE329.out | refine below_set ?_ GE344.out) | exact HB.out)⟩⟩
     ·rw [if_neg c20] at H
      have c20b0 : decide (x12_1 ≤ 600) = false := decide_eq_false c20
      clear c20
      (first | rw [c20b0] | (simp only [i64_w, i32_w]; rw [c20b0]) | skip)
      have H' := Aside0.mk H
      clear H
      go_wp2
      go_meet
      case rel => exact ⟨_, (x11_1), (by first | rfl | (simp; done) | (simp [*]; done)), H', ⟨by have := HK1.out; first | omega | exact Nat.le_refl _⟩, ⟨by (with_reducible repeat (first | apply Kd.R_alloc | apply Kd.R_drewN | apply Kd.R_drew)); exact Kd.R_mono HO_330000.out (fun _ hk => hk.2)⟩, ⟨by (with_reducible repeat (first | apply Kd.R_alloc | apply Kd.R_drewN | apply Kd.R_drew)); exact Kd.R_mono HO_330001.out (fun _ hk => hk.2)⟩, ⟨by (with_reducible repeat (first | refine blk_drewN ?_ _ | refine blk_drew ?_ | refine blk_alloc ?_ _)); exact BK329.out⟩, ⟨by repeat (first | (with_reducible first | exact HB.out | apply below_alloc | apply pw_below_drewN | apply below_drew1 | refine below_set ?_ GE329.out) | exact HB.out)⟩⟩
  case rest =>
   clear HC10
   try clear c1
   try clear c2
   try clear p2
   try clear c3
   try clear c4
   try clear c5
   try clear p6
   try clear c20
   try clear c20b0
   try clear c23
   try clear c24
   try clear c25
   try clear c26
   try clear c27
   try clear c28
   try clear c29
   try clear c29b0
   try clear c29b1
   try clear c31
   try clear c31b0
   try clear c31b1
   try clear c32
   try clear c32b0
   try clear c33
   try clear c36
   try clear c39
   try clear hcz14_0
   try clear hcz14_1
   try clear hcz17_0
   try clear hcz17_1
   try clear hcz22_0
   try clear hcz22_1
   try clear hcz27_0
   try clear hcz27_1
   try clear hcz34_0
   try clear hcz34_1
   try clear hcz37_0
   try clear hcz37_1
   try clear hcz40_0
   try clear hcz40_1
   try clear hfz14_0
   try clear hfz14_1
   try clear hfz17_0
   try clear hfz17_1
   try clear hfz22_0
   try clear hfz22_1
   try clear hfz27_0
   try clear hfz27_1
   try clear hfz34_0
   try clear hfz34_1
   try clear hfz37_0
   try clear hfz37_1
   try clear hfz40_0
   try clear hfz40_1
   try clear p2
   try clear p6
   obtain ⟨kq, x11_9, rfl, HA, HJ9, HO_330000, HO_330001, BK329, HB⟩ := hcut
   cases kq with
   | zero => exact absurd HA.out (by simp [laws_FnReefGaps.j1])
   | succ kj9 =>
    have H := HA.out
    clear HA
    simp only [laws_FnReefGaps.j1] at H
    by_cases c42 : x11_9 < 0
    ·rw [if_pos c42] at H
     have c42b0 : decide (x11_9 < 0) = true := decide_eq_true c42
     clear c42
     obtain rfl := Option.some.inj H
     simp only [Option.some.injEq, Prod.mk.injEq] at H
     obtain ⟨rfl⟩ := H
     go_wp2
     go_ret
     exact ⟨by first | rfl | (simp [errW_none, errW_some] <;> rfl) | (simp [*, errW_none, errW_some] <;> rfl), by repeat (first | (with_reducible first | exact HB.out | apply below_alloc | apply pw_below_drewN | apply below_drew1 | refine below_set ?_ GE329.out) | exact HB.out)⟩
    ·rw [if_neg c42] at H
     have c42b0 : decide (x11_9 < 0) = false := decide_eq_false c42
     clear c42
     replace H := Option.bind_eq_some_iff.mp H
     obtain ⟨⟨t347, t350, t353⟩, A430, H⟩ := H
     replace H : (if t336 = 0 then (if t335 = x11_9 then (if t353 = 0 then (if (t347.length : Int) = (t323.length : Int) then (if (t350.length : Int) = (t323.length : Int) then ((laws_a2Same.f kj9 t347 t323).bind fun t355 => (if t355 = true then ((impl_ValidReefing.f kj9 t347 t350).bind fun t356 => (some t356)) else (some false))) else (some false)) else (some false)) else (some false)) else (some false)) else (some false)) = some r := H
     have A43 := Aside0.mk A430
     clear A430
     by_cases c44 : t336 = 0
     ·rw [if_pos c44] at H
      have c44b0 : (t336 == 0) = true := beq_iff_eq.mpr c44
      have c44b1 : (t336 != 0) = false := bne_eq_false_iff_eq.mpr c44
      clear c44
      by_cases c45 : t335 = x11_9
      ·rw [if_pos c45] at H
       have c45b0 : (t335 == x11_9) = true := beq_iff_eq.mpr c45
       have c45b1 : (t335 != x11_9) = false := bne_eq_false_iff_eq.mpr c45
       clear c45
       by_cases c46 : t353 = 0
       ·rw [if_pos c46] at H
        have c46b0 : (t353 == 0) = true := beq_iff_eq.mpr c46
        have c46b1 : (t353 != 0) = false := bne_eq_false_iff_eq.mpr c46
        clear c46
        by_cases c47 : (t347.length : Int) = (t323.length : Int)
        ·rw [if_pos c47] at H
         have c47b0 : ((t347.length : Int) == (t323.length : Int)) = true := beq_iff_eq.mpr c47
         have c47b1 : ((t347.length : Int) != (t323.length : Int)) = false := bne_eq_false_iff_eq.mpr c47
         have c47b2 : (t347.length == t323.length) = true := by first | simpa using c47 | (simp at c47 ⊢; omega)
         clear c47
         by_cases c48 : (t350.length : Int) = (t323.length : Int)
         ·rw [if_pos c48] at H
          have c48b0 : ((t350.length : Int) == (t323.length : Int)) = true := beq_iff_eq.mpr c48
          have c48b1 : ((t350.length : Int) != (t323.length : Int)) = false := bne_eq_false_iff_eq.mpr c48
          have c48b2 : (t350.length == t323.length) = true := by first | simpa using c48 | (simp at c48 ⊢; omega)
          clear c48
          replace H := Option.bind_eq_some_iff.mp H
          obtain ⟨t355, A490, H⟩ := H
          replace H : (if t355 = true then ((impl_ValidReefing.f kj9 t347 t350).bind fun t356 => (some t356)) else (some false)) = some r := H
          have A49 := Aside0.mk A490
          clear A490
          by_cases c50 : t355 = true
          ·subst c50
           have H1 : ((impl_ValidReefing.f kj9 t347 t350).bind fun t356 => (some t356)) = some r := by rw [if_pos rfl] at H; exact H
           clear H
           have H := H1
           clear H1
           replace H := Option.bind_eq_some_iff.mp H
           obtain ⟨t356, A510, H⟩ := H
           replace H : (some t356) = some r := H
           have A51 := Aside0.mk A510
           clear A510
           obtain rfl := Option.some.inj H
           simp only [Option.some.injEq, Prod.mk.injEq] at H
           obtain ⟨rfl⟩ := H
           have hcz52_0 : wc.cell? ⟨gb329, 0, none⟩ = some (.slice Ao13 t323.length co13) := (blk_cell BK329.out 0).trans rfl
           have hcz52_1 : wc.cell? ⟨gb329, 1, none⟩ = some (.slice Ao15 t326.length co15) := (blk_cell BK329.out 1).trans rfl
           have hfz52_0 := blk_frozen BK329.out 0
           have hfz52_1 := blk_frozen BK329.out 1
           go_wp2_with (first | ((with_reducible refine gate_callee (f := 30) rfl ?_); refine goesL_ (some 79) rfl rfl Try.func30 (by kernel_rfl) rfl #[.slice Ao13 t323.length co13, .int .i64 x11_9] rfl (by (try simp only [List.map_toArray, List.map_cons, List.map_nil]); first | done | rfl | (simp only [List.length_drop, List.length_take]; rfl)) ?_; (with_reducible refine (impl_EvenReefing.calls kj9 _ _ t323 x11_9 t347 t350 t353 _ ?side1 ?side2 A43.out).mono ?_); (case side1 => repeat (first | exact (Kd.R_reads' HO_330000.out).2.2 | (with_reducible refine Kd.C_alloc ?_ _) | (with_reducible refine Kd.C_drewN ?_ _) | (with_reducible refine Kd.C_drew ?_))); (case side2 => exact (Kd.R_reads' HO_330000.out).2.1); rintro e w53 ⟨v348, v351, rfl, ho0, ho1, hb⟩; refine ⟨_, rfl, ?_⟩; have n0_ := Aside0.mk (Kd.R_mono (Kd.R_told (Kd.R_told (Kd.R_old (by (with_reducible repeat (first | apply Kd.R_alloc | apply Kd.R_drewN | apply Kd.R_drew)); exact HO_330000.out) hb) (Kd.R_base ho0)) (Kd.R_base ho1)) (fun _ h_ => h_.1)); have n1_ := Aside0.mk (Kd.R_mono (Kd.R_told (Kd.R_told (Kd.R_old (by (with_reducible repeat (first | apply Kd.R_alloc | apply Kd.R_drewN | apply Kd.R_drew)); exact HO_330001.out) hb) (Kd.R_base ho0)) (Kd.R_base ho1)) (fun _ h_ => h_.1)); have n2_ := Aside0.mk (Kd.R_lower (Kd.R_new' (Kd.R_new' ho0 (Kd.R_lt (by (with_reducible repeat (first | apply Kd.R_alloc | apply Kd.R_drewN | apply Kd.R_drew)); exact HO_330000.out))) (Kd.R_lt (by (with_reducible repeat (first | apply Kd.R_alloc | apply Kd.R_drewN | apply Kd.R_drew)); exact HO_330001.out))) (below_size (by repeat (first | (with_reducible first | exact HB.out | apply below_alloc | apply pw_below_drewN | apply below_drew1 | refine below_set ?_ GE329.out) | exact HB.out)))); have n3_ := Aside0.mk (Kd.R_lower (Kd.R_new' (Kd.R_new' ho1 (Kd.R_lt (by (with_reducible repeat (first | apply Kd.R_alloc | apply Kd.R_drewN | apply Kd.R_drew)); exact HO_330000.out))) (Kd.R_lt (by (with_reducible repeat (first | apply Kd.R_alloc | apply Kd.R_drewN | apply Kd.R_drew)); exact HO_330001.out))) (below_size (by repeat (first | (with_reducible first | exact HB.out | apply below_alloc | apply pw_below_drewN | apply below_drew1 | refine below_set ?_ GE329.out) | exact HB.out)))); have n4_ := Aside0.mk (blk_below (g := gb329) (o := .cells #[.slice Ao13 t323.length co13, .slice Ao15 t326.length co15] 28 (0, 0)) (by (with_reducible repeat (first | refine blk_drewN ?_ _ | refine blk_drew ?_ | refine blk_alloc ?_ _)); exact BK329.out) hb); have n5_ := Aside0.mk (below_step (by repeat (first | (with_reducible first | exact HB.out | apply below_alloc | apply pw_below_drewN | apply below_drew1 | refine below_set ?_ GE329.out) | exact HB.out)) hb); clear HO_330000; clear HO_330001; clear BK329; clear HB; have HO_330000 := n0_; have HO_330001 := n1_; have HO349 := n2_; have HO352 := n3_; have BK329 := n4_; have HB := n5_; clear n0_ n1_ n2_ n3_ n4_ n5_; (try clear hb); (try clear hb2); (try clear hk); (try clear hi); (try clear ho0); (try clear ho1)) | ((with_reducible refine gate_dst (N := 17) rfl ?_); (try (refine gate_guard (by rfl) ?_; dsimp only)); refine box_event ?hg (N := 17) ?hd (cs := #[.slice none 0 0, .slice none 0 0]) (t := 28) ?hr ?_; (case hd => rfl); (case hg => rfl); (case hr => first | (go_simp; done) | (go_simp; rfl)); intro gb354 hg w54 hbox hb; have n0_ := Aside0.mk (Kd.R_below (by (with_reducible repeat (first | apply Kd.R_alloc | apply Kd.R_drewN | apply Kd.R_drew)); exact HO_330000.out) hb); have n1_ := Aside0.mk (Kd.R_below (by (with_reducible repeat (first | apply Kd.R_alloc | apply Kd.R_drewN | apply Kd.R_drew)); exact HO_330001.out) hb); have n2_ := Aside0.mk (Kd.R_below (by (with_reducible repeat (first | apply Kd.R_alloc | apply Kd.R_drewN | apply Kd.R_drew)); exact HO349.out) hb); have n3_ := Aside0.mk (Kd.R_below (by (with_reducible repeat (first | apply Kd.R_alloc | apply Kd.R_drewN | apply Kd.R_drew)); exact HO352.out) hb); have n4_ := Aside0.mk (blk_below (g := gb329) (o := .cells #[.slice Ao13 t323.length co13, .slice Ao15 t326.length co15] 28 (0, 0)) (by (with_reducible repeat (first | refine blk_drewN ?_ _ | refine blk_drew ?_ | refine blk_alloc ?_ _)); exact BK329.out) hb); have n5_ := Aside0.mk (below_step (by repeat (first | (with_reducible first | exact HB.out | apply below_alloc | apply pw_below_drewN | apply below_drew1 | refine below_set ?_ GE329.out) | exact HB.out)) hb); have n6_ := Aside0.mk (hbox); have n7_ := Aside0.mk ((by rw [hg]; exact (below_size (by repeat (first | (with_reducible first | exact HB.out | apply below_alloc | apply pw_below_drewN | apply below_drew1 | refine below_set ?_ GE329.out) | exact HB.out))) : w.heap.size ≤ gb354)); have n8_ := Aside0.mk ((by rw [hg]; exact (below_size (by repeat (first | (with_reducible first | exact HB.out | apply below_alloc | apply pw_below_drewN | apply below_drew1 | refine below_set ?_ GE329.out) | exact HB.out))) : w.heap.size ≤ gb354)); have n9_ := Aside0.mk ((by rw [hg]; exact Nat.ne_of_lt (blk_lt (g := gb329) (o := .cells #[.slice Ao13 t323.length co13, .slice Ao15 t326.length co15] 28 (0, 0)) (by (with_reducible repeat (first | refine blk_drewN ?_ _ | refine blk_drew ?_ | refine blk_alloc ?_ _)); exact BK329.out)) : gb329 ≠ gb354)); have n10_ := Aside0.mk ((by rw [hg]; exact Nat.ne_of_gt (blk_lt (g := gb329) (o := .cells #[.slice Ao13 t323.length co13, .slice Ao15 t326.length co15] 28 (0, 0)) (by (with_reducible repeat (first | refine blk_drewN ?_ _ | refine blk_drew ?_ | refine blk_alloc ?_ _)); exact BK329.out)) : gb354 ≠ gb329)); clear HO_330000; clear HO_330001; clear HO349; clear HO352; clear BK329; clear HB; have HO_330000 := n0_; have HO_330001 := n1_; have HO349 := n2_; have HO352 := n3_; have BK329 := n4_; have HB := n5_; have BK354 := n6_; have GW354 := n7_; have GE354 := n8_; have NB329_354 := n9_; have NB354_329 := n10_; clear n0_ n1_ n2_ n3_ n4_ n5_ n6_ n7_ n8_ n9_ n10_; clear hb hbox hg; obtain ⟨Ao55, co55, eo55⟩ := Kd.R_slice HO349.out; subst eo55; have hnb56 := NB354_329.out; have hnc56 := NB329_354.out; have hcz57_0 : w54.cell? ⟨gb354, 0, none⟩ = some (.slice none 0 0) := (blk_cell BK354.out 0).trans rfl; have hcz57_1 : w54.cell? ⟨gb354, 1, none⟩ = some (.slice none 0 0) := (blk_cell BK354.out 1).trans rfl; have hfz57_0 := blk_frozen BK354.out 0; have hfz57_1 := blk_frozen BK354.out 1; obtain ⟨Ao58, co58, eo58⟩ := Kd.R_slice HO352.out; subst eo58; have hcz59_0 : w54.cell? ⟨gb329, 0, none⟩ = some (.slice Ao13 t323.length co13) := (blk_cell BK329.out 0).trans rfl; have hcz59_1 : w54.cell? ⟨gb329, 1, none⟩ = some (.slice Ao15 t326.length co15) := (blk_cell BK329.out 1).trans rfl; have hfz59_0 := blk_frozen BK329.out 0; have hfz59_1 := blk_frozen BK329.out 1) | (go_at_call 31; (with_reducible refine (laws_a2Same.calls kj9 _ _ t347 _ _ t323 true _ ?side1 ?side2 ?side3 ?side4 A49.out).mono ?_); (case side1 => refine (Kd.R_reads' (e := 2) (base := w.heap.size) (ok := fun k_ => ((some k_ ≠ (.slice Ao58 t350.length co58 : Value).ownBlock ∧ some k_ ≠ (.slice Ao13 t323.length co13 : Value).ownBlock) ∧ some k_ ≠ (.slice Ao15 t326.length co15 : Value).ownBlock)) (n := t347.length) (c := co55) ?_).2.2; exact (by (with_reducible repeat (first | apply Kd.R_alloc | apply Kd.R_drewN | apply Kd.R_drew)); exact (Kd.R_mono (Kd.R_far (p := ⟨gb354, 1, none⟩) (Kd.R_far (p := ⟨gb354, 0, none⟩) (Kd.R_types HO349.out BK354.out (by decide)) (fun _ hk => hk.2) (.slice Ao55 t347.length co55)) (fun _ hk => hk.2) (.slice Ao58 t350.length co58)) (fun _ h_ => h_.1)))); (case side2 => exact (Kd.R_reads' HO349.out).2.1); (case side3 => refine (Kd.R_reads' (e := 2) (base := w.heap.size) (ok := fun k_ => ((some k_ ≠ (.slice Ao15 t326.length co15 : Value).ownBlock ∧ some k_ ≠ (.slice Ao55 t347.length co55 : Value).ownBlock) ∧ some k_ ≠ (.slice Ao58 t350.length co58 : Value).ownBlock)) (n := t323.length) (c := co13) ?_).2.2; exact (by (with_reducible repeat (first | apply Kd.R_alloc | apply Kd.R_drewN | apply Kd.R_drew)); exact (Kd.R_mono (Kd.R_far (p := ⟨gb354, 1, none⟩) (Kd.R_far (p := ⟨gb354, 0, none⟩) (Kd.R_types HO_330000.out BK354.out (by decide)) (fun _ hk => hk.2) (.slice Ao55 t347.length co55)) (fun _ hk => hk.2) (.slice Ao58 t350.length co58)) (fun _ h_ => h_.1)))); (case side4 => exact (Kd.R_reads' HO_330000.out).2.1); rintro e w' ⟨rfl, ⟨nd, rfl⟩⟩) | (go_at_call 32; (with_reducible refine (impl_ValidReefing.calls kj9 _ _ t347 _ _ t350 t356 _ ?side1 ?side2 ?side3 ?side4 A51.out).mono ?_); (case side1 => refine (Kd.R_reads' (e := 2) (base := w.heap.size) (ok := fun k_ => ((some k_ ≠ (.slice Ao58 t350.length co58 : Value).ownBlock ∧ some k_ ≠ (.slice Ao13 t323.length co13 : Value).ownBlock) ∧ some k_ ≠ (.slice Ao15 t326.length co15 : Value).ownBlock)) (n := t347.length) (c := co55) ?_).2.2; exact (by (with_reducible repeat (first | apply Kd.R_alloc | apply Kd.R_drewN | apply Kd.R_drew)); exact (Kd.R_mono (Kd.R_far (p := ⟨gb354, 1, none⟩) (Kd.R_far (p := ⟨gb354, 0, none⟩) (Kd.R_types HO349.out BK354.out (by decide)) (fun _ hk => hk.2) (.slice Ao55 t347.length co55)) (fun _ hk => hk.2) (.slice Ao58 t350.length co58)) (fun _ h_ => h_.1)))); (case side2 => exact (Kd.R_reads' HO349.out).2.1); (case side3 => refine (Kd.R_reads' (e := 2) (base := w.heap.size) (ok := fun k_ => ((some k_ ≠ (.slice Ao55 t347.length co55 : Value).ownBlock ∧ some k_ ≠ (.slice Ao13 t323.length co13 : Value).ownBlock) ∧ some k_ ≠ (.slice Ao15 t326.length co15 : Value).ownBlock)) (n := t350.length) (c := co58) ?_).2.2; exact (by (with_reducible repeat (first | apply Kd.R_alloc | apply Kd.R_drewN | apply Kd.R_drew)); exact (Kd.R_mono (Kd.R_far (p := ⟨gb354, 1, none⟩) (Kd.R_far (p := ⟨gb354, 0, none⟩) (Kd.R_types HO352.out BK354.out (by decide)) (fun _ hk => hk.2) (.slice Ao55 t347.length co55)) (fun _ hk => hk.2) (.slice Ao58 t350.length co58)) (fun _ h_ => h_.1)))); (case side4 => exact (Kd.R_reads' HO352.out).2.1); rintro e w60 ⟨rfl, hb⟩; have n0_ := Aside0.mk (Kd.R_below (by (with_reducible repeat (first | apply Kd.R_alloc | apply Kd.R_drewN | apply Kd.R_drew)); exact (Kd.R_mono (Kd.R_far (p := ⟨gb354, 1, none⟩) (Kd.R_far (p := ⟨gb354, 0, none⟩) (Kd.R_types HO_330000.out BK354.out (by decide)) (fun _ hk => hk.2) (.slice Ao55 t347.length co55)) (fun _ hk => hk.2) (.slice Ao58 t350.length co58)) (fun _ h_ => h_.1))) hb); have n1_ := Aside0.mk (Kd.R_below (by (with_reducible repeat (first | apply Kd.R_alloc | apply Kd.R_drewN | apply Kd.R_drew)); exact (Kd.R_mono (Kd.R_far (p := ⟨gb354, 1, none⟩) (Kd.R_far (p := ⟨gb354, 0, none⟩) (Kd.R_types HO_330001.out BK354.out (by decide)) (fun _ hk => hk.2) (.slice Ao55 t347.length co55)) (fun _ hk => hk.2) (.slice Ao58 t350.length co58)) (fun _ h_ => h_.1))) hb); have n2_ := Aside0.mk (Kd.R_below (by (with_reducible repeat (first | apply Kd.R_alloc | apply Kd.R_drewN | apply Kd.R_drew)); exact (Kd.R_mono (Kd.R_far (p := ⟨gb354, 1, none⟩) (Kd.R_far (p := ⟨gb354, 0, none⟩) (Kd.R_types HO349.out BK354.out (by decide)) (fun _ hk => hk.2) (.slice Ao55 t347.length co55)) (fun _ hk => hk.2) (.slice Ao58 t350.length co58)) (fun _ h_ => h_.1))) hb); have n3_ := Aside0.mk (Kd.R_below (by (with_reducible repeat (first | apply Kd.R_alloc | apply Kd.R_drewN | apply Kd.R_drew)); exact (Kd.R_mono (Kd.R_far (p := ⟨gb354, 1, none⟩) (Kd.R_far (p := ⟨gb354, 0, none⟩) (Kd.R_types HO352.out BK354.out (by decide)) (fun _ hk => hk.2) (.slice Ao55 t347.length co55)) (fun _ hk => hk.2) (.slice Ao58 t350.length co58)) (fun _ h_ => h_.1))) hb); have n4_ := Aside0.mk (blk_below (g := gb329) (o := .cells #[.slice Ao13 t323.length co13, .slice Ao15 t326.length co15] 28 (0, 0)) (by (with_reducible repeat (first | refine blk_drewN ?_ _ | refine blk_drew ?_ | refine blk_alloc ?_ _)); refine blk_far ?_ NB329_354.out _; (with_reducible repeat (first | refine blk_drewN ?_ _ | refine blk_drew ?_ | refine blk_alloc ?_ _)); refine blk_far ?_ NB329_354.out _; (with_reducible repeat (first | refine blk_drewN ?_ _ | refine blk_drew ?_ | refine blk_alloc ?_ _)); exact BK329.out) hb); have n5_ := Aside0.mk (blk_below (g := gb354) (o := .cells #[.slice Ao55 t347.length co55, .slice Ao58 t350.length co58] 28 (0, 0)) (by (with_reducible repeat (first | refine blk_drewN ?_ _ | refine blk_drew ?_ | refine blk_alloc ?_ _)); refine blk_put (cs := #[.slice Ao55 t347.length co55, .slice none 0 0]) ?_ 1 _ rfl; (with_reducible repeat (first | refine blk_drewN ?_ _ | refine blk_drew ?_ | refine blk_alloc ?_ _)); refine blk_put (cs := #[.slice none 0 0, .slice none 0 0]) ?_ 0 _ rfl; (with_reducible repeat (first | refine blk_drewN ?_ _ | refine blk_drew ?_ | refine blk_alloc ?_ _)); exact BK354.out) hb); have n6_ := Aside0.mk (below_step (by repeat (first | (with_reducible first | exact HB.out | apply below_alloc | apply pw_below_drewN | apply below_drew1 | refine below_set ?_ GE329.out | refine below_set ?_ GE354.out) | exact HB.out)) hb); clear HO_330000; clear HO_330001; clear HO349; clear HO352; clear BK329; clear BK354; clear HB; have HO_330000 := n0_; have HO_330001 := n1_; have HO349 := n2_; have HO352 := n3_; have BK329 := n4_; have BK354 := n5_; have HB := n6_; clear n0_ n1_ n2_ n3_ n4_ n5_ n6_; (try clear hb); (try clear hb2); (try clear hk); (try clear hi)))
           go_ret
           exact ⟨by first | rfl | (simp [errW_none, errW_some] <;> rfl) | (simp [*, errW_none, errW_some] <;> rfl), by repeat (first | (with_reducible first | exact HB.out | apply below_alloc | apply pw_below_drewN | apply below_drew1 | refine below_set ?_ GE329.out | refine below_set ?_ GE354.out) | exact HB.out)⟩
          ·replace c50 := Bool.eq_false_iff.mpr c50
           subst c50
           have H1 : (some false) = some r := by rw [if_neg (show ¬ (false = true) by decide)] at H; exact H
           clear H
           have H := H1
           clear H1
           obtain rfl := Option.some.inj H
           exact absurd HRT.out (by decide)
         ·rw [if_neg c48] at H
          have c48b0 : ((t350.length : Int) == (t323.length : Int)) = false := beq_eq_false_iff_ne.mpr c48
          have c48b1 : ((t350.length : Int) != (t323.length : Int)) = true := bne_iff_ne.mpr c48
          have c48b2 : (t350.length == t323.length) = false := by first | simpa using c48 | (simp at c48 ⊢; omega)
          obtain rfl := Option.some.inj H
          exact absurd HRT.out (by decide)
        ·rw [if_neg c47] at H
         have c47b0 : ((t347.length : Int) == (t323.length : Int)) = false := beq_eq_false_iff_ne.mpr c47
         have c47b1 : ((t347.length : Int) != (t323.length : Int)) = true := bne_iff_ne.mpr c47
         have c47b2 : (t347.length == t323.length) = false := by first | simpa using c47 | (simp at c47 ⊢; omega)
         obtain rfl := Option.some.inj H
         exact absurd HRT.out (by decide)
       ·rw [if_neg c46] at H
        have c46b0 : (t353 == 0) = false := beq_eq_false_iff_ne.mpr c46
        have c46b1 : (t353 != 0) = true := bne_iff_ne.mpr c46
        obtain rfl := Option.some.inj H
        exact absurd HRT.out (by decide)
      ·rw [if_neg c45] at H
       have c45b0 : (t335 == x11_9) = false := beq_eq_false_iff_ne.mpr c45
       have c45b1 : (t335 != x11_9) = true := bne_iff_ne.mpr c45
       obtain rfl := Option.some.inj H
       exact absurd HRT.out (by decide)
     ·rw [if_neg c44] at H
      have c44b0 : (t336 == 0) = false := beq_eq_false_iff_ne.mpr c44
      have c44b1 : (t336 != 0) = true := bne_iff_ne.mpr c44
      obtain rfl := Option.some.inj H
      exact absurd HRT.out (by decide)

def laws_FnReefGaps.Pure : Prop := ∀ (l0 : List Int) (l1 : List Int), (l0.length ≤ 9223372036854775807 ∧ ∀ y0 ∈ l0, (Lit.int .u8 y0).wf = true) → (l1.length ≤ 9223372036854775807 ∧ ∀ y0 ∈ l1, (Lit.int .u8 y0).wf = true) → ∃ k, laws_FnReefGaps.f k l0 l1 = some true

end Go.Proofs.Ytbhijlhlopljmaa.PFnReefGaps
