-- Written by a program of this session (wip/tools/pp.sh).
import Derived.Test.YtnfgijackilcjaaPFnExactPlanCentrex0
namespace Go.Proofs.Ytnfgijackilcjaa.PFnExactPlanCentre
open Go.RowKit Go.Proofs.YtnfgijackilcjaaW.PrintWords Go.Proofs.YtnfgijackilcjaaW.PrintLast Go.Proofs.YtnfgijackilcjaaW.PrintMore Go.Proofs.Ytnfgijackilcjaa.Small
open Bool renaming true → T, false → F
attribute [local go_sem] max2_int min2_int max_two min_two max_three min_three max_four min_four   -- for this text's walks alone
set_option linter.unusedVariables false
set_option linter.unusedSimpArgs false

/-! ### laws_eqFraction: function 18 -/
def laws_eqFraction.f (a0_0 : Int) (a0_1 : Int) (a1_0 : Int) (a1_1 : Int) : Option (Bool) := if a0_0 = a1_0 then (if a0_1 = a1_1 then (some true) else (some false)) else (some false)
set_option maxHeartbeats 8000000 in
set_option maxRecDepth 100000 in
theorem laws_eqFraction.calls (a0_0 : Int) (a0_1 : Int) (a1_0 : Int) (a1_1 : Int) (r : Bool) (w : World) (h : laws_eqFraction.f a0_0 a0_1 a1_0 a1_1 = some r) :
  Calls Try.prog 18 #[.agg #[.int .i64 a0_0, .int .i64 a0_1], .agg #[.int .i64 a1_0, .int .i64 a1_1]] w fun e w' => e = .returned (.bool r) ∧ Below w.heap.size w w' := by
 have hu36 := Try.underlying36
 have HB := Aside0.mk (Below.refl w.heap.size w)
 have H : (if a0_0 = a1_0 then (if a0_1 = a1_1 then (some true) else (some false)) else (some false)) = some r := h
 clear h
 have HF_ := Aside0.mk H
 clear H
 go_enter Try.func18, Try.ntmps18
 go_upto_if 9 with (first | ((with_reducible refine gate_dst (N := 2) rfl ?_); refine box_event ?hg (N := 2) ?hd (cs := #[.int .i64 a0_0, .int .i64 a0_1]) (t := 36) ?hr ?_; (case hd => rfl); (case hg => rfl); (case hr => first | (go_simp; done) | (go_simp; rfl)); intro gb153 hg w3 hbox hb; have n0_ := pS HB hb; have n1_ := Aside0.mk (hbox); have n2_ := pG HB hg; have n3_ := pG HB hg; clear HB; have HB := n0_; have BK153 := n1_; have GW153 := n2_; have GE153 := n3_; clear n0_ n1_ n2_ n3_; clear hb hbox hg) | ((with_reducible refine gate_dst (N := 3) rfl ?_); refine box_event ?hg (N := 3) ?hd (cs := #[.int .i64 a1_0, .int .i64 a1_1]) (t := 36) ?hr ?_; (case hd => rfl); (case hg => rfl); (case hr => first | (go_simp; done) | (go_simp; rfl)); intro gb154 hg w4 hbox hb; have n0_ := pB BK153 hb; have n1_ := pS HB hb; have n2_ := Aside0.mk (hbox); have n3_ := pG HB hg; have n4_ := pG HB hg; have n5_ := pN BK153 hg; have n6_ := pM BK153 hg; clear BK153 HB; have BK153 := n0_; have HB := n1_; have BK154 := n2_; have GW154 := n3_; have GE154 := n4_; have NB153_154 := n5_; have NB154_153 := n6_; clear n0_ n1_ n2_ n3_ n4_ n5_ n6_; clear hb hbox hg; have hnb5 := NB153_154.out; have hnc5 := NB154_153.out; obtain ⟨hcz6_0, hcz6_1, hfz6_0, hfz6_1⟩ := cz2 BK153; obtain ⟨hcz7_0, hcz7_1, hfz7_0, hfz7_1⟩ := cz2 BK154))
 (try simp only [Act.put, List.setIfInBounds_toArray, List.set_cons_zero, List.set_cons_succ])
 have H := HF_.out
 clear HF_
 by_cases c8 : a0_0 = a1_0
 ·rw [if_pos c8] at H
  have c8b0 : (a0_0 == a1_0) = true := beq_iff_eq.mpr c8
  have c8b1 : (a0_0 != a1_0) = false := bne_eq_false_iff_eq.mpr c8
  clear c8
  (first | rw [c8b0] | (simp only [i64_w, i32_w]; rw [c8b0]) | skip)
  by_cases c9 : a0_1 = a1_1
  ·rw [if_pos c9] at H
   have c9b0 : (a0_1 == a1_1) = true := beq_iff_eq.mpr c9
   have c9b1 : (a0_1 != a1_1) = false := bne_eq_false_iff_eq.mpr c9
   clear c9
   obtain rfl := Option.some.inj H
   simp only [Option.some.injEq, Prod.mk.injEq] at H
   obtain ⟨rfl⟩ := H
   have hnb10 := NB153_154.out
   have hnc10 := NB154_153.out
   obtain ⟨hcz11_0, hcz11_1, hfz11_0, hfz11_1⟩ := cz2 BK153
   obtain ⟨hcz12_0, hcz12_1, hfz12_0, hfz12_1⟩ := cz2 BK154
   go_wp2
   go_ret
   exact ⟨by first | rfl | (simp [errW_none, errW_some] <;> rfl) | (simp [*, errW_none, errW_some] <;> rfl), pR HB⟩
  ·rw [if_neg c9] at H
   have c9b0 : (a0_1 == a1_1) = false := beq_eq_false_iff_ne.mpr c9
   have c9b1 : (a0_1 != a1_1) = true := bne_iff_ne.mpr c9
   obtain rfl := Option.some.inj H
   simp only [Option.some.injEq, Prod.mk.injEq] at H
   obtain ⟨rfl⟩ := H
   have hnb13 := NB153_154.out
   have hnc13 := NB154_153.out
   obtain ⟨hcz14_0, hcz14_1, hfz14_0, hfz14_1⟩ := cz2 BK153
   obtain ⟨hcz15_0, hcz15_1, hfz15_0, hfz15_1⟩ := cz2 BK154
   go_wp2
   go_ret
   exact ⟨by first | rfl | (simp [errW_none, errW_some] <;> rfl) | (simp [*, errW_none, errW_some] <;> rfl), pR HB⟩
 ·rw [if_neg c8] at H
  have c8b0 : (a0_0 == a1_0) = false := beq_eq_false_iff_ne.mpr c8
  have c8b1 : (a0_0 != a1_0) = true := bne_iff_ne.mpr c8
  (first | rw [c8b0] | (simp only [i64_w, i32_w]; rw [c8b0]) | skip)
  obtain rfl := Option.some.inj H
  simp only [Option.some.injEq, Prod.mk.injEq] at H
  obtain ⟨rfl⟩ := H
  go_wp2
  go_ret
  exact ⟨by first | rfl | (simp [errW_none, errW_some] <;> rfl) | (simp [*, errW_none, errW_some] <;> rfl), pR HB⟩

/-! ### spec_l13Twice: function 56 -/
def spec_l13Twice.l0 : Nat → List (S77) → Int → Int → Option (Int)
 | 0, _, _, _ => none
 | k + 1, x0, x3, x4 => if x4 < (x0.length : Int) then (if (x0.length : Int) = 0 then (none) else (if 0 ≤ (Int.tmod (wrap64 (x4 + 1)) (x0.length : Int)) then (if (Int.tmod (wrap64 (x4 + 1)) (x0.length : Int)) < (x0.length : Int) then (if 0 ≤ x4 then (spec_l13Twice.l0 k x0 (wrap64 (x3 + (wrap64 ((wrap64 (((rd_T77 x0 x4).f0) * ((rd_T77 x0 (Int.tmod (wrap64 (x4 + 1)) (x0.length : Int))).f1))) - (wrap64 (((rd_T77 x0 (Int.tmod (wrap64 (x4 + 1)) (x0.length : Int))).f0) * ((rd_T77 x0 x4).f1))))))) (wrap64 (x4 + 1))) else (none)) else (none)) else (none))) else (some x3)
def spec_l13Twice.f (k : Nat) (l0 : List (S77)) : Option (Int) := spec_l13Twice.l0 k l0 0 0
theorem spec_l13Twice.mono_l : ∀ k, (∀ y0 y1 y2, LeO (spec_l13Twice.l0 k y0 y1 y2) (spec_l13Twice.l0 (k + 1) y0 y1 y2))
 | 0 => fun _ _ _ r h => by simp [spec_l13Twice.l0] at h
 | k + 1 => by
  have ih0 := spec_l13Twice.mono_l k
  ·intro y0 y1 y2
   unfold spec_l13Twice.l0
   repeat' first
   | (with_reducible exact ih0 _ _ _)
   | (with_reducible exact LeO.refl _)
   | (with_reducible exact LeO.none _)
   | (with_reducible refine LeO.ite ?_ ?_)
   | (with_reducible refine LeO.bind ?_ (fun _ => ?_))
   | exact ih0 _ _ _
   | exact LeO.none _
   | refine LeO.ite ?_ ?_
   | refine LeO.bind ?_ (fun _ => ?_)
theorem spec_l13Twice.mono : ∀ a0 k, LeO (spec_l13Twice.f k a0) (spec_l13Twice.f (k + 1) a0) := by
 intro a0 k
 have ih0 := spec_l13Twice.mono_l k
 unfold spec_l13Twice.f
 repeat' first
   | (with_reducible exact ih0 _ _ _)
   | (with_reducible exact LeO.refl _)
   | (with_reducible exact LeO.none _)
   | (with_reducible refine LeO.ite ?_ ?_)
   | (with_reducible refine LeO.bind ?_ (fun _ => ?_))
   | exact ih0 _ _ _
   | exact LeO.none _
   | refine LeO.ite ?_ ?_
   | refine LeO.bind ?_ (fun _ => ?_)
set_option maxHeartbeats 8000000 in
set_option maxRecDepth 100000 in
theorem spec_l13Twice.calls (k : Nat) (A0 : Option Addr) (c0 : Nat) (l0 : List (S77)) (r : Int) (w : World) (hr0 : Kd.C k77 w A0 l0.length l0) (hc0 : l0.length ≤ c0) (h : spec_l13Twice.f k l0 = some r) :
  Calls Try.prog 56 #[.slice A0 l0.length c0] w fun e w' => e = .returned (.int .i64 r) ∧ Below w.heap.size w w' := by
 have hu77 := Try.underlying77
 have HR0 := Aside0.mk hr0
 have HC0 := Aside0.mk hc0
 clear hr0 hc0
 have HB := Aside0.mk (Below.refl w.heap.size w)
 have H : (spec_l13Twice.l0 k l0 0 0) = some r := h
 clear h
 have H' := Aside0.mk H
 clear H
 go_enter Try.func56, Try.ntmps56
 go_wp2
 repeat (go_quiet (fail); try go_wp2)
 go_loopg [3, 4] k (fun kq v3 v4 w' => ∃ (x3_1 : Int) (x4_1 : Int), v3 = .int .i64 x3_1 ∧ v4 = .int .i64 x4_1 ∧ Aside0 (spec_l13Twice.l0 kq l0 x3_1 x4_1 = some r) ∧ Aside0 (kq ≤ k) ∧ Aside0 (Below w.heap.size w w'))
 case atStart => exact ⟨(0), (0), (by first | rfl | (simp; done) | (simp [*]; done)), (by first | rfl | (simp; done) | (simp [*]; done)), H', ⟨Nat.le_refl _⟩, ⟨by repeat (first | (with_reducible first | exact HB.out | apply below_alloc | apply pw_below_drewN | apply below_drew1) | exact HB.out)⟩⟩
 case round =>
  clear H'
  obtain ⟨x3_1, x4_1, rfl, rfl, HA, HK1, HB⟩ := hrel
  cases gk with
  | zero => exact absurd HA.out (by simp [spec_l13Twice.l0])
  | succ k1 =>
   have H := HA.out
   clear HA
   simp only [spec_l13Twice.l0] at H
   by_cases c2 : x4_1 < (l0.length : Int)
   ·rw [if_pos c2] at H
    have c2b0 : decide (x4_1 < (l0.length : Int)) = true := decide_eq_true c2
    clear c2
    by_cases c3 : (l0.length : Int) = 0
    ·rw [if_pos c3] at H
     exact absurd H (by simp)
    ·rw [if_neg c3] at H
     have c3b0 : ((l0.length : Int) == 0) = false := beq_eq_false_iff_ne.mpr c3
     have c3b1 : ((l0.length : Int) != 0) = true := bne_iff_ne.mpr c3
     have c3b2 : ¬ (l0 = []) := fun h_ => c3 (by rw [h_]; rfl)
     obtain ⟨ji4, hji4⟩ : ∃ j_ : Int, (Int.tmod (wrap64 (x4_1 + 1)) (l0.length : Int)) = j_ := ⟨_, rfl⟩
     replace H : (if 0 ≤ (ji4) then (if (ji4) < (l0.length : Int) then (if 0 ≤ x4_1 then (spec_l13Twice.l0 k1 l0 (wrap64 (x3_1 + (wrap64 ((wrap64 (((rd_T77 l0 x4_1).f0) * ((rd_T77 l0 (ji4)).f1))) - (wrap64 (((rd_T77 l0 (ji4)).f0) * ((rd_T77 l0 x4_1).f1))))))) (wrap64 (x4_1 + 1))) else (none)) else (none)) else (none)) = some r := by first | (rw [hji4] at H; exact H) | (simp only [hji4] at H ⊢; exact H)
     by_cases c5 : 0 ≤ (ji4)
     ·rw [if_pos c5] at H
      have c5b0 : decide (0 ≤ (ji4)) = true := decide_eq_true c5
      clear c5
      by_cases c6 : (ji4) < (l0.length : Int)
      ·rw [if_pos c6] at H
       have c6b0 : decide ((ji4) < (l0.length : Int)) = true := decide_eq_true c6
       clear c6
       by_cases c7 : 0 ≤ x4_1
       ·rw [if_pos c7] at H
        have c7b0 : decide (0 ≤ x4_1) = true := decide_eq_true c7
        clear c7
        have H' := Aside0.mk H
        clear H
        have p155 : 0 ≤ ((ji4) : Int) := of_decide_eq_true (by first | (with_reducible assumption) | assumption)
        have q155 : (ji4) < (l0.length : Int) := of_decide_eq_true (by first | (with_reducible assumption) | assumption)
        obtain ⟨ad155, e155, hx155_0, hx155_1⟩ := at_T77 HR0.out (ji4) p155 q155
        cases e155
        replace hx155_0 := bC HB hx155_0
        replace hx155_1 := bC HB hx155_1
        replace p155 := eq_true p155
        replace q155 := eq_true q155
        go_wp2_with (first | ((with_reducible refine gate_dst (N := 5) rfl ?_); refine box_event ?hg (N := 5) ?hd (cs := #[.int .i64 0, .int .i64 0]) (t := 77) ?hr ?_; (case hd => rfl); (case hg => rfl); (case hr => first | (go_simp; done) | (go_simp; rfl)); intro gb156 hg w8 hbox hb; have n0_ := pS HB hb; have n1_ := Aside0.mk (hbox); have n2_ := pG HB hg; have n3_ := pG HB hg; clear HB; have HB := n0_; have BK156 := n1_; have GW156 := n2_; have GE156 := n3_; clear n0_ n1_ n2_ n3_; clear hb hbox hg; obtain ⟨hcz9_0, hcz9_1, hfz9_0, hfz9_1⟩ := cz2 BK156; have p157 : 0 ≤ (x4_1 : Int) := of_decide_eq_true (by first | (with_reducible assumption) | assumption); have q157 : x4_1 < (l0.length : Int) := of_decide_eq_true (by first | (with_reducible assumption) | assumption); obtain ⟨ad157, e157, hx157_0, hx157_1⟩ := at_T77 HR0.out x4_1 p157 q157; obtain rfl : ad155 = ad157 := (by injection e157); have hn157_0 : ad155.block ≠ gb156 := Nat.ne_of_lt (Nat.lt_of_lt_of_le (by have := World.block_lt_of_cell? _ _ hx157_0; first | rwa [add_block] at this | exact this) GW156.out); have hn157_1 : ad155.block ≠ gb156 := Nat.ne_of_lt (Nat.lt_of_lt_of_le (by have := World.block_lt_of_cell? _ _ hx157_0; first | rwa [add_block] at this | exact this) GW156.out); replace hx157_0 := bC HB hx157_0; replace hx157_1 := bC HB hx157_1; replace hx157_0 := (cell_far (p := ⟨gb156, 0, none⟩) (by first | (rw [add_block]; exact hn157_0) | (show (Addr.add _ _).block ≠ _; rw [add_block]; exact hn157_0) | exact hn157_0) (.int .i64 ((rd_T77 l0 (ji4)).f0))).trans hx157_0; replace hx157_1 := (cell_far (p := ⟨gb156, 0, none⟩) (by first | (rw [add_block]; exact hn157_0) | (show (Addr.add _ _).block ≠ _; rw [add_block]; exact hn157_0) | exact hn157_0) (.int .i64 ((rd_T77 l0 (ji4)).f0))).trans hx157_1; replace hx157_0 := (cell_far (p := ⟨gb156, 1, none⟩) (by first | (rw [add_block]; exact hn157_1) | (show (Addr.add _ _).block ≠ _; rw [add_block]; exact hn157_1) | exact hn157_1) (.int .i64 ((rd_T77 l0 (ji4)).f1))).trans hx157_0; replace hx157_1 := (cell_far (p := ⟨gb156, 1, none⟩) (by first | (rw [add_block]; exact hn157_1) | (show (Addr.add _ _).block ≠ _; rw [add_block]; exact hn157_1) | exact hn157_1) (.int .i64 ((rd_T77 l0 (ji4)).f1))).trans hx157_1; (try have hy157_0 := fun (n_ : Nat) => (show ((((w8.drewN n_).setCell ⟨gb156, 0, none⟩ (.int .i64 ((rd_T77 l0 (ji4)).f0))).setCell ⟨gb156, 1, none⟩ (.int .i64 ((rd_T77 l0 (ji4)).f1)))).cell? _ = some _ from hx157_0)); (try have hy157_1 := fun (n_ : Nat) => (show ((((w8.drewN n_).setCell ⟨gb156, 0, none⟩ (.int .i64 ((rd_T77 l0 (ji4)).f0))).setCell ⟨gb156, 1, none⟩ (.int .i64 ((rd_T77 l0 (ji4)).f1)))).cell? _ = some _ from hx157_1)); clear hn157_0 hn157_1; replace p157 := eq_true p157; replace q157 := eq_true q157; have p158 : 0 ≤ (x4_1 : Int) := of_decide_eq_true (by first | (with_reducible assumption) | assumption); have q158 : x4_1 < (l0.length : Int) := of_decide_eq_true (by first | (with_reducible assumption) | assumption); obtain ⟨ad158, e158, hx158_0, hx158_1⟩ := at_T77 HR0.out x4_1 p158 q158; obtain rfl : ad155 = ad158 := (by injection e158); have hn158_0 : ad155.block ≠ gb156 := Nat.ne_of_lt (Nat.lt_of_lt_of_le (by have := World.block_lt_of_cell? _ _ hx158_0; first | rwa [add_block] at this | exact this) GW156.out); have hn158_1 : ad155.block ≠ gb156 := Nat.ne_of_lt (Nat.lt_of_lt_of_le (by have := World.block_lt_of_cell? _ _ hx158_0; first | rwa [add_block] at this | exact this) GW156.out); replace hx158_0 := bC HB hx158_0; replace hx158_1 := bC HB hx158_1; replace hx158_0 := (cell_far (p := ⟨gb156, 0, none⟩) (by first | (rw [add_block]; exact hn158_0) | (show (Addr.add _ _).block ≠ _; rw [add_block]; exact hn158_0) | exact hn158_0) (.int .i64 ((rd_T77 l0 (ji4)).f0))).trans hx158_0; replace hx158_1 := (cell_far (p := ⟨gb156, 0, none⟩) (by first | (rw [add_block]; exact hn158_0) | (show (Addr.add _ _).block ≠ _; rw [add_block]; exact hn158_0) | exact hn158_0) (.int .i64 ((rd_T77 l0 (ji4)).f0))).trans hx158_1; replace hx158_0 := (cell_far (p := ⟨gb156, 1, none⟩) (by first | (rw [add_block]; exact hn158_1) | (show (Addr.add _ _).block ≠ _; rw [add_block]; exact hn158_1) | exact hn158_1) (.int .i64 ((rd_T77 l0 (ji4)).f1))).trans hx158_0; replace hx158_1 := (cell_far (p := ⟨gb156, 1, none⟩) (by first | (rw [add_block]; exact hn158_1) | (show (Addr.add _ _).block ≠ _; rw [add_block]; exact hn158_1) | exact hn158_1) (.int .i64 ((rd_T77 l0 (ji4)).f1))).trans hx158_1; (try have hy158_0 := fun (n_ : Nat) => (show ((((w8.drewN n_).setCell ⟨gb156, 0, none⟩ (.int .i64 ((rd_T77 l0 (ji4)).f0))).setCell ⟨gb156, 1, none⟩ (.int .i64 ((rd_T77 l0 (ji4)).f1)))).cell? _ = some _ from hx158_0)); (try have hy158_1 := fun (n_ : Nat) => (show ((((w8.drewN n_).setCell ⟨gb156, 0, none⟩ (.int .i64 ((rd_T77 l0 (ji4)).f0))).setCell ⟨gb156, 1, none⟩ (.int .i64 ((rd_T77 l0 (ji4)).f1)))).cell? _ = some _ from hx158_1)); clear hn158_0 hn158_1; replace p158 := eq_true p158; replace q158 := eq_true q158))
        repeat (go_quiet (first | ((with_reducible refine gate_dst (N := 5) rfl ?_); refine box_event ?hg (N := 5) ?hd (cs := #[.int .i64 0, .int .i64 0]) (t := 77) ?hr ?_; (case hd => rfl); (case hg => rfl); (case hr => first | (go_simp; done) | (go_simp; rfl)); intro gb156 hg w8 hbox hb; have n0_ := pS HB hb; have n1_ := Aside0.mk (hbox); have n2_ := pG HB hg; have n3_ := pG HB hg; clear HB; have HB := n0_; have BK156 := n1_; have GW156 := n2_; have GE156 := n3_; clear n0_ n1_ n2_ n3_; clear hb hbox hg; obtain ⟨hcz9_0, hcz9_1, hfz9_0, hfz9_1⟩ := cz2 BK156; have p157 : 0 ≤ (x4_1 : Int) := of_decide_eq_true (by first | (with_reducible assumption) | assumption); have q157 : x4_1 < (l0.length : Int) := of_decide_eq_true (by first | (with_reducible assumption) | assumption); obtain ⟨ad157, e157, hx157_0, hx157_1⟩ := at_T77 HR0.out x4_1 p157 q157; obtain rfl : ad155 = ad157 := (by injection e157); have hn157_0 : ad155.block ≠ gb156 := Nat.ne_of_lt (Nat.lt_of_lt_of_le (by have := World.block_lt_of_cell? _ _ hx157_0; first | rwa [add_block] at this | exact this) GW156.out); have hn157_1 : ad155.block ≠ gb156 := Nat.ne_of_lt (Nat.lt_of_lt_of_le (by have := World.block_lt_of_cell? _ _ hx157_0; first | rwa [add_block] at this | exact this) GW156.out); replace hx157_0 := bC HB hx157_0; replace hx157_1 := bC HB hx157_1; replace hx157_0 := (cell_far (p := ⟨gb156, 0, none⟩) (by first | (rw [add_block]; exact hn157_0) | (show (Addr.add _ _).block ≠ _; rw [add_block]; exact hn157_0) | exact hn157_0) (.int .i64 ((rd_T77 l0 (ji4)).f0))).trans hx157_0; replace hx157_1 := (cell_far (p := ⟨gb156, 0, none⟩) (by first | (rw [add_block]; exact hn157_0) | (show (Addr.add _ _).block ≠ _; rw [add_block]; exact hn157_0) | exact hn157_0) (.int .i64 ((rd_T77 l0 (ji4)).f0))).trans hx157_1; replace hx157_0 := (cell_far (p := ⟨gb156, 1, none⟩) (by first | (rw [add_block]; exact hn157_1) | (show (Addr.add _ _).block ≠ _; rw [add_block]; exact hn157_1) | exact hn157_1) (.int .i64 ((rd_T77 l0 (ji4)).f1))).trans hx157_0; replace hx157_1 := (cell_far (p := ⟨gb156, 1, none⟩) (by first | (rw [add_block]; exact hn157_1) | (show (Addr.add _ _).block ≠ _; rw [add_block]; exact hn157_1) | exact hn157_1) (.int .i64 ((rd_T77 l0 (ji4)).f1))).trans hx157_1; (try have hy157_0 := fun (n_ : Nat) => (show ((((w8.drewN n_).setCell ⟨gb156, 0, none⟩ (.int .i64 ((rd_T77 l0 (ji4)).f0))).setCell ⟨gb156, 1, none⟩ (.int .i64 ((rd_T77 l0 (ji4)).f1)))).cell? _ = some _ from hx157_0)); (try have hy157_1 := fun (n_ : Nat) => (show ((((w8.drewN n_).setCell ⟨gb156, 0, none⟩ (.int .i64 ((rd_T77 l0 (ji4)).f0))).setCell ⟨gb156, 1, none⟩ (.int .i64 ((rd_T77 l0 (ji4)).f1)))).cell? _ = some _ from hx157_1)); clear hn157_0 hn157_1; replace p157 := eq_true p157; replace q157 := eq_true q157; have p158 : 0 ≤ (x4_1 : Int) := of_decide_eq_true (by first | (with_reducible assumption) | assumption); have q158 : x4_1 < (l0.length : Int) := of_decide_eq_true (by first | (with_reducible assumption) | assumption); obtain ⟨ad158, e158, hx158_0, hx158_1⟩ := at_T77 HR0.out x4_1 p158 q158; obtain rfl : ad155 = ad158 := (by injection e158); have hn158_0 : ad155.block ≠ gb156 := Nat.ne_of_lt (Nat.lt_of_lt_of_le (by have := World.block_lt_of_cell? _ _ hx158_0; first | rwa [add_block] at this | exact this) GW156.out); have hn158_1 : ad155.block ≠ gb156 := Nat.ne_of_lt (Nat.lt_of_lt_of_le (by have := World.block_lt_of_cell? _ _ hx158_0; first | rwa [add_block] at this | exact this) GW156.out); replace hx158_0 := bC HB hx158_0; replace hx158_1 := bC HB hx158_1; replace hx158_0 := (cell_far (p := ⟨gb156, 0, none⟩) (by first | (rw [add_block]; exact hn158_0) | (show (Addr.add _ _).block ≠ _; rw [add_block]; exact hn158_0) | exact hn158_0) (.int .i64 ((rd_T77 l0 (ji4)).f0))).trans hx158_0; replace hx158_1 := (cell_far (p := ⟨gb156, 0, none⟩) (by first | (rw [add_block]; exact hn158_0) | (show (Addr.add _ _).block ≠ _; rw [add_block]; exact hn158_0) | exact hn158_0) (.int .i64 ((rd_T77 l0 (ji4)).f0))).trans hx158_1; replace hx158_0 := (cell_far (p := ⟨gb156, 1, none⟩) (by first | (rw [add_block]; exact hn158_1) | (show (Addr.add _ _).block ≠ _; rw [add_block]; exact hn158_1) | exact hn158_1) (.int .i64 ((rd_T77 l0 (ji4)).f1))).trans hx158_0; replace hx158_1 := (cell_far (p := ⟨gb156, 1, none⟩) (by first | (rw [add_block]; exact hn158_1) | (show (Addr.add _ _).block ≠ _; rw [add_block]; exact hn158_1) | exact hn158_1) (.int .i64 ((rd_T77 l0 (ji4)).f1))).trans hx158_1; (try have hy158_0 := fun (n_ : Nat) => (show ((((w8.drewN n_).setCell ⟨gb156, 0, none⟩ (.int .i64 ((rd_T77 l0 (ji4)).f0))).setCell ⟨gb156, 1, none⟩ (.int .i64 ((rd_T77 l0 (ji4)).f1)))).cell? _ = some _ from hx158_0)); (try have hy158_1 := fun (n_ : Nat) => (show ((((w8.drewN n_).setCell ⟨gb156, 0, none⟩ (.int .i64 ((rd_T77 l0 (ji4)).f0))).setCell ⟨gb156, 1, none⟩ (.int .i64 ((rd_T77 l0 (ji4)).f1)))).cell? _ = some _ from hx158_1)); clear hn158_0 hn158_1; replace p158 := eq_true p158; replace q158 := eq_true q158)); try go_wp2_with (first | ((with_reducible refine gate_dst (N := 5) rfl ?_); refine box_event ?hg (N := 5) ?hd (cs := #[.int .i64 0, .int .i64 0]) (t := 77) ?hr ?_; (case hd => rfl); (case hg => rfl); (case hr => first | (go_simp; done) | (go_simp; rfl)); intro gb156 hg w8 hbox hb; have n0_ := pS HB hb; have n1_ := Aside0.mk (hbox); have n2_ := pG HB hg; have n3_ := pG HB hg; clear HB; have HB := n0_; have BK156 := n1_; have GW156 := n2_; have GE156 := n3_; clear n0_ n1_ n2_ n3_; clear hb hbox hg; obtain ⟨hcz9_0, hcz9_1, hfz9_0, hfz9_1⟩ := cz2 BK156; have p157 : 0 ≤ (x4_1 : Int) := of_decide_eq_true (by first | (with_reducible assumption) | assumption); have q157 : x4_1 < (l0.length : Int) := of_decide_eq_true (by first | (with_reducible assumption) | assumption); obtain ⟨ad157, e157, hx157_0, hx157_1⟩ := at_T77 HR0.out x4_1 p157 q157; obtain rfl : ad155 = ad157 := (by injection e157); have hn157_0 : ad155.block ≠ gb156 := Nat.ne_of_lt (Nat.lt_of_lt_of_le (by have := World.block_lt_of_cell? _ _ hx157_0; first | rwa [add_block] at this | exact this) GW156.out); have hn157_1 : ad155.block ≠ gb156 := Nat.ne_of_lt (Nat.lt_of_lt_of_le (by have := World.block_lt_of_cell? _ _ hx157_0; first | rwa [add_block] at this | exact this) GW156.out); replace hx157_0 := bC HB hx157_0; replace hx157_1 := bC HB hx157_1; replace hx157_0 := (cell_far (p := ⟨gb156, 0, none⟩) (by first | (rw [add_block]; exact hn157_0) | (show (Addr.add _ _).block ≠ _; rw [add_block]; exact hn157_0) | exact hn157_0) (.int .i64 ((rd_T77 l0 (ji4)).f0))).trans hx157_0; replace hx157_1 := (cell_far (p := ⟨gb156, 0, none⟩) (by first | (rw [add_block]; exact hn157_0) | (show (Addr.add _ _).block ≠ _; rw [add_block]; exact hn157_0) | exact hn157_0) (.int .i64 ((rd_T77 l0 (ji4)).f0))).trans hx157_1; replace hx157_0 := (cell_far (p := ⟨gb156, 1, none⟩) (by first | (rw [add_block]; exact hn157_1) | (show (Addr.add _ _).block ≠ _; rw [add_block]; exact hn157_1) | exact hn157_1) (.int .i64 ((rd_T77 l0 (ji4)).f1))).trans hx157_0; replace hx157_1 := (cell_far (p := ⟨gb156, 1, none⟩) (by first | (rw [add_block]; exact hn157_1) | (show (Addr.add _ _).block ≠ _; rw [add_block]; exact hn157_1) | exact hn157_1) (.int .i64 ((rd_T77 l0 (ji4)).f1))).trans hx157_1; (try have hy157_0 := fun (n_ : Nat) => (show ((((w8.drewN n_).setCell ⟨gb156, 0, none⟩ (.int .i64 ((rd_T77 l0 (ji4)).f0))).setCell ⟨gb156, 1, none⟩ (.int .i64 ((rd_T77 l0 (ji4)).f1)))).cell? _ = some _ from hx157_0)); (try have hy157_1 := fun (n_ : Nat) => (show ((((w8.drewN n_).setCell ⟨gb156, 0, none⟩ (.int .i64 ((rd_T77 l0 (ji4)).f0))).setCell ⟨gb156, 1, none⟩ (.int .i64 ((rd_T77 l0 (ji4)).f1)))).cell? _ = some _ from hx157_1)); clear hn157_0 hn157_1; replace p157 := eq_true p157; replace q157 := eq_true q157; have p158 : 0 ≤ (x4_1 : Int) := of_decide_eq_true (by first | (with_reducible assumption) | assumption); have q158 : x4_1 < (l0.length : Int) := of_decide_eq_true (by first | (with_reducible assumption) | assumption); obtain ⟨ad158, e158, hx158_0, hx158_1⟩ := at_T77 HR0.out x4_1 p158 q158; obtain rfl : ad155 = ad158 := (by injection e158); have hn158_0 : ad155.block ≠ gb156 := Nat.ne_of_lt (Nat.lt_of_lt_of_le (by have := World.block_lt_of_cell? _ _ hx158_0; first | rwa [add_block] at this | exact this) GW156.out); have hn158_1 : ad155.block ≠ gb156 := Nat.ne_of_lt (Nat.lt_of_lt_of_le (by have := World.block_lt_of_cell? _ _ hx158_0; first | rwa [add_block] at this | exact this) GW156.out); replace hx158_0 := bC HB hx158_0; replace hx158_1 := bC HB hx158_1; replace hx158_0 := (cell_far (p := ⟨gb156, 0, none⟩) (by first | (rw [add_block]; exact hn158_0) | (show (Addr.add _ _).block ≠ _; rw [add_block]; exact hn158_0) | exact hn158_0) (.int .i64 ((rd_T77 l0 (ji4)).f0))).trans hx158_0; replace hx158_1 := (cell_far (p := ⟨gb156, 0, none⟩) (by first | (rw [add_block]; exact hn158_0) | (show (Addr.add _ _).block ≠ _; rw [add_block]; exact hn158_0) | exact hn158_0) (.int .i64 ((rd_T77 l0 (ji4)).f0))).trans hx158_1; replace hx158_0 := (cell_far (p := ⟨gb156, 1, none⟩) (by first | (rw [add_block]; exact hn158_1) | (show (Addr.add _ _).block ≠ _; rw [add_block]; exact hn158_1) | exact hn158_1) (.int .i64 ((rd_T77 l0 (ji4)).f1))).trans hx158_0; replace hx158_1 := (cell_far (p := ⟨gb156, 1, none⟩) (by first | (rw [add_block]; exact hn158_1) | (show (Addr.add _ _).block ≠ _; rw [add_block]; exact hn158_1) | exact hn158_1) (.int .i64 ((rd_T77 l0 (ji4)).f1))).trans hx158_1; (try have hy158_0 := fun (n_ : Nat) => (show ((((w8.drewN n_).setCell ⟨gb156, 0, none⟩ (.int .i64 ((rd_T77 l0 (ji4)).f0))).setCell ⟨gb156, 1, none⟩ (.int .i64 ((rd_T77 l0 (ji4)).f1)))).cell? _ = some _ from hx158_0)); (try have hy158_1 := fun (n_ : Nat) => (show ((((w8.drewN n_).setCell ⟨gb156, 0, none⟩ (.int .i64 ((rd_T77 l0 (ji4)).f0))).setCell ⟨gb156, 1, none⟩ (.int .i64 ((rd_T77 l0 (ji4)).f1)))).cell? _ = some _ from hx158_1)); clear hn158_0 hn158_1; replace p158 := eq_true p158; replace q158 := eq_true q158)))
        go_roundg k1
        case measure => have := HK1.out; omega
        case rel => exact ⟨(wrap64 (x3_1 + (wrap64 ((wrap64 (((rd_T77 l0 x4_1).f0) * ((rd_T77 l0 (ji4)).f1))) - (wrap64 (((rd_T77 l0 (ji4)).f0) * ((rd_T77 l0 x4_1).f1))))))), (wrap64 (x4_1 + 1)), (by first | rfl | (simp; done) | (simp only [← hji4] <;> (first | rfl | simp)) | (simp [*]; done)), (by first | rfl | (simp; done) | (simp [*]; done)), H', ⟨by have := HK1.out; omega⟩, ⟨by repeat (first | (with_reducible first | exact HB.out | apply below_alloc | apply pw_below_drewN | apply below_drew1 | refine below_set ?_ GE156.out) | exact HB.out)⟩⟩
       ·rw [if_neg c7] at H
        exact absurd H (by simp)
      ·rw [if_neg c6] at H
       exact absurd H (by simp)
     ·rw [if_neg c5] at H
      exact absurd H (by simp)
   ·rw [if_neg c2] at H
    have c2b0 : decide (x4_1 < (l0.length : Int)) = false := decide_eq_false c2
    clear c2
    obtain rfl := Option.some.inj H
    simp only [Option.some.injEq, Prod.mk.injEq] at H
    obtain ⟨rfl⟩ := H
    go_wp2
    repeat (go_quiet (fail); try go_wp2)
    go_ret
    exact ⟨by first | rfl | (simp [errW_none, errW_some] <;> rfl) | (simp [*, errW_none, errW_some] <;> rfl), pR HB⟩

/-! ### spec_l17Area: function 33 -/
def spec_l17Area.l0 : Nat → List (S29) → Int → Int → Option (Int)
 | 0, _, _, _ => none
 | k + 1, x0, x3, x4 => if x4 < (((rd_T29 x0 0).f0).length : Int) then (if 0 ≤ x4 then (if (rd_T54 ((rd_T29 x0 0).f0) x4).f2 = true then ((spec_l13Twice.f k ((rd_T54 ((rd_T29 x0 0).f0) x4).f1)).bind fun t165 => (spec_l17Area.l0 k x0 (wrap64 (x3 + t165)) (wrap64 (x4 + 1)))) else (spec_l17Area.l0 k x0 x3 (wrap64 (x4 + 1)))) else (none)) else (some x3)
def spec_l17Area.f (k : Nat) (l0 : List (S29)) : Option (Int) := if 0 < (l0.length : Int) then (spec_l17Area.l0 k l0 0 0) else (none)
theorem spec_l17Area.mono_l : ∀ k, (∀ y0 y1 y2, LeO (spec_l17Area.l0 k y0 y1 y2) (spec_l17Area.l0 (k + 1) y0 y1 y2))
 | 0 => fun _ _ _ r h => by simp [spec_l17Area.l0] at h
 | k + 1 => by
  have ih0 := spec_l17Area.mono_l k
  ·intro y0 y1 y2
   unfold spec_l17Area.l0
   repeat' first
   | (with_reducible exact ih0 _ _ _)
   | (with_reducible exact spec_l13Twice.mono _ _)
   | (with_reducible exact LeO.refl _)
   | (with_reducible exact LeO.none _)
   | (with_reducible refine LeO.ite ?_ ?_)
   | (with_reducible refine LeO.bind ?_ (fun _ => ?_))
   | exact ih0 _ _ _
   | exact spec_l13Twice.mono _ _
   | exact LeO.none _
   | refine LeO.ite ?_ ?_
   | refine LeO.bind ?_ (fun _ => ?_)
theorem spec_l17Area.mono : ∀ a0 k, LeO (spec_l17Area.f k a0) (spec_l17Area.f (k + 1) a0) := by
 intro a0 k
 have ih0 := spec_l17Area.mono_l k
 unfold spec_l17Area.f
 repeat' first
   | (with_reducible exact ih0 _ _ _)
   | (with_reducible exact spec_l13Twice.mono _ _)
   | (with_reducible exact LeO.refl _)
   | (with_reducible exact LeO.none _)
   | (with_reducible refine LeO.ite ?_ ?_)
   | (with_reducible refine LeO.bind ?_ (fun _ => ?_))
   | exact ih0 _ _ _
   | exact spec_l13Twice.mono _ _
   | exact LeO.none _
   | refine LeO.ite ?_ ?_
   | refine LeO.bind ?_ (fun _ => ?_)
set_option maxHeartbeats 8000000 in
set_option maxRecDepth 100000 in
theorem spec_l17Area.calls (k : Nat) (A0 : Option Addr) (c0 : Nat) (l0 : List (S29)) (r : Int) (w : World) (hr0 : Kd.C k29 w A0 l0.length l0) (hc0 : l0.length ≤ c0) (h : spec_l17Area.f k l0 = some r) :
  Calls Try.prog 33 #[.pointer A0] w fun e w' => e = .returned (.int .i64 r) ∧ Below w.heap.size w w' := by
 have HR0 := Aside0.mk hr0
 have HC0 := Aside0.mk hc0
 clear hr0 hc0
 have HB := Aside0.mk (Below.refl w.heap.size w)
 have H : (if 0 < (l0.length : Int) then (spec_l17Area.l0 k l0 0 0) else (none)) = some r := h
 clear h
 by_cases c2 : 0 < (l0.length : Int)
 ·rw [if_pos c2] at H
  have c2b0 : decide (0 < (l0.length : Int)) = true := decide_eq_true c2
  have c2b1 : decide (0 < l0.length) = true := decide_eq_true (by omega)
  clear c2
  have H' := Aside0.mk H
  clear H
  have p159 : 0 ≤ (0 : Int) := (by omega)
  have q159 : 0 < (l0.length : Int) := of_decide_eq_true (by first | (with_reducible assumption) | assumption)
  obtain ⟨ad159, A159_0, c159_0, e159, hx159_0, hx159_1, hx159_2, hl159_0, hi159_0⟩ := at_T29 HR0.out 0 p159 q159
  cases e159
  have qi159 : (0 < l0.length) = True := eq_true (by omega)
  (try rw [show ((0 : Int)).toNat = 0 from rfl] at hx159_0)
  (try rw [show 0 * 3 = 0 from rfl] at hx159_0)
  (try rw [Addr.add_zero'] at hx159_0)
  (try rw [show ((0 : Int)).toNat = 0 from rfl] at hx159_1)
  (try rw [show 0 * 3 = 0 from rfl] at hx159_1)
  (try rw [Addr.add_zero'] at hx159_1)
  (try rw [show ((0 : Int)).toNat = 0 from rfl] at hx159_2)
  (try rw [show 0 * 3 = 0 from rfl] at hx159_2)
  (try rw [Addr.add_zero'] at hx159_2)
  have HR159_0 := Aside0.mk hi159_0
  have HC159_0 := Aside0.mk hl159_0
  clear hi159_0 hl159_0
  replace p159 := eq_true p159
  replace q159 := eq_true q159
  have RX159_0 := Aside0.mk hx159_0
  clear hx159_0
  have RX159_1 := Aside0.mk hx159_1
  clear hx159_1
  have RX159_2 := Aside0.mk hx159_2
  clear hx159_2
  go_enter Try.func33, Try.ntmps33
  go_wp2
  go_loopg [3, 4] k (fun kq v3 v4 w' => ∃ (x3_1 : Int) (x4_1 : Int), v3 = .int .i64 x3_1 ∧ v4 = .int .i64 x4_1 ∧ Aside0 (spec_l17Area.l0 kq l0 x3_1 x4_1 = some r) ∧ Aside0 (kq ≤ k) ∧ Aside0 (Below w.heap.size w w'))
  case atStart => exact ⟨(0), (0), (by first | rfl | (simp; done) | (simp [*]; done)), (by first | rfl | (simp; done) | (simp [*]; done)), H', ⟨Nat.le_refl _⟩, ⟨by repeat (first | (with_reducible first | exact HB.out | apply below_alloc | apply pw_below_drewN | apply below_drew1) | exact HB.out)⟩⟩
  case round =>
   clear H'
   try clear c1
   try clear p1
   try clear q1
   try clear hx1
   try clear qi1
   try clear c2
   try clear c2b0
   try clear c2b1
   try clear p2
   try clear hx159_0
   try clear hx159_1
   try clear hx159_2
   try clear p159
   try clear q159
   obtain ⟨x3_1, x4_1, rfl, rfl, HA, HK1, HB⟩ := hrel
   cases gk with
   | zero => exact absurd HA.out (by simp [spec_l17Area.l0])
   | succ k1 =>
    have H := HA.out
    clear HA
    simp only [spec_l17Area.l0] at H
    by_cases c3 : x4_1 < (((rd_T29 l0 0).f0).length : Int)
    ·rw [if_pos c3] at H
     have c3b0 : decide (x4_1 < (((rd_T29 l0 0).f0).length : Int)) = true := decide_eq_true c3
     clear c3
     by_cases c4 : 0 ≤ x4_1
     ·rw [if_pos c4] at H
      have c4b0 : decide (0 ≤ x4_1) = true := decide_eq_true c4
      clear c4
      obtain ⟨bq5, hbq5⟩ : ∃ b_ : Bool, b_ = ((rd_T54 ((rd_T29 l0 0).f0) x4_1).f2) := ⟨_, rfl⟩
      replace H : (if bq5 = true then ((spec_l13Twice.f k1 ((rd_T54 ((rd_T29 l0 0).f0) x4_1).f1)).bind fun t165 => (spec_l17Area.l0 k1 l0 (wrap64 (x3_1 + t165)) (wrap64 (x4_1 + 1)))) else (spec_l17Area.l0 k1 l0 x3_1 (wrap64 (x4_1 + 1)))) = some r := by rw [← hbq5] at H; exact H
      have Nbq5 := Aside0.mk hbq5
      clear hbq5
      by_cases c6 : bq5 = true
      ·subst c6
       have H1 : ((spec_l13Twice.f k1 ((rd_T54 ((rd_T29 l0 0).f0) x4_1).f1)).bind fun t165 => (spec_l17Area.l0 k1 l0 (wrap64 (x3_1 + t165)) (wrap64 (x4_1 + 1)))) = some r := by rw [if_pos rfl] at H; exact H
       clear H
       have H := H1
       clear H1
       replace H := Option.bind_eq_some_iff.mp H
       obtain ⟨t165, A70, H⟩ := H
       replace H : (spec_l17Area.l0 k1 l0 (wrap64 (x3_1 + t165)) (wrap64 (x4_1 + 1))) = some r := H
       have A7 := Aside0.mk A70
       clear A70
       have H' := Aside0.mk H
       clear H
       (try have hx160_0 := bC HB RX159_0.out)
       (try have hx160_1 := bC HB RX159_1.out)
       (try have hx160_2 := bC HB RX159_2.out)
       (try have hx161_0 := bC HB RX159_0.out)
       (try have hx161_1 := bC HB RX159_1.out)
       (try have hx161_2 := bC HB RX159_2.out)
       have p162 : 0 ≤ (x4_1 : Int) := of_decide_eq_true (by first | (with_reducible assumption) | assumption)
       have q162 : x4_1 < (((rd_T29 l0 0).f0).length : Int) := of_decide_eq_true (by first | (with_reducible assumption) | assumption)
       obtain ⟨ad162, A162_1, c162_1, e162, hx162_0, hx162_1, hx162_2, hl162_1, hi162_1⟩ := at_T54 HR159_0.out x4_1 p162 q162
       (try rw [← Nbq5.out] at hx162_2)
       cases e162
       replace hx162_0 := bC HB hx162_0
       replace hx162_1 := bC HB hx162_1
       replace hx162_2 := bC HB hx162_2
       have HR162_1 := Aside0.mk hi162_1
       have HC162_1 := Aside0.mk hl162_1
       clear hi162_1 hl162_1
       replace p162 := eq_true p162
       replace q162 := eq_true q162
       (try have hx163_0 := bC HB RX159_0.out)
       (try have hx163_1 := bC HB RX159_1.out)
       (try have hx163_2 := bC HB RX159_2.out)
       have p164 : 0 ≤ (x4_1 : Int) := of_decide_eq_true (by first | (with_reducible assumption) | assumption)
       have q164 : x4_1 < (((rd_T29 l0 0).f0).length : Int) := of_decide_eq_true (by first | (with_reducible assumption) | assumption)
       obtain ⟨ad164, A164_1, c164_1, e164, hx164_0, hx164_1, hx164_2, hl164_1, hi164_1⟩ := at_T54 HR159_0.out x4_1 p164 q164
       (try rw [← Nbq5.out] at hx164_2)
       obtain rfl : ad162 = ad164 := (by injection e164)
       replace hx164_0 := bC HB hx164_0
       replace hx164_1 := bC HB hx164_1
       replace hx164_2 := bC HB hx164_2
       have HR164_1 := Aside0.mk hi164_1
       have HC164_1 := Aside0.mk hl164_1
       clear hi164_1 hl164_1
       replace p164 := eq_true p164
       replace q164 := eq_true q164
       have ea_ := Option.some.inj (hx162_1.symm.trans hx164_1)
       injection ea_ with ea_ en_ ec_
       subst ea_
       subst ec_
       clear en_
       go_wp2_with (first | ((with_reducible refine gate_callee (f := 56) rfl ?_); refine goesL_ (some 31) rfl rfl Try.func56 (by kernel_rfl) rfl #[.slice A162_1 ((rd_T54 ((rd_T29 l0 0).f0) x4_1).f1).length c162_1] rfl (by (try simp only [List.map_toArray, List.map_cons, List.map_nil]); first | done | rfl | (simp only [List.length_drop, List.length_take]; rfl)) ?_; (with_reducible refine (spec_l13Twice.calls k1 _ _ ((rd_T54 ((rd_T29 l0 0).f0) x4_1).f1) t165 _ ?side1 ?side2 A7.out).mono ?_); (case side1 => repeat (first | exact (Kd.C_below HR164_1.out HB.out) | (with_reducible refine Kd.C_alloc ?_ _) | (with_reducible refine Kd.C_drewN ?_ _) | (with_reducible refine Kd.C_drew ?_))); (case side2 => exact HC164_1.out); rintro e w8 ⟨rfl, hb⟩; refine ⟨_, rfl, ?_⟩; have n0_ := pS HB hb; clear HB; have HB := n0_; clear n0_; (try clear hb); (try clear hb2); (try clear hk); (try clear hi)))
       go_roundg k1
       case measure => have := HK1.out; omega
       case rel => exact ⟨(wrap64 (x3_1 + t165)), (wrap64 (x4_1 + 1)), (by first | rfl | (simp; done) | (simp [*]; done)), (by first | rfl | (simp; done) | (simp [*]; done)), H', ⟨by have := HK1.out; omega⟩, ⟨by repeat (first | (with_reducible first | exact HB.out | apply below_alloc | apply pw_below_drewN | apply below_drew1) | exact HB.out)⟩⟩
      ·replace c6 := Bool.eq_false_iff.mpr c6
       subst c6
       have H1 : (spec_l17Area.l0 k1 l0 x3_1 (wrap64 (x4_1 + 1))) = some r := by rw [if_neg (show ¬ (false = true) by decide)] at H; exact H
       clear H
       have H := H1
       clear H1
       have H' := Aside0.mk H
       clear H
       (try have hx160_0 := bC HB RX159_0.out)
       (try have hx160_1 := bC HB RX159_1.out)
       (try have hx160_2 := bC HB RX159_2.out)
       (try have hx161_0 := bC HB RX159_0.out)
       (try have hx161_1 := bC HB RX159_1.out)
       (try have hx161_2 := bC HB RX159_2.out)
       have p162 : 0 ≤ (x4_1 : Int) := of_decide_eq_true (by first | (with_reducible assumption) | assumption)
       have q162 : x4_1 < (((rd_T29 l0 0).f0).length : Int) := of_decide_eq_true (by first | (with_reducible assumption) | assumption)
       obtain ⟨ad162, A162_1, c162_1, e162, hx162_0, hx162_1, hx162_2, hl162_1, hi162_1⟩ := at_T54 HR159_0.out x4_1 p162 q162
       (try rw [← Nbq5.out] at hx162_2)
       cases e162
       replace hx162_0 := bC HB hx162_0
       replace hx162_1 := bC HB hx162_1
       replace hx162_2 := bC HB hx162_2
       have HR162_1 := Aside0.mk hi162_1
       have HC162_1 := Aside0.mk hl162_1
       clear hi162_1 hl162_1
       replace p162 := eq_true p162
       replace q162 := eq_true q162
       go_wp2
       go_roundg k1
       case measure => have := HK1.out; omega
       case rel => exact ⟨(x3_1), (wrap64 (x4_1 + 1)), (by first | rfl | (simp; done) | (simp [*]; done)), (by first | rfl | (simp; done) | (simp [*]; done)), H', ⟨by have := HK1.out; omega⟩, ⟨by repeat (first | (with_reducible first | exact HB.out | apply below_alloc | apply pw_below_drewN | apply below_drew1) | exact HB.out)⟩⟩
     ·rw [if_neg c4] at H
      exact absurd H (by simp)
    ·rw [if_neg c3] at H
     have c3b0 : decide (x4_1 < (((rd_T29 l0 0).f0).length : Int)) = false := decide_eq_false c3
     clear c3
     obtain rfl := Option.some.inj H
     simp only [Option.some.injEq, Prod.mk.injEq] at H
     obtain ⟨rfl⟩ := H
     (try have hx160_0 := bC HB RX159_0.out)
     (try have hx160_1 := bC HB RX159_1.out)
     (try have hx160_2 := bC HB RX159_2.out)
     go_wp2
     go_ret
     exact ⟨by first | rfl | (simp [errW_none, errW_some] <;> rfl) | (simp [*, errW_none, errW_some] <;> rfl), pR HB⟩
 ·rw [if_neg c2] at H
  exact absurd H (by simp)

/-! ### spec_l13Moments: function 57 -/
def spec_l13Moments.l0 : Nat → List (S77) → Int → Int → Int → Option (Int × Int)
 | 0, _, _, _, _ => none
 | k + 1, x0, x4, x5, x6 => if x6 < (x0.length : Int) then (if 0 ≤ x6 then (if (x0.length : Int) = 0 then (none) else (if 0 ≤ (Int.tmod (wrap64 (x6 + 1)) (x0.length : Int)) then (if (Int.tmod (wrap64 (x6 + 1)) (x0.length : Int)) < (x0.length : Int) then (spec_l13Moments.l0 k x0 (wrap64 (x4 + (wrap64 ((wrap64 (((rd_T77 x0 x6).f0) + ((rd_T77 x0 (Int.tmod (wrap64 (x6 + 1)) (x0.length : Int))).f0))) * (wrap64 ((wrap64 (((rd_T77 x0 x6).f0) * ((rd_T77 x0 (Int.tmod (wrap64 (x6 + 1)) (x0.length : Int))).f1))) - (wrap64 (((rd_T77 x0 (Int.tmod (wrap64 (x6 + 1)) (x0.length : Int))).f0) * ((rd_T77 x0 x6).f1))))))))) (wrap64 (x5 + (wrap64 ((wrap64 (((rd_T77 x0 x6).f1) + ((rd_T77 x0 (Int.tmod (wrap64 (x6 + 1)) (x0.length : Int))).f1))) * (wrap64 ((wrap64 (((rd_T77 x0 x6).f0) * ((rd_T77 x0 (Int.tmod (wrap64 (x6 + 1)) (x0.length : Int))).f1))) - (wrap64 (((rd_T77 x0 (Int.tmod (wrap64 (x6 + 1)) (x0.length : Int))).f0) * ((rd_T77 x0 x6).f1))))))))) (wrap64 (x6 + 1))) else (none)) else (none))) else (none)) else (some (x4, x5))
def spec_l13Moments.f (k : Nat) (l0 : List (S77)) : Option (Int × Int) := spec_l13Moments.l0 k l0 0 0 0
theorem spec_l13Moments.mono_l : ∀ k, (∀ y0 y1 y2 y3, LeO (spec_l13Moments.l0 k y0 y1 y2 y3) (spec_l13Moments.l0 (k + 1) y0 y1 y2 y3))
 | 0 => fun _ _ _ _ r h => by simp [spec_l13Moments.l0] at h
 | k + 1 => by
  have ih0 := spec_l13Moments.mono_l k
  ·intro y0 y1 y2 y3
   unfold spec_l13Moments.l0
   repeat' first
   | (with_reducible exact ih0 _ _ _ _)
   | (with_reducible exact LeO.refl _)
   | (with_reducible exact LeO.none _)
   | (with_reducible refine LeO.ite ?_ ?_)
   | (with_reducible refine LeO.bind ?_ (fun _ => ?_))
   | exact ih0 _ _ _ _
   | exact LeO.none _
   | refine LeO.ite ?_ ?_
   | refine LeO.bind ?_ (fun _ => ?_)
theorem spec_l13Moments.mono : ∀ a0 k, LeO (spec_l13Moments.f k a0) (spec_l13Moments.f (k + 1) a0) := by
 intro a0 k
 have ih0 := spec_l13Moments.mono_l k
 unfold spec_l13Moments.f
 repeat' first
   | (with_reducible exact ih0 _ _ _ _)
   | (with_reducible exact LeO.refl _)
   | (with_reducible exact LeO.none _)
   | (with_reducible refine LeO.ite ?_ ?_)
   | (with_reducible refine LeO.bind ?_ (fun _ => ?_))
   | exact ih0 _ _ _ _
   | exact LeO.none _
   | refine LeO.ite ?_ ?_
   | refine LeO.bind ?_ (fun _ => ?_)
set_option maxHeartbeats 8000000 in
set_option maxRecDepth 100000 in
theorem spec_l13Moments.calls (k : Nat) (A0 : Option Addr) (c0 : Nat) (l0 : List (S77)) (r1 : Int) (r2 : Int) (w : World) (hr0 : Kd.C k77 w A0 l0.length l0) (hc0 : l0.length ≤ c0) (h : spec_l13Moments.f k l0 = some (r1, r2)) :
  Calls Try.prog 57 #[.slice A0 l0.length c0] w fun e w' => e = .returned (.tuple #[.int .i64 r1, .int .i64 r2]) ∧ Below w.heap.size w w' := by
 have hu77 := Try.underlying77
 have HR0 := Aside0.mk hr0
 have HC0 := Aside0.mk hc0
 clear hr0 hc0
 have HB := Aside0.mk (Below.refl w.heap.size w)
 have H : (spec_l13Moments.l0 k l0 0 0 0) = some (r1, r2) := h
 clear h
 have H' := Aside0.mk H
 clear H
 go_enter Try.func57, Try.ntmps57
 go_wp2
 go_loopg [4, 5, 6] k (fun kq v4 v5 v6 w' => ∃ (x4_1 : Int) (x5_1 : Int) (x6_1 : Int), v4 = .int .i64 x4_1 ∧ v5 = .int .i64 x5_1 ∧ v6 = .int .i64 x6_1 ∧ Aside0 (spec_l13Moments.l0 kq l0 x4_1 x5_1 x6_1 = some (r1, r2)) ∧ Aside0 (kq ≤ k) ∧ Aside0 (Below w.heap.size w w'))
 case atStart => exact ⟨(0), (0), (0), (by first | rfl | (simp; done) | (simp [*]; done)), (by first | rfl | (simp; done) | (simp [*]; done)), (by first | rfl | (simp; done) | (simp [*]; done)), H', ⟨Nat.le_refl _⟩, ⟨by repeat (first | (with_reducible first | exact HB.out | apply below_alloc | apply pw_below_drewN | apply below_drew1) | exact HB.out)⟩⟩
 case round =>
  clear H'
  obtain ⟨x4_1, x5_1, x6_1, rfl, rfl, rfl, HA, HK1, HB⟩ := hrel
  cases gk with
  | zero => exact absurd HA.out (by simp [spec_l13Moments.l0])
  | succ k1 =>
   have H := HA.out
   clear HA
   simp only [spec_l13Moments.l0] at H
   by_cases c2 : x6_1 < (l0.length : Int)
   ·rw [if_pos c2] at H
    have c2b0 : decide (x6_1 < (l0.length : Int)) = true := decide_eq_true c2
    clear c2
    by_cases c3 : 0 ≤ x6_1
    ·rw [if_pos c3] at H
     have c3b0 : decide (0 ≤ x6_1) = true := decide_eq_true c3
     clear c3
     by_cases c4 : (l0.length : Int) = 0
     ·rw [if_pos c4] at H
      exact absurd H (by simp)
     ·rw [if_neg c4] at H
      have c4b0 : ((l0.length : Int) == 0) = false := beq_eq_false_iff_ne.mpr c4
      have c4b1 : ((l0.length : Int) != 0) = true := bne_iff_ne.mpr c4
      have c4b2 : ¬ (l0 = []) := fun h_ => c4 (by rw [h_]; rfl)
      obtain ⟨ji5, hji5⟩ : ∃ j_ : Int, (Int.tmod (wrap64 (x6_1 + 1)) (l0.length : Int)) = j_ := ⟨_, rfl⟩
      replace H : (if 0 ≤ (ji5) then (if (ji5) < (l0.length : Int) then (spec_l13Moments.l0 k1 l0 (wrap64 (x4_1 + (wrap64 ((wrap64 (((rd_T77 l0 x6_1).f0) + ((rd_T77 l0 (ji5)).f0))) * (wrap64 ((wrap64 (((rd_T77 l0 x6_1).f0) * ((rd_T77 l0 (ji5)).f1))) - (wrap64 (((rd_T77 l0 (ji5)).f0) * ((rd_T77 l0 x6_1).f1))))))))) (wrap64 (x5_1 + (wrap64 ((wrap64 (((rd_T77 l0 x6_1).f1) + ((rd_T77 l0 (ji5)).f1))) * (wrap64 ((wrap64 (((rd_T77 l0 x6_1).f0) * ((rd_T77 l0 (ji5)).f1))) - (wrap64 (((rd_T77 l0 (ji5)).f0) * ((rd_T77 l0 x6_1).f1))))))))) (wrap64 (x6_1 + 1))) else (none)) else (none)) = some (r1, r2) := by first | (rw [hji5] at H; exact H) | (simp only [hji5] at H ⊢; exact H)
      by_cases c6 : 0 ≤ (ji5)
      ·rw [if_pos c6] at H
       have c6b0 : decide (0 ≤ (ji5)) = true := decide_eq_true c6
       clear c6
       by_cases c7 : (ji5) < (l0.length : Int)
       ·rw [if_pos c7] at H
        have c7b0 : decide ((ji5) < (l0.length : Int)) = true := decide_eq_true c7
        clear c7
        have H' := Aside0.mk H
        clear H
        have p166 : 0 ≤ (x6_1 : Int) := of_decide_eq_true (by first | (with_reducible assumption) | assumption)
        have q166 : x6_1 < (l0.length : Int) := of_decide_eq_true (by first | (with_reducible assumption) | assumption)
        obtain ⟨ad166, e166, hx166_0, hx166_1⟩ := at_T77 HR0.out x6_1 p166 q166
        cases e166
        replace hx166_0 := bC HB hx166_0
        replace hx166_1 := bC HB hx166_1
        replace p166 := eq_true p166
        replace q166 := eq_true q166
        go_wp2_with (first | ((with_reducible refine gate_dst (N := 7) rfl ?_); refine box_event ?hg (N := 7) ?hd (cs := #[.int .i64 0, .int .i64 0]) (t := 77) ?hr ?_; (case hd => rfl); (case hg => rfl); (case hr => first | (go_simp; done) | (go_simp; rfl)); intro gb167 hg w8 hbox hb; have n0_ := pS HB hb; have n1_ := Aside0.mk (hbox); have n2_ := pG HB hg; have n3_ := pG HB hg; clear HB; have HB := n0_; have BK167 := n1_; have GW167 := n2_; have GE167 := n3_; clear n0_ n1_ n2_ n3_; clear hb hbox hg; obtain ⟨hcz9_0, hcz9_1, hfz9_0, hfz9_1⟩ := cz2 BK167; have p168 : 0 ≤ ((ji5) : Int) := of_decide_eq_true (by first | (with_reducible assumption) | assumption); have q168 : (ji5) < (l0.length : Int) := of_decide_eq_true (by first | (with_reducible assumption) | assumption); obtain ⟨ad168, e168, hx168_0, hx168_1⟩ := at_T77 HR0.out (ji5) p168 q168; obtain rfl : ad166 = ad168 := (by injection e168); have hn168_0 : ad166.block ≠ gb167 := Nat.ne_of_lt (Nat.lt_of_lt_of_le (by have := World.block_lt_of_cell? _ _ hx168_0; first | rwa [add_block] at this | exact this) GW167.out); have hn168_1 : ad166.block ≠ gb167 := Nat.ne_of_lt (Nat.lt_of_lt_of_le (by have := World.block_lt_of_cell? _ _ hx168_0; first | rwa [add_block] at this | exact this) GW167.out); replace hx168_0 := bC HB hx168_0; replace hx168_1 := bC HB hx168_1; replace hx168_0 := (cell_far (p := ⟨gb167, 0, none⟩) (by first | (rw [add_block]; exact hn168_0) | (show (Addr.add _ _).block ≠ _; rw [add_block]; exact hn168_0) | exact hn168_0) (.int .i64 ((rd_T77 l0 x6_1).f0))).trans hx168_0; replace hx168_1 := (cell_far (p := ⟨gb167, 0, none⟩) (by first | (rw [add_block]; exact hn168_0) | (show (Addr.add _ _).block ≠ _; rw [add_block]; exact hn168_0) | exact hn168_0) (.int .i64 ((rd_T77 l0 x6_1).f0))).trans hx168_1; replace hx168_0 := (cell_far (p := ⟨gb167, 1, none⟩) (by first | (rw [add_block]; exact hn168_1) | (show (Addr.add _ _).block ≠ _; rw [add_block]; exact hn168_1) | exact hn168_1) (.int .i64 ((rd_T77 l0 x6_1).f1))).trans hx168_0; replace hx168_1 := (cell_far (p := ⟨gb167, 1, none⟩) (by first | (rw [add_block]; exact hn168_1) | (show (Addr.add _ _).block ≠ _; rw [add_block]; exact hn168_1) | exact hn168_1) (.int .i64 ((rd_T77 l0 x6_1).f1))).trans hx168_1; clear hn168_0 hn168_1; replace p168 := eq_true p168; replace q168 := eq_true q168) | ((with_reducible refine gate_dst (N := 8) rfl ?_); refine box_event ?hg (N := 8) ?hd (cs := #[.int .i64 0, .int .i64 0]) (t := 77) ?hr ?_; (case hd => rfl); (case hg => rfl); (case hr => first | (go_simp; done) | (go_simp; rfl)); intro gb169 hg w10 hbox hb; have n0_ := Aside0.mk (blk_below (g := gb167) (o := .cells #[.int .i64 ((rd_T77 l0 x6_1).f0), .int .i64 ((rd_T77 l0 x6_1).f1)] 77 (0, 0)) (by (with_reducible repeat (first | refine blk_drewN ?_ _ | refine blk_drew ?_ | refine blk_alloc ?_ _)); refine blk_put (cs := #[.int .i64 ((rd_T77 l0 x6_1).f0), .int .i64 0]) ?_ 1 _ rfl; (with_reducible repeat (first | refine blk_drewN ?_ _ | refine blk_drew ?_ | refine blk_alloc ?_ _)); refine blk_put (cs := #[.int .i64 0, .int .i64 0]) ?_ 0 _ rfl; (with_reducible repeat (first | refine blk_drewN ?_ _ | refine blk_drew ?_ | refine blk_alloc ?_ _)); exact BK167.out) hb); have n1_ := pS HB hb; have n2_ := Aside0.mk (hbox); have n3_ := pG HB hg; have n4_ := pG HB hg; have n5_ := Aside0.mk ((by rw [hg]; exact Nat.ne_of_lt (blk_lt (g := gb167) (o := .cells #[.int .i64 ((rd_T77 l0 x6_1).f0), .int .i64 ((rd_T77 l0 x6_1).f1)] 77 (0, 0)) (by (with_reducible repeat (first | refine blk_drewN ?_ _ | refine blk_drew ?_ | refine blk_alloc ?_ _)); refine blk_put (cs := #[.int .i64 ((rd_T77 l0 x6_1).f0), .int .i64 0]) ?_ 1 _ rfl; (with_reducible repeat (first | refine blk_drewN ?_ _ | refine blk_drew ?_ | refine blk_alloc ?_ _)); refine blk_put (cs := #[.int .i64 0, .int .i64 0]) ?_ 0 _ rfl; (with_reducible repeat (first | refine blk_drewN ?_ _ | refine blk_drew ?_ | refine blk_alloc ?_ _)); exact BK167.out)) : gb167 ≠ gb169)); have n6_ := Aside0.mk ((by rw [hg]; exact Nat.ne_of_gt (blk_lt (g := gb167) (o := .cells #[.int .i64 ((rd_T77 l0 x6_1).f0), .int .i64 ((rd_T77 l0 x6_1).f1)] 77 (0, 0)) (by (with_reducible repeat (first | refine blk_drewN ?_ _ | refine blk_drew ?_ | refine blk_alloc ?_ _)); refine blk_put (cs := #[.int .i64 ((rd_T77 l0 x6_1).f0), .int .i64 0]) ?_ 1 _ rfl; (with_reducible repeat (first | refine blk_drewN ?_ _ | refine blk_drew ?_ | refine blk_alloc ?_ _)); refine blk_put (cs := #[.int .i64 0, .int .i64 0]) ?_ 0 _ rfl; (with_reducible repeat (first | refine blk_drewN ?_ _ | refine blk_drew ?_ | refine blk_alloc ?_ _)); exact BK167.out)) : gb169 ≠ gb167)); clear BK167 HB; have BK167 := n0_; have HB := n1_; have BK169 := n2_; have GW169 := n3_; have GE169 := n4_; have NB167_169 := n5_; have NB169_167 := n6_; clear n0_ n1_ n2_ n3_ n4_ n5_ n6_; clear hb hbox hg; have hnb11 := NB169_167.out; have hnc11 := NB167_169.out; obtain ⟨hcz12_0, hcz12_1, hfz12_0, hfz12_1⟩ := cz2 BK169; obtain ⟨hcz13_0, hcz13_1, hfz13_0, hfz13_1⟩ := cz2 BK167))
        go_roundg k1
        case measure => have := HK1.out; omega
        case rel => exact ⟨(wrap64 (x4_1 + (wrap64 ((wrap64 (((rd_T77 l0 x6_1).f0) + ((rd_T77 l0 (ji5)).f0))) * (wrap64 ((wrap64 (((rd_T77 l0 x6_1).f0) * ((rd_T77 l0 (ji5)).f1))) - (wrap64 (((rd_T77 l0 (ji5)).f0) * ((rd_T77 l0 x6_1).f1))))))))), (wrap64 (x5_1 + (wrap64 ((wrap64 (((rd_T77 l0 x6_1).f1) + ((rd_T77 l0 (ji5)).f1))) * (wrap64 ((wrap64 (((rd_T77 l0 x6_1).f0) * ((rd_T77 l0 (ji5)).f1))) - (wrap64 (((rd_T77 l0 (ji5)).f0) * ((rd_T77 l0 x6_1).f1))))))))), (wrap64 (x6_1 + 1)), (by first | rfl | (simp; done) | (simp only [← hji5] <;> (first | rfl | simp)) | (simp [*]; done)), (by first | rfl | (simp; done) | (simp only [← hji5] <;> (first | rfl | simp)) | (simp [*]; done)), (by first | rfl | (simp; done) | (simp [*]; done)), H', ⟨by have := HK1.out; omega⟩, ⟨by repeat (first | (with_reducible first | exact HB.out | apply below_alloc | apply pw_below_drewN | apply below_drew1 | refine below_set ?_ GE167.out | refine below_set ?_ GE169.out) | exact HB.out)⟩⟩
       ·rw [if_neg c7] at H
        exact absurd H (by simp)
      ·rw [if_neg c6] at H
       exact absurd H (by simp)
    ·rw [if_neg c3] at H
     exact absurd H (by simp)
   ·rw [if_neg c2] at H
    have c2b0 : decide (x6_1 < (l0.length : Int)) = false := decide_eq_false c2
    clear c2
    simp only [Option.some.injEq, Prod.mk.injEq] at H
    obtain ⟨rfl, rfl⟩ := H
    go_wp2
    go_ret2
    exact ⟨by first | rfl | (simp [errW_none, errW_some] <;> rfl) | (simp [*, errW_none, errW_some] <;> rfl), pR HB⟩

/-! ### spec_l17Moments: function 36 -/
def spec_l17Moments.l0 : Nat → List (S29) → Int → Int → Int → Option (Int × Int)
 | 0, _, _, _, _ => none
 | k + 1, x0, x4, x5, x6 => if x6 < (((rd_T29 x0 0).f0).length : Int) then (if 0 ≤ x6 then (if (rd_T54 ((rd_T29 x0 0).f0) x6).f2 = true then ((spec_l13Moments.f k ((rd_T54 ((rd_T29 x0 0).f0) x6).f1)).bind fun bt176 => (spec_l17Moments.l0 k x0 (wrap64 (x4 + bt176.1)) (wrap64 (x5 + bt176.2)) (wrap64 (x6 + 1)))) else (spec_l17Moments.l0 k x0 x4 x5 (wrap64 (x6 + 1)))) else (none)) else (some (x4, x5))
def spec_l17Moments.f (k : Nat) (l0 : List (S29)) : Option (Int × Int) := if 0 < (l0.length : Int) then (spec_l17Moments.l0 k l0 0 0 0) else (none)
theorem spec_l17Moments.mono_l : ∀ k, (∀ y0 y1 y2 y3, LeO (spec_l17Moments.l0 k y0 y1 y2 y3) (spec_l17Moments.l0 (k + 1) y0 y1 y2 y3))
 | 0 => fun _ _ _ _ r h => by simp [spec_l17Moments.l0] at h
 | k + 1 => by
  have ih0 := spec_l17Moments.mono_l k
  ·intro y0 y1 y2 y3
   unfold spec_l17Moments.l0
   repeat' first
   | (with_reducible exact ih0 _ _ _ _)
   | (with_reducible exact spec_l13Moments.mono _ _)
   | (with_reducible exact LeO.refl _)
   | (with_reducible exact LeO.none _)
   | (with_reducible refine LeO.ite ?_ ?_)
   | (with_reducible refine LeO.bind ?_ (fun _ => ?_))
   | exact ih0 _ _ _ _
   | exact spec_l13Moments.mono _ _
   | exact LeO.none _
   | refine LeO.ite ?_ ?_
   | refine LeO.bind ?_ (fun _ => ?_)
theorem spec_l17Moments.mono : ∀ a0 k, LeO (spec_l17Moments.f k a0) (spec_l17Moments.f (k + 1) a0) := by
 intro a0 k
 have ih0 := spec_l17Moments.mono_l k
 unfold spec_l17Moments.f
 repeat' first
   | (with_reducible exact ih0 _ _ _ _)
   | (with_reducible exact spec_l13Moments.mono _ _)
   | (with_reducible exact LeO.refl _)
   | (with_reducible exact LeO.none _)
   | (with_reducible refine LeO.ite ?_ ?_)
   | (with_reducible refine LeO.bind ?_ (fun _ => ?_))
   | exact ih0 _ _ _ _
   | exact spec_l13Moments.mono _ _
   | exact LeO.none _
   | refine LeO.ite ?_ ?_
   | refine LeO.bind ?_ (fun _ => ?_)
set_option maxHeartbeats 8000000 in
set_option maxRecDepth 100000 in
theorem spec_l17Moments.calls (k : Nat) (A0 : Option Addr) (c0 : Nat) (l0 : List (S29)) (r1 : Int) (r2 : Int) (w : World) (hr0 : Kd.C k29 w A0 l0.length l0) (hc0 : l0.length ≤ c0) (h : spec_l17Moments.f k l0 = some (r1, r2)) :
  Calls Try.prog 36 #[.pointer A0] w fun e w' => e = .returned (.tuple #[.int .i64 r1, .int .i64 r2]) ∧ Below w.heap.size w w' := by
 have HR0 := Aside0.mk hr0
 have HC0 := Aside0.mk hc0
 clear hr0 hc0
 have HB := Aside0.mk (Below.refl w.heap.size w)
 have H : (if 0 < (l0.length : Int) then (spec_l17Moments.l0 k l0 0 0 0) else (none)) = some (r1, r2) := h
 clear h
 by_cases c2 : 0 < (l0.length : Int)
 ·rw [if_pos c2] at H
  have c2b0 : decide (0 < (l0.length : Int)) = true := decide_eq_true c2
  have c2b1 : decide (0 < l0.length) = true := decide_eq_true (by omega)
  clear c2
  have H' := Aside0.mk H
  clear H
  have p170 : 0 ≤ (0 : Int) := (by omega)
  have q170 : 0 < (l0.length : Int) := of_decide_eq_true (by first | (with_reducible assumption) | assumption)
  obtain ⟨ad170, A170_0, c170_0, e170, hx170_0, hx170_1, hx170_2, hl170_0, hi170_0⟩ := at_T29 HR0.out 0 p170 q170
  cases e170
  have qi170 : (0 < l0.length) = True := eq_true (by omega)
  (try rw [show ((0 : Int)).toNat = 0 from rfl] at hx170_0)
  (try rw [show 0 * 3 = 0 from rfl] at hx170_0)
  (try rw [Addr.add_zero'] at hx170_0)
  (try rw [show ((0 : Int)).toNat = 0 from rfl] at hx170_1)
  (try rw [show 0 * 3 = 0 from rfl] at hx170_1)
  (try rw [Addr.add_zero'] at hx170_1)
  (try rw [show ((0 : Int)).toNat = 0 from rfl] at hx170_2)
  (try rw [show 0 * 3 = 0 from rfl] at hx170_2)
  (try rw [Addr.add_zero'] at hx170_2)
  have HR170_0 := Aside0.mk hi170_0
  have HC170_0 := Aside0.mk hl170_0
  clear hi170_0 hl170_0
  replace p170 := eq_true p170
  replace q170 := eq_true q170
  have RX170_0 := Aside0.mk hx170_0
  clear hx170_0
  have RX170_1 := Aside0.mk hx170_1
  clear hx170_1
  have RX170_2 := Aside0.mk hx170_2
  clear hx170_2
  go_enter Try.func36, Try.ntmps36
  go_wp2
  go_loopg [4, 5, 6] k (fun kq v4 v5 v6 w' => ∃ (x4_1 : Int) (x5_1 : Int) (x6_1 : Int), v4 = .int .i64 x4_1 ∧ v5 = .int .i64 x5_1 ∧ v6 = .int .i64 x6_1 ∧ Aside0 (spec_l17Moments.l0 kq l0 x4_1 x5_1 x6_1 = some (r1, r2)) ∧ Aside0 (kq ≤ k) ∧ Aside0 (Below w.heap.size w w'))
  case atStart => exact ⟨(0), (0), (0), (by first | rfl | (simp; done) | (simp [*]; done)), (by first | rfl | (simp; done) | (simp [*]; done)), (by first | rfl | (simp; done) | (simp [*]; done)), H', ⟨Nat.le_refl _⟩, ⟨by repeat (first | (with_reducible first | exact HB.out | apply below_alloc | apply pw_below_drewN | apply below_drew1) | exact HB.out)⟩⟩
  case round =>
   clear H'
   try clear c1
   try clear p1
   try clear q1
   try clear hx1
   try clear qi1
   try clear c2
   try clear c2b0
   try clear c2b1
   try clear p2
   try clear hx170_0
   try clear hx170_1
   try clear hx170_2
   try clear p170
   try clear q170
   obtain ⟨x4_1, x5_1, x6_1, rfl, rfl, rfl, HA, HK1, HB⟩ := hrel
   cases gk with
   | zero => exact absurd HA.out (by simp [spec_l17Moments.l0])
   | succ k1 =>
    have H := HA.out
    clear HA
    simp only [spec_l17Moments.l0] at H
    by_cases c3 : x6_1 < (((rd_T29 l0 0).f0).length : Int)
    ·rw [if_pos c3] at H
     have c3b0 : decide (x6_1 < (((rd_T29 l0 0).f0).length : Int)) = true := decide_eq_true c3
     clear c3
     by_cases c4 : 0 ≤ x6_1
     ·rw [if_pos c4] at H
      have c4b0 : decide (0 ≤ x6_1) = true := decide_eq_true c4
      clear c4
      obtain ⟨bq5, hbq5⟩ : ∃ b_ : Bool, b_ = ((rd_T54 ((rd_T29 l0 0).f0) x6_1).f2) := ⟨_, rfl⟩
      replace H : (if bq5 = true then ((spec_l13Moments.f k1 ((rd_T54 ((rd_T29 l0 0).f0) x6_1).f1)).bind fun bt176 => (spec_l17Moments.l0 k1 l0 (wrap64 (x4_1 + bt176.1)) (wrap64 (x5_1 + bt176.2)) (wrap64 (x6_1 + 1)))) else (spec_l17Moments.l0 k1 l0 x4_1 x5_1 (wrap64 (x6_1 + 1)))) = some (r1, r2) := by rw [← hbq5] at H; exact H
      have Nbq5 := Aside0.mk hbq5
      clear hbq5
      by_cases c6 : bq5 = true
      ·subst c6
       have H1 : ((spec_l13Moments.f k1 ((rd_T54 ((rd_T29 l0 0).f0) x6_1).f1)).bind fun bt176 => (spec_l17Moments.l0 k1 l0 (wrap64 (x4_1 + bt176.1)) (wrap64 (x5_1 + bt176.2)) (wrap64 (x6_1 + 1)))) = some (r1, r2) := by rw [if_pos rfl] at H; exact H
       clear H
       have H := H1
       clear H1
       replace H := Option.bind_eq_some_iff.mp H
       obtain ⟨⟨t176, t177⟩, A70, H⟩ := H
       replace H : (spec_l17Moments.l0 k1 l0 (wrap64 (x4_1 + t176)) (wrap64 (x5_1 + t177)) (wrap64 (x6_1 + 1))) = some (r1, r2) := H
       have A7 := Aside0.mk A70
       clear A70
       have H' := Aside0.mk H
       clear H
       (try have hx171_0 := bC HB RX170_0.out)
       (try have hx171_1 := bC HB RX170_1.out)
       (try have hx171_2 := bC HB RX170_2.out)
       (try have hx172_0 := bC HB RX170_0.out)
       (try have hx172_1 := bC HB RX170_1.out)
       (try have hx172_2 := bC HB RX170_2.out)
       have p173 : 0 ≤ (x6_1 : Int) := of_decide_eq_true (by first | (with_reducible assumption) | assumption)
       have q173 : x6_1 < (((rd_T29 l0 0).f0).length : Int) := of_decide_eq_true (by first | (with_reducible assumption) | assumption)
       obtain ⟨ad173, A173_1, c173_1, e173, hx173_0, hx173_1, hx173_2, hl173_1, hi173_1⟩ := at_T54 HR170_0.out x6_1 p173 q173
       (try rw [← Nbq5.out] at hx173_2)
       cases e173
       replace hx173_0 := bC HB hx173_0
       replace hx173_1 := bC HB hx173_1
       replace hx173_2 := bC HB hx173_2
       have HR173_1 := Aside0.mk hi173_1
       have HC173_1 := Aside0.mk hl173_1
       clear hi173_1 hl173_1
       replace p173 := eq_true p173
       replace q173 := eq_true q173
       (try have hx174_0 := bC HB RX170_0.out)
       (try have hx174_1 := bC HB RX170_1.out)
       (try have hx174_2 := bC HB RX170_2.out)
       have p175 : 0 ≤ (x6_1 : Int) := of_decide_eq_true (by first | (with_reducible assumption) | assumption)
       have q175 : x6_1 < (((rd_T29 l0 0).f0).length : Int) := of_decide_eq_true (by first | (with_reducible assumption) | assumption)
       obtain ⟨ad175, A175_1, c175_1, e175, hx175_0, hx175_1, hx175_2, hl175_1, hi175_1⟩ := at_T54 HR170_0.out x6_1 p175 q175
       (try rw [← Nbq5.out] at hx175_2)
       obtain rfl : ad173 = ad175 := (by injection e175)
       replace hx175_0 := bC HB hx175_0
       replace hx175_1 := bC HB hx175_1
       replace hx175_2 := bC HB hx175_2
       have HR175_1 := Aside0.mk hi175_1
       have HC175_1 := Aside0.mk hl175_1
       clear hi175_1 hl175_1
       replace p175 := eq_true p175
       replace q175 := eq_true q175
       have ea_ := Option.some.inj (hx173_1.symm.trans hx175_1)
       injection ea_ with ea_ en_ ec_
       subst ea_
       subst ec_
       clear en_
       go_wp2_with (first | ((with_reducible refine gate_callee (f := 57) rfl ?_); refine goesL_ (some 35) rfl rfl Try.func57 (by kernel_rfl) rfl #[.slice A173_1 ((rd_T54 ((rd_T29 l0 0).f0) x6_1).f1).length c173_1] rfl (by (try simp only [List.map_toArray, List.map_cons, List.map_nil]); first | done | rfl | (simp only [List.length_drop, List.length_take]; rfl)) ?_; (with_reducible refine (spec_l13Moments.calls k1 _ _ ((rd_T54 ((rd_T29 l0 0).f0) x6_1).f1) t176 t177 _ ?side1 ?side2 A7.out).mono ?_); (case side1 => repeat (first | exact (Kd.C_below HR175_1.out HB.out) | (with_reducible refine Kd.C_alloc ?_ _) | (with_reducible refine Kd.C_drewN ?_ _) | (with_reducible refine Kd.C_drew ?_))); (case side2 => exact HC175_1.out); rintro e w8 ⟨rfl, hb⟩; refine ⟨_, rfl, ?_⟩; have n0_ := pS HB hb; clear HB; have HB := n0_; clear n0_; (try clear hb); (try clear hb2); (try clear hk); (try clear hi)))
       go_roundg k1
       case measure => have := HK1.out; omega
       case rel => exact ⟨(wrap64 (x4_1 + t176)), (wrap64 (x5_1 + t177)), (wrap64 (x6_1 + 1)), (by first | rfl | (simp; done) | (simp [*]; done)), (by first | rfl | (simp; done) | (simp [*]; done)), (by first | rfl | (simp; done) | (simp [*]; done)), H', ⟨by have := HK1.out; omega⟩, ⟨by repeat (first | (with_reducible first | exact HB.out | apply below_alloc | apply pw_below_drewN | apply below_drew1) | exact HB.out)⟩⟩
      ·replace c6 := Bool.eq_false_iff.mpr c6
       subst c6
       have H1 : (spec_l17Moments.l0 k1 l0 x4_1 x5_1 (wrap64 (x6_1 + 1))) = some (r1, r2) := by rw [if_neg (show ¬ (false = true) by decide)] at H; exact H
       clear H
       have H := H1
       clear H1
       have H' := Aside0.mk H
       clear H
       (try have hx171_0 := bC HB RX170_0.out)
       (try have hx171_1 := bC HB RX170_1.out)
       (try have hx171_2 := bC HB RX170_2.out)
       (try have hx172_0 := bC HB RX170_0.out)
       (try have hx172_1 := bC HB RX170_1.out)
       (try have hx172_2 := bC HB RX170_2.out)
       have p173 : 0 ≤ (x6_1 : Int) := of_decide_eq_true (by first | (with_reducible assumption) | assumption)
       have q173 : x6_1 < (((rd_T29 l0 0).f0).length : Int) := of_decide_eq_true (by first | (with_reducible assumption) | assumption)
       obtain ⟨ad173, A173_1, c173_1, e173, hx173_0, hx173_1, hx173_2, hl173_1, hi173_1⟩ := at_T54 HR170_0.out x6_1 p173 q173
       (try rw [← Nbq5.out] at hx173_2)
       cases e173
       replace hx173_0 := bC HB hx173_0
       replace hx173_1 := bC HB hx173_1
       replace hx173_2 := bC HB hx173_2
       have HR173_1 := Aside0.mk hi173_1
       have HC173_1 := Aside0.mk hl173_1
       clear hi173_1 hl173_1
       replace p173 := eq_true p173
       replace q173 := eq_true q173
       go_wp2
       go_roundg k1
       case measure => have := HK1.out; omega
       case rel => exact ⟨(x4_1), (x5_1), (wrap64 (x6_1 + 1)), (by first | rfl | (simp; done) | (simp [*]; done)), (by first | rfl | (simp; done) | (simp [*]; done)), (by first | rfl | (simp; done) | (simp [*]; done)), H', ⟨by have := HK1.out; omega⟩, ⟨by repeat (first | (with_reducible first | exact HB.out | apply below_alloc | apply pw_below_drewN | apply below_drew1) | exact HB.out)⟩⟩
     ·rw [if_neg c4] at H
      exact absurd H (by simp)
    ·rw [if_neg c3] at H
     have c3b0 : decide (x6_1 < (((rd_T29 l0 0).f0).length : Int)) = false := decide_eq_false c3
     clear c3
     simp only [Option.some.injEq, Prod.mk.injEq] at H
     obtain ⟨rfl, rfl⟩ := H
     (try have hx171_0 := bC HB RX170_0.out)
     (try have hx171_1 := bC HB RX170_1.out)
     (try have hx171_2 := bC HB RX170_2.out)
     go_wp2
     go_ret2
     exact ⟨by first | rfl | (simp [errW_none, errW_some] <;> rfl) | (simp [*, errW_none, errW_some] <;> rfl), pR HB⟩
 ·rw [if_neg c2] at H
  exact absurd H (by simp)

/-! ### spec_l00Gcd: function 58 -/
def spec_l00Gcd.l0 : Nat → Int → Int → Option (Int)
 | 0, _, _ => none
 | k + 1, x0, x1 => if x1 = 0 then (some x0) else (spec_l00Gcd.l0 k x1 (Int.tmod x0 x1))
def spec_l00Gcd.f (k : Nat) (a0 : Int) (a1 : Int) : Option (Int) := spec_l00Gcd.l0 k a0 a1
theorem spec_l00Gcd.mono_l : ∀ k, (∀ y0 y1, LeO (spec_l00Gcd.l0 k y0 y1) (spec_l00Gcd.l0 (k + 1) y0 y1))
 | 0 => fun _ _ r h => by simp [spec_l00Gcd.l0] at h
 | k + 1 => by
  have ih0 := spec_l00Gcd.mono_l k
  ·intro y0 y1
   unfold spec_l00Gcd.l0
   repeat' first
   | (with_reducible exact ih0 _ _)
   | (with_reducible exact LeO.refl _)
   | (with_reducible exact LeO.none _)
   | (with_reducible refine LeO.ite ?_ ?_)
   | (with_reducible refine LeO.bind ?_ (fun _ => ?_))
   | exact ih0 _ _
   | exact LeO.none _
   | refine LeO.ite ?_ ?_
   | refine LeO.bind ?_ (fun _ => ?_)
theorem spec_l00Gcd.mono : ∀ a0 a1 k, LeO (spec_l00Gcd.f k a0 a1) (spec_l00Gcd.f (k + 1) a0 a1) := by
 intro a0 a1 k
 have ih0 := spec_l00Gcd.mono_l k
 unfold spec_l00Gcd.f
 repeat' first
   | (with_reducible exact ih0 _ _)
   | (with_reducible exact LeO.refl _)
   | (with_reducible exact LeO.none _)
   | (with_reducible refine LeO.ite ?_ ?_)
   | (with_reducible refine LeO.bind ?_ (fun _ => ?_))
   | exact ih0 _ _
   | exact LeO.none _
   | refine LeO.ite ?_ ?_
   | refine LeO.bind ?_ (fun _ => ?_)
set_option maxHeartbeats 8000000 in
set_option maxRecDepth 100000 in
theorem spec_l00Gcd.calls (k : Nat) (a0 : Int) (a1 : Int) (r : Int) (w : World) (h : spec_l00Gcd.f k a0 a1 = some r) :
  Calls Try.prog 58 #[.int .i64 a0, .int .i64 a1] w fun e w' => e = .returned (.int .i64 r) ∧ Drawn0 w w' := by
 have H : (spec_l00Gcd.l0 k a0 a1) = some r := h
 clear h
 have H' := Aside0.mk H
 clear H
 go_enter Try.func58, Try.ntmps58
 go_wp2
 go_loopg [0, 1] k (fun kq v0 v1 w' => ∃ (x0_1 : Int) (x1_1 : Int), v0 = .int .i64 x0_1 ∧ v1 = .int .i64 x1_1 ∧ Aside0 (spec_l00Gcd.l0 kq x0_1 x1_1 = some r) ∧ Aside0 (kq ≤ k) ∧ Drawn0 w w')
 case atStart => exact ⟨(a0), (a1), (by first | rfl | (simp; done) | (simp [*]; done)), (by first | rfl | (simp; done) | (simp [*]; done)), H', ⟨Nat.le_refl _⟩, by repeat (first | exact Drawn0.refl _ | apply Drawn0.step)⟩
 case round =>
  clear H'
  try clear p2
  obtain ⟨x0_1, x1_1, rfl, rfl, HA, HK1, ⟨m1, rfl⟩⟩ := hrel
  cases gk with
  | zero => exact absurd HA.out (by simp [spec_l00Gcd.l0])
  | succ k1 =>
   have H := HA.out
   clear HA
   simp only [spec_l00Gcd.l0] at H
   by_cases c3 : x1_1 = 0
   ·rw [if_pos c3] at H
    have c3b0 : (x1_1 == 0) = true := beq_iff_eq.mpr c3
    have c3b1 : (x1_1 != 0) = false := bne_eq_false_iff_eq.mpr c3
    clear c3
    obtain rfl := Option.some.inj H
    simp only [Option.some.injEq, Prod.mk.injEq] at H
    obtain ⟨rfl⟩ := H
    go_wp2
    go_ret
    exact ⟨by first | rfl | (simp; done) | (simp [*]; done), by repeat (first | exact Drawn0.refl _ | apply Drawn0.step)⟩
   ·rw [if_neg c3] at H
    have c3b0 : (x1_1 == 0) = false := beq_eq_false_iff_ne.mpr c3
    have c3b1 : (x1_1 != 0) = true := bne_iff_ne.mpr c3
    have H' := Aside0.mk H
    clear H
    go_wp2
    go_roundg k1
    case measure => have := HK1.out; omega
    case rel => exact ⟨(x1_1), (Int.tmod x0_1 x1_1), (by first | rfl | (simp; done) | (simp [*]; done)), (by first | rfl | (simp; done) | (simp [*]; done)), H', ⟨by have := HK1.out; omega⟩, by repeat (first | exact Drawn0.refl _ | apply Drawn0.step)⟩

/-! ### spec_l00Size: function 59 -/
def spec_l00Size.f (a0 : Int) : Option (Int) := if a0 < 0 then (some (wrap64 (-a0))) else (some a0)
set_option maxHeartbeats 8000000 in
set_option maxRecDepth 100000 in
theorem spec_l00Size.calls (a0 : Int) (r : Int) (w : World) (h : spec_l00Size.f a0 = some r) :
  Calls Try.prog 59 #[.int .i64 a0] w fun e w' => e = .returned (.int .i64 r) ∧ Drawn0 w w' := by
 have H : (if a0 < 0 then (some (wrap64 (-a0))) else (some a0)) = some r := h
 clear h
 by_cases c2 : a0 < 0
 ·rw [if_pos c2] at H
  have c2b0 : decide (a0 < 0) = true := decide_eq_true c2
  clear c2
  obtain rfl := Option.some.inj H
  simp only [Option.some.injEq, Prod.mk.injEq] at H
  obtain ⟨rfl⟩ := H
  go_enter Try.func59, Try.ntmps59
  go_wp2
  go_ret
  exact ⟨by first | rfl | (simp; done) | (simp [*]; done), by repeat (first | exact Drawn0.refl _ | apply Drawn0.step)⟩
 ·rw [if_neg c2] at H
  have c2b0 : decide (a0 < 0) = false := decide_eq_false c2
  clear c2
  obtain rfl := Option.some.inj H
  simp only [Option.some.injEq, Prod.mk.injEq] at H
  obtain ⟨rfl⟩ := H
  go_enter Try.func59, Try.ntmps59
  go_wp2
  go_ret
  exact ⟨by first | rfl | (simp; done) | (simp [*]; done), by repeat (first | exact Drawn0.refl _ | apply Drawn0.step)⟩

end Go.Proofs.Ytnfgijackilcjaa.PFnExactPlanCentre
