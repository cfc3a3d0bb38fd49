-- Written by a program of this session (wip/tools/pp.sh).
import Derived.Test.YtlphfgbeeckjnaaPFnExactClothLeftx0
import Derived.Test.YtlphfgbeeckjnaaPFnExactClothLeftx8
namespace Go.Proofs.Ytlphfgbeeckjnaa.PFnExactClothLeft
open Go.RowKit Go.Proofs.YtlphfgbeeckjnaaW.PrintWords Go.Proofs.YtlphfgbeeckjnaaW.PrintLast Go.Proofs.YtlphfgbeeckjnaaW.PrintMore Go.Proofs.Ytlphfgbeeckjnaa.Small
open Bool renaming true → T, false → F
attribute [local go_sem] max2_int min2_int max_two min_two max_three min_three max_four min_four   -- for this text's walks alone
set_option linter.unusedVariables false
set_option linter.unusedSimpArgs false

/-! ### impl_pieceFault: function 81 -/
mutual
def impl_pieceFault.l0 : Nat → List (S29) → List Int → List (S114) → List (S114) → Int → Int → Option (Int)
 | 0, _, _, _, _, _, _ => none
 | k + 1, x0, x1, x2, x14, x15, x16 => if x16 < x15 then (if 0 ≤ x16 then (if x16 < (x14.length : Int) then (if 0 ≤ ((rd_T114 x14 x16).f0) then (if ((rd_T114 x14 x16).f0) < (x0.length : Int) then ((impl_soundParts.f k ((rd_T29 x0 ((rd_T114 x14 x16).f0)).f0) ((rd_T29 x0 ((rd_T114 x14 x16).f0)).f1)).bind fun t262 => (impl_pieceFault.l1 k x0 x1 x2 x16 false x14 x15 x16 t262 (t262.length : Int) 0 ((rd_T114 x14 x16).f0) ((rd_T114 x14 x16).f1))) else (none)) else (none)) else (none)) else (none)) else (some (-1))
def impl_pieceFault.l1 : Nat → List (S29) → List Int → List (S114) → Int → Bool → List (S114) → Int → Int → List (List Int) → Int → Int → Int → Int → Option (Int)
 | 0, _, _, _, _, _, _, _, _, _, _, _, _, _ => none
 | k + 1, x0, x1, x2, x7, x9, x14, x15, x16, x26, x27, x28, x261000, x261001 => if x28 < x27 then (if 0 ≤ x28 then (if x28 < (x26.length : Int) then (if x9 = true then (impl_pieceFault.l1 k x0 x1 x2 x7 true x14 x15 x16 x26 x27 (wrap64 (x28 + 1)) x261000 x261001) else (if 0 < ((rd_L1 x26 x28).length : Int) then (if x261001 ≥ (rd (rd_L1 x26 x28) 0) then (if 1 < ((rd_L1 x26 x28).length : Int) then (if x261001 ≤ (rd (rd_L1 x26 x28) 1) then (if 0 ≤ x7 then (if x7 < (x1.length : Int) then (impl_pieceFault.l1 k x0 x1 x2 x7 (decide ((wrap64 (x261001 + (rd x1 x7))) ≤ (rd (rd_L1 x26 x28) 1))) x14 x15 x16 x26 x27 (wrap64 (x28 + 1)) x261000 x261001) else (none)) else (none)) else (impl_pieceFault.l1 k x0 x1 x2 x7 false x14 x15 x16 x26 x27 (wrap64 (x28 + 1)) x261000 x261001)) else (none)) else (impl_pieceFault.l1 k x0 x1 x2 x7 false x14 x15 x16 x26 x27 (wrap64 (x28 + 1)) x261000 x261001)) else (none))) else (none)) else (none)) else (if x9 = true then (if 0 ≤ x7 then (if x7 ≤ (x2.length : Int) then ((some (x2.take (x7 : Int).toNat : List (S114))).bind fun y270 => (impl_pieceFault.l2 k x0 x1 x2 x7 x14 x15 x16 y270 (y270.length : Int) 0 x261000 x261001)) else (none)) else (none)) else (some x7))
def impl_pieceFault.l2 : Nat → List (S29) → List Int → List (S114) → Int → List (S114) → Int → Int → List (S114) → Int → Int → Int → Int → Option (Int)
 | 0, _, _, _, _, _, _, _, _, _, _, _, _ => none
 | k + 1, x0, x1, x2, x7, x14, x15, x16, x68, x69, x70, x261000, x261001 => if x70 < x69 then (if 0 ≤ x70 then (if x70 < (x68.length : Int) then (if ((rd_T114 x68 x70).f0) = x261000 then (if x70 < (x1.length : Int) then (if x261001 < (wrap64 (((rd_T114 x68 x70).f1) + (rd x1 x70))) then (if 0 ≤ x7 then (if x7 < (x1.length : Int) then (if ((rd_T114 x68 x70).f1) < (wrap64 (x261001 + (rd x1 x7))) then (some x7) else (impl_pieceFault.l2 k x0 x1 x2 x7 x14 x15 x16 x68 x69 (wrap64 (x70 + 1)) x261000 x261001)) else (none)) else (none)) else (impl_pieceFault.l2 k x0 x1 x2 x7 x14 x15 x16 x68 x69 (wrap64 (x70 + 1)) x261000 x261001)) else (none)) else (impl_pieceFault.l2 k x0 x1 x2 x7 x14 x15 x16 x68 x69 (wrap64 (x70 + 1)) x261000 x261001)) else (none)) else (none)) else (impl_pieceFault.l0 k x0 x1 x2 x14 x15 (wrap64 (x16 + 1)))
end
def impl_pieceFault.f (k : Nat) (l0 : List (S29)) (l1 : List Int) (l2 : List (S114)) : Option (Int) := impl_pieceFault.l0 k l0 l1 l2 l2 (l2.length : Int) 0
theorem impl_pieceFault.mono_l : ∀ k, (∀ y0 y1 y2 y3 y4 y5, LeO (impl_pieceFault.l0 k y0 y1 y2 y3 y4 y5) (impl_pieceFault.l0 (k + 1) y0 y1 y2 y3 y4 y5)) ∧ (∀ y0 y1 y2 y3 y4 y5 y6 y7 y8 y9 y10 y11 y12, LeO (impl_pieceFault.l1 k y0 y1 y2 y3 y4 y5 y6 y7 y8 y9 y10 y11 y12) (impl_pieceFault.l1 (k + 1) y0 y1 y2 y3 y4 y5 y6 y7 y8 y9 y10 y11 y12)) ∧ (∀ y0 y1 y2 y3 y4 y5 y6 y7 y8 y9 y10 y11, LeO (impl_pieceFault.l2 k y0 y1 y2 y3 y4 y5 y6 y7 y8 y9 y10 y11) (impl_pieceFault.l2 (k + 1) y0 y1 y2 y3 y4 y5 y6 y7 y8 y9 y10 y11))
 | 0 => ⟨fun _ _ _ _ _ _ r h => by simp [impl_pieceFault.l0] at h, fun _ _ _ _ _ _ _ _ _ _ _ _ _ r h => by simp [impl_pieceFault.l1] at h, fun _ _ _ _ _ _ _ _ _ _ _ _ r h => by simp [impl_pieceFault.l2] at h⟩
 | k + 1 => by
  obtain ⟨ih0, ih1, ih2⟩ := impl_pieceFault.mono_l k
  refine ⟨?_, ?_, ?_⟩
  ·intro y0 y1 y2 y3 y4 y5
   unfold impl_pieceFault.l0
   repeat' first
   | (with_reducible exact ih0 _ _ _ _ _ _)
   | (with_reducible exact ih1 _ _ _ _ _ _ _ _ _ _ _ _ _)
   | (with_reducible exact ih2 _ _ _ _ _ _ _ _ _ _ _ _)
   | (with_reducible exact impl_soundParts.mono _ _ _)
   | (with_reducible exact LeO.refl _)
   | (with_reducible exact LeO.none _)
   | (with_reducible refine LeO.ite ?_ ?_)
   | (with_reducible refine LeO.bind ?_ (fun _ => ?_))
   | exact ih0 _ _ _ _ _ _
   | exact ih1 _ _ _ _ _ _ _ _ _ _ _ _ _
   | exact ih2 _ _ _ _ _ _ _ _ _ _ _ _
   | exact impl_soundParts.mono _ _ _
   | exact LeO.none _
   | refine LeO.ite ?_ ?_
   | refine LeO.bind ?_ (fun _ => ?_)
  ·intro y0 y1 y2 y3 y4 y5 y6 y7 y8 y9 y10 y11 y12
   unfold impl_pieceFault.l1
   repeat' first
   | (with_reducible exact ih0 _ _ _ _ _ _)
   | (with_reducible exact ih1 _ _ _ _ _ _ _ _ _ _ _ _ _)
   | (with_reducible exact ih2 _ _ _ _ _ _ _ _ _ _ _ _)
   | (with_reducible exact impl_soundParts.mono _ _ _)
   | (with_reducible exact LeO.refl _)
   | (with_reducible exact LeO.none _)
   | (with_reducible refine LeO.ite ?_ ?_)
   | (with_reducible refine LeO.bind ?_ (fun _ => ?_))
   | exact ih0 _ _ _ _ _ _
   | exact ih1 _ _ _ _ _ _ _ _ _ _ _ _ _
   | exact ih2 _ _ _ _ _ _ _ _ _ _ _ _
   | exact impl_soundParts.mono _ _ _
   | exact LeO.none _
   | refine LeO.ite ?_ ?_
   | refine LeO.bind ?_ (fun _ => ?_)
  ·intro y0 y1 y2 y3 y4 y5 y6 y7 y8 y9 y10 y11
   unfold impl_pieceFault.l2
   repeat' first
   | (with_reducible exact ih0 _ _ _ _ _ _)
   | (with_reducible exact ih1 _ _ _ _ _ _ _ _ _ _ _ _ _)
   | (with_reducible exact ih2 _ _ _ _ _ _ _ _ _ _ _ _)
   | (with_reducible exact impl_soundParts.mono _ _ _)
   | (with_reducible exact LeO.refl _)
   | (with_reducible exact LeO.none _)
   | (with_reducible refine LeO.ite ?_ ?_)
   | (with_reducible refine LeO.bind ?_ (fun _ => ?_))
   | exact ih0 _ _ _ _ _ _
   | exact ih1 _ _ _ _ _ _ _ _ _ _ _ _ _
   | exact ih2 _ _ _ _ _ _ _ _ _ _ _ _
   | exact impl_soundParts.mono _ _ _
   | exact LeO.none _
   | refine LeO.ite ?_ ?_
   | refine LeO.bind ?_ (fun _ => ?_)
theorem impl_pieceFault.mono : ∀ a0 a1 a2 k, LeO (impl_pieceFault.f k a0 a1 a2) (impl_pieceFault.f (k + 1) a0 a1 a2) := by
 intro a0 a1 a2 k
 obtain ⟨ih0, ih1, ih2⟩ := impl_pieceFault.mono_l k
 unfold impl_pieceFault.f
 repeat' first
   | (with_reducible exact ih0 _ _ _ _ _ _)
   | (with_reducible exact ih1 _ _ _ _ _ _ _ _ _ _ _ _ _)
   | (with_reducible exact ih2 _ _ _ _ _ _ _ _ _ _ _ _)
   | (with_reducible exact impl_soundParts.mono _ _ _)
   | (with_reducible exact LeO.refl _)
   | (with_reducible exact LeO.none _)
   | (with_reducible refine LeO.ite ?_ ?_)
   | (with_reducible refine LeO.bind ?_ (fun _ => ?_))
   | exact ih0 _ _ _ _ _ _
   | exact ih1 _ _ _ _ _ _ _ _ _ _ _ _ _
   | exact ih2 _ _ _ _ _ _ _ _ _ _ _ _
   | exact impl_soundParts.mono _ _ _
   | exact LeO.none _
   | refine LeO.ite ?_ ?_
   | refine LeO.bind ?_ (fun _ => ?_)
set_option maxHeartbeats 8000000 in
set_option maxRecDepth 100000 in
theorem impl_pieceFault.calls (k : Nat) (A0 : Option Addr) (c0 : Nat) (l0 : List (S29)) (A1 : Option Addr) (c1 : Nat) (l1 : List Int) (A2 : Option Addr) (c2 : Nat) (l2 : List (S114)) (r : Int) (w : World) (hr0 : Kd.C k29 w A0 l0.length l0) (hc0 : l0.length ≤ c0) (hr1 : Kd.C (Kd.int .i64) w A1 l1.length l1) (hc1 : l1.length ≤ c1) (hr2 : Kd.C k114 w A2 l2.length l2) (hc2 : l2.length ≤ c2) (h : impl_pieceFault.f k l0 l1 l2 = some r) :
  Calls Try.prog 81 #[.slice A0 l0.length c0, .slice A1 l1.length c1, .slice A2 l2.length c2] w fun e w' => e = .returned (.int .i64 r) ∧ Below w.heap.size w w' := by
 have hu114 := Try.underlying114
 have hu29 := Try.underlying29
 have HR0 := Aside0.mk hr0
 have HC0 := Aside0.mk hc0
 clear hr0 hc0
 have HR1 := Aside0.mk hr1
 have HC1 := Aside0.mk hc1
 clear hr1 hc1
 have HR2 := Aside0.mk hr2
 have HC2 := Aside0.mk hc2
 clear hr2 hc2
 have HB := Aside0.mk (Below.refl w.heap.size w)
 have H : (impl_pieceFault.l0 k l0 l1 l2 l2 (l2.length : Int) 0) = some r := h
 clear h
 have H' := Aside0.mk H
 clear H
 go_enter Try.func81, Try.ntmps81
 go_wp2
 repeat (go_quiet (fail); try go_wp2)
 go_loopg [16] k (fun kq v16 w' => ∃ (x16_1 : Int), v16 = .int .i64 x16_1 ∧ Aside0 (impl_pieceFault.l0 kq l0 l1 l2 l2 (l2.length : Int) x16_1 = some r) ∧ Aside0 (kq ≤ k) ∧ Aside0 (Below w.heap.size w w'))
 case atStart => exact ⟨(0), (by first | rfl | (simp; done) | (simp [*]; done)), H', ⟨Nat.le_refl _⟩, ⟨by repeat (first | (with_reducible first | exact HB.out | apply below_alloc | apply pw_below_drewN | apply below_drew1) | exact HB.out)⟩⟩
 case round =>
  clear H'
  try clear c1
  try clear c2
  try clear p2
  obtain ⟨x16_1, rfl, HA, HK1, HB⟩ := hrel
  cases gk with
  | zero => exact absurd HA.out (by simp [impl_pieceFault.l0])
  | succ k1 =>
   have H := HA.out
   clear HA
   simp only [impl_pieceFault.l0] at H
   by_cases c4 : x16_1 < (l2.length : Int)
   ·rw [if_pos c4] at H
    have c4b0 : decide (x16_1 < (l2.length : Int)) = true := decide_eq_true c4
    clear c4
    by_cases c5 : 0 ≤ x16_1
    ·rw [if_pos c5] at H
     have c5b0 : decide (0 ≤ x16_1) = true := decide_eq_true c5
     clear c5
     by_cases c6 : x16_1 < (l2.length : Int)
     ·rw [if_pos c6] at H
      have c6b0 : decide (x16_1 < (l2.length : Int)) = true := decide_eq_true c6
      clear c6
      by_cases c7 : 0 ≤ ((rd_T114 l2 x16_1).f0)
      ·rw [if_pos c7] at H
       have c7b0 : decide (0 ≤ ((rd_T114 l2 x16_1).f0)) = true := decide_eq_true c7
       clear c7
       by_cases c8 : ((rd_T114 l2 x16_1).f0) < (l0.length : Int)
       ·rw [if_pos c8] at H
        have c8b0 : decide (((rd_T114 l2 x16_1).f0) < (l0.length : Int)) = true := decide_eq_true c8
        clear c8
        replace H := Option.bind_eq_some_iff.mp H
        obtain ⟨t262, A90, H⟩ := H
        replace H : (impl_pieceFault.l1 k1 l0 l1 l2 x16_1 false l2 (l2.length : Int) x16_1 t262 (t262.length : Int) 0 ((rd_T114 l2 x16_1).f0) ((rd_T114 l2 x16_1).f1)) = some r := H
        have A9 := Aside0.mk A90
        clear A90
        have H' := Aside0.mk H
        clear H
        have p259 : 0 ≤ (x16_1 : Int) := of_decide_eq_true (by first | (with_reducible assumption) | assumption)
        have q259 : x16_1 < (l2.length : Int) := of_decide_eq_true (by first | (with_reducible assumption) | assumption)
        obtain ⟨ad259, e259, hx259_0, hx259_1⟩ := at_T114 HR2.out x16_1 p259 q259
        cases e259
        replace hx259_0 := bC HB hx259_0
        replace hx259_1 := bC HB hx259_1
        replace p259 := eq_true p259
        replace q259 := eq_true q259
        go_wp2_with (first | ((with_reducible refine gate_dst (N := 8) rfl ?_); refine box_event ?hg (N := 8) ?hd (cs := #[.int .i64 0, .int .i64 0]) (t := 114) ?hr ?_; (case hd => rfl); (case hg => rfl); (case hr => first | (go_simp; done) | (go_simp; rfl)); intro gb260 hg w10 hbox hb; have n0_ := pS HB hb; have n1_ := Aside0.mk (hbox); have n2_ := pG HB hg; have n3_ := pG HB hg; clear HB; have HB := n0_; have BK260 := n1_; have GW260 := n2_; have GE260 := n3_; clear n0_ n1_ n2_ n3_; clear hb hbox hg; obtain ⟨hcz11_0, hcz11_1, hfz11_0, hfz11_1⟩ := cz2 BK260; have p261 : 0 ≤ (((rd_T114 l2 x16_1).f0) : Int) := of_decide_eq_true (by first | (with_reducible assumption) | assumption); have q261 : ((rd_T114 l2 x16_1).f0) < (l0.length : Int) := of_decide_eq_true (by first | (with_reducible assumption) | assumption); obtain ⟨ad261, A261_1, c261_1, e261, hx261_0, hx261_1, hl261_1, hi261_1⟩ := at_T29 HR0.out ((rd_T114 l2 x16_1).f0) p261 q261; cases e261; have hn261_0 : ad261.block ≠ gb260 := Nat.ne_of_lt (Nat.lt_of_lt_of_le (by have := World.block_lt_of_cell? _ _ hx261_0; first | rwa [add_block] at this | exact this) GW260.out); have hn261_1 : ad261.block ≠ gb260 := Nat.ne_of_lt (Nat.lt_of_lt_of_le (by have := World.block_lt_of_cell? _ _ hx261_0; first | rwa [add_block] at this | exact this) GW260.out); replace hx261_0 := bC HB hx261_0; replace hx261_1 := bC HB hx261_1; have HR261_1 := Aside0.mk hi261_1; have HC261_1 := Aside0.mk hl261_1; clear hi261_1 hl261_1; replace hx261_0 := (cell_far (p := ⟨gb260, 0, none⟩) (by first | (rw [add_block]; exact hn261_0) | (show (Addr.add _ _).block ≠ _; rw [add_block]; exact hn261_0) | exact hn261_0) (.int .i64 ((rd_T114 l2 x16_1).f0))).trans hx261_0; replace hx261_1 := (cell_far (p := ⟨gb260, 0, none⟩) (by first | (rw [add_block]; exact hn261_0) | (show (Addr.add _ _).block ≠ _; rw [add_block]; exact hn261_0) | exact hn261_0) (.int .i64 ((rd_T114 l2 x16_1).f0))).trans hx261_1; replace hx261_0 := (cell_far (p := ⟨gb260, 1, none⟩) (by first | (rw [add_block]; exact hn261_1) | (show (Addr.add _ _).block ≠ _; rw [add_block]; exact hn261_1) | exact hn261_1) (.int .i64 ((rd_T114 l2 x16_1).f1))).trans hx261_0; replace hx261_1 := (cell_far (p := ⟨gb260, 1, none⟩) (by first | (rw [add_block]; exact hn261_1) | (show (Addr.add _ _).block ≠ _; rw [add_block]; exact hn261_1) | exact hn261_1) (.int .i64 ((rd_T114 l2 x16_1).f1))).trans hx261_1; (try have hy261_0 := fun (n_ : Nat) => (show ((((w10.drewN n_).setCell ⟨gb260, 0, none⟩ (.int .i64 ((rd_T114 l2 x16_1).f0))).setCell ⟨gb260, 1, none⟩ (.int .i64 ((rd_T114 l2 x16_1).f1)))).cell? _ = some _ from hx261_0)); (try have hy261_1 := fun (n_ : Nat) => (show ((((w10.drewN n_).setCell ⟨gb260, 0, none⟩ (.int .i64 ((rd_T114 l2 x16_1).f0))).setCell ⟨gb260, 1, none⟩ (.int .i64 ((rd_T114 l2 x16_1).f1)))).cell? _ = some _ from hx261_1)); clear hn261_0 hn261_1; replace p261 := eq_true p261; replace q261 := eq_true q261) | (go_at_call 69; (with_reducible refine (impl_soundParts.calls k1 ((rd_T29 l0 ((rd_T114 l2 x16_1).f0)).f0) _ _ ((rd_T29 l0 ((rd_T114 l2 x16_1).f0)).f1) t262 _ ?side1 ?side2 A9.out).mono ?_); (case side1 => exact Kd.C_below HR261_1.out (by repeat (first | (with_reducible first | exact HB.out | apply below_alloc | apply pw_below_drewN | apply below_drew1 | refine below_set ?_ GE260.out) | exact HB.out))); (case side2 => exact HC261_1.out); rintro e w12 ⟨v263, rfl, ho0, hb⟩; have n0_ := Aside0.mk (Kd.S_lower ho0 (below_size (by repeat (first | (with_reducible first | exact HB.out | apply below_alloc | apply pw_below_drewN | apply below_drew1 | refine below_set ?_ GE260.out) | exact HB.out)))); have n1_ := Aside0.mk (blk_below (g := gb260) (o := .cells #[.int .i64 ((rd_T114 l2 x16_1).f0), .int .i64 ((rd_T114 l2 x16_1).f1)] 114 (0, 0)) (by (with_reducible repeat (first | refine blk_drewN ?_ _ | refine blk_drew ?_ | refine blk_alloc ?_ _)); refine blk_put (cs := #[.int .i64 ((rd_T114 l2 x16_1).f0), .int .i64 0]) ?_ 1 _ rfl; (with_reducible repeat (first | refine blk_drewN ?_ _ | refine blk_drew ?_ | refine blk_alloc ?_ _)); refine blk_put (cs := #[.int .i64 0, .int .i64 0]) ?_ 0 _ rfl; (with_reducible repeat (first | refine blk_drewN ?_ _ | refine blk_drew ?_ | refine blk_alloc ?_ _)); exact BK260.out) hb); have n2_ := pS HB hb; clear BK260 HB; have HO264 := n0_; have BK260 := n1_; have HB := n2_; clear n0_ n1_ n2_; (try clear hb); (try clear hb2); (try clear hk); (try clear hi); (try clear ho0); obtain ⟨Ao13, co13, eo13⟩ := Kd.S_slice HO264.out; subst eo13))
        repeat (go_quiet (first | ((with_reducible refine gate_dst (N := 8) rfl ?_); refine box_event ?hg (N := 8) ?hd (cs := #[.int .i64 0, .int .i64 0]) (t := 114) ?hr ?_; (case hd => rfl); (case hg => rfl); (case hr => first | (go_simp; done) | (go_simp; rfl)); intro gb260 hg w10 hbox hb; have n0_ := pS HB hb; have n1_ := Aside0.mk (hbox); have n2_ := pG HB hg; have n3_ := pG HB hg; clear HB; have HB := n0_; have BK260 := n1_; have GW260 := n2_; have GE260 := n3_; clear n0_ n1_ n2_ n3_; clear hb hbox hg; obtain ⟨hcz11_0, hcz11_1, hfz11_0, hfz11_1⟩ := cz2 BK260; have p261 : 0 ≤ (((rd_T114 l2 x16_1).f0) : Int) := of_decide_eq_true (by first | (with_reducible assumption) | assumption); have q261 : ((rd_T114 l2 x16_1).f0) < (l0.length : Int) := of_decide_eq_true (by first | (with_reducible assumption) | assumption); obtain ⟨ad261, A261_1, c261_1, e261, hx261_0, hx261_1, hl261_1, hi261_1⟩ := at_T29 HR0.out ((rd_T114 l2 x16_1).f0) p261 q261; cases e261; have hn261_0 : ad261.block ≠ gb260 := Nat.ne_of_lt (Nat.lt_of_lt_of_le (by have := World.block_lt_of_cell? _ _ hx261_0; first | rwa [add_block] at this | exact this) GW260.out); have hn261_1 : ad261.block ≠ gb260 := Nat.ne_of_lt (Nat.lt_of_lt_of_le (by have := World.block_lt_of_cell? _ _ hx261_0; first | rwa [add_block] at this | exact this) GW260.out); replace hx261_0 := bC HB hx261_0; replace hx261_1 := bC HB hx261_1; have HR261_1 := Aside0.mk hi261_1; have HC261_1 := Aside0.mk hl261_1; clear hi261_1 hl261_1; replace hx261_0 := (cell_far (p := ⟨gb260, 0, none⟩) (by first | (rw [add_block]; exact hn261_0) | (show (Addr.add _ _).block ≠ _; rw [add_block]; exact hn261_0) | exact hn261_0) (.int .i64 ((rd_T114 l2 x16_1).f0))).trans hx261_0; replace hx261_1 := (cell_far (p := ⟨gb260, 0, none⟩) (by first | (rw [add_block]; exact hn261_0) | (show (Addr.add _ _).block ≠ _; rw [add_block]; exact hn261_0) | exact hn261_0) (.int .i64 ((rd_T114 l2 x16_1).f0))).trans hx261_1; replace hx261_0 := (cell_far (p := ⟨gb260, 1, none⟩) (by first | (rw [add_block]; exact hn261_1) | (show (Addr.add _ _).block ≠ _; rw [add_block]; exact hn261_1) | exact hn261_1) (.int .i64 ((rd_T114 l2 x16_1).f1))).trans hx261_0; replace hx261_1 := (cell_far (p := ⟨gb260, 1, none⟩) (by first | (rw [add_block]; exact hn261_1) | (show (Addr.add _ _).block ≠ _; rw [add_block]; exact hn261_1) | exact hn261_1) (.int .i64 ((rd_T114 l2 x16_1).f1))).trans hx261_1; (try have hy261_0 := fun (n_ : Nat) => (show ((((w10.drewN n_).setCell ⟨gb260, 0, none⟩ (.int .i64 ((rd_T114 l2 x16_1).f0))).setCell ⟨gb260, 1, none⟩ (.int .i64 ((rd_T114 l2 x16_1).f1)))).cell? _ = some _ from hx261_0)); (try have hy261_1 := fun (n_ : Nat) => (show ((((w10.drewN n_).setCell ⟨gb260, 0, none⟩ (.int .i64 ((rd_T114 l2 x16_1).f0))).setCell ⟨gb260, 1, none⟩ (.int .i64 ((rd_T114 l2 x16_1).f1)))).cell? _ = some _ from hx261_1)); clear hn261_0 hn261_1; replace p261 := eq_true p261; replace q261 := eq_true q261) | (go_at_call 69; (with_reducible refine (impl_soundParts.calls k1 ((rd_T29 l0 ((rd_T114 l2 x16_1).f0)).f0) _ _ ((rd_T29 l0 ((rd_T114 l2 x16_1).f0)).f1) t262 _ ?side1 ?side2 A9.out).mono ?_); (case side1 => exact Kd.C_below HR261_1.out (by repeat (first | (with_reducible first | exact HB.out | apply below_alloc | apply pw_below_drewN | apply below_drew1 | refine below_set ?_ GE260.out) | exact HB.out))); (case side2 => exact HC261_1.out); rintro e w12 ⟨v263, rfl, ho0, hb⟩; have n0_ := Aside0.mk (Kd.S_lower ho0 (below_size (by repeat (first | (with_reducible first | exact HB.out | apply below_alloc | apply pw_below_drewN | apply below_drew1 | refine below_set ?_ GE260.out) | exact HB.out)))); have n1_ := Aside0.mk (blk_below (g := gb260) (o := .cells #[.int .i64 ((rd_T114 l2 x16_1).f0), .int .i64 ((rd_T114 l2 x16_1).f1)] 114 (0, 0)) (by (with_reducible repeat (first | refine blk_drewN ?_ _ | refine blk_drew ?_ | refine blk_alloc ?_ _)); refine blk_put (cs := #[.int .i64 ((rd_T114 l2 x16_1).f0), .int .i64 0]) ?_ 1 _ rfl; (with_reducible repeat (first | refine blk_drewN ?_ _ | refine blk_drew ?_ | refine blk_alloc ?_ _)); refine blk_put (cs := #[.int .i64 0, .int .i64 0]) ?_ 0 _ rfl; (with_reducible repeat (first | refine blk_drewN ?_ _ | refine blk_drew ?_ | refine blk_alloc ?_ _)); exact BK260.out) hb); have n2_ := pS HB hb; clear BK260 HB; have HO264 := n0_; have BK260 := n1_; have HB := n2_; clear n0_ n1_ n2_; (try clear hb); (try clear hb2); (try clear hk); (try clear hi); (try clear ho0); obtain ⟨Ao13, co13, eo13⟩ := Kd.S_slice HO264.out; subst eo13)); try go_wp2_with (first | ((with_reducible refine gate_dst (N := 8) rfl ?_); refine box_event ?hg (N := 8) ?hd (cs := #[.int .i64 0, .int .i64 0]) (t := 114) ?hr ?_; (case hd => rfl); (case hg => rfl); (case hr => first | (go_simp; done) | (go_simp; rfl)); intro gb260 hg w10 hbox hb; have n0_ := pS HB hb; have n1_ := Aside0.mk (hbox); have n2_ := pG HB hg; have n3_ := pG HB hg; clear HB; have HB := n0_; have BK260 := n1_; have GW260 := n2_; have GE260 := n3_; clear n0_ n1_ n2_ n3_; clear hb hbox hg; obtain ⟨hcz11_0, hcz11_1, hfz11_0, hfz11_1⟩ := cz2 BK260; have p261 : 0 ≤ (((rd_T114 l2 x16_1).f0) : Int) := of_decide_eq_true (by first | (with_reducible assumption) | assumption); have q261 : ((rd_T114 l2 x16_1).f0) < (l0.length : Int) := of_decide_eq_true (by first | (with_reducible assumption) | assumption); obtain ⟨ad261, A261_1, c261_1, e261, hx261_0, hx261_1, hl261_1, hi261_1⟩ := at_T29 HR0.out ((rd_T114 l2 x16_1).f0) p261 q261; cases e261; have hn261_0 : ad261.block ≠ gb260 := Nat.ne_of_lt (Nat.lt_of_lt_of_le (by have := World.block_lt_of_cell? _ _ hx261_0; first | rwa [add_block] at this | exact this) GW260.out); have hn261_1 : ad261.block ≠ gb260 := Nat.ne_of_lt (Nat.lt_of_lt_of_le (by have := World.block_lt_of_cell? _ _ hx261_0; first | rwa [add_block] at this | exact this) GW260.out); replace hx261_0 := bC HB hx261_0; replace hx261_1 := bC HB hx261_1; have HR261_1 := Aside0.mk hi261_1; have HC261_1 := Aside0.mk hl261_1; clear hi261_1 hl261_1; replace hx261_0 := (cell_far (p := ⟨gb260, 0, none⟩) (by first | (rw [add_block]; exact hn261_0) | (show (Addr.add _ _).block ≠ _; rw [add_block]; exact hn261_0) | exact hn261_0) (.int .i64 ((rd_T114 l2 x16_1).f0))).trans hx261_0; replace hx261_1 := (cell_far (p := ⟨gb260, 0, none⟩) (by first | (rw [add_block]; exact hn261_0) | (show (Addr.add _ _).block ≠ _; rw [add_block]; exact hn261_0) | exact hn261_0) (.int .i64 ((rd_T114 l2 x16_1).f0))).trans hx261_1; replace hx261_0 := (cell_far (p := ⟨gb260, 1, none⟩) (by first | (rw [add_block]; exact hn261_1) | (show (Addr.add _ _).block ≠ _; rw [add_block]; exact hn261_1) | exact hn261_1) (.int .i64 ((rd_T114 l2 x16_1).f1))).trans hx261_0; replace hx261_1 := (cell_far (p := ⟨gb260, 1, none⟩) (by first | (rw [add_block]; exact hn261_1) | (show (Addr.add _ _).block ≠ _; rw [add_block]; exact hn261_1) | exact hn261_1) (.int .i64 ((rd_T114 l2 x16_1).f1))).trans hx261_1; (try have hy261_0 := fun (n_ : Nat) => (show ((((w10.drewN n_).setCell ⟨gb260, 0, none⟩ (.int .i64 ((rd_T114 l2 x16_1).f0))).setCell ⟨gb260, 1, none⟩ (.int .i64 ((rd_T114 l2 x16_1).f1)))).cell? _ = some _ from hx261_0)); (try have hy261_1 := fun (n_ : Nat) => (show ((((w10.drewN n_).setCell ⟨gb260, 0, none⟩ (.int .i64 ((rd_T114 l2 x16_1).f0))).setCell ⟨gb260, 1, none⟩ (.int .i64 ((rd_T114 l2 x16_1).f1)))).cell? _ = some _ from hx261_1)); clear hn261_0 hn261_1; replace p261 := eq_true p261; replace q261 := eq_true q261) | (go_at_call 69; (with_reducible refine (impl_soundParts.calls k1 ((rd_T29 l0 ((rd_T114 l2 x16_1).f0)).f0) _ _ ((rd_T29 l0 ((rd_T114 l2 x16_1).f0)).f1) t262 _ ?side1 ?side2 A9.out).mono ?_); (case side1 => exact Kd.C_below HR261_1.out (by repeat (first | (with_reducible first | exact HB.out | apply below_alloc | apply pw_below_drewN | apply below_drew1 | refine below_set ?_ GE260.out) | exact HB.out))); (case side2 => exact HC261_1.out); rintro e w12 ⟨v263, rfl, ho0, hb⟩; have n0_ := Aside0.mk (Kd.S_lower ho0 (below_size (by repeat (first | (with_reducible first | exact HB.out | apply below_alloc | apply pw_below_drewN | apply below_drew1 | refine below_set ?_ GE260.out) | exact HB.out)))); have n1_ := Aside0.mk (blk_below (g := gb260) (o := .cells #[.int .i64 ((rd_T114 l2 x16_1).f0), .int .i64 ((rd_T114 l2 x16_1).f1)] 114 (0, 0)) (by (with_reducible repeat (first | refine blk_drewN ?_ _ | refine blk_drew ?_ | refine blk_alloc ?_ _)); refine blk_put (cs := #[.int .i64 ((rd_T114 l2 x16_1).f0), .int .i64 0]) ?_ 1 _ rfl; (with_reducible repeat (first | refine blk_drewN ?_ _ | refine blk_drew ?_ | refine blk_alloc ?_ _)); refine blk_put (cs := #[.int .i64 0, .int .i64 0]) ?_ 0 _ rfl; (with_reducible repeat (first | refine blk_drewN ?_ _ | refine blk_drew ?_ | refine blk_alloc ?_ _)); exact BK260.out) hb); have n2_ := pS HB hb; clear BK260 HB; have HO264 := n0_; have BK260 := n1_; have HB := n2_; clear n0_ n1_ n2_; (try clear hb); (try clear hb2); (try clear hk); (try clear hi); (try clear ho0); obtain ⟨Ao13, co13, eo13⟩ := Kd.S_slice HO264.out; subst eo13)))
        go_loopg [9, 28] k1 (fun kq v9 v28 w' => ∃ (x9_2 : Bool) (x28_2 : Int), v9 = .bool x9_2 ∧ v28 = .int .i64 x28_2 ∧ Aside0 (impl_pieceFault.l1 kq l0 l1 l2 x16_1 x9_2 l2 (l2.length : Int) x16_1 t262 (t262.length : Int) x28_2 ((rd_T114 l2 x16_1).f0) ((rd_T114 l2 x16_1).f1) = some r) ∧ Aside0 (kq ≤ k1) ∧ Aside0 (Kd.S (Kd.slice 2 (Kd.int .i64)) 22 w' w.heap.size (fun _ => True) (.slice Ao13 t262.length co13) t262) ∧ Aside0 (w'.heap[gb260]? = some (.cells #[.int .i64 ((rd_T114 l2 x16_1).f0), .int .i64 ((rd_T114 l2 x16_1).f1)] 114 (0, 0))) ∧ Aside0 (Below w.heap.size w w'))
        case atStart => exact ⟨(false), (0), (by first | rfl | (simp; done) | (simp [*]; done)), (by first | rfl | (simp; done) | (simp [*]; done)), H', ⟨Nat.le_refl _⟩, ⟨by (with_reducible repeat (first | apply Kd.S_alloc | apply Kd.S_drewN | apply Kd.S_drew)); exact HO264.out⟩, ⟨by (with_reducible repeat (first | refine blk_drewN ?_ _ | refine blk_drew ?_ | refine blk_alloc ?_ _)); exact BK260.out⟩, ⟨by repeat (first | (with_reducible first | exact HB.out | apply below_alloc | apply pw_below_drewN | apply below_drew1 | refine below_set ?_ GE260.out) | exact HB.out)⟩⟩
        case round =>
         clear H'
         try clear c1
         try clear c2
         try clear p2
         try clear q2
         try clear hx2
         try clear c4
         try clear c4b0
         try clear c5
         try clear c5b0
         try clear c6
         try clear c6b0
         try clear c7
         try clear c7b0
         try clear c8
         try clear c8b0
         try clear hcz11_0
         try clear hcz11_1
         try clear hfz11_0
         try clear hfz11_1
         try clear hx259_0
         try clear hx259_1
         try clear hx261_0
         try clear hx261_1
         try clear p2
         try clear p259
         try clear p261
         try clear q259
         try clear q261
         obtain ⟨x9_2, x28_2, rfl, rfl, HA, HK2, HO_26, BK260, HB⟩ := hrel
         cases gk with
         | zero => exact absurd HA.out (by simp [impl_pieceFault.l1])
         | succ k2 =>
          have H := HA.out
          clear HA
          simp only [impl_pieceFault.l1] at H
          by_cases c14 : x28_2 < (t262.length : Int)
          ·rw [if_pos c14] at H
           have c14b0 : decide (x28_2 < (t262.length : Int)) = true := decide_eq_true c14
           clear c14
           by_cases c15 : 0 ≤ x28_2
           ·rw [if_pos c15] at H
            have c15b0 : decide (0 ≤ x28_2) = true := decide_eq_true c15
            clear c15
            by_cases c16 : x28_2 < (t262.length : Int)
            ·rw [if_pos c16] at H
             have c16b0 : decide (x28_2 < (t262.length : Int)) = true := decide_eq_true c16
             clear c16
             by_cases c17 : x9_2 = true
             ·subst c17
              have H1 : (impl_pieceFault.l1 k2 l0 l1 l2 x16_1 true l2 (l2.length : Int) x16_1 t262 (t262.length : Int) (wrap64 (x28_2 + 1)) ((rd_T114 l2 x16_1).f0) ((rd_T114 l2 x16_1).f1)) = some r := by rw [if_pos rfl] at H; exact H
              clear H
              have H := H1
              clear H1
              have H' := Aside0.mk H
              clear H
              have p265 : 0 ≤ (x28_2 : Int) := of_decide_eq_true (by first | (with_reducible assumption) | assumption)
              have q265 : x28_2 < (t262.length : Int) := of_decide_eq_true (by first | (with_reducible assumption) | assumption)
              obtain ⟨ad265, A265_0, c265_0, e265, hx265_0, hl265_0, hi265_0⟩ := at_L1 (Kd.S_reads' HO_26.out).2.2 x28_2 p265 q265
              cases e265
              obtain ⟨ce265, hce265, hMe265, hcc265⟩ := Kd.S_get HO_26.out [] x28_2 p265 (by first | exact q265 | exact of_decide_eq_true (by first | (with_reducible assumption) | assumption) | (have e_ := (Kd.S_reads' HO_26.out).1; omega))
              obtain ⟨ve265_0, rfl, ge265_0⟩ := hMe265
              have hv265_0 := hcc265 0 _ rfl
              rw [Nat.add_zero, show ((Kd.slice 2 (Kd.int .i64))).sz = 1 from rfl, Nat.mul_one] at hv265_0
              replace hv265_0 := Option.some.inj (hv265_0.symm.trans hx265_0)
              rw [hv265_0] at ge265_0
              have HL265_0 := Aside0.mk (show Kd.R (Kd.int .i64) 2 _ _ _ _ (rd_L1 t262 x28_2) from ge265_0)
              clear hv265_0 ge265_0
              clear hcc265 hce265
              have HR265_0 := Aside0.mk hi265_0
              have HC265_0 := Aside0.mk hl265_0
              clear hi265_0 hl265_0
              replace p265 := eq_true p265
              replace q265 := eq_true q265
              go_wp2
              repeat (go_quiet (fail); try go_wp2)
              go_roundg k2
              case measure => have := HK1.out; have := HK2.out; omega
              case rel => exact ⟨(true), (wrap64 (x28_2 + 1)), (by first | rfl | (simp; done) | (simp [*]; done)), (by first | rfl | (simp; done) | (simp [*]; done)), H', ⟨by have := HK1.out; have := HK2.out; omega⟩, ⟨by (with_reducible repeat (first | apply Kd.S_alloc | apply Kd.S_drewN | apply Kd.S_drew)); exact HO_26.out⟩, ⟨by (with_reducible repeat (first | refine blk_drewN ?_ _ | refine blk_drew ?_ | refine blk_alloc ?_ _)); exact BK260.out⟩, ⟨by repeat (first | (with_reducible first | exact HB.out | apply below_alloc | apply pw_below_drewN | apply below_drew1 | refine below_set ?_ GE260.out) | exact HB.out)⟩⟩
             ·replace c17 := Bool.eq_false_iff.mpr c17
              subst c17
              have H1 : (if 0 < ((rd_L1 t262 x28_2).length : Int) then (if ((rd_T114 l2 x16_1).f1) ≥ (rd (rd_L1 t262 x28_2) 0) then (if 1 < ((rd_L1 t262 x28_2).length : Int) then (if ((rd_T114 l2 x16_1).f1) ≤ (rd (rd_L1 t262 x28_2) 1) then (if 0 ≤ x16_1 then (if x16_1 < (l1.length : Int) then (impl_pieceFault.l1 k2 l0 l1 l2 x16_1 (decide ((wrap64 (((rd_T114 l2 x16_1).f1) + (rd l1 x16_1))) ≤ (rd (rd_L1 t262 x28_2) 1))) l2 (l2.length : Int) x16_1 t262 (t262.length : Int) (wrap64 (x28_2 + 1)) ((rd_T114 l2 x16_1).f0) ((rd_T114 l2 x16_1).f1)) else (none)) else (none)) else (impl_pieceFault.l1 k2 l0 l1 l2 x16_1 false l2 (l2.length : Int) x16_1 t262 (t262.length : Int) (wrap64 (x28_2 + 1)) ((rd_T114 l2 x16_1).f0) ((rd_T114 l2 x16_1).f1))) else (none)) else (impl_pieceFault.l1 k2 l0 l1 l2 x16_1 false l2 (l2.length : Int) x16_1 t262 (t262.length : Int) (wrap64 (x28_2 + 1)) ((rd_T114 l2 x16_1).f0) ((rd_T114 l2 x16_1).f1))) else (none)) = some r := by rw [if_neg (show ¬ (false = true) by decide)] at H; exact H
              clear H
              have H := H1
              clear H1
              by_cases c18 : 0 < ((rd_L1 t262 x28_2).length : Int)
              ·rw [if_pos c18] at H
               have c18b0 : decide (0 < ((rd_L1 t262 x28_2).length : Int)) = true := decide_eq_true c18
               have c18b1 : decide (0 < (rd_L1 t262 x28_2).length) = true := decide_eq_true (by omega)
               clear c18
               by_cases c19 : ((rd_T114 l2 x16_1).f1) ≥ (rd (rd_L1 t262 x28_2) 0)
               ·rw [if_pos c19] at H
                have c19b0 : decide ((rd (rd_L1 t262 x28_2) 0) ≤ ((rd_T114 l2 x16_1).f1)) = true := decide_eq_true c19
                clear c19
                by_cases c20 : 1 < ((rd_L1 t262 x28_2).length : Int)
                ·rw [if_pos c20] at H
                 have c20b0 : decide (1 < ((rd_L1 t262 x28_2).length : Int)) = true := decide_eq_true c20
                 have c20b1 : decide (1 < (rd_L1 t262 x28_2).length) = true := decide_eq_true (by omega)
                 clear c20
                 by_cases c21 : ((rd_T114 l2 x16_1).f1) ≤ (rd (rd_L1 t262 x28_2) 1)
                 ·rw [if_pos c21] at H
                  have c21b0 : decide (((rd_T114 l2 x16_1).f1) ≤ (rd (rd_L1 t262 x28_2) 1)) = true := decide_eq_true c21
                  clear c21
                  by_cases c22 : 0 ≤ x16_1
                  ·rw [if_pos c22] at H
                   have c22b0 : decide (0 ≤ x16_1) = true := decide_eq_true c22
                   clear c22
                   by_cases c23 : x16_1 < (l1.length : Int)
                   ·rw [if_pos c23] at H
                    have c23b0 : decide (x16_1 < (l1.length : Int)) = true := decide_eq_true c23
                    clear c23
                    have H' := Aside0.mk H
                    clear H
                    have p265 : 0 ≤ (x28_2 : Int) := of_decide_eq_true (by first | (with_reducible assumption) | assumption)
                    have q265 : x28_2 < (t262.length : Int) := of_decide_eq_true (by first | (with_reducible assumption) | assumption)
                    obtain ⟨ad265, A265_0, c265_0, e265, hx265_0, hl265_0, hi265_0⟩ := at_L1 (Kd.S_reads' HO_26.out).2.2 x28_2 p265 q265
                    cases e265
                    obtain ⟨ce265, hce265, hMe265, hcc265⟩ := Kd.S_get HO_26.out [] x28_2 p265 (by first | exact q265 | exact of_decide_eq_true (by first | (with_reducible assumption) | assumption) | (have e_ := (Kd.S_reads' HO_26.out).1; omega))
                    obtain ⟨ve265_0, rfl, ge265_0⟩ := hMe265
                    have hv265_0 := hcc265 0 _ rfl
                    rw [Nat.add_zero, show ((Kd.slice 2 (Kd.int .i64))).sz = 1 from rfl, Nat.mul_one] at hv265_0
                    replace hv265_0 := Option.some.inj (hv265_0.symm.trans hx265_0)
                    rw [hv265_0] at ge265_0
                    have HL265_0 := Aside0.mk (show Kd.R (Kd.int .i64) 2 _ _ _ _ (rd_L1 t262 x28_2) from ge265_0)
                    clear hv265_0 ge265_0
                    clear hcc265 hce265
                    have HR265_0 := Aside0.mk hi265_0
                    have HC265_0 := Aside0.mk hl265_0
                    clear hi265_0 hl265_0
                    replace p265 := eq_true p265
                    replace q265 := eq_true q265
                    obtain ⟨hcz24_0, hcz24_1, hfz24_0, hfz24_1⟩ := cz2 BK260
                    have p266 : 0 ≤ (0 : Int) := (by omega)
                    have q266 : 0 < ((rd_L1 t262 x28_2).length : Int) := of_decide_eq_true (by first | (with_reducible assumption) | assumption)
                    obtain ⟨ad266, e266, hx266_0⟩ := Kd.at_int (by repeat (first | (with_reducible exact HR265_0.out) | (with_reducible refine Kd.C_alloc ?_ _) | (with_reducible refine Kd.C_drewN ?_ _) | (with_reducible refine Kd.C_drew ?_) | exact HR265_0.out)) 0 p266 q266
                    cases e266
                    have qi266 : (0 < (rd_L1 t262 x28_2).length) = True := eq_true (by omega)
                    (try rw [show ((0 : Int)).toNat = 0 from rfl] at hx266_0)
                    (try rw [Addr.add_zero'] at hx266_0)
                    replace p266 := eq_true p266
                    replace q266 := eq_true q266
                    have p267 : 0 ≤ (1 : Int) := (by omega)
                    have q267 : 1 < ((rd_L1 t262 x28_2).length : Int) := of_decide_eq_true (by first | (with_reducible assumption) | assumption)
                    obtain ⟨ad267, e267, hx267_0⟩ := Kd.at_int (by repeat (first | (with_reducible exact HR265_0.out) | (with_reducible refine Kd.C_alloc ?_ _) | (with_reducible refine Kd.C_drewN ?_ _) | (with_reducible refine Kd.C_drew ?_) | exact HR265_0.out)) 1 p267 q267
                    obtain rfl : ad266 = ad267 := (by injection e267)
                    (try simp only [show (1 : Int).toNat = 1 from rfl, Nat.reduceMul, Nat.reduceEqDiff, Go.Addr.add, ↓reduceIte] at hx267_0)
                    have qi267 : (1 < (rd_L1 t262 x28_2).length) = True := eq_true (by omega)
                    (try rw [show ((1 : Int)).toNat = 1 from rfl] at hx267_0)
                    replace p267 := eq_true p267
                    replace q267 := eq_true q267
                    have p268 : 0 ≤ (x16_1 : Int) := of_decide_eq_true (by first | (with_reducible assumption) | assumption)
                    have q268 : x16_1 < (l1.length : Int) := of_decide_eq_true (by first | (with_reducible assumption) | assumption)
                    obtain ⟨ad268, e268, hx268_0⟩ := Kd.at_int HR1.out x16_1 p268 q268
                    cases e268
                    replace hx268_0 := bC HB hx268_0
                    replace p268 := eq_true p268
                    replace q268 := eq_true q268
                    have p269 : 0 ≤ (1 : Int) := (by omega)
                    have q269 : 1 < ((rd_L1 t262 x28_2).length : Int) := of_decide_eq_true (by first | (with_reducible assumption) | assumption)
                    obtain ⟨ad269, e269, hx269_0⟩ := Kd.at_int (by repeat (first | (with_reducible exact HR265_0.out) | (with_reducible refine Kd.C_alloc ?_ _) | (with_reducible refine Kd.C_drewN ?_ _) | (with_reducible refine Kd.C_drew ?_) | exact HR265_0.out)) 1 p269 q269
                    obtain rfl : ad266 = ad269 := (by injection e269)
                    (try simp only [show (1 : Int).toNat = 1 from rfl, Nat.reduceMul, Nat.reduceEqDiff, Go.Addr.add, ↓reduceIte] at hx269_0)
                    have qi269 : (1 < (rd_L1 t262 x28_2).length) = True := eq_true (by omega)
                    (try rw [show ((1 : Int)).toNat = 1 from rfl] at hx269_0)
                    replace p269 := eq_true p269
                    replace q269 := eq_true q269
                    go_wp2
                    repeat (go_quiet (fail); try go_wp2)
                    go_roundg k2
                    case measure => have := HK1.out; have := HK2.out; omega
                    case rel => exact ⟨(decide ((wrap64 (((rd_T114 l2 x16_1).f1) + (rd l1 x16_1))) ≤ (rd (rd_L1 t262 x28_2) 1))), (wrap64 (x28_2 + 1)), (by first | rfl | (simp; done) | (simp [*]; done)), (by first | rfl | (simp; done) | (simp [*]; done)), H', ⟨by have := HK1.out; have := HK2.out; omega⟩, ⟨by (with_reducible repeat (first | apply Kd.S_alloc | apply Kd.S_drewN | apply Kd.S_drew)); exact HO_26.out⟩, ⟨by (with_reducible repeat (first | refine blk_drewN ?_ _ | refine blk_drew ?_ | refine blk_alloc ?_ _)); exact BK260.out⟩, ⟨by repeat (first | (with_reducible first | exact HB.out | apply below_alloc | apply pw_below_drewN | apply below_drew1 | refine below_set ?_ GE260.out) | exact HB.out)⟩⟩
                   ·rw [if_neg c23] at H
                    exact absurd H (by simp)
                  ·rw [if_neg c22] at H
                   exact absurd H (by simp)
                 ·rw [if_neg c21] at H
                  have c21b0 : decide (((rd_T114 l2 x16_1).f1) ≤ (rd (rd_L1 t262 x28_2) 1)) = false := decide_eq_false c21
                  clear c21
                  have H' := Aside0.mk H
                  clear H
                  have p265 : 0 ≤ (x28_2 : Int) := of_decide_eq_true (by first | (with_reducible assumption) | assumption)
                  have q265 : x28_2 < (t262.length : Int) := of_decide_eq_true (by first | (with_reducible assumption) | assumption)
                  obtain ⟨ad265, A265_0, c265_0, e265, hx265_0, hl265_0, hi265_0⟩ := at_L1 (Kd.S_reads' HO_26.out).2.2 x28_2 p265 q265
                  cases e265
                  obtain ⟨ce265, hce265, hMe265, hcc265⟩ := Kd.S_get HO_26.out [] x28_2 p265 (by first | exact q265 | exact of_decide_eq_true (by first | (with_reducible assumption) | assumption) | (have e_ := (Kd.S_reads' HO_26.out).1; omega))
                  obtain ⟨ve265_0, rfl, ge265_0⟩ := hMe265
                  have hv265_0 := hcc265 0 _ rfl
                  rw [Nat.add_zero, show ((Kd.slice 2 (Kd.int .i64))).sz = 1 from rfl, Nat.mul_one] at hv265_0
                  replace hv265_0 := Option.some.inj (hv265_0.symm.trans hx265_0)
                  rw [hv265_0] at ge265_0
                  have HL265_0 := Aside0.mk (show Kd.R (Kd.int .i64) 2 _ _ _ _ (rd_L1 t262 x28_2) from ge265_0)
                  clear hv265_0 ge265_0
                  clear hcc265 hce265
                  have HR265_0 := Aside0.mk hi265_0
                  have HC265_0 := Aside0.mk hl265_0
                  clear hi265_0 hl265_0
                  replace p265 := eq_true p265
                  replace q265 := eq_true q265
                  obtain ⟨hcz25_0, hcz25_1, hfz25_0, hfz25_1⟩ := cz2 BK260
                  have p266 : 0 ≤ (0 : Int) := (by omega)
                  have q266 : 0 < ((rd_L1 t262 x28_2).length : Int) := of_decide_eq_true (by first | (with_reducible assumption) | assumption)
                  obtain ⟨ad266, e266, hx266_0⟩ := Kd.at_int (by repeat (first | (with_reducible exact HR265_0.out) | (with_reducible refine Kd.C_alloc ?_ _) | (with_reducible refine Kd.C_drewN ?_ _) | (with_reducible refine Kd.C_drew ?_) | exact HR265_0.out)) 0 p266 q266
                  cases e266
                  have qi266 : (0 < (rd_L1 t262 x28_2).length) = True := eq_true (by omega)
                  (try rw [show ((0 : Int)).toNat = 0 from rfl] at hx266_0)
                  (try rw [Addr.add_zero'] at hx266_0)
                  replace p266 := eq_true p266
                  replace q266 := eq_true q266
                  have p267 : 0 ≤ (1 : Int) := (by omega)
                  have q267 : 1 < ((rd_L1 t262 x28_2).length : Int) := of_decide_eq_true (by first | (with_reducible assumption) | assumption)
                  obtain ⟨ad267, e267, hx267_0⟩ := Kd.at_int (by repeat (first | (with_reducible exact HR265_0.out) | (with_reducible refine Kd.C_alloc ?_ _) | (with_reducible refine Kd.C_drewN ?_ _) | (with_reducible refine Kd.C_drew ?_) | exact HR265_0.out)) 1 p267 q267
                  obtain rfl : ad266 = ad267 := (by injection e267)
                  (try simp only [show (1 : Int).toNat = 1 from rfl, Nat.reduceMul, Nat.reduceEqDiff, Go.Addr.add, ↓reduceIte] at hx267_0)
                  have qi267 : (1 < (rd_L1 t262 x28_2).length) = True := eq_true (by omega)
                  (try rw [show ((1 : Int)).toNat = 1 from rfl] at hx267_0)
                  replace p267 := eq_true p267
                  replace q267 := eq_true q267
                  go_wp2
                  repeat (go_quiet (fail); try go_wp2)
                  go_roundg k2
                  case measure => have := HK1.out; have := HK2.out; omega
                  case rel => exact ⟨(false), (wrap64 (x28_2 + 1)), (by first | rfl | (simp; done) | (simp [*]; done)), (by first | rfl | (simp; done) | (simp [*]; done)), H', ⟨by have := HK1.out; have := HK2.out; omega⟩, ⟨by (with_reducible repeat (first | apply Kd.S_alloc | apply Kd.S_drewN | apply Kd.S_drew)); exact HO_26.out⟩, ⟨by (with_reducible repeat (first | refine blk_drewN ?_ _ | refine blk_drew ?_ | refine blk_alloc ?_ _)); exact BK260.out⟩, ⟨by repeat (first | (with_reducible first | exact HB.out | apply below_alloc | apply pw_below_drewN | apply below_drew1 | refine below_set ?_ GE260.out) | exact HB.out)⟩⟩
                ·rw [if_neg c20] at H
                 exact absurd H (by simp)
               ·rw [if_neg c19] at H
                have c19b0 : decide ((rd (rd_L1 t262 x28_2) 0) ≤ ((rd_T114 l2 x16_1).f1)) = false := decide_eq_false c19
                clear c19
                have H' := Aside0.mk H
                clear H
                have p265 : 0 ≤ (x28_2 : Int) := of_decide_eq_true (by first | (with_reducible assumption) | assumption)
                have q265 : x28_2 < (t262.length : Int) := of_decide_eq_true (by first | (with_reducible assumption) | assumption)
                obtain ⟨ad265, A265_0, c265_0, e265, hx265_0, hl265_0, hi265_0⟩ := at_L1 (Kd.S_reads' HO_26.out).2.2 x28_2 p265 q265
                cases e265
                obtain ⟨ce265, hce265, hMe265, hcc265⟩ := Kd.S_get HO_26.out [] x28_2 p265 (by first | exact q265 | exact of_decide_eq_true (by first | (with_reducible assumption) | assumption) | (have e_ := (Kd.S_reads' HO_26.out).1; omega))
                obtain ⟨ve265_0, rfl, ge265_0⟩ := hMe265
                have hv265_0 := hcc265 0 _ rfl
                rw [Nat.add_zero, show ((Kd.slice 2 (Kd.int .i64))).sz = 1 from rfl, Nat.mul_one] at hv265_0
                replace hv265_0 := Option.some.inj (hv265_0.symm.trans hx265_0)
                rw [hv265_0] at ge265_0
                have HL265_0 := Aside0.mk (show Kd.R (Kd.int .i64) 2 _ _ _ _ (rd_L1 t262 x28_2) from ge265_0)
                clear hv265_0 ge265_0
                clear hcc265 hce265
                have HR265_0 := Aside0.mk hi265_0
                have HC265_0 := Aside0.mk hl265_0
                clear hi265_0 hl265_0
                replace p265 := eq_true p265
                replace q265 := eq_true q265
                obtain ⟨hcz26_0, hcz26_1, hfz26_0, hfz26_1⟩ := cz2 BK260
                have p266 : 0 ≤ (0 : Int) := (by omega)
                have q266 : 0 < ((rd_L1 t262 x28_2).length : Int) := of_decide_eq_true (by first | (with_reducible assumption) | assumption)
                obtain ⟨ad266, e266, hx266_0⟩ := Kd.at_int (by repeat (first | (with_reducible exact HR265_0.out) | (with_reducible refine Kd.C_alloc ?_ _) | (with_reducible refine Kd.C_drewN ?_ _) | (with_reducible refine Kd.C_drew ?_) | exact HR265_0.out)) 0 p266 q266
                cases e266
                have qi266 : (0 < (rd_L1 t262 x28_2).length) = True := eq_true (by omega)
                (try rw [show ((0 : Int)).toNat = 0 from rfl] at hx266_0)
                (try rw [Addr.add_zero'] at hx266_0)
                replace p266 := eq_true p266
                replace q266 := eq_true q266
                go_wp2
                repeat (go_quiet (fail); try go_wp2)
                go_roundg k2
                case measure => have := HK1.out; have := HK2.out; omega
                case rel => exact ⟨(false), (wrap64 (x28_2 + 1)), (by first | rfl | (simp; done) | (simp [*]; done)), (by first | rfl | (simp; done) | (simp [*]; done)), H', ⟨by have := HK1.out; have := HK2.out; omega⟩, ⟨by (with_reducible repeat (first | apply Kd.S_alloc | apply Kd.S_drewN | apply Kd.S_drew)); exact HO_26.out⟩, ⟨by (with_reducible repeat (first | refine blk_drewN ?_ _ | refine blk_drew ?_ | refine blk_alloc ?_ _)); exact BK260.out⟩, ⟨by repeat (first | (with_reducible first | exact HB.out | apply below_alloc | apply pw_below_drewN | apply below_drew1 | refine below_set ?_ GE260.out) | exact HB.out)⟩⟩
              ·rw [if_neg c18] at H
               exact absurd H (by simp)
            ·rw [if_neg c16] at H
             exact absurd H (by simp)
           ·rw [if_neg c15] at H
            exact absurd H (by simp)
          ·rw [if_neg c14] at H
           have c14b0 : decide (x28_2 < (t262.length : Int)) = false := decide_eq_false c14
           clear c14
           by_cases c27 : x9_2 = true
           ·subst c27
            have H1 : (if 0 ≤ x16_1 then (if x16_1 ≤ (l2.length : Int) then ((some (l2.take (x16_1 : Int).toNat : List (S114))).bind fun y270 => (impl_pieceFault.l2 k2 l0 l1 l2 x16_1 l2 (l2.length : Int) x16_1 y270 (y270.length : Int) 0 ((rd_T114 l2 x16_1).f0) ((rd_T114 l2 x16_1).f1))) else (none)) else (none)) = some r := by rw [if_pos rfl] at H; exact H
            clear H
            have H := H1
            clear H1
            by_cases c28 : 0 ≤ x16_1
            ·rw [if_pos c28] at H
             have c28b0 := eq_true c28
             have c28b1 : decide (0 ≤ x16_1) = true := decide_eq_true c28
             clear c28
             by_cases c29 : x16_1 ≤ (l2.length : Int)
             ·rw [if_pos c29] at H
              have c29b0 := eq_true c29
              have c29b1 : decide (x16_1 ≤ (l2.length : Int)) = true := decide_eq_true c29
              clear c29
              obtain ⟨y270, hy270⟩ : ∃ y_ : List (S114), y_ = (l2.take (x16_1 : Int).toNat) := ⟨_, rfl⟩
              replace H : (impl_pieceFault.l2 k2 l0 l1 l2 x16_1 l2 (l2.length : Int) x16_1 y270 (y270.length : Int) 0 ((rd_T114 l2 x16_1).f0) ((rd_T114 l2 x16_1).f1)) = some r := by first | (rw [hy270]; with_reducible exact H) | (have H2_ := (Option.bind_some _ _).symm.trans H; rw [hy270]; with_reducible exact H2_) | (have H2_ := (Option.bind_some _ _).symm.trans H; with_reducible exact H2_) | with_reducible exact H | (rw [hy270]; exact H) | exact H
              have Ny270 := Aside0.mk hy270
              clear hy270
              have H' := Aside0.mk H
              clear H
              have q30 : (x16_1 : Int) ≤ ((l2.length : Int) : Int) := of_decide_eq_true (by first | (with_reducible assumption) | assumption)
              obtain ⟨i030, hi030, _, hsz30, _⟩ := info_parts info114
              have hroom30 : l2.length ≤ c2 := HC2.out
              have hC30 : Kd.C k114 _ (some ad259) l2.length l2 := HR2.out
              have hcut30 := cut_to (P := Try.prog) 38 114 .i64 Try.underlying38 hi030 (some ad259) l2.length c2 x16_1 (of_decide_eq_true (by first | (with_reducible assumption) | assumption)) q30 hroom30
              have hr30 := Kd.C_take (m := (x16_1 : Int).toNat) hC30 (by omega)
              have hy30 : y270.length = (x16_1 : Int).toNat := (by rw [Ny270.out, List.length_take]; omega)
              rw [← Ny270.out] at hr30
              rw [← hy30] at hcut30
              have HR273 := Aside0.mk hr30
              have HC273 := Aside0.mk (show y270.length ≤ c2 from by omega)
              clear hr30 hC30 hroom30 hi030 hsz30
              have KY30 := Aside0.mk hy30
              clear hy30
              replace q30 := eq_true q30
              go_wp2
              repeat (go_quiet (fail); try go_wp2)
              go_loopg [70] k2 (fun kq v70 w' => ∃ (x70_3 : Int), v70 = .int .i64 x70_3 ∧ Aside0 (impl_pieceFault.l2 kq l0 l1 l2 x16_1 l2 (l2.length : Int) x16_1 y270 (y270.length : Int) x70_3 ((rd_T114 l2 x16_1).f0) ((rd_T114 l2 x16_1).f1) = some r) ∧ Aside0 (kq ≤ k2) ∧ Aside0 (w'.heap[gb260]? = some (.cells #[.int .i64 ((rd_T114 l2 x16_1).f0), .int .i64 ((rd_T114 l2 x16_1).f1)] 114 (0, 0))) ∧ Aside0 (Below w.heap.size w w'))
              case atStart => exact ⟨(0), (by first | rfl | (simp; done) | (simp [*]; done)), H', ⟨Nat.le_refl _⟩, ⟨by (with_reducible repeat (first | refine blk_drewN ?_ _ | refine blk_drew ?_ | refine blk_alloc ?_ _)); exact BK260.out⟩, ⟨by repeat (first | (with_reducible first | exact HB.out | apply below_alloc | apply pw_below_drewN | apply below_drew1 | refine below_set ?_ GE260.out) | exact HB.out)⟩⟩
              case round =>
               clear H'
               try clear c1
               try clear c2
               try clear p2
               try clear q2
               try clear hx2
               try clear qi2
               try clear q3
               try clear c4
               try clear c4b0
               try clear c5
               try clear c5b0
               try clear c6
               try clear c6b0
               try clear p6
               try clear c7
               try clear c7b0
               try clear c8
               try clear c8b0
               try clear c14
               try clear c14b0
               try clear c15
               try clear c15b0
               try clear c16
               try clear c16b0
               try clear c17
               try clear c18
               try clear c18b0
               try clear c18b1
               try clear c19
               try clear c19b0
               try clear c20
               try clear c20b0
               try clear c20b1
               try clear c21
               try clear c21b0
               try clear c22
               try clear c22b0
               try clear c23
               try clear c23b0
               try clear p25
               try clear q25
               try clear hx25
               try clear c26
               try clear p26
               try clear q26
               try clear hx26
               try clear qi26
               try clear c27
               try clear c28
               try clear c28b0
               try clear c28b1
               try clear c29
               try clear c29b0
               try clear c29b1
               try clear q30
               try clear hcz11_0
               try clear hcz11_1
               try clear hcz24_0
               try clear hcz24_1
               try clear hcz25_0
               try clear hcz25_1
               try clear hcz26_0
               try clear hcz26_1
               try clear hfz11_0
               try clear hfz11_1
               try clear hfz24_0
               try clear hfz24_1
               try clear hfz25_0
               try clear hfz25_1
               try clear hfz26_0
               try clear hfz26_1
               try clear hx259_0
               try clear hx259_1
               try clear hx261_0
               try clear hx261_1
               try clear hx265_0
               try clear hx266_0
               try clear hx267_0
               try clear hx268_0
               try clear hx269_0
               try clear p2
               try clear p259
               try clear p261
               try clear p265
               try clear p266
               try clear p267
               try clear p268
               try clear p269
               try clear q2
               try clear q259
               try clear q261
               try clear q265
               try clear q266
               try clear q267
               try clear q268
               try clear q269
               try clear q30
               obtain ⟨x70_3, rfl, HA, HK3, BK260, HB⟩ := hrel
               cases gk with
               | zero => exact absurd HA.out (by simp [impl_pieceFault.l2])
               | succ k3 =>
                have H := HA.out
                clear HA
                simp only [impl_pieceFault.l2] at H
                by_cases c31 : x70_3 < (y270.length : Int)
                ·rw [if_pos c31] at H
                 have c31b0 : decide (x70_3 < (y270.length : Int)) = true := decide_eq_true c31
                 clear c31
                 by_cases c32 : 0 ≤ x70_3
                 ·rw [if_pos c32] at H
                  have c32b0 : decide (0 ≤ x70_3) = true := decide_eq_true c32
                  clear c32
                  by_cases c33 : x70_3 < (y270.length : Int)
                  ·rw [if_pos c33] at H
                   have c33b0 : decide (x70_3 < (y270.length : Int)) = true := decide_eq_true c33
                   clear c33
                   have HF_ := Aside0.mk H
                   clear H
                   have p274 : 0 ≤ (x70_3 : Int) := of_decide_eq_true (by first | (with_reducible assumption) | assumption)
                   have q274 : x70_3 < (y270.length : Int) := of_decide_eq_true (by first | (with_reducible assumption) | assumption)
                   obtain ⟨ad274, e274, hx274_0, hx274_1⟩ := at_T114 HR273.out x70_3 p274 q274
                   obtain rfl : ad259 = ad274 := (by injection e274)
                   replace hx274_0 := bC HB hx274_0
                   replace hx274_1 := bC HB hx274_1
                   replace p274 := eq_true p274
                   replace q274 := eq_true q274
                   go_upto_region 15 with (first | ((with_reducible refine gate_dst (N := 13) rfl ?_); refine box_event ?hg (N := 13) ?hd (cs := #[.int .i64 0, .int .i64 0]) (t := 114) ?hr ?_; (case hd => rfl); (case hg => rfl); (case hr => first | (go_simp; done) | (go_simp; rfl)); intro gb275 hg w34 hbox hb; have n0_ := pB BK260 hb; have n1_ := pS HB hb; have n2_ := Aside0.mk (hbox); have n3_ := pG HB hg; have n4_ := pG HB hg; have n5_ := pN BK260 hg; have n6_ := pM BK260 hg; clear BK260 HB; have BK260 := n0_; have HB := n1_; have BK275 := n2_; have GW275 := n3_; have GE275 := n4_; have NB260_275 := n5_; have NB275_260 := n6_; clear n0_ n1_ n2_ n3_ n4_ n5_ n6_; clear hb hbox hg; have hnb35 := NB275_260.out; have hnc35 := NB260_275.out; obtain ⟨hcz36_0, hcz36_1, hfz36_0, hfz36_1⟩ := cz2 BK275))
                   repeat (go_quiet (first | ((with_reducible refine gate_dst (N := 13) rfl ?_); refine box_event ?hg (N := 13) ?hd (cs := #[.int .i64 0, .int .i64 0]) (t := 114) ?hr ?_; (case hd => rfl); (case hg => rfl); (case hr => first | (go_simp; done) | (go_simp; rfl)); intro gb275 hg w34 hbox hb; have n0_ := pB BK260 hb; have n1_ := pS HB hb; have n2_ := Aside0.mk (hbox); have n3_ := pG HB hg; have n4_ := pG HB hg; have n5_ := pN BK260 hg; have n6_ := pM BK260 hg; clear BK260 HB; have BK260 := n0_; have HB := n1_; have BK275 := n2_; have GW275 := n3_; have GE275 := n4_; have NB260_275 := n5_; have NB275_260 := n6_; clear n0_ n1_ n2_ n3_ n4_ n5_ n6_; clear hb hbox hg; have hnb35 := NB275_260.out; have hnc35 := NB260_275.out; obtain ⟨hcz36_0, hcz36_1, hfz36_0, hfz36_1⟩ := cz2 BK275)); go_upto_region 15 with (first | ((with_reducible refine gate_dst (N := 13) rfl ?_); refine box_event ?hg (N := 13) ?hd (cs := #[.int .i64 0, .int .i64 0]) (t := 114) ?hr ?_; (case hd => rfl); (case hg => rfl); (case hr => first | (go_simp; done) | (go_simp; rfl)); intro gb275 hg w34 hbox hb; have n0_ := pB BK260 hb; have n1_ := pS HB hb; have n2_ := Aside0.mk (hbox); have n3_ := pG HB hg; have n4_ := pG HB hg; have n5_ := pN BK260 hg; have n6_ := pM BK260 hg; clear BK260 HB; have BK260 := n0_; have HB := n1_; have BK275 := n2_; have GW275 := n3_; have GE275 := n4_; have NB260_275 := n5_; have NB275_260 := n6_; clear n0_ n1_ n2_ n3_ n4_ n5_ n6_; clear hb hbox hg; have hnb35 := NB275_260.out; have hnc35 := NB260_275.out; obtain ⟨hcz36_0, hcz36_1, hfz36_0, hfz36_1⟩ := cz2 BK275)))
                   (try simp only [Act.put, List.setIfInBounds_toArray, List.set_cons_zero, List.set_cons_succ])
                   have H := HF_.out
                   clear HF_
                   by_cases c37 : ((rd_T114 y270 x70_3).f0) = ((rd_T114 l2 x16_1).f0)
                   ·rw [if_pos c37] at H
                    have c37b0 : (((rd_T114 y270 x70_3).f0) == ((rd_T114 l2 x16_1).f0)) = true := beq_iff_eq.mpr c37
                    have c37b1 : (((rd_T114 y270 x70_3).f0) != ((rd_T114 l2 x16_1).f0)) = false := bne_eq_false_iff_eq.mpr c37
                    clear c37
                    (first | rw [c37b0] | (simp only [i64_w, i32_w]; rw [c37b0]) | skip)
                    by_cases c38 : x70_3 < (l1.length : Int)
                    ·rw [if_pos c38] at H
                     have c38b0 : decide (x70_3 < (l1.length : Int)) = true := decide_eq_true c38
                     clear c38
                     by_cases c39 : ((rd_T114 l2 x16_1).f1) < (wrap64 (((rd_T114 y270 x70_3).f1) + (rd l1 x70_3)))
                     ·rw [if_pos c39] at H
                      have c39b0 : decide (((rd_T114 l2 x16_1).f1) < (wrap64 (((rd_T114 y270 x70_3).f1) + (rd l1 x70_3)))) = true := decide_eq_true c39
                      clear c39
                      by_cases c40 : 0 ≤ x16_1
                      ·rw [if_pos c40] at H
                       have c40b0 : decide (0 ≤ x16_1) = true := decide_eq_true c40
                       clear c40
                       by_cases c41 : x16_1 < (l1.length : Int)
                       ·rw [if_pos c41] at H
                        have c41b0 : decide (x16_1 < (l1.length : Int)) = true := decide_eq_true c41
                        clear c41
                        by_cases c42 : ((rd_T114 y270 x70_3).f1) < (wrap64 (((rd_T114 l2 x16_1).f1) + (rd l1 x16_1)))
                        ·rw [if_pos c42] at H
                         have c42b0 : decide (((rd_T114 y270 x70_3).f1) < (wrap64 (((rd_T114 l2 x16_1).f1) + (rd l1 x16_1)))) = true := decide_eq_true c42
                         clear c42
                         obtain rfl := Option.some.inj H
                         simp only [Option.some.injEq, Prod.mk.injEq] at H
                         obtain ⟨rfl⟩ := H
                         have hnb43 := NB275_260.out
                         have hnc43 := NB260_275.out
                         obtain ⟨hcz44_0, hcz44_1, hfz44_0, hfz44_1⟩ := cz2 BK275
                         obtain ⟨hcz45_0, hcz45_1, hfz45_0, hfz45_1⟩ := cz2 BK260
                         have p276 : 0 ≤ (x70_3 : Int) := of_decide_eq_true (by first | (with_reducible assumption) | assumption)
                         have q276 : x70_3 < (l1.length : Int) := of_decide_eq_true (by first | (with_reducible assumption) | assumption)
                         obtain ⟨ad276, e276, hx276_0⟩ := Kd.at_int HR1.out x70_3 p276 q276
                         cases e276
                         have hn276_0 : ad276.block ≠ gb275 := Nat.ne_of_lt (Nat.lt_of_lt_of_le (by have := World.block_lt_of_cell? _ _ hx276_0; first | rwa [add_block] at this | exact this) GW275.out)
                         have hn276_1 : ad276.block ≠ gb275 := Nat.ne_of_lt (Nat.lt_of_lt_of_le (by have := World.block_lt_of_cell? _ _ hx276_0; first | rwa [add_block] at this | exact this) GW275.out)
                         replace hx276_0 := bC HB hx276_0
                         replace hx276_0 := (cell_far (p := ⟨gb275, 0, none⟩) (by first | (rw [add_block]; exact hn276_0) | (show (Addr.add _ _).block ≠ _; rw [add_block]; exact hn276_0) | exact hn276_0) (.int .i64 ((rd_T114 y270 x70_3).f0))).trans hx276_0
                         replace hx276_0 := (cell_far (p := ⟨gb275, 1, none⟩) (by first | (rw [add_block]; exact hn276_1) | (show (Addr.add _ _).block ≠ _; rw [add_block]; exact hn276_1) | exact hn276_1) (.int .i64 ((rd_T114 y270 x70_3).f1))).trans hx276_0
                         (try have hy276_0 := fun (n_ : Nat) => (show ((((w34.drewN n_).setCell ⟨gb275, 0, none⟩ (.int .i64 ((rd_T114 y270 x70_3).f0))).setCell ⟨gb275, 1, none⟩ (.int .i64 ((rd_T114 y270 x70_3).f1)))).cell? _ = some _ from hx276_0))
                         clear hn276_0
                         clear hn276_1
                         replace p276 := eq_true p276
                         replace q276 := eq_true q276
                         have p277 : 0 ≤ (x16_1 : Int) := of_decide_eq_true (by first | (with_reducible assumption) | assumption)
                         have q277 : x16_1 < (l1.length : Int) := of_decide_eq_true (by first | (with_reducible assumption) | assumption)
                         obtain ⟨ad277, e277, hx277_0⟩ := Kd.at_int HR1.out x16_1 p277 q277
                         obtain rfl : ad276 = ad277 := (by injection e277)
                         have hn277_0 : ad276.block ≠ gb275 := Nat.ne_of_lt (Nat.lt_of_lt_of_le (by have := World.block_lt_of_cell? _ _ hx277_0; first | rwa [add_block] at this | exact this) GW275.out)
                         have hn277_1 : ad276.block ≠ gb275 := Nat.ne_of_lt (Nat.lt_of_lt_of_le (by have := World.block_lt_of_cell? _ _ hx277_0; first | rwa [add_block] at this | exact this) GW275.out)
                         replace hx277_0 := bC HB hx277_0
                         replace hx277_0 := (cell_far (p := ⟨gb275, 0, none⟩) (by first | (rw [add_block]; exact hn277_0) | (show (Addr.add _ _).block ≠ _; rw [add_block]; exact hn277_0) | exact hn277_0) (.int .i64 ((rd_T114 y270 x70_3).f0))).trans hx277_0
                         replace hx277_0 := (cell_far (p := ⟨gb275, 1, none⟩) (by first | (rw [add_block]; exact hn277_1) | (show (Addr.add _ _).block ≠ _; rw [add_block]; exact hn277_1) | exact hn277_1) (.int .i64 ((rd_T114 y270 x70_3).f1))).trans hx277_0
                         (try have hy277_0 := fun (n_ : Nat) => (show ((((w34.drewN n_).setCell ⟨gb275, 0, none⟩ (.int .i64 ((rd_T114 y270 x70_3).f0))).setCell ⟨gb275, 1, none⟩ (.int .i64 ((rd_T114 y270 x70_3).f1)))).cell? _ = some _ from hx277_0))
                         clear hn277_0
                         clear hn277_1
                         replace p277 := eq_true p277
                         replace q277 := eq_true q277
                         go_wp2
                         repeat (go_quiet (fail); try go_wp2)
                         go_ret
                         exact ⟨by first | rfl | (simp [errW_none, errW_some] <;> rfl) | (simp [*, errW_none, errW_some] <;> rfl), pR HB⟩
                        ·rw [if_neg c42] at H
                         have c42b0 : decide (((rd_T114 y270 x70_3).f1) < (wrap64 (((rd_T114 l2 x16_1).f1) + (rd l1 x16_1)))) = false := decide_eq_false c42
                         clear c42
                         have H' := Aside0.mk H
                         clear H
                         have hnb46 := NB275_260.out
                         have hnc46 := NB260_275.out
                         obtain ⟨hcz47_0, hcz47_1, hfz47_0, hfz47_1⟩ := cz2 BK275
                         obtain ⟨hcz48_0, hcz48_1, hfz48_0, hfz48_1⟩ := cz2 BK260
                         have p276 : 0 ≤ (x70_3 : Int) := of_decide_eq_true (by first | (with_reducible assumption) | assumption)
                         have q276 : x70_3 < (l1.length : Int) := of_decide_eq_true (by first | (with_reducible assumption) | assumption)
                         obtain ⟨ad276, e276, hx276_0⟩ := Kd.at_int HR1.out x70_3 p276 q276
                         cases e276
                         have hn276_0 : ad276.block ≠ gb275 := Nat.ne_of_lt (Nat.lt_of_lt_of_le (by have := World.block_lt_of_cell? _ _ hx276_0; first | rwa [add_block] at this | exact this) GW275.out)
                         have hn276_1 : ad276.block ≠ gb275 := Nat.ne_of_lt (Nat.lt_of_lt_of_le (by have := World.block_lt_of_cell? _ _ hx276_0; first | rwa [add_block] at this | exact this) GW275.out)
                         replace hx276_0 := bC HB hx276_0
                         replace hx276_0 := (cell_far (p := ⟨gb275, 0, none⟩) (by first | (rw [add_block]; exact hn276_0) | (show (Addr.add _ _).block ≠ _; rw [add_block]; exact hn276_0) | exact hn276_0) (.int .i64 ((rd_T114 y270 x70_3).f0))).trans hx276_0
                         replace hx276_0 := (cell_far (p := ⟨gb275, 1, none⟩) (by first | (rw [add_block]; exact hn276_1) | (show (Addr.add _ _).block ≠ _; rw [add_block]; exact hn276_1) | exact hn276_1) (.int .i64 ((rd_T114 y270 x70_3).f1))).trans hx276_0
                         (try have hy276_0 := fun (n_ : Nat) => (show ((((w34.drewN n_).setCell ⟨gb275, 0, none⟩ (.int .i64 ((rd_T114 y270 x70_3).f0))).setCell ⟨gb275, 1, none⟩ (.int .i64 ((rd_T114 y270 x70_3).f1)))).cell? _ = some _ from hx276_0))
                         clear hn276_0
                         clear hn276_1
                         replace p276 := eq_true p276
                         replace q276 := eq_true q276
                         have p277 : 0 ≤ (x16_1 : Int) := of_decide_eq_true (by first | (with_reducible assumption) | assumption)
                         have q277 : x16_1 < (l1.length : Int) := of_decide_eq_true (by first | (with_reducible assumption) | assumption)
                         obtain ⟨ad277, e277, hx277_0⟩ := Kd.at_int HR1.out x16_1 p277 q277
                         obtain rfl : ad276 = ad277 := (by injection e277)
                         have hn277_0 : ad276.block ≠ gb275 := Nat.ne_of_lt (Nat.lt_of_lt_of_le (by have := World.block_lt_of_cell? _ _ hx277_0; first | rwa [add_block] at this | exact this) GW275.out)
                         have hn277_1 : ad276.block ≠ gb275 := Nat.ne_of_lt (Nat.lt_of_lt_of_le (by have := World.block_lt_of_cell? _ _ hx277_0; first | rwa [add_block] at this | exact this) GW275.out)
                         replace hx277_0 := bC HB hx277_0
                         replace hx277_0 := (cell_far (p := ⟨gb275, 0, none⟩) (by first | (rw [add_block]; exact hn277_0) | (show (Addr.add _ _).block ≠ _; rw [add_block]; exact hn277_0) | exact hn277_0) (.int .i64 ((rd_T114 y270 x70_3).f0))).trans hx277_0
                         replace hx277_0 := (cell_far (p := ⟨gb275, 1, none⟩) (by first | (rw [add_block]; exact hn277_1) | (show (Addr.add _ _).block ≠ _; rw [add_block]; exact hn277_1) | exact hn277_1) (.int .i64 ((rd_T114 y270 x70_3).f1))).trans hx277_0
                         (try have hy277_0 := fun (n_ : Nat) => (show ((((w34.drewN n_).setCell ⟨gb275, 0, none⟩ (.int .i64 ((rd_T114 y270 x70_3).f0))).setCell ⟨gb275, 1, none⟩ (.int .i64 ((rd_T114 y270 x70_3).f1)))).cell? _ = some _ from hx277_0))
                         clear hn277_0
                         clear hn277_1
                         replace p277 := eq_true p277
                         replace q277 := eq_true q277
                         go_wp2
                         repeat (go_quiet (fail); try go_wp2)
                         go_roundg k3
                         case measure => have := HK1.out; have := HK2.out; have := HK3.out; omega
                         case rel => exact ⟨(wrap64 (x70_3 + 1)), (by first | rfl | (simp; done) | (simp [*]; done)), H', ⟨by have := HK1.out; have := HK2.out; have := HK3.out; omega⟩, ⟨by (with_reducible repeat (first | refine blk_drewN ?_ _ | refine blk_drew ?_ | refine blk_alloc ?_ _)); refine blk_far ?_ NB260_275.out _; (with_reducible repeat (first | refine blk_drewN ?_ _ | refine blk_drew ?_ | refine blk_alloc ?_ _)); refine blk_far ?_ NB260_275.out _; (with_reducible repeat (first | refine blk_drewN ?_ _ | refine blk_drew ?_ | refine blk_alloc ?_ _)); exact BK260.out⟩, ⟨by repeat (first | (with_reducible first | exact HB.out | apply below_alloc | apply pw_below_drewN | apply below_drew1 | refine below_set ?_ GE260.out | refine below_set ?_ GE275.out) | exact HB.out)⟩⟩
                       ·rw [if_neg c41] at H
                        exact absurd H (by simp)
                      ·rw [if_neg c40] at H
                       exact absurd H (by simp)
                     ·rw [if_neg c39] at H
                      have c39b0 : decide (((rd_T114 l2 x16_1).f1) < (wrap64 (((rd_T114 y270 x70_3).f1) + (rd l1 x70_3)))) = false := decide_eq_false c39
                      clear c39
                      have H' := Aside0.mk H
                      clear H
                      have hnb49 := NB275_260.out
                      have hnc49 := NB260_275.out
                      obtain ⟨hcz50_0, hcz50_1, hfz50_0, hfz50_1⟩ := cz2 BK275
                      obtain ⟨hcz51_0, hcz51_1, hfz51_0, hfz51_1⟩ := cz2 BK260
                      have p276 : 0 ≤ (x70_3 : Int) := of_decide_eq_true (by first | (with_reducible assumption) | assumption)
                      have q276 : x70_3 < (l1.length : Int) := of_decide_eq_true (by first | (with_reducible assumption) | assumption)
                      obtain ⟨ad276, e276, hx276_0⟩ := Kd.at_int HR1.out x70_3 p276 q276
                      cases e276
                      have hn276_0 : ad276.block ≠ gb275 := Nat.ne_of_lt (Nat.lt_of_lt_of_le (by have := World.block_lt_of_cell? _ _ hx276_0; first | rwa [add_block] at this | exact this) GW275.out)
                      have hn276_1 : ad276.block ≠ gb275 := Nat.ne_of_lt (Nat.lt_of_lt_of_le (by have := World.block_lt_of_cell? _ _ hx276_0; first | rwa [add_block] at this | exact this) GW275.out)
                      replace hx276_0 := bC HB hx276_0
                      replace hx276_0 := (cell_far (p := ⟨gb275, 0, none⟩) (by first | (rw [add_block]; exact hn276_0) | (show (Addr.add _ _).block ≠ _; rw [add_block]; exact hn276_0) | exact hn276_0) (.int .i64 ((rd_T114 y270 x70_3).f0))).trans hx276_0
                      replace hx276_0 := (cell_far (p := ⟨gb275, 1, none⟩) (by first | (rw [add_block]; exact hn276_1) | (show (Addr.add _ _).block ≠ _; rw [add_block]; exact hn276_1) | exact hn276_1) (.int .i64 ((rd_T114 y270 x70_3).f1))).trans hx276_0
                      (try have hy276_0 := fun (n_ : Nat) => (show ((((w34.drewN n_).setCell ⟨gb275, 0, none⟩ (.int .i64 ((rd_T114 y270 x70_3).f0))).setCell ⟨gb275, 1, none⟩ (.int .i64 ((rd_T114 y270 x70_3).f1)))).cell? _ = some _ from hx276_0))
                      clear hn276_0
                      clear hn276_1
                      replace p276 := eq_true p276
                      replace q276 := eq_true q276
                      go_wp2
                      repeat (go_quiet (fail); try go_wp2)
                      go_roundg k3
                      case measure => have := HK1.out; have := HK2.out; have := HK3.out; omega
                      case rel => exact ⟨(wrap64 (x70_3 + 1)), (by first | rfl | (simp; done) | (simp [*]; done)), H', ⟨by have := HK1.out; have := HK2.out; have := HK3.out; omega⟩, ⟨by (with_reducible repeat (first | refine blk_drewN ?_ _ | refine blk_drew ?_ | refine blk_alloc ?_ _)); refine blk_far ?_ NB260_275.out _; (with_reducible repeat (first | refine blk_drewN ?_ _ | refine blk_drew ?_ | refine blk_alloc ?_ _)); refine blk_far ?_ NB260_275.out _; (with_reducible repeat (first | refine blk_drewN ?_ _ | refine blk_drew ?_ | refine blk_alloc ?_ _)); exact BK260.out⟩, ⟨by repeat (first | (with_reducible first | exact HB.out | apply below_alloc | apply pw_below_drewN | apply below_drew1 | refine below_set ?_ GE260.out | refine below_set ?_ GE275.out) | exact HB.out)⟩⟩
                    ·rw [if_neg c38] at H
                     exact absurd H (by simp)
                   ·rw [if_neg c37] at H
                    have c37b0 : (((rd_T114 y270 x70_3).f0) == ((rd_T114 l2 x16_1).f0)) = false := beq_eq_false_iff_ne.mpr c37
                    have c37b1 : (((rd_T114 y270 x70_3).f0) != ((rd_T114 l2 x16_1).f0)) = true := bne_iff_ne.mpr c37
                    (first | rw [c37b0] | (simp only [i64_w, i32_w]; rw [c37b0]) | skip)
                    have H' := Aside0.mk H
                    clear H
                    have hnb52 := NB275_260.out
                    have hnc52 := NB260_275.out
                    obtain ⟨hcz53_0, hcz53_1, hfz53_0, hfz53_1⟩ := cz2 BK275
                    obtain ⟨hcz54_0, hcz54_1, hfz54_0, hfz54_1⟩ := cz2 BK260
                    go_wp2
                    repeat (go_quiet (fail); try go_wp2)
                    go_roundg k3
                    case measure => have := HK1.out; have := HK2.out; have := HK3.out; omega
                    case rel => exact ⟨(wrap64 (x70_3 + 1)), (by first | rfl | (simp; done) | (simp [*]; done)), H', ⟨by have := HK1.out; have := HK2.out; have := HK3.out; omega⟩, ⟨by (with_reducible repeat (first | refine blk_drewN ?_ _ | refine blk_drew ?_ | refine blk_alloc ?_ _)); refine blk_far ?_ NB260_275.out _; (with_reducible repeat (first | refine blk_drewN ?_ _ | refine blk_drew ?_ | refine blk_alloc ?_ _)); refine blk_far ?_ NB260_275.out _; (with_reducible repeat (first | refine blk_drewN ?_ _ | refine blk_drew ?_ | refine blk_alloc ?_ _)); exact BK260.out⟩, ⟨by repeat (first | (with_reducible first | exact HB.out | apply below_alloc | apply pw_below_drewN | apply below_drew1 | refine below_set ?_ GE260.out | refine below_set ?_ GE275.out) | exact HB.out)⟩⟩
                  ·rw [if_neg c33] at H
                   exact absurd H (by simp)
                 ·rw [if_neg c32] at H
                  exact absurd H (by simp)
                ·rw [if_neg c31] at H
                 have c31b0 : decide (x70_3 < (y270.length : Int)) = false := decide_eq_false c31
                 clear c31
                 have H' := Aside0.mk H
                 clear H
                 go_wp2
                 repeat (go_quiet (fail); try go_wp2)
                 go_roundg k3
                 case measure => have := HK1.out; have := HK2.out; have := HK3.out; omega
                 case rel => exact ⟨(wrap64 (x16_1 + 1)), (by first | rfl | (simp; done) | (simp [*]; done)), H', ⟨by have := HK1.out; have := HK2.out; have := HK3.out; omega⟩, ⟨by repeat (first | (with_reducible first | exact HB.out | apply below_alloc | apply pw_below_drewN | apply below_drew1 | refine below_set ?_ GE260.out) | exact HB.out)⟩⟩
             ·rw [if_neg c29] at H
              exact absurd H (by simp)
            ·rw [if_neg c28] at H
             exact absurd H (by simp)
           ·replace c27 := Bool.eq_false_iff.mpr c27
            subst c27
            have H1 : (some x16_1) = some r := by rw [if_neg (show ¬ (false = true) by decide)] at H; exact H
            clear H
            have H := H1
            clear H1
            obtain rfl := Option.some.inj H
            simp only [Option.some.injEq, Prod.mk.injEq] at H
            obtain ⟨rfl⟩ := H
            go_wp2
            repeat (go_quiet (fail); try go_wp2)
            go_ret
            exact ⟨by first | rfl | (simp [errW_none, errW_some] <;> rfl) | (simp [*, errW_none, errW_some] <;> rfl), pR HB⟩
       ·rw [if_neg c8] at H
        exact absurd H (by simp)
      ·rw [if_neg c7] at H
       exact absurd H (by simp)
     ·rw [if_neg c6] at H
      exact absurd H (by simp)
    ·rw [if_neg c5] at H
     exact absurd H (by simp)
   ·rw [if_neg c4] at H
    have c4b0 : decide (x16_1 < (l2.length : Int)) = false := decide_eq_false c4
    clear c4
    obtain rfl := Option.some.inj H
    simp only [Option.some.injEq, Prod.mk.injEq] at H
    obtain ⟨rfl⟩ := H
    go_wp2
    repeat (go_quiet (fail); try go_wp2)
    go_ret
    exact ⟨by first | rfl | (simp [errW_none, errW_some] <;> rfl) | (simp [*, errW_none, errW_some] <;> rfl), pR HB⟩

end Go.Proofs.Ytlphfgbeeckjnaa.PFnExactClothLeft
