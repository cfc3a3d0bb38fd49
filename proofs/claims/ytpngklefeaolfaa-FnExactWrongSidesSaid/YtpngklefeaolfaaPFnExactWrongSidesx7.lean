-- Written by a program of this session (wip/tools/pp.sh).
import Derived.Test.YtpngklefeaolfaaPFnExactWrongSidesx0
import Derived.Test.YtpngklefeaolfaaPFnExactWrongSidesx4
import Derived.Test.YtpngklefeaolfaaPFnExactWrongSidesx5
import Derived.Test.YtpngklefeaolfaaPFnExactWrongSidesx6
namespace Go.Proofs.Ytpngklefeaolfaa.PFnExactWrongSides
open Go.RowKit Go.Proofs.YtpngklefeaolfaaW.PrintWords Go.Proofs.YtpngklefeaolfaaW.PrintLast Go.Proofs.YtpngklefeaolfaaW.PrintMore Go.Proofs.Ytpngklefeaolfaa.Small
open Bool renaming true → T, false → F
attribute [local go_sem] max2_int min2_int max_two min_two max_three min_three max_four min_four   -- for this text's walks alone
set_option linter.unusedVariables false
set_option linter.unusedSimpArgs false

/-! ### spec_l19Ok: function 41, by hand -/
theorem RigAt.begin {w1 w2 : World} {g : Nat} (hb : w2.heap[g]? = some (.cells #[.slice none 0 0, .slice none 0 0, .slice none 0 0] 32 (0, 0))) (hg : w1.heap.size ≤ g) (hB : Below w1.heap.size w1 w2) :
  RigAt w1 (((w2.setCell ⟨g, 0, none⟩ (.slice none 0 0)).setCell ⟨g, 1, none⟩ (.slice none 0 0)).setCell ⟨g, 2, none⟩ (.slice none 0 0)) g (.slice none 0 0) (.slice none 0 0) (.slice none 0 0) [] [] [] :=
 ⟨blk_put (blk_put (blk_put hb 0 _ rfl) 1 _ rfl) 2 _ rfl, hg, Kd.R_nil _ _ _ _ _, Kd.R_nil _ _ _ _ _, Kd.R_nil _ _ _ _ _, ((hB.setCell hg _).setCell hg _).setCell hg _⟩
theorem RigAt.late {w0 W w : World} {g gr : Nat} {v1 v2 v3 : Value} {R : List S69} {L : List ByteArray} {B : List S40} (h : RigAt w0 W g v1 v2 v3 R L B) (hb : Below W.heap.size W w) (hg : W.heap.size ≤ gr) (a b c : Value) :
  RigAt w0 (((w.setCell ⟨gr, 0, none⟩ a).setCell ⟨gr, 1, none⟩ b).setCell ⟨gr, 2, none⟩ c) g v1 v2 v3 R L B := h.later (((hb.setCell hg _).setCell hg _).setCell hg _)
theorem take_more {α : Type} (l : List α) (i : Nat) (x : α) (e : l[i]? = some x) : addTo 0 (l.take i) x = l.take (i + 1) := by rw [addTo_zero, List.take_add_one, e]; rfl
theorem take_len {α : Type} (l : List α) (i n : Nat) (h : i ≤ n) : (l.take i).length ≤ n := by rw [List.length_take]; omega
theorem take_full {α : Type} (l : List α) (i : Nat) (h : i < l.length) : (l.take i).length = i := by rw [List.length_take]; omega
def spec_l19Ok.l2 : Nat → List (S69) → List ByteArray → List (S40) → Int → Option (Bool)
 | 0, _, _, _, _ => none
 | k + 1, x0, x1, x2, x3 => if x3 < (x2.length : Int) then (if 0 ≤ x3 then ((spec_l19AddBelay.f k x0 x1 (x2.take x3.toNat) ((rd_T40 x2 x3).f0) ((rd_T40 x2 x3).f1) ((rd_T40 x2 x3).f2)).bind fun t1 => (if t1 = 0 then (spec_l19Ok.l2 k x0 x1 x2 (wrap64 (x3 + 1))) else (some false))) else (none)) else (some true)
def spec_l19Ok.l1 : Nat → List (S69) → List ByteArray → List (S40) → Int → Option (Bool)
 | 0, _, _, _, _ => none
 | k + 1, x0, x1, x2, x3 => if x3 < (x1.length : Int) then (if 0 ≤ x3 then ((spec_l19AddLine.f k x0 (x1.take x3.toNat) [] (rdOf ByteArray.empty x1 x3)).bind fun t1 => (if t1 = 0 then (spec_l19Ok.l1 k x0 x1 x2 (wrap64 (x3 + 1))) else (some false))) else (none)) else (spec_l19Ok.l2 k x0 x1 x2 0)
def spec_l19Ok.l0 : Nat → List (S69) → List ByteArray → List (S40) → Int → Option (Bool)
 | 0, _, _, _, _ => none
 | k + 1, x0, x1, x2, x3 => if x3 < (x0.length : Int) then (if 0 ≤ x3 then ((spec_l19AddRail.f k (x0.take x3.toNat) [] [] ((rd_T69 x0 x3).f0) ((rd_T69 x0 x3).f1) ((rd_T69 x0 x3).f2)).bind fun t1 => (if t1 = 0 then (spec_l19Ok.l0 k x0 x1 x2 (wrap64 (x3 + 1))) else (some false))) else (none)) else (spec_l19Ok.l1 k x0 x1 x2 0)
theorem spec_l19Ok.mono_l : ∀ k, (∀ y0 y1 y2 y3, LeO (spec_l19Ok.l2 k y0 y1 y2 y3) (spec_l19Ok.l2 (k + 1) y0 y1 y2 y3)) ∧ (∀ y0 y1 y2 y3, LeO (spec_l19Ok.l1 k y0 y1 y2 y3) (spec_l19Ok.l1 (k + 1) y0 y1 y2 y3)) ∧ (∀ y0 y1 y2 y3, LeO (spec_l19Ok.l0 k y0 y1 y2 y3) (spec_l19Ok.l0 (k + 1) y0 y1 y2 y3))
 | 0 => ⟨fun _ _ _ _ r h => by simp [spec_l19Ok.l2] at h, fun _ _ _ _ r h => by simp [spec_l19Ok.l1] at h, fun _ _ _ _ r h => by simp [spec_l19Ok.l0] at h⟩
 | k + 1 => by
  obtain ⟨ih2, ih1, ih0⟩ := spec_l19Ok.mono_l k
  refine ⟨?_, ?_, ?_⟩
  ·intro y0 y1 y2 y3
   unfold spec_l19Ok.l2
   repeat' first
    | (with_reducible exact ih0 _ _ _ _)
    | (with_reducible exact ih1 _ _ _ _)
    | (with_reducible exact ih2 _ _ _ _)
    | (with_reducible exact spec_l19AddRail.mono _ _ _ _ _ _ _)
    | (with_reducible exact spec_l19AddLine.mono _ _ _ _ _)
    | (with_reducible exact spec_l19AddBelay.mono _ _ _ _ _ _ _)
    | (with_reducible exact LeO.refl _)
    | (with_reducible exact LeO.none _)
    | (with_reducible refine LeO.ite ?_ ?_)
    | (with_reducible refine LeO.bind ?_ (fun _ => ?_))
  ·intro y0 y1 y2 y3
   unfold spec_l19Ok.l1
   repeat' first
    | (with_reducible exact ih0 _ _ _ _)
    | (with_reducible exact ih1 _ _ _ _)
    | (with_reducible exact ih2 _ _ _ _)
    | (with_reducible exact spec_l19AddRail.mono _ _ _ _ _ _ _)
    | (with_reducible exact spec_l19AddLine.mono _ _ _ _ _)
    | (with_reducible exact spec_l19AddBelay.mono _ _ _ _ _ _ _)
    | (with_reducible exact LeO.refl _)
    | (with_reducible exact LeO.none _)
    | (with_reducible refine LeO.ite ?_ ?_)
    | (with_reducible refine LeO.bind ?_ (fun _ => ?_))
  ·intro y0 y1 y2 y3
   unfold spec_l19Ok.l0
   repeat' first
    | (with_reducible exact ih0 _ _ _ _)
    | (with_reducible exact ih1 _ _ _ _)
    | (with_reducible exact ih2 _ _ _ _)
    | (with_reducible exact spec_l19AddRail.mono _ _ _ _ _ _ _)
    | (with_reducible exact spec_l19AddLine.mono _ _ _ _ _)
    | (with_reducible exact spec_l19AddBelay.mono _ _ _ _ _ _ _)
    | (with_reducible exact LeO.refl _)
    | (with_reducible exact LeO.none _)
    | (with_reducible refine LeO.ite ?_ ?_)
    | (with_reducible refine LeO.bind ?_ (fun _ => ?_))
def spec_l19Ok.f (k : Nat) (l0 : List (S32)) : Option (Bool) := if 0 < (l0.length : Int) then (if (rd_T32 l0 0).f0.length ≤ 1048576 ∧ (rd_T32 l0 0).f1.length ≤ 1048576 ∧ (rd_T32 l0 0).f2.length ≤ 1048576 then (spec_l19Ok.l0 k (rd_T32 l0 0).f0 (rd_T32 l0 0).f1 (rd_T32 l0 0).f2 0) else (none)) else (none)
theorem spec_l19Ok.mono : ∀ a0 k, LeO (spec_l19Ok.f k a0) (spec_l19Ok.f (k + 1) a0) := by
 intro a0 k
 unfold spec_l19Ok.f
 obtain ⟨ih2, ih1, ih0⟩ := spec_l19Ok.mono_l k
 exact LeO.ite (LeO.ite (ih0 _ _ _ _) (LeO.none _)) (LeO.none _)
theorem RigAt.begin2 {w0 w2 : World} {g : Nat} {v1 v2 v3 : Value} (hb : w2.heap[g]? = some (.cells #[.slice none 0 0, .slice none 0 0, .slice none 0 0] 32 (0, 0))) (hg : w0.heap.size ≤ g) (hB : Below w0.heap.size w0 w2)
  (h1 : Kd.R k69 69 w2 w0.heap.size (fun _ => True) v1 []) (h2 : Kd.R Kd.string 9 w2 w0.heap.size (fun _ => True) v2 []) (h3 : Kd.R k40 40 w2 w0.heap.size (fun _ => True) v3 []) :
  RigAt w0 (((w2.setCell ⟨g, 0, none⟩ v1).setCell ⟨g, 1, none⟩ v2).setCell ⟨g, 2, none⟩ v3) g v1 v2 v3 [] [] [] := by
 have b1 := blk_put hb 0 v1 rfl
 have b2 := blk_put b1 1 v2 rfl
 refine ⟨blk_put b2 2 v3 rfl, hg, ?_, ?_, ?_, ((hB.setCell hg _).setCell hg _).setCell hg _⟩
 ·exact Kd.R_set (Kd.R_set (Kd.R_set h1 hb (by decide) 0 v1) b1 (by decide) 1 v2) b2 (by decide) 2 v3
 ·exact Kd.R_set (Kd.R_set (Kd.R_set h2 hb (by decide) 0 v1) b1 (by decide) 1 v2) b2 (by decide) 2 v3
 ·exact Kd.R_set (Kd.R_set (Kd.R_set h3 hb (by decide) 0 v1) b1 (by decide) 1 v2) b2 (by decide) 2 v3
set_option maxHeartbeats 8000000 in
set_option maxRecDepth 100000 in
theorem spec_l19Ok.calls (k : Nat) (A0 : Option Addr) (c0 : Nat) (l0 : List (S32)) (r : Bool) (w : World) (hr0 : Kd.C k32 w A0 l0.length l0) (hc0 : l0.length ≤ c0) (h : spec_l19Ok.f k l0 = some r) :
  Calls Try.prog 41 #[.pointer A0] w fun e w' => e = .returned (.bool r) ∧ Below w.heap.size w w' := by
 unfold spec_l19Ok.f at h
 by_cases h0 : 0 < (l0.length : Int)
 ·rw [if_pos h0] at h
  obtain ⟨ap, Ap0, cp0, Ap1, cp1, Ap2, cp2, ep, hp0, hp1, hp2, hl0, hi0, hl1, hi1, hl2, hi2⟩ := at_T32 hr0 0 (by omega) h0
  cases ep
  generalize rd_T32 l0 0 = x at h hp0 hp1 hp2 hi0 hi1 hi2
  clear hr0 hc0 hl0 hl1 hl2 h0
  obtain ⟨l0_0, l0_1, l0_2⟩ := x
  dsimp only at h hp0 hp1 hp2 hi0 hi1 hi2
  rw [show ((0 : Int)).toNat = 0 from rfl, show 0 * 3 = 0 from rfl, Addr.add_zero'] at hp0 hp1 hp2
  by_cases hlb : l0_0.length ≤ 1048576 ∧ l0_1.length ≤ 1048576 ∧ l0_2.length ≤ 1048576
  ·rw [if_pos hlb] at h
   have H' := Aside0.mk h
   have HLN := Aside0.mk hlb
   have HR0 := Aside0.mk hi0
   have HR1 := Aside0.mk hi1
   have HR2 := Aside0.mk hi2
   have RP0 := Aside0.mk hp0
   have RP1 := Aside0.mk hp1
   have RP2 := Aside0.mk hp2
   clear h hlb hi0 hi1 hi2 hp0 hp1 hp2
   have HB1 := Aside0.mk (Below.refl w.heap.size w)
   go_enter Try.func41, Try.ntmps41
   go_wp2_with (first | (go_at_call 70; (with_reducible refine (spec_l19Empty.calls [] [] [] _ rfl).mono ?_); rintro e w2 ⟨u1, u2, u3, rfl, k1, k2, k3, hb⟩; obtain ⟨a1, d1, rfl⟩ := Kd.R_slice k1; obtain ⟨a2, d2, rfl⟩ := Kd.R_slice k2; obtain ⟨a3, d3, rfl⟩ := Kd.R_slice k3; rw [List.length_nil] at k1 k2 k3 ⊢; have K1 := Aside0.mk k1; have K2 := Aside0.mk k2; have K3 := Aside0.mk k3; have HB2 := Aside0.mk hb; clear k1 k2 k3 hb) | ((with_reducible refine gate_dst (N := 3) rfl ?_); refine box_event ?hg (N := 3) ?hd (cs := #[.slice none 0 0, .slice none 0 0, .slice none 0 0]) (t := 32) ?hr ?_; (case hd => rfl); (case hg => rfl); (case hr => first | (go_simp; done) | (go_simp; rfl)); intro gy hg w3 hbox hb; have n0_ := Aside0.mk (Kd.R_below K1.out hb); have n1_ := Aside0.mk (Kd.R_below K2.out hb); have n2_ := Aside0.mk (Kd.R_below K3.out hb); have n3_ := pS HB2 hb; have n4_ := pG HB2 hg; have n5_ := Aside0.mk hbox; clear K1 K2 K3 hbox hb hg; have K1 := n0_; have K2 := n1_; have K3 := n2_; have HBY := n3_; have GY := n4_; have BY := n5_; clear n0_ n1_ n2_ n3_ n4_ n5_; obtain ⟨hz0, hz1, hz2, hw0, hw1, hw2⟩ := cz3 BY))
   have HI := Aside0.mk (RigAt.begin2 BY.out GY.out HBY.out K1.out K2.out K3.out)
   clear BY K1 K2 K3 HBY HB2 hz0 hz1 hz2 hw0 hw1 hw2
   go_loopg [4] k (fun kq vi w' => ∃ (i0 : Nat) (v1 : Value), vi = .int .i64 i0 ∧ i0 ≤ l0_0.length ∧ Aside0 (spec_l19Ok.l0 kq l0_0 l0_1 l0_2 i0 = some r) ∧ Aside0 (kq ≤ k) ∧ Aside0 (RigAt w w' gy v1 (.slice a2 0 d2) (.slice a3 0 d3) (l0_0.take i0) [] []) ∧ Aside0 (i0 ≤ 10))
   case atStart => exact ⟨0, _, rfl, Nat.zero_le _, H', ⟨Nat.le_refl _⟩, HI, ⟨by omega⟩⟩
   case round =>
    clear H' HI
    obtain ⟨i0, v1, rfl, hil, HA, HK1, HI, HN⟩ := hrel
    cases gk with
    | zero => exact absurd HA.out (by simp [spec_l19Ok.l0])
    | succ k1 =>
     have H := HA.out
     clear HA
     simp only [spec_l19Ok.l0] at H
     have HBW := Aside0.mk (below_step HB1.out HI.out.below)
     have hp0 := bC HBW RP0.out
     have hp1 := bC HBW RP1.out
     have hp2 := bC HBW RP2.out
     by_cases hlt : (i0 : Int) < (l0_0.length : Int)
     ·rw [if_pos hlt, if_pos (Int.natCast_nonneg i0)] at H
      obtain ⟨t1, A1, H⟩ := Option.bind_eq_some_iff.mp H
      replace H : (if t1 = 0 then (spec_l19Ok.l0 k1 l0_0 l0_1 l0_2 (wrap64 ((i0 : Int) + 1))) else (some false)) = some r := H
      try rw [Int.toNat_natCast] at A1
      have hlt2 : i0 < l0_0.length := by omega
      have hb0 : decide ((i0 : Int) < (l0_0.length : Int)) = true := decide_eq_true hlt
      have hb1 : decide (i0 < l0_0.length) = true := decide_eq_true hlt2
      have hn0 : 0 ≤ (i0 : Int) := Int.natCast_nonneg i0
      have hn1 : (i0 : Int) ≤ 1048576 := by have := HLN.out.1; have := HLN.out.2.1; have := HLN.out.2.2; omega
      obtain ⟨ad, e0, hx0, hx1, hx2⟩ := at_T69 HR0.out (i0 : Int) hn0 hlt
      cases e0
      replace hx0 := bC HBW hx0
      replace hx1 := bC HBW hx1
      replace hx2 := bC HBW hx2
      have ey : l0_0[i0]? = some (rd_T69 l0_0 (i0 : Int)) := by simp [rd_T69, hlt2]
      generalize rd_T69 l0_0 (i0 : Int) = y at hx0 hx1 hx2 A1 ey
      rw [Int.toNat_natCast] at hx0 hx1 hx2
      have EY := Aside0.mk ey
      have TA := Aside0.mk A1
      have LT := Aside0.mk hlt2
      clear ey A1 hlt2
      by_cases ht : t1 = 0
      ·subst ht
       rw [if_pos rfl] at H
       rw [show wrap64 ((i0 : Int) + 1) = ((i0 + 1 : Nat) : Int) from by unfold wrap64; have := LT.out; have := HLN.out.1; have := HLN.out.2.1; have := HLN.out.2.2; omega] at H
       have H' := Aside0.mk H
       clear H
       go_wp2_with (first | (go_at_call 71; have n0_ := spec_l19AddRail.at k1 w _ gy v1 _ _ _ _ _ y _ HI.out (take_len _ _ _ HN.out) TA.out; (with_reducible refine n0_.2.mono ?_); rintro e w4 ⟨v1', rfl, hi⟩; have HG := Aside0.mk n0_.1; clear n0_ hx0 hx1 hx2 hp0 hp1 hp2 HI; have HI := Aside0.mk hi; clear hi))
       go_roundg k1
       case measure => have := HK1.out; omega
       case rel => exact ⟨i0 + 1, _, by go_num, LT.out, H', ⟨by have := HK1.out; omega⟩, ⟨by rw [← take_more l0_0 i0 y EY.out]; exact HI.out⟩, ⟨by have := HG.out (by first | rfl | trivial); rwa [take_full _ _ LT.out] at this⟩⟩
      ·rw [if_neg ht] at H
       obtain rfl := Option.some.inj H
       clear H
       have hb2 : (t1 != 0) = true := by simpa using ht
       have HT := Aside0.mk ht
       clear ht
       go_wp2_with (first | (go_at_call 71; have n0_ := spec_l19AddRail.at k1 w _ gy v1 _ _ _ _ _ y _ HI.out (take_len _ _ _ HN.out) TA.out; (with_reducible refine n0_.2.mono ?_); rintro e w4 ⟨v1', rfl, hi⟩; have HG := Aside0.mk n0_.1; clear n0_ hx0 hx1 hx2 hp0 hp1 hp2 HI; have HI := Aside0.mk hi; clear hi))
       go_ret
       exact ⟨rfl, below_step HB1.out HI.out.below⟩
     ·rw [if_neg hlt] at H
      have hb0 : decide ((i0 : Int) < (l0_0.length : Int)) = false := decide_eq_false hlt
      have hb1 : decide (i0 < l0_0.length) = false := decide_eq_false (by omega)
      have hil2 : i0 = l0_0.length := by omega
      have H' := Aside0.mk H
      have n0_ := HI.out
      rw [hil2, List.take_length] at n0_
      have HIL := Aside0.mk hil2
      clear H HI hil2 hil hlt
      have HI := Aside0.mk n0_
      clear n0_

      go_wp2
      clear hp0 hp1 hp2
      obtain ⟨wo0, hwo⟩ : ∃ wo : World, wo = wr := ⟨_, rfl⟩
      subst hwo
      go_loopg [5] k1 (fun kq vi w' => ∃ (i1 : Nat) (v2 : Value), vi = .int .i64 i1 ∧ i1 ≤ l0_1.length ∧ Aside0 (spec_l19Ok.l1 kq l0_0 l0_1 l0_2 i1 = some r) ∧ Aside0 (kq ≤ k1) ∧ Aside0 (RigAt w w' gy v1 v2 (.slice a3 0 d3) l0_0 (l0_1.take i1) []) ∧ Aside0 (i1 ≤ 60))
      case atStart => exact ⟨0, _, rfl, Nat.zero_le _, H', ⟨Nat.le_refl _⟩, HI, ⟨by omega⟩⟩
      case round =>
       clear H' HI
       obtain ⟨i1, v2, rfl, hil, HA, HK1, HI, HN⟩ := hrel
       cases gk with
       | zero => exact absurd HA.out (by simp [spec_l19Ok.l1])
       | succ k2 =>
        have H := HA.out
        clear HA
        simp only [spec_l19Ok.l1] at H
        have HBW := Aside0.mk (below_step HB1.out HI.out.below)
        have hp0 := bC HBW RP0.out
        have hp1 := bC HBW RP1.out
        have hp2 := bC HBW RP2.out
        by_cases hlt : (i1 : Int) < (l0_1.length : Int)
        ·rw [if_pos hlt, if_pos (Int.natCast_nonneg i1)] at H
         obtain ⟨t1, A1, H⟩ := Option.bind_eq_some_iff.mp H
         replace H : (if t1 = 0 then (spec_l19Ok.l1 k2 l0_0 l0_1 l0_2 (wrap64 ((i1 : Int) + 1))) else (some false)) = some r := H
         try rw [Int.toNat_natCast] at A1
         have hlt2 : i1 < l0_1.length := by omega
         have hb0 : decide ((i1 : Int) < (l0_1.length : Int)) = true := decide_eq_true hlt
         have hb1 : decide (i1 < l0_1.length) = true := decide_eq_true hlt2
         have hn0 : 0 ≤ (i1 : Int) := Int.natCast_nonneg i1
         have hn1 : (i1 : Int) ≤ 1048576 := by have := HLN.out.1; have := HLN.out.2.1; have := HLN.out.2.2; omega
         obtain ⟨ad, e0, hx0⟩ := Kd.at_string HR1.out (i1 : Int) hn0 hlt
         cases e0
         replace hx0 := bC HBW hx0
         have ey : l0_1[i1]? = some (rdOf ByteArray.empty l0_1 (i1 : Int)) := by simp [rdOf, hlt2]
         generalize rdOf ByteArray.empty l0_1 (i1 : Int) = y at hx0 A1 ey
         rw [Int.toNat_natCast] at hx0
         have EY := Aside0.mk ey
         have TA := Aside0.mk A1
         have LT := Aside0.mk hlt2
         clear ey A1 hlt2
         by_cases ht : t1 = 0
         ·subst ht
          rw [if_pos rfl] at H
          rw [show wrap64 ((i1 : Int) + 1) = ((i1 + 1 : Nat) : Int) from by unfold wrap64; have := LT.out; have := HLN.out.1; have := HLN.out.2.1; have := HLN.out.2.2; omega] at H
          have H' := Aside0.mk H
          clear H
          go_wp2_with (first | (go_at_call 72; have n0_ := spec_l19AddLine.at k2 w _ gy v1 v2 _ _ _ _ y _ HI.out (take_len _ _ _ HN.out) TA.out; (with_reducible refine n0_.2.mono ?_); rintro e w4 ⟨v2', rfl, hi⟩; have HG := Aside0.mk n0_.1; clear n0_ hx0 hp0 hp1 hp2 HI; have HI := Aside0.mk hi; clear hi))
          go_roundg k2
          case measure => have := HK1.out; omega
          case rel => exact ⟨i1 + 1, _, by go_num, LT.out, H', ⟨by have := HK1.out; omega⟩, ⟨by rw [← take_more l0_1 i1 y EY.out]; exact HI.out⟩, ⟨by have := HG.out (by first | rfl | trivial); rwa [take_full _ _ LT.out] at this⟩⟩
         ·rw [if_neg ht] at H
          obtain rfl := Option.some.inj H
          clear H
          have hb2 : (t1 != 0) = true := by simpa using ht
          have HT := Aside0.mk ht
          clear ht
          go_wp2_with (first | (go_at_call 72; have n0_ := spec_l19AddLine.at k2 w _ gy v1 v2 _ _ _ _ y _ HI.out (take_len _ _ _ HN.out) TA.out; (with_reducible refine n0_.2.mono ?_); rintro e w4 ⟨v2', rfl, hi⟩; have HG := Aside0.mk n0_.1; clear n0_ hx0 hp0 hp1 hp2 HI; have HI := Aside0.mk hi; clear hi))
          go_ret
          exact ⟨rfl, below_step HB1.out HI.out.below⟩
        ·rw [if_neg hlt] at H
         have hb0 : decide ((i1 : Int) < (l0_1.length : Int)) = false := decide_eq_false hlt
         have hb1 : decide (i1 < l0_1.length) = false := decide_eq_false (by omega)
         have hil2 : i1 = l0_1.length := by omega
         have H' := Aside0.mk H
         have n0_ := HI.out
         rw [hil2, List.take_length] at n0_
         have HIL := Aside0.mk hil2
         clear H HI hil2 hil hlt
         have HI := Aside0.mk n0_
         clear n0_

         go_wp2
         clear hp0 hp1 hp2
         obtain ⟨wo1, hwo⟩ : ∃ wo : World, wo = wr := ⟨_, rfl⟩
         subst hwo
         go_loopg [6] k2 (fun kq vi w' => ∃ (i2 : Nat) (v3 : Value), vi = .int .i64 i2 ∧ i2 ≤ l0_2.length ∧ Aside0 (spec_l19Ok.l2 kq l0_0 l0_1 l0_2 i2 = some r) ∧ Aside0 (kq ≤ k2) ∧ Aside0 (RigAt w w' gy v1 v2 v3 l0_0 l0_1 (l0_2.take i2)))
         case atStart => exact ⟨0, _, rfl, Nat.zero_le _, H', ⟨Nat.le_refl _⟩, HI⟩
         case round =>
          clear H' HI
          obtain ⟨i2, v3, rfl, hil, HA, HK1, HI⟩ := hrel
          cases gk with
          | zero => exact absurd HA.out (by simp [spec_l19Ok.l2])
          | succ k3 =>
           have H := HA.out
           clear HA
           simp only [spec_l19Ok.l2] at H
           have HBW := Aside0.mk (below_step HB1.out HI.out.below)
           have hp0 := bC HBW RP0.out
           have hp1 := bC HBW RP1.out
           have hp2 := bC HBW RP2.out
           by_cases hlt : (i2 : Int) < (l0_2.length : Int)
           ·rw [if_pos hlt, if_pos (Int.natCast_nonneg i2)] at H
            obtain ⟨t1, A1, H⟩ := Option.bind_eq_some_iff.mp H
            replace H : (if t1 = 0 then (spec_l19Ok.l2 k3 l0_0 l0_1 l0_2 (wrap64 ((i2 : Int) + 1))) else (some false)) = some r := H
            try rw [Int.toNat_natCast] at A1
            have hlt2 : i2 < l0_2.length := by omega
            have hb0 : decide ((i2 : Int) < (l0_2.length : Int)) = true := decide_eq_true hlt
            have hb1 : decide (i2 < l0_2.length) = true := decide_eq_true hlt2
            have hn0 : 0 ≤ (i2 : Int) := Int.natCast_nonneg i2
            have hn1 : (i2 : Int) ≤ 1048576 := by have := HLN.out.1; have := HLN.out.2.1; have := HLN.out.2.2; omega
            obtain ⟨ad, e0, hx0, hx1, hx2⟩ := at_T40 HR2.out (i2 : Int) hn0 hlt
            cases e0
            replace hx0 := bC HBW hx0
            replace hx1 := bC HBW hx1
            replace hx2 := bC HBW hx2
            have ey : l0_2[i2]? = some (rd_T40 l0_2 (i2 : Int)) := by simp [rd_T40, hlt2]
            generalize rd_T40 l0_2 (i2 : Int) = y at hx0 hx1 hx2 A1 ey
            rw [Int.toNat_natCast] at hx0 hx1 hx2
            have EY := Aside0.mk ey
            have TA := Aside0.mk A1
            have LT := Aside0.mk hlt2
            clear ey A1 hlt2
            by_cases ht : t1 = 0
            ·subst ht
             rw [if_pos rfl] at H
             rw [show wrap64 ((i2 : Int) + 1) = ((i2 + 1 : Nat) : Int) from by unfold wrap64; have := LT.out; have := HLN.out.1; have := HLN.out.2.1; have := HLN.out.2.2; omega] at H
             have H' := Aside0.mk H
             clear H
             go_wp2_with (first | (go_at_call 73; (with_reducible refine (spec_l19AddBelay.at k3 w _ gy v1 v2 v3 _ _ _ y _ HI.out (take_len _ _ _ (by have := HLN.out.2.2; have := LT.out; omega)) TA.out).mono ?_); rintro e w4 ⟨v3', rfl, hi⟩; clear hx0 hx1 hx2 hp0 hp1 hp2 HI; have HI := Aside0.mk hi; clear hi))
             go_roundg k3
             case measure => have := HK1.out; omega
             case rel => exact ⟨i2 + 1, _, by go_num, LT.out, H', ⟨by have := HK1.out; omega⟩, ⟨by rw [← take_more l0_2 i2 y EY.out]; exact HI.out⟩⟩
            ·rw [if_neg ht] at H
             obtain rfl := Option.some.inj H
             clear H
             have hb2 : (t1 != 0) = true := by simpa using ht
             have HT := Aside0.mk ht
             clear ht
             go_wp2_with (first | (go_at_call 73; (with_reducible refine (spec_l19AddBelay.at k3 w _ gy v1 v2 v3 _ _ _ y _ HI.out (take_len _ _ _ (by have := HLN.out.2.2; have := LT.out; omega)) TA.out).mono ?_); rintro e w4 ⟨v3', rfl, hi⟩; clear hx0 hx1 hx2 hp0 hp1 hp2 HI; have HI := Aside0.mk hi; clear hi))
             go_ret
             exact ⟨rfl, below_step HB1.out HI.out.below⟩
           ·rw [if_neg hlt] at H
            have hb0 : decide ((i2 : Int) < (l0_2.length : Int)) = false := decide_eq_false hlt
            have hb1 : decide (i2 < l0_2.length) = false := decide_eq_false (by omega)
            have hil2 : i2 = l0_2.length := by omega
            clear hil2
            obtain rfl := Option.some.inj H
            go_wp2
            go_ret
            exact ⟨rfl, below_step HB1.out HI.out.below⟩
  ·rw [if_neg hlb] at h
   cases h
 ·rw [if_neg h0] at h
  cases h

end Go.Proofs.Ytpngklefeaolfaa.PFnExactWrongSides
