-- Written by a program of this session (wip/tools/pp.sh).
import Derived.Test.YtpngklefeaolfaaPFnExactLineAtx0
import Derived.Test.YtpngklefeaolfaaPFnExactLineAtx1
import Derived.Test.YtpngklefeaolfaaPFnExactLineAtx2
import Derived.Test.YtpngklefeaolfaaPFnExactLineAtx3
import Derived.Test.YtpngklefeaolfaaPFnExactLineAtx4
import Derived.Test.YtpngklefeaolfaaPFnExactLineAtx6
import Derived.Test.YtpngklefeaolfaaPFnExactLineAtx7
import Derived.Test.YtpngklefeaolfaaPFnExactLineAtx8
namespace Go.Proofs.Ytpngklefeaolfaa.PFnExactLineAt
open Go.RowKit Go.Proofs.YtpngklefeaolfaaW.PrintWords Go.Proofs.YtpngklefeaolfaaW.PrintLast Go.Proofs.YtpngklefeaolfaaW.PrintMore Go.Proofs.Ytpngklefeaolfaa.Small
open Bool renaming true → T, false → F
attribute [local go_sem] max2_int min2_int max_two min_two max_three min_three max_four min_four   -- for this text's walks alone
set_option linter.unusedVariables false
set_option linter.unusedSimpArgs false

/-! ### impl_ValidRig: function 13, by hand -/
def impl_ValidRig.l2 : Nat → List (S69) → List ByteArray → List (S40) → Int → Option (Bool)
 | 0, _, _, _, _ => none
 | k + 1, x0, x1, x2, x3 => if x3 < (x2.length : Int) then (if 0 ≤ x3 then ((impl_addBelay.f k x0 x1 (x2.take x3.toNat) ((rd_T40 x2 x3).f0) ((rd_T40 x2 x3).f1) ((rd_T40 x2 x3).f2)).bind fun t1 => (if t1 = 0 then (impl_ValidRig.l2 k x0 x1 x2 (wrap64 (x3 + 1))) else (some false))) else (none)) else (some true)
def impl_ValidRig.l1 : Nat → List (S69) → List ByteArray → List (S40) → Int → Option (Bool)
 | 0, _, _, _, _ => none
 | k + 1, x0, x1, x2, x3 => if x3 < (x1.length : Int) then (if 0 ≤ x3 then ((impl_addLine.f k (x1.take x3.toNat) (rdOf ByteArray.empty x1 x3)).bind fun t1 => (if t1 = 0 then (impl_ValidRig.l1 k x0 x1 x2 (wrap64 (x3 + 1))) else (some false))) else (none)) else (impl_ValidRig.l2 k x0 x1 x2 0)
def impl_ValidRig.l0 : Nat → List (S69) → List ByteArray → List (S40) → Int → Option (Bool)
 | 0, _, _, _, _ => none
 | k + 1, x0, x1, x2, x3 => if x3 < (x0.length : Int) then (if 0 ≤ x3 then ((impl_addRail.f k (x0.take x3.toNat) ((rd_T69 x0 x3).f0) ((rd_T69 x0 x3).f1) ((rd_T69 x0 x3).f2)).bind fun t1 => (if t1 = 0 then (impl_ValidRig.l0 k x0 x1 x2 (wrap64 (x3 + 1))) else (some false))) else (none)) else (impl_ValidRig.l1 k x0 x1 x2 0)
theorem impl_ValidRig.mono_l : ∀ k, (∀ y0 y1 y2 y3, LeO (impl_ValidRig.l2 k y0 y1 y2 y3) (impl_ValidRig.l2 (k + 1) y0 y1 y2 y3)) ∧ (∀ y0 y1 y2 y3, LeO (impl_ValidRig.l1 k y0 y1 y2 y3) (impl_ValidRig.l1 (k + 1) y0 y1 y2 y3)) ∧ (∀ y0 y1 y2 y3, LeO (impl_ValidRig.l0 k y0 y1 y2 y3) (impl_ValidRig.l0 (k + 1) y0 y1 y2 y3))
 | 0 => ⟨fun _ _ _ _ r h => by simp [impl_ValidRig.l2] at h, fun _ _ _ _ r h => by simp [impl_ValidRig.l1] at h, fun _ _ _ _ r h => by simp [impl_ValidRig.l0] at h⟩
 | k + 1 => by
  obtain ⟨ih2, ih1, ih0⟩ := impl_ValidRig.mono_l k
  refine ⟨?_, ?_, ?_⟩
  ·intro y0 y1 y2 y3
   unfold impl_ValidRig.l2
   repeat' first
    | (with_reducible exact ih0 _ _ _ _)
    | (with_reducible exact ih1 _ _ _ _)
    | (with_reducible exact ih2 _ _ _ _)
    | (with_reducible exact impl_addRail.mono _ _ _ _ _)
    | (with_reducible exact impl_addLine.mono _ _ _)
    | (with_reducible exact impl_addBelay.mono _ _ _ _ _ _ _)
    | (with_reducible exact LeO.refl _)
    | (with_reducible exact LeO.none _)
    | (with_reducible refine LeO.ite ?_ ?_)
    | (with_reducible refine LeO.bind ?_ (fun _ => ?_))
  ·intro y0 y1 y2 y3
   unfold impl_ValidRig.l1
   repeat' first
    | (with_reducible exact ih0 _ _ _ _)
    | (with_reducible exact ih1 _ _ _ _)
    | (with_reducible exact ih2 _ _ _ _)
    | (with_reducible exact impl_addRail.mono _ _ _ _ _)
    | (with_reducible exact impl_addLine.mono _ _ _)
    | (with_reducible exact impl_addBelay.mono _ _ _ _ _ _ _)
    | (with_reducible exact LeO.refl _)
    | (with_reducible exact LeO.none _)
    | (with_reducible refine LeO.ite ?_ ?_)
    | (with_reducible refine LeO.bind ?_ (fun _ => ?_))
  ·intro y0 y1 y2 y3
   unfold impl_ValidRig.l0
   repeat' first
    | (with_reducible exact ih0 _ _ _ _)
    | (with_reducible exact ih1 _ _ _ _)
    | (with_reducible exact ih2 _ _ _ _)
    | (with_reducible exact impl_addRail.mono _ _ _ _ _)
    | (with_reducible exact impl_addLine.mono _ _ _)
    | (with_reducible exact impl_addBelay.mono _ _ _ _ _ _ _)
    | (with_reducible exact LeO.refl _)
    | (with_reducible exact LeO.none _)
    | (with_reducible refine LeO.ite ?_ ?_)
    | (with_reducible refine LeO.bind ?_ (fun _ => ?_))
def impl_ValidRig.f (k : Nat) (l0_0 : List (S69)) (l0_1 : List ByteArray) (l0_2 : List (S40)) : Option (Bool) := if l0_0.length ≤ 1048576 ∧ l0_1.length ≤ 1048576 ∧ l0_2.length ≤ 1048576 then (impl_ValidRig.l0 k l0_0 l0_1 l0_2 0) else (none)
theorem impl_ValidRig.mono : ∀ a0 a1 a2 k, LeO (impl_ValidRig.f k a0 a1 a2) (impl_ValidRig.f (k + 1) a0 a1 a2) := by
 intro a0 a1 a2 k
 unfold impl_ValidRig.f
 obtain ⟨ih2, ih1, ih0⟩ := impl_ValidRig.mono_l k
 exact LeO.ite (ih0 _ _ _ _) (LeO.none _)
set_option maxHeartbeats 8000000 in
set_option maxRecDepth 100000 in
theorem impl_ValidRig.calls (k : Nat) (A0_0 : Option Addr) (c0_0 : Nat) (l0_0 : List (S69)) (A0_1 : Option Addr) (c0_1 : Nat) (l0_1 : List ByteArray) (A0_2 : Option Addr) (c0_2 : Nat) (l0_2 : List (S40)) (r : Bool) (w : World) (hr0_0 : Kd.C k69 w A0_0 l0_0.length l0_0) (hc0_0 : l0_0.length ≤ c0_0) (hr0_1 : Kd.C Kd.string w A0_1 l0_1.length l0_1) (hc0_1 : l0_1.length ≤ c0_1) (hr0_2 : Kd.C k40 w A0_2 l0_2.length l0_2) (hc0_2 : l0_2.length ≤ c0_2) (h : impl_ValidRig.f k l0_0 l0_1 l0_2 = some r) :
  Calls Try.prog 13 #[.agg #[.slice A0_0 l0_0.length c0_0, .slice A0_1 l0_1.length c0_1, .slice A0_2 l0_2.length c0_2]] w fun e w' => e = .returned (.bool r) ∧ Below w.heap.size w w' := by
 unfold impl_ValidRig.f at h
 by_cases hlb : l0_0.length ≤ 1048576 ∧ l0_1.length ≤ 1048576 ∧ l0_2.length ≤ 1048576
 ·rw [if_pos hlb] at h
  have H' := Aside0.mk h
  have HLN := Aside0.mk hlb
  have HR0 := Aside0.mk hr0_0
  have HR1 := Aside0.mk hr0_1
  have HR2 := Aside0.mk hr0_2
  clear h hlb hr0_0 hr0_1 hr0_2 hc0_0 hc0_1 hc0_2
  have HB := Aside0.mk (Below.refl w.heap.size w)
  go_enter Try.func13, Try.ntmps13
  go_wp2_with (first | ((with_reducible refine gate_dst (N := 1) rfl ?_); refine box_event ?hg (N := 1) ?hd (cs := #[.slice A0_0 l0_0.length c0_0, .slice A0_1 l0_1.length c0_1, .slice A0_2 l0_2.length c0_2]) (t := 32) ?hr ?_; (case hd => rfl); (case hg => rfl); (case hr => first | (go_simp; done) | (go_simp; rfl)); intro gx hg w1 hbox hb; have n0_ := pS HB hb; have n1_ := Aside0.mk hbox; clear HB hbox hb hg; have HB1 := n0_; have BX := n1_; have BX1 := n1_; clear n0_ n1_; obtain ⟨hx0, hx1, hx2, hy0, hy1, hy2⟩ := cz3 BX) | ((with_reducible refine gate_dst (N := 3) rfl ?_); refine box_event ?hg (N := 3) ?hd (cs := #[.slice none 0 0, .slice none 0 0, .slice none 0 0]) (t := 32) ?hr ?_; (case hd => rfl); (case hg => rfl); (case hr => first | (go_simp; done) | (go_simp; rfl)); intro gy hg w2 hbox hb; have HBY := Aside0.mk hb; have GY := Aside0.mk (Nat.le_of_eq hg.symm); have n1_ := Aside0.mk hbox; have n2_ := pB BX hb; have n3_ := pN BX hg; have n4_ := pM BX hg; clear hx0 hx1 hx2 hy0 hy1 hy2 hbox BX hb hg; have BY := n1_; have BX := n2_; have nb := n3_.out; have nc := n4_.out; clear n1_ n2_ n3_ n4_; obtain ⟨hx0, hx1, hx2, hy0, hy1, hy2⟩ := cz3 BX; obtain ⟨hz0, hz1, hz2, hw0, hw1, hw2⟩ := cz3 BY))
  have HI := Aside0.mk (RigAt.begin BY.out GY.out HBY.out)
  clear BX BY hx0 hx1 hx2 hy0 hy1 hy2 hz0 hz1 hz2 hw0 hw1 hw2 nb nc
  go_loopg [14] k (fun kq vi w' => ∃ (i0 : Nat) (v1 : Value), vi = .int .i64 i0 ∧ i0 ≤ l0_0.length ∧ Aside0 (impl_ValidRig.l0 kq l0_0 l0_1 l0_2 i0 = some r) ∧ Aside0 (kq ≤ k) ∧ Aside0 (RigAt w1 w' gy v1 (.slice none 0 0) (.slice none 0 0) (l0_0.take i0) [] []) ∧ Aside0 (i0 ≤ 10))
  case atStart => exact ⟨0, _, rfl, Nat.zero_le _, H', ⟨Nat.le_refl _⟩, HI, ⟨by omega⟩⟩
  case round =>
   clear H' HI
   obtain ⟨i0, v1, rfl, hil, HA, HK1, HI, HN⟩ := hrel
   cases gk with
   | zero => exact absurd HA.out (by simp [impl_ValidRig.l0])
   | succ k1 =>
    have H := HA.out
    clear HA
    simp only [impl_ValidRig.l0] at H
    have HBW := Aside0.mk (below_step HB1.out HI.out.below)
    by_cases hlt : (i0 : Int) < (l0_0.length : Int)
    ·rw [if_pos hlt, if_pos (Int.natCast_nonneg i0)] at H
     obtain ⟨t1, A1, H⟩ := Option.bind_eq_some_iff.mp H
     replace H : (if t1 = 0 then (impl_ValidRig.l0 k1 l0_0 l0_1 l0_2 (wrap64 ((i0 : Int) + 1))) else (some false)) = some r := H
     try rw [Int.toNat_natCast] at A1
     have hlt2 : i0 < l0_0.length := by omega
     have hb0 : decide ((i0 : Int) < (l0_0.length : Int)) = true := decide_eq_true hlt
     have hb1 : decide (i0 < l0_0.length) = true := decide_eq_true hlt2
     have hn0 : 0 ≤ (i0 : Int) := Int.natCast_nonneg i0
     have hn1 : (i0 : Int) ≤ 1048576 := by have := HLN.out.1; have := HLN.out.2.1; have := HLN.out.2.2; omega
     obtain ⟨ad, e0, hx0, hx1, hx2⟩ := at_T69 HR0.out (i0 : Int) hn0 hlt
     cases e0
     replace hx0 := bC HBW hx0
     replace hx1 := bC HBW hx1
     replace hx2 := bC HBW hx2
     have ey : l0_0[i0]? = some (rd_T69 l0_0 (i0 : Int)) := by simp [rd_T69, hlt2]
     generalize rd_T69 l0_0 (i0 : Int) = y at hx0 hx1 hx2 A1 ey
     rw [Int.toNat_natCast] at hx0 hx1 hx2
     have EY := Aside0.mk ey
     have TA := Aside0.mk A1
     have LT := Aside0.mk hlt2
     clear ey A1 hlt2
     by_cases ht : t1 = 0
     ·subst ht
      rw [if_pos rfl] at H
      rw [show wrap64 ((i0 : Int) + 1) = ((i0 + 1 : Nat) : Int) from by unfold wrap64; have := LT.out; have := HLN.out.1; have := HLN.out.2.1; have := HLN.out.2.2; omega] at H
      have H' := Aside0.mk H
      clear H
      go_wp2_with (first | ((with_reducible refine gate_dst (N := 5) rfl ?_); refine box_event ?hg (N := 5) ?hd (cs := #[.string ⟨#[]⟩, .string ⟨#[]⟩, .int .i64 0]) (t := 69) ?hr ?_; (case hd => rfl); (case hg => rfl); (case hr => first | (go_simp; done) | (go_simp; rfl)); intro gr hg w3 hbox hb; have HC := Aside0.mk hb; have GR := Aside0.mk (Nat.le_of_eq hg.symm); have BR := Aside0.mk hbox; clear hbox hb hg; obtain ⟨hr0, hr1, hr2, hs0, hs1, hs2⟩ := cz3 BR) | (go_at_call 45; have n0_ := impl_addRail.at k1 w1 _ gy v1 _ _ _ _ _ y _ (HI.out.late HC.out GR.out (.string y.f0) (.string y.f1) (.int .i64 y.f2)) (take_len _ _ _ HN.out) TA.out; (with_reducible refine n0_.2.mono ?_); rintro e w4 ⟨v1', rfl, hi⟩; have HG := Aside0.mk n0_.1; clear n0_ hr0 hr1 hr2 hs0 hs1 hs2 hx0 hx1 hx2 HC GR BR HI; have HI := Aside0.mk hi; clear hi))
      go_roundg k1
      case measure => have := HK1.out; omega
      case rel => exact ⟨i0 + 1, _, by go_num, LT.out, H', ⟨by have := HK1.out; omega⟩, ⟨by rw [← take_more l0_0 i0 y EY.out]; exact HI.out⟩, ⟨by have := HG.out (by first | rfl | trivial); rwa [take_full _ _ LT.out] at this⟩⟩
     ·rw [if_neg ht] at H
      obtain rfl := Option.some.inj H
      clear H
      have hb2 : (t1 != 0) = true := by simpa using ht
      have HT := Aside0.mk ht
      clear ht
      go_wp2_with (first | ((with_reducible refine gate_dst (N := 5) rfl ?_); refine box_event ?hg (N := 5) ?hd (cs := #[.string ⟨#[]⟩, .string ⟨#[]⟩, .int .i64 0]) (t := 69) ?hr ?_; (case hd => rfl); (case hg => rfl); (case hr => first | (go_simp; done) | (go_simp; rfl)); intro gr hg w3 hbox hb; have HC := Aside0.mk hb; have GR := Aside0.mk (Nat.le_of_eq hg.symm); have BR := Aside0.mk hbox; clear hbox hb hg; obtain ⟨hr0, hr1, hr2, hs0, hs1, hs2⟩ := cz3 BR) | (go_at_call 45; have n0_ := impl_addRail.at k1 w1 _ gy v1 _ _ _ _ _ y _ (HI.out.late HC.out GR.out (.string y.f0) (.string y.f1) (.int .i64 y.f2)) (take_len _ _ _ HN.out) TA.out; (with_reducible refine n0_.2.mono ?_); rintro e w4 ⟨v1', rfl, hi⟩; have HG := Aside0.mk n0_.1; clear n0_ hr0 hr1 hr2 hs0 hs1 hs2 hx0 hx1 hx2 HC GR BR HI; have HI := Aside0.mk hi; clear hi))
      go_ret
      exact ⟨rfl, below_step HB1.out HI.out.below⟩
    ·rw [if_neg hlt] at H
     have hb0 : decide ((i0 : Int) < (l0_0.length : Int)) = false := decide_eq_false hlt
     have hb1 : decide (i0 < l0_0.length) = false := decide_eq_false (by omega)
     have hil2 : i0 = l0_0.length := by omega
     have H' := Aside0.mk H
     have n0_ := HI.out
     rw [hil2, List.take_length] at n0_
     have HIL := Aside0.mk hil2
     clear H HI hil2 hil hlt
     have HI := Aside0.mk n0_
     clear n0_
     have BX := Aside0.mk (blk_below BX1.out HI.out.below)
     obtain ⟨hx0, hx1, hx2, hy0, hy1, hy2⟩ := cz3 BX
     clear BX
     go_wp2
     clear hx0 hx1 hx2 hy0 hy1 hy2
     obtain ⟨wo0, hwo⟩ : ∃ wo : World, wo = wr := ⟨_, rfl⟩
     subst hwo
     go_loopg [25] k1 (fun kq vi w' => ∃ (i1 : Nat) (v2 : Value), vi = .int .i64 i1 ∧ i1 ≤ l0_1.length ∧ Aside0 (impl_ValidRig.l1 kq l0_0 l0_1 l0_2 i1 = some r) ∧ Aside0 (kq ≤ k1) ∧ Aside0 (RigAt w1 w' gy v1 v2 (.slice none 0 0) l0_0 (l0_1.take i1) []) ∧ Aside0 (i1 ≤ 60))
     case atStart => exact ⟨0, _, rfl, Nat.zero_le _, H', ⟨Nat.le_refl _⟩, HI, ⟨by omega⟩⟩
     case round =>
      clear H' HI
      obtain ⟨i1, v2, rfl, hil, HA, HK1, HI, HN⟩ := hrel
      cases gk with
      | zero => exact absurd HA.out (by simp [impl_ValidRig.l1])
      | succ k2 =>
       have H := HA.out
       clear HA
       simp only [impl_ValidRig.l1] at H
       have HBW := Aside0.mk (below_step HB1.out HI.out.below)
       by_cases hlt : (i1 : Int) < (l0_1.length : Int)
       ·rw [if_pos hlt, if_pos (Int.natCast_nonneg i1)] at H
        obtain ⟨t1, A1, H⟩ := Option.bind_eq_some_iff.mp H
        replace H : (if t1 = 0 then (impl_ValidRig.l1 k2 l0_0 l0_1 l0_2 (wrap64 ((i1 : Int) + 1))) else (some false)) = some r := H
        try rw [Int.toNat_natCast] at A1
        have hlt2 : i1 < l0_1.length := by omega
        have hb0 : decide ((i1 : Int) < (l0_1.length : Int)) = true := decide_eq_true hlt
        have hb1 : decide (i1 < l0_1.length) = true := decide_eq_true hlt2
        have hn0 : 0 ≤ (i1 : Int) := Int.natCast_nonneg i1
        have hn1 : (i1 : Int) ≤ 1048576 := by have := HLN.out.1; have := HLN.out.2.1; have := HLN.out.2.2; omega
        obtain ⟨ad, e0, hx0⟩ := Kd.at_string HR1.out (i1 : Int) hn0 hlt
        cases e0
        replace hx0 := bC HBW hx0
        have ey : l0_1[i1]? = some (rdOf ByteArray.empty l0_1 (i1 : Int)) := by simp [rdOf, hlt2]
        generalize rdOf ByteArray.empty l0_1 (i1 : Int) = y at hx0 A1 ey
        rw [Int.toNat_natCast] at hx0
        have EY := Aside0.mk ey
        have TA := Aside0.mk A1
        have LT := Aside0.mk hlt2
        clear ey A1 hlt2
        by_cases ht : t1 = 0
        ·subst ht
         rw [if_pos rfl] at H
         rw [show wrap64 ((i1 : Int) + 1) = ((i1 + 1 : Nat) : Int) from by unfold wrap64; have := LT.out; have := HLN.out.1; have := HLN.out.2.1; have := HLN.out.2.2; omega] at H
         have H' := Aside0.mk H
         clear H
         go_wp2_with (first | (go_at_call 46; have n0_ := impl_addLine.at k2 w1 _ gy v1 v2 _ _ _ _ y _ HI.out (take_len _ _ _ HN.out) TA.out; (with_reducible refine n0_.2.mono ?_); rintro e w4 ⟨v2', rfl, hi⟩; have HG := Aside0.mk n0_.1; clear n0_ hx0 HI; have HI := Aside0.mk hi; clear hi))
         go_roundg k2
         case measure => have := HK1.out; omega
         case rel => exact ⟨i1 + 1, _, by go_num, LT.out, H', ⟨by have := HK1.out; omega⟩, ⟨by rw [← take_more l0_1 i1 y EY.out]; exact HI.out⟩, ⟨by have := HG.out (by first | rfl | trivial); rwa [take_full _ _ LT.out] at this⟩⟩
        ·rw [if_neg ht] at H
         obtain rfl := Option.some.inj H
         clear H
         have hb2 : (t1 != 0) = true := by simpa using ht
         have HT := Aside0.mk ht
         clear ht
         go_wp2_with (first | (go_at_call 46; have n0_ := impl_addLine.at k2 w1 _ gy v1 v2 _ _ _ _ y _ HI.out (take_len _ _ _ HN.out) TA.out; (with_reducible refine n0_.2.mono ?_); rintro e w4 ⟨v2', rfl, hi⟩; have HG := Aside0.mk n0_.1; clear n0_ hx0 HI; have HI := Aside0.mk hi; clear hi))
         go_ret
         exact ⟨rfl, below_step HB1.out HI.out.below⟩
       ·rw [if_neg hlt] at H
        have hb0 : decide ((i1 : Int) < (l0_1.length : Int)) = false := decide_eq_false hlt
        have hb1 : decide (i1 < l0_1.length) = false := decide_eq_false (by omega)
        have hil2 : i1 = l0_1.length := by omega
        have H' := Aside0.mk H
        have n0_ := HI.out
        rw [hil2, List.take_length] at n0_
        have HIL := Aside0.mk hil2
        clear H HI hil2 hil hlt
        have HI := Aside0.mk n0_
        clear n0_
        have BX := Aside0.mk (blk_below BX1.out HI.out.below)
        obtain ⟨hx0, hx1, hx2, hy0, hy1, hy2⟩ := cz3 BX
        clear BX
        go_wp2
        clear hx0 hx1 hx2 hy0 hy1 hy2
        obtain ⟨wo1, hwo⟩ : ∃ wo : World, wo = wr := ⟨_, rfl⟩
        subst hwo
        go_loopg [36] k2 (fun kq vi w' => ∃ (i2 : Nat) (v3 : Value), vi = .int .i64 i2 ∧ i2 ≤ l0_2.length ∧ Aside0 (impl_ValidRig.l2 kq l0_0 l0_1 l0_2 i2 = some r) ∧ Aside0 (kq ≤ k2) ∧ Aside0 (RigAt w1 w' gy v1 v2 v3 l0_0 l0_1 (l0_2.take i2)))
        case atStart => exact ⟨0, _, rfl, Nat.zero_le _, H', ⟨Nat.le_refl _⟩, HI⟩
        case round =>
         clear H' HI
         obtain ⟨i2, v3, rfl, hil, HA, HK1, HI⟩ := hrel
         cases gk with
         | zero => exact absurd HA.out (by simp [impl_ValidRig.l2])
         | succ k3 =>
          have H := HA.out
          clear HA
          simp only [impl_ValidRig.l2] at H
          have HBW := Aside0.mk (below_step HB1.out HI.out.below)
          by_cases hlt : (i2 : Int) < (l0_2.length : Int)
          ·rw [if_pos hlt, if_pos (Int.natCast_nonneg i2)] at H
           obtain ⟨t1, A1, H⟩ := Option.bind_eq_some_iff.mp H
           replace H : (if t1 = 0 then (impl_ValidRig.l2 k3 l0_0 l0_1 l0_2 (wrap64 ((i2 : Int) + 1))) else (some false)) = some r := H
           try rw [Int.toNat_natCast] at A1
           have hlt2 : i2 < l0_2.length := by omega
           have hb0 : decide ((i2 : Int) < (l0_2.length : Int)) = true := decide_eq_true hlt
           have hb1 : decide (i2 < l0_2.length) = true := decide_eq_true hlt2
           have hn0 : 0 ≤ (i2 : Int) := Int.natCast_nonneg i2
           have hn1 : (i2 : Int) ≤ 1048576 := by have := HLN.out.1; have := HLN.out.2.1; have := HLN.out.2.2; omega
           obtain ⟨ad, e0, hx0, hx1, hx2⟩ := at_T40 HR2.out (i2 : Int) hn0 hlt
           cases e0
           replace hx0 := bC HBW hx0
           replace hx1 := bC HBW hx1
           replace hx2 := bC HBW hx2
           have ey : l0_2[i2]? = some (rd_T40 l0_2 (i2 : Int)) := by simp [rd_T40, hlt2]
           generalize rd_T40 l0_2 (i2 : Int) = y at hx0 hx1 hx2 A1 ey
           rw [Int.toNat_natCast] at hx0 hx1 hx2
           have EY := Aside0.mk ey
           have TA := Aside0.mk A1
           have LT := Aside0.mk hlt2
           clear ey A1 hlt2
           by_cases ht : t1 = 0
           ·subst ht
            rw [if_pos rfl] at H
            rw [show wrap64 ((i2 : Int) + 1) = ((i2 + 1 : Nat) : Int) from by unfold wrap64; have := LT.out; have := HLN.out.1; have := HLN.out.2.1; have := HLN.out.2.2; omega] at H
            have H' := Aside0.mk H
            clear H
            go_wp2_with (first | ((with_reducible refine gate_dst (N := 9) rfl ?_); refine box_event ?hg (N := 9) ?hd (cs := #[.string ⟨#[]⟩, .string ⟨#[]⟩, .int .i64 0]) (t := 40) ?hr ?_; (case hd => rfl); (case hg => rfl); (case hr => first | (go_simp; done) | (go_simp; rfl)); intro gr hg w3 hbox hb; have HC := Aside0.mk hb; have GR := Aside0.mk (Nat.le_of_eq hg.symm); have BR := Aside0.mk hbox; clear hbox hb hg; obtain ⟨hr0, hr1, hr2, hs0, hs1, hs2⟩ := cz3 BR) | (go_at_call 47; (with_reducible refine (impl_addBelay.at k3 w1 _ gy v1 v2 v3 _ _ _ y _ (HI.out.late HC.out GR.out (.string y.f0) (.string y.f1) (.int .i64 y.f2)) (take_len _ _ _ (by have := HLN.out.2.2; have := LT.out; omega)) TA.out).mono ?_); rintro e w4 ⟨v3', rfl, hi⟩; clear hr0 hr1 hr2 hs0 hs1 hs2 hx0 hx1 hx2 HC GR BR HI; have HI := Aside0.mk hi; clear hi))
            go_roundg k3
            case measure => have := HK1.out; omega
            case rel => exact ⟨i2 + 1, _, by go_num, LT.out, H', ⟨by have := HK1.out; omega⟩, ⟨by rw [← take_more l0_2 i2 y EY.out]; exact HI.out⟩⟩
           ·rw [if_neg ht] at H
            obtain rfl := Option.some.inj H
            clear H
            have hb2 : (t1 != 0) = true := by simpa using ht
            have HT := Aside0.mk ht
            clear ht
            go_wp2_with (first | ((with_reducible refine gate_dst (N := 9) rfl ?_); refine box_event ?hg (N := 9) ?hd (cs := #[.string ⟨#[]⟩, .string ⟨#[]⟩, .int .i64 0]) (t := 40) ?hr ?_; (case hd => rfl); (case hg => rfl); (case hr => first | (go_simp; done) | (go_simp; rfl)); intro gr hg w3 hbox hb; have HC := Aside0.mk hb; have GR := Aside0.mk (Nat.le_of_eq hg.symm); have BR := Aside0.mk hbox; clear hbox hb hg; obtain ⟨hr0, hr1, hr2, hs0, hs1, hs2⟩ := cz3 BR) | (go_at_call 47; (with_reducible refine (impl_addBelay.at k3 w1 _ gy v1 v2 v3 _ _ _ y _ (HI.out.late HC.out GR.out (.string y.f0) (.string y.f1) (.int .i64 y.f2)) (take_len _ _ _ (by have := HLN.out.2.2; have := LT.out; omega)) TA.out).mono ?_); rintro e w4 ⟨v3', rfl, hi⟩; clear hr0 hr1 hr2 hs0 hs1 hs2 hx0 hx1 hx2 HC GR BR HI; have HI := Aside0.mk hi; clear hi))
            go_ret
            exact ⟨rfl, below_step HB1.out HI.out.below⟩
          ·rw [if_neg hlt] at H
           have hb0 : decide ((i2 : Int) < (l0_2.length : Int)) = false := decide_eq_false hlt
           have hb1 : decide (i2 < l0_2.length) = false := decide_eq_false (by omega)
           have hil2 : i2 = l0_2.length := by omega
           clear hil2
           obtain rfl := Option.some.inj H
           go_wp2
           go_ret
           exact ⟨rfl, below_step HB1.out HI.out.below⟩
 ·rw [if_neg hlb] at h
  cases h

/-! ### impl_LineAt: function 16 -/
def impl_LineAt.f (k : Nat) (l0_0 : List (S69)) (l0_1 : List ByteArray) (l0_2 : List (S40)) (a1 : ByteArray) (a2 : Int) : Option (ByteArray × Int) := (impl_ValidRig.f k l0_0 l0_1 l0_2).bind fun t216 => (if t216 = true then ((impl_hasPin.f l0_0 l0_1 l0_2 a1 a2).bind fun t217 => (if t217 = true then ((impl_belayAt.f l0_0 l0_1 l0_2 a1 a2).bind fun t218 => (if t218 < 0 then (some ((⟨#[]⟩ : ByteArray), 3)) else (if 0 ≤ t218 then (if t218 < (l0_2.length : Int) then (some ((rd_T40 l0_2 t218).f0, 0)) else (none)) else (none)))) else (some ((⟨#[]⟩ : ByteArray), 2)))) else (some ((⟨#[]⟩ : ByteArray), 1)))
theorem impl_LineAt.mono : ∀ a0 a1 a2 a3 a4 k, LeO (impl_LineAt.f k a0 a1 a2 a3 a4) (impl_LineAt.f (k + 1) a0 a1 a2 a3 a4) := by
 intro a0 a1 a2 a3 a4 k
 unfold impl_LineAt.f
 repeat' first
   | (with_reducible exact impl_ValidRig.mono _ _ _ _)
   | (with_reducible exact LeO.refl _)
   | (with_reducible exact LeO.none _)
   | (with_reducible refine LeO.ite ?_ ?_)
   | (with_reducible refine LeO.bind ?_ (fun _ => ?_))
   | exact impl_ValidRig.mono _ _ _ _
   | exact LeO.none _
   | refine LeO.ite ?_ ?_
   | refine LeO.bind ?_ (fun _ => ?_)
set_option maxHeartbeats 8000000 in
set_option maxRecDepth 100000 in
theorem impl_LineAt.calls (k : Nat) (A0_0 : Option Addr) (c0_0 : Nat) (l0_0 : List (S69)) (A0_1 : Option Addr) (c0_1 : Nat) (l0_1 : List ByteArray) (A0_2 : Option Addr) (c0_2 : Nat) (l0_2 : List (S40)) (a1 : ByteArray) (a2 : Int) (r1 : ByteArray) (r2 : Int) (w : World) (hr0_0 : Kd.C k69 w A0_0 l0_0.length l0_0) (hc0_0 : l0_0.length ≤ c0_0) (hr0_1 : Kd.C Kd.string w A0_1 l0_1.length l0_1) (hc0_1 : l0_1.length ≤ c0_1) (hr0_2 : Kd.C k40 w A0_2 l0_2.length l0_2) (hc0_2 : l0_2.length ≤ c0_2) (h : impl_LineAt.f k l0_0 l0_1 l0_2 a1 a2 = some (r1, r2)) :
  Calls Try.prog 16 #[.agg #[.slice A0_0 l0_0.length c0_0, .slice A0_1 l0_1.length c0_1, .slice A0_2 l0_2.length c0_2], .string a1, .int .i64 a2] w fun e w' => e = .returned (.tuple #[.string r1, .int .i64 r2]) ∧ Below w.heap.size w w' := by
 have hu32 := Try.underlying32
 have HR0_0 := Aside0.mk hr0_0
 have HC0_0 := Aside0.mk hc0_0
 clear hr0_0 hc0_0
 have HR0_1 := Aside0.mk hr0_1
 have HC0_1 := Aside0.mk hc0_1
 clear hr0_1 hc0_1
 have HR0_2 := Aside0.mk hr0_2
 have HC0_2 := Aside0.mk hc0_2
 clear hr0_2 hc0_2
 have HB := Aside0.mk (Below.refl w.heap.size w)
 have H : ((impl_ValidRig.f k l0_0 l0_1 l0_2).bind fun t216 => (if t216 = true then ((impl_hasPin.f l0_0 l0_1 l0_2 a1 a2).bind fun t217 => (if t217 = true then ((impl_belayAt.f l0_0 l0_1 l0_2 a1 a2).bind fun t218 => (if t218 < 0 then (some ((⟨#[]⟩ : ByteArray), 3)) else (if 0 ≤ t218 then (if t218 < (l0_2.length : Int) then (some ((rd_T40 l0_2 t218).f0, 0)) else (none)) else (none)))) else (some ((⟨#[]⟩ : ByteArray), 2)))) else (some ((⟨#[]⟩ : ByteArray), 1)))) = some (r1, r2) := h
 clear h
 replace H := Option.bind_eq_some_iff.mp H
 obtain ⟨t216, A40, H⟩ := H
 replace H : (if t216 = true then ((impl_hasPin.f l0_0 l0_1 l0_2 a1 a2).bind fun t217 => (if t217 = true then ((impl_belayAt.f l0_0 l0_1 l0_2 a1 a2).bind fun t218 => (if t218 < 0 then (some ((⟨#[]⟩ : ByteArray), 3)) else (if 0 ≤ t218 then (if t218 < (l0_2.length : Int) then (some ((rd_T40 l0_2 t218).f0, 0)) else (none)) else (none)))) else (some ((⟨#[]⟩ : ByteArray), 2)))) else (some ((⟨#[]⟩ : ByteArray), 1))) = some (r1, r2) := H
 have A4 := Aside0.mk A40
 clear A40
 have HF_ := Aside0.mk H
 clear H
 go_enter Try.func16, Try.ntmps16
 go_upto_if 11 with (first | ((with_reducible refine gate_dst (N := 3) rfl ?_); refine box_event ?hg (N := 3) ?hd (cs := #[.slice A0_0 l0_0.length c0_0, .slice A0_1 l0_1.length c0_1, .slice A0_2 l0_2.length c0_2]) (t := 32) ?hr ?_; (case hd => rfl); (case hg => rfl); (case hr => first | (go_simp; done) | (go_simp; rfl)); intro gb215 hg w5 hbox hb; have n0_ := pS HB hb; have n1_ := Aside0.mk (hbox); have n2_ := pG HB hg; have n3_ := pG HB hg; clear HB; have HB := n0_; have BK215 := n1_; have GW215 := n2_; have GE215 := n3_; clear n0_ n1_ n2_ n3_; clear hb hbox hg; obtain ⟨hcz6_0, hcz6_1, hcz6_2, hfz6_0, hfz6_1, hfz6_2⟩ := cz3 BK215) | ((with_reducible refine gate_callee (f := 13) rfl ?_); refine goesL_ (some 10) rfl rfl Try.func13 (by kernel_rfl) rfl #[.agg #[.slice A0_0 l0_0.length c0_0, .slice A0_1 l0_1.length c0_1, .slice A0_2 l0_2.length c0_2]] rfl (by (try simp only [List.map_toArray, List.map_cons, List.map_nil]); first | done | rfl | (simp only [List.length_drop, List.length_take]; rfl)) ?_; (with_reducible refine (impl_ValidRig.calls k _ _ l0_0 _ _ l0_1 _ _ l0_2 t216 _ ?side1 ?side2 ?side3 ?side4 ?side5 ?side6 A4.out).mono ?_); (case side1 => repeat (first | exact (Kd.C_below HR0_0.out HB.out) | (with_reducible refine Kd.C_alloc ?_ _) | (with_reducible refine Kd.C_drewN ?_ _) | (with_reducible refine Kd.C_drew ?_))); (case side2 => exact HC0_0.out); (case side3 => repeat (first | exact (Kd.C_below HR0_1.out HB.out) | (with_reducible refine Kd.C_alloc ?_ _) | (with_reducible refine Kd.C_drewN ?_ _) | (with_reducible refine Kd.C_drew ?_))); (case side4 => exact HC0_1.out); (case side5 => repeat (first | exact (Kd.C_below HR0_2.out HB.out) | (with_reducible refine Kd.C_alloc ?_ _) | (with_reducible refine Kd.C_drewN ?_ _) | (with_reducible refine Kd.C_drew ?_))); (case side6 => exact HC0_2.out); rintro e w7 ⟨rfl, hb⟩; refine ⟨_, rfl, ?_⟩; have n0_ := pB BK215 hb; have n1_ := pS HB hb; clear BK215 HB; have BK215 := n0_; have HB := n1_; clear n0_ n1_; (try clear hb); (try clear hb2); (try clear hk); (try clear hi)))
 (try simp only [Act.put, List.setIfInBounds_toArray, List.set_cons_zero, List.set_cons_succ])
 have H := HF_.out
 clear HF_
 by_cases c8 : t216 = true
 ·subst c8
  have H1 : ((impl_hasPin.f l0_0 l0_1 l0_2 a1 a2).bind fun t217 => (if t217 = true then ((impl_belayAt.f l0_0 l0_1 l0_2 a1 a2).bind fun t218 => (if t218 < 0 then (some ((⟨#[]⟩ : ByteArray), 3)) else (if 0 ≤ t218 then (if t218 < (l0_2.length : Int) then (some ((rd_T40 l0_2 t218).f0, 0)) else (none)) else (none)))) else (some ((⟨#[]⟩ : ByteArray), 2)))) = some (r1, r2) := by rw [if_pos rfl] at H; exact H
  clear H
  have H := H1
  clear H1
  replace H := Option.bind_eq_some_iff.mp H
  obtain ⟨t217, A90, H⟩ := H
  replace H : (if t217 = true then ((impl_belayAt.f l0_0 l0_1 l0_2 a1 a2).bind fun t218 => (if t218 < 0 then (some ((⟨#[]⟩ : ByteArray), 3)) else (if 0 ≤ t218 then (if t218 < (l0_2.length : Int) then (some ((rd_T40 l0_2 t218).f0, 0)) else (none)) else (none)))) else (some ((⟨#[]⟩ : ByteArray), 2))) = some (r1, r2) := H
  have A9 := Aside0.mk A90
  clear A90
  by_cases c10 : t217 = true
  ·subst c10
   have H1 : ((impl_belayAt.f l0_0 l0_1 l0_2 a1 a2).bind fun t218 => (if t218 < 0 then (some ((⟨#[]⟩ : ByteArray), 3)) else (if 0 ≤ t218 then (if t218 < (l0_2.length : Int) then (some ((rd_T40 l0_2 t218).f0, 0)) else (none)) else (none)))) = some (r1, r2) := by rw [if_pos rfl] at H; exact H
   clear H
   have H := H1
   clear H1
   replace H := Option.bind_eq_some_iff.mp H
   obtain ⟨t218, A110, H⟩ := H
   replace H : (if t218 < 0 then (some ((⟨#[]⟩ : ByteArray), 3)) else (if 0 ≤ t218 then (if t218 < (l0_2.length : Int) then (some ((rd_T40 l0_2 t218).f0, 0)) else (none)) else (none))) = some (r1, r2) := H
   have A11 := Aside0.mk A110
   clear A110
   have HF_ := Aside0.mk H
   clear H
   obtain ⟨hcz12_0, hcz12_1, hcz12_2, hfz12_0, hfz12_1, hfz12_2⟩ := cz3 BK215
   go_upto_if 22 with (first | ((with_reducible refine gate_callee (f := 53) rfl ?_); refine goesL_ (some 15) rfl rfl Try.func53 (by kernel_rfl) rfl #[.agg #[.slice A0_0 l0_0.length c0_0, .slice A0_1 l0_1.length c0_1, .slice A0_2 l0_2.length c0_2], .string a1, .int .i64 a2] rfl (by (try simp only [List.map_toArray, List.map_cons, List.map_nil]); first | done | rfl | (simp only [List.length_drop, List.length_take]; rfl)) ?_; (with_reducible refine (impl_hasPin.calls _ _ l0_0 _ _ l0_1 _ _ l0_2 a1 a2 true _ ?side1 ?side2 ?side3 ?side4 ?side5 ?side6 A9.out).mono ?_); (case side1 => repeat (first | exact (Kd.C_below HR0_0.out HB.out) | (with_reducible refine Kd.C_alloc ?_ _) | (with_reducible refine Kd.C_drewN ?_ _) | (with_reducible refine Kd.C_drew ?_))); (case side2 => exact HC0_0.out); (case side3 => repeat (first | exact (Kd.C_below HR0_1.out HB.out) | (with_reducible refine Kd.C_alloc ?_ _) | (with_reducible refine Kd.C_drewN ?_ _) | (with_reducible refine Kd.C_drew ?_))); (case side4 => exact HC0_1.out); (case side5 => repeat (first | exact (Kd.C_below HR0_2.out HB.out) | (with_reducible refine Kd.C_alloc ?_ _) | (with_reducible refine Kd.C_drewN ?_ _) | (with_reducible refine Kd.C_drew ?_))); (case side6 => exact HC0_2.out); rintro e w13 ⟨rfl, hb⟩; refine ⟨_, rfl, ?_⟩; have n0_ := pB BK215 hb; have n1_ := pS HB hb; clear BK215 HB; have BK215 := n0_; have HB := n1_; clear n0_ n1_; (try clear hb); (try clear hb2); (try clear hk); (try clear hi); obtain ⟨hcz14_0, hcz14_1, hcz14_2, hfz14_0, hfz14_1, hfz14_2⟩ := cz3 BK215) | ((with_reducible refine gate_callee (f := 54) rfl ?_); refine goesL_ (some 20) rfl rfl Try.func54 (by kernel_rfl) rfl #[.agg #[.slice A0_0 l0_0.length c0_0, .slice A0_1 l0_1.length c0_1, .slice A0_2 l0_2.length c0_2], .string a1, .int .i64 a2] rfl (by (try simp only [List.map_toArray, List.map_cons, List.map_nil]); first | done | rfl | (simp only [List.length_drop, List.length_take]; rfl)) ?_; (with_reducible refine (impl_belayAt.calls _ _ l0_0 _ _ l0_1 _ _ l0_2 a1 a2 t218 _ ?side1 ?side2 ?side3 ?side4 ?side5 ?side6 A11.out).mono ?_); (case side1 => repeat (first | exact (Kd.C_below HR0_0.out HB.out) | (with_reducible refine Kd.C_alloc ?_ _) | (with_reducible refine Kd.C_drewN ?_ _) | (with_reducible refine Kd.C_drew ?_))); (case side2 => exact HC0_0.out); (case side3 => repeat (first | exact (Kd.C_below HR0_1.out HB.out) | (with_reducible refine Kd.C_alloc ?_ _) | (with_reducible refine Kd.C_drewN ?_ _) | (with_reducible refine Kd.C_drew ?_))); (case side4 => exact HC0_1.out); (case side5 => repeat (first | exact (Kd.C_below HR0_2.out HB.out) | (with_reducible refine Kd.C_alloc ?_ _) | (with_reducible refine Kd.C_drewN ?_ _) | (with_reducible refine Kd.C_drew ?_))); (case side6 => exact HC0_2.out); rintro e w15 ⟨rfl, hb⟩; refine ⟨_, rfl, ?_⟩; have n0_ := pB BK215 hb; have n1_ := pS HB hb; clear BK215 HB; have BK215 := n0_; have HB := n1_; clear n0_ n1_; (try clear hb); (try clear hb2); (try clear hk); (try clear hi)))
   (try simp only [Act.put, List.setIfInBounds_toArray, List.set_cons_zero, List.set_cons_succ])
   have H := HF_.out
   clear HF_
   by_cases c16 : t218 < 0
   ·rw [if_pos c16] at H
    have c16b0 : decide (t218 < 0) = true := decide_eq_true c16
    clear c16
    (first | rw [c16b0] | (simp only [i64_w, i32_w]; rw [c16b0]) | skip)
    simp only [Option.some.injEq, Prod.mk.injEq] at H
    obtain ⟨rfl, rfl⟩ := H
    go_wp2
    go_ret2
    exact ⟨by first | rfl | (simp [errW_none, errW_some] <;> rfl) | (simp [*, errW_none, errW_some] <;> rfl), pR HB⟩
   ·rw [if_neg c16] at H
    have c16b0 : decide (t218 < 0) = false := decide_eq_false c16
    clear c16
    (first | rw [c16b0] | (simp only [i64_w, i32_w]; rw [c16b0]) | skip)
    by_cases c17 : 0 ≤ t218
    ·rw [if_pos c17] at H
     have c17b0 : decide (0 ≤ t218) = true := decide_eq_true c17
     clear c17
     by_cases c18 : t218 < (l0_2.length : Int)
     ·rw [if_pos c18] at H
      have c18b0 : decide (t218 < (l0_2.length : Int)) = true := decide_eq_true c18
      clear c18
      simp only [Option.some.injEq, Prod.mk.injEq] at H
      obtain ⟨rfl, rfl⟩ := H
      obtain ⟨hcz19_0, hcz19_1, hcz19_2, hfz19_0, hfz19_1, hfz19_2⟩ := cz3 BK215
      have p219 : 0 ≤ (t218 : Int) := of_decide_eq_true (by first | (with_reducible assumption) | assumption)
      have q219 : t218 < (l0_2.length : Int) := of_decide_eq_true (by first | (with_reducible assumption) | assumption)
      obtain ⟨ad219, e219, hx219_0, hx219_1, hx219_2⟩ := at_T40 HR0_2.out t218 p219 q219
      cases e219
      replace hx219_0 := bC HB hx219_0
      replace hx219_1 := bC HB hx219_1
      replace hx219_2 := bC HB hx219_2
      replace p219 := eq_true p219
      replace q219 := eq_true q219
      go_wp2
      go_ret2
      exact ⟨by first | rfl | (simp [errW_none, errW_some] <;> rfl) | (simp [*, errW_none, errW_some] <;> rfl), pR HB⟩
     ·rw [if_neg c18] at H
      exact absurd H (by simp)
    ·rw [if_neg c17] at H
     exact absurd H (by simp)
  ·replace c10 := Bool.eq_false_iff.mpr c10
   subst c10
   have H1 : (some ((⟨#[]⟩ : ByteArray), 2)) = some (r1, r2) := by rw [if_neg (show ¬ (false = true) by decide)] at H; exact H
   clear H
   have H := H1
   clear H1
   simp only [Option.some.injEq, Prod.mk.injEq] at H
   obtain ⟨rfl, rfl⟩ := H
   obtain ⟨hcz20_0, hcz20_1, hcz20_2, hfz20_0, hfz20_1, hfz20_2⟩ := cz3 BK215
   go_wp2_with (first | ((with_reducible refine gate_callee (f := 53) rfl ?_); refine goesL_ (some 15) rfl rfl Try.func53 (by kernel_rfl) rfl #[.agg #[.slice A0_0 l0_0.length c0_0, .slice A0_1 l0_1.length c0_1, .slice A0_2 l0_2.length c0_2], .string a1, .int .i64 a2] rfl (by (try simp only [List.map_toArray, List.map_cons, List.map_nil]); first | done | rfl | (simp only [List.length_drop, List.length_take]; rfl)) ?_; (with_reducible refine (impl_hasPin.calls _ _ l0_0 _ _ l0_1 _ _ l0_2 a1 a2 false _ ?side1 ?side2 ?side3 ?side4 ?side5 ?side6 A9.out).mono ?_); (case side1 => repeat (first | exact (Kd.C_below HR0_0.out HB.out) | (with_reducible refine Kd.C_alloc ?_ _) | (with_reducible refine Kd.C_drewN ?_ _) | (with_reducible refine Kd.C_drew ?_))); (case side2 => exact HC0_0.out); (case side3 => repeat (first | exact (Kd.C_below HR0_1.out HB.out) | (with_reducible refine Kd.C_alloc ?_ _) | (with_reducible refine Kd.C_drewN ?_ _) | (with_reducible refine Kd.C_drew ?_))); (case side4 => exact HC0_1.out); (case side5 => repeat (first | exact (Kd.C_below HR0_2.out HB.out) | (with_reducible refine Kd.C_alloc ?_ _) | (with_reducible refine Kd.C_drewN ?_ _) | (with_reducible refine Kd.C_drew ?_))); (case side6 => exact HC0_2.out); rintro e w21 ⟨rfl, hb⟩; refine ⟨_, rfl, ?_⟩; have n0_ := pB BK215 hb; have n1_ := pS HB hb; clear BK215 HB; have BK215 := n0_; have HB := n1_; clear n0_ n1_; (try clear hb); (try clear hb2); (try clear hk); (try clear hi)))
   go_ret2
   exact ⟨by first | rfl | (simp [errW_none, errW_some] <;> rfl) | (simp [*, errW_none, errW_some] <;> rfl), pR HB⟩
 ·replace c8 := Bool.eq_false_iff.mpr c8
  subst c8
  have H1 : (some ((⟨#[]⟩ : ByteArray), 1)) = some (r1, r2) := by rw [if_neg (show ¬ (false = true) by decide)] at H; exact H
  clear H
  have H := H1
  clear H1
  simp only [Option.some.injEq, Prod.mk.injEq] at H
  obtain ⟨rfl, rfl⟩ := H
  go_wp2
  go_ret2
  exact ⟨by first | rfl | (simp [errW_none, errW_some] <;> rfl) | (simp [*, errW_none, errW_some] <;> rfl), pR HB⟩

/-! ### laws_FnExactLineAt: function 4 -/
def laws_FnExactLineAt.j0 : Nat → Bool → List (S92) → List ByteArray → List (S55) → List (S69) → List ByteArray → List (S40) → Option (Bool)
 | 0, _, _, _, _, _, _, _ => none
 | k + 1, x45, x221000, x221001, x221002, x243000, x243001, x243002 => if x45 = true then (some false) else ((laws_toRig.f k x221000 x221001 x221002).bind fun bt245 => ((laws_eqRig.f k x243000 x243001 x243002 bt245.1 bt245.2.1 bt245.2.2).bind fun t254 => (if t254 = true then (some true) else (some false))))
def laws_FnExactLineAt.f (k : Nat) (l0_0 : List (S92)) (l0_1 : List ByteArray) (l0_2 : List (S55)) (a1 : ByteArray) (a2 : Int) : Option (Bool) := if (a1.size : Int) > 1048576 then (some true) else ((laws_szRig.f k l0_0 l0_1 l0_2 1048576).bind fun t221 => (if t221 < 0 then (some true) else ((laws_toRig.f k l0_0 l0_1 l0_2).bind fun bt222 => ((spec_LineAt.f k bt222.1 bt222.2.1 bt222.2.2 a1 a2).bind fun bt231 => ((laws_toRig.f k l0_0 l0_1 l0_2).bind fun bt233 => ((impl_LineAt.f k bt233.1 bt233.2.1 bt233.2.2 a1 a2).bind fun bt243 => (if bt243.1.toList = bt231.1.toList then (laws_FnExactLineAt.j0 k (bt243.2 != bt231.2) l0_0 l0_1 l0_2 bt233.1 bt233.2.1 bt233.2.2) else (laws_FnExactLineAt.j0 k true l0_0 l0_1 l0_2 bt233.1 bt233.2.1 bt233.2.2))))))))
theorem laws_FnExactLineAt.mono_l : ∀ k, (∀ y0 y1 y2 y3 y4 y5 y6, LeO (laws_FnExactLineAt.j0 k y0 y1 y2 y3 y4 y5 y6) (laws_FnExactLineAt.j0 (k + 1) y0 y1 y2 y3 y4 y5 y6))
 | 0 => fun _ _ _ _ _ _ _ r h => by simp [laws_FnExactLineAt.j0] at h
 | k + 1 => by
  have ih0 := laws_FnExactLineAt.mono_l k
  ·intro y0 y1 y2 y3 y4 y5 y6
   unfold laws_FnExactLineAt.j0
   repeat' first
   | (with_reducible exact ih0 _ _ _ _ _ _ _)
   | (with_reducible exact impl_LineAt.mono _ _ _ _ _ _)
   | (with_reducible exact laws_eqRig.mono _ _ _ _ _ _ _)
   | (with_reducible exact laws_szRig.mono _ _ _ _ _)
   | (with_reducible exact laws_toRig.mono _ _ _ _)
   | (with_reducible exact spec_LineAt.mono _ _ _ _ _ _)
   | (with_reducible exact LeO.refl _)
   | (with_reducible exact LeO.none _)
   | (with_reducible refine LeO.ite ?_ ?_)
   | (with_reducible refine LeO.bind ?_ (fun _ => ?_))
   | exact ih0 _ _ _ _ _ _ _
   | exact impl_LineAt.mono _ _ _ _ _ _
   | exact laws_eqRig.mono _ _ _ _ _ _ _
   | exact laws_szRig.mono _ _ _ _ _
   | exact laws_toRig.mono _ _ _ _
   | exact spec_LineAt.mono _ _ _ _ _ _
   | exact LeO.none _
   | refine LeO.ite ?_ ?_
   | refine LeO.bind ?_ (fun _ => ?_)
theorem laws_FnExactLineAt.mono : ∀ a0 a1 a2 a3 a4 k, LeO (laws_FnExactLineAt.f k a0 a1 a2 a3 a4) (laws_FnExactLineAt.f (k + 1) a0 a1 a2 a3 a4) := by
 intro a0 a1 a2 a3 a4 k
 have ih0 := laws_FnExactLineAt.mono_l k
 unfold laws_FnExactLineAt.f
 repeat' first
   | (with_reducible exact ih0 _ _ _ _ _ _ _)
   | (with_reducible exact impl_LineAt.mono _ _ _ _ _ _)
   | (with_reducible exact laws_eqRig.mono _ _ _ _ _ _ _)
   | (with_reducible exact laws_szRig.mono _ _ _ _ _)
   | (with_reducible exact laws_toRig.mono _ _ _ _)
   | (with_reducible exact spec_LineAt.mono _ _ _ _ _ _)
   | (with_reducible exact LeO.refl _)
   | (with_reducible exact LeO.none _)
   | (with_reducible refine LeO.ite ?_ ?_)
   | (with_reducible refine LeO.bind ?_ (fun _ => ?_))
   | exact ih0 _ _ _ _ _ _ _
   | exact impl_LineAt.mono _ _ _ _ _ _
   | exact laws_eqRig.mono _ _ _ _ _ _ _
   | exact laws_szRig.mono _ _ _ _ _
   | exact laws_toRig.mono _ _ _ _
   | exact spec_LineAt.mono _ _ _ _ _ _
   | exact LeO.none _
   | refine LeO.ite ?_ ?_
   | refine LeO.bind ?_ (fun _ => ?_)
set_option maxHeartbeats 8000000 in
set_option maxRecDepth 100000 in
theorem laws_FnExactLineAt.calls (k : Nat) (A0_0 : Option Addr) (c0_0 : Nat) (l0_0 : List (S92)) (A0_1 : Option Addr) (c0_1 : Nat) (l0_1 : List ByteArray) (A0_2 : Option Addr) (c0_2 : Nat) (l0_2 : List (S55)) (a1 : ByteArray) (a2 : Int) (r : Bool) (w : World) (hr0_0 : Kd.C k92 w A0_0 l0_0.length l0_0) (hc0_0 : l0_0.length ≤ c0_0) (hr0_1 : Kd.C Kd.string w A0_1 l0_1.length l0_1) (hc0_1 : l0_1.length ≤ c0_1) (hr0_2 : Kd.C k55 w A0_2 l0_2.length l0_2) (hc0_2 : l0_2.length ≤ c0_2) (hrt : r = true) (h : laws_FnExactLineAt.f k l0_0 l0_1 l0_2 a1 a2 = some r) :
  Calls Try.prog 4 #[.agg #[.slice A0_0 l0_0.length c0_0, .slice A0_1 l0_1.length c0_1, .slice A0_2 l0_2.length c0_2], .string a1, .int .i64 a2] w fun e w' => e = .returned (.bool r) ∧ Below w.heap.size w w' := by
 have hu26 := Try.underlying26
 have hu32 := Try.underlying32
 have HRT := Aside0.mk hrt
 clear hrt
 have HR0_0 := Aside0.mk hr0_0
 have HC0_0 := Aside0.mk hc0_0
 clear hr0_0 hc0_0
 have HR0_1 := Aside0.mk hr0_1
 have HC0_1 := Aside0.mk hc0_1
 clear hr0_1 hc0_1
 have HR0_2 := Aside0.mk hr0_2
 have HC0_2 := Aside0.mk hc0_2
 clear hr0_2 hc0_2
 have HB := Aside0.mk (Below.refl w.heap.size w)
 have H : (if (a1.size : Int) > 1048576 then (some true) else ((laws_szRig.f k l0_0 l0_1 l0_2 1048576).bind fun t221 => (if t221 < 0 then (some true) else ((laws_toRig.f k l0_0 l0_1 l0_2).bind fun bt222 => ((spec_LineAt.f k bt222.1 bt222.2.1 bt222.2.2 a1 a2).bind fun bt231 => ((laws_toRig.f k l0_0 l0_1 l0_2).bind fun bt233 => ((impl_LineAt.f k bt233.1 bt233.2.1 bt233.2.2 a1 a2).bind fun bt243 => (if bt243.1.toList = bt231.1.toList then (laws_FnExactLineAt.j0 k (bt243.2 != bt231.2) l0_0 l0_1 l0_2 bt233.1 bt233.2.1 bt233.2.2) else (laws_FnExactLineAt.j0 k true l0_0 l0_1 l0_2 bt233.1 bt233.2.1 bt233.2.2))))))))) = some r := h
 clear h
 have HF_ := Aside0.mk H
 clear H
 go_enter Try.func4, Try.ntmps4
 go_upto_if 15 with (first | ((with_reducible refine gate_dst (N := 3) rfl ?_); refine box_event ?hg (N := 3) ?hd (cs := #[.slice A0_0 l0_0.length c0_0, .slice A0_1 l0_1.length c0_1, .slice A0_2 l0_2.length c0_2]) (t := 26) ?hr ?_; (case hd => rfl); (case hg => rfl); (case hr => first | (go_simp; done) | (go_simp; rfl)); intro gb220 hg w4 hbox hb; have n0_ := pS HB hb; have n1_ := Aside0.mk (hbox); have n2_ := pG HB hg; have n3_ := pG HB hg; clear HB; have HB := n0_; have BK220 := n1_; have GW220 := n2_; have GE220 := n3_; clear n0_ n1_ n2_ n3_; clear hb hbox hg))
 (try simp only [Act.put, List.setIfInBounds_toArray, List.set_cons_zero, List.set_cons_succ])
 have H := HF_.out
 clear HF_
 by_cases c5 : (a1.size : Int) > 1048576
 ·rw [if_pos c5] at H
  have c5b0 : decide (1048576 < (a1.size : Int)) = true := decide_eq_true c5
  have c5b1 : decide (1048576 < a1.size) = true := decide_eq_true (by omega)
  clear c5
  (first | rw [c5b0] | (simp only [i64_w, i32_w]; rw [c5b0]) | skip)
  obtain rfl := Option.some.inj H
  simp only [Option.some.injEq, Prod.mk.injEq] at H
  obtain ⟨rfl⟩ := H
  go_wp2
  go_ret
  exact ⟨by first | rfl | (simp [errW_none, errW_some] <;> rfl) | (simp [*, errW_none, errW_some] <;> rfl), pR HB⟩
 ·rw [if_neg c5] at H
  have c5b0 : decide (1048576 < (a1.size : Int)) = false := decide_eq_false c5
  have c5b1 : decide (1048576 < a1.size) = false := decide_eq_false (by omega)
  clear c5
  (first | rw [c5b0] | (simp only [i64_w, i32_w]; rw [c5b0]) | skip)
  replace H := Option.bind_eq_some_iff.mp H
  obtain ⟨t221, A60, H⟩ := H
  replace H : (if t221 < 0 then (some true) else ((laws_toRig.f k l0_0 l0_1 l0_2).bind fun bt222 => ((spec_LineAt.f k bt222.1 bt222.2.1 bt222.2.2 a1 a2).bind fun bt231 => ((laws_toRig.f k l0_0 l0_1 l0_2).bind fun bt233 => ((impl_LineAt.f k bt233.1 bt233.2.1 bt233.2.2 a1 a2).bind fun bt243 => (if bt243.1.toList = bt231.1.toList then (laws_FnExactLineAt.j0 k (bt243.2 != bt231.2) l0_0 l0_1 l0_2 bt233.1 bt233.2.1 bt233.2.2) else (laws_FnExactLineAt.j0 k true l0_0 l0_1 l0_2 bt233.1 bt233.2.1 bt233.2.2))))))) = some r := H
  have A6 := Aside0.mk A60
  clear A60
  by_cases c7 : t221 < 0
  ·rw [if_pos c7] at H
   have c7b0 : decide (t221 < 0) = true := decide_eq_true c7
   clear c7
   obtain rfl := Option.some.inj H
   simp only [Option.some.injEq, Prod.mk.injEq] at H
   obtain ⟨rfl⟩ := H
   obtain ⟨hcz8_0, hcz8_1, hcz8_2, hfz8_0, hfz8_1, hfz8_2⟩ := cz3 BK220
   go_wp2_with (first | ((with_reducible refine gate_callee (f := 10) rfl ?_); refine goesL_ (some 18) rfl rfl Try.func10 (by kernel_rfl) rfl #[.agg #[.slice A0_0 l0_0.length c0_0, .slice A0_1 l0_1.length c0_1, .slice A0_2 l0_2.length c0_2], .int .i64 1048576] rfl (by (try simp only [List.map_toArray, List.map_cons, List.map_nil]); first | done | rfl | (simp only [List.length_drop, List.length_take]; rfl)) ?_; (with_reducible refine (laws_szRig.calls k _ _ l0_0 _ _ l0_1 _ _ l0_2 1048576 t221 _ ?side1 ?side2 ?side3 ?side4 ?side5 ?side6 A6.out).mono ?_); (case side1 => repeat (first | exact (Kd.C_below HR0_0.out HB.out) | (with_reducible refine Kd.C_alloc ?_ _) | (with_reducible refine Kd.C_drewN ?_ _) | (with_reducible refine Kd.C_drew ?_))); (case side2 => exact HC0_0.out); (case side3 => repeat (first | exact (Kd.C_below HR0_1.out HB.out) | (with_reducible refine Kd.C_alloc ?_ _) | (with_reducible refine Kd.C_drewN ?_ _) | (with_reducible refine Kd.C_drew ?_))); (case side4 => exact HC0_1.out); (case side5 => repeat (first | exact (Kd.C_below HR0_2.out HB.out) | (with_reducible refine Kd.C_alloc ?_ _) | (with_reducible refine Kd.C_drewN ?_ _) | (with_reducible refine Kd.C_drew ?_))); (case side6 => exact HC0_2.out); rintro e w9 ⟨rfl, hb⟩; refine ⟨_, rfl, ?_⟩; have n0_ := pB BK220 hb; have n1_ := pS HB hb; clear BK220 HB; have BK220 := n0_; have HB := n1_; clear n0_ n1_; (try clear hb); (try clear hb2); (try clear hk); (try clear hi)))
   go_ret
   exact ⟨by first | rfl | (simp [errW_none, errW_some] <;> rfl) | (simp [*, errW_none, errW_some] <;> rfl), pR HB⟩
  ·rw [if_neg c7] at H
   have c7b0 : decide (t221 < 0) = false := decide_eq_false c7
   clear c7
   replace H := Option.bind_eq_some_iff.mp H
   obtain ⟨⟨t222, t225, t228⟩, A100, H⟩ := H
   replace H : ((spec_LineAt.f k t222 t225 t228 a1 a2).bind fun bt231 => ((laws_toRig.f k l0_0 l0_1 l0_2).bind fun bt233 => ((impl_LineAt.f k bt233.1 bt233.2.1 bt233.2.2 a1 a2).bind fun bt243 => (if bt243.1.toList = bt231.1.toList then (laws_FnExactLineAt.j0 k (bt243.2 != bt231.2) l0_0 l0_1 l0_2 bt233.1 bt233.2.1 bt233.2.2) else (laws_FnExactLineAt.j0 k true l0_0 l0_1 l0_2 bt233.1 bt233.2.1 bt233.2.2))))) = some r := H
   have A10 := Aside0.mk A100
   clear A100
   replace H := Option.bind_eq_some_iff.mp H
   obtain ⟨⟨t231, t232⟩, A110, H⟩ := H
   replace H : ((laws_toRig.f k l0_0 l0_1 l0_2).bind fun bt233 => ((impl_LineAt.f k bt233.1 bt233.2.1 bt233.2.2 a1 a2).bind fun bt243 => (if bt243.1.toList = t231.toList then (laws_FnExactLineAt.j0 k (bt243.2 != t232) l0_0 l0_1 l0_2 bt233.1 bt233.2.1 bt233.2.2) else (laws_FnExactLineAt.j0 k true l0_0 l0_1 l0_2 bt233.1 bt233.2.1 bt233.2.2)))) = some r := H
   have A11 := Aside0.mk A110
   clear A110
   replace H := Option.bind_eq_some_iff.mp H
   obtain ⟨⟨t233, t236, t239⟩, A120, H⟩ := H
   replace H : ((impl_LineAt.f k t233 t236 t239 a1 a2).bind fun bt243 => (if bt243.1.toList = t231.toList then (laws_FnExactLineAt.j0 k (bt243.2 != t232) l0_0 l0_1 l0_2 t233 t236 t239) else (laws_FnExactLineAt.j0 k true l0_0 l0_1 l0_2 t233 t236 t239))) = some r := H
   have A12 := Aside0.mk A120
   clear A120
   replace H := Option.bind_eq_some_iff.mp H
   obtain ⟨⟨t243, t244⟩, A130, H⟩ := H
   replace H : (if t243.toList = t231.toList then (laws_FnExactLineAt.j0 k (t244 != t232) l0_0 l0_1 l0_2 t233 t236 t239) else (laws_FnExactLineAt.j0 k true l0_0 l0_1 l0_2 t233 t236 t239)) = some r := H
   have A13 := Aside0.mk A130
   clear A130
   have HC14 := Aside0.mk H
   clear H
   obtain ⟨hcz15_0, hcz15_1, hcz15_2, hfz15_0, hfz15_1, hfz15_2⟩ := cz3 BK220
   go_upto_region 10 with (first | ((with_reducible refine gate_callee (f := 10) rfl ?_); refine goesL_ (some 18) rfl rfl Try.func10 (by kernel_rfl) rfl #[.agg #[.slice A0_0 l0_0.length c0_0, .slice A0_1 l0_1.length c0_1, .slice A0_2 l0_2.length c0_2], .int .i64 1048576] rfl (by (try simp only [List.map_toArray, List.map_cons, List.map_nil]); first | done | rfl | (simp only [List.length_drop, List.length_take]; rfl)) ?_; (with_reducible refine (laws_szRig.calls k _ _ l0_0 _ _ l0_1 _ _ l0_2 1048576 t221 _ ?side1 ?side2 ?side3 ?side4 ?side5 ?side6 A6.out).mono ?_); (case side1 => repeat (first | exact (Kd.C_below HR0_0.out HB.out) | (with_reducible refine Kd.C_alloc ?_ _) | (with_reducible refine Kd.C_drewN ?_ _) | (with_reducible refine Kd.C_drew ?_))); (case side2 => exact HC0_0.out); (case side3 => repeat (first | exact (Kd.C_below HR0_1.out HB.out) | (with_reducible refine Kd.C_alloc ?_ _) | (with_reducible refine Kd.C_drewN ?_ _) | (with_reducible refine Kd.C_drew ?_))); (case side4 => exact HC0_1.out); (case side5 => repeat (first | exact (Kd.C_below HR0_2.out HB.out) | (with_reducible refine Kd.C_alloc ?_ _) | (with_reducible refine Kd.C_drewN ?_ _) | (with_reducible refine Kd.C_drew ?_))); (case side6 => exact HC0_2.out); rintro e w16 ⟨rfl, hb⟩; refine ⟨_, rfl, ?_⟩; have n0_ := pB BK220 hb; have n1_ := pS HB hb; clear BK220 HB; have BK220 := n0_; have HB := n1_; clear n0_ n1_; (try clear hb); (try clear hb2); (try clear hk); (try clear hi); obtain ⟨hcz17_0, hcz17_1, hcz17_2, hfz17_0, hfz17_1, hfz17_2⟩ := cz3 BK220) | ((with_reducible refine gate_callee (f := 12) rfl ?_); refine goesL_ (some 23) rfl rfl Try.func12 (by kernel_rfl) rfl #[.agg #[.slice A0_0 l0_0.length c0_0, .slice A0_1 l0_1.length c0_1, .slice A0_2 l0_2.length c0_2]] rfl (by (try simp only [List.map_toArray, List.map_cons, List.map_nil]); first | done | rfl | (simp only [List.length_drop, List.length_take]; rfl)) ?_; (with_reducible refine (laws_toRig.calls k _ _ l0_0 _ _ l0_1 _ _ l0_2 t222 t225 t228 _ ?side1 ?side2 ?side3 ?side4 ?side5 ?side6 A10.out).mono ?_); (case side1 => repeat (first | exact (Kd.C_below HR0_0.out HB.out) | (with_reducible refine Kd.C_alloc ?_ _) | (with_reducible refine Kd.C_drewN ?_ _) | (with_reducible refine Kd.C_drew ?_))); (case side2 => exact HC0_0.out); (case side3 => repeat (first | exact (Kd.C_below HR0_1.out HB.out) | (with_reducible refine Kd.C_alloc ?_ _) | (with_reducible refine Kd.C_drewN ?_ _) | (with_reducible refine Kd.C_drew ?_))); (case side4 => exact HC0_1.out); (case side5 => repeat (first | exact (Kd.C_below HR0_2.out HB.out) | (with_reducible refine Kd.C_alloc ?_ _) | (with_reducible refine Kd.C_drewN ?_ _) | (with_reducible refine Kd.C_drew ?_))); (case side6 => exact HC0_2.out); rintro e w18 ⟨v223, v226, v229, rfl, ho0, ho1, ho2, hb⟩; refine ⟨_, rfl, ?_⟩; have n0_ := Aside0.mk (Kd.R_lower ho0 (below_size (by repeat (first | (with_reducible first | exact HB.out | apply below_alloc | apply pw_below_drewN | apply below_drew1 | refine below_set ?_ GE220.out) | exact HB.out)))); have n1_ := Aside0.mk (Kd.R_lower ho1 (below_size (by repeat (first | (with_reducible first | exact HB.out | apply below_alloc | apply pw_below_drewN | apply below_drew1 | refine below_set ?_ GE220.out) | exact HB.out)))); have n2_ := Aside0.mk (Kd.R_lower ho2 (below_size (by repeat (first | (with_reducible first | exact HB.out | apply below_alloc | apply pw_below_drewN | apply below_drew1 | refine below_set ?_ GE220.out) | exact HB.out)))); have n3_ := pB BK220 hb; have n4_ := pS HB hb; clear BK220 HB; have HO224 := n0_; have HO227 := n1_; have HO230 := n2_; have BK220 := n3_; have HB := n4_; clear n0_ n1_ n2_ n3_ n4_; (try clear hb); (try clear hb2); (try clear hk); (try clear hi); (try clear ho0); (try clear ho1); (try clear ho2); obtain ⟨Ao19, co19, eo19⟩ := Kd.R_slice HO224.out; subst eo19; obtain ⟨Ao20, co20, eo20⟩ := Kd.R_slice HO227.out; subst eo20; obtain ⟨Ao21, co21, eo21⟩ := Kd.R_slice HO230.out; subst eo21) | ((with_reducible refine gate_callee (f := 15) rfl ?_); refine goesL_ (some 26) rfl rfl Try.func15 (by kernel_rfl) rfl #[.agg #[.slice Ao19 t222.length co19, .slice Ao20 t225.length co20, .slice Ao21 t228.length co21], .string a1, .int .i64 a2] rfl (by (try simp only [List.map_toArray, List.map_cons, List.map_nil]); first | done | rfl | (simp only [List.length_drop, List.length_take]; rfl)) ?_; (with_reducible refine (spec_LineAt.calls k _ _ t222 _ _ t225 _ _ t228 a1 a2 t231 t232 _ ?side1 ?side2 ?side3 ?side4 ?side5 ?side6 A11.out).mono ?_); (case side1 => repeat (first | exact (Kd.R_reads' HO224.out).2.2 | (with_reducible refine Kd.C_alloc ?_ _) | (with_reducible refine Kd.C_drewN ?_ _) | (with_reducible refine Kd.C_drew ?_))); (case side2 => exact (Kd.R_reads' HO224.out).2.1); (case side3 => repeat (first | exact (Kd.R_reads' HO227.out).2.2 | (with_reducible refine Kd.C_alloc ?_ _) | (with_reducible refine Kd.C_drewN ?_ _) | (with_reducible refine Kd.C_drew ?_))); (case side4 => exact (Kd.R_reads' HO227.out).2.1); (case side5 => repeat (first | exact (Kd.R_reads' HO230.out).2.2 | (with_reducible refine Kd.C_alloc ?_ _) | (with_reducible refine Kd.C_drewN ?_ _) | (with_reducible refine Kd.C_drew ?_))); (case side6 => exact (Kd.R_reads' HO230.out).2.1); rintro e w22 ⟨rfl, hb⟩; refine ⟨_, rfl, ?_⟩; have n0_ := Aside0.mk (Kd.R_below (by (with_reducible repeat (first | apply Kd.R_alloc | apply Kd.R_drewN | apply Kd.R_drew)); exact HO224.out) hb); have n1_ := Aside0.mk (Kd.R_below (by (with_reducible repeat (first | apply Kd.R_alloc | apply Kd.R_drewN | apply Kd.R_drew)); exact HO227.out) hb); have n2_ := Aside0.mk (Kd.R_below (by (with_reducible repeat (first | apply Kd.R_alloc | apply Kd.R_drewN | apply Kd.R_drew)); exact HO230.out) hb); have n3_ := pB BK220 hb; have n4_ := pS HB hb; clear HO224 HO227; clear HO230 BK220 HB; have HO224 := n0_; have HO227 := n1_; have HO230 := n2_; have BK220 := n3_; have HB := n4_; clear n0_ n1_ n2_ n3_ n4_; (try clear hb); (try clear hb2); (try clear hk); (try clear hi); obtain ⟨hcz23_0, hcz23_1, hcz23_2, hfz23_0, hfz23_1, hfz23_2⟩ := cz3 BK220) | ((with_reducible refine gate_callee (f := 12) rfl ?_); refine goesL_ (some 30) rfl rfl Try.func12 (by kernel_rfl) rfl #[.agg #[.slice A0_0 l0_0.length c0_0, .slice A0_1 l0_1.length c0_1, .slice A0_2 l0_2.length c0_2]] rfl (by (try simp only [List.map_toArray, List.map_cons, List.map_nil]); first | done | rfl | (simp only [List.length_drop, List.length_take]; rfl)) ?_; (with_reducible refine (laws_toRig.calls k _ _ l0_0 _ _ l0_1 _ _ l0_2 t233 t236 t239 _ ?side1 ?side2 ?side3 ?side4 ?side5 ?side6 A12.out).mono ?_); (case side1 => repeat (first | exact (Kd.C_below HR0_0.out HB.out) | (with_reducible refine Kd.C_alloc ?_ _) | (with_reducible refine Kd.C_drewN ?_ _) | (with_reducible refine Kd.C_drew ?_))); (case side2 => exact HC0_0.out); (case side3 => repeat (first | exact (Kd.C_below HR0_1.out HB.out) | (with_reducible refine Kd.C_alloc ?_ _) | (with_reducible refine Kd.C_drewN ?_ _) | (with_reducible refine Kd.C_drew ?_))); (case side4 => exact HC0_1.out); (case side5 => repeat (first | exact (Kd.C_below HR0_2.out HB.out) | (with_reducible refine Kd.C_alloc ?_ _) | (with_reducible refine Kd.C_drewN ?_ _) | (with_reducible refine Kd.C_drew ?_))); (case side6 => exact HC0_2.out); rintro e w24 ⟨v234, v237, v240, rfl, ho0, ho1, ho2, hb⟩; refine ⟨_, rfl, ?_⟩; have n0_ := Aside0.mk (Kd.R_elder' (by (with_reducible repeat (first | apply Kd.R_alloc | apply Kd.R_drewN | apply Kd.R_drew)); exact HO224.out) (Kd.R_base ho0) hb); have n1_ := Aside0.mk (Kd.R_elder' (by (with_reducible repeat (first | apply Kd.R_alloc | apply Kd.R_drewN | apply Kd.R_drew)); exact HO227.out) (Kd.R_base ho1) hb); have n2_ := Aside0.mk (Kd.R_elder' (by (with_reducible repeat (first | apply Kd.R_alloc | apply Kd.R_drewN | apply Kd.R_drew)); exact HO230.out) (Kd.R_base ho2) hb); have n3_ := Aside0.mk (Kd.R_lower (Kd.R_new' ho0 (Kd.R_lt (by (with_reducible repeat (first | apply Kd.R_alloc | apply Kd.R_drewN | apply Kd.R_drew)); exact HO224.out))) (below_size (by repeat (first | (with_reducible first | exact HB.out | apply below_alloc | apply pw_below_drewN | apply below_drew1 | refine below_set ?_ GE220.out) | exact HB.out)))); have n4_ := Aside0.mk (Kd.R_lower (Kd.R_new' ho1 (Kd.R_lt (by (with_reducible repeat (first | apply Kd.R_alloc | apply Kd.R_drewN | apply Kd.R_drew)); exact HO227.out))) (below_size (by repeat (first | (with_reducible first | exact HB.out | apply below_alloc | apply pw_below_drewN | apply below_drew1 | refine below_set ?_ GE220.out) | exact HB.out)))); have n5_ := Aside0.mk (Kd.R_lower (Kd.R_new' ho2 (Kd.R_lt (by (with_reducible repeat (first | apply Kd.R_alloc | apply Kd.R_drewN | apply Kd.R_drew)); exact HO230.out))) (below_size (by repeat (first | (with_reducible first | exact HB.out | apply below_alloc | apply pw_below_drewN | apply below_drew1 | refine below_set ?_ GE220.out) | exact HB.out)))); have n6_ := pB BK220 hb; have n7_ := pS HB hb; clear HO224 HO227; clear HO230 BK220 HB; have HO224 := n0_; have HO227 := n1_; have HO230 := n2_; have HO235 := n3_; have HO238 := n4_; have HO241 := n5_; have BK220 := n6_; have HB := n7_; clear n0_ n1_ n2_ n3_ n4_ n5_ n6_ n7_; (try clear hb); (try clear hb2); (try clear hk); (try clear hi); (try clear ho0); (try clear ho1); (try clear ho2)) | ((with_reducible refine gate_dst (N := 10) rfl ?_); refine box_event ?hg (N := 10) ?hd (cs := #[.slice none 0 0, .slice none 0 0, .slice none 0 0]) (t := 32) ?hr ?_; (case hd => rfl); (case hg => rfl); (case hr => first | (go_simp; done) | (go_simp; rfl)); intro gb242 hg w25 hbox hb; have n0_ := Aside0.mk (Kd.R_below (by (with_reducible repeat (first | apply Kd.R_alloc | apply Kd.R_drewN | apply Kd.R_drew)); exact HO224.out) hb); have n1_ := Aside0.mk (Kd.R_below (by (with_reducible repeat (first | apply Kd.R_alloc | apply Kd.R_drewN | apply Kd.R_drew)); exact HO227.out) hb); have n2_ := Aside0.mk (Kd.R_below (by (with_reducible repeat (first | apply Kd.R_alloc | apply Kd.R_drewN | apply Kd.R_drew)); exact HO230.out) hb); have n3_ := Aside0.mk (Kd.R_below (by (with_reducible repeat (first | apply Kd.R_alloc | apply Kd.R_drewN | apply Kd.R_drew)); exact HO235.out) hb); have n4_ := Aside0.mk (Kd.R_below (by (with_reducible repeat (first | apply Kd.R_alloc | apply Kd.R_drewN | apply Kd.R_drew)); exact HO238.out) hb); have n5_ := Aside0.mk (Kd.R_below (by (with_reducible repeat (first | apply Kd.R_alloc | apply Kd.R_drewN | apply Kd.R_drew)); exact HO241.out) hb); have n6_ := pB BK220 hb; have n7_ := pS HB hb; have n8_ := Aside0.mk (hbox); have n9_ := pG HB hg; have n10_ := pG HB hg; have n11_ := pN BK220 hg; have n12_ := pM BK220 hg; clear HO224 HO227; clear HO230 HO235; clear HO238 HO241; clear BK220 HB; have HO224 := n0_; have HO227 := n1_; have HO230 := n2_; have HO235 := n3_; have HO238 := n4_; have HO241 := n5_; have BK220 := n6_; have HB := n7_; have BK242 := n8_; have GW242 := n9_; have GE242 := n10_; have NB220_242 := n11_; have NB242_220 := n12_; clear n0_ n1_ n2_ n3_ n4_ n5_ n6_ n7_ n8_ n9_ n10_ n11_ n12_; clear hb hbox hg; obtain ⟨Ao26, co26, eo26⟩ := Kd.R_slice HO235.out; subst eo26; have hnb27 := NB242_220.out; have hnc27 := NB220_242.out; obtain ⟨hcz28_0, hcz28_1, hcz28_2, hfz28_0, hfz28_1, hfz28_2⟩ := cz3 BK242; obtain ⟨Ao29, co29, eo29⟩ := Kd.R_slice HO238.out; subst eo29; obtain ⟨Ao30, co30, eo30⟩ := Kd.R_slice HO241.out; subst eo30) | ((with_reducible refine gate_callee (f := 16) rfl ?_); refine goesL_ (some 35) rfl rfl Try.func16 (by kernel_rfl) rfl #[.agg #[.slice Ao26 t233.length co26, .slice Ao29 t236.length co29, .slice Ao30 t239.length co30], .string a1, .int .i64 a2] rfl (by (try simp only [List.map_toArray, List.map_cons, List.map_nil]); first | done | rfl | (simp only [List.length_drop, List.length_take]; rfl)) ?_; (with_reducible refine (impl_LineAt.calls k _ _ t233 _ _ t236 _ _ t239 a1 a2 t243 t244 _ ?side1 ?side2 ?side3 ?side4 ?side5 ?side6 A13.out).mono ?_); (case side1 => refine (Kd.R_reads' (e := 69) (base := w.heap.size) (ok := fun k_ => (True ∧ some k_ ≠ (.slice Ao19 t222.length co19 : Value).ownBlock)) (n := t233.length) (c := co26) ?_).2.2; exact (by (with_reducible repeat (first | apply Kd.R_alloc | apply Kd.R_drewN | apply Kd.R_drew)); exact (Kd.R_mono (Kd.R_far (p := ⟨gb242, 2, none⟩) (Kd.R_far (p := ⟨gb242, 1, none⟩) (Kd.R_far (p := ⟨gb242, 0, none⟩) (Kd.R_types HO235.out BK242.out (by decide)) (fun _ hk => hk.2) (.slice Ao26 t233.length co26)) (fun _ hk => hk.2) (.slice Ao29 t236.length co29)) (fun _ hk => hk.2) (.slice Ao30 t239.length co30)) (fun _ h_ => h_.1)))); (case side2 => exact (Kd.R_reads' HO235.out).2.1); (case side3 => refine (Kd.R_reads' (e := 9) (base := w.heap.size) (ok := fun k_ => (True ∧ some k_ ≠ (.slice Ao20 t225.length co20 : Value).ownBlock)) (n := t236.length) (c := co29) ?_).2.2; exact (by (with_reducible repeat (first | apply Kd.R_alloc | apply Kd.R_drewN | apply Kd.R_drew)); exact (Kd.R_mono (Kd.R_far (p := ⟨gb242, 2, none⟩) (Kd.R_far (p := ⟨gb242, 1, none⟩) (Kd.R_far (p := ⟨gb242, 0, none⟩) (Kd.R_types HO238.out BK242.out (by decide)) (fun _ hk => hk.2) (.slice Ao26 t233.length co26)) (fun _ hk => hk.2) (.slice Ao29 t236.length co29)) (fun _ hk => hk.2) (.slice Ao30 t239.length co30)) (fun _ h_ => h_.1)))); (case side4 => exact (Kd.R_reads' HO238.out).2.1); (case side5 => refine (Kd.R_reads' (e := 40) (base := w.heap.size) (ok := fun k_ => (True ∧ some k_ ≠ (.slice Ao21 t228.length co21 : Value).ownBlock)) (n := t239.length) (c := co30) ?_).2.2; exact (by (with_reducible repeat (first | apply Kd.R_alloc | apply Kd.R_drewN | apply Kd.R_drew)); exact (Kd.R_mono (Kd.R_far (p := ⟨gb242, 2, none⟩) (Kd.R_far (p := ⟨gb242, 1, none⟩) (Kd.R_far (p := ⟨gb242, 0, none⟩) (Kd.R_types HO241.out BK242.out (by decide)) (fun _ hk => hk.2) (.slice Ao26 t233.length co26)) (fun _ hk => hk.2) (.slice Ao29 t236.length co29)) (fun _ hk => hk.2) (.slice Ao30 t239.length co30)) (fun _ h_ => h_.1)))); (case side6 => exact (Kd.R_reads' HO241.out).2.1); rintro e w31 ⟨rfl, hb⟩; refine ⟨_, rfl, ?_⟩; have n0_ := Aside0.mk (Kd.R_below (by (with_reducible repeat (first | apply Kd.R_alloc | apply Kd.R_drewN | apply Kd.R_drew)); exact (Kd.R_mono (Kd.R_far (p := ⟨gb242, 2, none⟩) (Kd.R_far (p := ⟨gb242, 1, none⟩) (Kd.R_far (p := ⟨gb242, 0, none⟩) (Kd.R_types HO224.out BK242.out (by decide)) (fun _ hk => hk.2) (.slice Ao26 t233.length co26)) (fun _ hk => hk.2) (.slice Ao29 t236.length co29)) (fun _ hk => hk.2) (.slice Ao30 t239.length co30)) (fun _ h_ => h_.1))) hb); have n1_ := Aside0.mk (Kd.R_below (by (with_reducible repeat (first | apply Kd.R_alloc | apply Kd.R_drewN | apply Kd.R_drew)); exact (Kd.R_mono (Kd.R_far (p := ⟨gb242, 2, none⟩) (Kd.R_far (p := ⟨gb242, 1, none⟩) (Kd.R_far (p := ⟨gb242, 0, none⟩) (Kd.R_types HO227.out BK242.out (by decide)) (fun _ hk => hk.2) (.slice Ao26 t233.length co26)) (fun _ hk => hk.2) (.slice Ao29 t236.length co29)) (fun _ hk => hk.2) (.slice Ao30 t239.length co30)) (fun _ h_ => h_.1))) hb); have n2_ := Aside0.mk (Kd.R_below (by (with_reducible repeat (first | apply Kd.R_alloc | apply Kd.R_drewN | apply Kd.R_drew)); exact (Kd.R_mono (Kd.R_far (p := ⟨gb242, 2, none⟩) (Kd.R_far (p := ⟨gb242, 1, none⟩) (Kd.R_far (p := ⟨gb242, 0, none⟩) (Kd.R_types HO230.out BK242.out (by decide)) (fun _ hk => hk.2) (.slice Ao26 t233.length co26)) (fun _ hk => hk.2) (.slice Ao29 t236.length co29)) (fun _ hk => hk.2) (.slice Ao30 t239.length co30)) (fun _ h_ => h_.1))) hb); have n3_ := Aside0.mk (Kd.R_below (by (with_reducible repeat (first | apply Kd.R_alloc | apply Kd.R_drewN | apply Kd.R_drew)); exact (Kd.R_mono (Kd.R_far (p := ⟨gb242, 2, none⟩) (Kd.R_far (p := ⟨gb242, 1, none⟩) (Kd.R_far (p := ⟨gb242, 0, none⟩) (Kd.R_types HO235.out BK242.out (by decide)) (fun _ hk => hk.2) (.slice Ao26 t233.length co26)) (fun _ hk => hk.2) (.slice Ao29 t236.length co29)) (fun _ hk => hk.2) (.slice Ao30 t239.length co30)) (fun _ h_ => h_.1))) hb); have n4_ := Aside0.mk (Kd.R_below (by (with_reducible repeat (first | apply Kd.R_alloc | apply Kd.R_drewN | apply Kd.R_drew)); exact (Kd.R_mono (Kd.R_far (p := ⟨gb242, 2, none⟩) (Kd.R_far (p := ⟨gb242, 1, none⟩) (Kd.R_far (p := ⟨gb242, 0, none⟩) (Kd.R_types HO238.out BK242.out (by decide)) (fun _ hk => hk.2) (.slice Ao26 t233.length co26)) (fun _ hk => hk.2) (.slice Ao29 t236.length co29)) (fun _ hk => hk.2) (.slice Ao30 t239.length co30)) (fun _ h_ => h_.1))) hb); have n5_ := Aside0.mk (Kd.R_below (by (with_reducible repeat (first | apply Kd.R_alloc | apply Kd.R_drewN | apply Kd.R_drew)); exact (Kd.R_mono (Kd.R_far (p := ⟨gb242, 2, none⟩) (Kd.R_far (p := ⟨gb242, 1, none⟩) (Kd.R_far (p := ⟨gb242, 0, none⟩) (Kd.R_types HO241.out BK242.out (by decide)) (fun _ hk => hk.2) (.slice Ao26 t233.length co26)) (fun _ hk => hk.2) (.slice Ao29 t236.length co29)) (fun _ hk => hk.2) (.slice Ao30 t239.length co30)) (fun _ h_ => h_.1))) hb); have n6_ := Aside0.mk (blk_below (g := gb220) (o := .cells #[.slice A0_0 l0_0.length c0_0, .slice A0_1 l0_1.length c0_1, .slice A0_2 l0_2.length c0_2] 26 (0, 0)) (by (with_reducible repeat (first | refine blk_drewN ?_ _ | refine blk_drew ?_ | refine blk_alloc ?_ _)); refine blk_far ?_ NB220_242.out _; (with_reducible repeat (first | refine blk_drewN ?_ _ | refine blk_drew ?_ | refine blk_alloc ?_ _)); refine blk_far ?_ NB220_242.out _; (with_reducible repeat (first | refine blk_drewN ?_ _ | refine blk_drew ?_ | refine blk_alloc ?_ _)); refine blk_far ?_ NB220_242.out _; (with_reducible repeat (first | refine blk_drewN ?_ _ | refine blk_drew ?_ | refine blk_alloc ?_ _)); exact BK220.out) hb); have n7_ := Aside0.mk (blk_below (g := gb242) (o := .cells #[.slice Ao26 t233.length co26, .slice Ao29 t236.length co29, .slice Ao30 t239.length co30] 32 (0, 0)) (by (with_reducible repeat (first | refine blk_drewN ?_ _ | refine blk_drew ?_ | refine blk_alloc ?_ _)); refine blk_put (cs := #[.slice Ao26 t233.length co26, .slice Ao29 t236.length co29, .slice none 0 0]) ?_ 2 _ rfl; (with_reducible repeat (first | refine blk_drewN ?_ _ | refine blk_drew ?_ | refine blk_alloc ?_ _)); refine blk_put (cs := #[.slice Ao26 t233.length co26, .slice none 0 0, .slice none 0 0]) ?_ 1 _ rfl; (with_reducible repeat (first | refine blk_drewN ?_ _ | refine blk_drew ?_ | refine blk_alloc ?_ _)); refine blk_put (cs := #[.slice none 0 0, .slice none 0 0, .slice none 0 0]) ?_ 0 _ rfl; (with_reducible repeat (first | refine blk_drewN ?_ _ | refine blk_drew ?_ | refine blk_alloc ?_ _)); exact BK242.out) hb); have n8_ := pS HB hb; clear HO224 HO227; clear HO230 HO235; clear HO238 HO241; clear BK220 BK242 HB; have HO224 := n0_; have HO227 := n1_; have HO230 := n2_; have HO235 := n3_; have HO238 := n4_; have HO241 := n5_; have BK220 := n6_; have BK242 := n7_; have HB := n8_; clear n0_ n1_ n2_ n3_ n4_ n5_ n6_ n7_ n8_; (try clear hb); (try clear hb2); (try clear hk); (try clear hi)))
   (try simp only [Act.put, List.setIfInBounds_toArray, List.set_cons_zero, List.set_cons_succ])
   go_cut [45] (fun v45 wc => ∃ (kq : Nat) (x45_13 : Bool), v45 = .bool x45_13 ∧ Aside0 (laws_FnExactLineAt.j0 kq x45_13 l0_0 l0_1 l0_2 t233 t236 t239 = some r) ∧ Aside0 (kq ≤ k) ∧ Aside0 (Kd.R k69 69 wc w.heap.size (fun _ => True) (.slice Ao26 t233.length co26) t233) ∧ Aside0 (Kd.R Kd.string 9 wc w.heap.size (fun _ => True) (.slice Ao29 t236.length co29) t236) ∧ Aside0 (Kd.R k40 40 wc w.heap.size (fun _ => True) (.slice Ao30 t239.length co30) t239) ∧ Aside0 (wc.heap[gb220]? = some (.cells #[(.slice A0_0 l0_0.length c0_0), (.slice A0_1 l0_1.length c0_1), (.slice A0_2 l0_2.length c0_2)] 26 (0, 0))) ∧ Aside0 (wc.heap[gb242]? = some (.cells #[(.slice Ao26 t233.length co26), (.slice Ao29 t236.length co29), (.slice Ao30 t239.length co30)] 32 (0, 0))) ∧ Aside0 (Below w.heap.size w wc))
   case first =>
    have H := HC14.out
    clear HC14
    by_cases c32 : t243.toList = t231.toList
    ·rw [if_pos c32] at H
     have c32b0 : (t243.toList == t231.toList) = true := beq_iff_eq.mpr c32
     have c32b1 : (t243.toList != t231.toList) = false := bne_eq_false_iff_eq.mpr c32
     clear c32
     (first | rw [c32b0] | (simp only [i64_w, i32_w]; rw [c32b0]) | skip)
     have H' := Aside0.mk H
     clear H
     go_wp2
     go_meet
     case rel => exact ⟨_, ((t244 != t232)), (by first | rfl | (simp; done) | (simp [*]; done)), H', ⟨by first | omega | exact Nat.le_refl _⟩, ⟨by (with_reducible repeat (first | apply Kd.R_alloc | apply Kd.R_drewN | apply Kd.R_drew)); exact Kd.R_mono HO235.out (fun _ hk => trivial)⟩, ⟨by (with_reducible repeat (first | apply Kd.R_alloc | apply Kd.R_drewN | apply Kd.R_drew)); exact Kd.R_mono HO238.out (fun _ hk => trivial)⟩, ⟨by (with_reducible repeat (first | apply Kd.R_alloc | apply Kd.R_drewN | apply Kd.R_drew)); exact Kd.R_mono HO241.out (fun _ hk => trivial)⟩, ⟨by (with_reducible repeat (first | refine blk_drewN ?_ _ | refine blk_drew ?_ | refine blk_alloc ?_ _)); exact BK220.out⟩, ⟨by (with_reducible repeat (first | refine blk_drewN ?_ _ | refine blk_drew ?_ | refine blk_alloc ?_ _)); exact BK242.out⟩, ⟨by repeat (first | (with_reducible first | exact HB.out | apply below_alloc | apply pw_below_drewN | apply below_drew1 | refine below_set ?_ GE220.out | refine below_set ?_ GE242.out) | exact HB.out)⟩⟩
    ·rw [if_neg c32] at H
     have c32b0 : (t243.toList == t231.toList) = false := beq_eq_false_iff_ne.mpr c32
     have c32b1 : (t243.toList != t231.toList) = true := bne_iff_ne.mpr c32
     (first | rw [c32b0] | (simp only [i64_w, i32_w]; rw [c32b0]) | skip)
     have H' := Aside0.mk H
     clear H
     go_wp2
     go_meet
     case rel => exact ⟨_, (true), (by first | rfl | (simp; done) | (simp [*]; done)), H', ⟨by first | omega | exact Nat.le_refl _⟩, ⟨by (with_reducible repeat (first | apply Kd.R_alloc | apply Kd.R_drewN | apply Kd.R_drew)); exact Kd.R_mono HO235.out (fun _ hk => trivial)⟩, ⟨by (with_reducible repeat (first | apply Kd.R_alloc | apply Kd.R_drewN | apply Kd.R_drew)); exact Kd.R_mono HO238.out (fun _ hk => trivial)⟩, ⟨by (with_reducible repeat (first | apply Kd.R_alloc | apply Kd.R_drewN | apply Kd.R_drew)); exact Kd.R_mono HO241.out (fun _ hk => trivial)⟩, ⟨by (with_reducible repeat (first | refine blk_drewN ?_ _ | refine blk_drew ?_ | refine blk_alloc ?_ _)); exact BK220.out⟩, ⟨by (with_reducible repeat (first | refine blk_drewN ?_ _ | refine blk_drew ?_ | refine blk_alloc ?_ _)); exact BK242.out⟩, ⟨by repeat (first | (with_reducible first | exact HB.out | apply below_alloc | apply pw_below_drewN | apply below_drew1 | refine below_set ?_ GE220.out | refine below_set ?_ GE242.out) | exact HB.out)⟩⟩
   case rest =>
    clear HC14
    try clear c1
    try clear c2
    try clear p2
    try clear c3
    try clear c4
    try clear c5
    try clear c5b0
    try clear c5b1
    try clear c7
    try clear c7b0
    try clear c10
    try clear c12
    try clear c15
    try clear c16
    try clear c27
    try clear c32
    try clear c32b0
    try clear c32b1
    try clear hcz15_0
    try clear hcz15_1
    try clear hcz15_2
    try clear hcz17_0
    try clear hcz17_1
    try clear hcz17_2
    try clear hcz23_0
    try clear hcz23_1
    try clear hcz23_2
    try clear hcz28_0
    try clear hcz28_1
    try clear hcz28_2
    try clear hcz8_0
    try clear hcz8_1
    try clear hcz8_2
    try clear hfz15_0
    try clear hfz15_1
    try clear hfz15_2
    try clear hfz17_0
    try clear hfz17_1
    try clear hfz17_2
    try clear hfz23_0
    try clear hfz23_1
    try clear hfz23_2
    try clear hfz28_0
    try clear hfz28_1
    try clear hfz28_2
    try clear hfz8_0
    try clear hfz8_1
    try clear hfz8_2
    obtain ⟨kq, x45_13, rfl, HA, HJ13, HO_243000, HO_243001, HO_243002, BK220, BK242, HB⟩ := hcut
    cases kq with
    | zero => exact absurd HA.out (by simp [laws_FnExactLineAt.j0])
    | succ kj13 =>
     have H := HA.out
     clear HA
     simp only [laws_FnExactLineAt.j0] at H
     by_cases c33 : x45_13 = true
     ·subst c33
      have H1 : (some false) = some r := by rw [if_pos rfl] at H; exact H
      clear H
      have H := H1
      clear H1
      obtain rfl := Option.some.inj H
      exact absurd HRT.out (by decide)
     ·replace c33 := Bool.eq_false_iff.mpr c33
      subst c33
      have H1 : ((laws_toRig.f kj13 l0_0 l0_1 l0_2).bind fun bt245 => ((laws_eqRig.f kj13 t233 t236 t239 bt245.1 bt245.2.1 bt245.2.2).bind fun t254 => (if t254 = true then (some true) else (some false)))) = some r := by rw [if_neg (show ¬ (false = true) by decide)] at H; exact H
      clear H
      have H := H1
      clear H1
      replace H := Option.bind_eq_some_iff.mp H
      obtain ⟨⟨t245, t248, t251⟩, A340, H⟩ := H
      replace H : ((laws_eqRig.f kj13 t233 t236 t239 t245 t248 t251).bind fun t254 => (if t254 = true then (some true) else (some false))) = some r := H
      have A34 := Aside0.mk A340
      clear A340
      replace H := Option.bind_eq_some_iff.mp H
      obtain ⟨t254, A350, H⟩ := H
      replace H : (if t254 = true then (some true) else (some false)) = some r := H
      have A35 := Aside0.mk A350
      clear A350
      by_cases c36 : t254 = true
      ·subst c36
       have H1 : (some true) = some r := by rw [if_pos rfl] at H; exact H
       clear H
       have H := H1
       clear H1
       obtain rfl := Option.some.inj H
       simp only [Option.some.injEq, Prod.mk.injEq] at H
       obtain ⟨rfl⟩ := H
       try go_wp2
       have n0_ := Aside0.mk (Kd.R_drew HO_243000.out)
       have n1_ := Aside0.mk (Kd.R_drew HO_243001.out)
       have n2_ := Aside0.mk (Kd.R_drew HO_243002.out)
       have n3_ := Aside0.mk (blk_drew BK220.out)
       have n4_ := Aside0.mk (blk_drew BK242.out)
       have n5_ := Aside0.mk (below_drew1 HB.out)
       clear HO_243000
       clear HO_243001
       clear HO_243002
       clear BK220
       clear BK242
       clear HB
       have HO_243000 := n0_
       have HO_243001 := n1_
       have HO_243002 := n2_
       have BK220 := n3_
       have BK242 := n4_
       have HB := n5_
       clear n0_ n1_ n2_ n3_ n4_ n5_
       refine start_ (n := 5) (S := fun w' => w'.cell? ⟨gb242, 0, none⟩ = some (.slice Ao26 t233.length co26) ∧ w'.cell? ⟨gb242, 1, none⟩ = some (.slice Ao29 t236.length co29) ∧ w'.cell? ⟨gb242, 2, none⟩ = some (.slice Ao30 t239.length co30) ∧ w'.cell? ⟨gb220, 0, none⟩ = some (.slice A0_0 l0_0.length c0_0) ∧ w'.cell? ⟨gb220, 1, none⟩ = some (.slice A0_1 l0_1.length c0_1) ∧ w'.cell? ⟨gb220, 2, none⟩ = some (.slice A0_2 l0_2.length c0_2)) (ds := []) #[F,F,F,F,F] (by kernel_rfl) rfl rfl ⟨(blk_cell BK242.out 0).trans rfl, (blk_cell BK242.out 1).trans rfl, (blk_cell BK242.out 2).trans rfl, (blk_cell BK220.out 0).trans rfl, (blk_cell BK220.out 1).trans rfl, (blk_cell BK220.out 2).trans rfl⟩ (fun hHeld => ?_)
       generalize wc.drew = w37 at HO_243000 HO_243001 HO_243002 BK220 BK242 HB hHeld ⊢
       refine take_ (i := 0) (N := some 46) (v := ?_) (a' := ?_) #[T,F,F,F,F] rfl rfl (by kernel_rfl) (fun _ _ _ h => h) (Or.inl ⟨by rfl, ?_⟩) hHeld ?_ ?_
       rotate_left
       ·rintro w' ⟨s0, s1, s2, s3, s4, s5⟩
        go_simp
        with_reducible rfl
       rotate_left
       ·simp only [NS]
        rfl
       refine take_ (i := 1) (N := some 47) (v := ?_) (a' := ?_) #[T,T,F,F,F] rfl rfl (by kernel_rfl) (fun _ _ _ h => h) (Or.inl ⟨by rfl, ?_⟩) hHeld ?_ ?_
       rotate_left
       ·rintro w' ⟨s0, s1, s2, s3, s4, s5⟩
        go_simp
        with_reducible rfl
       rotate_left
       ·simp only [NS]
        rfl
       refine one_ (i := 2) (N := some 48) #[T,T,T,F,F] rfl rfl (by kernel_rfl) (by decide) (fun K hK => ?_)
       refine goes_ Try.func12 (by kernel_rfl) rfl #[.agg #[.slice A0_0 l0_0.length c0_0, .slice A0_1 l0_1.length c0_1, .slice A0_2 l0_2.length c0_2]] (by rfl) rfl rfl (by (try simp only [List.map_toArray, List.map_cons, List.map_nil]); first | done | rfl | (simp only [List.length_drop, List.length_take]; rfl)) ?_
       with_reducible refine (laws_toRig.calls kj13 _ _ l0_0 _ _ l0_1 _ _ l0_2 t245 t248 t251 _ ?side1 ?side2 ?side3 ?side4 ?side5 ?side6 A34.out).mono ?_
       (case side1 => repeat (first | exact (Kd.C_below HR0_0.out HB.out) | (with_reducible refine Kd.C_alloc ?_ _) | (with_reducible refine Kd.C_drewN ?_ _) | (with_reducible refine Kd.C_drew ?_)))
       (case side2 => exact HC0_0.out)
       (case side3 => repeat (first | exact (Kd.C_below HR0_1.out HB.out) | (with_reducible refine Kd.C_alloc ?_ _) | (with_reducible refine Kd.C_drewN ?_ _) | (with_reducible refine Kd.C_drew ?_)))
       (case side4 => exact HC0_1.out)
       (case side5 => repeat (first | exact (Kd.C_below HR0_2.out HB.out) | (with_reducible refine Kd.C_alloc ?_ _) | (with_reducible refine Kd.C_drewN ?_ _) | (with_reducible refine Kd.C_drew ?_)))
       (case side6 => exact HC0_2.out)
       rintro e w38 ⟨v246, v249, v252, rfl, ho0, ho1, ho2, hb⟩
       refine ⟨_, rfl, ?_⟩
       have n0_ := Aside0.mk (Kd.R_elder' (by (with_reducible repeat (first | apply Kd.R_alloc | apply Kd.R_drewN | apply Kd.R_drew)); exact HO_243000.out) (Kd.R_base ho0) hb)
       have n1_ := Aside0.mk (Kd.R_elder' (by (with_reducible repeat (first | apply Kd.R_alloc | apply Kd.R_drewN | apply Kd.R_drew)); exact HO_243001.out) (Kd.R_base ho1) hb)
       have n2_ := Aside0.mk (Kd.R_elder' (by (with_reducible repeat (first | apply Kd.R_alloc | apply Kd.R_drewN | apply Kd.R_drew)); exact HO_243002.out) (Kd.R_base ho2) hb)
       have n3_ := Aside0.mk (Kd.R_lower (Kd.R_new' ho0 (Kd.R_lt (by (with_reducible repeat (first | apply Kd.R_alloc | apply Kd.R_drewN | apply Kd.R_drew)); exact HO_243000.out))) (below_size (by repeat (first | (with_reducible first | exact HB.out | apply below_alloc | apply pw_below_drewN | apply below_drew1 | refine below_set ?_ GE220.out | refine below_set ?_ GE242.out) | exact HB.out))))
       have n4_ := Aside0.mk (Kd.R_lower (Kd.R_new' ho1 (Kd.R_lt (by (with_reducible repeat (first | apply Kd.R_alloc | apply Kd.R_drewN | apply Kd.R_drew)); exact HO_243001.out))) (below_size (by repeat (first | (with_reducible first | exact HB.out | apply below_alloc | apply pw_below_drewN | apply below_drew1 | refine below_set ?_ GE220.out | refine below_set ?_ GE242.out) | exact HB.out))))
       have n5_ := Aside0.mk (Kd.R_lower (Kd.R_new' ho2 (Kd.R_lt (by (with_reducible repeat (first | apply Kd.R_alloc | apply Kd.R_drewN | apply Kd.R_drew)); exact HO_243002.out))) (below_size (by repeat (first | (with_reducible first | exact HB.out | apply below_alloc | apply pw_below_drewN | apply below_drew1 | refine below_set ?_ GE220.out | refine below_set ?_ GE242.out) | exact HB.out))))
       have n6_ := pB BK220 hb
       have n7_ := pB BK242 hb
       have n8_ := pS HB hb
       clear HO_243000
       clear HO_243001
       clear HO_243002
       clear BK220
       clear BK242
       clear HB
       have HO_243000 := n0_
       have HO_243001 := n1_
       have HO_243002 := n2_
       have HO247 := n3_
       have HO250 := n4_
       have HO253 := n5_
       have BK220 := n6_
       have BK242 := n7_
       have HB := n8_
       clear n0_ n1_ n2_ n3_ n4_ n5_ n6_ n7_ n8_
       (try clear hb)
       (try clear hb2)
       (try clear hk)
       (try clear hi)
       (try clear ho0)
       (try clear ho1)
       (try clear ho2)
       obtain ⟨Ao39, co39, eo39⟩ := Kd.R_slice HO247.out
       (first | subst eo39 | (injection eo39 with f1_ f2_ f3_; have f4_ := f1_.symm; have f5_ := f3_.symm; clear f1_ f2_ f3_; subst f4_; subst f5_))
       obtain ⟨Ao40, co40, eo40⟩ := Kd.R_slice HO250.out
       (first | subst eo40 | (injection eo40 with f1_ f2_ f3_; have f4_ := f1_.symm; have f5_ := f3_.symm; clear f1_ f2_ f3_; subst f4_; subst f5_))
       obtain ⟨Ao41, co41, eo41⟩ := Kd.R_slice HO253.out
       (first | subst eo41 | (injection eo41 with f1_ f2_ f3_; have f4_ := f1_.symm; have f5_ := f3_.symm; clear f1_ f2_ f3_; subst f4_; subst f5_))
       refine hK.out _ _ ⟨(blk_cell BK242.out 0).trans rfl, (blk_cell BK242.out 1).trans rfl, (blk_cell BK242.out 2).trans rfl, (blk_cell BK220.out 0).trans rfl, (blk_cell BK220.out 1).trans rfl, (blk_cell BK220.out 2).trans rfl⟩ (fun hHeld => ?_)
       clear hK K
       refine norm_ (a' := ?_) ?_ ?_
       rotate_left
       ·show Act.put _ (some 48) _ = _
        simp only [NS]
        rfl
       refine one_ (i := 3) (N := some 49) #[T,T,T,T,F] rfl rfl (by kernel_rfl) (by decide) (fun K hK => ?_)
       refine goes_ Try.func14 (by kernel_rfl) rfl #[.agg #[.slice Ao26 t233.length co26, .slice Ao29 t236.length co29, .slice Ao30 t239.length co30], .agg #[.slice Ao39 t245.length co39, .slice Ao40 t248.length co40, .slice Ao41 t251.length co41]] (by rfl) rfl rfl (by (try simp only [List.map_toArray, List.map_cons, List.map_nil]); first | done | rfl | (simp only [List.length_drop, List.length_take]; rfl)) ?_
       with_reducible refine (laws_eqRig.calls kj13 _ _ t233 _ _ t236 _ _ t239 _ _ t245 _ _ t248 _ _ t251 true _ ?side1 ?side2 ?side3 ?side4 ?side5 ?side6 ?side7 ?side8 ?side9 ?side10 ?side11 ?side12 A35.out).mono ?_
       (case side1 => repeat (first | exact (Kd.R_reads' HO_243000.out).2.2 | (with_reducible refine Kd.C_alloc ?_ _) | (with_reducible refine Kd.C_drewN ?_ _) | (with_reducible refine Kd.C_drew ?_)))
       (case side2 => exact (Kd.R_reads' HO_243000.out).2.1)
       (case side3 => repeat (first | exact (Kd.R_reads' HO_243001.out).2.2 | (with_reducible refine Kd.C_alloc ?_ _) | (with_reducible refine Kd.C_drewN ?_ _) | (with_reducible refine Kd.C_drew ?_)))
       (case side4 => exact (Kd.R_reads' HO_243001.out).2.1)
       (case side5 => repeat (first | exact (Kd.R_reads' HO_243002.out).2.2 | (with_reducible refine Kd.C_alloc ?_ _) | (with_reducible refine Kd.C_drewN ?_ _) | (with_reducible refine Kd.C_drew ?_)))
       (case side6 => exact (Kd.R_reads' HO_243002.out).2.1)
       (case side7 => repeat (first | exact (Kd.R_reads' HO247.out).2.2 | (with_reducible refine Kd.C_alloc ?_ _) | (with_reducible refine Kd.C_drewN ?_ _) | (with_reducible refine Kd.C_drew ?_)))
       (case side8 => exact (Kd.R_reads' HO247.out).2.1)
       (case side9 => repeat (first | exact (Kd.R_reads' HO250.out).2.2 | (with_reducible refine Kd.C_alloc ?_ _) | (with_reducible refine Kd.C_drewN ?_ _) | (with_reducible refine Kd.C_drew ?_)))
       (case side10 => exact (Kd.R_reads' HO250.out).2.1)
       (case side11 => repeat (first | exact (Kd.R_reads' HO253.out).2.2 | (with_reducible refine Kd.C_alloc ?_ _) | (with_reducible refine Kd.C_drewN ?_ _) | (with_reducible refine Kd.C_drew ?_)))
       (case side12 => exact (Kd.R_reads' HO253.out).2.1)
       rintro e w42 ⟨rfl, hb⟩
       refine ⟨_, rfl, ?_⟩
       have n0_ := Aside0.mk (Kd.R_below (by (with_reducible repeat (first | apply Kd.R_alloc | apply Kd.R_drewN | apply Kd.R_drew)); exact HO_243000.out) hb)
       have n1_ := Aside0.mk (Kd.R_below (by (with_reducible repeat (first | apply Kd.R_alloc | apply Kd.R_drewN | apply Kd.R_drew)); exact HO_243001.out) hb)
       have n2_ := Aside0.mk (Kd.R_below (by (with_reducible repeat (first | apply Kd.R_alloc | apply Kd.R_drewN | apply Kd.R_drew)); exact HO_243002.out) hb)
       have n3_ := Aside0.mk (Kd.R_below (by (with_reducible repeat (first | apply Kd.R_alloc | apply Kd.R_drewN | apply Kd.R_drew)); exact HO247.out) hb)
       have n4_ := Aside0.mk (Kd.R_below (by (with_reducible repeat (first | apply Kd.R_alloc | apply Kd.R_drewN | apply Kd.R_drew)); exact HO250.out) hb)
       have n5_ := Aside0.mk (Kd.R_below (by (with_reducible repeat (first | apply Kd.R_alloc | apply Kd.R_drewN | apply Kd.R_drew)); exact HO253.out) hb)
       have n6_ := pB BK220 hb
       have n7_ := pB BK242 hb
       have n8_ := pS HB hb
       clear HO_243000
       clear HO_243001
       clear HO_243002
       clear HO247
       clear HO250
       clear HO253
       clear BK220
       clear BK242
       clear HB
       have HO_243000 := n0_
       have HO_243001 := n1_
       have HO_243002 := n2_
       have HO247 := n3_
       have HO250 := n4_
       have HO253 := n5_
       have BK220 := n6_
       have BK242 := n7_
       have HB := n8_
       clear n0_ n1_ n2_ n3_ n4_ n5_ n6_ n7_ n8_
       (try clear hb)
       (try clear hb2)
       (try clear hk)
       (try clear hi)
       refine hK.out _ _ ⟨(blk_cell BK242.out 0).trans rfl, (blk_cell BK242.out 1).trans rfl, (blk_cell BK242.out 2).trans rfl, (blk_cell BK220.out 0).trans rfl, (blk_cell BK220.out 1).trans rfl, (blk_cell BK220.out 2).trans rfl⟩ (fun hHeld => ?_)
       clear hK K
       refine norm_ (a' := ?_) ?_ ?_
       rotate_left
       ·show Act.put _ (some 49) _ = _
        simp only [NS]
        rfl
       refine pure_ (i := 4) (N := some 50) (v := ?_) (a' := ?_) #[T,T,T,T,T] rfl rfl (by kernel_rfl) (fun _ _ _ h => h) (Or.inl ⟨by rfl, ?_⟩) ?_ ?_
       rotate_left
       ·intro w'
        go_simp
        with_reducible rfl
       rotate_left
       ·simp only [NS]
        rfl
       refine done_ (by kernel_rfl) ?_
       try go_wp2
       go_ret
       exact ⟨by first | rfl | (simp [errW_none, errW_some] <;> rfl) | (simp [*, errW_none, errW_some] <;> rfl), pR HB⟩
      ·replace c36 := Bool.eq_false_iff.mpr c36
       subst c36
       have H1 : (some false) = some r := by rw [if_neg (show ¬ (false = true) by decide)] at H; exact H
       clear H
       have H := H1
       clear H1
       obtain rfl := Option.some.inj H
       exact absurd HRT.out (by decide)

def laws_FnExactLineAt.Pure : Prop := ∀ (l0_0 : List (S92)) (l0_1 : List ByteArray) (l0_2 : List (S55)) (a1 : ByteArray) (a2 : Int), (l0_0.length ≤ 9223372036854775807 ∧ ∀ y0 ∈ l0_0, (y0.f0.size ≤ 9223372036854775807) ∧ (y0.f1.size ≤ 9223372036854775807) ∧ ((Lit.int .i64 y0.f2).wf = true)) → (l0_1.length ≤ 9223372036854775807 ∧ ∀ y0 ∈ l0_1, y0.size ≤ 9223372036854775807) → (l0_2.length ≤ 9223372036854775807 ∧ ∀ y0 ∈ l0_2, (y0.f0.size ≤ 9223372036854775807) ∧ (y0.f1.size ≤ 9223372036854775807) ∧ ((Lit.int .i64 y0.f2).wf = true)) → (a1.size ≤ 9223372036854775807) → ((Lit.int .i64 a2).wf = true) → ∃ k, laws_FnExactLineAt.f k l0_0 l0_1 l0_2 a1 a2 = some true

end Go.Proofs.Ytpngklefeaolfaa.PFnExactLineAt
