-- Written by a program of this session (wip/tools/pp.sh).
import Derived.Test.YtpngklefeaolfaaPFnExactWrongSidesx0
import Derived.Test.YtpngklefeaolfaaPFnExactWrongSidesx5
import Derived.Test.YtpngklefeaolfaaPFnExactWrongSidesx7
import Derived.Test.YtpngklefeaolfaaPFnExactWrongSidesx9
import Derived.Test.YtpngklefeaolfaaPFnExactWrongSidesx10
namespace Go.Proofs.Ytpngklefeaolfaa.PFnExactWrongSides
open Go.RowKit Go.Proofs.YtpngklefeaolfaaW.PrintWords Go.Proofs.YtpngklefeaolfaaW.PrintLast Go.Proofs.YtpngklefeaolfaaW.PrintMore Go.Proofs.Ytpngklefeaolfaa.Small
open Bool renaming true → T, false → F
attribute [local go_sem] max2_int min2_int max_two min_two max_three min_three max_four min_four   -- for this text's walks alone
set_option linter.unusedVariables false
set_option linter.unusedSimpArgs false

/-! ### impl_ValidRig: function 13, by hand -/
def impl_ValidRig.l2 : Nat → List (S69) → List ByteArray → List (S40) → Int → Option (Bool)
 | 0, _, _, _, _ => none
 | k + 1, x0, x1, x2, x3 => if x3 < (x2.length : Int) then (if 0 ≤ x3 then ((impl_addBelay.f k x0 x1 (x2.take x3.toNat) ((rd_T40 x2 x3).f0) ((rd_T40 x2 x3).f1) ((rd_T40 x2 x3).f2)).bind fun t1 => (if t1 = 0 then (impl_ValidRig.l2 k x0 x1 x2 (wrap64 (x3 + 1))) else (some false))) else (none)) else (some true)
def impl_ValidRig.l1 : Nat → List (S69) → List ByteArray → List (S40) → Int → Option (Bool)
 | 0, _, _, _, _ => none
 | k + 1, x0, x1, x2, x3 => if x3 < (x1.length : Int) then (if 0 ≤ x3 then ((impl_addLine.f k (x1.take x3.toNat) (rdOf ByteArray.empty x1 x3)).bind fun t1 => (if t1 = 0 then (impl_ValidRig.l1 k x0 x1 x2 (wrap64 (x3 + 1))) else (some false))) else (none)) else (impl_ValidRig.l2 k x0 x1 x2 0)
def impl_ValidRig.l0 : Nat → List (S69) → List ByteArray → List (S40) → Int → Option (Bool)
 | 0, _, _, _, _ => none
 | k + 1, x0, x1, x2, x3 => if x3 < (x0.length : Int) then (if 0 ≤ x3 then ((impl_addRail.f k (x0.take x3.toNat) ((rd_T69 x0 x3).f0) ((rd_T69 x0 x3).f1) ((rd_T69 x0 x3).f2)).bind fun t1 => (if t1 = 0 then (impl_ValidRig.l0 k x0 x1 x2 (wrap64 (x3 + 1))) else (some false))) else (none)) else (impl_ValidRig.l1 k x0 x1 x2 0)
theorem impl_ValidRig.mono_l : ∀ k, (∀ y0 y1 y2 y3, LeO (impl_ValidRig.l2 k y0 y1 y2 y3) (impl_ValidRig.l2 (k + 1) y0 y1 y2 y3)) ∧ (∀ y0 y1 y2 y3, LeO (impl_ValidRig.l1 k y0 y1 y2 y3) (impl_ValidRig.l1 (k + 1) y0 y1 y2 y3)) ∧ (∀ y0 y1 y2 y3, LeO (impl_ValidRig.l0 k y0 y1 y2 y3) (impl_ValidRig.l0 (k + 1) y0 y1 y2 y3))
 | 0 => ⟨fun _ _ _ _ r h => by simp [impl_ValidRig.l2] at h, fun _ _ _ _ r h => by simp [impl_ValidRig.l1] at h, fun _ _ _ _ r h => by simp [impl_ValidRig.l0] at h⟩
 | k + 1 => by
  obtain ⟨ih2, ih1, ih0⟩ := impl_ValidRig.mono_l k
  refine ⟨?_, ?_, ?_⟩
  ·intro y0 y1 y2 y3
   unfold impl_ValidRig.l2
   repeat' first
    | (with_reducible exact ih0 _ _ _ _)
    | (with_reducible exact ih1 _ _ _ _)
    | (with_reducible exact ih2 _ _ _ _)
    | (with_reducible exact impl_addRail.mono _ _ _ _ _)
    | (with_reducible exact impl_addLine.mono _ _ _)
    | (with_reducible exact impl_addBelay.mono _ _ _ _ _ _ _)
    | (with_reducible exact LeO.refl _)
    | (with_reducible exact LeO.none _)
    | (with_reducible refine LeO.ite ?_ ?_)
    | (with_reducible refine LeO.bind ?_ (fun _ => ?_))
  ·intro y0 y1 y2 y3
   unfold impl_ValidRig.l1
   repeat' first
    | (with_reducible exact ih0 _ _ _ _)
    | (with_reducible exact ih1 _ _ _ _)
    | (with_reducible exact ih2 _ _ _ _)
    | (with_reducible exact impl_addRail.mono _ _ _ _ _)
    | (with_reducible exact impl_addLine.mono _ _ _)
    | (with_reducible exact impl_addBelay.mono _ _ _ _ _ _ _)
    | (with_reducible exact LeO.refl _)
    | (with_reducible exact LeO.none _)
    | (with_reducible refine LeO.ite ?_ ?_)
    | (with_reducible refine LeO.bind ?_ (fun _ => ?_))
  ·intro y0 y1 y2 y3
   unfold impl_ValidRig.l0
   repeat' first
    | (with_reducible exact ih0 _ _ _ _)
    | (with_reducible exact ih1 _ _ _ _)
    | (with_reducible exact ih2 _ _ _ _)
    | (with_reducible exact impl_addRail.mono _ _ _ _ _)
    | (with_reducible exact impl_addLine.mono _ _ _)
    | (with_reducible exact impl_addBelay.mono _ _ _ _ _ _ _)
    | (with_reducible exact LeO.refl _)
    | (with_reducible exact LeO.none _)
    | (with_reducible refine LeO.ite ?_ ?_)
    | (with_reducible refine LeO.bind ?_ (fun _ => ?_))
def impl_ValidRig.f (k : Nat) (l0_0 : List (S69)) (l0_1 : List ByteArray) (l0_2 : List (S40)) : Option (Bool) := if l0_0.length ≤ 1048576 ∧ l0_1.length ≤ 1048576 ∧ l0_2.length ≤ 1048576 then (impl_ValidRig.l0 k l0_0 l0_1 l0_2 0) else (none)
theorem impl_ValidRig.mono : ∀ a0 a1 a2 k, LeO (impl_ValidRig.f k a0 a1 a2) (impl_ValidRig.f (k + 1) a0 a1 a2) := by
 intro a0 a1 a2 k
 unfold impl_ValidRig.f
 obtain ⟨ih2, ih1, ih0⟩ := impl_ValidRig.mono_l k
 exact LeO.ite (ih0 _ _ _ _) (LeO.none _)
set_option maxHeartbeats 8000000 in
set_option maxRecDepth 100000 in
theorem impl_ValidRig.calls (k : Nat) (A0_0 : Option Addr) (c0_0 : Nat) (l0_0 : List (S69)) (A0_1 : Option Addr) (c0_1 : Nat) (l0_1 : List ByteArray) (A0_2 : Option Addr) (c0_2 : Nat) (l0_2 : List (S40)) (r : Bool) (w : World) (hr0_0 : Kd.C k69 w A0_0 l0_0.length l0_0) (hc0_0 : l0_0.length ≤ c0_0) (hr0_1 : Kd.C Kd.string w A0_1 l0_1.length l0_1) (hc0_1 : l0_1.length ≤ c0_1) (hr0_2 : Kd.C k40 w A0_2 l0_2.length l0_2) (hc0_2 : l0_2.length ≤ c0_2) (h : impl_ValidRig.f k l0_0 l0_1 l0_2 = some r) :
  Calls Try.prog 13 #[.agg #[.slice A0_0 l0_0.length c0_0, .slice A0_1 l0_1.length c0_1, .slice A0_2 l0_2.length c0_2]] w fun e w' => e = .returned (.bool r) ∧ Below w.heap.size w w' := by
 unfold impl_ValidRig.f at h
 by_cases hlb : l0_0.length ≤ 1048576 ∧ l0_1.length ≤ 1048576 ∧ l0_2.length ≤ 1048576
 ·rw [if_pos hlb] at h
  have H' := Aside0.mk h
  have HLN := Aside0.mk hlb
  have HR0 := Aside0.mk hr0_0
  have HR1 := Aside0.mk hr0_1
  have HR2 := Aside0.mk hr0_2
  clear h hlb hr0_0 hr0_1 hr0_2 hc0_0 hc0_1 hc0_2
  have HB := Aside0.mk (Below.refl w.heap.size w)
  go_enter Try.func13, Try.ntmps13
  go_wp2_with (first | ((with_reducible refine gate_dst (N := 1) rfl ?_); refine box_event ?hg (N := 1) ?hd (cs := #[.slice A0_0 l0_0.length c0_0, .slice A0_1 l0_1.length c0_1, .slice A0_2 l0_2.length c0_2]) (t := 32) ?hr ?_; (case hd => rfl); (case hg => rfl); (case hr => first | (go_simp; done) | (go_simp; rfl)); intro gx hg w1 hbox hb; have n0_ := pS HB hb; have n1_ := Aside0.mk hbox; clear HB hbox hb hg; have HB1 := n0_; have BX := n1_; have BX1 := n1_; clear n0_ n1_; obtain ⟨hx0, hx1, hx2, hy0, hy1, hy2⟩ := cz3 BX) | ((with_reducible refine gate_dst (N := 3) rfl ?_); refine box_event ?hg (N := 3) ?hd (cs := #[.slice none 0 0, .slice none 0 0, .slice none 0 0]) (t := 32) ?hr ?_; (case hd => rfl); (case hg => rfl); (case hr => first | (go_simp; done) | (go_simp; rfl)); intro gy hg w2 hbox hb; have HBY := Aside0.mk hb; have GY := Aside0.mk (Nat.le_of_eq hg.symm); have n1_ := Aside0.mk hbox; have n2_ := pB BX hb; have n3_ := pN BX hg; have n4_ := pM BX hg; clear hx0 hx1 hx2 hy0 hy1 hy2 hbox BX hb hg; have BY := n1_; have BX := n2_; have nb := n3_.out; have nc := n4_.out; clear n1_ n2_ n3_ n4_; obtain ⟨hx0, hx1, hx2, hy0, hy1, hy2⟩ := cz3 BX; obtain ⟨hz0, hz1, hz2, hw0, hw1, hw2⟩ := cz3 BY))
  have HI := Aside0.mk (RigAt.begin BY.out GY.out HBY.out)
  clear BX BY hx0 hx1 hx2 hy0 hy1 hy2 hz0 hz1 hz2 hw0 hw1 hw2 nb nc
  go_loopg [14] k (fun kq vi w' => ∃ (i0 : Nat) (v1 : Value), vi = .int .i64 i0 ∧ i0 ≤ l0_0.length ∧ Aside0 (impl_ValidRig.l0 kq l0_0 l0_1 l0_2 i0 = some r) ∧ Aside0 (kq ≤ k) ∧ Aside0 (RigAt w1 w' gy v1 (.slice none 0 0) (.slice none 0 0) (l0_0.take i0) [] []) ∧ Aside0 (i0 ≤ 10))
  case atStart => exact ⟨0, _, rfl, Nat.zero_le _, H', ⟨Nat.le_refl _⟩, HI, ⟨by omega⟩⟩
  case round =>
   clear H' HI
   obtain ⟨i0, v1, rfl, hil, HA, HK1, HI, HN⟩ := hrel
   cases gk with
   | zero => exact absurd HA.out (by simp [impl_ValidRig.l0])
   | succ k1 =>
    have H := HA.out
    clear HA
    simp only [impl_ValidRig.l0] at H
    have HBW := Aside0.mk (below_step HB1.out HI.out.below)
    by_cases hlt : (i0 : Int) < (l0_0.length : Int)
    ·rw [if_pos hlt, if_pos (Int.natCast_nonneg i0)] at H
     obtain ⟨t1, A1, H⟩ := Option.bind_eq_some_iff.mp H
     replace H : (if t1 = 0 then (impl_ValidRig.l0 k1 l0_0 l0_1 l0_2 (wrap64 ((i0 : Int) + 1))) else (some false)) = some r := H
     try rw [Int.toNat_natCast] at A1
     have hlt2 : i0 < l0_0.length := by omega
     have hb0 : decide ((i0 : Int) < (l0_0.length : Int)) = true := decide_eq_true hlt
     have hb1 : decide (i0 < l0_0.length) = true := decide_eq_true hlt2
     have hn0 : 0 ≤ (i0 : Int) := Int.natCast_nonneg i0
     have hn1 : (i0 : Int) ≤ 1048576 := by have := HLN.out.1; have := HLN.out.2.1; have := HLN.out.2.2; omega
     obtain ⟨ad, e0, hx0, hx1, hx2⟩ := at_T69 HR0.out (i0 : Int) hn0 hlt
     cases e0
     replace hx0 := bC HBW hx0
     replace hx1 := bC HBW hx1
     replace hx2 := bC HBW hx2
     have ey : l0_0[i0]? = some (rd_T69 l0_0 (i0 : Int)) := by simp [rd_T69, hlt2]
     generalize rd_T69 l0_0 (i0 : Int) = y at hx0 hx1 hx2 A1 ey
     rw [Int.toNat_natCast] at hx0 hx1 hx2
     have EY := Aside0.mk ey
     have TA := Aside0.mk A1
     have LT := Aside0.mk hlt2
     clear ey A1 hlt2
     by_cases ht : t1 = 0
     ·subst ht
      rw [if_pos rfl] at H
      rw [show wrap64 ((i0 : Int) + 1) = ((i0 + 1 : Nat) : Int) from by unfold wrap64; have := LT.out; have := HLN.out.1; have := HLN.out.2.1; have := HLN.out.2.2; omega] at H
      have H' := Aside0.mk H
      clear H
      go_wp2_with (first | ((with_reducible refine gate_dst (N := 5) rfl ?_); refine box_event ?hg (N := 5) ?hd (cs := #[.string ⟨#[]⟩, .string ⟨#[]⟩, .int .i64 0]) (t := 69) ?hr ?_; (case hd => rfl); (case hg => rfl); (case hr => first | (go_simp; done) | (go_simp; rfl)); intro gr hg w3 hbox hb; have HC := Aside0.mk hb; have GR := Aside0.mk (Nat.le_of_eq hg.symm); have BR := Aside0.mk hbox; clear hbox hb hg; obtain ⟨hr0, hr1, hr2, hs0, hs1, hs2⟩ := cz3 BR) | (go_at_call 45; have n0_ := impl_addRail.at k1 w1 _ gy v1 _ _ _ _ _ y _ (HI.out.late HC.out GR.out (.string y.f0) (.string y.f1) (.int .i64 y.f2)) (take_len _ _ _ HN.out) TA.out; (with_reducible refine n0_.2.mono ?_); rintro e w4 ⟨v1', rfl, hi⟩; have HG := Aside0.mk n0_.1; clear n0_ hr0 hr1 hr2 hs0 hs1 hs2 hx0 hx1 hx2 HC GR BR HI; have HI := Aside0.mk hi; clear hi))
      go_roundg k1
      case measure => have := HK1.out; omega
      case rel => exact ⟨i0 + 1, _, by go_num, LT.out, H', ⟨by have := HK1.out; omega⟩, ⟨by rw [← take_more l0_0 i0 y EY.out]; exact HI.out⟩, ⟨by have := HG.out (by first | rfl | trivial); rwa [take_full _ _ LT.out] at this⟩⟩
     ·rw [if_neg ht] at H
      obtain rfl := Option.some.inj H
      clear H
      have hb2 : (t1 != 0) = true := by simpa using ht
      have HT := Aside0.mk ht
      clear ht
      go_wp2_with (first | ((with_reducible refine gate_dst (N := 5) rfl ?_); refine box_event ?hg (N := 5) ?hd (cs := #[.string ⟨#[]⟩, .string ⟨#[]⟩, .int .i64 0]) (t := 69) ?hr ?_; (case hd => rfl); (case hg => rfl); (case hr => first | (go_simp; done) | (go_simp; rfl)); intro gr hg w3 hbox hb; have HC := Aside0.mk hb; have GR := Aside0.mk (Nat.le_of_eq hg.symm); have BR := Aside0.mk hbox; clear hbox hb hg; obtain ⟨hr0, hr1, hr2, hs0, hs1, hs2⟩ := cz3 BR) | (go_at_call 45; have n0_ := impl_addRail.at k1 w1 _ gy v1 _ _ _ _ _ y _ (HI.out.late HC.out GR.out (.string y.f0) (.string y.f1) (.int .i64 y.f2)) (take_len _ _ _ HN.out) TA.out; (with_reducible refine n0_.2.mono ?_); rintro e w4 ⟨v1', rfl, hi⟩; have HG := Aside0.mk n0_.1; clear n0_ hr0 hr1 hr2 hs0 hs1 hs2 hx0 hx1 hx2 HC GR BR HI; have HI := Aside0.mk hi; clear hi))
      go_ret
      exact ⟨rfl, below_step HB1.out HI.out.below⟩
    ·rw [if_neg hlt] at H
     have hb0 : decide ((i0 : Int) < (l0_0.length : Int)) = false := decide_eq_false hlt
     have hb1 : decide (i0 < l0_0.length) = false := decide_eq_false (by omega)
     have hil2 : i0 = l0_0.length := by omega
     have H' := Aside0.mk H
     have n0_ := HI.out
     rw [hil2, List.take_length] at n0_
     have HIL := Aside0.mk hil2
     clear H HI hil2 hil hlt
     have HI := Aside0.mk n0_
     clear n0_
     have BX := Aside0.mk (blk_below BX1.out HI.out.below)
     obtain ⟨hx0, hx1, hx2, hy0, hy1, hy2⟩ := cz3 BX
     clear BX
     go_wp2
     clear hx0 hx1 hx2 hy0 hy1 hy2
     obtain ⟨wo0, hwo⟩ : ∃ wo : World, wo = wr := ⟨_, rfl⟩
     subst hwo
     go_loopg [25] k1 (fun kq vi w' => ∃ (i1 : Nat) (v2 : Value), vi = .int .i64 i1 ∧ i1 ≤ l0_1.length ∧ Aside0 (impl_ValidRig.l1 kq l0_0 l0_1 l0_2 i1 = some r) ∧ Aside0 (kq ≤ k1) ∧ Aside0 (RigAt w1 w' gy v1 v2 (.slice none 0 0) l0_0 (l0_1.take i1) []) ∧ Aside0 (i1 ≤ 60))
     case atStart => exact ⟨0, _, rfl, Nat.zero_le _, H', ⟨Nat.le_refl _⟩, HI, ⟨by omega⟩⟩
     case round =>
      clear H' HI
      obtain ⟨i1, v2, rfl, hil, HA, HK1, HI, HN⟩ := hrel
      cases gk with
      | zero => exact absurd HA.out (by simp [impl_ValidRig.l1])
      | succ k2 =>
       have H := HA.out
       clear HA
       simp only [impl_ValidRig.l1] at H
       have HBW := Aside0.mk (below_step HB1.out HI.out.below)
       by_cases hlt : (i1 : Int) < (l0_1.length : Int)
       ·rw [if_pos hlt, if_pos (Int.natCast_nonneg i1)] at H
        obtain ⟨t1, A1, H⟩ := Option.bind_eq_some_iff.mp H
        replace H : (if t1 = 0 then (impl_ValidRig.l1 k2 l0_0 l0_1 l0_2 (wrap64 ((i1 : Int) + 1))) else (some false)) = some r := H
        try rw [Int.toNat_natCast] at A1
        have hlt2 : i1 < l0_1.length := by omega
        have hb0 : decide ((i1 : Int) < (l0_1.length : Int)) = true := decide_eq_true hlt
        have hb1 : decide (i1 < l0_1.length) = true := decide_eq_true hlt2
        have hn0 : 0 ≤ (i1 : Int) := Int.natCast_nonneg i1
        have hn1 : (i1 : Int) ≤ 1048576 := by have := HLN.out.1; have := HLN.out.2.1; have := HLN.out.2.2; omega
        obtain ⟨ad, e0, hx0⟩ := Kd.at_string HR1.out (i1 : Int) hn0 hlt
        cases e0
        replace hx0 := bC HBW hx0
        have ey : l0_1[i1]? = some (rdOf ByteArray.empty l0_1 (i1 : Int)) := by simp [rdOf, hlt2]
        generalize rdOf ByteArray.empty l0_1 (i1 : Int) = y at hx0 A1 ey
        rw [Int.toNat_natCast] at hx0
        have EY := Aside0.mk ey
        have TA := Aside0.mk A1
        have LT := Aside0.mk hlt2
        clear ey A1 hlt2
        by_cases ht : t1 = 0
        ·subst ht
         rw [if_pos rfl] at H
         rw [show wrap64 ((i1 : Int) + 1) = ((i1 + 1 : Nat) : Int) from by unfold wrap64; have := LT.out; have := HLN.out.1; have := HLN.out.2.1; have := HLN.out.2.2; omega] at H
         have H' := Aside0.mk H
         clear H
         go_wp2_with (first | (go_at_call 46; have n0_ := impl_addLine.at k2 w1 _ gy v1 v2 _ _ _ _ y _ HI.out (take_len _ _ _ HN.out) TA.out; (with_reducible refine n0_.2.mono ?_); rintro e w4 ⟨v2', rfl, hi⟩; have HG := Aside0.mk n0_.1; clear n0_ hx0 HI; have HI := Aside0.mk hi; clear hi))
         go_roundg k2
         case measure => have := HK1.out; omega
         case rel => exact ⟨i1 + 1, _, by go_num, LT.out, H', ⟨by have := HK1.out; omega⟩, ⟨by rw [← take_more l0_1 i1 y EY.out]; exact HI.out⟩, ⟨by have := HG.out (by first | rfl | trivial); rwa [take_full _ _ LT.out] at this⟩⟩
        ·rw [if_neg ht] at H
         obtain rfl := Option.some.inj H
         clear H
         have hb2 : (t1 != 0) = true := by simpa using ht
         have HT := Aside0.mk ht
         clear ht
         go_wp2_with (first | (go_at_call 46; have n0_ := impl_addLine.at k2 w1 _ gy v1 v2 _ _ _ _ y _ HI.out (take_len _ _ _ HN.out) TA.out; (with_reducible refine n0_.2.mono ?_); rintro e w4 ⟨v2', rfl, hi⟩; have HG := Aside0.mk n0_.1; clear n0_ hx0 HI; have HI := Aside0.mk hi; clear hi))
         go_ret
         exact ⟨rfl, below_step HB1.out HI.out.below⟩
       ·rw [if_neg hlt] at H
        have hb0 : decide ((i1 : Int) < (l0_1.length : Int)) = false := decide_eq_false hlt
        have hb1 : decide (i1 < l0_1.length) = false := decide_eq_false (by omega)
        have hil2 : i1 = l0_1.length := by omega
        have H' := Aside0.mk H
        have n0_ := HI.out
        rw [hil2, List.take_length] at n0_
        have HIL := Aside0.mk hil2
        clear H HI hil2 hil hlt
        have HI := Aside0.mk n0_
        clear n0_
        have BX := Aside0.mk (blk_below BX1.out HI.out.below)
        obtain ⟨hx0, hx1, hx2, hy0, hy1, hy2⟩ := cz3 BX
        clear BX
        go_wp2
        clear hx0 hx1 hx2 hy0 hy1 hy2
        obtain ⟨wo1, hwo⟩ : ∃ wo : World, wo = wr := ⟨_, rfl⟩
        subst hwo
        go_loopg [36] k2 (fun kq vi w' => ∃ (i2 : Nat) (v3 : Value), vi = .int .i64 i2 ∧ i2 ≤ l0_2.length ∧ Aside0 (impl_ValidRig.l2 kq l0_0 l0_1 l0_2 i2 = some r) ∧ Aside0 (kq ≤ k2) ∧ Aside0 (RigAt w1 w' gy v1 v2 v3 l0_0 l0_1 (l0_2.take i2)))
        case atStart => exact ⟨0, _, rfl, Nat.zero_le _, H', ⟨Nat.le_refl _⟩, HI⟩
        case round =>
         clear H' HI
         obtain ⟨i2, v3, rfl, hil, HA, HK1, HI⟩ := hrel
         cases gk with
         | zero => exact absurd HA.out (by simp [impl_ValidRig.l2])
         | succ k3 =>
          have H := HA.out
          clear HA
          simp only [impl_ValidRig.l2] at H
          have HBW := Aside0.mk (below_step HB1.out HI.out.below)
          by_cases hlt : (i2 : Int) < (l0_2.length : Int)
          ·rw [if_pos hlt, if_pos (Int.natCast_nonneg i2)] at H
           obtain ⟨t1, A1, H⟩ := Option.bind_eq_some_iff.mp H
           replace H : (if t1 = 0 then (impl_ValidRig.l2 k3 l0_0 l0_1 l0_2 (wrap64 ((i2 : Int) + 1))) else (some false)) = some r := H
           try rw [Int.toNat_natCast] at A1
           have hlt2 : i2 < l0_2.length := by omega
           have hb0 : decide ((i2 : Int) < (l0_2.length : Int)) = true := decide_eq_true hlt
           have hb1 : decide (i2 < l0_2.length) = true := decide_eq_true hlt2
           have hn0 : 0 ≤ (i2 : Int) := Int.natCast_nonneg i2
           have hn1 : (i2 : Int) ≤ 1048576 := by have := HLN.out.1; have := HLN.out.2.1; have := HLN.out.2.2; omega
           obtain ⟨ad, e0, hx0, hx1, hx2⟩ := at_T40 HR2.out (i2 : Int) hn0 hlt
           cases e0
           replace hx0 := bC HBW hx0
           replace hx1 := bC HBW hx1
           replace hx2 := bC HBW hx2
           have ey : l0_2[i2]? = some (rd_T40 l0_2 (i2 : Int)) := by simp [rd_T40, hlt2]
           generalize rd_T40 l0_2 (i2 : Int) = y at hx0 hx1 hx2 A1 ey
           rw [Int.toNat_natCast] at hx0 hx1 hx2
           have EY := Aside0.mk ey
           have TA := Aside0.mk A1
           have LT := Aside0.mk hlt2
           clear ey A1 hlt2
           by_cases ht : t1 = 0
           ·subst ht
            rw [if_pos rfl] at H
            rw [show wrap64 ((i2 : Int) + 1) = ((i2 + 1 : Nat) : Int) from by unfold wrap64; have := LT.out; have := HLN.out.1; have := HLN.out.2.1; have := HLN.out.2.2; omega] at H
            have H' := Aside0.mk H
            clear H
            go_wp2_with (first | ((with_reducible refine gate_dst (N := 9) rfl ?_); refine box_event ?hg (N := 9) ?hd (cs := #[.string ⟨#[]⟩, .string ⟨#[]⟩, .int .i64 0]) (t := 40) ?hr ?_; (case hd => rfl); (case hg => rfl); (case hr => first | (go_simp; done) | (go_simp; rfl)); intro gr hg w3 hbox hb; have HC := Aside0.mk hb; have GR := Aside0.mk (Nat.le_of_eq hg.symm); have BR := Aside0.mk hbox; clear hbox hb hg; obtain ⟨hr0, hr1, hr2, hs0, hs1, hs2⟩ := cz3 BR) | (go_at_call 47; (with_reducible refine (impl_addBelay.at k3 w1 _ gy v1 v2 v3 _ _ _ y _ (HI.out.late HC.out GR.out (.string y.f0) (.string y.f1) (.int .i64 y.f2)) (take_len _ _ _ (by have := HLN.out.2.2; have := LT.out; omega)) TA.out).mono ?_); rintro e w4 ⟨v3', rfl, hi⟩; clear hr0 hr1 hr2 hs0 hs1 hs2 hx0 hx1 hx2 HC GR BR HI; have HI := Aside0.mk hi; clear hi))
            go_roundg k3
            case measure => have := HK1.out; omega
            case rel => exact ⟨i2 + 1, _, by go_num, LT.out, H', ⟨by have := HK1.out; omega⟩, ⟨by rw [← take_more l0_2 i2 y EY.out]; exact HI.out⟩⟩
           ·rw [if_neg ht] at H
            obtain rfl := Option.some.inj H
            clear H
            have hb2 : (t1 != 0) = true := by simpa using ht
            have HT := Aside0.mk ht
            clear ht
            go_wp2_with (first | ((with_reducible refine gate_dst (N := 9) rfl ?_); refine box_event ?hg (N := 9) ?hd (cs := #[.string ⟨#[]⟩, .string ⟨#[]⟩, .int .i64 0]) (t := 40) ?hr ?_; (case hd => rfl); (case hg => rfl); (case hr => first | (go_simp; done) | (go_simp; rfl)); intro gr hg w3 hbox hb; have HC := Aside0.mk hb; have GR := Aside0.mk (Nat.le_of_eq hg.symm); have BR := Aside0.mk hbox; clear hbox hb hg; obtain ⟨hr0, hr1, hr2, hs0, hs1, hs2⟩ := cz3 BR) | (go_at_call 47; (with_reducible refine (impl_addBelay.at k3 w1 _ gy v1 v2 v3 _ _ _ y _ (HI.out.late HC.out GR.out (.string y.f0) (.string y.f1) (.int .i64 y.f2)) (take_len _ _ _ (by have := HLN.out.2.2; have := LT.out; omega)) TA.out).mono ?_); rintro e w4 ⟨v3', rfl, hi⟩; clear hr0 hr1 hr2 hs0 hs1 hs2 hx0 hx1 hx2 HC GR BR HI; have HI := Aside0.mk hi; clear hi))
            go_ret
            exact ⟨rfl, below_step HB1.out HI.out.below⟩
          ·rw [if_neg hlt] at H
           have hb0 : decide ((i2 : Int) < (l0_2.length : Int)) = false := decide_eq_false hlt
           have hb1 : decide (i2 < l0_2.length) = false := decide_eq_false (by omega)
           have hil2 : i2 = l0_2.length := by omega
           clear hil2
           obtain rfl := Option.some.inj H
           go_wp2
           go_ret
           exact ⟨rfl, below_step HB1.out HI.out.below⟩
 ·rw [if_neg hlb] at h
  cases h

/-! ### stringslite_HasSuffix: function 82 -/
def stringslite_HasSuffix.f (a0 : ByteArray) (a1 : ByteArray) : Option (Bool) := if (a0.size : Int) ≥ (a1.size : Int) then (if 0 ≤ (wrap64 ((a0.size : Int) - (a1.size : Int))) then (if (wrap64 ((a0.size : Int) - (a1.size : Int))) ≤ (a0.size : Int) then (some ((a0.extract ((wrap64 ((a0.size : Int) - (a1.size : Int))) : Int).toNat a0.size).toList == a1.toList)) else (none)) else (none)) else (some false)
set_option maxHeartbeats 8000000 in
set_option maxRecDepth 100000 in
theorem stringslite_HasSuffix.calls (a0 : ByteArray) (a1 : ByteArray) (r : Bool) (w : World) (h : stringslite_HasSuffix.f a0 a1 = some r) :
  Calls Try.prog 82 #[.string a0, .string a1] w fun e w' => e = .returned (.bool r) ∧ Drawn0 w w' := by
 have H : (if (a0.size : Int) ≥ (a1.size : Int) then (if 0 ≤ (wrap64 ((a0.size : Int) - (a1.size : Int))) then (if (wrap64 ((a0.size : Int) - (a1.size : Int))) ≤ (a0.size : Int) then (some ((a0.extract ((wrap64 ((a0.size : Int) - (a1.size : Int))) : Int).toNat a0.size).toList == a1.toList)) else (none)) else (none)) else (some false)) = some r := h
 clear h
 by_cases c3 : (a0.size : Int) ≥ (a1.size : Int)
 ·rw [if_pos c3] at H
  have c3b0 : decide ((a1.size : Int) ≤ (a0.size : Int)) = true := decide_eq_true c3
  have c3b1 : decide (a1.size ≤ a0.size) = true := decide_eq_true (Int.ofNat_le.mp c3)
  clear c3
  obtain ⟨ji4, hji4⟩ : ∃ j_ : Int, (wrap64 ((a0.size : Int) - (a1.size : Int))) = j_ := ⟨_, rfl⟩
  replace H : (if 0 ≤ (ji4) then (if (ji4) ≤ (a0.size : Int) then (some ((a0.extract ((ji4) : Int).toNat a0.size).toList == a1.toList)) else (none)) else (none)) = some r := by first | (rw [hji4] at H; exact H) | (simp only [hji4] at H ⊢; exact H)
  have hji4w : (IntKind.i64.wrap ((a0.size : Int) - (a1.size : Int))) = ji4 := (i64_w _).trans hji4
  by_cases c5 : 0 ≤ (ji4)
  ·rw [if_pos c5] at H
   have c5b0 := eq_true c5
   have c5b1 : decide (0 ≤ (ji4)) = true := decide_eq_true c5
   clear c5
   by_cases c6 : (ji4) ≤ (a0.size : Int)
   ·rw [if_pos c6] at H
    have c6b0 := eq_true c6
    have c6b1 : decide ((ji4) ≤ (a0.size : Int)) = true := decide_eq_true c6
    clear c6
    obtain rfl := Option.some.inj H
    simp only [Option.some.injEq, Prod.mk.injEq] at H
    obtain ⟨rfl⟩ := H
    go_enter Try.func82, Try.ntmps82
    go_wp2
    go_ret
    exact ⟨by first | rfl | (simp; done) | (simp only [← hji4] <;> (first | rfl | simp)) | (simp [*]; done), by repeat (first | exact Drawn0.refl _ | apply Drawn0.step)⟩
   ·rw [if_neg c6] at H
    exact absurd H (by simp)
  ·rw [if_neg c5] at H
   exact absurd H (by simp)
 ·rw [if_neg c3] at H
  have c3b0 : decide ((a1.size : Int) ≤ (a0.size : Int)) = false := decide_eq_false c3
  have c3b1 : decide (a1.size ≤ a0.size) = false := decide_eq_false (fun h => c3 (Int.ofNat_le.mpr h))
  clear c3
  obtain rfl := Option.some.inj H
  simp only [Option.some.injEq, Prod.mk.injEq] at H
  obtain ⟨rfl⟩ := H
  go_enter Try.func82, Try.ntmps82
  go_wp2
  go_ret
  exact ⟨by first | rfl | (simp; done) | (simp [*]; done), by repeat (first | exact Drawn0.refl _ | apply Drawn0.step)⟩

/-! ### strings_HasSuffix: function 62 -/
def strings_HasSuffix.f (a0 : ByteArray) (a1 : ByteArray) : Option (Bool) := (stringslite_HasSuffix.f a0 a1).bind fun t254 => (some t254)
set_option maxHeartbeats 8000000 in
set_option maxRecDepth 100000 in
theorem strings_HasSuffix.calls (a0 : ByteArray) (a1 : ByteArray) (r : Bool) (w : World) (h : strings_HasSuffix.f a0 a1 = some r) :
  Calls Try.prog 62 #[.string a0, .string a1] w fun e w' => e = .returned (.bool r) ∧ Drawn0 w w' := by
 have H : ((stringslite_HasSuffix.f a0 a1).bind fun t254 => (some t254)) = some r := h
 clear h
 replace H := Option.bind_eq_some_iff.mp H
 obtain ⟨t254, A30, H⟩ := H
 replace H : (some t254) = some r := H
 have A3 := Aside0.mk A30
 clear A30
 obtain rfl := Option.some.inj H
 simp only [Option.some.injEq, Prod.mk.injEq] at H
 obtain ⟨rfl⟩ := H
 go_enter Try.func62, Try.ntmps62
 go_wp2_with (first | ((with_reducible refine gate_callee (f := 82) rfl ?_); refine goesL_ (some 7) rfl rfl Try.func82 (by kernel_rfl) rfl #[.string a0, .string a1] rfl (by (try simp only [List.map_toArray, List.map_cons, List.map_nil]); first | done | rfl | (simp only [List.length_drop, List.length_take]; rfl)) ?_; (with_reducible refine (stringslite_HasSuffix.calls a0 a1 t254 _ A3.out).mono ?_); rintro e w' ⟨rfl, ⟨nd, rfl⟩⟩; refine ⟨_, rfl, ?_⟩))
 go_ret
 exact ⟨by first | rfl | (simp; done) | (simp [*]; done), by repeat (first | exact Drawn0.refl _ | apply Drawn0.step)⟩

end Go.Proofs.Ytpngklefeaolfaa.PFnExactWrongSides
