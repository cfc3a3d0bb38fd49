-- Written by a program of this session (wip/tools/pp.sh).
import Derived.Test.YtpngklefeaolfaaPFnExactWrongSidesx0
import Derived.Test.YtpngklefeaolfaaPFnExactWrongSidesx4
import Derived.Test.YtpngklefeaolfaaPFnExactWrongSidesx6
import Derived.Test.YtpngklefeaolfaaPFnExactWrongSidesx7
namespace Go.Proofs.Ytpngklefeaolfaa.PFnExactWrongSides
open Go.RowKit Go.Proofs.YtpngklefeaolfaaW.PrintWords Go.Proofs.YtpngklefeaolfaaW.PrintLast Go.Proofs.YtpngklefeaolfaaW.PrintMore Go.Proofs.Ytpngklefeaolfaa.Small
open Bool renaming true → T, false → F
attribute [local go_sem] max2_int min2_int max_two min_two max_three min_three max_four min_four   -- for this text's walks alone
set_option linter.unusedVariables false
set_option linter.unusedSimpArgs false

/-! ### spec_WrongSides: function 26 -/
mutual
def spec_WrongSides.l0 : Nat → List ByteArray → Int → List (S69) → List ByteArray → List (S40) → Option (List ByteArray × Int)
 | 0, _, _, _, _, _ => none
 | k + 1, x4, x5, x224000, x224001, x224002 => if x5 < (x224001.length : Int) then (if 0 ≤ x5 then ((spec_l19Of.f k [(⟨x224000, x224001, x224002⟩ : S32)] (rdOf ByteArray.empty x224001 x5)).bind fun t231 => (if t231 < 0 then (spec_WrongSides.j1 k x4 x5 t231 ((rdOf ByteArray.empty x224001 x5).size : Int) true x224000 x224001 x224002) else (if ((rdOf ByteArray.empty x224001 x5).size : Int) < 3 then (spec_WrongSides.j1 k x4 x5 t231 ((rdOf ByteArray.empty x224001 x5).size : Int) true x224000 x224001 x224002) else (if 0 ≤ (wrap64 (((rdOf ByteArray.empty x224001 x5).size : Int) - 2)) then (if (wrap64 (((rdOf ByteArray.empty x224001 x5).size : Int) - 2)) < ((rdOf ByteArray.empty x224001 x5).size : Int) then (spec_WrongSides.j1 k x4 x5 t231 ((rdOf ByteArray.empty x224001 x5).size : Int) ((bt (rdOf ByteArray.empty x224001 x5) (wrap64 (((rdOf ByteArray.empty x224001 x5).size : Int) - 2))) != 45) x224000 x224001 x224002) else (none)) else (none))))) else (none)) else (some (x4, 0))
def spec_WrongSides.j1 : Nat → List ByteArray → Int → Int → Int → Bool → List (S69) → List ByteArray → List (S40) → Option (List ByteArray × Int)
 | 0, _, _, _, _, _, _, _, _ => none
 | k + 1, x4, x5, x6, x7, x48, x224000, x224001, x224002 => if x48 = true then (spec_WrongSides.l0 k x4 (wrap64 (x5 + 1)) x224000 x224001 x224002) else (if 0 ≤ x5 then (if x5 < (x224001.length : Int) then (if 0 ≤ (wrap64 (x7 - 1)) then (if (wrap64 (x7 - 1)) ≤ ((rdOf ByteArray.empty x224001 x5).size : Int) then (if 0 ≤ x6 then (if x6 < (x224002.length : Int) then ((spec_l19Rail.f k [(⟨x224000, x224001, x224002⟩ : S32)] ((rd_T40 x224002 x6).f1)).bind fun t237 => (if ((rdOf ByteArray.empty x224001 x5).extract ((wrap64 (x7 - 1)) : Int).toNat (rdOf ByteArray.empty x224001 x5).size).toList = ([112] : List UInt8) then (if 0 ≤ t237 then (if t237 < (x224000.length : Int) then (if ((rd_T69 x224000 t237).f1).toList = ((rdOf ByteArray.empty x224001 x5).extract ((wrap64 (x7 - 1)) : Int).toNat (rdOf ByteArray.empty x224001 x5).size).toList then (spec_WrongSides.l0 k x4 (wrap64 (x5 + 1)) x224000 x224001 x224002) else (if x4.length < 8796093022208 then (spec_WrongSides.l0 k (x4 ++ [rdOf ByteArray.empty x224001 x5]) (wrap64 (x5 + 1)) x224000 x224001 x224002) else (none))) else (none)) else (none)) else (if ((rdOf ByteArray.empty x224001 x5).extract ((wrap64 (x7 - 1)) : Int).toNat (rdOf ByteArray.empty x224001 x5).size).toList = ([115] : List UInt8) then (if 0 ≤ t237 then (if t237 < (x224000.length : Int) then (if ((rd_T69 x224000 t237).f1).toList = ((rdOf ByteArray.empty x224001 x5).extract ((wrap64 (x7 - 1)) : Int).toNat (rdOf ByteArray.empty x224001 x5).size).toList then (spec_WrongSides.l0 k x4 (wrap64 (x5 + 1)) x224000 x224001 x224002) else (if x4.length < 8796093022208 then (spec_WrongSides.l0 k (x4 ++ [rdOf ByteArray.empty x224001 x5]) (wrap64 (x5 + 1)) x224000 x224001 x224002) else (none))) else (none)) else (none)) else (spec_WrongSides.l0 k x4 (wrap64 (x5 + 1)) x224000 x224001 x224002)))) else (none)) else (none)) else (none)) else (none)) else (none)) else (none))
end
def spec_WrongSides.f (k : Nat) (l0_0 : List (S69)) (l0_1 : List ByteArray) (l0_2 : List (S40)) : Option (List ByteArray × Int) := (spec_l19Ok.f k [(⟨l0_0, l0_1, l0_2⟩ : S32)]).bind fun t225 => (if t225 = true then (spec_WrongSides.l0 k (([] : List ByteArray)) 0 l0_0 l0_1 l0_2) else (some (([] : List ByteArray), 1)))
theorem spec_WrongSides.mono_l : ∀ k, (∀ y0 y1 y2 y3 y4, LeO (spec_WrongSides.l0 k y0 y1 y2 y3 y4) (spec_WrongSides.l0 (k + 1) y0 y1 y2 y3 y4)) ∧ (∀ y0 y1 y2 y3 y4 y5 y6 y7, LeO (spec_WrongSides.j1 k y0 y1 y2 y3 y4 y5 y6 y7) (spec_WrongSides.j1 (k + 1) y0 y1 y2 y3 y4 y5 y6 y7))
 | 0 => ⟨fun _ _ _ _ _ r h => by simp [spec_WrongSides.l0] at h, fun _ _ _ _ _ _ _ _ r h => by simp [spec_WrongSides.j1] at h⟩
 | k + 1 => by
  obtain ⟨ih0, ih1⟩ := spec_WrongSides.mono_l k
  refine ⟨?_, ?_⟩
  ·intro y0 y1 y2 y3 y4
   unfold spec_WrongSides.l0
   repeat' first
   | (with_reducible exact ih0 _ _ _ _ _)
   | (with_reducible exact ih1 _ _ _ _ _ _ _ _)
   | (with_reducible exact spec_l19Of.mono _ _ _)
   | (with_reducible exact spec_l19Ok.mono _ _)
   | (with_reducible exact spec_l19Rail.mono _ _ _)
   | (with_reducible exact LeO.refl _)
   | (with_reducible exact LeO.none _)
   | (with_reducible refine LeO.ite ?_ ?_)
   | (with_reducible refine LeO.bind ?_ (fun _ => ?_))
   | exact ih0 _ _ _ _ _
   | exact ih1 _ _ _ _ _ _ _ _
   | exact spec_l19Of.mono _ _ _
   | exact spec_l19Ok.mono _ _
   | exact spec_l19Rail.mono _ _ _
   | exact LeO.none _
   | refine LeO.ite ?_ ?_
   | refine LeO.bind ?_ (fun _ => ?_)
  ·intro y0 y1 y2 y3 y4 y5 y6 y7
   unfold spec_WrongSides.j1
   repeat' first
   | (with_reducible exact ih0 _ _ _ _ _)
   | (with_reducible exact ih1 _ _ _ _ _ _ _ _)
   | (with_reducible exact spec_l19Of.mono _ _ _)
   | (with_reducible exact spec_l19Ok.mono _ _)
   | (with_reducible exact spec_l19Rail.mono _ _ _)
   | (with_reducible exact LeO.refl _)
   | (with_reducible exact LeO.none _)
   | (with_reducible refine LeO.ite ?_ ?_)
   | (with_reducible refine LeO.bind ?_ (fun _ => ?_))
   | exact ih0 _ _ _ _ _
   | exact ih1 _ _ _ _ _ _ _ _
   | exact spec_l19Of.mono _ _ _
   | exact spec_l19Ok.mono _ _
   | exact spec_l19Rail.mono _ _ _
   | exact LeO.none _
   | refine LeO.ite ?_ ?_
   | refine LeO.bind ?_ (fun _ => ?_)
theorem spec_WrongSides.mono : ∀ a0 a1 a2 k, LeO (spec_WrongSides.f k a0 a1 a2) (spec_WrongSides.f (k + 1) a0 a1 a2) := by
 intro a0 a1 a2 k
 obtain ⟨ih0, ih1⟩ := spec_WrongSides.mono_l k
 unfold spec_WrongSides.f
 repeat' first
   | (with_reducible exact ih0 _ _ _ _ _)
   | (with_reducible exact ih1 _ _ _ _ _ _ _ _)
   | (with_reducible exact spec_l19Of.mono _ _ _)
   | (with_reducible exact spec_l19Ok.mono _ _)
   | (with_reducible exact spec_l19Rail.mono _ _ _)
   | (with_reducible exact LeO.refl _)
   | (with_reducible exact LeO.none _)
   | (with_reducible refine LeO.ite ?_ ?_)
   | (with_reducible refine LeO.bind ?_ (fun _ => ?_))
   | exact ih0 _ _ _ _ _
   | exact ih1 _ _ _ _ _ _ _ _
   | exact spec_l19Of.mono _ _ _
   | exact spec_l19Ok.mono _ _
   | exact spec_l19Rail.mono _ _ _
   | exact LeO.none _
   | refine LeO.ite ?_ ?_
   | refine LeO.bind ?_ (fun _ => ?_)
set_option maxHeartbeats 8000000 in
set_option maxRecDepth 100000 in
theorem spec_WrongSides.calls (k : Nat) (A0_0 : Option Addr) (c0_0 : Nat) (l0_0 : List (S69)) (A0_1 : Option Addr) (c0_1 : Nat) (l0_1 : List ByteArray) (A0_2 : Option Addr) (c0_2 : Nat) (l0_2 : List (S40)) (r1 : List ByteArray) (r2 : Int) (w : World) (hr0_0 : Kd.C k69 w A0_0 l0_0.length l0_0) (hc0_0 : l0_0.length ≤ c0_0) (hr0_1 : Kd.C Kd.string w A0_1 l0_1.length l0_1) (hc0_1 : l0_1.length ≤ c0_1) (hr0_2 : Kd.C k40 w A0_2 l0_2.length l0_2) (hc0_2 : l0_2.length ≤ c0_2) (h : spec_WrongSides.f k l0_0 l0_1 l0_2 = some (r1, r2)) :
  Calls Try.prog 26 #[.agg #[.slice A0_0 l0_0.length c0_0, .slice A0_1 l0_1.length c0_1, .slice A0_2 l0_2.length c0_2]] w fun e w' => ∃ v0_ : Value, e = .returned (.tuple #[v0_, .int .i64 r2]) ∧ Kd.R Kd.string 9 w' w.heap.size (fun _ => True) v0_ r1 ∧ Below w.heap.size w w' := by
 have hu32 := Try.underlying32
 have HR0_0 := Aside0.mk hr0_0
 have HC0_0 := Aside0.mk hc0_0
 clear hr0_0 hc0_0
 have HR0_1 := Aside0.mk hr0_1
 have HC0_1 := Aside0.mk hc0_1
 clear hr0_1 hc0_1
 have HR0_2 := Aside0.mk hr0_2
 have HC0_2 := Aside0.mk hc0_2
 clear hr0_2 hc0_2
 have HB := Aside0.mk (Below.refl w.heap.size w)
 have H : ((spec_l19Ok.f k [(⟨l0_0, l0_1, l0_2⟩ : S32)]).bind fun t225 => (if t225 = true then (spec_WrongSides.l0 k (([] : List ByteArray)) 0 l0_0 l0_1 l0_2) else (some (([] : List ByteArray), 1)))) = some (r1, r2) := h
 clear h
 replace H := Option.bind_eq_some_iff.mp H
 obtain ⟨t225, A20, H⟩ := H
 replace H : (if t225 = true then (spec_WrongSides.l0 k (([] : List ByteArray)) 0 l0_0 l0_1 l0_2) else (some (([] : List ByteArray), 1))) = some (r1, r2) := H
 have A2 := Aside0.mk A20
 clear A20
 have HF_ := Aside0.mk H
 clear H
 go_enter Try.func26, Try.ntmps26
 go_upto_if 11 with (first | ((with_reducible refine gate_dst (N := 1) rfl ?_); refine box_event ?hg (N := 1) ?hd (cs := #[.slice A0_0 l0_0.length c0_0, .slice A0_1 l0_1.length c0_1, .slice A0_2 l0_2.length c0_2]) (t := 32) ?hr ?_; (case hd => rfl); (case hg => rfl); (case hr => first | (go_simp; done) | (go_simp; rfl)); intro gb223 hg w3 hbox hb; have n0_ := pS HB hb; have n1_ := Aside0.mk (hbox); have n2_ := pG HB hg; have n3_ := pG HB hg; clear HB; have HB := n0_; have BK223 := n1_; have GW223 := n2_; have GE223 := n3_; clear n0_ n1_ n2_ n3_; clear hb hbox hg) | ((with_reducible refine gate_callee (f := 41) rfl ?_); refine goesL_ (some 10) rfl rfl Try.func41 (by kernel_rfl) rfl #[.pointer (some ⟨gb223, 0, none⟩)] rfl (by (try simp only [List.map_toArray, List.map_cons, List.map_nil]); first | done | rfl | (simp only [List.length_drop, List.length_take]; rfl)) ?_; (with_reducible refine (spec_l19Ok.calls k _ 1 [(⟨l0_0, l0_1, l0_2⟩ : S32)] t225 _ ?side1 ?side2 A2.out).mono ?_); (case side1 => exact ro_box (t := 32) (cs := [.slice A0_0 l0_0.length c0_0, .slice A0_1 l0_1.length c0_1, .slice A0_2 l0_2.length c0_2]) (by (with_reducible repeat (first | refine blk_drewN ?_ _ | refine blk_drew ?_ | refine blk_alloc ?_ _)); exact BK223.out) (k32_mk _ ((⟨l0_0, l0_1, l0_2⟩ : S32)) (by exact HC0_0.out) (by repeat (first | exact (Kd.C_below HR0_0.out HB.out) | (with_reducible refine Kd.C_alloc ?_ _) | (with_reducible refine Kd.C_drewN ?_ _) | (with_reducible refine Kd.C_drew ?_))) (by exact HC0_1.out) (by repeat (first | exact (Kd.C_below HR0_1.out HB.out) | (with_reducible refine Kd.C_alloc ?_ _) | (with_reducible refine Kd.C_drewN ?_ _) | (with_reducible refine Kd.C_drew ?_))) (by exact HC0_2.out) (by repeat (first | exact (Kd.C_below HR0_2.out HB.out) | (with_reducible refine Kd.C_alloc ?_ _) | (with_reducible refine Kd.C_drewN ?_ _) | (with_reducible refine Kd.C_drew ?_)))) rfl); (case side2 => exact Nat.le_refl _); rintro e w4 ⟨rfl, hb⟩; refine ⟨_, rfl, ?_⟩; have n0_ := pB BK223 hb; have n1_ := pS HB hb; clear BK223 HB; have BK223 := n0_; have HB := n1_; clear n0_ n1_; (try clear hb); (try clear hb2); (try clear hk); (try clear hi)))
 (try simp only [Act.put, List.setIfInBounds_toArray, List.set_cons_zero, List.set_cons_succ])
 have H := HF_.out
 clear HF_
 by_cases c5 : t225 = true
 ·subst c5
  have H1 : (spec_WrongSides.l0 k (([] : List ByteArray)) 0 l0_0 l0_1 l0_2) = some (r1, r2) := by rw [if_pos rfl] at H; exact H
  clear H
  have H := H1
  clear H1
  obtain ⟨y226, hy226⟩ : ∃ y_ : List ByteArray, y_ = (([] : List ByteArray)) := ⟨_, rfl⟩
  replace H : (spec_WrongSides.l0 k y226 0 l0_0 l0_1 l0_2) = some (r1, r2) := by first | (rw [hy226]; with_reducible exact H) | (have H2_ := (Option.bind_some _ _).symm.trans H; rw [hy226]; with_reducible exact H2_) | (have H2_ := (Option.bind_some _ _).symm.trans H; with_reducible exact H2_) | with_reducible exact H | (rw [hy226]; exact H) | exact H
  have Ny226 := Aside0.mk hy226
  clear hy226
  have H' := Aside0.mk H
  clear H
  go_wp2_with (first | ((with_reducible refine gate_dst (N := 12) rfl ?_); refine Kd.R_lit Kd.string _ 9 ?hg (N := 12) ?hd (xs := ([] : List ByteArray)) (inner := []) (ok := fun _ => True) (okp := fun _ => True) ?hr ?hp (fun _ hk => hk) trivial (Below.refl _ _) (Nat.le_refl _) (by simp) ?_; (case hd => rfl); (case hg => rfl); (case hr => first | (go_simp; done) | (go_simp; rfl)); (case hp => exact (Reps.none _ _)); intro v227 w6 ho7 hb hg_ hnew_; clear hg_ hnew_; (first | rw [← Ny226.out] at ho7 | (simp only [Int.reduceToNat] at ho7; rw [← Ny226.out] at ho7)); have n0_ := Aside0.mk (Kd.R_lower ho7 (below_size (by repeat (first | (with_reducible first | exact HB.out | apply below_alloc | apply pw_below_drewN | apply below_drew1 | refine below_set ?_ GE223.out) | exact HB.out)))); have n1_ := pB BK223 hb; have n2_ := pS HB hb; clear BK223 HB; have HO228 := n0_; have BK223 := n1_; have HB := n2_; clear n0_ n1_ n2_; clear hb ho7))
  go_loopg [4, 5] k (fun kq v4 v5 w' => ∃ (x4_1 : List ByteArray) (x5_1 : Int), v5 = .int .i64 x5_1 ∧ Aside0 (spec_WrongSides.l0 kq x4_1 x5_1 l0_0 l0_1 l0_2 = some (r1, r2)) ∧ Aside0 (kq ≤ k) ∧ Aside0 (Kd.R Kd.string 9 w' w.heap.size (fun _ => True) v4 x4_1) ∧ Aside0 (w'.heap[gb223]? = some (.cells #[(.slice A0_0 l0_0.length c0_0), (.slice A0_1 l0_1.length c0_1), (.slice A0_2 l0_2.length c0_2)] 32 (0, 0))) ∧ Aside0 (Below w.heap.size w w'))
  case atStart => exact ⟨(y226), (0), (by first | rfl | (simp; done) | (simp [*]; done)), H', ⟨Nat.le_refl _⟩, ⟨by (with_reducible repeat (first | apply Kd.R_alloc | apply Kd.R_drewN | apply Kd.R_drew)); exact HO228.out⟩, ⟨by (with_reducible repeat (first | refine blk_drewN ?_ _ | refine blk_drew ?_ | refine blk_alloc ?_ _)); exact BK223.out⟩, ⟨by repeat (first | (with_reducible first | exact HB.out | apply below_alloc | apply pw_below_drewN | apply below_drew1 | refine below_set ?_ GE223.out) | exact HB.out)⟩⟩
  case round =>
   clear H'
   try clear c2
   try clear p2
   try clear c4
   try clear c5
   obtain ⟨x4_1, x5_1, rfl, HA, HK1, HO_4, BK223, HB⟩ := hrel
   cases gk with
   | zero => exact absurd HA.out (by simp [spec_WrongSides.l0])
   | succ k1 =>
    have H := HA.out
    clear HA
    simp only [spec_WrongSides.l0] at H
    by_cases c8 : x5_1 < (l0_1.length : Int)
    ·rw [if_pos c8] at H
     have c8b0 : decide (x5_1 < (l0_1.length : Int)) = true := decide_eq_true c8
     clear c8
     (first | rw [c8b0] | (simp only [i64_w, i32_w]; rw [c8b0]) | skip)
     by_cases c9 : 0 ≤ x5_1
     ·rw [if_pos c9] at H
      have c9b0 : decide (0 ≤ x5_1) = true := decide_eq_true c9
      clear c9
      replace H := Option.bind_eq_some_iff.mp H
      obtain ⟨t231, A100, H⟩ := H
      replace H : (if t231 < 0 then (spec_WrongSides.j1 k1 x4_1 x5_1 t231 ((rdOf ByteArray.empty l0_1 x5_1).size : Int) true l0_0 l0_1 l0_2) else (if ((rdOf ByteArray.empty l0_1 x5_1).size : Int) < 3 then (spec_WrongSides.j1 k1 x4_1 x5_1 t231 ((rdOf ByteArray.empty l0_1 x5_1).size : Int) true l0_0 l0_1 l0_2) else (if 0 ≤ (wrap64 (((rdOf ByteArray.empty l0_1 x5_1).size : Int) - 2)) then (if (wrap64 (((rdOf ByteArray.empty l0_1 x5_1).size : Int) - 2)) < ((rdOf ByteArray.empty l0_1 x5_1).size : Int) then (spec_WrongSides.j1 k1 x4_1 x5_1 t231 ((rdOf ByteArray.empty l0_1 x5_1).size : Int) ((bt (rdOf ByteArray.empty l0_1 x5_1) (wrap64 (((rdOf ByteArray.empty l0_1 x5_1).size : Int) - 2))) != 45) l0_0 l0_1 l0_2) else (none)) else (none)))) = some (r1, r2) := H
      have A10 := Aside0.mk A100
      clear A100
      have HC11 := Aside0.mk H
      clear H
      obtain ⟨hcz12_0, hcz12_1, hcz12_2, hfz12_0, hfz12_1, hfz12_2⟩ := cz3 BK223
      have p229 : 0 ≤ (x5_1 : Int) := of_decide_eq_true (by first | (with_reducible assumption) | assumption)
      have q229 : x5_1 < (l0_1.length : Int) := of_decide_eq_true (by first | (with_reducible assumption) | assumption)
      obtain ⟨ad229, e229, hx229_0⟩ := Kd.at_string HR0_1.out x5_1 p229 q229
      cases e229
      replace hx229_0 := bC HB hx229_0
      replace p229 := eq_true p229
      replace q229 := eq_true q229
      go_upto_region 9 with (first | ((with_reducible refine gate_callee (f := 58) rfl ?_); refine goesL_ (some 25) rfl rfl Try.func58 (by kernel_rfl) rfl #[.pointer (some ⟨gb223, 0, none⟩), .string (rdOf ByteArray.empty l0_1 x5_1)] rfl (by (try simp only [List.map_toArray, List.map_cons, List.map_nil]); first | done | rfl | (simp only [List.length_drop, List.length_take]; rfl)) ?_; (with_reducible refine (spec_l19Of.calls k1 _ 1 [(⟨l0_0, l0_1, l0_2⟩ : S32)] (rdOf ByteArray.empty l0_1 x5_1) t231 _ ?side1 ?side2 A10.out).mono ?_); (case side1 => exact ro_box (t := 32) (cs := [.slice A0_0 l0_0.length c0_0, .slice (some ad229) l0_1.length c0_1, .slice A0_2 l0_2.length c0_2]) (by (with_reducible repeat (first | refine blk_drewN ?_ _ | refine blk_drew ?_ | refine blk_alloc ?_ _)); exact BK223.out) (k32_mk _ ((⟨l0_0, l0_1, l0_2⟩ : S32)) (by exact HC0_0.out) (by repeat (first | exact (Kd.C_below HR0_0.out HB.out) | (with_reducible refine Kd.C_alloc ?_ _) | (with_reducible refine Kd.C_drewN ?_ _) | (with_reducible refine Kd.C_drew ?_))) (by exact HC0_1.out) (by repeat (first | exact (Kd.C_below HR0_1.out HB.out) | (with_reducible refine Kd.C_alloc ?_ _) | (with_reducible refine Kd.C_drewN ?_ _) | (with_reducible refine Kd.C_drew ?_))) (by exact HC0_2.out) (by repeat (first | exact (Kd.C_below HR0_2.out HB.out) | (with_reducible refine Kd.C_alloc ?_ _) | (with_reducible refine Kd.C_drewN ?_ _) | (with_reducible refine Kd.C_drew ?_)))) rfl); (case side2 => exact Nat.le_refl _); rintro e w' ⟨rfl, ⟨nd, rfl⟩⟩; refine ⟨_, rfl, ?_⟩; have p232 : 0 ≤ (x5_1 : Int) := of_decide_eq_true (by first | (with_reducible assumption) | assumption); have q232 : x5_1 < (l0_1.length : Int) := of_decide_eq_true (by first | (with_reducible assumption) | assumption); obtain ⟨ad232, e232, hx232_0⟩ := Kd.at_string HR0_1.out x5_1 p232 q232; obtain rfl : ad229 = ad232 := (by injection e232); replace hx232_0 := bC HB hx232_0; replace p232 := eq_true p232; replace q232 := eq_true q232))
      (try simp only [Act.put, List.setIfInBounds_toArray, List.set_cons_zero, List.set_cons_succ])
      go_cut [48] (fun v48 wc => ∃ (kq : Nat) (x48_10 : Bool), v48 = .bool x48_10 ∧ Aside0 (spec_WrongSides.j1 kq x4_1 x5_1 t231 ((rdOf ByteArray.empty l0_1 x5_1).size : Int) x48_10 l0_0 l0_1 l0_2 = some (r1, r2)) ∧ Aside0 (kq ≤ k1) ∧ Aside0 (Kd.R Kd.string 9 wc w.heap.size (fun _ => True) u4 x4_1) ∧ Aside0 (wc.heap[gb223]? = some (.cells #[(.slice A0_0 l0_0.length c0_0), (.slice (some ad229) l0_1.length c0_1), (.slice A0_2 l0_2.length c0_2)] 32 (0, 0))) ∧ Aside0 (Below w.heap.size w wc))
      case first =>
       have H := HC11.out
       clear HC11
       by_cases c13 : t231 < 0
       ·rw [if_pos c13] at H
        have c13b0 : decide (t231 < 0) = true := decide_eq_true c13
        clear c13
        (first | rw [c13b0] | (simp only [i64_w, i32_w]; rw [c13b0]) | skip)
        have H' := Aside0.mk H
        clear H
        go_wp2
        go_meet
        case rel => exact ⟨_, (true), (by first | rfl | (simp; done) | (simp [*]; done)), H', ⟨by have := HK1.out; first | omega | exact Nat.le_refl _⟩, ⟨by (with_reducible repeat (first | apply Kd.R_alloc | apply Kd.R_drewN | apply Kd.R_drew)); exact HO_4.out⟩, ⟨by (with_reducible repeat (first | refine blk_drewN ?_ _ | refine blk_drew ?_ | refine blk_alloc ?_ _)); exact BK223.out⟩, ⟨by repeat (first | (with_reducible first | exact HB.out | apply below_alloc | apply pw_below_drewN | apply below_drew1 | refine below_set ?_ GE223.out) | exact HB.out)⟩⟩
       ·rw [if_neg c13] at H
        have c13b0 : decide (t231 < 0) = false := decide_eq_false c13
        clear c13
        (first | rw [c13b0] | (simp only [i64_w, i32_w]; rw [c13b0]) | skip)
        by_cases c14 : ((rdOf ByteArray.empty l0_1 x5_1).size : Int) < 3
        ·rw [if_pos c14] at H
         have c14b0 : decide (((rdOf ByteArray.empty l0_1 x5_1).size : Int) < 3) = true := decide_eq_true c14
         have c14b1 : decide ((rdOf ByteArray.empty l0_1 x5_1).size < 3) = true := decide_eq_true (by omega)
         clear c14
         have H' := Aside0.mk H
         clear H
         go_wp2
         go_meet
         case rel => exact ⟨_, (true), (by first | rfl | (simp; done) | (simp [*]; done)), H', ⟨by have := HK1.out; first | omega | exact Nat.le_refl _⟩, ⟨by (with_reducible repeat (first | apply Kd.R_alloc | apply Kd.R_drewN | apply Kd.R_drew)); exact HO_4.out⟩, ⟨by (with_reducible repeat (first | refine blk_drewN ?_ _ | refine blk_drew ?_ | refine blk_alloc ?_ _)); exact BK223.out⟩, ⟨by repeat (first | (with_reducible first | exact HB.out | apply below_alloc | apply pw_below_drewN | apply below_drew1 | refine below_set ?_ GE223.out) | exact HB.out)⟩⟩
        ·rw [if_neg c14] at H
         have c14b0 : decide (((rdOf ByteArray.empty l0_1 x5_1).size : Int) < 3) = false := decide_eq_false c14
         have c14b1 : decide ((rdOf ByteArray.empty l0_1 x5_1).size < 3) = false := decide_eq_false (by omega)
         clear c14
         obtain ⟨ji15, hji15⟩ : ∃ j_ : Int, (wrap64 (((rdOf ByteArray.empty l0_1 x5_1).size : Int) - 2)) = j_ := ⟨_, rfl⟩
         replace H : (if 0 ≤ (ji15) then (if (ji15) < ((rdOf ByteArray.empty l0_1 x5_1).size : Int) then (spec_WrongSides.j1 k1 x4_1 x5_1 t231 ((rdOf ByteArray.empty l0_1 x5_1).size : Int) ((bt (rdOf ByteArray.empty l0_1 x5_1) (ji15)) != 45) l0_0 l0_1 l0_2) else (none)) else (none)) = some (r1, r2) := by first | (rw [hji15] at H; exact H) | (simp only [hji15] at H ⊢; exact H)
         have hji15w : (IntKind.i64.wrap (((rdOf ByteArray.empty l0_1 x5_1).size : Int) - 2)) = ji15 := (i64_w _).trans hji15
         by_cases c16 : 0 ≤ (ji15)
         ·rw [if_pos c16] at H
          have c16b0 : decide (0 ≤ (ji15)) = true := decide_eq_true c16
          clear c16
          by_cases c17 : (ji15) < ((rdOf ByteArray.empty l0_1 x5_1).size : Int)
          ·rw [if_pos c17] at H
           have c17b0 : decide ((ji15) < ((rdOf ByteArray.empty l0_1 x5_1).size : Int)) = true := decide_eq_true c17
           clear c17
           have H' := Aside0.mk H
           clear H
           obtain ⟨hcz19_0, hcz19_1, hcz19_2, hfz19_0, hfz19_1, hfz19_2⟩ := cz3 BK223
           have p233 : 0 ≤ (x5_1 : Int) := of_decide_eq_true (by first | (with_reducible assumption) | assumption)
           have q233 : x5_1 < (l0_1.length : Int) := of_decide_eq_true (by first | (with_reducible assumption) | assumption)
           obtain ⟨ad233, e233, hx233_0⟩ := Kd.at_string HR0_1.out x5_1 p233 q233
           obtain rfl : ad229 = ad233 := (by injection e233)
           replace hx233_0 := bC HB hx233_0
           replace p233 := eq_true p233
           replace q233 := eq_true q233
           have p18 : 0 ≤ ((ji15) : Int) := of_decide_eq_true (by first | (with_reducible assumption) | assumption)
           have q18 : (ji15) < ((rdOf ByteArray.empty l0_1 x5_1).size : Int) := of_decide_eq_true (by first | (with_reducible assumption) | assumption)
           have hx18 := bt_at (rdOf ByteArray.empty l0_1 x5_1) (ji15)
           replace p18 := eq_true p18
           replace q18 := eq_true q18
           go_wp2
           go_meet
           case rel => exact ⟨_, (((bt (rdOf ByteArray.empty l0_1 x5_1) (ji15)) != 45)), (by first | rfl | (simp; done) | (simp only [← hji15] <;> (first | rfl | simp)) | (simp [*]; done)), H', ⟨by have := HK1.out; first | omega | exact Nat.le_refl _⟩, ⟨by (with_reducible repeat (first | apply Kd.R_alloc | apply Kd.R_drewN | apply Kd.R_drew)); exact HO_4.out⟩, ⟨by (with_reducible repeat (first | refine blk_drewN ?_ _ | refine blk_drew ?_ | refine blk_alloc ?_ _)); exact BK223.out⟩, ⟨by repeat (first | (with_reducible first | exact HB.out | apply below_alloc | apply pw_below_drewN | apply below_drew1 | refine below_set ?_ GE223.out) | exact HB.out)⟩⟩
          ·rw [if_neg c17] at H
           exact absurd H (by simp)
         ·rw [if_neg c16] at H
          exact absurd H (by simp)
      case rest =>
       clear HC11
       try clear c1
       try clear p1
       try clear q1
       try clear hx1
       try clear c2
       try clear p2
       try clear q2
       try clear hx2
       try clear c4
       try clear c5
       try clear p6
       try clear c8
       try clear c8b0
       try clear c9
       try clear c9b0
       try clear c13
       try clear c13b0
       try clear c14
       try clear c14b0
       try clear c14b1
       try clear c16
       try clear c16b0
       try clear c17
       try clear c17b0
       try clear p18
       try clear q18
       try clear hx18
       try clear hcz12_0
       try clear hcz12_1
       try clear hcz12_2
       try clear hcz19_0
       try clear hcz19_1
       try clear hcz19_2
       try clear hfz12_0
       try clear hfz12_1
       try clear hfz12_2
       try clear hfz19_0
       try clear hfz19_1
       try clear hfz19_2
       try clear hx229_0
       try clear hx232_0
       try clear hx233_0
       try clear p18
       try clear p2
       try clear p229
       try clear p232
       try clear p233
       try clear q18
       try clear q229
       try clear q232
       try clear q233
       obtain ⟨kq, x48_10, rfl, HA, HJ10, HO_4, BK223, HB⟩ := hcut
       cases kq with
       | zero => exact absurd HA.out (by simp [spec_WrongSides.j1])
       | succ kj10 =>
        have H := HA.out
        clear HA
        simp only [spec_WrongSides.j1] at H
        by_cases c20 : x48_10 = true
        ·subst c20
         have H1 : (spec_WrongSides.l0 kj10 x4_1 (wrap64 (x5_1 + 1)) l0_0 l0_1 l0_2) = some (r1, r2) := by rw [if_pos rfl] at H; exact H
         clear H
         have H := H1
         clear H1
         have H' := Aside0.mk H
         clear H
         go_wp2
         go_roundg kj10
         case measure => have := HK1.out; have := HJ10.out; omega
         case rel => exact ⟨(x4_1), (wrap64 (x5_1 + 1)), (by first | rfl | (simp; done) | (simp [*]; done)), H', ⟨by have := HK1.out; have := HJ10.out; omega⟩, ⟨by (with_reducible repeat (first | apply Kd.R_alloc | apply Kd.R_drewN | apply Kd.R_drew)); exact HO_4.out⟩, ⟨by (with_reducible repeat (first | refine blk_drewN ?_ _ | refine blk_drew ?_ | refine blk_alloc ?_ _)); exact BK223.out⟩, ⟨by repeat (first | (with_reducible first | exact HB.out | apply below_alloc | apply pw_below_drewN | apply below_drew1 | refine below_set ?_ GE223.out) | exact HB.out)⟩⟩
        ·replace c20 := Bool.eq_false_iff.mpr c20
         subst c20
         have H1 : (if 0 ≤ x5_1 then (if x5_1 < (l0_1.length : Int) then (if 0 ≤ (wrap64 (((rdOf ByteArray.empty l0_1 x5_1).size : Int) - 1)) then (if (wrap64 (((rdOf ByteArray.empty l0_1 x5_1).size : Int) - 1)) ≤ ((rdOf ByteArray.empty l0_1 x5_1).size : Int) then (if 0 ≤ t231 then (if t231 < (l0_2.length : Int) then ((spec_l19Rail.f kj10 [(⟨l0_0, l0_1, l0_2⟩ : S32)] ((rd_T40 l0_2 t231).f1)).bind fun t237 => (if ((rdOf ByteArray.empty l0_1 x5_1).extract ((wrap64 (((rdOf ByteArray.empty l0_1 x5_1).size : Int) - 1)) : Int).toNat (rdOf ByteArray.empty l0_1 x5_1).size).toList = ([112] : List UInt8) then (if 0 ≤ t237 then (if t237 < (l0_0.length : Int) then (if ((rd_T69 l0_0 t237).f1).toList = ((rdOf ByteArray.empty l0_1 x5_1).extract ((wrap64 (((rdOf ByteArray.empty l0_1 x5_1).size : Int) - 1)) : Int).toNat (rdOf ByteArray.empty l0_1 x5_1).size).toList then (spec_WrongSides.l0 kj10 x4_1 (wrap64 (x5_1 + 1)) l0_0 l0_1 l0_2) else (if x4_1.length < 8796093022208 then (spec_WrongSides.l0 kj10 (x4_1 ++ [rdOf ByteArray.empty l0_1 x5_1]) (wrap64 (x5_1 + 1)) l0_0 l0_1 l0_2) else (none))) else (none)) else (none)) else (if ((rdOf ByteArray.empty l0_1 x5_1).extract ((wrap64 (((rdOf ByteArray.empty l0_1 x5_1).size : Int) - 1)) : Int).toNat (rdOf ByteArray.empty l0_1 x5_1).size).toList = ([115] : List UInt8) then (if 0 ≤ t237 then (if t237 < (l0_0.length : Int) then (if ((rd_T69 l0_0 t237).f1).toList = ((rdOf ByteArray.empty l0_1 x5_1).extract ((wrap64 (((rdOf ByteArray.empty l0_1 x5_1).size : Int) - 1)) : Int).toNat (rdOf ByteArray.empty l0_1 x5_1).size).toList then (spec_WrongSides.l0 kj10 x4_1 (wrap64 (x5_1 + 1)) l0_0 l0_1 l0_2) else (if x4_1.length < 8796093022208 then (spec_WrongSides.l0 kj10 (x4_1 ++ [rdOf ByteArray.empty l0_1 x5_1]) (wrap64 (x5_1 + 1)) l0_0 l0_1 l0_2) else (none))) else (none)) else (none)) else (spec_WrongSides.l0 kj10 x4_1 (wrap64 (x5_1 + 1)) l0_0 l0_1 l0_2)))) else (none)) else (none)) else (none)) else (none)) else (none)) else (none)) = some (r1, r2) := by rw [if_neg (show ¬ (false = true) by decide)] at H; exact H
         clear H
         have H := H1
         clear H1
         by_cases c21 : 0 ≤ x5_1
         ·rw [if_pos c21] at H
          have c21b0 : decide (0 ≤ x5_1) = true := decide_eq_true c21
          clear c21
          by_cases c22 : x5_1 < (l0_1.length : Int)
          ·rw [if_pos c22] at H
           have c22b0 : decide (x5_1 < (l0_1.length : Int)) = true := decide_eq_true c22
           clear c22
           obtain ⟨ji23, hji23⟩ : ∃ j_ : Int, (wrap64 (((rdOf ByteArray.empty l0_1 x5_1).size : Int) - 1)) = j_ := ⟨_, rfl⟩
           replace H : (if 0 ≤ (ji23) then (if (ji23) ≤ ((rdOf ByteArray.empty l0_1 x5_1).size : Int) then (if 0 ≤ t231 then (if t231 < (l0_2.length : Int) then ((spec_l19Rail.f kj10 [(⟨l0_0, l0_1, l0_2⟩ : S32)] ((rd_T40 l0_2 t231).f1)).bind fun t237 => (if ((rdOf ByteArray.empty l0_1 x5_1).extract ((ji23) : Int).toNat (rdOf ByteArray.empty l0_1 x5_1).size).toList = ([112] : List UInt8) then (if 0 ≤ t237 then (if t237 < (l0_0.length : Int) then (if ((rd_T69 l0_0 t237).f1).toList = ((rdOf ByteArray.empty l0_1 x5_1).extract ((ji23) : Int).toNat (rdOf ByteArray.empty l0_1 x5_1).size).toList then (spec_WrongSides.l0 kj10 x4_1 (wrap64 (x5_1 + 1)) l0_0 l0_1 l0_2) else (if x4_1.length < 8796093022208 then (spec_WrongSides.l0 kj10 (x4_1 ++ [rdOf ByteArray.empty l0_1 x5_1]) (wrap64 (x5_1 + 1)) l0_0 l0_1 l0_2) else (none))) else (none)) else (none)) else (if ((rdOf ByteArray.empty l0_1 x5_1).extract ((ji23) : Int).toNat (rdOf ByteArray.empty l0_1 x5_1).size).toList = ([115] : List UInt8) then (if 0 ≤ t237 then (if t237 < (l0_0.length : Int) then (if ((rd_T69 l0_0 t237).f1).toList = ((rdOf ByteArray.empty l0_1 x5_1).extract ((ji23) : Int).toNat (rdOf ByteArray.empty l0_1 x5_1).size).toList then (spec_WrongSides.l0 kj10 x4_1 (wrap64 (x5_1 + 1)) l0_0 l0_1 l0_2) else (if x4_1.length < 8796093022208 then (spec_WrongSides.l0 kj10 (x4_1 ++ [rdOf ByteArray.empty l0_1 x5_1]) (wrap64 (x5_1 + 1)) l0_0 l0_1 l0_2) else (none))) else (none)) else (none)) else (spec_WrongSides.l0 kj10 x4_1 (wrap64 (x5_1 + 1)) l0_0 l0_1 l0_2)))) else (none)) else (none)) else (none)) else (none)) = some (r1, r2) := by first | (rw [hji23] at H; exact H) | (simp only [hji23] at H ⊢; exact H)
           have hji23w : (IntKind.i64.wrap (((rdOf ByteArray.empty l0_1 x5_1).size : Int) - 1)) = ji23 := (i64_w _).trans hji23
           by_cases c24 : 0 ≤ (ji23)
           ·rw [if_pos c24] at H
            have c24b0 := eq_true c24
            have c24b1 : decide (0 ≤ (ji23)) = true := decide_eq_true c24
            clear c24
            by_cases c25 : (ji23) ≤ ((rdOf ByteArray.empty l0_1 x5_1).size : Int)
            ·rw [if_pos c25] at H
             have c25b0 := eq_true c25
             have c25b1 : decide ((ji23) ≤ ((rdOf ByteArray.empty l0_1 x5_1).size : Int)) = true := decide_eq_true c25
             clear c25
             by_cases c26 : 0 ≤ t231
             ·rw [if_pos c26] at H
              have c26b0 : decide (0 ≤ t231) = true := decide_eq_true c26
              clear c26
              by_cases c27 : t231 < (l0_2.length : Int)
              ·rw [if_pos c27] at H
               have c27b0 : decide (t231 < (l0_2.length : Int)) = true := decide_eq_true c27
               clear c27
               replace H := Option.bind_eq_some_iff.mp H
               obtain ⟨t237, A280, H⟩ := H
               replace H : (if ((rdOf ByteArray.empty l0_1 x5_1).extract ((ji23) : Int).toNat (rdOf ByteArray.empty l0_1 x5_1).size).toList = ([112] : List UInt8) then (if 0 ≤ t237 then (if t237 < (l0_0.length : Int) then (if ((rd_T69 l0_0 t237).f1).toList = ((rdOf ByteArray.empty l0_1 x5_1).extract ((ji23) : Int).toNat (rdOf ByteArray.empty l0_1 x5_1).size).toList then (spec_WrongSides.l0 kj10 x4_1 (wrap64 (x5_1 + 1)) l0_0 l0_1 l0_2) else (if x4_1.length < 8796093022208 then (spec_WrongSides.l0 kj10 (x4_1 ++ [rdOf ByteArray.empty l0_1 x5_1]) (wrap64 (x5_1 + 1)) l0_0 l0_1 l0_2) else (none))) else (none)) else (none)) else (if ((rdOf ByteArray.empty l0_1 x5_1).extract ((ji23) : Int).toNat (rdOf ByteArray.empty l0_1 x5_1).size).toList = ([115] : List UInt8) then (if 0 ≤ t237 then (if t237 < (l0_0.length : Int) then (if ((rd_T69 l0_0 t237).f1).toList = ((rdOf ByteArray.empty l0_1 x5_1).extract ((ji23) : Int).toNat (rdOf ByteArray.empty l0_1 x5_1).size).toList then (spec_WrongSides.l0 kj10 x4_1 (wrap64 (x5_1 + 1)) l0_0 l0_1 l0_2) else (if x4_1.length < 8796093022208 then (spec_WrongSides.l0 kj10 (x4_1 ++ [rdOf ByteArray.empty l0_1 x5_1]) (wrap64 (x5_1 + 1)) l0_0 l0_1 l0_2) else (none))) else (none)) else (none)) else (spec_WrongSides.l0 kj10 x4_1 (wrap64 (x5_1 + 1)) l0_0 l0_1 l0_2))) = some (r1, r2) := H
               have A28 := Aside0.mk A280
               clear A280
               have HF_ := Aside0.mk H
               clear H
               obtain ⟨hcz29_0, hcz29_1, hcz29_2, hfz29_0, hfz29_1, hfz29_2⟩ := cz3 BK223
               have p234 : 0 ≤ (x5_1 : Int) := of_decide_eq_true (by first | (with_reducible assumption) | assumption)
               have q234 : x5_1 < (l0_1.length : Int) := of_decide_eq_true (by first | (with_reducible assumption) | assumption)
               obtain ⟨ad234, e234, hx234_0⟩ := Kd.at_string HR0_1.out x5_1 p234 q234
               obtain rfl : ad229 = ad234 := (by injection e234)
               replace hx234_0 := bC HB hx234_0
               replace p234 := eq_true p234
               replace q234 := eq_true q234
               have p235 : 0 ≤ (t231 : Int) := of_decide_eq_true (by first | (with_reducible assumption) | assumption)
               have q235 : t231 < (l0_2.length : Int) := of_decide_eq_true (by first | (with_reducible assumption) | assumption)
               obtain ⟨ad235, e235, hx235_0, hx235_1, hx235_2⟩ := at_T40 HR0_2.out t231 p235 q235
               cases e235
               replace hx235_0 := bC HB hx235_0
               replace hx235_1 := bC HB hx235_1
               replace hx235_2 := bC HB hx235_2
               replace p235 := eq_true p235
               replace q235 := eq_true q235
               go_upto_region 12 with (first | ((with_reducible refine gate_callee (f := 50) rfl ?_); refine goesL_ (some 63) rfl rfl Try.func50 (by kernel_rfl) rfl #[.pointer (some ⟨gb223, 0, none⟩), .string ((rd_T40 l0_2 t231).f1)] rfl (by (try simp only [List.map_toArray, List.map_cons, List.map_nil]); first | done | rfl | (simp only [List.length_drop, List.length_take]; rfl)) ?_; (with_reducible refine (spec_l19Rail.calls kj10 _ 1 [(⟨l0_0, l0_1, l0_2⟩ : S32)] ((rd_T40 l0_2 t231).f1) t237 _ ?side1 ?side2 A28.out).mono ?_); (case side1 => exact ro_box (t := 32) (cs := [.slice A0_0 l0_0.length c0_0, .slice (some ad229) l0_1.length c0_1, .slice (some ad235) l0_2.length c0_2]) (by (with_reducible repeat (first | refine blk_drewN ?_ _ | refine blk_drew ?_ | refine blk_alloc ?_ _)); exact BK223.out) (k32_mk _ ((⟨l0_0, l0_1, l0_2⟩ : S32)) (by exact HC0_0.out) (by repeat (first | exact (Kd.C_below HR0_0.out HB.out) | (with_reducible refine Kd.C_alloc ?_ _) | (with_reducible refine Kd.C_drewN ?_ _) | (with_reducible refine Kd.C_drew ?_))) (by exact HC0_1.out) (by repeat (first | exact (Kd.C_below HR0_1.out HB.out) | (with_reducible refine Kd.C_alloc ?_ _) | (with_reducible refine Kd.C_drewN ?_ _) | (with_reducible refine Kd.C_drew ?_))) (by exact HC0_2.out) (by repeat (first | exact (Kd.C_below HR0_2.out HB.out) | (with_reducible refine Kd.C_alloc ?_ _) | (with_reducible refine Kd.C_drewN ?_ _) | (with_reducible refine Kd.C_drew ?_)))) rfl); (case side2 => exact Nat.le_refl _); rintro e w' ⟨rfl, ⟨nd, rfl⟩⟩; refine ⟨_, rfl, ?_⟩))
               (try simp only [Act.put, List.setIfInBounds_toArray, List.set_cons_zero, List.set_cons_succ])
               have H := HF_.out
               clear HF_
               by_cases c30 : ((rdOf ByteArray.empty l0_1 x5_1).extract ((ji23) : Int).toNat (rdOf ByteArray.empty l0_1 x5_1).size).toList = ([112] : List UInt8)
               ·rw [if_pos c30] at H
                have c30b0 : (((rdOf ByteArray.empty l0_1 x5_1).extract ((ji23) : Int).toNat (rdOf ByteArray.empty l0_1 x5_1).size).toList == ([112] : List UInt8)) = true := beq_iff_eq.mpr c30
                have c30b1 : (((rdOf ByteArray.empty l0_1 x5_1).extract ((ji23) : Int).toNat (rdOf ByteArray.empty l0_1 x5_1).size).toList != ([112] : List UInt8)) = false := bne_eq_false_iff_eq.mpr c30
                clear c30
                (first | rw [c30b0] | (simp only [i64_w, i32_w]; rw [c30b0]) | skip)
                by_cases c31 : 0 ≤ t237
                ·rw [if_pos c31] at H
                 have c31b0 : decide (0 ≤ t237) = true := decide_eq_true c31
                 clear c31
                 by_cases c32 : t237 < (l0_0.length : Int)
                 ·rw [if_pos c32] at H
                  have c32b0 : decide (t237 < (l0_0.length : Int)) = true := decide_eq_true c32
                  clear c32
                  by_cases c33 : ((rd_T69 l0_0 t237).f1).toList = ((rdOf ByteArray.empty l0_1 x5_1).extract ((ji23) : Int).toNat (rdOf ByteArray.empty l0_1 x5_1).size).toList
                  ·rw [if_pos c33] at H
                   have c33b0 : (((rd_T69 l0_0 t237).f1).toList == ((rdOf ByteArray.empty l0_1 x5_1).extract ((ji23) : Int).toNat (rdOf ByteArray.empty l0_1 x5_1).size).toList) = true := beq_iff_eq.mpr c33
                   have c33b1 : (((rd_T69 l0_0 t237).f1).toList != ((rdOf ByteArray.empty l0_1 x5_1).extract ((ji23) : Int).toNat (rdOf ByteArray.empty l0_1 x5_1).size).toList) = false := bne_eq_false_iff_eq.mpr c33
                   clear c33
                   have H' := Aside0.mk H
                   clear H
                   obtain ⟨hcz34_0, hcz34_1, hcz34_2, hfz34_0, hfz34_1, hfz34_2⟩ := cz3 BK223
                   have p238 : 0 ≤ (t237 : Int) := of_decide_eq_true (by first | (with_reducible assumption) | assumption)
                   have q238 : t237 < (l0_0.length : Int) := of_decide_eq_true (by first | (with_reducible assumption) | assumption)
                   obtain ⟨ad238, e238, hx238_0, hx238_1, hx238_2⟩ := at_T69 HR0_0.out t237 p238 q238
                   cases e238
                   replace hx238_0 := bC HB hx238_0
                   replace hx238_1 := bC HB hx238_1
                   replace hx238_2 := bC HB hx238_2
                   replace p238 := eq_true p238
                   replace q238 := eq_true q238
                   go_wp2
                   go_roundg kj10
                   case measure => have := HK1.out; have := HJ10.out; omega
                   case rel => exact ⟨(x4_1), (wrap64 (x5_1 + 1)), (by first | rfl | (simp; done) | (simp [*]; done)), H', ⟨by have := HK1.out; have := HJ10.out; omega⟩, ⟨by (with_reducible repeat (first | apply Kd.R_alloc | apply Kd.R_drewN | apply Kd.R_drew)); exact HO_4.out⟩, ⟨by (with_reducible repeat (first | refine blk_drewN ?_ _ | refine blk_drew ?_ | refine blk_alloc ?_ _)); exact BK223.out⟩, ⟨by repeat (first | (with_reducible first | exact HB.out | apply below_alloc | apply pw_below_drewN | apply below_drew1 | refine below_set ?_ GE223.out) | exact HB.out)⟩⟩
                  ·rw [if_neg c33] at H
                   have c33b0 : (((rd_T69 l0_0 t237).f1).toList == ((rdOf ByteArray.empty l0_1 x5_1).extract ((ji23) : Int).toNat (rdOf ByteArray.empty l0_1 x5_1).size).toList) = false := beq_eq_false_iff_ne.mpr c33
                   have c33b1 : (((rd_T69 l0_0 t237).f1).toList != ((rdOf ByteArray.empty l0_1 x5_1).extract ((ji23) : Int).toNat (rdOf ByteArray.empty l0_1 x5_1).size).toList) = true := bne_iff_ne.mpr c33
                   by_cases c35 : x4_1.length < 8796093022208
                   ·rw [if_pos c35] at H
                    have LMc35 := Aside0.mk c35
                    clear c35
                    obtain ⟨y240, hy240⟩ : ∃ y_ : List ByteArray, y_ = (x4_1 ++ [rdOf ByteArray.empty l0_1 x5_1]) := ⟨_, rfl⟩
                    replace H : (spec_WrongSides.l0 kj10 y240 (wrap64 (x5_1 + 1)) l0_0 l0_1 l0_2) = some (r1, r2) := by first | (rw [hy240]; with_reducible exact H) | (have H2_ := (Option.bind_some _ _).symm.trans H; rw [hy240]; with_reducible exact H2_) | (have H2_ := (Option.bind_some _ _).symm.trans H; with_reducible exact H2_) | with_reducible exact H | (rw [hy240]; exact H) | exact H
                    have Ny240 := Aside0.mk hy240
                    clear hy240
                    have H' := Aside0.mk H
                    clear H
                    obtain ⟨hcz36_0, hcz36_1, hcz36_2, hfz36_0, hfz36_1, hfz36_2⟩ := cz3 BK223
                    have p238 : 0 ≤ (t237 : Int) := of_decide_eq_true (by first | (with_reducible assumption) | assumption)
                    have q238 : t237 < (l0_0.length : Int) := of_decide_eq_true (by first | (with_reducible assumption) | assumption)
                    obtain ⟨ad238, e238, hx238_0, hx238_1, hx238_2⟩ := at_T69 HR0_0.out t237 p238 q238
                    cases e238
                    replace hx238_0 := bC HB hx238_0
                    replace hx238_1 := bC HB hx238_1
                    replace hx238_2 := bC HB hx238_2
                    replace p238 := eq_true p238
                    replace q238 := eq_true q238
                    have p239 : 0 ≤ (x5_1 : Int) := of_decide_eq_true (by first | (with_reducible assumption) | assumption)
                    have q239 : x5_1 < (l0_1.length : Int) := of_decide_eq_true (by first | (with_reducible assumption) | assumption)
                    obtain ⟨ad239, e239, hx239_0⟩ := Kd.at_string HR0_1.out x5_1 p239 q239
                    obtain rfl : ad229 = ad239 := (by injection e239)
                    replace hx239_0 := bC HB hx239_0
                    replace p239 := eq_true p239
                    replace q239 := eq_true q239
                    go_wp2_with (first | ((with_reducible refine gate_builtin (b := .append) (xs := #[.tmp 80, .tmp 86]) rfl ?_); at_builtin; refine Kd.R_append Kd.string (w0 := w) w.heap.size rfl (.tmp 80) (.tmp 86) 23 9 (.string ⟨#[]⟩) 16 rfl Try.underlying23 info9 rfl (by decide) (by omega) u4 x4_1 (rdOf ByteArray.empty l0_1 x5_1) [.string (rdOf ByteArray.empty l0_1 x5_1)] (fun _ => True) (fun _ => False) rfl rfl ?aP (fun _ hk => hk.elim) ?aF ?aO ?aB ?aS ?aL ?_; (case aP => exact rfl); (case aB => exact (by repeat (first | (with_reducible first | exact HB.out | apply below_alloc | apply pw_below_drewN | apply below_drew1 | refine below_set ?_ GE223.out) | exact HB.out))); (case aF => exact (fun _ _ => trivial)); (case aO => exact (by (with_reducible repeat (first | apply Kd.R_alloc | apply Kd.R_drewN | apply Kd.R_drew)); exact HO_4.out)); (case aS => exact (below_size (by repeat (first | (with_reducible first | exact HB.out | apply below_alloc | apply pw_below_drewN | apply below_drew1 | refine below_set ?_ GE223.out) | exact HB.out)))); (case aL => have := LMc35.out; omega); intro v241 w37 ho hb hg hat; rw [← Ny240.out] at ho; have n0_ := Aside0.mk (blk_grown (g := gb223) (o := .cells #[.slice (some ad238) l0_0.length c0_0, .slice (some ad229) l0_1.length c0_1, .slice (some ad235) l0_2.length c0_2] 32 (0, 0)) (by (with_reducible repeat (first | refine blk_drewN ?_ _ | refine blk_drew ?_ | refine blk_alloc ?_ _)); exact BK223.out) hg (Kd.R_ne HO_4.out BK223.out (by decide))); have n1_ := Aside0.mk (hb); have n2_ := Aside0.mk (ho); clear BK223 HB HO_4; have BK223 := n0_; have HB := n1_; have HO242 := n2_; clear n0_ n1_ n2_; clear ho hb hg hat))
                    go_roundg kj10
                    case measure => have := HK1.out; have := HJ10.out; omega
                    case rel => exact ⟨(y240), (wrap64 (x5_1 + 1)), (by first | rfl | (simp; done) | (simp [*]; done)), H', ⟨by have := HK1.out; have := HJ10.out; omega⟩, ⟨by (with_reducible repeat (first | apply Kd.R_alloc | apply Kd.R_drewN | apply Kd.R_drew)); exact HO242.out⟩, ⟨by (with_reducible repeat (first | refine blk_drewN ?_ _ | refine blk_drew ?_ | refine blk_alloc ?_ _)); exact BK223.out⟩, ⟨by repeat (first | (with_reducible first | exact HB.out | apply below_alloc | apply pw_below_drewN | apply below_drew1 | refine below_set ?_ GE223.out) | exact HB.out)⟩⟩
                   ·rw [if_neg c35] at H
                    exact absurd H (by simp)
                 ·rw [if_neg c32] at H
                  exact absurd H (by simp)
                ·rw [if_neg c31] at H
                 exact absurd H (by simp)
               ·rw [if_neg c30] at H
                have c30b0 : (((rdOf ByteArray.empty l0_1 x5_1).extract ((ji23) : Int).toNat (rdOf ByteArray.empty l0_1 x5_1).size).toList == ([112] : List UInt8)) = false := beq_eq_false_iff_ne.mpr c30
                have c30b1 : (((rdOf ByteArray.empty l0_1 x5_1).extract ((ji23) : Int).toNat (rdOf ByteArray.empty l0_1 x5_1).size).toList != ([112] : List UInt8)) = true := bne_iff_ne.mpr c30
                (first | rw [c30b0] | (simp only [i64_w, i32_w]; rw [c30b0]) | skip)
                by_cases c38 : ((rdOf ByteArray.empty l0_1 x5_1).extract ((ji23) : Int).toNat (rdOf ByteArray.empty l0_1 x5_1).size).toList = ([115] : List UInt8)
                ·rw [if_pos c38] at H
                 have c38b0 : (((rdOf ByteArray.empty l0_1 x5_1).extract ((ji23) : Int).toNat (rdOf ByteArray.empty l0_1 x5_1).size).toList == ([115] : List UInt8)) = true := beq_iff_eq.mpr c38
                 have c38b1 : (((rdOf ByteArray.empty l0_1 x5_1).extract ((ji23) : Int).toNat (rdOf ByteArray.empty l0_1 x5_1).size).toList != ([115] : List UInt8)) = false := bne_eq_false_iff_eq.mpr c38
                 clear c38
                 by_cases c39 : 0 ≤ t237
                 ·rw [if_pos c39] at H
                  have c39b0 : decide (0 ≤ t237) = true := decide_eq_true c39
                  clear c39
                  by_cases c40 : t237 < (l0_0.length : Int)
                  ·rw [if_pos c40] at H
                   have c40b0 : decide (t237 < (l0_0.length : Int)) = true := decide_eq_true c40
                   clear c40
                   by_cases c41 : ((rd_T69 l0_0 t237).f1).toList = ((rdOf ByteArray.empty l0_1 x5_1).extract ((ji23) : Int).toNat (rdOf ByteArray.empty l0_1 x5_1).size).toList
                   ·rw [if_pos c41] at H
                    have c41b0 : (((rd_T69 l0_0 t237).f1).toList == ((rdOf ByteArray.empty l0_1 x5_1).extract ((ji23) : Int).toNat (rdOf ByteArray.empty l0_1 x5_1).size).toList) = true := beq_iff_eq.mpr c41
                    have c41b1 : (((rd_T69 l0_0 t237).f1).toList != ((rdOf ByteArray.empty l0_1 x5_1).extract ((ji23) : Int).toNat (rdOf ByteArray.empty l0_1 x5_1).size).toList) = false := bne_eq_false_iff_eq.mpr c41
                    clear c41
                    have H' := Aside0.mk H
                    clear H
                    obtain ⟨hcz42_0, hcz42_1, hcz42_2, hfz42_0, hfz42_1, hfz42_2⟩ := cz3 BK223
                    have p243 : 0 ≤ (t237 : Int) := of_decide_eq_true (by first | (with_reducible assumption) | assumption)
                    have q243 : t237 < (l0_0.length : Int) := of_decide_eq_true (by first | (with_reducible assumption) | assumption)
                    obtain ⟨ad243, e243, hx243_0, hx243_1, hx243_2⟩ := at_T69 HR0_0.out t237 p243 q243
                    cases e243
                    replace hx243_0 := bC HB hx243_0
                    replace hx243_1 := bC HB hx243_1
                    replace hx243_2 := bC HB hx243_2
                    replace p243 := eq_true p243
                    replace q243 := eq_true q243
                    go_wp2
                    go_roundg kj10
                    case measure => have := HK1.out; have := HJ10.out; omega
                    case rel => exact ⟨(x4_1), (wrap64 (x5_1 + 1)), (by first | rfl | (simp; done) | (simp [*]; done)), H', ⟨by have := HK1.out; have := HJ10.out; omega⟩, ⟨by (with_reducible repeat (first | apply Kd.R_alloc | apply Kd.R_drewN | apply Kd.R_drew)); exact HO_4.out⟩, ⟨by (with_reducible repeat (first | refine blk_drewN ?_ _ | refine blk_drew ?_ | refine blk_alloc ?_ _)); exact BK223.out⟩, ⟨by repeat (first | (with_reducible first | exact HB.out | apply below_alloc | apply pw_below_drewN | apply below_drew1 | refine below_set ?_ GE223.out) | exact HB.out)⟩⟩
                   ·rw [if_neg c41] at H
                    have c41b0 : (((rd_T69 l0_0 t237).f1).toList == ((rdOf ByteArray.empty l0_1 x5_1).extract ((ji23) : Int).toNat (rdOf ByteArray.empty l0_1 x5_1).size).toList) = false := beq_eq_false_iff_ne.mpr c41
                    have c41b1 : (((rd_T69 l0_0 t237).f1).toList != ((rdOf ByteArray.empty l0_1 x5_1).extract ((ji23) : Int).toNat (rdOf ByteArray.empty l0_1 x5_1).size).toList) = true := bne_iff_ne.mpr c41
                    by_cases c43 : x4_1.length < 8796093022208
                    ·rw [if_pos c43] at H
                     have LMc43 := Aside0.mk c43
                     clear c43
                     obtain ⟨y245, hy245⟩ : ∃ y_ : List ByteArray, y_ = (x4_1 ++ [rdOf ByteArray.empty l0_1 x5_1]) := ⟨_, rfl⟩
                     replace H : (spec_WrongSides.l0 kj10 y245 (wrap64 (x5_1 + 1)) l0_0 l0_1 l0_2) = some (r1, r2) := by first | (rw [hy245]; with_reducible exact H) | (have H2_ := (Option.bind_some _ _).symm.trans H; rw [hy245]; with_reducible exact H2_) | (have H2_ := (Option.bind_some _ _).symm.trans H; with_reducible exact H2_) | with_reducible exact H | (rw [hy245]; exact H) | exact H
                     have Ny245 := Aside0.mk hy245
                     clear hy245
                     have H' := Aside0.mk H
                     clear H
                     obtain ⟨hcz44_0, hcz44_1, hcz44_2, hfz44_0, hfz44_1, hfz44_2⟩ := cz3 BK223
                     have p243 : 0 ≤ (t237 : Int) := of_decide_eq_true (by first | (with_reducible assumption) | assumption)
                     have q243 : t237 < (l0_0.length : Int) := of_decide_eq_true (by first | (with_reducible assumption) | assumption)
                     obtain ⟨ad243, e243, hx243_0, hx243_1, hx243_2⟩ := at_T69 HR0_0.out t237 p243 q243
                     cases e243
                     replace hx243_0 := bC HB hx243_0
                     replace hx243_1 := bC HB hx243_1
                     replace hx243_2 := bC HB hx243_2
                     replace p243 := eq_true p243
                     replace q243 := eq_true q243
                     have p244 : 0 ≤ (x5_1 : Int) := of_decide_eq_true (by first | (with_reducible assumption) | assumption)
                     have q244 : x5_1 < (l0_1.length : Int) := of_decide_eq_true (by first | (with_reducible assumption) | assumption)
                     obtain ⟨ad244, e244, hx244_0⟩ := Kd.at_string HR0_1.out x5_1 p244 q244
                     obtain rfl : ad229 = ad244 := (by injection e244)
                     replace hx244_0 := bC HB hx244_0
                     replace p244 := eq_true p244
                     replace q244 := eq_true q244
                     go_wp2_with (first | ((with_reducible refine gate_builtin (b := .append) (xs := #[.tmp 80, .tmp 86]) rfl ?_); at_builtin; refine Kd.R_append Kd.string (w0 := w) w.heap.size rfl (.tmp 80) (.tmp 86) 23 9 (.string ⟨#[]⟩) 16 rfl Try.underlying23 info9 rfl (by decide) (by omega) u4 x4_1 (rdOf ByteArray.empty l0_1 x5_1) [.string (rdOf ByteArray.empty l0_1 x5_1)] (fun _ => True) (fun _ => False) rfl rfl ?aP (fun _ hk => hk.elim) ?aF ?aO ?aB ?aS ?aL ?_; (case aP => exact rfl); (case aB => exact (by repeat (first | (with_reducible first | exact HB.out | apply below_alloc | apply pw_below_drewN | apply below_drew1 | refine below_set ?_ GE223.out) | exact HB.out))); (case aF => exact (fun _ _ => trivial)); (case aO => exact (by (with_reducible repeat (first | apply Kd.R_alloc | apply Kd.R_drewN | apply Kd.R_drew)); exact HO_4.out)); (case aS => exact (below_size (by repeat (first | (with_reducible first | exact HB.out | apply below_alloc | apply pw_below_drewN | apply below_drew1 | refine below_set ?_ GE223.out) | exact HB.out)))); (case aL => have := LMc43.out; omega); intro v246 w45 ho hb hg hat; rw [← Ny245.out] at ho; have n0_ := Aside0.mk (blk_grown (g := gb223) (o := .cells #[.slice (some ad243) l0_0.length c0_0, .slice (some ad229) l0_1.length c0_1, .slice (some ad235) l0_2.length c0_2] 32 (0, 0)) (by (with_reducible repeat (first | refine blk_drewN ?_ _ | refine blk_drew ?_ | refine blk_alloc ?_ _)); exact BK223.out) hg (Kd.R_ne HO_4.out BK223.out (by decide))); have n1_ := Aside0.mk (hb); have n2_ := Aside0.mk (ho); clear BK223 HB HO_4; have BK223 := n0_; have HB := n1_; have HO247 := n2_; clear n0_ n1_ n2_; clear ho hb hg hat))
                     go_roundg kj10
                     case measure => have := HK1.out; have := HJ10.out; omega
                     case rel => exact ⟨(y245), (wrap64 (x5_1 + 1)), (by first | rfl | (simp; done) | (simp [*]; done)), H', ⟨by have := HK1.out; have := HJ10.out; omega⟩, ⟨by (with_reducible repeat (first | apply Kd.R_alloc | apply Kd.R_drewN | apply Kd.R_drew)); exact HO247.out⟩, ⟨by (with_reducible repeat (first | refine blk_drewN ?_ _ | refine blk_drew ?_ | refine blk_alloc ?_ _)); exact BK223.out⟩, ⟨by repeat (first | (with_reducible first | exact HB.out | apply below_alloc | apply pw_below_drewN | apply below_drew1 | refine below_set ?_ GE223.out) | exact HB.out)⟩⟩
                    ·rw [if_neg c43] at H
                     exact absurd H (by simp)
                  ·rw [if_neg c40] at H
                   exact absurd H (by simp)
                 ·rw [if_neg c39] at H
                  exact absurd H (by simp)
                ·rw [if_neg c38] at H
                 have c38b0 : (((rdOf ByteArray.empty l0_1 x5_1).extract ((ji23) : Int).toNat (rdOf ByteArray.empty l0_1 x5_1).size).toList == ([115] : List UInt8)) = false := beq_eq_false_iff_ne.mpr c38
                 have c38b1 : (((rdOf ByteArray.empty l0_1 x5_1).extract ((ji23) : Int).toNat (rdOf ByteArray.empty l0_1 x5_1).size).toList != ([115] : List UInt8)) = true := bne_iff_ne.mpr c38
                 have H' := Aside0.mk H
                 clear H
                 go_wp2
                 go_roundg kj10
                 case measure => have := HK1.out; have := HJ10.out; omega
                 case rel => exact ⟨(x4_1), (wrap64 (x5_1 + 1)), (by first | rfl | (simp; done) | (simp [*]; done)), H', ⟨by have := HK1.out; have := HJ10.out; omega⟩, ⟨by (with_reducible repeat (first | apply Kd.R_alloc | apply Kd.R_drewN | apply Kd.R_drew)); exact HO_4.out⟩, ⟨by (with_reducible repeat (first | refine blk_drewN ?_ _ | refine blk_drew ?_ | refine blk_alloc ?_ _)); exact BK223.out⟩, ⟨by repeat (first | (with_reducible first | exact HB.out | apply below_alloc | apply pw_below_drewN | apply below_drew1 | refine below_set ?_ GE223.out) | exact HB.out)⟩⟩
              ·rw [if_neg c27] at H
               exact absurd H (by simp)
             ·rw [if_neg c26] at H
              exact absurd H (by simp)
            ·rw [if_neg c25] at H
             exact absurd H (by simp)
           ·rw [if_neg c24] at H
            exact absurd H (by simp)
          ·rw [if_neg c22] at H
           exact absurd H (by simp)
         ·rw [if_neg c21] at H
          exact absurd H (by simp)
     ·rw [if_neg c9] at H
      exact absurd H (by simp)
    ·rw [if_neg c8] at H
     have c8b0 : decide (x5_1 < (l0_1.length : Int)) = false := decide_eq_false c8
     clear c8
     (first | rw [c8b0] | (simp only [i64_w, i32_w]; rw [c8b0]) | skip)
     simp only [Option.some.injEq, Prod.mk.injEq] at H
     obtain ⟨rfl, rfl⟩ := H
     obtain ⟨hcz46_0, hcz46_1, hcz46_2, hfz46_0, hfz46_1, hfz46_2⟩ := cz3 BK223
     go_wp2
     go_ret2
     exact ⟨_, by first | rfl | (simp [errW_none, errW_some] <;> rfl) | (simp [*, errW_none, errW_some] <;> rfl), by (with_reducible repeat (first | apply Kd.R_alloc | apply Kd.R_drewN | apply Kd.R_drew)); exact HO_4.out, by repeat (first | (with_reducible first | exact HB.out | apply below_alloc | apply pw_below_drewN | apply below_drew1 | refine below_set ?_ GE223.out) | exact HB.out)⟩
 ·replace c5 := Bool.eq_false_iff.mpr c5
  subst c5
  have H1 : (some (([] : List ByteArray), 1)) = some (r1, r2) := by rw [if_neg (show ¬ (false = true) by decide)] at H; exact H
  clear H
  have H := H1
  clear H1
  simp only [Option.some.injEq, Prod.mk.injEq] at H
  obtain ⟨rfl, rfl⟩ := H
  go_wp2
  go_ret2
  exact ⟨_, by first | rfl | (simp [errW_none, errW_some] <;> rfl) | (simp [*, errW_none, errW_some] <;> rfl), by first | exact Kd.R_nil _ _ _ _ _ | exact Kd.N_nil _ _ _ _ _ | exact Kd.V_nil _ _ _ _ _ | exact Kd.Q_nil _ _ _ _ _ | exact Kd.S_nil _ _ _ _ _, by repeat (first | (with_reducible first | exact HB.out | apply below_alloc | apply pw_below_drewN | apply below_drew1 | refine below_set ?_ GE223.out) | exact HB.out)⟩

-- NOT PRINTED: function 83 (impl_Rail)

/-! ### impl_railNamed: function 63, by hand -/
def idxF {α : Type} (p : α → Bool) (l : List α) : Int := match l.findIdx? p with | some i => (i : Int) | none => -1
theorem idxF_hit {α : Type} (p : α → Bool) (l : List α) (k : Nat) (hk : k < l.length) (h : p l[k] = true) (ha : ∀ j (hj : j < k), p (l[j]'(by omega)) = false) : idxF p l = (k : Int) := by
 have : l.findIdx? p = some k := by
  rw [List.findIdx?_eq_some_iff_getElem]
  exact ⟨hk, h, fun j hj => by rw [ha j hj]; decide⟩
 unfold idxF
 rw [this]
theorem idxF_miss {α : Type} (p : α → Bool) (l : List α) (ha : ∀ j (hj : j < l.length), p l[j] = false) : idxF p l = -1 := by
 have : l.findIdx? p = none := by
  rw [List.findIdx?_eq_none_iff]
  intro x hx
  obtain ⟨j, hj, rfl⟩ := List.getElem_of_mem hx
  exact ha j hj
 unfold idxF
 rw [this]
theorem str_beq (a b : ByteArray) : (a.toList == b.toList) = decide (a = b) := by
 rw [Bool.eq_iff_iff, beq_iff_eq, decide_eq_true_eq, ByteArray.toList_eq, ByteArray.toList_eq]
 exact ⟨fun h => ByteArray.ext (Array.toList_inj.mp h), fun h => by rw [h]⟩
set_option maxHeartbeats 8000000 in
set_option maxRecDepth 100000 in
theorem gen83 (g : Nat) (lb : Array Value) (p : S69 → Bool) (A0 : Option Addr) (c0 : Nat) (l0 : List S69) (w : World) (eg : ∀ args w, (callFunc g args).run Try.prog w = .ok (.enter g args) w) (hr0 : Kd.C k69 w A0 l0.length l0) (hn : l0.length < 4611686018427387904)
 (hp : ∀ (W : World) (x : S69) , Below w.heap.size w W → Calls Try.prog g (#[.agg #[.string x.f0, .string x.f1, .int .i64 x.f2]] ++ lb) W fun e w' => e = .returned (.bool (p x)) ∧ Below w.heap.size w w') :
 Calls Try.prog 83 #[.slice A0 l0.length c0, .func (.func g) #[] lb] w fun e w' => e = .returned (.int .i64 (idxF p l0)) ∧ Below w.heap.size w w' := by
 have HR := Aside0.mk hr0
 clear hr0
 generalize hL : l0.length = n at hn HR
 have HN := Aside0.mk hL
 clear hL
 go_enter Try.func83, Try.ntmps83
 go_wp2
 go_loopg [5, 8] n (fun gg _ s8 wr => ∃ kk : Nat, kk ≤ n ∧ n - kk ≤ gg ∧ s8 = .int .i64 kk ∧ Aside0 (Below w.heap.size w wr) ∧ Aside0 (∀ j (hj : j < kk) (hl : j < l0.length), p l0[j] = false))
 case atStart => exact ⟨0, Nat.zero_le _, by omega, rfl, ⟨Below.refl _ w⟩, ⟨fun j hj => absurd hj (Nat.not_lt_zero _)⟩⟩
 case round =>
  obtain ⟨kk, hkk, hg, rfl, BW, A⟩ := hrel
  by_cases hlt : kk < n
  ·have hltz : (kk : Int) < (n : Int) := by omega
   have hb0 : decide ((kk : Int) < (n : Int)) = true := decide_eq_true hltz
   have hb2 : decide (kk < n) = true := decide_eq_true hlt
   have hkl : kk < l0.length := by rw [HN.out]; exact hlt
   obtain ⟨ad, e0, hx0, hx1, hx2⟩ := at_T69 HR.out (kk : Int) (by omega) (by omega)
   cases e0
   have ex : rd_T69 l0 (kk : Int) = l0[kk] := by simp [rd_T69, hkl]
   rw [ex] at hx0 hx1 hx2
   rw [Int.toNat_natCast] at hx0 hx1 hx2
   replace hx0 := (BW.out.cell (World.block_lt_of_cell? w _ hx0)).trans hx0
   replace hx1 := (BW.out.cell (World.block_lt_of_cell? w _ hx1)).trans hx1
   replace hx2 := (BW.out.cell (World.block_lt_of_cell? w _ hx2)).trans hx2
   have hcall := hp wr l0[kk] BW.out
   generalize hy : l0[kk] = y at hx0 hx1 hx2 hcall
   have B := Aside0.mk hy
   clear hy ex
   have HP := Aside0.mk hp
   clear hp
   cases hq : p y with
   | true =>
    rw [hq] at hcall
    have HQ := Aside0.mk hq
    clear hq
    go_wp2_with (fail)
    refine hcall.mono ?_
    rintro e w' ⟨rfl, hb'⟩
    clear hcall hx0 hx1 hx2
    have HB' := Aside0.mk hb'
    clear hb'
    go_wp2
    go_ret
    refine ⟨?_, HB'.out⟩
    rw [idxF_hit p l0 kk hkl (by rw [B.out]; exact HQ.out) (fun j hj => A.out j hj (by omega))]
    rfl
   | false =>
    rw [hq] at hcall
    have HQ := Aside0.mk hq
    clear hq
    go_wp2_with (fail)
    refine hcall.mono ?_
    rintro e w' ⟨rfl, hb'⟩
    clear hcall hx0 hx1 hx2
    have HB' := Aside0.mk hb'
    clear hb'
    go_wp2
    go_roundg (n - (kk + 1))
    case measure => omega
    case rel =>
     refine ⟨kk + 1, by omega, by omega, by go_num, HB', ⟨fun j hj hl => ?_⟩⟩
     by_cases e : j = kk
     ·subst e
      rw [B.out]; exact HQ.out
     ·exact A.out j (by omega) hl
  ·have hltz : ¬ (kk : Int) < (n : Int) := by omega
   have hb0 : decide ((kk : Int) < (n : Int)) = false := decide_eq_false hltz
   have hb2 : decide (kk < n) = false := decide_eq_false hlt
   have hkn : kk = n := by omega
   have HKN := Aside0.mk hkn
   clear hkn
   go_wp2
   go_ret
   refine ⟨?_, BW.out⟩
   rw [idxF_miss p l0 (fun j hj => A.out j (by rw [HKN.out, ← HN.out]; exact hj) hj)]
   rfl
set_option maxHeartbeats 8000000 in
set_option maxRecDepth 100000 in
theorem pred84 (g : Nat) (s : ByteArray) (w : World) (x : S69) (BK : w.heap[g]? = some (.cells #[.string s] 9 (0, 0))) :
 Calls Try.prog 84 #[.agg #[.string x.f0, .string x.f1, .int .i64 x.f2], .pointer (some ⟨g, 0, none⟩)] w fun e w' => e = .returned (.bool (decide (x.f0 = s))) ∧ Below w.heap.size w w' := by
 have B1 := Aside0.mk BK
 clear BK
 have HB := Aside0.mk (Below.refl w.heap.size w)
 go_enter Try.func84, Try.ntmps84
 go_wp2_with (first | ((with_reducible refine gate_dst (N := 2) rfl ?_); refine box_event ?hg (N := 2) ?hd (cs := #[.string x.f0, .string x.f1, .int .i64 x.f2]) (t := 69) ?hr ?_; (case hd => rfl); (case hg => rfl); (case hr => first | (go_simp; done) | (go_simp; rfl)); intro gb hg w4 hbox hb; have n0_ := pS HB hb; have n1_ := Aside0.mk hbox; have n2_ := pB B1 hb; clear HB hbox B1 hb hg; have HB := n0_; have BK := n1_; have B1 := n2_; clear n0_ n1_ n2_; obtain ⟨hc0, hc1, hc2, hf0, hf1, hf2⟩ := cz3 BK; obtain ⟨hd0, hg0⟩ := cz1 B1))
 go_ret
 refine ⟨?_, pR HB⟩
 rw [str_beq]
 rfl
set_option maxHeartbeats 8000000 in
set_option maxRecDepth 100000 in
theorem impl_railNamed.go (A0_0 : Option Addr) (c0_0 : Nat) (l0_0 : List (S69)) (A0_1 : Option Addr) (c0_1 : Nat) (l0_1 : List ByteArray) (A0_2 : Option Addr) (c0_2 : Nat) (l0_2 : List (S40)) (a1 : ByteArray) (w : World) (hr : Kd.C k69 w A0_0 l0_0.length l0_0) (hn : l0_0.length < 4611686018427387904) :
 Calls Try.prog 63 #[.agg #[.slice A0_0 l0_0.length c0_0, .slice A0_1 l0_1.length c0_1, .slice A0_2 l0_2.length c0_2], .string a1] w fun e w' => e = .returned (.int .i64 (idxF (fun x : S69 => decide (x.f0 = a1)) l0_0)) ∧ Below w.heap.size w w' := by
 have HR0 := Aside0.mk hr
 have HN := Aside0.mk hn
 clear hr hn
 have HB := Aside0.mk (Below.refl w.heap.size w)
 go_enter Try.func63, Try.ntmps63
 go_wp2_with (first | ((with_reducible refine gate_dst (N := 2) rfl ?_); refine box_event ?hg (N := 2) ?hd (cs := #[.slice A0_0 l0_0.length c0_0, .slice A0_1 l0_1.length c0_1, .slice A0_2 l0_2.length c0_2]) (t := 32) ?hr ?_; (case hd => rfl); (case hg => rfl); (case hr => first | (go_simp; done) | (go_simp; rfl)); intro gb0 hg w4 hbox hb; have n0_ := pS HB hb; have n1_ := Aside0.mk hbox; clear HB hbox; have HB := n0_; clear n0_; have BX := n1_; clear n1_ hb hg; skip) | ((with_reducible refine gate_dst (N := 3) rfl ?_); refine box_event ?hg (N := 3) ?hd (cs := #[.string a1]) (t := 9) ?hr ?_; (case hd => rfl); (case hg => rfl); (case hr => first | (go_simp; done) | (go_simp; rfl)); intro gb1 hg w5 hbox hb; have n0_ := pS HB hb; have m0_ := pB BX hb; have n1_ := Aside0.mk hbox; clear HB hbox; have HB := n0_; clear n0_ BX; have BX := m0_; clear m0_; have BK := n1_; clear n1_ hb hg; obtain ⟨hx0, hx1, hx2, hy0, hy1, hy2⟩ := cz3 BX))
 refine (gen83 84 #[.pointer (some ⟨gb1, 0, none⟩)] (fun x : S69 => decide (x.f0 = a1)) A0_0 c0_0 l0_0 w5 (fun _ _ => rfl) (Kd.C_below HR0.out HB.out) HN.out (fun W x hb => (pred84 gb1 a1 W x (blk_below BK.out hb)).mono ?_)).mono ?_
 ·rintro e w' ⟨h1, h2⟩
  exact ⟨h1, below_step hb h2⟩
 rintro e w' ⟨rfl, hb⟩
 have HB2 := pS HB hb
 clear hb BX BK HB
 go_wp2
 go_ret
 exact ⟨rfl, HB2.out⟩
def impl_railNamed.f (l0_0 : List (S69)) (l0_1 : List ByteArray) (l0_2 : List (S40)) (a1 : ByteArray) : Option (Int) := if l0_0.length < 4611686018427387904 then some (idxF (fun x : S69 => decide (x.f0 = a1)) l0_0) else none
theorem impl_railNamed.calls (A0_0 : Option Addr) (c0_0 : Nat) (l0_0 : List (S69)) (A0_1 : Option Addr) (c0_1 : Nat) (l0_1 : List ByteArray) (A0_2 : Option Addr) (c0_2 : Nat) (l0_2 : List (S40)) (a1 : ByteArray) (r : Int) (w : World) (hr0_0 : Kd.C k69 w A0_0 l0_0.length l0_0) (hc0_0 : l0_0.length ≤ c0_0) (hr0_1 : Kd.C Kd.string w A0_1 l0_1.length l0_1) (hc0_1 : l0_1.length ≤ c0_1) (hr0_2 : Kd.C k40 w A0_2 l0_2.length l0_2) (hc0_2 : l0_2.length ≤ c0_2) (h : impl_railNamed.f l0_0 l0_1 l0_2 a1 = some r) :
 Calls Try.prog 63 #[.agg #[.slice A0_0 l0_0.length c0_0, .slice A0_1 l0_1.length c0_1, .slice A0_2 l0_2.length c0_2], .string a1] w fun e w' => e = .returned (.int .i64 r) ∧ Below w.heap.size w w' := by
 unfold impl_railNamed.f at h
 split at h
 ·rename_i hn
  obtain rfl := Option.some.inj h
  exact impl_railNamed.go A0_0 c0_0 l0_0 A0_1 c0_1 l0_1 A0_2 c0_2 l0_2 a1 w hr0_0 hn
 ·cases h

end Go.Proofs.Ytpngklefeaolfaa.PFnExactWrongSides
