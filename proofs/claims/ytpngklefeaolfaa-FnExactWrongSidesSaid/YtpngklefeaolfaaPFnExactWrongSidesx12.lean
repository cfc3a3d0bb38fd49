-- Written by a program of this session (wip/tools/pp.sh).
import Derived.Test.YtpngklefeaolfaaPFnExactWrongSidesx0
import Derived.Test.YtpngklefeaolfaaPFnExactWrongSidesx8
import Derived.Test.YtpngklefeaolfaaPFnExactWrongSidesx10
import Derived.Test.YtpngklefeaolfaaPFnExactWrongSidesx11
namespace Go.Proofs.Ytpngklefeaolfaa.PFnExactWrongSides
open Go.RowKit Go.Proofs.YtpngklefeaolfaaW.PrintWords Go.Proofs.YtpngklefeaolfaaW.PrintLast Go.Proofs.YtpngklefeaolfaaW.PrintMore Go.Proofs.Ytpngklefeaolfaa.Small
open Bool renaming true → T, false → F
attribute [local go_sem] max2_int min2_int max_two min_two max_three min_three max_four min_four   -- for this text's walks alone
set_option linter.unusedVariables false
set_option linter.unusedSimpArgs false

/-! ### impl_WrongSides: function 27 -/
mutual
def impl_WrongSides.l0 : Nat → List ByteArray → List ByteArray → Int → Int → List (S69) → List ByteArray → List (S40) → Option (List ByteArray × Int)
 | 0, _, _, _, _, _, _, _ => none
 | k + 1, x4, x13, x14, x15, x256000, x256001, x256002 => if x15 < x14 then (if 0 ≤ x15 then (if x15 < (x13.length : Int) then ((impl_belayOf.f x256000 x256001 x256002 (rdOf ByteArray.empty x13 x15)).bind fun t261 => (if t261 < 0 then (impl_WrongSides.j1 k x4 (rdOf ByteArray.empty x13 x15) t261 x13 x14 x15 true x256000 x256001 x256002) else (if ((rdOf ByteArray.empty x13 x15).size : Int) < 3 then (impl_WrongSides.j1 k x4 (rdOf ByteArray.empty x13 x15) t261 x13 x14 x15 true x256000 x256001 x256002) else ((strings_HasSuffix.f (rdOf ByteArray.empty x13 x15) (⟨#[45, 112]⟩ : ByteArray)).bind fun t262 => (if t262 = true then (impl_WrongSides.j1 k x4 (rdOf ByteArray.empty x13 x15) t261 x13 x14 x15 false x256000 x256001 x256002) else ((strings_HasSuffix.f (rdOf ByteArray.empty x13 x15) (⟨#[45, 115]⟩ : ByteArray)).bind fun t263 => (impl_WrongSides.j1 k x4 (rdOf ByteArray.empty x13 x15) t261 x13 x14 x15 (!t263) x256000 x256001 x256002))))))) else (none)) else (none)) else (some (x4, 0))
def impl_WrongSides.j1 : Nat → List ByteArray → ByteArray → Int → List ByteArray → Int → Int → Bool → List (S69) → List ByteArray → List (S40) → Option (List ByteArray × Int)
 | 0, _, _, _, _, _, _, _, _, _, _ => none
 | k + 1, x4, x6, x7, x13, x14, x15, x38, x256000, x256001, x256002 => if x38 = true then (impl_WrongSides.l0 k x4 x13 x14 (wrap64 (x15 + 1)) x256000 x256001 x256002) else (if 0 ≤ x7 then (if x7 < (x256002.length : Int) then ((impl_railNamed.f x256000 x256001 x256002 ((rd_T40 x256002 x7).f1)).bind fun t265 => (if 0 ≤ t265 then (if t265 < (x256000.length : Int) then (if 0 ≤ (wrap64 ((x6.size : Int) - 1)) then (if (wrap64 ((x6.size : Int) - 1)) ≤ (x6.size : Int) then (if ((rd_T69 x256000 t265).f1).toList = (x6.extract ((wrap64 ((x6.size : Int) - 1)) : Int).toNat x6.size).toList then (impl_WrongSides.l0 k x4 x13 x14 (wrap64 (x15 + 1)) x256000 x256001 x256002) else (if x4.length < 8796093022208 then (impl_WrongSides.l0 k (x4 ++ [x6]) x13 x14 (wrap64 (x15 + 1)) x256000 x256001 x256002) else (none))) else (none)) else (none)) else (none)) else (none))) else (none)) else (none))
end
def impl_WrongSides.f (k : Nat) (l0_0 : List (S69)) (l0_1 : List ByteArray) (l0_2 : List (S40)) : Option (List ByteArray × Int) := (impl_ValidRig.f k l0_0 l0_1 l0_2).bind fun t256 => (if t256 = true then (impl_WrongSides.l0 k (([] : List ByteArray)) l0_1 (l0_1.length : Int) 0 l0_0 l0_1 l0_2) else (some (([] : List ByteArray), 1)))
theorem impl_WrongSides.mono_l : ∀ k, (∀ y0 y1 y2 y3 y4 y5 y6, LeO (impl_WrongSides.l0 k y0 y1 y2 y3 y4 y5 y6) (impl_WrongSides.l0 (k + 1) y0 y1 y2 y3 y4 y5 y6)) ∧ (∀ y0 y1 y2 y3 y4 y5 y6 y7 y8 y9, LeO (impl_WrongSides.j1 k y0 y1 y2 y3 y4 y5 y6 y7 y8 y9) (impl_WrongSides.j1 (k + 1) y0 y1 y2 y3 y4 y5 y6 y7 y8 y9))
 | 0 => ⟨fun _ _ _ _ _ _ _ r h => by simp [impl_WrongSides.l0] at h, fun _ _ _ _ _ _ _ _ _ _ r h => by simp [impl_WrongSides.j1] at h⟩
 | k + 1 => by
  obtain ⟨ih0, ih1⟩ := impl_WrongSides.mono_l k
  refine ⟨?_, ?_⟩
  ·intro y0 y1 y2 y3 y4 y5 y6
   unfold impl_WrongSides.l0
   repeat' first
   | (with_reducible exact ih0 _ _ _ _ _ _ _)
   | (with_reducible exact ih1 _ _ _ _ _ _ _ _ _ _)
   | (with_reducible exact impl_ValidRig.mono _ _ _ _)
   | (with_reducible exact LeO.refl _)
   | (with_reducible exact LeO.none _)
   | (with_reducible refine LeO.ite ?_ ?_)
   | (with_reducible refine LeO.bind ?_ (fun _ => ?_))
   | exact ih0 _ _ _ _ _ _ _
   | exact ih1 _ _ _ _ _ _ _ _ _ _
   | exact impl_ValidRig.mono _ _ _ _
   | exact LeO.none _
   | refine LeO.ite ?_ ?_
   | refine LeO.bind ?_ (fun _ => ?_)
  ·intro y0 y1 y2 y3 y4 y5 y6 y7 y8 y9
   unfold impl_WrongSides.j1
   repeat' first
   | (with_reducible exact ih0 _ _ _ _ _ _ _)
   | (with_reducible exact ih1 _ _ _ _ _ _ _ _ _ _)
   | (with_reducible exact impl_ValidRig.mono _ _ _ _)
   | (with_reducible exact LeO.refl _)
   | (with_reducible exact LeO.none _)
   | (with_reducible refine LeO.ite ?_ ?_)
   | (with_reducible refine LeO.bind ?_ (fun _ => ?_))
   | exact ih0 _ _ _ _ _ _ _
   | exact ih1 _ _ _ _ _ _ _ _ _ _
   | exact impl_ValidRig.mono _ _ _ _
   | exact LeO.none _
   | refine LeO.ite ?_ ?_
   | refine LeO.bind ?_ (fun _ => ?_)
theorem impl_WrongSides.mono : ∀ a0 a1 a2 k, LeO (impl_WrongSides.f k a0 a1 a2) (impl_WrongSides.f (k + 1) a0 a1 a2) := by
 intro a0 a1 a2 k
 obtain ⟨ih0, ih1⟩ := impl_WrongSides.mono_l k
 unfold impl_WrongSides.f
 repeat' first
   | (with_reducible exact ih0 _ _ _ _ _ _ _)
   | (with_reducible exact ih1 _ _ _ _ _ _ _ _ _ _)
   | (with_reducible exact impl_ValidRig.mono _ _ _ _)
   | (with_reducible exact LeO.refl _)
   | (with_reducible exact LeO.none _)
   | (with_reducible refine LeO.ite ?_ ?_)
   | (with_reducible refine LeO.bind ?_ (fun _ => ?_))
   | exact ih0 _ _ _ _ _ _ _
   | exact ih1 _ _ _ _ _ _ _ _ _ _
   | exact impl_ValidRig.mono _ _ _ _
   | exact LeO.none _
   | refine LeO.ite ?_ ?_
   | refine LeO.bind ?_ (fun _ => ?_)
def impl_WrongSides.T9 : Bool × List (List Nat × List Nat) := (true, [([], []), ([0], [0]), ([], []), ([], []), ([3], [3]), ([], []), ([4, 5], [4, 5]), ([6], [6]), ([7], [7]), ([2, 8], [2, 8]), ([1, 9], [1, 9]), ([10], [10]), ([11], [11]), ([], []), ([], []), ([14], [14]), ([15], [15]), ([13, 16], [13, 16]), ([12, 17], [12, 17])])
def impl_WrongSides.B9 : List Nat := [0, 1, 0, 0, 8, 0, 56, 120, 248, 508, 1023, 2047, 4095, 0, 0, 16384, 49152, 122880, 262143]
theorem impl_WrongSides.tab9 : rtab .any (opsOf Try.f27 9) = impl_WrongSides.T9 := by kernel_rfl
theorem impl_WrongSides.bits9 : waitsOk impl_WrongSides.T9.2 impl_WrongSides.B9 = true := by kernel_rfl
set_option maxHeartbeats 8000000 in
set_option maxRecDepth 100000 in
theorem impl_WrongSides.calls (k : Nat) (A0_0 : Option Addr) (c0_0 : Nat) (l0_0 : List (S69)) (A0_1 : Option Addr) (c0_1 : Nat) (l0_1 : List ByteArray) (A0_2 : Option Addr) (c0_2 : Nat) (l0_2 : List (S40)) (r1 : List ByteArray) (r2 : Int) (w : World) (hr0_0 : Kd.C k69 w A0_0 l0_0.length l0_0) (hc0_0 : l0_0.length ≤ c0_0) (hr0_1 : Kd.C Kd.string w A0_1 l0_1.length l0_1) (hc0_1 : l0_1.length ≤ c0_1) (hr0_2 : Kd.C k40 w A0_2 l0_2.length l0_2) (hc0_2 : l0_2.length ≤ c0_2) (h : impl_WrongSides.f k l0_0 l0_1 l0_2 = some (r1, r2)) :
  Calls Try.prog 27 #[.agg #[.slice A0_0 l0_0.length c0_0, .slice A0_1 l0_1.length c0_1, .slice A0_2 l0_2.length c0_2]] w fun e w' => ∃ v0_ : Value, e = .returned (.tuple #[v0_, .int .i64 r2]) ∧ Kd.R Kd.string 9 w' w.heap.size (fun _ => True) v0_ r1 ∧ Below w.heap.size w w' := by
 have hu32 := Try.underlying32
 have HR0_0 := Aside0.mk hr0_0
 have HC0_0 := Aside0.mk hc0_0
 clear hr0_0 hc0_0
 have HR0_1 := Aside0.mk hr0_1
 have HC0_1 := Aside0.mk hc0_1
 clear hr0_1 hc0_1
 have HR0_2 := Aside0.mk hr0_2
 have HC0_2 := Aside0.mk hc0_2
 clear hr0_2 hc0_2
 have HB := Aside0.mk (Below.refl w.heap.size w)
 have H : ((impl_ValidRig.f k l0_0 l0_1 l0_2).bind fun t256 => (if t256 = true then (impl_WrongSides.l0 k (([] : List ByteArray)) l0_1 (l0_1.length : Int) 0 l0_0 l0_1 l0_2) else (some (([] : List ByteArray), 1)))) = some (r1, r2) := h
 clear h
 replace H := Option.bind_eq_some_iff.mp H
 obtain ⟨t256, A20, H⟩ := H
 replace H : (if t256 = true then (impl_WrongSides.l0 k (([] : List ByteArray)) l0_1 (l0_1.length : Int) 0 l0_0 l0_1 l0_2) else (some (([] : List ByteArray), 1))) = some (r1, r2) := H
 have A2 := Aside0.mk A20
 clear A20
 have HF_ := Aside0.mk H
 clear H
 go_enter Try.func27, Try.ntmps27
 go_upto_if 10 with (first | ((with_reducible refine gate_dst (N := 1) rfl ?_); (try (refine gate_guard (by rfl) ?_; dsimp only)); refine box_event ?hg (N := 1) ?hd (cs := #[.slice A0_0 l0_0.length c0_0, .slice A0_1 l0_1.length c0_1, .slice A0_2 l0_2.length c0_2]) (t := 32) ?hr ?_; (case hd => rfl); (case hg => rfl); (case hr => first | (go_simp; done) | (go_simp; rfl)); intro gb255 hg w3 hbox hb; have n0_ := pS HB hb; have n1_ := Aside0.mk (hbox); have n2_ := pG HB hg; have n3_ := pG HB hg; clear HB; have HB := n0_; have BK255 := n1_; have GW255 := n2_; have GE255 := n3_; clear n0_ n1_ n2_ n3_; clear hb hbox hg; obtain ⟨hcz4_0, hcz4_1, hcz4_2, hfz4_0, hfz4_1, hfz4_2⟩ := cz3 BK255) | ((with_reducible refine gate_callee (f := 13) rfl ?_); refine goesL_ (some 9) rfl rfl Try.func13 (by kernel_rfl) rfl #[.agg #[.slice A0_0 l0_0.length c0_0, .slice A0_1 l0_1.length c0_1, .slice A0_2 l0_2.length c0_2]] rfl (by (try simp only [List.map_toArray, List.map_cons, List.map_nil]); first | done | rfl | (simp only [List.length_drop, List.length_take]; rfl)) ?_; (with_reducible refine (impl_ValidRig.calls k _ _ l0_0 _ _ l0_1 _ _ l0_2 t256 _ ?side1 ?side2 ?side3 ?side4 ?side5 ?side6 A2.out).mono ?_); (case side1 => repeat (first | exact (Kd.C_below HR0_0.out HB.out) | (with_reducible refine Kd.C_alloc ?_ _) | (with_reducible refine Kd.C_drewN ?_ _) | (with_reducible refine Kd.C_drew ?_))); (case side2 => exact HC0_0.out); (case side3 => repeat (first | exact (Kd.C_below HR0_1.out HB.out) | (with_reducible refine Kd.C_alloc ?_ _) | (with_reducible refine Kd.C_drewN ?_ _) | (with_reducible refine Kd.C_drew ?_))); (case side4 => exact HC0_1.out); (case side5 => repeat (first | exact (Kd.C_below HR0_2.out HB.out) | (with_reducible refine Kd.C_alloc ?_ _) | (with_reducible refine Kd.C_drewN ?_ _) | (with_reducible refine Kd.C_drew ?_))); (case side6 => exact HC0_2.out); rintro e w5 ⟨rfl, hb⟩; refine ⟨_, rfl, ?_⟩; have n0_ := pB BK255 hb; have n1_ := pS HB hb; clear BK255 HB; have BK255 := n0_; have HB := n1_; clear n0_ n1_; (try clear hb); (try clear hb2); (try clear hk); (try clear hi)))
 (try simp only [Act.put, List.setIfInBounds_toArray, List.set_cons_zero, List.set_cons_succ])
 have H := HF_.out
 clear HF_
 by_cases c6 : t256 = true
 ·subst c6
  have H1 : (impl_WrongSides.l0 k (([] : List ByteArray)) l0_1 (l0_1.length : Int) 0 l0_0 l0_1 l0_2) = some (r1, r2) := by rw [if_pos rfl] at H; exact H
  clear H
  have H := H1
  clear H1
  obtain ⟨y257, hy257⟩ : ∃ y_ : List ByteArray, y_ = (([] : List ByteArray)) := ⟨_, rfl⟩
  replace H : (impl_WrongSides.l0 k y257 l0_1 (l0_1.length : Int) 0 l0_0 l0_1 l0_2) = some (r1, r2) := by first | (rw [hy257]; with_reducible exact H) | (have H2_ := (Option.bind_some _ _).symm.trans H; rw [hy257]; with_reducible exact H2_) | (have H2_ := (Option.bind_some _ _).symm.trans H; with_reducible exact H2_) | with_reducible exact H | (rw [hy257]; exact H) | exact H
  have Ny257 := Aside0.mk hy257
  clear hy257
  have H' := Aside0.mk H
  clear H
  go_wp2_with (first | ((with_reducible refine gate_dst (N := 11) rfl ?_); (try (refine gate_guard (by rfl) ?_; dsimp only)); refine Kd.R_lit Kd.string _ 9 ?hg (N := 11) ?hd (xs := ([] : List ByteArray)) (inner := []) (ok := fun _ => True) (okp := fun _ => True) ?hr ?hp (fun _ hk => hk) trivial (Below.refl _ _) (Nat.le_refl _) (by simp) ?_; (case hd => rfl); (case hg => rfl); (case hr => first | (go_simp; done) | (go_simp; rfl)); (case hp => exact (Reps.none _ _)); intro v258 w7 ho8 hb hg_ hnew_; clear hg_ hnew_; (first | rw [← Ny257.out] at ho8 | (simp only [Int.reduceToNat] at ho8; rw [← Ny257.out] at ho8)); have n0_ := Aside0.mk (Kd.R_lower ho8 (below_size (by repeat (first | (with_reducible first | exact HB.out | apply below_alloc | apply pw_below_drewN | apply below_drew1 | refine below_set ?_ GE255.out) | exact HB.out)))); have n1_ := pB BK255 hb; have n2_ := pS HB hb; clear BK255 HB; have HO259 := n0_; have BK255 := n1_; have HB := n2_; clear n0_ n1_ n2_; clear hb ho8; obtain ⟨hcz9_0, hcz9_1, hcz9_2, hfz9_0, hfz9_1, hfz9_2⟩ := cz3 BK255))
  go_loopg [4, 15] k (fun kq v4 v15 w' => ∃ (x4_1 : List ByteArray) (x15_1 : Int), v15 = .int .i64 x15_1 ∧ Aside0 (impl_WrongSides.l0 kq x4_1 l0_1 (l0_1.length : Int) x15_1 l0_0 l0_1 l0_2 = some (r1, r2)) ∧ Aside0 (kq ≤ k) ∧ Aside0 (Kd.R Kd.string 9 w' w.heap.size (fun _ => True) v4 x4_1) ∧ Aside0 (w'.heap[gb255]? = some (.cells #[(.slice A0_0 l0_0.length c0_0), (.slice A0_1 l0_1.length c0_1), (.slice A0_2 l0_2.length c0_2)] 32 (0, 0))) ∧ Aside0 (Below w.heap.size w w'))
  case atStart => exact ⟨(y257), (0), (by first | rfl | (simp; done) | (simp [*]; done)), H', ⟨Nat.le_refl _⟩, ⟨by (with_reducible repeat (first | apply Kd.R_alloc | apply Kd.R_drewN | apply Kd.R_drew)); exact HO259.out⟩, ⟨by (with_reducible repeat (first | refine blk_drewN ?_ _ | refine blk_drew ?_ | refine blk_alloc ?_ _)); exact BK255.out⟩, ⟨by repeat (first | (with_reducible first | exact HB.out | apply below_alloc | apply pw_below_drewN | apply below_drew1 | refine below_set ?_ GE255.out) | exact HB.out)⟩⟩
  case round =>
   clear H'
   try clear c1
   try clear c2
   try clear p2
   try clear c6
   try clear hcz4_0
   try clear hcz4_1
   try clear hcz4_2
   try clear hcz9_0
   try clear hcz9_1
   try clear hcz9_2
   try clear hfz4_0
   try clear hfz4_1
   try clear hfz4_2
   try clear hfz9_0
   try clear hfz9_1
   try clear hfz9_2
   obtain ⟨x4_1, x15_1, rfl, HA, HK1, HO_4, BK255, HB⟩ := hrel
   cases gk with
   | zero => exact absurd HA.out (by simp [impl_WrongSides.l0])
   | succ k1 =>
    have H := HA.out
    clear HA
    simp only [impl_WrongSides.l0] at H
    by_cases c10 : x15_1 < (l0_1.length : Int)
    ·rw [if_pos c10] at H
     have c10b0 : decide (x15_1 < (l0_1.length : Int)) = true := decide_eq_true c10
     clear c10
     (first | rw [c10b0] | (simp only [i64_w, i32_w]; rw [c10b0]) | skip)
     by_cases c11 : 0 ≤ x15_1
     ·rw [if_pos c11] at H
      have c11b0 : decide (0 ≤ x15_1) = true := decide_eq_true c11
      clear c11
      by_cases c12 : x15_1 < (l0_1.length : Int)
      ·rw [if_pos c12] at H
       have c12b0 : decide (x15_1 < (l0_1.length : Int)) = true := decide_eq_true c12
       clear c12
       replace H := Option.bind_eq_some_iff.mp H
       obtain ⟨t261, A130, H⟩ := H
       replace H : (if t261 < 0 then (impl_WrongSides.j1 k1 x4_1 (rdOf ByteArray.empty l0_1 x15_1) t261 l0_1 (l0_1.length : Int) x15_1 true l0_0 l0_1 l0_2) else (if ((rdOf ByteArray.empty l0_1 x15_1).size : Int) < 3 then (impl_WrongSides.j1 k1 x4_1 (rdOf ByteArray.empty l0_1 x15_1) t261 l0_1 (l0_1.length : Int) x15_1 true l0_0 l0_1 l0_2) else ((strings_HasSuffix.f (rdOf ByteArray.empty l0_1 x15_1) (⟨#[45, 112]⟩ : ByteArray)).bind fun t262 => (if t262 = true then (impl_WrongSides.j1 k1 x4_1 (rdOf ByteArray.empty l0_1 x15_1) t261 l0_1 (l0_1.length : Int) x15_1 false l0_0 l0_1 l0_2) else ((strings_HasSuffix.f (rdOf ByteArray.empty l0_1 x15_1) (⟨#[45, 115]⟩ : ByteArray)).bind fun t263 => (impl_WrongSides.j1 k1 x4_1 (rdOf ByteArray.empty l0_1 x15_1) t261 l0_1 (l0_1.length : Int) x15_1 (!t263) l0_0 l0_1 l0_2)))))) = some (r1, r2) := H
       have A13 := Aside0.mk A130
       clear A130
       have HC14 := Aside0.mk H
       clear H
       have p260 : 0 ≤ (x15_1 : Int) := of_decide_eq_true (by first | (with_reducible assumption) | assumption)
       have q260 : x15_1 < (l0_1.length : Int) := of_decide_eq_true (by first | (with_reducible assumption) | assumption)
       obtain ⟨ad260, e260, hx260_0⟩ := Kd.at_string HR0_1.out x15_1 p260 q260
       cases e260
       replace hx260_0 := bC HB hx260_0
       replace p260 := eq_true p260
       replace q260 := eq_true q260
       obtain ⟨hcz15_0, hcz15_1, hcz15_2, hfz15_0, hfz15_1, hfz15_2⟩ := cz3 BK255
       go_upto_region 8 with (first | ((with_reducible refine gate_callee (f := 57) rfl ?_); refine goesL_ (some 21) rfl rfl Try.func57 (by kernel_rfl) rfl #[.agg #[.slice A0_0 l0_0.length c0_0, .slice (some ad260) l0_1.length c0_1, .slice A0_2 l0_2.length c0_2], .string (rdOf ByteArray.empty l0_1 x15_1)] rfl (by (try simp only [List.map_toArray, List.map_cons, List.map_nil]); first | done | rfl | (simp only [List.length_drop, List.length_take]; rfl)) ?_; (with_reducible refine (impl_belayOf.calls _ _ l0_0 _ _ l0_1 _ _ l0_2 (rdOf ByteArray.empty l0_1 x15_1) t261 _ ?side1 ?side2 ?side3 ?side4 ?side5 ?side6 A13.out).mono ?_); (case side1 => repeat (first | exact (Kd.C_below HR0_0.out HB.out) | (with_reducible refine Kd.C_alloc ?_ _) | (with_reducible refine Kd.C_drewN ?_ _) | (with_reducible refine Kd.C_drew ?_))); (case side2 => exact HC0_0.out); (case side3 => repeat (first | exact (Kd.C_below HR0_1.out HB.out) | (with_reducible refine Kd.C_alloc ?_ _) | (with_reducible refine Kd.C_drewN ?_ _) | (with_reducible refine Kd.C_drew ?_))); (case side4 => exact HC0_1.out); (case side5 => repeat (first | exact (Kd.C_below HR0_2.out HB.out) | (with_reducible refine Kd.C_alloc ?_ _) | (with_reducible refine Kd.C_drewN ?_ _) | (with_reducible refine Kd.C_drew ?_))); (case side6 => exact HC0_2.out); rintro e w16 ⟨rfl, hb⟩; refine ⟨_, rfl, ?_⟩; have n0_ := Aside0.mk (Kd.R_below (by (with_reducible repeat (first | apply Kd.R_alloc | apply Kd.R_drewN | apply Kd.R_drew)); exact HO_4.out) hb); have n1_ := pB BK255 hb; have n2_ := pS HB hb; clear HO_4 BK255 HB; have HO_4 := n0_; have BK255 := n1_; have HB := n2_; clear n0_ n1_ n2_; (try clear hb); (try clear hb2); (try clear hk); (try clear hi)))
       (try simp only [Act.put, List.setIfInBounds_toArray, List.set_cons_zero, List.set_cons_succ])
       go_cut [38] (fun v38 wc => ∃ (kq : Nat) (x38_13 : Bool), v38 = .bool x38_13 ∧ Aside0 (impl_WrongSides.j1 kq x4_1 (rdOf ByteArray.empty l0_1 x15_1) t261 l0_1 (l0_1.length : Int) x15_1 x38_13 l0_0 l0_1 l0_2 = some (r1, r2)) ∧ Aside0 (kq ≤ k1) ∧ Aside0 (Kd.R Kd.string 9 wc w.heap.size (fun _ => True) u4 x4_1) ∧ Aside0 (wc.heap[gb255]? = some (.cells #[(.slice A0_0 l0_0.length c0_0), (.slice (some ad260) l0_1.length c0_1), (.slice A0_2 l0_2.length c0_2)] 32 (0, 0))) ∧ Aside0 (Below w.heap.size w wc))
       case first =>
        have H := HC14.out
        clear HC14
        by_cases c17 : t261 < 0
        ·rw [if_pos c17] at H
         have c17b0 : decide (t261 < 0) = true := decide_eq_true c17
         clear c17
         (first | rw [c17b0] | (simp only [i64_w, i32_w]; rw [c17b0]) | skip)
         have H' := Aside0.mk H
         clear H
         go_wp2
         go_meet
         case rel => exact ⟨_, (true), (by first | rfl | (simp; done) | (simp [*]; done)), H', ⟨by have := HK1.out; first | omega | exact Nat.le_refl _⟩, ⟨by (with_reducible repeat (first | apply Kd.R_alloc | apply Kd.R_drewN | apply Kd.R_drew)); exact HO_4.out⟩, ⟨by (with_reducible repeat (first | refine blk_drewN ?_ _ | refine blk_drew ?_ | refine blk_alloc ?_ _)); exact BK255.out⟩, ⟨by repeat (first | (with_reducible first | exact HB.out | apply below_alloc | apply pw_below_drewN | apply below_drew1 | refine below_set ?_ GE255.out) | exact HB.out)⟩⟩
        ·rw [if_neg c17] at H
         have c17b0 : decide (t261 < 0) = false := decide_eq_false c17
         clear c17
         (first | rw [c17b0] | (simp only [i64_w, i32_w]; rw [c17b0]) | skip)
         by_cases c18 : ((rdOf ByteArray.empty l0_1 x15_1).size : Int) < 3
         ·rw [if_pos c18] at H
          have c18b0 : decide (((rdOf ByteArray.empty l0_1 x15_1).size : Int) < 3) = true := decide_eq_true c18
          have c18b1 : decide ((rdOf ByteArray.empty l0_1 x15_1).size < 3) = true := decide_eq_true (by omega)
          clear c18
          have H' := Aside0.mk H
          clear H
          go_wp2
          go_meet
          case rel => exact ⟨_, (true), (by first | rfl | (simp; done) | (simp [*]; done)), H', ⟨by have := HK1.out; first | omega | exact Nat.le_refl _⟩, ⟨by (with_reducible repeat (first | apply Kd.R_alloc | apply Kd.R_drewN | apply Kd.R_drew)); exact HO_4.out⟩, ⟨by (with_reducible repeat (first | refine blk_drewN ?_ _ | refine blk_drew ?_ | refine blk_alloc ?_ _)); exact BK255.out⟩, ⟨by repeat (first | (with_reducible first | exact HB.out | apply below_alloc | apply pw_below_drewN | apply below_drew1 | refine below_set ?_ GE255.out) | exact HB.out)⟩⟩
         ·rw [if_neg c18] at H
          have c18b0 : decide (((rdOf ByteArray.empty l0_1 x15_1).size : Int) < 3) = false := decide_eq_false c18
          have c18b1 : decide ((rdOf ByteArray.empty l0_1 x15_1).size < 3) = false := decide_eq_false (by omega)
          clear c18
          replace H := Option.bind_eq_some_iff.mp H
          obtain ⟨t262, A190, H⟩ := H
          replace H : (if t262 = true then (impl_WrongSides.j1 k1 x4_1 (rdOf ByteArray.empty l0_1 x15_1) t261 l0_1 (l0_1.length : Int) x15_1 false l0_0 l0_1 l0_2) else ((strings_HasSuffix.f (rdOf ByteArray.empty l0_1 x15_1) (⟨#[45, 115]⟩ : ByteArray)).bind fun t263 => (impl_WrongSides.j1 k1 x4_1 (rdOf ByteArray.empty l0_1 x15_1) t261 l0_1 (l0_1.length : Int) x15_1 (!t263) l0_0 l0_1 l0_2))) = some (r1, r2) := H
          have A19 := Aside0.mk A190
          clear A190
          by_cases c20 : t262 = true
          ·subst c20
           have H1 : (impl_WrongSides.j1 k1 x4_1 (rdOf ByteArray.empty l0_1 x15_1) t261 l0_1 (l0_1.length : Int) x15_1 false l0_0 l0_1 l0_2) = some (r1, r2) := by rw [if_pos rfl] at H; exact H
           clear H
           have H := H1
           clear H1
           have H' := Aside0.mk H
           clear H
           go_wp2_with (first | (go_at_call 62; (with_reducible refine (strings_HasSuffix.calls (rdOf ByteArray.empty l0_1 x15_1) (⟨#[45, 112]⟩ : ByteArray) true _ A19.out).mono ?_); rintro e w' ⟨rfl, ⟨nd, rfl⟩⟩))
           go_meet
           case rel => exact ⟨_, (false), (by first | rfl | (simp; done) | (simp [*]; done)), H', ⟨by have := HK1.out; first | omega | exact Nat.le_refl _⟩, ⟨by (with_reducible repeat (first | apply Kd.R_alloc | apply Kd.R_drewN | apply Kd.R_drew)); exact HO_4.out⟩, ⟨by (with_reducible repeat (first | refine blk_drewN ?_ _ | refine blk_drew ?_ | refine blk_alloc ?_ _)); exact BK255.out⟩, ⟨by repeat (first | (with_reducible first | exact HB.out | apply below_alloc | apply pw_below_drewN | apply below_drew1 | refine below_set ?_ GE255.out) | exact HB.out)⟩⟩
          ·replace c20 := Bool.eq_false_iff.mpr c20
           subst c20
           have H1 : ((strings_HasSuffix.f (rdOf ByteArray.empty l0_1 x15_1) (⟨#[45, 115]⟩ : ByteArray)).bind fun t263 => (impl_WrongSides.j1 k1 x4_1 (rdOf ByteArray.empty l0_1 x15_1) t261 l0_1 (l0_1.length : Int) x15_1 (!t263) l0_0 l0_1 l0_2)) = some (r1, r2) := by rw [if_neg (show ¬ (false = true) by decide)] at H; exact H
           clear H
           have H := H1
           clear H1
           replace H := Option.bind_eq_some_iff.mp H
           obtain ⟨t263, A210, H⟩ := H
           replace H : (impl_WrongSides.j1 k1 x4_1 (rdOf ByteArray.empty l0_1 x15_1) t261 l0_1 (l0_1.length : Int) x15_1 (!t263) l0_0 l0_1 l0_2) = some (r1, r2) := H
           have A21 := Aside0.mk A210
           clear A210
           have H' := Aside0.mk H
           clear H
           go_wp2_with (first | (go_at_call 62; (with_reducible refine (strings_HasSuffix.calls (rdOf ByteArray.empty l0_1 x15_1) (⟨#[45, 112]⟩ : ByteArray) false _ A19.out).mono ?_); rintro e w' ⟨rfl, ⟨nd, rfl⟩⟩) | (go_at_call 62; (with_reducible refine (strings_HasSuffix.calls (rdOf ByteArray.empty l0_1 x15_1) (⟨#[45, 115]⟩ : ByteArray) t263 _ A21.out).mono ?_); rintro e w' ⟨rfl, ⟨nd, rfl⟩⟩))
           go_meet
           case rel => exact ⟨_, (!t263), (by first | rfl | (simp; done) | (simp [*]; done)), H', ⟨by have := HK1.out; first | omega | exact Nat.le_refl _⟩, ⟨by (with_reducible repeat (first | apply Kd.R_alloc | apply Kd.R_drewN | apply Kd.R_drew)); exact HO_4.out⟩, ⟨by (with_reducible repeat (first | refine blk_drewN ?_ _ | refine blk_drew ?_ | refine blk_alloc ?_ _)); exact BK255.out⟩, ⟨by repeat (first | (with_reducible first | exact HB.out | apply below_alloc | apply pw_below_drewN | apply below_drew1 | refine below_set ?_ GE255.out) | exact HB.out)⟩⟩
       case rest =>
        clear HC14
        try clear c1
        try clear c2
        try clear p2
        try clear q2
        try clear hx2
        try clear c5
        try clear c6
        try clear c10
        try clear c10b0
        try clear c11
        try clear c11b0
        try clear c12
        try clear c12b0
        try clear c13
        try clear c17
        try clear c17b0
        try clear c18
        try clear c18b0
        try clear c18b1
        try clear c20
        try clear hcz15_0
        try clear hcz15_1
        try clear hcz15_2
        try clear hcz4_0
        try clear hcz4_1
        try clear hcz4_2
        try clear hcz9_0
        try clear hcz9_1
        try clear hcz9_2
        try clear hfz15_0
        try clear hfz15_1
        try clear hfz15_2
        try clear hfz4_0
        try clear hfz4_1
        try clear hfz4_2
        try clear hfz9_0
        try clear hfz9_1
        try clear hfz9_2
        try clear hx260_0
        try clear p2
        try clear p260
        try clear q260
        obtain ⟨kq, x38_13, rfl, HA, HJ13, HO_4, BK255, HB⟩ := hcut
        cases kq with
        | zero => exact absurd HA.out (by simp [impl_WrongSides.j1])
        | succ kj13 =>
         have H := HA.out
         clear HA
         simp only [impl_WrongSides.j1] at H
         by_cases c22 : x38_13 = true
         ·subst c22
          have H1 : (impl_WrongSides.l0 kj13 x4_1 l0_1 (l0_1.length : Int) (wrap64 (x15_1 + 1)) l0_0 l0_1 l0_2) = some (r1, r2) := by rw [if_pos rfl] at H; exact H
          clear H
          have H := H1
          clear H1
          have H' := Aside0.mk H
          clear H
          go_wp2
          go_roundg kj13
          case measure => have := HK1.out; have := HJ13.out; omega
          case rel => exact ⟨(x4_1), (wrap64 (x15_1 + 1)), (by first | rfl | (simp; done) | (simp [*]; done)), H', ⟨by have := HK1.out; have := HJ13.out; omega⟩, ⟨by (with_reducible repeat (first | apply Kd.R_alloc | apply Kd.R_drewN | apply Kd.R_drew)); exact HO_4.out⟩, ⟨by (with_reducible repeat (first | refine blk_drewN ?_ _ | refine blk_drew ?_ | refine blk_alloc ?_ _)); exact BK255.out⟩, ⟨by repeat (first | (with_reducible first | exact HB.out | apply below_alloc | apply pw_below_drewN | apply below_drew1 | refine below_set ?_ GE255.out) | exact HB.out)⟩⟩
         ·replace c22 := Bool.eq_false_iff.mpr c22
          subst c22
          have H1 : (if 0 ≤ t261 then (if t261 < (l0_2.length : Int) then ((impl_railNamed.f l0_0 l0_1 l0_2 ((rd_T40 l0_2 t261).f1)).bind fun t265 => (if 0 ≤ t265 then (if t265 < (l0_0.length : Int) then (if 0 ≤ (wrap64 (((rdOf ByteArray.empty l0_1 x15_1).size : Int) - 1)) then (if (wrap64 (((rdOf ByteArray.empty l0_1 x15_1).size : Int) - 1)) ≤ ((rdOf ByteArray.empty l0_1 x15_1).size : Int) then (if ((rd_T69 l0_0 t265).f1).toList = ((rdOf ByteArray.empty l0_1 x15_1).extract ((wrap64 (((rdOf ByteArray.empty l0_1 x15_1).size : Int) - 1)) : Int).toNat (rdOf ByteArray.empty l0_1 x15_1).size).toList then (impl_WrongSides.l0 kj13 x4_1 l0_1 (l0_1.length : Int) (wrap64 (x15_1 + 1)) l0_0 l0_1 l0_2) else (if x4_1.length < 8796093022208 then (impl_WrongSides.l0 kj13 (x4_1 ++ [(rdOf ByteArray.empty l0_1 x15_1)]) l0_1 (l0_1.length : Int) (wrap64 (x15_1 + 1)) l0_0 l0_1 l0_2) else (none))) else (none)) else (none)) else (none)) else (none))) else (none)) else (none)) = some (r1, r2) := by rw [if_neg (show ¬ (false = true) by decide)] at H; exact H
          clear H
          have H := H1
          clear H1
          by_cases c23 : 0 ≤ t261
          ·rw [if_pos c23] at H
           have c23b0 : decide (0 ≤ t261) = true := decide_eq_true c23
           clear c23
           by_cases c24 : t261 < (l0_2.length : Int)
           ·rw [if_pos c24] at H
            have c24b0 : decide (t261 < (l0_2.length : Int)) = true := decide_eq_true c24
            clear c24
            replace H := Option.bind_eq_some_iff.mp H
            obtain ⟨t265, A250, H⟩ := H
            replace H : (if 0 ≤ t265 then (if t265 < (l0_0.length : Int) then (if 0 ≤ (wrap64 (((rdOf ByteArray.empty l0_1 x15_1).size : Int) - 1)) then (if (wrap64 (((rdOf ByteArray.empty l0_1 x15_1).size : Int) - 1)) ≤ ((rdOf ByteArray.empty l0_1 x15_1).size : Int) then (if ((rd_T69 l0_0 t265).f1).toList = ((rdOf ByteArray.empty l0_1 x15_1).extract ((wrap64 (((rdOf ByteArray.empty l0_1 x15_1).size : Int) - 1)) : Int).toNat (rdOf ByteArray.empty l0_1 x15_1).size).toList then (impl_WrongSides.l0 kj13 x4_1 l0_1 (l0_1.length : Int) (wrap64 (x15_1 + 1)) l0_0 l0_1 l0_2) else (if x4_1.length < 8796093022208 then (impl_WrongSides.l0 kj13 (x4_1 ++ [(rdOf ByteArray.empty l0_1 x15_1)]) l0_1 (l0_1.length : Int) (wrap64 (x15_1 + 1)) l0_0 l0_1 l0_2) else (none))) else (none)) else (none)) else (none)) else (none)) = some (r1, r2) := H
            have A25 := Aside0.mk A250
            clear A250
            by_cases c26 : 0 ≤ t265
            ·rw [if_pos c26] at H
             have c26b0 : decide (0 ≤ t265) = true := decide_eq_true c26
             clear c26
             by_cases c27 : t265 < (l0_0.length : Int)
             ·rw [if_pos c27] at H
              have c27b0 : decide (t265 < (l0_0.length : Int)) = true := decide_eq_true c27
              clear c27
              obtain ⟨ji28, hji28⟩ : ∃ j_ : Int, (wrap64 (((rdOf ByteArray.empty l0_1 x15_1).size : Int) - 1)) = j_ := ⟨_, rfl⟩
              replace H : (if 0 ≤ (ji28) then (if (ji28) ≤ ((rdOf ByteArray.empty l0_1 x15_1).size : Int) then (if ((rd_T69 l0_0 t265).f1).toList = ((rdOf ByteArray.empty l0_1 x15_1).extract ((ji28) : Int).toNat (rdOf ByteArray.empty l0_1 x15_1).size).toList then (impl_WrongSides.l0 kj13 x4_1 l0_1 (l0_1.length : Int) (wrap64 (x15_1 + 1)) l0_0 l0_1 l0_2) else (if x4_1.length < 8796093022208 then (impl_WrongSides.l0 kj13 (x4_1 ++ [(rdOf ByteArray.empty l0_1 x15_1)]) l0_1 (l0_1.length : Int) (wrap64 (x15_1 + 1)) l0_0 l0_1 l0_2) else (none))) else (none)) else (none)) = some (r1, r2) := by first | (rw [hji28] at H; exact H) | (simp only [hji28] at H ⊢; exact H)
              (try rw [hji28] at A25)
              have hji28w : (IntKind.i64.wrap (((rdOf ByteArray.empty l0_1 x15_1).size : Int) - 1)) = ji28 := (i64_w _).trans hji28
              by_cases c29 : 0 ≤ (ji28)
              ·rw [if_pos c29] at H
               have c29b0 := eq_true c29
               have c29b1 : decide (0 ≤ (ji28)) = true := decide_eq_true c29
               clear c29
               by_cases c30 : (ji28) ≤ ((rdOf ByteArray.empty l0_1 x15_1).size : Int)
               ·rw [if_pos c30] at H
                have c30b0 := eq_true c30
                have c30b1 : decide ((ji28) ≤ ((rdOf ByteArray.empty l0_1 x15_1).size : Int)) = true := decide_eq_true c30
                clear c30
                have HF_ := Aside0.mk H
                clear H
                try go_wp2
                have n0_ := Aside0.mk (Kd.R_drew HO_4.out)
                have n1_ := Aside0.mk (blk_drew BK255.out)
                have n2_ := Aside0.mk (below_drew1 HB.out)
                clear HO_4
                clear BK255
                clear HB
                have HO_4 := n0_
                have BK255 := n1_
                have HB := n2_
                clear n0_ n1_ n2_
                have p264 : 0 ≤ (t261 : Int) := of_decide_eq_true (by first | (with_reducible assumption) | assumption)
                have q264 : t261 < (l0_2.length : Int) := of_decide_eq_true (by first | (with_reducible assumption) | assumption)
                obtain ⟨ad264, e264, hx264_0, hx264_1, hx264_2⟩ := at_T40 HR0_2.out t261 p264 q264
                have hw264_2 := hx264_2
                have hw264_1 := hx264_1
                have hw264_0 := hx264_0
                cases e264
                replace hx264_0 := bC HB hx264_0
                replace hx264_1 := bC HB hx264_1
                replace hx264_2 := bC HB hx264_2
                replace p264 := eq_true p264
                replace q264 := eq_true q264
                have p266 : 0 ≤ (t265 : Int) := of_decide_eq_true (by first | (with_reducible assumption) | assumption)
                have q266 : t265 < (l0_0.length : Int) := of_decide_eq_true (by first | (with_reducible assumption) | assumption)
                obtain ⟨ad266, e266, hx266_0, hx266_1, hx266_2⟩ := at_T69 HR0_0.out t265 p266 q266
                have hw266_2 := hx266_2
                have hw266_1 := hx266_1
                have hw266_0 := hx266_0
                cases e266
                replace hx266_0 := bC HB hx266_0
                replace hx266_1 := bC HB hx266_1
                replace hx266_2 := bC HB hx266_2
                replace p266 := eq_true p266
                replace q266 := eq_true q266
                refine start_ (n := 19) (S := fun w' => w'.cell? ⟨gb255, 0, none⟩ = some (.slice (some ad266) l0_0.length c0_0) ∧ w'.cell? ⟨gb255, 1, none⟩ = some (.slice (some ad260) l0_1.length c0_1) ∧ w'.cell? ⟨gb255, 2, none⟩ = some (.slice (some ad264) l0_2.length c0_2) ∧ w'.cell? (ad264.add ((t261).toNat * 3)) = some (.string ((rd_T40 l0_2 t261).f0)) ∧ w'.cell? ⟨(ad264.add ((t261).toNat * 3)).block, (ad264.add ((t261).toNat * 3)).off + 1, none⟩ = some (.string ((rd_T40 l0_2 t261).f1)) ∧ w'.cell? ⟨(ad264.add ((t261).toNat * 3)).block, (ad264.add ((t261).toNat * 3)).off + 2, none⟩ = some (.int .i64 ((rd_T40 l0_2 t261).f2)) ∧ w'.cell? (ad266.add ((t265).toNat * 3)) = some (.string ((rd_T69 l0_0 t265).f0)) ∧ w'.cell? ⟨(ad266.add ((t265).toNat * 3)).block, (ad266.add ((t265).toNat * 3)).off + 1, none⟩ = some (.string ((rd_T69 l0_0 t265).f1)) ∧ w'.cell? ⟨(ad266.add ((t265).toNat * 3)).block, (ad266.add ((t265).toNat * 3)).off + 2, none⟩ = some (.int .i64 ((rd_T69 l0_0 t265).f2))) (ds := []) #[F,F,F,F,F,F,F,F,F,F,F,F,F,F,F,F,F,F,F] (by kernel_rfl) rfl rfl ⟨(blk_cell BK255.out 0).trans rfl, (blk_cell BK255.out 1).trans rfl, (blk_cell BK255.out 2).trans rfl, ((HB.out.cell (World.block_lt_of_cell? w _ hw264_0)).trans hw264_0), ((HB.out.cell (World.block_lt_of_cell? w _ hw264_1)).trans hw264_1), ((HB.out.cell (World.block_lt_of_cell? w _ hw264_2)).trans hw264_2), ((HB.out.cell (World.block_lt_of_cell? w _ hw266_0)).trans hw266_0), ((HB.out.cell (World.block_lt_of_cell? w _ hw266_1)).trans hw266_1), ((HB.out.cell (World.block_lt_of_cell? w _ hw266_2)).trans hw266_2)⟩ (fun hHeld => ?_); refine with_tabW impl_WrongSides.tab9 impl_WrongSides.bits9 (fun HT_ HW_ => ?_)
                generalize wc.drew = w31 at HO_4 BK255 HB hx264_0 hx264_1 hx264_2 hx266_0 hx266_1 hx266_2 hHeld ⊢
                refine pure_ (i := 0) (N := some 39) (v := ?_) (a' := ?_) #[T,F,F,F,F,F,F,F,F,F,F,F,F,F,F,F,F,F,F] rfl rfl (any_of HT_.out (by kernel_rfl)) (fun _ _ _ h => h) (Or.inl ⟨by rfl, ?_⟩) ?_ ?_
                rotate_left
                ·intro w'
                 go_simp
                 with_reducible rfl
                rotate_left
                ·simp only [NS]
                 rfl
                refine pure_ (i := 3) (N := some 42) (v := ?_) (a' := ?_) #[T,F,F,T,F,F,F,F,F,F,F,F,F,F,F,F,F,F,F] rfl rfl (any_of HT_.out (by kernel_rfl)) (fun _ _ _ h => h) (Or.inl ⟨by rfl, ?_⟩) ?_ ?_
                rotate_left
                ·intro w'
                 go_simp
                 with_reducible rfl
                rotate_left
                ·simp only [NS]
                 rfl
                refine pure_ (i := 5) (N := some 44) (v := ?_) (a' := ?_) #[T,F,F,T,F,T,F,F,F,F,F,F,F,F,F,F,F,F,F] rfl rfl (any_of HT_.out (by kernel_rfl)) (fun _ _ _ h => h) (Or.inl ⟨by rfl, ?_⟩) ?_ ?_
                rotate_left
                ·intro w'
                 go_simp
                 with_reducible rfl
                rotate_left
                ·simp only [NS]
                 rfl
                refine pure_ (i := 13) (N := some 52) (v := ?_) (a' := ?_) #[T,F,F,T,F,T,F,F,F,F,F,F,F,T,F,F,F,F,F] rfl rfl (any_of HT_.out (by kernel_rfl)) (fun _ _ _ h => h) (Or.inl ⟨by rfl, ?_⟩) ?_ ?_
                rotate_left
                ·intro w'
                 go_simp
                 with_reducible rfl
                rotate_left
                ·simp only [NS]
                 rfl
                refine pure_ (i := 14) (N := some 53) (v := ?_) (a' := ?_) #[T,F,F,T,F,T,F,F,F,F,F,F,F,T,T,F,F,F,F] rfl rfl (any_of HT_.out (by kernel_rfl)) (fun _ _ _ h => h) (Or.inl ⟨by rfl, ?_⟩) ?_ ?_
                rotate_left
                ·intro w'
                 go_simp
                 with_reducible rfl
                rotate_left
                ·simp only [NS]
                 rfl
                refine pure_ (i := 15) (N := some 54) (v := ?_) (a' := ?_) #[T,F,F,T,F,T,F,F,F,F,F,F,F,T,T,T,F,F,F] rfl rfl (any_of HT_.out (by kernel_rfl)) (fun _ _ _ h => h) (Or.inl ⟨by rfl, ?_⟩) ?_ ?_
                rotate_left
                ·intro w'
                 go_simp
                 with_reducible rfl
                rotate_left
                ·simp only [NS]
                 rfl
                refine pure_ (i := 16) (N := some 55) (v := ?_) (a' := ?_) #[T,F,F,T,F,T,F,F,F,F,F,F,F,T,T,T,T,F,F] rfl rfl (any_of HT_.out (by kernel_rfl)) (fun _ _ _ h => h) (Or.inl ⟨by rfl, ?_⟩) ?_ ?_
                rotate_left
                ·intro w'
                 go_simp
                 with_reducible rfl
                rotate_left
                ·simp only [NS]
                 rfl
                refine pure_ (i := 17) (N := some 56) (v := ?_) (a' := ?_) #[T,F,F,T,F,T,F,F,F,F,F,F,F,T,T,T,T,T,F] rfl rfl (any_of HT_.out (by kernel_rfl)) (fun _ _ _ h => h) (Or.inl ⟨by rfl, ?_⟩) ?_ ?_
                rotate_left
                ·intro w'
                 go_simp
                 with_reducible rfl
                rotate_left
                ·simp only [NS]
                 rfl
                refine take_ (i := 1) (N := some 40) (v := ?_) (a' := ?_) #[T,T,F,T,F,T,F,F,F,F,F,F,F,T,T,T,T,T,F] rfl rfl (take_ofW HT_.out HW_.out (by kernel_rfl)) (fun _ _ _ h => h) (Or.inl ⟨by rfl, ?_⟩) hHeld ?_ ?_
                rotate_left
                ·rintro w' ⟨s0, s1, s2, s3, s4, s5, s6, s7, s8⟩
                 go_simp
                 with_reducible rfl
                rotate_left
                ·simp only [NS]
                 rfl
                refine take_ (i := 2) (N := some 41) (v := ?_) (a' := ?_) #[T,T,T,T,F,T,F,F,F,F,F,F,F,T,T,T,T,T,F] rfl rfl (take_ofW HT_.out HW_.out (by kernel_rfl)) (fun _ _ _ h => h) (Or.inl ⟨by rfl, ?_⟩) hHeld ?_ ?_
                rotate_left
                ·rintro w' ⟨s0, s1, s2, s3, s4, s5, s6, s7, s8⟩
                 go_simp
                 with_reducible rfl
                rotate_left
                ·simp only [NS]
                 rfl
                refine take_ (i := 4) (N := some 43) (v := ?_) (a' := ?_) #[T,T,T,T,T,T,F,F,F,F,F,F,F,T,T,T,T,T,F] rfl rfl (take_ofW HT_.out HW_.out (by kernel_rfl)) (fun _ _ _ h => h) (Or.inl ⟨by rfl, ?_⟩) hHeld ?_ ?_
                rotate_left
                ·rintro w' ⟨s0, s1, s2, s3, s4, s5, s6, s7, s8⟩
                 go_simp
                 with_reducible rfl
                rotate_left
                ·simp only [NS]
                 rfl
                refine pure_ (i := 6) (N := some 45) (v := ?_) (a' := ?_) #[T,T,T,T,T,T,T,F,F,F,F,F,F,T,T,T,T,T,F] rfl rfl (any_of HT_.out (by kernel_rfl)) (fun _ _ _ h => h) (Or.inl ⟨by rfl, ?_⟩) ?_ ?_
                rotate_left
                ·intro w'
                 go_simp
                 with_reducible rfl
                rotate_left
                ·simp only [NS]
                 rfl
                refine pure_ (i := 7) (N := some 46) (v := ?_) (a' := ?_) #[T,T,T,T,T,T,T,T,F,F,F,F,F,T,T,T,T,T,F] rfl rfl (any_of HT_.out (by kernel_rfl)) (fun _ _ _ h => h) (Or.inl ⟨by rfl, ?_⟩) ?_ ?_
                rotate_left
                ·intro w'
                 go_simp
                 with_reducible rfl
                rotate_left
                ·simp only [NS]
                 rfl
                refine take_ (i := 8) (N := some 47) (v := ?_) (a' := ?_) #[T,T,T,T,T,T,T,T,T,F,F,F,F,T,T,T,T,T,F] rfl rfl (take_ofW HT_.out HW_.out (by kernel_rfl)) (fun _ _ _ h => h) (Or.inl ⟨by rfl, ?_⟩) hHeld ?_ ?_
                rotate_left
                ·rintro w' ⟨s0, s1, s2, s3, s4, s5, s6, s7, s8⟩
                 go_simp
                 with_reducible rfl
                rotate_left
                ·simp only [NS]
                 rfl
                refine one_ (i := 9) (N := some 48) #[T,T,T,T,T,T,T,T,T,T,F,F,F,T,T,T,T,T,F] rfl rfl (one_of HT_.out (by kernel_rfl)) (by decide) (fun K hK => ?_)
                refine goes_ Try.func63 (by kernel_rfl) rfl #[.agg #[.slice (some ad266) l0_0.length c0_0, .slice (some ad260) l0_1.length c0_1, .slice (some ad264) l0_2.length c0_2], .string ((rd_T40 l0_2 t261).f1)] (by rfl) rfl rfl (by (try simp only [List.map_toArray, List.map_cons, List.map_nil]); first | done | rfl | (simp only [List.length_drop, List.length_take]; rfl)) ?_
                with_reducible refine (impl_railNamed.calls _ _ l0_0 _ _ l0_1 _ _ l0_2 ((rd_T40 l0_2 t261).f1) t265 _ ?side1 ?side2 ?side3 ?side4 ?side5 ?side6 A25.out).mono ?_
                (case side1 => repeat (first | exact (Kd.C_below HR0_0.out HB.out) | (with_reducible refine Kd.C_alloc ?_ _) | (with_reducible refine Kd.C_drewN ?_ _) | (with_reducible refine Kd.C_drew ?_)))
                (case side2 => exact HC0_0.out)
                (case side3 => repeat (first | exact (Kd.C_below HR0_1.out HB.out) | (with_reducible refine Kd.C_alloc ?_ _) | (with_reducible refine Kd.C_drewN ?_ _) | (with_reducible refine Kd.C_drew ?_)))
                (case side4 => exact HC0_1.out)
                (case side5 => repeat (first | exact (Kd.C_below HR0_2.out HB.out) | (with_reducible refine Kd.C_alloc ?_ _) | (with_reducible refine Kd.C_drewN ?_ _) | (with_reducible refine Kd.C_drew ?_)))
                (case side6 => exact HC0_2.out)
                rintro e w32 ⟨rfl, hb⟩
                refine ⟨_, rfl, ?_⟩
                have n0_ := Aside0.mk (Kd.R_below (by (with_reducible repeat (first | apply Kd.R_alloc | apply Kd.R_drewN | apply Kd.R_drew)); exact HO_4.out) hb)
                have n1_ := pB BK255 hb
                have n2_ := pS HB hb
                clear HO_4
                clear BK255
                clear HB
                have HO_4 := n0_
                have BK255 := n1_
                have HB := n2_
                clear n0_ n1_ n2_
                (try clear hb)
                (try clear hb2)
                (try clear hk)
                (try clear hi)
                refine hK.out _ _ ⟨(blk_cell BK255.out 0).trans rfl, (blk_cell BK255.out 1).trans rfl, (blk_cell BK255.out 2).trans rfl, ((HB.out.cell (World.block_lt_of_cell? w _ hw264_0)).trans hw264_0), ((HB.out.cell (World.block_lt_of_cell? w _ hw264_1)).trans hw264_1), ((HB.out.cell (World.block_lt_of_cell? w _ hw264_2)).trans hw264_2), ((HB.out.cell (World.block_lt_of_cell? w _ hw266_0)).trans hw266_0), ((HB.out.cell (World.block_lt_of_cell? w _ hw266_1)).trans hw266_1), ((HB.out.cell (World.block_lt_of_cell? w _ hw266_2)).trans hw266_2)⟩ (fun hHeld => ?_)
                clear hK K
                refine norm_ (a' := ?_) ?_ ?_
                rotate_left
                ·show Act.put _ (some 48) _ = _
                 simp only [NS]
                 rfl
                refine pure_ (i := 10) (N := some 49) (v := ?_) (a' := ?_) #[T,T,T,T,T,T,T,T,T,T,T,F,F,T,T,T,T,T,F] rfl rfl (any_of HT_.out (by kernel_rfl)) (fun _ _ _ h => h) (Or.inl ⟨by rfl, ?_⟩) ?_ ?_
                rotate_left
                ·intro w'
                 go_simp
                 with_reducible rfl
                rotate_left
                ·simp only [NS]
                 rfl
                refine pure_ (i := 11) (N := some 50) (v := ?_) (a' := ?_) #[T,T,T,T,T,T,T,T,T,T,T,T,F,T,T,T,T,T,F] rfl rfl (any_of HT_.out (by kernel_rfl)) (fun _ _ _ h => h) (Or.inl ⟨by rfl, ?_⟩) ?_ ?_
                rotate_left
                ·intro w'
                 go_simp
                 with_reducible rfl
                rotate_left
                ·simp only [NS]
                 rfl
                refine take_ (i := 12) (N := some 51) (v := ?_) (a' := ?_) #[T,T,T,T,T,T,T,T,T,T,T,T,T,T,T,T,T,T,F] rfl rfl (take_ofW HT_.out HW_.out (by kernel_rfl)) (fun _ _ _ h => h) (Or.inl ⟨by rfl, ?_⟩) hHeld ?_ ?_
                rotate_left
                ·rintro w' ⟨s0, s1, s2, s3, s4, s5, s6, s7, s8⟩
                 go_simp
                 with_reducible rfl
                rotate_left
                ·simp only [NS]
                 rfl
                refine pure_ (i := 18) (N := some 57) (v := ?_) (a' := ?_) #[T,T,T,T,T,T,T,T,T,T,T,T,T,T,T,T,T,T,T] rfl rfl (any_of HT_.out (by kernel_rfl)) (fun _ _ _ h => h) (Or.inl ⟨by rfl, ?_⟩) ?_ ?_
                rotate_left
                ·intro w'
                 go_simp
                 with_reducible rfl
                rotate_left
                ·simp only [NS]
                 rfl
                refine done_ (done_of HT_.out (by kernel_rfl)) ?_
                go_upto_if 57 with (fail)
                have H := HF_.out
                clear HF_
                by_cases c33 : ((rd_T69 l0_0 t265).f1).toList = ((rdOf ByteArray.empty l0_1 x15_1).extract ((ji28) : Int).toNat (rdOf ByteArray.empty l0_1 x15_1).size).toList
                ·rw [if_pos c33] at H
                 have c33b0 : (((rd_T69 l0_0 t265).f1).toList == ((rdOf ByteArray.empty l0_1 x15_1).extract ((ji28) : Int).toNat (rdOf ByteArray.empty l0_1 x15_1).size).toList) = true := beq_iff_eq.mpr c33
                 have c33b1 : (((rd_T69 l0_0 t265).f1).toList != ((rdOf ByteArray.empty l0_1 x15_1).extract ((ji28) : Int).toNat (rdOf ByteArray.empty l0_1 x15_1).size).toList) = false := bne_eq_false_iff_eq.mpr c33
                 clear c33
                 (first | rw [c33b0] | (simp only [i64_w, i32_w]; rw [c33b0]) | skip)
                 have H' := Aside0.mk H
                 clear H
                 go_wp2
                 go_roundg kj13
                 case measure => have := HK1.out; have := HJ13.out; omega
                 case rel => exact ⟨(x4_1), (wrap64 (x15_1 + 1)), (by first | rfl | (simp; done) | (simp [*]; done)), H', ⟨by have := HK1.out; have := HJ13.out; omega⟩, ⟨by (with_reducible repeat (first | apply Kd.R_alloc | apply Kd.R_drewN | apply Kd.R_drew)); exact HO_4.out⟩, ⟨by (with_reducible repeat (first | refine blk_drewN ?_ _ | refine blk_drew ?_ | refine blk_alloc ?_ _)); exact BK255.out⟩, ⟨by repeat (first | (with_reducible first | exact HB.out | apply below_alloc | apply pw_below_drewN | apply below_drew1 | refine below_set ?_ GE255.out) | exact HB.out)⟩⟩
                ·rw [if_neg c33] at H
                 have c33b0 : (((rd_T69 l0_0 t265).f1).toList == ((rdOf ByteArray.empty l0_1 x15_1).extract ((ji28) : Int).toNat (rdOf ByteArray.empty l0_1 x15_1).size).toList) = false := beq_eq_false_iff_ne.mpr c33
                 have c33b1 : (((rd_T69 l0_0 t265).f1).toList != ((rdOf ByteArray.empty l0_1 x15_1).extract ((ji28) : Int).toNat (rdOf ByteArray.empty l0_1 x15_1).size).toList) = true := bne_iff_ne.mpr c33
                 (first | rw [c33b0] | (simp only [i64_w, i32_w]; rw [c33b0]) | skip)
                 by_cases c34 : x4_1.length < 8796093022208
                 ·rw [if_pos c34] at H
                  have LMc34 := Aside0.mk c34
                  clear c34
                  obtain ⟨y267, hy267⟩ : ∃ y_ : List ByteArray, y_ = (x4_1 ++ [(rdOf ByteArray.empty l0_1 x15_1)]) := ⟨_, rfl⟩
                  replace H : (impl_WrongSides.l0 kj13 y267 l0_1 (l0_1.length : Int) (wrap64 (x15_1 + 1)) l0_0 l0_1 l0_2) = some (r1, r2) := by first | (rw [hy267]; with_reducible exact H) | (have H2_ := (Option.bind_some _ _).symm.trans H; rw [hy267]; with_reducible exact H2_) | (have H2_ := (Option.bind_some _ _).symm.trans H; with_reducible exact H2_) | with_reducible exact H | (rw [hy267]; exact H) | exact H
                  have Ny267 := Aside0.mk hy267
                  clear hy267
                  have H' := Aside0.mk H
                  clear H
                  go_wp2_with (first | ((with_reducible refine gate_builtin (b := .append) (xs := #[.tmp 58, .tmp 60]) rfl ?_); (try (refine gate_guard (by rfl) ?_; dsimp only)); at_builtin; refine Kd.R_append Kd.string (w0 := w) w.heap.size rfl (.tmp 58) (.tmp 60) 23 9 (.string ⟨#[]⟩) 16 rfl Try.underlying23 info9 rfl (by decide) (by omega) u4 x4_1 (rdOf ByteArray.empty l0_1 x15_1) [.string (rdOf ByteArray.empty l0_1 x15_1)] (fun _ => True) (fun _ => False) rfl rfl ?aP (fun _ hk => hk.elim) ?aF ?aO ?aB ?aS ?aL ?_; (case aP => exact rfl); (case aB => exact (by repeat (first | (with_reducible first | exact HB.out | apply below_alloc | apply pw_below_drewN | apply below_drew1 | refine below_set ?_ GE255.out) | exact HB.out))); (case aF => exact (fun _ _ => trivial)); (case aO => exact (by (with_reducible repeat (first | apply Kd.R_alloc | apply Kd.R_drewN | apply Kd.R_drew)); exact HO_4.out)); (case aS => exact (below_size (by repeat (first | (with_reducible first | exact HB.out | apply below_alloc | apply pw_below_drewN | apply below_drew1 | refine below_set ?_ GE255.out) | exact HB.out)))); (case aL => have := LMc34.out; omega); intro v268 w35 ho hb hg hat; rw [← Ny267.out] at ho; have n0_ := Aside0.mk (blk_grown (g := gb255) (o := .cells #[.slice (some ad266) l0_0.length c0_0, .slice (some ad260) l0_1.length c0_1, .slice (some ad264) l0_2.length c0_2] 32 (0, 0)) (by (with_reducible repeat (first | refine blk_drewN ?_ _ | refine blk_drew ?_ | refine blk_alloc ?_ _)); exact BK255.out) hg (Kd.R_ne HO_4.out BK255.out (by decide))); have n1_ := Aside0.mk (hb); have n2_ := Aside0.mk (ho); clear BK255 HB HO_4; have BK255 := n0_; have HB := n1_; have HO269 := n2_; clear n0_ n1_ n2_; clear ho hb hg hat))
                  go_roundg kj13
                  case measure => have := HK1.out; have := HJ13.out; omega
                  case rel => exact ⟨(y267), (wrap64 (x15_1 + 1)), (by first | rfl | (simp; done) | (simp [*]; done)), H', ⟨by have := HK1.out; have := HJ13.out; omega⟩, ⟨by (with_reducible repeat (first | apply Kd.R_alloc | apply Kd.R_drewN | apply Kd.R_drew)); exact HO269.out⟩, ⟨by (with_reducible repeat (first | refine blk_drewN ?_ _ | refine blk_drew ?_ | refine blk_alloc ?_ _)); exact BK255.out⟩, ⟨by repeat (first | (with_reducible first | exact HB.out | apply below_alloc | apply pw_below_drewN | apply below_drew1 | refine below_set ?_ GE255.out) | exact HB.out)⟩⟩
                 ·rw [if_neg c34] at H
                  exact absurd H (by simp)
               ·rw [if_neg c30] at H
                exact absurd H (by simp)
              ·rw [if_neg c29] at H
               exact absurd H (by simp)
             ·rw [if_neg c27] at H
              exact absurd H (by simp)
            ·rw [if_neg c26] at H
             exact absurd H (by simp)
           ·rw [if_neg c24] at H
            exact absurd H (by simp)
          ·rw [if_neg c23] at H
           exact absurd H (by simp)
      ·rw [if_neg c12] at H
       exact absurd H (by simp)
     ·rw [if_neg c11] at H
      exact absurd H (by simp)
    ·rw [if_neg c10] at H
     have c10b0 : decide (x15_1 < (l0_1.length : Int)) = false := decide_eq_false c10
     clear c10
     (first | rw [c10b0] | (simp only [i64_w, i32_w]; rw [c10b0]) | skip)
     simp only [Option.some.injEq, Prod.mk.injEq] at H
     obtain ⟨rfl, rfl⟩ := H
     go_wp2
     go_ret2
     exact ⟨_, by first | rfl | (simp [errW_none, errW_some] <;> rfl) | (simp [*, errW_none, errW_some] <;> rfl), by (with_reducible repeat (first | apply Kd.R_alloc | apply Kd.R_drewN | apply Kd.R_drew)); exact HO_4.out, by repeat (first | (with_reducible first | exact HB.out | apply below_alloc | apply pw_below_drewN | apply below_drew1 | refine below_set ?_ GE255.out) | exact HB.out)⟩
 ·replace c6 := Bool.eq_false_iff.mpr c6
  subst c6
  have H1 : (some (([] : List ByteArray), 1)) = some (r1, r2) := by rw [if_neg (show ¬ (false = true) by decide)] at H; exact H
  clear H
  have H := H1
  clear H1
  simp only [Option.some.injEq, Prod.mk.injEq] at H
  obtain ⟨rfl, rfl⟩ := H
  go_wp2
  go_ret2
  exact ⟨_, by first | rfl | (simp [errW_none, errW_some] <;> rfl) | (simp [*, errW_none, errW_some] <;> rfl), by first | exact Kd.R_nil _ _ _ _ _ | exact Kd.N_nil _ _ _ _ _ | exact Kd.V_nil _ _ _ _ _ | exact Kd.Q_nil _ _ _ _ _ | exact Kd.S_nil _ _ _ _ _, by repeat (first | (with_reducible first | exact HB.out | apply below_alloc | apply pw_below_drewN | apply below_drew1 | refine below_set ?_ GE255.out) | exact HB.out)⟩

end Go.Proofs.Ytpngklefeaolfaa.PFnExactWrongSides
