-- Written by a program of this session (wip/tools/pp.sh).
import Derived.Test.YtlphfgbeeckjnaaPFnExactOverlapsOfx0
import Derived.Test.YtlphfgbeeckjnaaPFnExactOverlapsOfx10
import Derived.Test.YtlphfgbeeckjnaaPFnExactOverlapsOfx11
import Derived.Test.YtlphfgbeeckjnaaPFnExactOverlapsOfx12
namespace Go.Proofs.Ytlphfgbeeckjnaa.PFnExactOverlapsOf
open Go.RowKit Go.Proofs.YtlphfgbeeckjnaaW.PrintWords Go.Proofs.YtlphfgbeeckjnaaW.PrintLast Go.Proofs.YtlphfgbeeckjnaaW.PrintMore Go.Proofs.Ytlphfgbeeckjnaa.Small
open Bool renaming true → T, false → F
attribute [local go_sem] max2_int min2_int max_two min_two max_three min_three max_four min_four   -- for this text's walks alone
set_option linter.unusedVariables false
set_option linter.unusedSimpArgs false

/-! ### impl_ValidSail: function 100 -/
mutual
def impl_ValidSail.j0 : Nat → List (S129) → Int → Bool → Option (Bool)
 | 0, _, _, _ => none
 | k + 1, x0, x3, x16 => if x16 = true then (some false) else (impl_ValidSail.l0 k x0 x3 x0 (x0.length : Int) 0)
def impl_ValidSail.l0 : Nat → List (S129) → Int → List (S129) → Int → Int → Option (Bool)
 | 0, _, _, _, _, _ => none
 | k + 1, x0, x3, x17, x18, x19 => if x19 < x18 then (if 0 ≤ x19 then (if x19 < (x17.length : Int) then ((impl_within.f ((rd_T129 x17 x19).f0) 0 2000).bind fun t302 => (if t302 = true then ((impl_within.f ((rd_T129 x17 x19).f1) 0 2000).bind fun t303 => (if t303 = true then (impl_ValidSail.l0 k x0 x3 x17 x18 (wrap64 (x19 + 1))) else (some false))) else (some false))) else (none)) else (none)) else (impl_ValidSail.l1 k x0 x3 (x0.length : Int) 0)
def impl_ValidSail.l1 : Nat → List (S129) → Int → Int → Int → Option (Bool)
 | 0, _, _, _, _ => none
 | k + 1, x0, x3, x35, x36 => if x36 < x35 then (if 0 ≤ x36 then (if x36 < (x0.length : Int) then (if x3 = 0 then (none) else (if 0 ≤ (Int.tmod (wrap64 (x36 + 1)) x3) then (if (Int.tmod (wrap64 (x36 + 1)) x3) < (x0.length : Int) then (if 0 ≤ (Int.tmod (wrap64 (x36 + 2)) x3) then (if (Int.tmod (wrap64 (x36 + 2)) x3) < (x0.length : Int) then ((impl_turnAt.f ((rd_T129 x0 x36).f0) ((rd_T129 x0 x36).f1) ((rd_T129 x0 (Int.tmod (wrap64 (x36 + 1)) x3)).f0) ((rd_T129 x0 (Int.tmod (wrap64 (x36 + 1)) x3)).f1) ((rd_T129 x0 (Int.tmod (wrap64 (x36 + 2)) x3)).f0) ((rd_T129 x0 (Int.tmod (wrap64 (x36 + 2)) x3)).f1)).bind fun t307 => (if t307 = 0 then (some false) else (impl_ValidSail.l1 k x0 x3 x35 (wrap64 (x36 + 1))))) else (none)) else (none)) else (none)) else (none))) else (none)) else (none)) else (impl_ValidSail.l2 k x0 x3 (x0.length : Int) 0)
def impl_ValidSail.l2 : Nat → List (S129) → Int → Int → Int → Option (Bool)
 | 0, _, _, _, _ => none
 | k + 1, x0, x3, x61, x62 => if x62 < x61 then (impl_ValidSail.l3 k x0 x3 x62 (wrap64 (x62 + 2)) x61 x62) else ((impl_twiceSail.f k x0).bind fun t308 => (some (decide (t308 > 0))))
def impl_ValidSail.l3 : Nat → List (S129) → Int → Int → Int → Int → Int → Option (Bool)
 | 0, _, _, _, _, _, _ => none
 | k + 1, x0, x3, x7, x8, x61, x62 => if x8 < x3 then (if x3 = 0 then (none) else (if (Int.tmod (wrap64 (x8 + 1)) x3) = x7 then (impl_ValidSail.l3 k x0 x3 x7 (wrap64 (x8 + 1)) x61 x62) else (if 0 ≤ x7 then (if x7 < (x0.length : Int) then (if 0 ≤ (wrap64 (x7 + 1)) then (if (wrap64 (x7 + 1)) < (x0.length : Int) then (if 0 ≤ x8 then (if x8 < (x0.length : Int) then (if 0 ≤ (Int.tmod (wrap64 (x8 + 1)) x3) then (if (Int.tmod (wrap64 (x8 + 1)) x3) < (x0.length : Int) then ((impl_edgesMeet.f k ((rd_T129 x0 x7).f0) ((rd_T129 x0 x7).f1) ((rd_T129 x0 (wrap64 (x7 + 1))).f0) ((rd_T129 x0 (wrap64 (x7 + 1))).f1) ((rd_T129 x0 x8).f0) ((rd_T129 x0 x8).f1) ((rd_T129 x0 (Int.tmod (wrap64 (x8 + 1)) x3)).f0) ((rd_T129 x0 (Int.tmod (wrap64 (x8 + 1)) x3)).f1)).bind fun t313 => (if t313 = true then (some false) else (impl_ValidSail.l3 k x0 x3 x7 (wrap64 (x8 + 1)) x61 x62))) else (none)) else (none)) else (none)) else (none)) else (none)) else (none)) else (none)) else (none)))) else (impl_ValidSail.l2 k x0 x3 x61 (wrap64 (x62 + 1)))
end
def impl_ValidSail.f (k : Nat) (l0 : List (S129)) : Option (Bool) := if (l0.length : Int) < 3 then (impl_ValidSail.j0 k l0 (l0.length : Int) true) else (impl_ValidSail.j0 k l0 (l0.length : Int) (decide ((l0.length : Int) > 8)))
theorem impl_ValidSail.mono_l : ∀ k, (∀ y0 y1 y2, LeO (impl_ValidSail.j0 k y0 y1 y2) (impl_ValidSail.j0 (k + 1) y0 y1 y2)) ∧ (∀ y0 y1 y2 y3 y4, LeO (impl_ValidSail.l0 k y0 y1 y2 y3 y4) (impl_ValidSail.l0 (k + 1) y0 y1 y2 y3 y4)) ∧ (∀ y0 y1 y2 y3, LeO (impl_ValidSail.l1 k y0 y1 y2 y3) (impl_ValidSail.l1 (k + 1) y0 y1 y2 y3)) ∧ (∀ y0 y1 y2 y3, LeO (impl_ValidSail.l2 k y0 y1 y2 y3) (impl_ValidSail.l2 (k + 1) y0 y1 y2 y3)) ∧ (∀ y0 y1 y2 y3 y4 y5, LeO (impl_ValidSail.l3 k y0 y1 y2 y3 y4 y5) (impl_ValidSail.l3 (k + 1) y0 y1 y2 y3 y4 y5))
 | 0 => ⟨fun _ _ _ r h => by simp [impl_ValidSail.j0] at h, fun _ _ _ _ _ r h => by simp [impl_ValidSail.l0] at h, fun _ _ _ _ r h => by simp [impl_ValidSail.l1] at h, fun _ _ _ _ r h => by simp [impl_ValidSail.l2] at h, fun _ _ _ _ _ _ r h => by simp [impl_ValidSail.l3] at h⟩
 | k + 1 => by
  obtain ⟨ih0, ih1, ih2, ih3, ih4⟩ := impl_ValidSail.mono_l k
  refine ⟨?_, ?_, ?_, ?_, ?_⟩
  ·intro y0 y1 y2
   unfold impl_ValidSail.j0
   repeat' first
   | (with_reducible exact ih0 _ _ _)
   | (with_reducible exact ih1 _ _ _ _ _)
   | (with_reducible exact ih2 _ _ _ _)
   | (with_reducible exact ih3 _ _ _ _)
   | (with_reducible exact ih4 _ _ _ _ _ _)
   | (with_reducible exact impl_edgesMeet.mono _ _ _ _ _ _ _ _ _)
   | (with_reducible exact impl_twiceSail.mono _ _)
   | (with_reducible exact LeO.refl _)
   | (with_reducible exact LeO.none _)
   | (with_reducible refine LeO.ite ?_ ?_)
   | (with_reducible refine LeO.bind ?_ (fun _ => ?_))
   | exact ih0 _ _ _
   | exact ih1 _ _ _ _ _
   | exact ih2 _ _ _ _
   | exact ih3 _ _ _ _
   | exact ih4 _ _ _ _ _ _
   | exact impl_edgesMeet.mono _ _ _ _ _ _ _ _ _
   | exact impl_twiceSail.mono _ _
   | exact LeO.none _
   | refine LeO.ite ?_ ?_
   | refine LeO.bind ?_ (fun _ => ?_)
  ·intro y0 y1 y2 y3 y4
   unfold impl_ValidSail.l0
   repeat' first
   | (with_reducible exact ih0 _ _ _)
   | (with_reducible exact ih1 _ _ _ _ _)
   | (with_reducible exact ih2 _ _ _ _)
   | (with_reducible exact ih3 _ _ _ _)
   | (with_reducible exact ih4 _ _ _ _ _ _)
   | (with_reducible exact impl_edgesMeet.mono _ _ _ _ _ _ _ _ _)
   | (with_reducible exact impl_twiceSail.mono _ _)
   | (with_reducible exact LeO.refl _)
   | (with_reducible exact LeO.none _)
   | (with_reducible refine LeO.ite ?_ ?_)
   | (with_reducible refine LeO.bind ?_ (fun _ => ?_))
   | exact ih0 _ _ _
   | exact ih1 _ _ _ _ _
   | exact ih2 _ _ _ _
   | exact ih3 _ _ _ _
   | exact ih4 _ _ _ _ _ _
   | exact impl_edgesMeet.mono _ _ _ _ _ _ _ _ _
   | exact impl_twiceSail.mono _ _
   | exact LeO.none _
   | refine LeO.ite ?_ ?_
   | refine LeO.bind ?_ (fun _ => ?_)
  ·intro y0 y1 y2 y3
   unfold impl_ValidSail.l1
   repeat' first
   | (with_reducible exact ih0 _ _ _)
   | (with_reducible exact ih1 _ _ _ _ _)
   | (with_reducible exact ih2 _ _ _ _)
   | (with_reducible exact ih3 _ _ _ _)
   | (with_reducible exact ih4 _ _ _ _ _ _)
   | (with_reducible exact impl_edgesMeet.mono _ _ _ _ _ _ _ _ _)
   | (with_reducible exact impl_twiceSail.mono _ _)
   | (with_reducible exact LeO.refl _)
   | (with_reducible exact LeO.none _)
   | (with_reducible refine LeO.ite ?_ ?_)
   | (with_reducible refine LeO.bind ?_ (fun _ => ?_))
   | exact ih0 _ _ _
   | exact ih1 _ _ _ _ _
   | exact ih2 _ _ _ _
   | exact ih3 _ _ _ _
   | exact ih4 _ _ _ _ _ _
   | exact impl_edgesMeet.mono _ _ _ _ _ _ _ _ _
   | exact impl_twiceSail.mono _ _
   | exact LeO.none _
   | refine LeO.ite ?_ ?_
   | refine LeO.bind ?_ (fun _ => ?_)
  ·intro y0 y1 y2 y3
   unfold impl_ValidSail.l2
   repeat' first
   | (with_reducible exact ih0 _ _ _)
   | (with_reducible exact ih1 _ _ _ _ _)
   | (with_reducible exact ih2 _ _ _ _)
   | (with_reducible exact ih3 _ _ _ _)
   | (with_reducible exact ih4 _ _ _ _ _ _)
   | (with_reducible exact impl_edgesMeet.mono _ _ _ _ _ _ _ _ _)
   | (with_reducible exact impl_twiceSail.mono _ _)
   | (with_reducible exact LeO.refl _)
   | (with_reducible exact LeO.none _)
   | (with_reducible refine LeO.ite ?_ ?_)
   | (with_reducible refine LeO.bind ?_ (fun _ => ?_))
   | exact ih0 _ _ _
   | exact ih1 _ _ _ _ _
   | exact ih2 _ _ _ _
   | exact ih3 _ _ _ _
   | exact ih4 _ _ _ _ _ _
   | exact impl_edgesMeet.mono _ _ _ _ _ _ _ _ _
   | exact impl_twiceSail.mono _ _
   | exact LeO.none _
   | refine LeO.ite ?_ ?_
   | refine LeO.bind ?_ (fun _ => ?_)
  ·intro y0 y1 y2 y3 y4 y5
   unfold impl_ValidSail.l3
   repeat' first
   | (with_reducible exact ih0 _ _ _)
   | (with_reducible exact ih1 _ _ _ _ _)
   | (with_reducible exact ih2 _ _ _ _)
   | (with_reducible exact ih3 _ _ _ _)
   | (with_reducible exact ih4 _ _ _ _ _ _)
   | (with_reducible exact impl_edgesMeet.mono _ _ _ _ _ _ _ _ _)
   | (with_reducible exact impl_twiceSail.mono _ _)
   | (with_reducible exact LeO.refl _)
   | (with_reducible exact LeO.none _)
   | (with_reducible refine LeO.ite ?_ ?_)
   | (with_reducible refine LeO.bind ?_ (fun _ => ?_))
   | exact ih0 _ _ _
   | exact ih1 _ _ _ _ _
   | exact ih2 _ _ _ _
   | exact ih3 _ _ _ _
   | exact ih4 _ _ _ _ _ _
   | exact impl_edgesMeet.mono _ _ _ _ _ _ _ _ _
   | exact impl_twiceSail.mono _ _
   | exact LeO.none _
   | refine LeO.ite ?_ ?_
   | refine LeO.bind ?_ (fun _ => ?_)
theorem impl_ValidSail.mono : ∀ a0 k, LeO (impl_ValidSail.f k a0) (impl_ValidSail.f (k + 1) a0) := by
 intro a0 k; obtain ⟨ih0, ih1, ih2, ih3, ih4⟩ := impl_ValidSail.mono_l k; unfold impl_ValidSail.f
 repeat' first
   | (with_reducible exact ih0 _ _ _)
   | (with_reducible exact ih1 _ _ _ _ _)
   | (with_reducible exact ih2 _ _ _ _)
   | (with_reducible exact ih3 _ _ _ _)
   | (with_reducible exact ih4 _ _ _ _ _ _)
   | (with_reducible exact impl_edgesMeet.mono _ _ _ _ _ _ _ _ _)
   | (with_reducible exact impl_twiceSail.mono _ _)
   | (with_reducible exact LeO.refl _)
   | (with_reducible exact LeO.none _)
   | (with_reducible refine LeO.ite ?_ ?_)
   | (with_reducible refine LeO.bind ?_ (fun _ => ?_))
   | exact ih0 _ _ _
   | exact ih1 _ _ _ _ _
   | exact ih2 _ _ _ _
   | exact ih3 _ _ _ _
   | exact ih4 _ _ _ _ _ _
   | exact impl_edgesMeet.mono _ _ _ _ _ _ _ _ _
   | exact impl_twiceSail.mono _ _
   | exact LeO.none _
   | refine LeO.ite ?_ ?_
   | refine LeO.bind ?_ (fun _ => ?_)
def impl_ValidSail.T13 : Bool × List (List Nat × List Nat) := (true, [([], []), ([], []), ([0, 1], [0, 1]), ([2], [2]), ([], []), ([], []), ([5], [5]), ([], []), ([6, 7], [6, 7]), ([4, 8], [4, 8]), ([9], [9]), ([], []), ([], []), ([12], [12]), ([], []), ([13, 14], [13, 14]), ([11, 15], [11, 15]), ([16], [16]), ([3, 10, 17], [3, 10, 17]), ([18], [18])])
def impl_ValidSail.B13 : List Nat := [0, 0, 3, 7, 0, 0, 32, 0, 224, 496, 1008, 0, 0, 4096, 0, 28672, 63488, 129024, 262143, 524287]
theorem impl_ValidSail.tab13 : rtab .any (opsOf Try.f100 13) = impl_ValidSail.T13 := by kernel_rfl
theorem impl_ValidSail.bits13 : waitsOk impl_ValidSail.T13.2 impl_ValidSail.B13 = true := by kernel_rfl
def impl_ValidSail.T22 : Bool × List (List Nat × List Nat) := (true, [([], []), ([0], [0]), ([], []), ([1, 2], [1, 2]), ([], []), ([3, 4], [3, 4]), ([5], [5]), ([6], [6]), ([6], [6]), ([7, 8, 6], [6, 7, 8]), ([9, 6], [6, 9]), ([6], [6]), ([6], [6]), ([12, 6], [6, 12]), ([11, 13, 6], [6, 11, 13]), ([14, 6], [6, 14]), ([6], [6]), ([6], [6]), ([16, 17, 6], [6, 16, 17]), ([18, 6], [6, 18]), ([6], [6]), ([6], [6]), ([21, 6], [6, 21]), ([6], [6]), ([22, 23, 6], [6, 22, 23]), ([20, 24, 6], [6, 20, 24]), ([25, 6], [6, 25]), ([10, 15, 19, 26, 6, 6], [6, 10, 15, 19, 26]), ([6, 27], [6, 27])])
def impl_ValidSail.B22 : List Nat := [0, 1, 0, 7, 0, 31, 63, 127, 127, 511, 1023, 127, 127, 4223, 14463, 30847, 127, 127, 196735, 458879, 127, 127, 2097279, 127, 14680191, 32505983, 66060415, 134217727, 268435455]
theorem impl_ValidSail.tab22 : rtab .any (opsOf Try.f100 22) = impl_ValidSail.T22 := by kernel_rfl
theorem impl_ValidSail.bits22 : waitsOk impl_ValidSail.T22.2 impl_ValidSail.B22 = true := by kernel_rfl
set_option maxHeartbeats 8000000 in
set_option maxRecDepth 100000 in
theorem impl_ValidSail.calls (k : Nat) (A0 : Option Addr) (c0 : Nat) (l0 : List (S129)) (r : Bool) (w : World) (hr0 : Kd.C k129 w A0 l0.length l0) (hc0 : l0.length ≤ c0) (h : impl_ValidSail.f k l0 = some r) :
  Calls Try.prog 100 #[.slice A0 l0.length c0] w fun e w' => e = .returned (.bool r) ∧ Below w.heap.size w w' := by
 have hu129 := Try.underlying129; have HR0 := Aside0.mk hr0; have HC0 := Aside0.mk hc0; clear hr0 hc0; have HB := Aside0.mk (Below.refl w.heap.size w); have H : (if (l0.length : Int) < 3 then (impl_ValidSail.j0 k l0 (l0.length : Int) true) else (impl_ValidSail.j0 k l0 (l0.length : Int) (decide ((l0.length : Int) > 8)))) = some r := h; clear h; have HC2 := Aside0.mk H; clear H; (go_enter Try.func100, Try.ntmps100); (go_upto_region 2 with (fail)); go_cut [16] (fun v16 wc => ∃ (kq : Nat) (x16_1 : Bool), v16 = .bool x16_1 ∧ Aside0 (impl_ValidSail.j0 kq l0 (l0.length : Int) x16_1 = some r) ∧ Aside0 (kq ≤ k) ∧ Aside0 (Below w.heap.size w wc))
 case first =>
  have H := HC2.out; clear HC2; by_cases c3 : (l0.length : Int) < 3
  ·rw [if_pos c3] at H; have c3b0 : decide ((l0.length : Int) < 3) = true := decide_eq_true c3; have c3b1 : decide (l0.length < 3) = true := decide_eq_true (by omega); clear c3; (first | rw [c3b0] | (simp only [i64_w, i32_w]; rw [c3b0]) | skip); have H' := Aside0.mk H; clear H; (go_wp2); go_meet
   case rel => exact ⟨_, (true), zF, H', ⟨by first | omega | exact Nat.le_refl _⟩, ⟨pR HB⟩⟩
  ·rw [if_neg c3] at H; have c3b0 : decide ((l0.length : Int) < 3) = false := decide_eq_false c3; have c3b1 : decide (l0.length < 3) = false := decide_eq_false (by omega); clear c3; (first | rw [c3b0] | (simp only [i64_w, i32_w]; rw [c3b0]) | skip); have H' := Aside0.mk H; clear H; (go_wp2); go_meet
   case rel => exact ⟨_, (decide ((l0.length : Int) > 8)), zF, H', ⟨by first | omega | exact Nat.le_refl _⟩, ⟨pR HB⟩⟩
 case rest =>
  clear HC2; (try clear c1); (try clear p2); (try clear c3); (try clear c3b0); (try clear c3b1); obtain ⟨kq, x16_1, rfl, HA, HJ1, HB⟩ := hcut
  cases kq with
  | zero => exact absurd HA.out (by simp [impl_ValidSail.j0])
  | succ kj1 =>
   have H := HA.out; clear HA; simp only [impl_ValidSail.j0] at H; by_cases c4 : x16_1 = true
   ·subst c4; (have H1 : (some false) = some r := by rw [if_pos rfl] at H; exact H); clear H; have H := H1; clear H1; obtain rfl := Option.some.inj H; simp only [Option.some.injEq, Prod.mk.injEq] at H; obtain ⟨rfl⟩ := H; (go_wp2); (go_ret); exact ⟨zE, pR HB⟩
   ·replace c4 := Bool.eq_false_iff.mpr c4; subst c4; (have H1 : (impl_ValidSail.l0 kj1 l0 (l0.length : Int) l0 (l0.length : Int) 0) = some r := by rw [if_neg (show ¬ (false = true) by decide)] at H; exact H); clear H; have H := H1; clear H1; have H' := Aside0.mk H; clear H; (go_wp2); go_loopg [19] kj1 (fun kq v19 w' => ∃ (x19_2 : Int), v19 = .int .i64 x19_2 ∧ Aside0 (impl_ValidSail.l0 kq l0 (l0.length : Int) l0 (l0.length : Int) x19_2 = some r) ∧ Aside0 (kq ≤ kj1) ∧ Aside0 (Below w.heap.size w w'))
    case atStart => exact ⟨(0), zF, H', ⟨Nat.le_refl _⟩, ⟨pR HB⟩⟩
    case round =>
     clear H'; (try clear c1); (try clear p2); (try clear c3); (try clear c3b0); (try clear c3b1); (try clear c4); (try clear p2); obtain ⟨x19_2, rfl, HA, HK2, HB⟩ := hrel
     cases gk with
     | zero => exact absurd HA.out (by simp [impl_ValidSail.l0])
     | succ k2 =>
      have H := HA.out; clear HA; simp only [impl_ValidSail.l0] at H; by_cases c5 : x19_2 < (l0.length : Int)
      ·rw [if_pos c5] at H; have c5b0 : decide (x19_2 < (l0.length : Int)) = true := decide_eq_true c5; clear c5; by_cases c6 : 0 ≤ x19_2
       ·rw [if_pos c6] at H; have c6b0 : decide (0 ≤ x19_2) = true := decide_eq_true c6; clear c6; by_cases c7 : x19_2 < (l0.length : Int)
        ·rw [if_pos c7] at H; have c7b0 : decide (x19_2 < (l0.length : Int)) = true := decide_eq_true c7; clear c7; have HF_ := Aside0.mk H; clear H; have p300 : 0 ≤ (x19_2 : Int) := of_decide_eq_true (by first | (with_reducible assumption) | assumption); have q300 : x19_2 < (l0.length : Int) := of_decide_eq_true (by first | (with_reducible assumption) | assumption); obtain ⟨ad300, e300, hx300_0, hx300_1⟩ := at_T129 HR0.out x19_2 p300 q300
         cases e300
         replace hx300_0 := bC HB hx300_0; replace hx300_1 := bC HB hx300_1; replace p300 := eq_true p300; replace q300 := eq_true q300; (go_upto_region 7 with (first | ((with_reducible refine gate_dst (N := 5) rfl ?_); refine box_event ?hg (N := 5) ?hd (cs := #[.int .i64 0, .int .i64 0]) (t := 129) ?hr ?_; (case hd => rfl); (case hg => rfl); (case hr => first | (go_simp; done) | (go_simp; rfl)); intro gb301 hg w8 hbox hb; have BK301 := Aside0.mk (hbox); have GW301 := pG HB hg; have GE301 := pG HB hg; replace HB := pS HB hb; clear hb hbox hg; obtain ⟨hcz9_0, hcz9_1, hfz9_0, hfz9_1⟩ := cz2 BK301))); (try simp only [Act.put, List.setIfInBounds_toArray, List.set_cons_zero, List.set_cons_succ]); have H := HF_.out; clear HF_; replace H := Option.bind_eq_some_iff.mp H; obtain ⟨t302, A100, H⟩ := H; (try dsimp only at H); have A10 := Aside0.mk A100; clear A100; by_cases c11 : t302 = true
         ·subst c11; (have H1 : ((impl_within.f ((rd_T129 l0 x19_2).f1) 0 2000).bind fun t303 => (if t303 = true then (impl_ValidSail.l0 k2 l0 (l0.length : Int) l0 (l0.length : Int) (wrap64 (x19_2 + 1))) else (some false))) = some r := by rw [if_pos rfl] at H; exact H); clear H; have H := H1; clear H1; replace H := Option.bind_eq_some_iff.mp H; obtain ⟨t303, A120, H⟩ := H; (try dsimp only at H); have A12 := Aside0.mk A120; clear A120; have HF_ := Aside0.mk H; clear H; obtain ⟨hcz13_0, hcz13_1, hfz13_0, hfz13_1⟩ := cz2 BK301; (go_upto_if 32 with (first | ((with_reducible refine gate_callee (f := 107) rfl ?_); refine goesL_ (some 25) rfl rfl Try.func107 (by kernel_rfl) rfl #[.int .i64 ((rd_T129 l0 x19_2).f0), .int .i64 0, .int .i64 2000] rfl zM ?_; (with_reducible refine (impl_within.calls ((rd_T129 l0 x19_2).f0) 0 2000 true _ A10.out).mono ?_); rintro e w' ⟨rfl, ⟨nd, rfl⟩⟩; refine ⟨_, rfl, ?_⟩) | (go_at_call 107; (with_reducible refine (impl_within.calls ((rd_T129 l0 x19_2).f1) 0 2000 t303 _ A12.out).mono ?_); rintro e w' ⟨rfl, ⟨nd, rfl⟩⟩))); (try simp only [Act.put, List.setIfInBounds_toArray, List.set_cons_zero, List.set_cons_succ]); have H := HF_.out; clear HF_; by_cases c14 : t303 = true
          ·subst c14; (have H1 : (impl_ValidSail.l0 k2 l0 (l0.length : Int) l0 (l0.length : Int) (wrap64 (x19_2 + 1))) = some r := by rw [if_pos rfl] at H; exact H); clear H; have H := H1; clear H1; have H' := Aside0.mk H; clear H; (go_wp2); go_roundg k2
           case measure => have := HJ1.out; have := HK2.out; omega
           case rel => exact ⟨(wrap64 (x19_2 + 1)), zF, H', ⟨by have := HJ1.out; have := HK2.out; omega⟩, ⟨pR HB⟩⟩
          ·replace c14 := Bool.eq_false_iff.mpr c14; subst c14; (have H1 : (some false) = some r := by rw [if_neg (show ¬ (false = true) by decide)] at H; exact H); clear H; have H := H1; clear H1; obtain rfl := Option.some.inj H; simp only [Option.some.injEq, Prod.mk.injEq] at H; obtain ⟨rfl⟩ := H; (go_wp2); (go_ret); exact ⟨zE, pR HB⟩
         ·replace c11 := Bool.eq_false_iff.mpr c11; subst c11; (have H1 : (some false) = some r := by rw [if_neg (show ¬ (false = true) by decide)] at H; exact H); clear H; have H := H1; clear H1; obtain rfl := Option.some.inj H; simp only [Option.some.injEq, Prod.mk.injEq] at H; obtain ⟨rfl⟩ := H; obtain ⟨hcz15_0, hcz15_1, hfz15_0, hfz15_1⟩ := cz2 BK301; (go_wp2_with (first | ((with_reducible refine gate_callee (f := 107) rfl ?_); refine goesL_ (some 25) rfl rfl Try.func107 (by kernel_rfl) rfl #[.int .i64 ((rd_T129 l0 x19_2).f0), .int .i64 0, .int .i64 2000] rfl zM ?_; (with_reducible refine (impl_within.calls ((rd_T129 l0 x19_2).f0) 0 2000 false _ A10.out).mono ?_); rintro e w' ⟨rfl, ⟨nd, rfl⟩⟩; refine ⟨_, rfl, ?_⟩))); (go_ret); exact ⟨zE, pR HB⟩
        ·rw [if_neg c7] at H; exact absurd H (by simp)
       ·rw [if_neg c6] at H; exact absurd H (by simp)
      ·rw [if_neg c5] at H; have c5b0 : decide (x19_2 < (l0.length : Int)) = false := decide_eq_false c5; clear c5; have H' := Aside0.mk H; clear H; (go_wp2); go_loopg [36] k2 (fun kq v36 w' => ∃ (x36_3 : Int), v36 = .int .i64 x36_3 ∧ Aside0 (impl_ValidSail.l1 kq l0 (l0.length : Int) (l0.length : Int) x36_3 = some r) ∧ Aside0 (kq ≤ k2) ∧ Aside0 (Below w.heap.size w w'))
       case atStart => exact ⟨(0), zF, H', ⟨Nat.le_refl _⟩, ⟨pR HB⟩⟩
       case round =>
        clear H'; (try clear c1); (try clear p2); (try clear c3); (try clear c3b0); (try clear c3b1); (try clear p3); (try clear q3); (try clear hx3); (try clear c4); (try clear c5); (try clear c5b0); (try clear c6); (try clear c6b0); (try clear p6); (try clear c7); (try clear c7b0); (try clear c10); (try clear c11); (try clear c14); (try clear hcz13_0); (try clear hcz13_1); (try clear hcz15_0); (try clear hcz15_1); (try clear hcz9_0); (try clear hcz9_1); (try clear hfz13_0); (try clear hfz13_1); (try clear hfz15_0); (try clear hfz15_1); (try clear hfz9_0); (try clear hfz9_1); (try clear hx300_0); (try clear hx300_1); (try clear p2); (try clear p300); (try clear q300); obtain ⟨x36_3, rfl, HA, HK3, HB⟩ := hrel
        cases gk with
        | zero => exact absurd HA.out (by simp [impl_ValidSail.l1])
        | succ k3 =>
         have H := HA.out; clear HA; simp only [impl_ValidSail.l1] at H; by_cases c16 : x36_3 < (l0.length : Int)
         ·rw [if_pos c16] at H; have c16b0 : decide (x36_3 < (l0.length : Int)) = true := decide_eq_true c16; clear c16; by_cases c17 : 0 ≤ x36_3
          ·rw [if_pos c17] at H; have c17b0 : decide (0 ≤ x36_3) = true := decide_eq_true c17; clear c17; by_cases c18 : x36_3 < (l0.length : Int)
           ·rw [if_pos c18] at H; have c18b0 : decide (x36_3 < (l0.length : Int)) = true := decide_eq_true c18; clear c18; by_cases c19 : (l0.length : Int) = 0
            ·rw [if_pos c19] at H; exact absurd H (by simp)
            ·rw [if_neg c19] at H; have c19b0 : ((l0.length : Int) == 0) = false := beq_eq_false_iff_ne.mpr c19; have c19b1 : ((l0.length : Int) != 0) = true := bne_iff_ne.mpr c19; (have c19b2 : ¬ (l0 = []) := fun h_ => c19 (by rw [h_]; rfl)); obtain ⟨ji20, hji20⟩ : ∃ j_ : Int, (Int.tmod (wrap64 (x36_3 + 1)) (l0.length : Int)) = j_ := ⟨_, rfl⟩; (replace H : (if 0 ≤ (ji20) then (if (ji20) < (l0.length : Int) then (if 0 ≤ (Int.tmod (wrap64 (x36_3 + 2)) (l0.length : Int)) then (if (Int.tmod (wrap64 (x36_3 + 2)) (l0.length : Int)) < (l0.length : Int) then ((impl_turnAt.f ((rd_T129 l0 x36_3).f0) ((rd_T129 l0 x36_3).f1) ((rd_T129 l0 (ji20)).f0) ((rd_T129 l0 (ji20)).f1) ((rd_T129 l0 (Int.tmod (wrap64 (x36_3 + 2)) (l0.length : Int))).f0) ((rd_T129 l0 (Int.tmod (wrap64 (x36_3 + 2)) (l0.length : Int))).f1)).bind fun t307 => (if t307 = 0 then (some false) else (impl_ValidSail.l1 k3 l0 (l0.length : Int) (l0.length : Int) (wrap64 (x36_3 + 1))))) else (none)) else (none)) else (none)) else (none)) = some r := by first | (rw [hji20] at H; exact H) | (simp only [hji20] at H ⊢; exact H)); by_cases c21 : 0 ≤ (ji20)
             ·rw [if_pos c21] at H; have c21b0 : decide (0 ≤ (ji20)) = true := decide_eq_true c21; clear c21; by_cases c22 : (ji20) < (l0.length : Int)
              ·rw [if_pos c22] at H; have c22b0 : decide ((ji20) < (l0.length : Int)) = true := decide_eq_true c22; clear c22; obtain ⟨ji23, hji23⟩ : ∃ j_ : Int, (Int.tmod (wrap64 (x36_3 + 2)) (l0.length : Int)) = j_ := ⟨_, rfl⟩; (replace H : (if 0 ≤ (ji23) then (if (ji23) < (l0.length : Int) then ((impl_turnAt.f ((rd_T129 l0 x36_3).f0) ((rd_T129 l0 x36_3).f1) ((rd_T129 l0 (ji20)).f0) ((rd_T129 l0 (ji20)).f1) ((rd_T129 l0 (ji23)).f0) ((rd_T129 l0 (ji23)).f1)).bind fun t307 => (if t307 = 0 then (some false) else (impl_ValidSail.l1 k3 l0 (l0.length : Int) (l0.length : Int) (wrap64 (x36_3 + 1))))) else (none)) else (none)) = some r := by first | (rw [hji23] at H; exact H) | (simp only [hji23] at H ⊢; exact H)); by_cases c24 : 0 ≤ (ji23)
               ·rw [if_pos c24] at H; have c24b0 : decide (0 ≤ (ji23)) = true := decide_eq_true c24; clear c24; by_cases c25 : (ji23) < (l0.length : Int)
                ·rw [if_pos c25] at H; have c25b0 : decide ((ji23) < (l0.length : Int)) = true := decide_eq_true c25; clear c25; replace H := Option.bind_eq_some_iff.mp H; obtain ⟨t307, A260, H⟩ := H; (try dsimp only at H); have A26 := Aside0.mk A260; clear A260; have HF_ := Aside0.mk H; clear H; (try go_wp2); replace HB := Aside0.mk (below_drew1 HB.out); have p304 : 0 ≤ (x36_3 : Int) := of_decide_eq_true (by first | (with_reducible assumption) | assumption); have q304 : x36_3 < (l0.length : Int) := of_decide_eq_true (by first | (with_reducible assumption) | assumption); obtain ⟨ad304, e304, hx304_0, hx304_1⟩ := at_T129 HR0.out x36_3 p304 q304; have hw304_1 := hx304_1; have hw304_0 := hx304_0
                 cases e304
                 replace hx304_0 := bC HB hx304_0; replace hx304_1 := bC HB hx304_1; replace p304 := eq_true p304; replace q304 := eq_true q304; have p305 : 0 ≤ ((ji20) : Int) := of_decide_eq_true (by first | (with_reducible assumption) | assumption); have q305 : (ji20) < (l0.length : Int) := of_decide_eq_true (by first | (with_reducible assumption) | assumption); obtain ⟨ad305, e305, hx305_0, hx305_1⟩ := at_T129 HR0.out (ji20) p305 q305; have hw305_1 := hx305_1; have hw305_0 := hx305_0; obtain rfl : ad304 = ad305 := (by injection e305); replace hx305_0 := bC HB hx305_0; replace hx305_1 := bC HB hx305_1; replace p305 := eq_true p305; replace q305 := eq_true q305; have p306 : 0 ≤ ((ji23) : Int) := of_decide_eq_true (by first | (with_reducible assumption) | assumption); have q306 : (ji23) < (l0.length : Int) := of_decide_eq_true (by first | (with_reducible assumption) | assumption); obtain ⟨ad306, e306, hx306_0, hx306_1⟩ := at_T129 HR0.out (ji23) p306 q306; have hw306_1 := hx306_1; have hw306_0 := hx306_0; obtain rfl : ad304 = ad306 := (by injection e306); replace hx306_0 := bC HB hx306_0; replace hx306_1 := bC HB hx306_1; replace p306 := eq_true p306; replace q306 := eq_true q306; refine start_ (n := 20) (S := fun w' => w'.cell? (ad304.add ((x36_3).toNat * 2)) = some (.int .i64 ((rd_T129 l0 x36_3).f0)) ∧ w'.cell? ⟨(ad304.add ((x36_3).toNat * 2)).block, (ad304.add ((x36_3).toNat * 2)).off + 1, none⟩ = some (.int .i64 ((rd_T129 l0 x36_3).f1)) ∧ w'.cell? (ad304.add (((ji20)).toNat * 2)) = some (.int .i64 ((rd_T129 l0 (ji20)).f0)) ∧ w'.cell? ⟨(ad304.add (((ji20)).toNat * 2)).block, (ad304.add (((ji20)).toNat * 2)).off + 1, none⟩ = some (.int .i64 ((rd_T129 l0 (ji20)).f1)) ∧ w'.cell? (ad304.add (((ji23)).toNat * 2)) = some (.int .i64 ((rd_T129 l0 (ji23)).f0)) ∧ w'.cell? ⟨(ad304.add (((ji23)).toNat * 2)).block, (ad304.add (((ji23)).toNat * 2)).off + 1, none⟩ = some (.int .i64 ((rd_T129 l0 (ji23)).f1))) (ds := []) #[F,F,F,F,F,F,F,F,F,F,F,F,F,F,F,F,F,F,F,F] (by kernel_rfl) rfl rfl ⟨((HB.out.cell (World.block_lt_of_cell? w _ hw304_0)).trans hw304_0), ((HB.out.cell (World.block_lt_of_cell? w _ hw304_1)).trans hw304_1), ((HB.out.cell (World.block_lt_of_cell? w _ hw305_0)).trans hw305_0), ((HB.out.cell (World.block_lt_of_cell? w _ hw305_1)).trans hw305_1), ((HB.out.cell (World.block_lt_of_cell? w _ hw306_0)).trans hw306_0), ((HB.out.cell (World.block_lt_of_cell? w _ hw306_1)).trans hw306_1)⟩ (fun hHeld => ?_); refine with_tabW impl_ValidSail.tab13 impl_ValidSail.bits13 (fun HT_ HW_ => ?_); generalize wr.drew = w27 at HB hx304_0 hx304_1 hx305_0 hx305_1 hx306_0 hx306_1 hHeld ⊢; refine pV (i := 0) (N := some 39) #[T,F,F,F,F,F,F,F,F,F,F,F,F,F,F,F,F,F,F,F] HT_ ?_; refine pV (i := 1) (N := some 40) #[T,T,F,F,F,F,F,F,F,F,F,F,F,F,F,F,F,F,F,F] HT_ ?_; refine pV (i := 2) (N := some 41) #[T,T,T,F,F,F,F,F,F,F,F,F,F,F,F,F,F,F,F,F] HT_ ?_; refine pV (i := 4) (N := some 43) #[T,T,T,F,T,F,F,F,F,F,F,F,F,F,F,F,F,F,F,F] HT_ ?_; refine pV (i := 5) (N := some 44) #[T,T,T,F,T,T,F,F,F,F,F,F,F,F,F,F,F,F,F,F] HT_ ?_; refine pV (i := 6) (N := some 45) #[T,T,T,F,T,T,T,F,F,F,F,F,F,F,F,F,F,F,F,F] HT_ ?_; refine pV (i := 7) (N := some 46) #[T,T,T,F,T,T,T,T,F,F,F,F,F,F,F,F,F,F,F,F] HT_ ?_; refine pV (i := 8) (N := some 47) #[T,T,T,F,T,T,T,T,T,F,F,F,F,F,F,F,F,F,F,F] HT_ ?_; refine pV (i := 9) (N := some 48) #[T,T,T,F,T,T,T,T,T,T,F,F,F,F,F,F,F,F,F,F] HT_ ?_; refine pV (i := 11) (N := some 50) #[T,T,T,F,T,T,T,T,T,T,F,T,F,F,F,F,F,F,F,F] HT_ ?_; refine pV (i := 12) (N := some 51) #[T,T,T,F,T,T,T,T,T,T,F,T,T,F,F,F,F,F,F,F] HT_ ?_; refine pV (i := 13) (N := some 52) #[T,T,T,F,T,T,T,T,T,T,F,T,T,T,F,F,F,F,F,F] HT_ ?_; refine pV (i := 14) (N := some 53) #[T,T,T,F,T,T,T,T,T,T,F,T,T,T,T,F,F,F,F,F] HT_ ?_; refine pV (i := 15) (N := some 54) #[T,T,T,F,T,T,T,T,T,T,F,T,T,T,T,T,F,F,F,F] HT_ ?_; refine pV (i := 16) (N := some 55) #[T,T,T,F,T,T,T,T,T,T,F,T,T,T,T,T,T,F,F,F] HT_ ?_; refine tV (i := 3) (N := some 42) #[T,T,T,T,T,T,T,T,T,T,F,T,T,T,T,T,T,F,F,F] rfl rfl HT_ HW_ hHeld (by rintro w' ⟨s0, s1, s2, s3, s4, s5⟩; go_simp; with_reducible rfl) ?_; refine tV (i := 10) (N := some 49) #[T,T,T,T,T,T,T,T,T,T,T,T,T,T,T,T,T,F,F,F] rfl rfl HT_ HW_ hHeld (by rintro w' ⟨s0, s1, s2, s3, s4, s5⟩; go_simp; with_reducible rfl) ?_; refine tV (i := 17) (N := some 56) #[T,T,T,T,T,T,T,T,T,T,T,T,T,T,T,T,T,T,F,F] rfl rfl HT_ HW_ hHeld (by rintro w' ⟨s0, s1, s2, s3, s4, s5⟩; go_simp; with_reducible rfl) ?_; refine one_ (i := 18) (N := some 57) #[T,T,T,T,T,T,T,T,T,T,T,T,T,T,T,T,T,T,T,F] rfl rfl (one_of HT_.out (by kernel_rfl)) (by decide) (fun K hK => ?_); refine goes_ Try.func138 (by kernel_rfl) rfl #[.agg #[.int .i64 ((rd_T129 l0 x36_3).f0), .int .i64 ((rd_T129 l0 x36_3).f1)], .agg #[.int .i64 ((rd_T129 l0 (ji20)).f0), .int .i64 ((rd_T129 l0 (ji20)).f1)], .agg #[.int .i64 ((rd_T129 l0 (ji23)).f0), .int .i64 ((rd_T129 l0 (ji23)).f1)]] (by rfl) rfl rfl (by (try simp only [List.map_toArray, List.map_cons, List.map_nil]); first | done | (simp only [hji20, hji23]; rfl) | rfl | (simp only [List.length_drop, List.length_take]; rfl)) ?_; (with_reducible refine (impl_turnAt.calls ((rd_T129 l0 x36_3).f0) ((rd_T129 l0 x36_3).f1) ((rd_T129 l0 (ji20)).f0) ((rd_T129 l0 (ji20)).f1) ((rd_T129 l0 (ji23)).f0) ((rd_T129 l0 (ji23)).f1) t307 _ A26.out).mono ?_); rintro e w28 ⟨rfl, hb⟩; refine ⟨_, rfl, ?_⟩; replace HB := pS HB hb; (try clear hb); refine hK.out _ _ ⟨((HB.out.cell (World.block_lt_of_cell? w _ hw304_0)).trans hw304_0), ((HB.out.cell (World.block_lt_of_cell? w _ hw304_1)).trans hw304_1), ((HB.out.cell (World.block_lt_of_cell? w _ hw305_0)).trans hw305_0), ((HB.out.cell (World.block_lt_of_cell? w _ hw305_1)).trans hw305_1), ((HB.out.cell (World.block_lt_of_cell? w _ hw306_0)).trans hw306_0), ((HB.out.cell (World.block_lt_of_cell? w _ hw306_1)).trans hw306_1)⟩ (fun hHeld => ?_); clear hK K; refine norm_ (a' := ?_) ?_ ?_; rotate_left
                 ·(show Act.put _ (some 57) _ = _); simp only [NS]; rfl
                 refine pV (i := 19) (N := some 58) #[T,T,T,T,T,T,T,T,T,T,T,T,T,T,T,T,T,T,T,T] HT_ ?_; refine done_ (done_of HT_.out (by kernel_rfl)) ?_; (go_upto_if 58 with (fail)); have H := HF_.out; clear HF_; by_cases c29 : t307 = 0
                 ·rw [if_pos c29] at H; have c29b0 : (t307 == 0) = true := beq_iff_eq.mpr c29; have c29b1 : (t307 != 0) = false := bne_eq_false_iff_eq.mpr c29; clear c29; (first | rw [c29b0] | (simp only [i64_w, i32_w]; rw [c29b0]) | skip); obtain rfl := Option.some.inj H; simp only [Option.some.injEq, Prod.mk.injEq] at H; obtain ⟨rfl⟩ := H; (go_wp2); (go_ret); exact ⟨by first | rfl | (simp [errW_none, errW_some] <;> rfl) | (simp only [← hji20, ← hji23]; first | rfl | (simp [errW_none, errW_some] <;> rfl)) | (simp [*, errW_none, errW_some] <;> rfl), pR HB⟩
                 ·rw [if_neg c29] at H; have c29b0 : (t307 == 0) = false := beq_eq_false_iff_ne.mpr c29; have c29b1 : (t307 != 0) = true := bne_iff_ne.mpr c29; (first | rw [c29b0] | (simp only [i64_w, i32_w]; rw [c29b0]) | skip); have H' := Aside0.mk H; clear H; (go_wp2); go_roundg k3
                  case measure => have := HJ1.out; have := HK2.out; have := HK3.out; omega
                  case rel => exact ⟨(wrap64 (x36_3 + 1)), zF, H', ⟨by have := HJ1.out; have := HK2.out; have := HK3.out; omega⟩, ⟨pR HB⟩⟩
                ·rw [if_neg c25] at H; exact absurd H (by simp)
               ·rw [if_neg c24] at H; exact absurd H (by simp)
              ·rw [if_neg c22] at H; exact absurd H (by simp)
             ·rw [if_neg c21] at H; exact absurd H (by simp)
           ·rw [if_neg c18] at H; exact absurd H (by simp)
          ·rw [if_neg c17] at H; exact absurd H (by simp)
         ·rw [if_neg c16] at H; have c16b0 : decide (x36_3 < (l0.length : Int)) = false := decide_eq_false c16; clear c16; have H' := Aside0.mk H; clear H; (go_wp2); go_loopg [62] k3 (fun kq v62 w' => ∃ (x62_4 : Int), v62 = .int .i64 x62_4 ∧ Aside0 (impl_ValidSail.l2 kq l0 (l0.length : Int) (l0.length : Int) x62_4 = some r) ∧ Aside0 (kq ≤ k3) ∧ Aside0 (Below w.heap.size w w'))
          case atStart => exact ⟨(0), zF, H', ⟨Nat.le_refl _⟩, ⟨pR HB⟩⟩
          case round =>
           clear H'; (try clear c1); (try clear c2); (try clear p2); (try clear c3); (try clear c3b0); (try clear c3b1); (try clear p3); (try clear q3); (try clear hx3); (try clear c4); (try clear c5); (try clear c5b0); (try clear c6); (try clear c6b0); (try clear p6); (try clear c7); (try clear c7b0); (try clear c10); (try clear c11); (try clear c13); (try clear c14); (try clear c16); (try clear c16b0); (try clear c17); (try clear c17b0); (try clear c18); (try clear c18b0); (try clear c19); (try clear c19b0); (try clear c19b1); (try clear c19b2); (try clear c21); (try clear c21b0); (try clear c22); (try clear c22b0); (try clear c24); (try clear c24b0); (try clear c25); (try clear c25b0); (try clear c29); (try clear c29b0); (try clear c29b1); (try clear hcz13_0); (try clear hcz13_1); (try clear hcz15_0); (try clear hcz15_1); (try clear hcz9_0); (try clear hcz9_1); (try clear hfz13_0); (try clear hfz13_1); (try clear hfz15_0); (try clear hfz15_1); (try clear hfz9_0); (try clear hfz9_1); (try clear hx300_0); (try clear hx300_1); (try clear hx304_0); (try clear hx304_1); (try clear hx305_0); (try clear hx305_1); (try clear hx306_0); (try clear hx306_1); (try clear p2); (try clear p3); (try clear p300); (try clear p304); (try clear p305); (try clear p306); (try clear p6); (try clear q3); (try clear q300); (try clear q304); (try clear q305); (try clear q306); obtain ⟨x62_4, rfl, HA, HK4, HB⟩ := hrel
           cases gk with
           | zero => exact absurd HA.out (by simp [impl_ValidSail.l2])
           | succ k4 =>
            have H := HA.out; clear HA; simp only [impl_ValidSail.l2] at H; by_cases c30 : x62_4 < (l0.length : Int)
            ·rw [if_pos c30] at H; have c30b0 : decide (x62_4 < (l0.length : Int)) = true := decide_eq_true c30; clear c30; have H' := Aside0.mk H; clear H; (go_wp2); go_loopg [8] k4 (fun kq v8 w' => ∃ (x8_5 : Int), v8 = .int .i64 x8_5 ∧ Aside0 (impl_ValidSail.l3 kq l0 (l0.length : Int) x62_4 x8_5 (l0.length : Int) x62_4 = some r) ∧ Aside0 (kq ≤ k4) ∧ Aside0 (Below w.heap.size w w'))
             case atStart => exact ⟨(wrap64 (x62_4 + 2)), zF, H', ⟨Nat.le_refl _⟩, ⟨pR HB⟩⟩
             case round =>
              clear H'; (try clear c1); (try clear c2); (try clear p2); (try clear c3); (try clear c3b0); (try clear c3b1); (try clear p3); (try clear q3); (try clear hx3); (try clear c4); (try clear c5); (try clear c5b0); (try clear c6); (try clear c6b0); (try clear p6); (try clear c7); (try clear c7b0); (try clear c10); (try clear c11); (try clear c13); (try clear c14); (try clear c16); (try clear c16b0); (try clear c17); (try clear c17b0); (try clear c18); (try clear c18b0); (try clear c19); (try clear c19b0); (try clear c19b1); (try clear c19b2); (try clear c21); (try clear c21b0); (try clear c22); (try clear c22b0); (try clear c24); (try clear c24b0); (try clear c25); (try clear c25b0); (try clear c29); (try clear c29b0); (try clear c29b1); (try clear c30); (try clear c30b0); (try clear p30); (try clear q30); (try clear hx30); (try clear hcz13_0); (try clear hcz13_1); (try clear hcz15_0); (try clear hcz15_1); (try clear hcz9_0); (try clear hcz9_1); (try clear hfz13_0); (try clear hfz13_1); (try clear hfz15_0); (try clear hfz15_1); (try clear hfz9_0); (try clear hfz9_1); (try clear hx300_0); (try clear hx300_1); (try clear hx304_0); (try clear hx304_1); (try clear hx305_0); (try clear hx305_1); (try clear hx306_0); (try clear hx306_1); (try clear p2); (try clear p3); (try clear p300); (try clear p304); (try clear p305); (try clear p306); (try clear p6); (try clear q3); (try clear q300); (try clear q304); (try clear q305); (try clear q306); obtain ⟨x8_5, rfl, HA, HK5, HB⟩ := hrel
              cases gk with
              | zero => exact absurd HA.out (by simp [impl_ValidSail.l3])
              | succ k5 =>
               have H := HA.out; clear HA; simp only [impl_ValidSail.l3] at H; by_cases c31 : x8_5 < (l0.length : Int)
               ·rw [if_pos c31] at H; have c31b0 : decide (x8_5 < (l0.length : Int)) = true := decide_eq_true c31; clear c31; by_cases c32 : (l0.length : Int) = 0
                ·rw [if_pos c32] at H; exact absurd H (by simp)
                ·rw [if_neg c32] at H; have c32b0 : ((l0.length : Int) == 0) = false := beq_eq_false_iff_ne.mpr c32; have c32b1 : ((l0.length : Int) != 0) = true := bne_iff_ne.mpr c32; (have c32b2 : ¬ (l0 = []) := fun h_ => c32 (by rw [h_]; rfl)); by_cases c33 : (Int.tmod (wrap64 (x8_5 + 1)) (l0.length : Int)) = x62_4
                 ·rw [if_pos c33] at H; have c33b0 : ((Int.tmod (wrap64 (x8_5 + 1)) (l0.length : Int)) == x62_4) = true := beq_iff_eq.mpr c33; have c33b1 : ((Int.tmod (wrap64 (x8_5 + 1)) (l0.length : Int)) != x62_4) = false := bne_eq_false_iff_eq.mpr c33; clear c33; have H' := Aside0.mk H; clear H; (try go_wp2); replace HB := Aside0.mk (below_drew1 HB.out); refine start_ (n := 29) (S := fun w' => True) (ds := []) #[F,F,F,F,F,F,F,F,F,F,F,F,F,F,F,F,F,F,F,F,F,F,F,F,F,F,F,F,F] (by kernel_rfl) rfl rfl trivial (fun hHeld => ?_); refine with_tabW impl_ValidSail.tab22 impl_ValidSail.bits22 (fun HT_ HW_ => ?_); generalize wr.drew = w34 at HB hHeld ⊢; refine pV (i := 0) (N := some 72) #[T,F,F,F,F,F,F,F,F,F,F,F,F,F,F,F,F,F,F,F,F,F,F,F,F,F,F,F,F] HT_ ?_; refine pV (i := 1) (N := some 73) #[T,T,F,F,F,F,F,F,F,F,F,F,F,F,F,F,F,F,F,F,F,F,F,F,F,F,F,F,F] HT_ ?_; refine pV (i := 2) (N := some 74) #[T,T,T,F,F,F,F,F,F,F,F,F,F,F,F,F,F,F,F,F,F,F,F,F,F,F,F,F,F] HT_ ?_; refine pV (i := 3) (N := some 75) #[T,T,T,T,F,F,F,F,F,F,F,F,F,F,F,F,F,F,F,F,F,F,F,F,F,F,F,F,F] HT_ ?_; refine pV (i := 4) (N := some 76) #[T,T,T,T,T,F,F,F,F,F,F,F,F,F,F,F,F,F,F,F,F,F,F,F,F,F,F,F,F] HT_ ?_; refine pV (i := 5) (N := some 77) #[T,T,T,T,T,T,F,F,F,F,F,F,F,F,F,F,F,F,F,F,F,F,F,F,F,F,F,F,F] HT_ ?_; refine pV (i := 6) (N := some 78) #[T,T,T,T,T,T,T,F,F,F,F,F,F,F,F,F,F,F,F,F,F,F,F,F,F,F,F,F,F] HT_ ?_; refine pure_ (i := 7) (N := some 79) (v := undef) (a' := ?_) #[T,T,T,T,T,T,T,T,F,F,F,F,F,F,F,F,F,F,F,F,F,F,F,F,F,F,F,F,F] rfl rfl (any_of HT_.out (by kernel_rfl)) (fun _ _ _ h => h) (Or.inr ⟨by rfl, rfl⟩) ?_ ?_; rotate_left
                  ·simp only [NS]; rfl
                  refine pure_ (i := 8) (N := some 80) (v := undef) (a' := ?_) #[T,T,T,T,T,T,T,T,T,F,F,F,F,F,F,F,F,F,F,F,F,F,F,F,F,F,F,F,F] rfl rfl (any_of HT_.out (by kernel_rfl)) (fun _ _ _ h => h) (Or.inr ⟨by rfl, rfl⟩) ?_ ?_; rotate_left
                  ·simp only [NS]; rfl
                  refine pure_ (i := 9) (N := some 81) (v := undef) (a' := ?_) #[T,T,T,T,T,T,T,T,T,T,F,F,F,F,F,F,F,F,F,F,F,F,F,F,F,F,F,F,F] rfl rfl (any_of HT_.out (by kernel_rfl)) (fun _ _ _ h => h) (Or.inr ⟨by rfl, rfl⟩) ?_ ?_; rotate_left
                  ·simp only [NS]; rfl
                  refine pure_ (i := 10) (N := some 82) (v := undef) (a' := ?_) #[T,T,T,T,T,T,T,T,T,T,T,F,F,F,F,F,F,F,F,F,F,F,F,F,F,F,F,F,F] rfl rfl (any_of HT_.out (by kernel_rfl)) (fun _ _ _ h => h) (Or.inr ⟨by rfl, rfl⟩) ?_ ?_; rotate_left
                  ·simp only [NS]; rfl
                  refine pure_ (i := 11) (N := some 83) (v := undef) (a' := ?_) #[T,T,T,T,T,T,T,T,T,T,T,T,F,F,F,F,F,F,F,F,F,F,F,F,F,F,F,F,F] rfl rfl (any_of HT_.out (by kernel_rfl)) (fun _ _ _ h => h) (Or.inr ⟨by rfl, rfl⟩) ?_ ?_; rotate_left
                  ·simp only [NS]; rfl
                  refine pure_ (i := 12) (N := some 84) (v := undef) (a' := ?_) #[T,T,T,T,T,T,T,T,T,T,T,T,T,F,F,F,F,F,F,F,F,F,F,F,F,F,F,F,F] rfl rfl (any_of HT_.out (by kernel_rfl)) (fun _ _ _ h => h) (Or.inr ⟨by rfl, rfl⟩) ?_ ?_; rotate_left
                  ·simp only [NS]; rfl
                  refine pure_ (i := 13) (N := some 85) (v := undef) (a' := ?_) #[T,T,T,T,T,T,T,T,T,T,T,T,T,T,F,F,F,F,F,F,F,F,F,F,F,F,F,F,F] rfl rfl (any_of HT_.out (by kernel_rfl)) (fun _ _ _ h => h) (Or.inr ⟨by rfl, rfl⟩) ?_ ?_; rotate_left
                  ·simp only [NS]; rfl
                  refine pure_ (i := 14) (N := some 86) (v := undef) (a' := ?_) #[T,T,T,T,T,T,T,T,T,T,T,T,T,T,T,F,F,F,F,F,F,F,F,F,F,F,F,F,F] rfl rfl (any_of HT_.out (by kernel_rfl)) (fun _ _ _ h => h) (Or.inr ⟨by rfl, rfl⟩) ?_ ?_; rotate_left
                  ·simp only [NS]; rfl
                  refine pure_ (i := 15) (N := some 87) (v := undef) (a' := ?_) #[T,T,T,T,T,T,T,T,T,T,T,T,T,T,T,T,F,F,F,F,F,F,F,F,F,F,F,F,F] rfl rfl (any_of HT_.out (by kernel_rfl)) (fun _ _ _ h => h) (Or.inr ⟨by rfl, rfl⟩) ?_ ?_; rotate_left
                  ·simp only [NS]; rfl
                  refine pure_ (i := 16) (N := some 88) (v := undef) (a' := ?_) #[T,T,T,T,T,T,T,T,T,T,T,T,T,T,T,T,T,F,F,F,F,F,F,F,F,F,F,F,F] rfl rfl (any_of HT_.out (by kernel_rfl)) (fun _ _ _ h => h) (Or.inr ⟨by rfl, rfl⟩) ?_ ?_; rotate_left
                  ·simp only [NS]; rfl
                  refine pure_ (i := 17) (N := some 89) (v := undef) (a' := ?_) #[T,T,T,T,T,T,T,T,T,T,T,T,T,T,T,T,T,T,F,F,F,F,F,F,F,F,F,F,F] rfl rfl (any_of HT_.out (by kernel_rfl)) (fun _ _ _ h => h) (Or.inr ⟨by rfl, rfl⟩) ?_ ?_; rotate_left
                  ·simp only [NS]; rfl
                  refine pure_ (i := 18) (N := some 90) (v := undef) (a' := ?_) #[T,T,T,T,T,T,T,T,T,T,T,T,T,T,T,T,T,T,T,F,F,F,F,F,F,F,F,F,F] rfl rfl (any_of HT_.out (by kernel_rfl)) (fun _ _ _ h => h) (Or.inr ⟨by rfl, rfl⟩) ?_ ?_; rotate_left
                  ·simp only [NS]; rfl
                  refine pure_ (i := 19) (N := some 91) (v := undef) (a' := ?_) #[T,T,T,T,T,T,T,T,T,T,T,T,T,T,T,T,T,T,T,T,F,F,F,F,F,F,F,F,F] rfl rfl (any_of HT_.out (by kernel_rfl)) (fun _ _ _ h => h) (Or.inr ⟨by rfl, rfl⟩) ?_ ?_; rotate_left
                  ·simp only [NS]; rfl
                  refine pure_ (i := 20) (N := some 92) (v := undef) (a' := ?_) #[T,T,T,T,T,T,T,T,T,T,T,T,T,T,T,T,T,T,T,T,T,F,F,F,F,F,F,F,F] rfl rfl (any_of HT_.out (by kernel_rfl)) (fun _ _ _ h => h) (Or.inr ⟨by rfl, rfl⟩) ?_ ?_; rotate_left
                  ·simp only [NS]; rfl
                  refine pure_ (i := 21) (N := some 93) (v := undef) (a' := ?_) #[T,T,T,T,T,T,T,T,T,T,T,T,T,T,T,T,T,T,T,T,T,T,F,F,F,F,F,F,F] rfl rfl (any_of HT_.out (by kernel_rfl)) (fun _ _ _ h => h) (Or.inr ⟨by rfl, rfl⟩) ?_ ?_; rotate_left
                  ·simp only [NS]; rfl
                  refine pure_ (i := 22) (N := some 94) (v := undef) (a' := ?_) #[T,T,T,T,T,T,T,T,T,T,T,T,T,T,T,T,T,T,T,T,T,T,T,F,F,F,F,F,F] rfl rfl (any_of HT_.out (by kernel_rfl)) (fun _ _ _ h => h) (Or.inr ⟨by rfl, rfl⟩) ?_ ?_; rotate_left
                  ·simp only [NS]; rfl
                  refine pure_ (i := 23) (N := some 95) (v := undef) (a' := ?_) #[T,T,T,T,T,T,T,T,T,T,T,T,T,T,T,T,T,T,T,T,T,T,T,T,F,F,F,F,F] rfl rfl (any_of HT_.out (by kernel_rfl)) (fun _ _ _ h => h) (Or.inr ⟨by rfl, rfl⟩) ?_ ?_; rotate_left
                  ·simp only [NS]; rfl
                  refine pure_ (i := 24) (N := some 96) (v := undef) (a' := ?_) #[T,T,T,T,T,T,T,T,T,T,T,T,T,T,T,T,T,T,T,T,T,T,T,T,T,F,F,F,F] rfl rfl (any_of HT_.out (by kernel_rfl)) (fun _ _ _ h => h) (Or.inr ⟨by rfl, rfl⟩) ?_ ?_; rotate_left
                  ·simp only [NS]; rfl
                  refine pure_ (i := 25) (N := some 97) (v := undef) (a' := ?_) #[T,T,T,T,T,T,T,T,T,T,T,T,T,T,T,T,T,T,T,T,T,T,T,T,T,T,F,F,F] rfl rfl (any_of HT_.out (by kernel_rfl)) (fun _ _ _ h => h) (Or.inr ⟨by rfl, rfl⟩) ?_ ?_; rotate_left
                  ·simp only [NS]; rfl
                  refine pure_ (i := 26) (N := some 98) (v := undef) (a' := ?_) #[T,T,T,T,T,T,T,T,T,T,T,T,T,T,T,T,T,T,T,T,T,T,T,T,T,T,T,F,F] rfl rfl (any_of HT_.out (by kernel_rfl)) (fun _ _ _ h => h) (Or.inr ⟨by rfl, rfl⟩) ?_ ?_; rotate_left
                  ·simp only [NS]; rfl
                  refine pure_ (i := 27) (N := some 99) (v := undef) (a' := ?_) #[T,T,T,T,T,T,T,T,T,T,T,T,T,T,T,T,T,T,T,T,T,T,T,T,T,T,T,T,F] rfl rfl (any_of HT_.out (by kernel_rfl)) (fun _ _ _ h => h) (Or.inr ⟨by rfl, rfl⟩) ?_ ?_; rotate_left
                  ·simp only [NS]; rfl
                  refine pV (i := 28) (N := some 100) #[T,T,T,T,T,T,T,T,T,T,T,T,T,T,T,T,T,T,T,T,T,T,T,T,T,T,T,T,T] HT_ ?_; refine done_ (done_of HT_.out (by kernel_rfl)) ?_; (try go_wp2); go_roundg k5
                  case measure => have := HJ1.out; have := HK2.out; have := HK3.out; have := HK4.out; have := HK5.out; omega
                  case rel => exact ⟨(wrap64 (x8_5 + 1)), zF, H', ⟨by have := HJ1.out; have := HK2.out; have := HK3.out; have := HK4.out; have := HK5.out; omega⟩, ⟨pR HB⟩⟩
                 ·rw [if_neg c33] at H; have c33b0 : ((Int.tmod (wrap64 (x8_5 + 1)) (l0.length : Int)) == x62_4) = false := beq_eq_false_iff_ne.mpr c33; have c33b1 : ((Int.tmod (wrap64 (x8_5 + 1)) (l0.length : Int)) != x62_4) = true := bne_iff_ne.mpr c33; by_cases c35 : 0 ≤ x62_4
                  ·rw [if_pos c35] at H; have c35b0 : decide (0 ≤ x62_4) = true := decide_eq_true c35; clear c35; by_cases c36 : x62_4 < (l0.length : Int)
                   ·rw [if_pos c36] at H; have c36b0 : decide (x62_4 < (l0.length : Int)) = true := decide_eq_true c36; clear c36; obtain ⟨ji37, hji37⟩ : ∃ j_ : Int, (wrap64 (x62_4 + 1)) = j_ := ⟨_, rfl⟩; (replace H : (if 0 ≤ (ji37) then (if (ji37) < (l0.length : Int) then (if 0 ≤ x8_5 then (if x8_5 < (l0.length : Int) then (if 0 ≤ (Int.tmod (wrap64 (x8_5 + 1)) (l0.length : Int)) then (if (Int.tmod (wrap64 (x8_5 + 1)) (l0.length : Int)) < (l0.length : Int) then ((impl_edgesMeet.f k5 ((rd_T129 l0 x62_4).f0) ((rd_T129 l0 x62_4).f1) ((rd_T129 l0 (ji37)).f0) ((rd_T129 l0 (ji37)).f1) ((rd_T129 l0 x8_5).f0) ((rd_T129 l0 x8_5).f1) ((rd_T129 l0 (Int.tmod (wrap64 (x8_5 + 1)) (l0.length : Int))).f0) ((rd_T129 l0 (Int.tmod (wrap64 (x8_5 + 1)) (l0.length : Int))).f1)).bind fun t313 => (if t313 = true then (some false) else (impl_ValidSail.l3 k5 l0 (l0.length : Int) x62_4 (wrap64 (x8_5 + 1)) (l0.length : Int) x62_4))) else (none)) else (none)) else (none)) else (none)) else (none)) else (none)) = some r := by first | (rw [hji37] at H; exact H) | (simp only [hji37] at H ⊢; exact H)); have hji37w : (IntKind.i64.wrap (x62_4 + 1)) = ji37 := (i64_w _).trans hji37; by_cases c38 : 0 ≤ (ji37)
                    ·rw [if_pos c38] at H; have c38b0 : decide (0 ≤ (ji37)) = true := decide_eq_true c38; clear c38; by_cases c39 : (ji37) < (l0.length : Int)
                     ·rw [if_pos c39] at H; have c39b0 : decide ((ji37) < (l0.length : Int)) = true := decide_eq_true c39; clear c39; by_cases c40 : 0 ≤ x8_5
                      ·rw [if_pos c40] at H; have c40b0 : decide (0 ≤ x8_5) = true := decide_eq_true c40; clear c40; by_cases c41 : x8_5 < (l0.length : Int)
                       ·rw [if_pos c41] at H; have c41b0 : decide (x8_5 < (l0.length : Int)) = true := decide_eq_true c41; clear c41; obtain ⟨ji42, hji42⟩ : ∃ j_ : Int, (Int.tmod (wrap64 (x8_5 + 1)) (l0.length : Int)) = j_ := ⟨_, rfl⟩; (replace H : (if 0 ≤ (ji42) then (if (ji42) < (l0.length : Int) then ((impl_edgesMeet.f k5 ((rd_T129 l0 x62_4).f0) ((rd_T129 l0 x62_4).f1) ((rd_T129 l0 (ji37)).f0) ((rd_T129 l0 (ji37)).f1) ((rd_T129 l0 x8_5).f0) ((rd_T129 l0 x8_5).f1) ((rd_T129 l0 (ji42)).f0) ((rd_T129 l0 (ji42)).f1)).bind fun t313 => (if t313 = true then (some false) else (impl_ValidSail.l3 k5 l0 (l0.length : Int) x62_4 (wrap64 (x8_5 + 1)) (l0.length : Int) x62_4))) else (none)) else (none)) = some r := by first | (rw [hji42] at H; exact H) | (simp only [hji42] at H ⊢; exact H)); (try rw [hji42] at c33b0); (try rw [hji42] at c33b1); by_cases c43 : 0 ≤ (ji42)
                        ·rw [if_pos c43] at H; have c43b0 : decide (0 ≤ (ji42)) = true := decide_eq_true c43; clear c43; by_cases c44 : (ji42) < (l0.length : Int)
                         ·rw [if_pos c44] at H; have c44b0 : decide ((ji42) < (l0.length : Int)) = true := decide_eq_true c44; clear c44; replace H := Option.bind_eq_some_iff.mp H; obtain ⟨t313, A450, H⟩ := H; (try dsimp only at H); have A45 := Aside0.mk A450; clear A450; have HF_ := Aside0.mk H; clear H; (try go_wp2); replace HB := Aside0.mk (below_drew1 HB.out); have p309 : 0 ≤ (x62_4 : Int) := of_decide_eq_true (by first | (with_reducible assumption) | assumption); have q309 : x62_4 < (l0.length : Int) := of_decide_eq_true (by first | (with_reducible assumption) | assumption); obtain ⟨ad309, e309, hx309_0, hx309_1⟩ := at_T129 HR0.out x62_4 p309 q309; have hw309_1 := hx309_1; have hw309_0 := hx309_0
                          cases e309
                          replace hx309_0 := bC HB hx309_0; replace hx309_1 := bC HB hx309_1; replace p309 := eq_true p309; replace q309 := eq_true q309; have p310 : 0 ≤ ((ji37) : Int) := of_decide_eq_true (by first | (with_reducible assumption) | assumption); have q310 : (ji37) < (l0.length : Int) := of_decide_eq_true (by first | (with_reducible assumption) | assumption); obtain ⟨ad310, e310, hx310_0, hx310_1⟩ := at_T129 HR0.out (ji37) p310 q310; have hw310_1 := hx310_1; have hw310_0 := hx310_0; obtain rfl : ad309 = ad310 := (by injection e310); replace hx310_0 := bC HB hx310_0; replace hx310_1 := bC HB hx310_1; replace p310 := eq_true p310; replace q310 := eq_true q310; have p311 : 0 ≤ (x8_5 : Int) := of_decide_eq_true (by first | (with_reducible assumption) | assumption); have q311 : x8_5 < (l0.length : Int) := of_decide_eq_true (by first | (with_reducible assumption) | assumption); obtain ⟨ad311, e311, hx311_0, hx311_1⟩ := at_T129 HR0.out x8_5 p311 q311; have hw311_1 := hx311_1; have hw311_0 := hx311_0; obtain rfl : ad309 = ad311 := (by injection e311); replace hx311_0 := bC HB hx311_0; replace hx311_1 := bC HB hx311_1; replace p311 := eq_true p311; replace q311 := eq_true q311; have p312 : 0 ≤ ((ji42) : Int) := of_decide_eq_true (by first | (with_reducible assumption) | assumption); have q312 : (ji42) < (l0.length : Int) := of_decide_eq_true (by first | (with_reducible assumption) | assumption); obtain ⟨ad312, e312, hx312_0, hx312_1⟩ := at_T129 HR0.out (ji42) p312 q312; have hw312_1 := hx312_1; have hw312_0 := hx312_0; obtain rfl : ad309 = ad312 := (by injection e312); replace hx312_0 := bC HB hx312_0; replace hx312_1 := bC HB hx312_1; replace p312 := eq_true p312; replace q312 := eq_true q312; refine start_ (n := 29) (S := fun w' => w'.cell? (ad309.add ((x62_4).toNat * 2)) = some (.int .i64 ((rd_T129 l0 x62_4).f0)) ∧ w'.cell? ⟨(ad309.add ((x62_4).toNat * 2)).block, (ad309.add ((x62_4).toNat * 2)).off + 1, none⟩ = some (.int .i64 ((rd_T129 l0 x62_4).f1)) ∧ w'.cell? (ad309.add (((ji37)).toNat * 2)) = some (.int .i64 ((rd_T129 l0 (ji37)).f0)) ∧ w'.cell? ⟨(ad309.add (((ji37)).toNat * 2)).block, (ad309.add (((ji37)).toNat * 2)).off + 1, none⟩ = some (.int .i64 ((rd_T129 l0 (ji37)).f1)) ∧ w'.cell? (ad309.add ((x8_5).toNat * 2)) = some (.int .i64 ((rd_T129 l0 x8_5).f0)) ∧ w'.cell? ⟨(ad309.add ((x8_5).toNat * 2)).block, (ad309.add ((x8_5).toNat * 2)).off + 1, none⟩ = some (.int .i64 ((rd_T129 l0 x8_5).f1)) ∧ w'.cell? (ad309.add (((ji42)).toNat * 2)) = some (.int .i64 ((rd_T129 l0 (ji42)).f0)) ∧ w'.cell? ⟨(ad309.add (((ji42)).toNat * 2)).block, (ad309.add (((ji42)).toNat * 2)).off + 1, none⟩ = some (.int .i64 ((rd_T129 l0 (ji42)).f1))) (ds := []) #[F,F,F,F,F,F,F,F,F,F,F,F,F,F,F,F,F,F,F,F,F,F,F,F,F,F,F,F,F] (by kernel_rfl) rfl rfl ⟨((HB.out.cell (World.block_lt_of_cell? w _ hw309_0)).trans hw309_0), ((HB.out.cell (World.block_lt_of_cell? w _ hw309_1)).trans hw309_1), ((HB.out.cell (World.block_lt_of_cell? w _ hw310_0)).trans hw310_0), ((HB.out.cell (World.block_lt_of_cell? w _ hw310_1)).trans hw310_1), ((HB.out.cell (World.block_lt_of_cell? w _ hw311_0)).trans hw311_0), ((HB.out.cell (World.block_lt_of_cell? w _ hw311_1)).trans hw311_1), ((HB.out.cell (World.block_lt_of_cell? w _ hw312_0)).trans hw312_0), ((HB.out.cell (World.block_lt_of_cell? w _ hw312_1)).trans hw312_1)⟩ (fun hHeld => ?_); refine with_tabW impl_ValidSail.tab22 impl_ValidSail.bits22 (fun HT_ HW_ => ?_); generalize wr.drew = w46 at HB hx309_0 hx309_1 hx310_0 hx310_1 hx311_0 hx311_1 hx312_0 hx312_1 hHeld ⊢; refine pV (i := 0) (N := some 72) #[T,F,F,F,F,F,F,F,F,F,F,F,F,F,F,F,F,F,F,F,F,F,F,F,F,F,F,F,F] HT_ ?_; refine pV (i := 1) (N := some 73) #[T,T,F,F,F,F,F,F,F,F,F,F,F,F,F,F,F,F,F,F,F,F,F,F,F,F,F,F,F] HT_ ?_; refine pV (i := 2) (N := some 74) #[T,T,T,F,F,F,F,F,F,F,F,F,F,F,F,F,F,F,F,F,F,F,F,F,F,F,F,F,F] HT_ ?_; refine pV (i := 3) (N := some 75) #[T,T,T,T,F,F,F,F,F,F,F,F,F,F,F,F,F,F,F,F,F,F,F,F,F,F,F,F,F] HT_ ?_; refine pV (i := 4) (N := some 76) #[T,T,T,T,T,F,F,F,F,F,F,F,F,F,F,F,F,F,F,F,F,F,F,F,F,F,F,F,F] HT_ ?_; refine pV (i := 5) (N := some 77) #[T,T,T,T,T,T,F,F,F,F,F,F,F,F,F,F,F,F,F,F,F,F,F,F,F,F,F,F,F] HT_ ?_; refine pV (i := 6) (N := some 78) #[T,T,T,T,T,T,T,F,F,F,F,F,F,F,F,F,F,F,F,F,F,F,F,F,F,F,F,F,F] HT_ ?_; refine pV (i := 7) (N := some 79) #[T,T,T,T,T,T,T,T,F,F,F,F,F,F,F,F,F,F,F,F,F,F,F,F,F,F,F,F,F] HT_ ?_; refine pV (i := 8) (N := some 80) #[T,T,T,T,T,T,T,T,T,F,F,F,F,F,F,F,F,F,F,F,F,F,F,F,F,F,F,F,F] HT_ ?_; refine pV (i := 9) (N := some 81) #[T,T,T,T,T,T,T,T,T,T,F,F,F,F,F,F,F,F,F,F,F,F,F,F,F,F,F,F,F] HT_ ?_; refine pV (i := 11) (N := some 83) #[T,T,T,T,T,T,T,T,T,T,F,T,F,F,F,F,F,F,F,F,F,F,F,F,F,F,F,F,F] HT_ ?_; refine pV (i := 12) (N := some 84) #[T,T,T,T,T,T,T,T,T,T,F,T,T,F,F,F,F,F,F,F,F,F,F,F,F,F,F,F,F] HT_ ?_; refine pV (i := 13) (N := some 85) #[T,T,T,T,T,T,T,T,T,T,F,T,T,T,F,F,F,F,F,F,F,F,F,F,F,F,F,F,F] HT_ ?_; refine pV (i := 14) (N := some 86) #[T,T,T,T,T,T,T,T,T,T,F,T,T,T,T,F,F,F,F,F,F,F,F,F,F,F,F,F,F] HT_ ?_; refine pV (i := 16) (N := some 88) #[T,T,T,T,T,T,T,T,T,T,F,T,T,T,T,F,T,F,F,F,F,F,F,F,F,F,F,F,F] HT_ ?_; refine pV (i := 17) (N := some 89) #[T,T,T,T,T,T,T,T,T,T,F,T,T,T,T,F,T,T,F,F,F,F,F,F,F,F,F,F,F] HT_ ?_; refine pV (i := 18) (N := some 90) #[T,T,T,T,T,T,T,T,T,T,F,T,T,T,T,F,T,T,T,F,F,F,F,F,F,F,F,F,F] HT_ ?_; refine pV (i := 20) (N := some 92) #[T,T,T,T,T,T,T,T,T,T,F,T,T,T,T,F,T,T,T,F,T,F,F,F,F,F,F,F,F] HT_ ?_; refine pV (i := 21) (N := some 93) #[T,T,T,T,T,T,T,T,T,T,F,T,T,T,T,F,T,T,T,F,T,T,F,F,F,F,F,F,F] HT_ ?_; refine pV (i := 22) (N := some 94) #[T,T,T,T,T,T,T,T,T,T,F,T,T,T,T,F,T,T,T,F,T,T,T,F,F,F,F,F,F] HT_ ?_; refine pV (i := 23) (N := some 95) #[T,T,T,T,T,T,T,T,T,T,F,T,T,T,T,F,T,T,T,F,T,T,T,T,F,F,F,F,F] HT_ ?_; refine pV (i := 24) (N := some 96) #[T,T,T,T,T,T,T,T,T,T,F,T,T,T,T,F,T,T,T,F,T,T,T,T,T,F,F,F,F] HT_ ?_; refine pV (i := 25) (N := some 97) #[T,T,T,T,T,T,T,T,T,T,F,T,T,T,T,F,T,T,T,F,T,T,T,T,T,T,F,F,F] HT_ ?_; refine tV (i := 10) (N := some 82) #[T,T,T,T,T,T,T,T,T,T,T,T,T,T,T,F,T,T,T,F,T,T,T,T,T,T,F,F,F] rfl rfl HT_ HW_ hHeld (by rintro w' ⟨s0, s1, s2, s3, s4, s5, s6, s7⟩; go_simp; with_reducible rfl) ?_; refine tV (i := 15) (N := some 87) #[T,T,T,T,T,T,T,T,T,T,T,T,T,T,T,T,T,T,T,F,T,T,T,T,T,T,F,F,F] rfl rfl HT_ HW_ hHeld (by rintro w' ⟨s0, s1, s2, s3, s4, s5, s6, s7⟩; go_simp; with_reducible rfl) ?_; refine tV (i := 19) (N := some 91) #[T,T,T,T,T,T,T,T,T,T,T,T,T,T,T,T,T,T,T,T,T,T,T,T,T,T,F,F,F] rfl rfl HT_ HW_ hHeld (by rintro w' ⟨s0, s1, s2, s3, s4, s5, s6, s7⟩; go_simp; with_reducible rfl) ?_; refine tV (i := 26) (N := some 98) #[T,T,T,T,T,T,T,T,T,T,T,T,T,T,T,T,T,T,T,T,T,T,T,T,T,T,T,F,F] rfl rfl HT_ HW_ hHeld (by rintro w' ⟨s0, s1, s2, s3, s4, s5, s6, s7⟩; go_simp; with_reducible rfl) ?_; refine one_ (i := 27) (N := some 99) #[T,T,T,T,T,T,T,T,T,T,T,T,T,T,T,T,T,T,T,T,T,T,T,T,T,T,T,T,F] rfl rfl (one_of HT_.out (by kernel_rfl)) (by decide) (fun K hK => ?_); refine goes_ Try.func139 (by kernel_rfl) rfl #[.agg #[.int .i64 ((rd_T129 l0 x62_4).f0), .int .i64 ((rd_T129 l0 x62_4).f1)], .agg #[.int .i64 ((rd_T129 l0 (ji37)).f0), .int .i64 ((rd_T129 l0 (ji37)).f1)], .agg #[.int .i64 ((rd_T129 l0 x8_5).f0), .int .i64 ((rd_T129 l0 x8_5).f1)], .agg #[.int .i64 ((rd_T129 l0 (ji42)).f0), .int .i64 ((rd_T129 l0 (ji42)).f1)]] (by rfl) rfl rfl (by (try simp only [List.map_toArray, List.map_cons, List.map_nil]); first | done | (simp only [hji37, hji42]; rfl) | rfl | (simp only [List.length_drop, List.length_take]; rfl)) ?_; (with_reducible refine (impl_edgesMeet.calls k5 ((rd_T129 l0 x62_4).f0) ((rd_T129 l0 x62_4).f1) ((rd_T129 l0 (ji37)).f0) ((rd_T129 l0 (ji37)).f1) ((rd_T129 l0 x8_5).f0) ((rd_T129 l0 x8_5).f1) ((rd_T129 l0 (ji42)).f0) ((rd_T129 l0 (ji42)).f1) t313 _ A45.out).mono ?_); rintro e w47 ⟨rfl, hb⟩; refine ⟨_, rfl, ?_⟩; replace HB := pS HB hb; (try clear hb); refine hK.out _ _ ⟨((HB.out.cell (World.block_lt_of_cell? w _ hw309_0)).trans hw309_0), ((HB.out.cell (World.block_lt_of_cell? w _ hw309_1)).trans hw309_1), ((HB.out.cell (World.block_lt_of_cell? w _ hw310_0)).trans hw310_0), ((HB.out.cell (World.block_lt_of_cell? w _ hw310_1)).trans hw310_1), ((HB.out.cell (World.block_lt_of_cell? w _ hw311_0)).trans hw311_0), ((HB.out.cell (World.block_lt_of_cell? w _ hw311_1)).trans hw311_1), ((HB.out.cell (World.block_lt_of_cell? w _ hw312_0)).trans hw312_0), ((HB.out.cell (World.block_lt_of_cell? w _ hw312_1)).trans hw312_1)⟩ (fun hHeld => ?_); clear hK K; refine norm_ (a' := ?_) ?_ ?_; rotate_left
                          ·(show Act.put _ (some 99) _ = _); simp only [NS]; rfl
                          refine pV (i := 28) (N := some 100) #[T,T,T,T,T,T,T,T,T,T,T,T,T,T,T,T,T,T,T,T,T,T,T,T,T,T,T,T,T] HT_ ?_; refine done_ (done_of HT_.out (by kernel_rfl)) ?_; (go_upto_if 100 with (fail)); have H := HF_.out; clear HF_; by_cases c48 : t313 = true
                          ·subst c48; (have H1 : (some false) = some r := by rw [if_pos rfl] at H; exact H); clear H; have H := H1; clear H1; obtain rfl := Option.some.inj H; simp only [Option.some.injEq, Prod.mk.injEq] at H; obtain ⟨rfl⟩ := H; (go_wp2); (go_ret); exact ⟨by first | rfl | (simp [errW_none, errW_some] <;> rfl) | (simp only [← hji37, ← hji42]; first | rfl | (simp [errW_none, errW_some] <;> rfl)) | (simp [*, errW_none, errW_some] <;> rfl), pR HB⟩
                          ·replace c48 := Bool.eq_false_iff.mpr c48; subst c48; (have H1 : (impl_ValidSail.l3 k5 l0 (l0.length : Int) x62_4 (wrap64 (x8_5 + 1)) (l0.length : Int) x62_4) = some r := by rw [if_neg (show ¬ (false = true) by decide)] at H; exact H); clear H; have H := H1; clear H1; have H' := Aside0.mk H; clear H; (go_wp2); go_roundg k5
                           case measure => have := HJ1.out; have := HK2.out; have := HK3.out; have := HK4.out; have := HK5.out; omega
                           case rel => exact ⟨(wrap64 (x8_5 + 1)), zF, H', ⟨by have := HJ1.out; have := HK2.out; have := HK3.out; have := HK4.out; have := HK5.out; omega⟩, ⟨pR HB⟩⟩
                         ·rw [if_neg c44] at H; exact absurd H (by simp)
                        ·rw [if_neg c43] at H; exact absurd H (by simp)
                       ·rw [if_neg c41] at H; exact absurd H (by simp)
                      ·rw [if_neg c40] at H; exact absurd H (by simp)
                     ·rw [if_neg c39] at H; exact absurd H (by simp)
                    ·rw [if_neg c38] at H; exact absurd H (by simp)
                   ·rw [if_neg c36] at H; exact absurd H (by simp)
                  ·rw [if_neg c35] at H; exact absurd H (by simp)
               ·rw [if_neg c31] at H; have c31b0 : decide (x8_5 < (l0.length : Int)) = false := decide_eq_false c31; clear c31; have H' := Aside0.mk H; clear H; (go_wp2); go_roundg k5
                case measure => have := HJ1.out; have := HK2.out; have := HK3.out; have := HK4.out; have := HK5.out; omega
                case rel => exact ⟨(wrap64 (x62_4 + 1)), zF, H', ⟨by have := HJ1.out; have := HK2.out; have := HK3.out; have := HK4.out; have := HK5.out; omega⟩, ⟨pR HB⟩⟩
            ·rw [if_neg c30] at H; have c30b0 : decide (x62_4 < (l0.length : Int)) = false := decide_eq_false c30; clear c30; replace H := Option.bind_eq_some_iff.mp H; obtain ⟨t308, A490, H⟩ := H; (try dsimp only at H); have A49 := Aside0.mk A490; clear A490; obtain rfl := Option.some.inj H; simp only [Option.some.injEq, Prod.mk.injEq] at H; obtain ⟨rfl⟩ := H; (go_wp2_with (first | ((with_reducible refine gate_callee (f := 140) rfl ?_); refine goesL_ (some 103) rfl rfl Try.func140 (by kernel_rfl) rfl #[.slice A0 l0.length c0] rfl zM ?_; (with_reducible refine (impl_twiceSail.calls k4 _ _ l0 t308 _ ?side1 ?side2 A49.out).mono ?_); (case side1 => (refine zC ?_; exact (Kd.C_below HR0.out HB.out))); (case side2 => exact HC0.out); rintro e w50 ⟨rfl, hb⟩; refine ⟨_, rfl, ?_⟩; replace HB := pS HB hb; (try clear hb)))); (go_ret); exact ⟨zE, pR HB⟩

end Go.Proofs.Ytlphfgbeeckjnaa.PFnExactOverlapsOf
