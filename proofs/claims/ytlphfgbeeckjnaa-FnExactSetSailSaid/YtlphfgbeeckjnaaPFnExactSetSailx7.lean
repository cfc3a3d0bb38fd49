-- Written by a program of this session (wip/tools/pp.sh).
import Derived.Test.YtlphfgbeeckjnaaPFnExactSetSailx0
import Derived.Test.YtlphfgbeeckjnaaPFnExactSetSailx4
import Derived.Test.YtlphfgbeeckjnaaPFnExactSetSailx6
namespace Go.Proofs.Ytlphfgbeeckjnaa.PFnExactSetSail
open Go.RowKit Go.Proofs.YtlphfgbeeckjnaaW.PrintWords Go.Proofs.YtlphfgbeeckjnaaW.PrintLast Go.Proofs.YtlphfgbeeckjnaaW.PrintMore Go.Proofs.Ytlphfgbeeckjnaa.Small
open Bool renaming true → T, false → F
attribute [local go_sem] max2_int min2_int max_two min_two max_three min_three max_four min_four   -- for this text's walks alone
set_option linter.unusedVariables false
set_option linter.unusedSimpArgs false

/-! ### spec_l13Ok: function 97 -/
mutual
def spec_l13Ok.l0 : Nat → List (S129) → Int → Int → Option (Bool)
 | 0, _, _, _ => none
 | k + 1, x0, x3, x4 => if x4 < x3 then (if 0 ≤ x4 then (if x4 < (x0.length : Int) then ((spec_l00In.f ((rd_T129 x0 x4).f0) 0 2000).bind fun t200 => (if t200 = true then ((spec_l00In.f ((rd_T129 x0 x4).f1) 0 2000).bind fun t202 => (if t202 = true then (spec_l13Ok.l0 k x0 x3 (wrap64 (x4 + 1))) else (some false))) else (some false))) else (none)) else (none)) else (spec_l13Ok.l1 k x0 x3 0)
def spec_l13Ok.l1 : Nat → List (S129) → Int → Int → Option (Bool)
 | 0, _, _, _ => none
 | k + 1, x0, x3, x5 => if x5 < x3 then (if 0 ≤ x5 then (if x5 < (x0.length : Int) then (if x3 = 0 then (none) else (if 0 ≤ (Int.tmod (wrap64 (x5 + 1)) x3) then (if (Int.tmod (wrap64 (x5 + 1)) x3) < (x0.length : Int) then (if 0 ≤ (Int.tmod (wrap64 (x5 + 2)) x3) then (if (Int.tmod (wrap64 (x5 + 2)) x3) < (x0.length : Int) then ((spec_l13Cross.f ((rd_T129 x0 x5).f0) ((rd_T129 x0 x5).f1) ((rd_T129 x0 (Int.tmod (wrap64 (x5 + 1)) x3)).f0) ((rd_T129 x0 (Int.tmod (wrap64 (x5 + 1)) x3)).f1) ((rd_T129 x0 (Int.tmod (wrap64 (x5 + 2)) x3)).f0) ((rd_T129 x0 (Int.tmod (wrap64 (x5 + 2)) x3)).f1)).bind fun t209 => (if t209 = 0 then (some false) else (spec_l13Ok.l2 k x0 x3 x5 (wrap64 (x5 + 2)) ((rd_T129 x0 x5).f0) ((rd_T129 x0 x5).f1) ((rd_T129 x0 (Int.tmod (wrap64 (x5 + 1)) x3)).f0) ((rd_T129 x0 (Int.tmod (wrap64 (x5 + 1)) x3)).f1)))) else (none)) else (none)) else (none)) else (none))) else (none)) else (none)) else ((spec_l13Twice.f k x0).bind fun t203 => (some (decide (t203 > 0))))
def spec_l13Ok.l2 : Nat → List (S129) → Int → Int → Int → Int → Int → Int → Int → Option (Bool)
 | 0, _, _, _, _, _, _, _, _ => none
 | k + 1, x0, x3, x5, x8, x206000, x206001, x208000, x208001 => if x8 < x3 then (if x5 > 0 then (if 0 ≤ x8 then (if x8 < (x0.length : Int) then (if x3 = 0 then (none) else (if 0 ≤ (Int.tmod (wrap64 (x8 + 1)) x3) then (if (Int.tmod (wrap64 (x8 + 1)) x3) < (x0.length : Int) then ((spec_l13Meet.f k x206000 x206001 x208000 x208001 ((rd_T129 x0 x8).f0) ((rd_T129 x0 x8).f1) ((rd_T129 x0 (Int.tmod (wrap64 (x8 + 1)) x3)).f0) ((rd_T129 x0 (Int.tmod (wrap64 (x8 + 1)) x3)).f1)).bind fun t212 => (if t212 = true then (some false) else (spec_l13Ok.l2 k x0 x3 x5 (wrap64 (x8 + 1)) x206000 x206001 x208000 x208001))) else (none)) else (none))) else (none)) else (none)) else (if x8 < (wrap64 (x3 - 1)) then (if 0 ≤ x8 then (if x8 < (x0.length : Int) then (if x3 = 0 then (none) else (if 0 ≤ (Int.tmod (wrap64 (x8 + 1)) x3) then (if (Int.tmod (wrap64 (x8 + 1)) x3) < (x0.length : Int) then ((spec_l13Meet.f k x206000 x206001 x208000 x208001 ((rd_T129 x0 x8).f0) ((rd_T129 x0 x8).f1) ((rd_T129 x0 (Int.tmod (wrap64 (x8 + 1)) x3)).f0) ((rd_T129 x0 (Int.tmod (wrap64 (x8 + 1)) x3)).f1)).bind fun t215 => (if t215 = true then (some false) else (spec_l13Ok.l2 k x0 x3 x5 (wrap64 (x8 + 1)) x206000 x206001 x208000 x208001))) else (none)) else (none))) else (none)) else (none)) else (spec_l13Ok.l2 k x0 x3 x5 (wrap64 (x8 + 1)) x206000 x206001 x208000 x208001))) else (spec_l13Ok.l1 k x0 x3 (wrap64 (x5 + 1)))
end
def spec_l13Ok.f (k : Nat) (l0 : List (S129)) : Option (Bool) := (spec_l00In.f (l0.length : Int) 3 8).bind fun t198 => (if t198 = true then (spec_l13Ok.l0 k l0 (l0.length : Int) 0) else (some false))
theorem spec_l13Ok.mono_l : ∀ k, (∀ y0 y1 y2, LeO (spec_l13Ok.l0 k y0 y1 y2) (spec_l13Ok.l0 (k + 1) y0 y1 y2)) ∧ (∀ y0 y1 y2, LeO (spec_l13Ok.l1 k y0 y1 y2) (spec_l13Ok.l1 (k + 1) y0 y1 y2)) ∧ (∀ y0 y1 y2 y3 y4 y5 y6 y7, LeO (spec_l13Ok.l2 k y0 y1 y2 y3 y4 y5 y6 y7) (spec_l13Ok.l2 (k + 1) y0 y1 y2 y3 y4 y5 y6 y7))
 | 0 => ⟨fun _ _ _ r h => by simp [spec_l13Ok.l0] at h, fun _ _ _ r h => by simp [spec_l13Ok.l1] at h, fun _ _ _ _ _ _ _ _ r h => by simp [spec_l13Ok.l2] at h⟩
 | k + 1 => by
  obtain ⟨ih0, ih1, ih2⟩ := spec_l13Ok.mono_l k
  refine ⟨?_, ?_, ?_⟩
  ·intro y0 y1 y2
   unfold spec_l13Ok.l0
   repeat' first
   | (with_reducible exact ih0 _ _ _)
   | (with_reducible exact ih1 _ _ _)
   | (with_reducible exact ih2 _ _ _ _ _ _ _ _)
   | (with_reducible exact spec_l13Meet.mono _ _ _ _ _ _ _ _ _)
   | (with_reducible exact spec_l13Twice.mono _ _)
   | (with_reducible exact LeO.refl _)
   | (with_reducible exact LeO.none _)
   | (with_reducible refine LeO.ite ?_ ?_)
   | (with_reducible refine LeO.bind ?_ (fun _ => ?_))
   | exact ih0 _ _ _
   | exact ih1 _ _ _
   | exact ih2 _ _ _ _ _ _ _ _
   | exact spec_l13Meet.mono _ _ _ _ _ _ _ _ _
   | exact spec_l13Twice.mono _ _
   | exact LeO.none _
   | refine LeO.ite ?_ ?_
   | refine LeO.bind ?_ (fun _ => ?_)
  ·intro y0 y1 y2
   unfold spec_l13Ok.l1
   repeat' first
   | (with_reducible exact ih0 _ _ _)
   | (with_reducible exact ih1 _ _ _)
   | (with_reducible exact ih2 _ _ _ _ _ _ _ _)
   | (with_reducible exact spec_l13Meet.mono _ _ _ _ _ _ _ _ _)
   | (with_reducible exact spec_l13Twice.mono _ _)
   | (with_reducible exact LeO.refl _)
   | (with_reducible exact LeO.none _)
   | (with_reducible refine LeO.ite ?_ ?_)
   | (with_reducible refine LeO.bind ?_ (fun _ => ?_))
   | exact ih0 _ _ _
   | exact ih1 _ _ _
   | exact ih2 _ _ _ _ _ _ _ _
   | exact spec_l13Meet.mono _ _ _ _ _ _ _ _ _
   | exact spec_l13Twice.mono _ _
   | exact LeO.none _
   | refine LeO.ite ?_ ?_
   | refine LeO.bind ?_ (fun _ => ?_)
  ·intro y0 y1 y2 y3 y4 y5 y6 y7
   unfold spec_l13Ok.l2
   repeat' first
   | (with_reducible exact ih0 _ _ _)
   | (with_reducible exact ih1 _ _ _)
   | (with_reducible exact ih2 _ _ _ _ _ _ _ _)
   | (with_reducible exact spec_l13Meet.mono _ _ _ _ _ _ _ _ _)
   | (with_reducible exact spec_l13Twice.mono _ _)
   | (with_reducible exact LeO.refl _)
   | (with_reducible exact LeO.none _)
   | (with_reducible refine LeO.ite ?_ ?_)
   | (with_reducible refine LeO.bind ?_ (fun _ => ?_))
   | exact ih0 _ _ _
   | exact ih1 _ _ _
   | exact ih2 _ _ _ _ _ _ _ _
   | exact spec_l13Meet.mono _ _ _ _ _ _ _ _ _
   | exact spec_l13Twice.mono _ _
   | exact LeO.none _
   | refine LeO.ite ?_ ?_
   | refine LeO.bind ?_ (fun _ => ?_)
theorem spec_l13Ok.mono : ∀ a0 k, LeO (spec_l13Ok.f k a0) (spec_l13Ok.f (k + 1) a0) := by
 intro a0 k; obtain ⟨ih0, ih1, ih2⟩ := spec_l13Ok.mono_l k; unfold spec_l13Ok.f
 repeat' first
   | (with_reducible exact ih0 _ _ _)
   | (with_reducible exact ih1 _ _ _)
   | (with_reducible exact ih2 _ _ _ _ _ _ _ _)
   | (with_reducible exact spec_l13Meet.mono _ _ _ _ _ _ _ _ _)
   | (with_reducible exact spec_l13Twice.mono _ _)
   | (with_reducible exact LeO.refl _)
   | (with_reducible exact LeO.none _)
   | (with_reducible refine LeO.ite ?_ ?_)
   | (with_reducible refine LeO.bind ?_ (fun _ => ?_))
   | exact ih0 _ _ _
   | exact ih1 _ _ _
   | exact ih2 _ _ _ _ _ _ _ _
   | exact spec_l13Meet.mono _ _ _ _ _ _ _ _ _
   | exact spec_l13Twice.mono _ _
   | exact LeO.none _
   | refine LeO.ite ?_ ?_
   | refine LeO.bind ?_ (fun _ => ?_)
def spec_l13Ok.T14 : Bool × List (List Nat × List Nat) := (true, [([], []), ([], []), ([], []), ([], []), ([3], [3]), ([], []), ([4, 5], [4, 5]), ([2, 6], [2, 6]), ([7], [7]), ([0, 1, 8], [0, 1, 8]), ([9], [9])])
def spec_l13Ok.B14 : List Nat := [0, 0, 0, 0, 8, 0, 56, 124, 252, 511, 1023]
theorem spec_l13Ok.tab14 : rtab .any (opsOf Try.f97 14) = spec_l13Ok.T14 := by kernel_rfl
theorem spec_l13Ok.bits14 : waitsOk spec_l13Ok.T14.2 spec_l13Ok.B14 = true := by kernel_rfl
def spec_l13Ok.T19 : Bool × List (List Nat × List Nat) := (true, [([], []), ([0], [0]), ([1], [1]), ([2], [2]), ([2], [2]), ([4, 2], [2, 4]), ([3, 5, 2], [2, 3, 5]), ([2, 6], [2, 6]), ([7, 2], [7]), ([8], [8]), ([8], [8]), ([8], [8]), ([8], [8]), ([11, 12, 8], [8, 11, 12]), ([13, 8], [8, 13]), ([8], [8]), ([8], [8]), ([16, 8], [8, 16]), ([8], [8]), ([17, 18, 8], [8, 17, 18]), ([15, 19, 8], [8, 15, 19]), ([20, 8], [8, 20]), ([9, 10, 14, 21, 8, 8], [8, 9, 10, 14, 21]), ([8, 22], [8, 22])])
def spec_l13Ok.B19 : List Nat := [0, 1, 3, 7, 7, 23, 63, 127, 255, 511, 511, 511, 511, 6655, 14847, 511, 511, 66047, 511, 459263, 1016319, 2064895, 4194303, 8388607]
theorem spec_l13Ok.tab19 : rtab .any (opsOf Try.f97 19) = spec_l13Ok.T19 := by kernel_rfl
theorem spec_l13Ok.bits19 : waitsOk spec_l13Ok.T19.2 spec_l13Ok.B19 = true := by kernel_rfl
set_option maxHeartbeats 8000000 in
set_option maxRecDepth 100000 in
theorem spec_l13Ok.calls (k : Nat) (A0 : Option Addr) (c0 : Nat) (l0 : List (S129)) (r : Bool) (w : World) (hr0 : Kd.C k129 w A0 l0.length l0) (hc0 : l0.length ≤ c0) (h : spec_l13Ok.f k l0 = some r) :
  Calls Try.prog 97 #[.slice A0 l0.length c0] w fun e w' => e = .returned (.bool r) ∧ Below w.heap.size w w' := by
 have hu129 := Try.underlying129; have HR0 := Aside0.mk hr0; have HC0 := Aside0.mk hc0; clear hr0 hc0; have HB := Aside0.mk (Below.refl w.heap.size w); have H : ((spec_l00In.f (l0.length : Int) 3 8).bind fun t198 => (if t198 = true then (spec_l13Ok.l0 k l0 (l0.length : Int) 0) else (some false))) = some r := h; clear h; replace H := Option.bind_eq_some_iff.mp H; obtain ⟨t198, A20, H⟩ := H; replace H : (if t198 = true then (spec_l13Ok.l0 k l0 (l0.length : Int) 0) else (some false)) = some r := H; have A2 := Aside0.mk A20; clear A20; by_cases c3 : t198 = true
 ·subst c3; (have H1 : (spec_l13Ok.l0 k l0 (l0.length : Int) 0) = some r := by rw [if_pos rfl] at H; exact H); clear H; have H := H1; clear H1; have H' := Aside0.mk H; clear H; (go_enter Try.func97, Try.ntmps97); (go_wp2_with (first | ((with_reducible refine gate_callee (f := 103) rfl ?_); refine goesL_ (some 12) rfl rfl Try.func103 (by kernel_rfl) rfl #[.int .i64 (l0.length : Int), .int .i64 3, .int .i64 8] rfl zM ?_; (with_reducible refine (spec_l00In.calls (l0.length : Int) 3 8 true _ A2.out).mono ?_); rintro e w' ⟨rfl, ⟨nd, rfl⟩⟩; refine ⟨_, rfl, ?_⟩))); go_loopg [4] k (fun kq v4 w' => ∃ (x4_1 : Int), v4 = .int .i64 x4_1 ∧ Aside0 (spec_l13Ok.l0 kq l0 (l0.length : Int) x4_1 = some r) ∧ Aside0 (kq ≤ k) ∧ Aside0 (Below w.heap.size w w'))
  case atStart => exact ⟨(0), zF, H', ⟨Nat.le_refl _⟩, ⟨pR HB⟩⟩
  case round =>
   clear H'; (try clear c1); (try clear p2); (try clear c3); obtain ⟨x4_1, rfl, HA, HK1, HB⟩ := hrel
   cases gk with
   | zero => exact absurd HA.out (by simp [spec_l13Ok.l0])
   | succ k1 =>
    have H := HA.out; clear HA; simp only [spec_l13Ok.l0] at H; by_cases c4 : x4_1 < (l0.length : Int)
    ·rw [if_pos c4] at H; have c4b0 : decide (x4_1 < (l0.length : Int)) = true := decide_eq_true c4; clear c4; by_cases c5 : 0 ≤ x4_1
     ·rw [if_pos c5] at H; have c5b0 : decide (0 ≤ x4_1) = true := decide_eq_true c5; clear c5; by_cases c6 : x4_1 < (l0.length : Int)
      ·rw [if_pos c6] at H; have c6b0 : decide (x4_1 < (l0.length : Int)) = true := decide_eq_true c6; clear c6; replace H := Option.bind_eq_some_iff.mp H; obtain ⟨t200, A70, H⟩ := H; replace H : (if t200 = true then ((spec_l00In.f ((rd_T129 l0 x4_1).f1) 0 2000).bind fun t202 => (if t202 = true then (spec_l13Ok.l0 k1 l0 (l0.length : Int) (wrap64 (x4_1 + 1))) else (some false))) else (some false)) = some r := H; have A7 := Aside0.mk A70; clear A70; by_cases c8 : t200 = true
       ·subst c8; (have H1 : ((spec_l00In.f ((rd_T129 l0 x4_1).f1) 0 2000).bind fun t202 => (if t202 = true then (spec_l13Ok.l0 k1 l0 (l0.length : Int) (wrap64 (x4_1 + 1))) else (some false))) = some r := by rw [if_pos rfl] at H; exact H); clear H; have H := H1; clear H1; replace H := Option.bind_eq_some_iff.mp H; obtain ⟨t202, A90, H⟩ := H; replace H : (if t202 = true then (spec_l13Ok.l0 k1 l0 (l0.length : Int) (wrap64 (x4_1 + 1))) else (some false)) = some r := H; have A9 := Aside0.mk A90; clear A90; have HF_ := Aside0.mk H; clear H; have p199 : 0 ≤ (x4_1 : Int) := of_decide_eq_true (by first | (with_reducible assumption) | assumption); have q199 : x4_1 < (l0.length : Int) := of_decide_eq_true (by first | (with_reducible assumption) | assumption); obtain ⟨ad199, e199, hx199_0, hx199_1⟩ := at_T129 HR0.out x4_1 p199 q199
        cases e199
        replace hx199_0 := bC HB hx199_0; replace hx199_1 := bC HB hx199_1; replace p199 := eq_true p199; replace q199 := eq_true q199; (go_upto_if 34 with (first | ((with_reducible refine gate_callee (f := 103) rfl ?_); refine goesL_ (some 24) rfl rfl Try.func103 (by kernel_rfl) rfl #[.int .i64 ((rd_T129 l0 x4_1).f0), .int .i64 0, .int .i64 2000] rfl zM ?_; (with_reducible refine (spec_l00In.calls ((rd_T129 l0 x4_1).f0) 0 2000 true _ A7.out).mono ?_); rintro e w' ⟨rfl, ⟨nd, rfl⟩⟩; refine ⟨_, rfl, ?_⟩; have p201 : 0 ≤ (x4_1 : Int) := of_decide_eq_true (by first | (with_reducible assumption) | assumption); have q201 : x4_1 < (l0.length : Int) := of_decide_eq_true (by first | (with_reducible assumption) | assumption); obtain ⟨ad201, e201, hx201_0, hx201_1⟩ := at_T129 HR0.out x4_1 p201 q201; obtain rfl : ad199 = ad201 := (by injection e201); replace hx201_0 := bC HB hx201_0; replace hx201_1 := bC HB hx201_1; replace p201 := eq_true p201; replace q201 := eq_true q201) | (go_at_call 103; (with_reducible refine (spec_l00In.calls ((rd_T129 l0 x4_1).f1) 0 2000 t202 _ A9.out).mono ?_); rintro e w' ⟨rfl, ⟨nd, rfl⟩⟩))); (try simp only [Act.put, List.setIfInBounds_toArray, List.set_cons_zero, List.set_cons_succ]); have H := HF_.out; clear HF_; by_cases c10 : t202 = true
        ·subst c10; (have H1 : (spec_l13Ok.l0 k1 l0 (l0.length : Int) (wrap64 (x4_1 + 1))) = some r := by rw [if_pos rfl] at H; exact H); clear H; have H := H1; clear H1; have H' := Aside0.mk H; clear H; (go_wp2); go_roundg k1
         case measure => have := HK1.out; omega
         case rel => exact ⟨(wrap64 (x4_1 + 1)), zF, H', ⟨by have := HK1.out; omega⟩, ⟨pR HB⟩⟩
        ·replace c10 := Bool.eq_false_iff.mpr c10; subst c10; (have H1 : (some false) = some r := by rw [if_neg (show ¬ (false = true) by decide)] at H; exact H); clear H; have H := H1; clear H1; obtain rfl := Option.some.inj H; simp only [Option.some.injEq, Prod.mk.injEq] at H; obtain ⟨rfl⟩ := H; (go_wp2); (go_ret); exact ⟨zE, pR HB⟩
       ·replace c8 := Bool.eq_false_iff.mpr c8; subst c8; (have H1 : (some false) = some r := by rw [if_neg (show ¬ (false = true) by decide)] at H; exact H); clear H; have H := H1; clear H1; obtain rfl := Option.some.inj H; simp only [Option.some.injEq, Prod.mk.injEq] at H; obtain ⟨rfl⟩ := H; have p199 : 0 ≤ (x4_1 : Int) := of_decide_eq_true (by first | (with_reducible assumption) | assumption); have q199 : x4_1 < (l0.length : Int) := of_decide_eq_true (by first | (with_reducible assumption) | assumption); obtain ⟨ad199, e199, hx199_0, hx199_1⟩ := at_T129 HR0.out x4_1 p199 q199
        cases e199
        replace hx199_0 := bC HB hx199_0; replace hx199_1 := bC HB hx199_1; replace p199 := eq_true p199; replace q199 := eq_true q199; (go_wp2_with (first | ((with_reducible refine gate_callee (f := 103) rfl ?_); refine goesL_ (some 24) rfl rfl Try.func103 (by kernel_rfl) rfl #[.int .i64 ((rd_T129 l0 x4_1).f0), .int .i64 0, .int .i64 2000] rfl zM ?_; (with_reducible refine (spec_l00In.calls ((rd_T129 l0 x4_1).f0) 0 2000 false _ A7.out).mono ?_); rintro e w' ⟨rfl, ⟨nd, rfl⟩⟩; refine ⟨_, rfl, ?_⟩))); (go_ret); exact ⟨zE, pR HB⟩
      ·rw [if_neg c6] at H; exact absurd H (by simp)
     ·rw [if_neg c5] at H; exact absurd H (by simp)
    ·rw [if_neg c4] at H; have c4b0 : decide (x4_1 < (l0.length : Int)) = false := decide_eq_false c4; clear c4; have H' := Aside0.mk H; clear H; (go_wp2); go_loopg [5] k1 (fun kq v5 w' => ∃ (x5_2 : Int), v5 = .int .i64 x5_2 ∧ Aside0 (spec_l13Ok.l1 kq l0 (l0.length : Int) x5_2 = some r) ∧ Aside0 (kq ≤ k1) ∧ Aside0 (Below w.heap.size w w'))
     case atStart => exact ⟨(0), zF, H', ⟨Nat.le_refl _⟩, ⟨pR HB⟩⟩
     case round =>
      clear H'; (try clear c1); (try clear p1); (try clear q1); (try clear hx1); (try clear p2); (try clear q2); (try clear hx2); (try clear c3); (try clear c4); (try clear c4b0); (try clear c5); (try clear c5b0); (try clear c6); (try clear c6b0); (try clear p6); (try clear c8); (try clear c9); (try clear c10); (try clear hx199_0); (try clear hx199_1); (try clear hx201_0); (try clear hx201_1); (try clear p199); (try clear p2); (try clear p201); (try clear q199); (try clear q201); obtain ⟨x5_2, rfl, HA, HK2, HB⟩ := hrel
      cases gk with
      | zero => exact absurd HA.out (by simp [spec_l13Ok.l1])
      | succ k2 =>
       have H := HA.out; clear HA; simp only [spec_l13Ok.l1] at H; by_cases c11 : x5_2 < (l0.length : Int)
       ·rw [if_pos c11] at H; have c11b0 : decide (x5_2 < (l0.length : Int)) = true := decide_eq_true c11; clear c11; by_cases c12 : 0 ≤ x5_2
        ·rw [if_pos c12] at H; have c12b0 : decide (0 ≤ x5_2) = true := decide_eq_true c12; clear c12; by_cases c13 : x5_2 < (l0.length : Int)
         ·rw [if_pos c13] at H; have c13b0 : decide (x5_2 < (l0.length : Int)) = true := decide_eq_true c13; clear c13; by_cases c14 : (l0.length : Int) = 0
          ·rw [if_pos c14] at H; exact absurd H (by simp)
          ·rw [if_neg c14] at H; have c14b0 : ((l0.length : Int) == 0) = false := beq_eq_false_iff_ne.mpr c14; have c14b1 : ((l0.length : Int) != 0) = true := bne_iff_ne.mpr c14; (have c14b2 : ¬ (l0 = []) := fun h_ => c14 (by rw [h_]; rfl)); obtain ⟨ji15, hji15⟩ : ∃ j_ : Int, (Int.tmod (wrap64 (x5_2 + 1)) (l0.length : Int)) = j_ := ⟨_, rfl⟩; (replace H : (if 0 ≤ (ji15) then (if (ji15) < (l0.length : Int) then (if 0 ≤ (Int.tmod (wrap64 (x5_2 + 2)) (l0.length : Int)) then (if (Int.tmod (wrap64 (x5_2 + 2)) (l0.length : Int)) < (l0.length : Int) then ((spec_l13Cross.f ((rd_T129 l0 x5_2).f0) ((rd_T129 l0 x5_2).f1) ((rd_T129 l0 (ji15)).f0) ((rd_T129 l0 (ji15)).f1) ((rd_T129 l0 (Int.tmod (wrap64 (x5_2 + 2)) (l0.length : Int))).f0) ((rd_T129 l0 (Int.tmod (wrap64 (x5_2 + 2)) (l0.length : Int))).f1)).bind fun t209 => (if t209 = 0 then (some false) else (spec_l13Ok.l2 k2 l0 (l0.length : Int) x5_2 (wrap64 (x5_2 + 2)) ((rd_T129 l0 x5_2).f0) ((rd_T129 l0 x5_2).f1) ((rd_T129 l0 (ji15)).f0) ((rd_T129 l0 (ji15)).f1)))) else (none)) else (none)) else (none)) else (none)) = some r := by first | (rw [hji15] at H; exact H) | (simp only [hji15] at H ⊢; exact H)); by_cases c16 : 0 ≤ (ji15)
           ·rw [if_pos c16] at H; have c16b0 : decide (0 ≤ (ji15)) = true := decide_eq_true c16; clear c16; by_cases c17 : (ji15) < (l0.length : Int)
            ·rw [if_pos c17] at H; have c17b0 : decide ((ji15) < (l0.length : Int)) = true := decide_eq_true c17; clear c17; have HF_ := Aside0.mk H; clear H; have p204 : 0 ≤ (x5_2 : Int) := of_decide_eq_true (by first | (with_reducible assumption) | assumption); have q204 : x5_2 < (l0.length : Int) := of_decide_eq_true (by first | (with_reducible assumption) | assumption); obtain ⟨ad204, e204, hx204_0, hx204_1⟩ := at_T129 HR0.out x5_2 p204 q204
             cases e204
             replace hx204_0 := bC HB hx204_0; replace hx204_1 := bC HB hx204_1; replace p204 := eq_true p204; replace q204 := eq_true q204; (go_upto_region 14 with (first | ((with_reducible refine gate_dst (N := 6) rfl ?_); refine box_event ?hg (N := 6) ?hd (cs := #[.int .i64 0, .int .i64 0]) (t := 129) ?hr ?_; (case hd => rfl); (case hg => rfl); (case hr => first | (go_simp; done) | (go_simp; rfl)); intro gb205 hg w18 hbox hb; have n0_ := pS HB hb; have n1_ := Aside0.mk (hbox); have n2_ := pG HB hg; have n3_ := pG HB hg; clear HB; have HB := n0_; have BK205 := n1_; have GW205 := n2_; have GE205 := n3_; clear n0_ n1_ n2_ n3_; clear hb hbox hg; obtain ⟨hcz19_0, hcz19_1, hfz19_0, hfz19_1⟩ := cz2 BK205; have p206 : 0 ≤ ((ji15) : Int) := of_decide_eq_true (by first | (with_reducible assumption) | assumption); have q206 : (ji15) < (l0.length : Int) := of_decide_eq_true (by first | (with_reducible assumption) | assumption); obtain ⟨ad206, e206, hx206_0, hx206_1⟩ := at_T129 HR0.out (ji15) p206 q206; obtain rfl : ad204 = ad206 := (by injection e206); have hn206_0 : ad204.block ≠ gb205 := Nat.ne_of_lt (Nat.lt_of_lt_of_le (by have := World.block_lt_of_cell? _ _ hx206_0; first | rwa [add_block] at this | exact this) GW205.out); have hn206_1 : ad204.block ≠ gb205 := Nat.ne_of_lt (Nat.lt_of_lt_of_le (by have := World.block_lt_of_cell? _ _ hx206_0; first | rwa [add_block] at this | exact this) GW205.out); replace hx206_0 := bC HB hx206_0; replace hx206_1 := bC HB hx206_1; replace hx206_0 := (cell_far (p := ⟨gb205, 0, none⟩) (by first | (rw [add_block]; exact hn206_0) | (show (Addr.add _ _).block ≠ _; rw [add_block]; exact hn206_0) | exact hn206_0) (.int .i64 ((rd_T129 l0 x5_2).f0))).trans hx206_0; replace hx206_1 := (cell_far (p := ⟨gb205, 0, none⟩) (by first | (rw [add_block]; exact hn206_0) | (show (Addr.add _ _).block ≠ _; rw [add_block]; exact hn206_0) | exact hn206_0) (.int .i64 ((rd_T129 l0 x5_2).f0))).trans hx206_1; replace hx206_0 := (cell_far (p := ⟨gb205, 1, none⟩) (by first | (rw [add_block]; exact hn206_1) | (show (Addr.add _ _).block ≠ _; rw [add_block]; exact hn206_1) | exact hn206_1) (.int .i64 ((rd_T129 l0 x5_2).f1))).trans hx206_0; replace hx206_1 := (cell_far (p := ⟨gb205, 1, none⟩) (by first | (rw [add_block]; exact hn206_1) | (show (Addr.add _ _).block ≠ _; rw [add_block]; exact hn206_1) | exact hn206_1) (.int .i64 ((rd_T129 l0 x5_2).f1))).trans hx206_1; clear hn206_0 hn206_1; replace p206 := eq_true p206; replace q206 := eq_true q206) | ((with_reducible refine gate_dst (N := 7) rfl ?_); refine box_event ?hg (N := 7) ?hd (cs := #[.int .i64 0, .int .i64 0]) (t := 129) ?hr ?_; (case hd => rfl); (case hg => rfl); (case hr => first | (go_simp; done) | (go_simp; rfl)); intro gb207 hg w20 hbox hb; have n0_ := Aside0.mk (blk_below (g := gb205) (o := .cells #[.int .i64 ((rd_T129 l0 x5_2).f0), .int .i64 ((rd_T129 l0 x5_2).f1)] 129 (0, 0)) (by refine zB ?_; refine blk_put (cs := #[.int .i64 ((rd_T129 l0 x5_2).f0), .int .i64 0]) ?_ 1 _ rfl; refine zB ?_; refine blk_put (cs := #[.int .i64 0, .int .i64 0]) ?_ 0 _ rfl; refine zB ?_; exact BK205.out) hb); have n1_ := pS HB hb; have n2_ := Aside0.mk (hbox); have n3_ := pG HB hg; have n4_ := pG HB hg; have n5_ := Aside0.mk ((by rw [hg]; exact Nat.ne_of_lt (blk_lt (g := gb205) (o := .cells #[.int .i64 ((rd_T129 l0 x5_2).f0), .int .i64 ((rd_T129 l0 x5_2).f1)] 129 (0, 0)) (by refine zB ?_; refine blk_put (cs := #[.int .i64 ((rd_T129 l0 x5_2).f0), .int .i64 0]) ?_ 1 _ rfl; refine zB ?_; refine blk_put (cs := #[.int .i64 0, .int .i64 0]) ?_ 0 _ rfl; refine zB ?_; exact BK205.out)) : gb205 ≠ gb207)); have n6_ := Aside0.mk ((by rw [hg]; exact Nat.ne_of_gt (blk_lt (g := gb205) (o := .cells #[.int .i64 ((rd_T129 l0 x5_2).f0), .int .i64 ((rd_T129 l0 x5_2).f1)] 129 (0, 0)) (by refine zB ?_; refine blk_put (cs := #[.int .i64 ((rd_T129 l0 x5_2).f0), .int .i64 0]) ?_ 1 _ rfl; refine zB ?_; refine blk_put (cs := #[.int .i64 0, .int .i64 0]) ?_ 0 _ rfl; refine zB ?_; exact BK205.out)) : gb207 ≠ gb205)); clear BK205 HB; have BK205 := n0_; have HB := n1_; have BK207 := n2_; have GW207 := n3_; have GE207 := n4_; have NB205_207 := n5_; have NB207_205 := n6_; clear n0_ n1_ n2_ n3_ n4_ n5_ n6_; clear hb hbox hg; have hnb21 := NB207_205.out; have hnc21 := NB205_207.out; obtain ⟨hcz22_0, hcz22_1, hfz22_0, hfz22_1⟩ := cz2 BK207))); (try simp only [Act.put, List.setIfInBounds_toArray, List.set_cons_zero, List.set_cons_succ]); have H := HF_.out; clear HF_; obtain ⟨ji23, hji23⟩ : ∃ j_ : Int, (Int.tmod (wrap64 (x5_2 + 2)) (l0.length : Int)) = j_ := ⟨_, rfl⟩; (replace H : (if 0 ≤ (ji23) then (if (ji23) < (l0.length : Int) then ((spec_l13Cross.f ((rd_T129 l0 x5_2).f0) ((rd_T129 l0 x5_2).f1) ((rd_T129 l0 (ji15)).f0) ((rd_T129 l0 (ji15)).f1) ((rd_T129 l0 (ji23)).f0) ((rd_T129 l0 (ji23)).f1)).bind fun t209 => (if t209 = 0 then (some false) else (spec_l13Ok.l2 k2 l0 (l0.length : Int) x5_2 (wrap64 (x5_2 + 2)) ((rd_T129 l0 x5_2).f0) ((rd_T129 l0 x5_2).f1) ((rd_T129 l0 (ji15)).f0) ((rd_T129 l0 (ji15)).f1)))) else (none)) else (none)) = some r := by first | (rw [hji23] at H; exact H) | (simp only [hji23] at H ⊢; exact H)); by_cases c24 : 0 ≤ (ji23)
             ·rw [if_pos c24] at H; have c24b0 : decide (0 ≤ (ji23)) = true := decide_eq_true c24; clear c24; (first | rw [c24b0] | (simp only [i64_w, i32_w]; rw [c24b0]) | skip); by_cases c25 : (ji23) < (l0.length : Int)
              ·rw [if_pos c25] at H; have c25b0 : decide ((ji23) < (l0.length : Int)) = true := decide_eq_true c25; clear c25; replace H := Option.bind_eq_some_iff.mp H; obtain ⟨t209, A260, H⟩ := H; replace H : (if t209 = 0 then (some false) else (spec_l13Ok.l2 k2 l0 (l0.length : Int) x5_2 (wrap64 (x5_2 + 2)) ((rd_T129 l0 x5_2).f0) ((rd_T129 l0 x5_2).f1) ((rd_T129 l0 (ji15)).f0) ((rd_T129 l0 (ji15)).f1))) = some r := H; have A26 := Aside0.mk A260; clear A260; have HF_ := Aside0.mk H; clear H; (try go_wp2); have n0_ : Aside0 (((w20.setCell ⟨gb207, 0, none⟩ (.int .i64 ((rd_T129 l0 (ji15)).f0))).setCell ⟨gb207, 1, none⟩ (.int .i64 ((rd_T129 l0 (ji15)).f1))).heap[gb205]? = some (.cells #[.int .i64 ((rd_T129 l0 x5_2).f0), .int .i64 ((rd_T129 l0 x5_2).f1)] 129 (0, 0))) := ⟨by refine zB ?_; refine blk_far ?_ NB205_207.out _; refine zB ?_; refine blk_far ?_ NB205_207.out _; refine zB ?_; exact BK205.out⟩; have n1_ : Aside0 (((w20.setCell ⟨gb207, 0, none⟩ (.int .i64 ((rd_T129 l0 (ji15)).f0))).setCell ⟨gb207, 1, none⟩ (.int .i64 ((rd_T129 l0 (ji15)).f1))).heap[gb207]? = some (.cells #[.int .i64 ((rd_T129 l0 (ji15)).f0), .int .i64 ((rd_T129 l0 (ji15)).f1)] 129 (0, 0))) := ⟨by refine zB ?_; refine blk_put (cs := #[.int .i64 ((rd_T129 l0 (ji15)).f0), .int .i64 0]) ?_ 1 _ rfl; refine zB ?_; refine blk_put (cs := #[.int .i64 0, .int .i64 0]) ?_ 0 _ rfl; refine zB ?_; exact BK207.out⟩; have n2_ : Aside0 (Below w.heap.size w ((w20.setCell ⟨gb207, 0, none⟩ (.int .i64 ((rd_T129 l0 (ji15)).f0))).setCell ⟨gb207, 1, none⟩ (.int .i64 ((rd_T129 l0 (ji15)).f1)))) := ⟨pR HB⟩; (try clear BK205); (try clear BK207); (try clear HB); generalize ((w20.setCell ⟨gb207, 0, none⟩ (.int .i64 ((rd_T129 l0 (ji15)).f0))).setCell ⟨gb207, 1, none⟩ (.int .i64 ((rd_T129 l0 (ji15)).f1))) = w27 at n0_ n1_ n2_ ⊢; have BK205 := n0_; have BK207 := n1_; have HB := n2_; clear n0_ n1_ n2_; have n0_ := Aside0.mk (blk_drew BK205.out); have n1_ := Aside0.mk (blk_drew BK207.out); have n2_ := Aside0.mk (below_drew1 HB.out); clear BK205; clear BK207; clear HB; have BK205 := n0_; have BK207 := n1_; have HB := n2_; clear n0_ n1_ n2_; have p208 : 0 ≤ ((ji23) : Int) := of_decide_eq_true (by first | (with_reducible assumption) | assumption); have q208 : (ji23) < (l0.length : Int) := of_decide_eq_true (by first | (with_reducible assumption) | assumption); obtain ⟨ad208, e208, hx208_0, hx208_1⟩ := at_T129 HR0.out (ji23) p208 q208; have hw208_1 := hx208_1; have hw208_0 := hx208_0; obtain rfl : ad204 = ad208 := (by injection e208); replace hx208_0 := bC HB hx208_0; replace hx208_1 := bC HB hx208_1; replace p208 := eq_true p208; replace q208 := eq_true q208; refine start_ (n := 11) (S := fun w' => w'.cell? ⟨gb205, 0, none⟩ = some (.int .i64 ((rd_T129 l0 x5_2).f0)) ∧ w'.cell? ⟨gb205, 1, none⟩ = some (.int .i64 ((rd_T129 l0 x5_2).f1)) ∧ w'.cell? ⟨gb207, 0, none⟩ = some (.int .i64 ((rd_T129 l0 (ji15)).f0)) ∧ w'.cell? ⟨gb207, 1, none⟩ = some (.int .i64 ((rd_T129 l0 (ji15)).f1)) ∧ w'.cell? (ad204.add (((ji23)).toNat * 2)) = some (.int .i64 ((rd_T129 l0 (ji23)).f0)) ∧ w'.cell? ⟨(ad204.add (((ji23)).toNat * 2)).block, (ad204.add (((ji23)).toNat * 2)).off + 1, none⟩ = some (.int .i64 ((rd_T129 l0 (ji23)).f1))) (ds := []) #[F,F,F,F,F,F,F,F,F,F,F] (by kernel_rfl) rfl rfl ⟨(blk_cell BK205.out 0).trans rfl, (blk_cell BK205.out 1).trans rfl, (blk_cell BK207.out 0).trans rfl, (blk_cell BK207.out 1).trans rfl, ((HB.out.cell (World.block_lt_of_cell? w _ hw208_0)).trans hw208_0), ((HB.out.cell (World.block_lt_of_cell? w _ hw208_1)).trans hw208_1)⟩ (fun hHeld => ?_); refine with_tabW spec_l13Ok.tab14 spec_l13Ok.bits14 (fun HT_ HW_ => ?_); generalize w27.drew = w28 at BK205 BK207 HB hx208_0 hx208_1 hHeld ⊢; refine pure_ (i := 2) (N := some 53) (v := ?_) (a' := ?_) #[F,F,T,F,F,F,F,F,F,F,F] rfl rfl (any_of HT_.out (by kernel_rfl)) (fun _ _ _ h => h) (Or.inl ⟨by rfl, ?_⟩) ?_ ?_; rotate_left
               ·intro w'; (go_simp); with_reducible rfl
               rotate_left
               ·simp only [NS]; rfl
               refine pure_ (i := 3) (N := some 54) (v := ?_) (a' := ?_) #[F,F,T,T,F,F,F,F,F,F,F] rfl rfl (any_of HT_.out (by kernel_rfl)) (fun _ _ _ h => h) (Or.inl ⟨by rfl, ?_⟩) ?_ ?_; rotate_left
               ·intro w'; (go_simp); with_reducible rfl
               rotate_left
               ·simp only [NS]; rfl
               refine pure_ (i := 4) (N := some 55) (v := ?_) (a' := ?_) #[F,F,T,T,T,F,F,F,F,F,F] rfl rfl (any_of HT_.out (by kernel_rfl)) (fun _ _ _ h => h) (Or.inl ⟨by rfl, ?_⟩) ?_ ?_; rotate_left
               ·intro w'; (go_simp); with_reducible rfl
               rotate_left
               ·simp only [NS]; rfl
               refine pure_ (i := 5) (N := some 56) (v := ?_) (a' := ?_) #[F,F,T,T,T,T,F,F,F,F,F] rfl rfl (any_of HT_.out (by kernel_rfl)) (fun _ _ _ h => h) (Or.inl ⟨by rfl, ?_⟩) ?_ ?_; rotate_left
               ·intro w'; (go_simp); with_reducible rfl
               rotate_left
               ·simp only [NS]; rfl
               refine pure_ (i := 6) (N := some 57) (v := ?_) (a' := ?_) #[F,F,T,T,T,T,T,F,F,F,F] rfl rfl (any_of HT_.out (by kernel_rfl)) (fun _ _ _ h => h) (Or.inl ⟨by rfl, ?_⟩) ?_ ?_; rotate_left
               ·intro w'; (go_simp); with_reducible rfl
               rotate_left
               ·simp only [NS]; rfl
               refine pure_ (i := 7) (N := some 58) (v := ?_) (a' := ?_) #[F,F,T,T,T,T,T,T,F,F,F] rfl rfl (any_of HT_.out (by kernel_rfl)) (fun _ _ _ h => h) (Or.inl ⟨by rfl, ?_⟩) ?_ ?_; rotate_left
               ·intro w'; (go_simp); with_reducible rfl
               rotate_left
               ·simp only [NS]; rfl
               refine take_ (i := 0) (N := some 51) (v := ?_) (a' := ?_) #[T,F,T,T,T,T,T,T,F,F,F] rfl rfl (take_ofW HT_.out HW_.out (by kernel_rfl)) (fun _ _ _ h => h) (Or.inl ⟨by rfl, ?_⟩) hHeld ?_ ?_; rotate_left
               ·rintro w' ⟨s0, s1, s2, s3, s4, s5⟩; (go_simp); with_reducible rfl
               rotate_left
               ·simp only [NS]; rfl
               refine take_ (i := 1) (N := some 52) (v := ?_) (a' := ?_) #[T,T,T,T,T,T,T,T,F,F,F] rfl rfl (take_ofW HT_.out HW_.out (by kernel_rfl)) (fun _ _ _ h => h) (Or.inl ⟨by rfl, ?_⟩) hHeld ?_ ?_; rotate_left
               ·rintro w' ⟨s0, s1, s2, s3, s4, s5⟩; (go_simp); with_reducible rfl
               rotate_left
               ·simp only [NS]; rfl
               refine take_ (i := 8) (N := some 59) (v := ?_) (a' := ?_) #[T,T,T,T,T,T,T,T,T,F,F] rfl rfl (take_ofW HT_.out HW_.out (by kernel_rfl)) (fun _ _ _ h => h) (Or.inl ⟨by rfl, ?_⟩) hHeld ?_ ?_; rotate_left
               ·rintro w' ⟨s0, s1, s2, s3, s4, s5⟩; (go_simp); with_reducible rfl
               rotate_left
               ·simp only [NS]; rfl
               refine one_ (i := 9) (N := some 60) #[T,T,T,T,T,T,T,T,T,T,F] rfl rfl (one_of HT_.out (by kernel_rfl)) (by decide) (fun K hK => ?_); refine goes_ Try.func134 (by kernel_rfl) rfl #[.agg #[.int .i64 ((rd_T129 l0 x5_2).f0), .int .i64 ((rd_T129 l0 x5_2).f1)], .agg #[.int .i64 ((rd_T129 l0 (ji15)).f0), .int .i64 ((rd_T129 l0 (ji15)).f1)], .agg #[.int .i64 ((rd_T129 l0 (ji23)).f0), .int .i64 ((rd_T129 l0 (ji23)).f1)]] (by rfl) rfl rfl (by (try simp only [List.map_toArray, List.map_cons, List.map_nil]); first | done | (simp only [hji15, hji23]; rfl) | rfl | (simp only [List.length_drop, List.length_take]; rfl)) ?_; (with_reducible refine (spec_l13Cross.calls ((rd_T129 l0 x5_2).f0) ((rd_T129 l0 x5_2).f1) ((rd_T129 l0 (ji15)).f0) ((rd_T129 l0 (ji15)).f1) ((rd_T129 l0 (ji23)).f0) ((rd_T129 l0 (ji23)).f1) t209 _ A26.out).mono ?_); rintro e w29 ⟨rfl, hb⟩; refine ⟨_, rfl, ?_⟩; have n0_ := pB BK205 hb; have n1_ := pB BK207 hb; have n2_ := pS HB hb; clear BK205; clear BK207; clear HB; have BK205 := n0_; have BK207 := n1_; have HB := n2_; clear n0_ n1_ n2_; (try clear hb); (try clear hb2); (try clear hk); (try clear hi); refine hK.out _ _ ⟨(blk_cell BK205.out 0).trans rfl, (blk_cell BK205.out 1).trans rfl, (blk_cell BK207.out 0).trans rfl, (blk_cell BK207.out 1).trans rfl, ((HB.out.cell (World.block_lt_of_cell? w _ hw208_0)).trans hw208_0), ((HB.out.cell (World.block_lt_of_cell? w _ hw208_1)).trans hw208_1)⟩ (fun hHeld => ?_); clear hK K; refine norm_ (a' := ?_) ?_ ?_; rotate_left
               ·(show Act.put _ (some 60) _ = _); simp only [NS]; rfl
               refine pure_ (i := 10) (N := some 61) (v := ?_) (a' := ?_) #[T,T,T,T,T,T,T,T,T,T,T] rfl rfl (any_of HT_.out (by kernel_rfl)) (fun _ _ _ h => h) (Or.inl ⟨by rfl, ?_⟩) ?_ ?_; rotate_left
               ·intro w'; (go_simp); with_reducible rfl
               rotate_left
               ·simp only [NS]; rfl
               refine done_ (done_of HT_.out (by kernel_rfl)) ?_; (go_upto_if 61 with (fail)); have H := HF_.out; clear HF_; by_cases c30 : t209 = 0
               ·rw [if_pos c30] at H; have c30b0 : (t209 == 0) = true := beq_iff_eq.mpr c30; have c30b1 : (t209 != 0) = false := bne_eq_false_iff_eq.mpr c30; clear c30; (first | rw [c30b0] | (simp only [i64_w, i32_w]; rw [c30b0]) | skip); obtain rfl := Option.some.inj H; simp only [Option.some.injEq, Prod.mk.injEq] at H; obtain ⟨rfl⟩ := H; (go_wp2); (go_ret); exact ⟨by first | rfl | (simp [errW_none, errW_some] <;> rfl) | (simp only [← hji15, ← hji23]; first | rfl | (simp [errW_none, errW_some] <;> rfl)) | (simp [*, errW_none, errW_some] <;> rfl), pR HB⟩
               ·rw [if_neg c30] at H; have c30b0 : (t209 == 0) = false := beq_eq_false_iff_ne.mpr c30; have c30b1 : (t209 != 0) = true := bne_iff_ne.mpr c30; (first | rw [c30b0] | (simp only [i64_w, i32_w]; rw [c30b0]) | skip); have H' := Aside0.mk H; clear H; (go_wp2); go_loopg [8] k2 (fun kq v8 w' => ∃ (x8_3 : Int), v8 = .int .i64 x8_3 ∧ Aside0 (spec_l13Ok.l2 kq l0 (l0.length : Int) x5_2 x8_3 ((rd_T129 l0 x5_2).f0) ((rd_T129 l0 x5_2).f1) ((rd_T129 l0 (ji15)).f0) ((rd_T129 l0 (ji15)).f1) = some r) ∧ Aside0 (kq ≤ k2) ∧ Aside0 (w'.heap[gb205]? = some (.cells #[.int .i64 ((rd_T129 l0 x5_2).f0), .int .i64 ((rd_T129 l0 x5_2).f1)] 129 (0, 0))) ∧ Aside0 (w'.heap[gb207]? = some (.cells #[.int .i64 ((rd_T129 l0 (ji15)).f0), .int .i64 ((rd_T129 l0 (ji15)).f1)] 129 (0, 0))) ∧ Aside0 (Below w.heap.size w w'))
                case atStart => exact ⟨(wrap64 (x5_2 + 2)), zF, H', ⟨Nat.le_refl _⟩, ⟨by refine zB ?_; exact BK205.out⟩, ⟨by refine zB ?_; exact BK207.out⟩, ⟨pR HB⟩⟩
                case round =>
                 clear H'; (try clear c1); (try clear p1); (try clear q1); (try clear hx1); (try clear c2); (try clear p2); (try clear q2); (try clear hx2); (try clear c3); (try clear c4); (try clear c4b0); (try clear c5); (try clear c5b0); (try clear c6); (try clear c6b0); (try clear p6); (try clear c8); (try clear c9); (try clear c10); (try clear c11); (try clear c11b0); (try clear c12); (try clear c12b0); (try clear c13); (try clear c13b0); (try clear c14); (try clear c14b0); (try clear c14b1); (try clear c14b2); (try clear c16); (try clear c16b0); (try clear c17); (try clear c17b0); (try clear p19); (try clear q19); (try clear hx19); (try clear p20); (try clear q20); (try clear hx20); (try clear c21); (try clear c24); (try clear c24b0); (try clear c25); (try clear c25b0); (try clear c30); (try clear c30b0); (try clear c30b1); (try clear hcz19_0); (try clear hcz19_1); (try clear hcz22_0); (try clear hcz22_1); (try clear hfz19_0); (try clear hfz19_1); (try clear hfz22_0); (try clear hfz22_1); (try clear hx199_0); (try clear hx199_1); (try clear hx201_0); (try clear hx201_1); (try clear hx204_0); (try clear hx204_1); (try clear hx206_0); (try clear hx206_1); (try clear hx208_0); (try clear hx208_1); (try clear p1); (try clear p199); (try clear p2); (try clear p201); (try clear p204); (try clear p206); (try clear p208); (try clear p6); (try clear q1); (try clear q199); (try clear q2); (try clear q201); (try clear q204); (try clear q206); (try clear q208); obtain ⟨x8_3, rfl, HA, HK3, BK205, BK207, HB⟩ := hrel
                 cases gk with
                 | zero => exact absurd HA.out (by simp [spec_l13Ok.l2])
                 | succ k3 =>
                  have H := HA.out; clear HA; simp only [spec_l13Ok.l2] at H; by_cases c31 : x8_3 < (l0.length : Int)
                  ·rw [if_pos c31] at H; have c31b0 : decide (x8_3 < (l0.length : Int)) = true := decide_eq_true c31; clear c31; by_cases c32 : x5_2 > 0
                   ·rw [if_pos c32] at H; have c32b0 : decide (0 < x5_2) = true := decide_eq_true c32; clear c32; by_cases c33 : 0 ≤ x8_3
                    ·rw [if_pos c33] at H; have c33b0 : decide (0 ≤ x8_3) = true := decide_eq_true c33; clear c33; by_cases c34 : x8_3 < (l0.length : Int)
                     ·rw [if_pos c34] at H; have c34b0 : decide (x8_3 < (l0.length : Int)) = true := decide_eq_true c34; clear c34; by_cases c35 : (l0.length : Int) = 0
                      ·rw [if_pos c35] at H; exact absurd H (by simp)
                      ·rw [if_neg c35] at H; have c35b0 : ((l0.length : Int) == 0) = false := beq_eq_false_iff_ne.mpr c35; have c35b1 : ((l0.length : Int) != 0) = true := bne_iff_ne.mpr c35; (have c35b2 : ¬ (l0 = []) := fun h_ => c35 (by rw [h_]; rfl)); obtain ⟨ji36, hji36⟩ : ∃ j_ : Int, (Int.tmod (wrap64 (x8_3 + 1)) (l0.length : Int)) = j_ := ⟨_, rfl⟩; (replace H : (if 0 ≤ (ji36) then (if (ji36) < (l0.length : Int) then ((spec_l13Meet.f k3 ((rd_T129 l0 x5_2).f0) ((rd_T129 l0 x5_2).f1) ((rd_T129 l0 (ji15)).f0) ((rd_T129 l0 (ji15)).f1) ((rd_T129 l0 x8_3).f0) ((rd_T129 l0 x8_3).f1) ((rd_T129 l0 (ji36)).f0) ((rd_T129 l0 (ji36)).f1)).bind fun t212 => (if t212 = true then (some false) else (spec_l13Ok.l2 k3 l0 (l0.length : Int) x5_2 (wrap64 (x8_3 + 1)) ((rd_T129 l0 x5_2).f0) ((rd_T129 l0 x5_2).f1) ((rd_T129 l0 (ji15)).f0) ((rd_T129 l0 (ji15)).f1)))) else (none)) else (none)) = some r := by first | (rw [hji36] at H; exact H) | (simp only [hji36] at H ⊢; exact H)); by_cases c37 : 0 ≤ (ji36)
                       ·rw [if_pos c37] at H; have c37b0 : decide (0 ≤ (ji36)) = true := decide_eq_true c37; clear c37; by_cases c38 : (ji36) < (l0.length : Int)
                        ·rw [if_pos c38] at H; have c38b0 : decide ((ji36) < (l0.length : Int)) = true := decide_eq_true c38; clear c38; replace H := Option.bind_eq_some_iff.mp H; obtain ⟨t212, A390, H⟩ := H; replace H : (if t212 = true then (some false) else (spec_l13Ok.l2 k3 l0 (l0.length : Int) x5_2 (wrap64 (x8_3 + 1)) ((rd_T129 l0 x5_2).f0) ((rd_T129 l0 x5_2).f1) ((rd_T129 l0 (ji15)).f0) ((rd_T129 l0 (ji15)).f1))) = some r := H; have A39 := Aside0.mk A390; clear A390; have HF_ := Aside0.mk H; clear H; (try go_wp2); have n0_ := Aside0.mk (blk_drew BK205.out); have n1_ := Aside0.mk (blk_drew BK207.out); have n2_ := Aside0.mk (below_drew1 HB.out); clear BK205; clear BK207; clear HB; have BK205 := n0_; have BK207 := n1_; have HB := n2_; clear n0_ n1_ n2_; have p210 : 0 ≤ (x8_3 : Int) := of_decide_eq_true (by first | (with_reducible assumption) | assumption); have q210 : x8_3 < (l0.length : Int) := of_decide_eq_true (by first | (with_reducible assumption) | assumption); obtain ⟨ad210, e210, hx210_0, hx210_1⟩ := at_T129 HR0.out x8_3 p210 q210; have hw210_1 := hx210_1; have hw210_0 := hx210_0; obtain rfl : ad204 = ad210 := (by injection e210); replace hx210_0 := bC HB hx210_0; replace hx210_1 := bC HB hx210_1; replace p210 := eq_true p210; replace q210 := eq_true q210; have p211 : 0 ≤ ((ji36) : Int) := of_decide_eq_true (by first | (with_reducible assumption) | assumption); have q211 : (ji36) < (l0.length : Int) := of_decide_eq_true (by first | (with_reducible assumption) | assumption); obtain ⟨ad211, e211, hx211_0, hx211_1⟩ := at_T129 HR0.out (ji36) p211 q211; have hw211_1 := hx211_1; have hw211_0 := hx211_0; obtain rfl : ad204 = ad211 := (by injection e211); replace hx211_0 := bC HB hx211_0; replace hx211_1 := bC HB hx211_1; replace p211 := eq_true p211; replace q211 := eq_true q211; refine start_ (n := 24) (S := fun w' => w'.cell? ⟨gb205, 0, none⟩ = some (.int .i64 ((rd_T129 l0 x5_2).f0)) ∧ w'.cell? ⟨gb205, 1, none⟩ = some (.int .i64 ((rd_T129 l0 x5_2).f1)) ∧ w'.cell? ⟨gb207, 0, none⟩ = some (.int .i64 ((rd_T129 l0 (ji15)).f0)) ∧ w'.cell? ⟨gb207, 1, none⟩ = some (.int .i64 ((rd_T129 l0 (ji15)).f1)) ∧ w'.cell? (ad204.add ((x8_3).toNat * 2)) = some (.int .i64 ((rd_T129 l0 x8_3).f0)) ∧ w'.cell? ⟨(ad204.add ((x8_3).toNat * 2)).block, (ad204.add ((x8_3).toNat * 2)).off + 1, none⟩ = some (.int .i64 ((rd_T129 l0 x8_3).f1)) ∧ w'.cell? (ad204.add (((ji36)).toNat * 2)) = some (.int .i64 ((rd_T129 l0 (ji36)).f0)) ∧ w'.cell? ⟨(ad204.add (((ji36)).toNat * 2)).block, (ad204.add (((ji36)).toNat * 2)).off + 1, none⟩ = some (.int .i64 ((rd_T129 l0 (ji36)).f1))) (ds := []) #[F,F,F,F,F,F,F,F,F,F,F,F,F,F,F,F,F,F,F,F,F,F,F,F] (by kernel_rfl) rfl rfl ⟨(blk_cell BK205.out 0).trans rfl, (blk_cell BK205.out 1).trans rfl, (blk_cell BK207.out 0).trans rfl, (blk_cell BK207.out 1).trans rfl, ((HB.out.cell (World.block_lt_of_cell? w _ hw210_0)).trans hw210_0), ((HB.out.cell (World.block_lt_of_cell? w _ hw210_1)).trans hw210_1), ((HB.out.cell (World.block_lt_of_cell? w _ hw211_0)).trans hw211_0), ((HB.out.cell (World.block_lt_of_cell? w _ hw211_1)).trans hw211_1)⟩ (fun hHeld => ?_); refine with_tabW spec_l13Ok.tab19 spec_l13Ok.bits19 (fun HT_ HW_ => ?_); generalize wr.drew = w40 at BK205 BK207 HB hx210_0 hx210_1 hx211_0 hx211_1 hHeld ⊢; refine pure_ (i := 0) (N := some 69) (v := ?_) (a' := ?_) #[T,F,F,F,F,F,F,F,F,F,F,F,F,F,F,F,F,F,F,F,F,F,F,F] rfl rfl (any_of HT_.out (by kernel_rfl)) (fun _ _ _ h => h) (Or.inl ⟨by rfl, ?_⟩) ?_ ?_; rotate_left
                         ·intro w'; (go_simp); with_reducible rfl
                         rotate_left
                         ·simp only [NS]; rfl
                         refine pure_ (i := 1) (N := some 70) (v := ?_) (a' := ?_) #[T,T,F,F,F,F,F,F,F,F,F,F,F,F,F,F,F,F,F,F,F,F,F,F] rfl rfl (any_of HT_.out (by kernel_rfl)) (fun _ _ _ h => h) (Or.inl ⟨by rfl, ?_⟩) ?_ ?_; rotate_left
                         ·intro w'; (go_simp); with_reducible rfl
                         rotate_left
                         ·simp only [NS]; rfl
                         refine pure_ (i := 2) (N := some 71) (v := ?_) (a' := ?_) #[T,T,T,F,F,F,F,F,F,F,F,F,F,F,F,F,F,F,F,F,F,F,F,F] rfl rfl (any_of HT_.out (by kernel_rfl)) (fun _ _ _ h => h) (Or.inl ⟨by rfl, ?_⟩) ?_ ?_; rotate_left
                         ·intro w'; (go_simp); with_reducible rfl
                         rotate_left
                         ·simp only [NS]; rfl
                         refine pure_ (i := 3) (N := some 72) (v := undef) (a' := ?_) #[T,T,T,T,F,F,F,F,F,F,F,F,F,F,F,F,F,F,F,F,F,F,F,F] rfl rfl (any_of HT_.out (by kernel_rfl)) (fun _ _ _ h => h) (Or.inr ⟨by rfl, rfl⟩) ?_ ?_; rotate_left
                         ·simp only [NS]; rfl
                         refine pure_ (i := 4) (N := some 73) (v := undef) (a' := ?_) #[T,T,T,T,T,F,F,F,F,F,F,F,F,F,F,F,F,F,F,F,F,F,F,F] rfl rfl (any_of HT_.out (by kernel_rfl)) (fun _ _ _ h => h) (Or.inr ⟨by rfl, rfl⟩) ?_ ?_; rotate_left
                         ·simp only [NS]; rfl
                         refine pure_ (i := 5) (N := some 74) (v := undef) (a' := ?_) #[T,T,T,T,T,T,F,F,F,F,F,F,F,F,F,F,F,F,F,F,F,F,F,F] rfl rfl (any_of HT_.out (by kernel_rfl)) (fun _ _ _ h => h) (Or.inr ⟨by rfl, rfl⟩) ?_ ?_; rotate_left
                         ·simp only [NS]; rfl
                         refine pure_ (i := 6) (N := some 75) (v := undef) (a' := ?_) #[T,T,T,T,T,T,T,F,F,F,F,F,F,F,F,F,F,F,F,F,F,F,F,F] rfl rfl (any_of HT_.out (by kernel_rfl)) (fun _ _ _ h => h) (Or.inr ⟨by rfl, rfl⟩) ?_ ?_; rotate_left
                         ·simp only [NS]; rfl
                         refine pure_ (i := 7) (N := some 76) (v := ?_) (a' := ?_) #[T,T,T,T,T,T,T,T,F,F,F,F,F,F,F,F,F,F,F,F,F,F,F,F] rfl rfl (any_of HT_.out (by kernel_rfl)) (fun _ _ _ h => h) (Or.inl ⟨by rfl, ?_⟩) ?_ ?_; rotate_left
                         ·intro w'; (go_simp); with_reducible rfl
                         rotate_left
                         ·simp only [NS]; rfl
                         refine pure_ (i := 8) (N := some 77) (v := ?_) (a' := ?_) #[T,T,T,T,T,T,T,T,T,F,F,F,F,F,F,F,F,F,F,F,F,F,F,F] rfl rfl (any_of HT_.out (by kernel_rfl)) (fun _ _ _ h => h) (Or.inl ⟨by rfl, ?_⟩) ?_ ?_; rotate_left
                         ·intro w'; (go_simp); with_reducible rfl
                         rotate_left
                         ·simp only [NS]; rfl
                         refine pure_ (i := 11) (N := some 80) (v := ?_) (a' := ?_) #[T,T,T,T,T,T,T,T,T,F,F,T,F,F,F,F,F,F,F,F,F,F,F,F] rfl rfl (any_of HT_.out (by kernel_rfl)) (fun _ _ _ h => h) (Or.inl ⟨by rfl, ?_⟩) ?_ ?_; rotate_left
                         ·intro w'; (go_simp); with_reducible rfl
                         rotate_left
                         ·simp only [NS]; rfl
                         refine pure_ (i := 12) (N := some 81) (v := ?_) (a' := ?_) #[T,T,T,T,T,T,T,T,T,F,F,T,T,F,F,F,F,F,F,F,F,F,F,F] rfl rfl (any_of HT_.out (by kernel_rfl)) (fun _ _ _ h => h) (Or.inl ⟨by rfl, ?_⟩) ?_ ?_; rotate_left
                         ·intro w'; (go_simp); with_reducible rfl
                         rotate_left
                         ·simp only [NS]; rfl
                         refine pure_ (i := 13) (N := some 82) (v := ?_) (a' := ?_) #[T,T,T,T,T,T,T,T,T,F,F,T,T,T,F,F,F,F,F,F,F,F,F,F] rfl rfl (any_of HT_.out (by kernel_rfl)) (fun _ _ _ h => h) (Or.inl ⟨by rfl, ?_⟩) ?_ ?_; rotate_left
                         ·intro w'; (go_simp); with_reducible rfl
                         rotate_left
                         ·simp only [NS]; rfl
                         refine pure_ (i := 15) (N := some 84) (v := ?_) (a' := ?_) #[T,T,T,T,T,T,T,T,T,F,F,T,T,T,F,T,F,F,F,F,F,F,F,F] rfl rfl (any_of HT_.out (by kernel_rfl)) (fun _ _ _ h => h) (Or.inl ⟨by rfl, ?_⟩) ?_ ?_; rotate_left
                         ·intro w'; (go_simp); with_reducible rfl
                         rotate_left
                         ·simp only [NS]; rfl
                         refine pure_ (i := 16) (N := some 85) (v := ?_) (a' := ?_) #[T,T,T,T,T,T,T,T,T,F,F,T,T,T,F,T,T,F,F,F,F,F,F,F] rfl rfl (any_of HT_.out (by kernel_rfl)) (fun _ _ _ h => h) (Or.inl ⟨by rfl, ?_⟩) ?_ ?_; rotate_left
                         ·intro w'; (go_simp); with_reducible rfl
                         rotate_left
                         ·simp only [NS]; rfl
                         refine pure_ (i := 17) (N := some 86) (v := ?_) (a' := ?_) #[T,T,T,T,T,T,T,T,T,F,F,T,T,T,F,T,T,T,F,F,F,F,F,F] rfl rfl (any_of HT_.out (by kernel_rfl)) (fun _ _ _ h => h) (Or.inl ⟨by rfl, ?_⟩) ?_ ?_; rotate_left
                         ·intro w'; (go_simp); with_reducible rfl
                         rotate_left
                         ·simp only [NS]; rfl
                         refine pure_ (i := 18) (N := some 87) (v := ?_) (a' := ?_) #[T,T,T,T,T,T,T,T,T,F,F,T,T,T,F,T,T,T,T,F,F,F,F,F] rfl rfl (any_of HT_.out (by kernel_rfl)) (fun _ _ _ h => h) (Or.inl ⟨by rfl, ?_⟩) ?_ ?_; rotate_left
                         ·intro w'; (go_simp); with_reducible rfl
                         rotate_left
                         ·simp only [NS]; rfl
                         refine pure_ (i := 19) (N := some 88) (v := ?_) (a' := ?_) #[T,T,T,T,T,T,T,T,T,F,F,T,T,T,F,T,T,T,T,T,F,F,F,F] rfl rfl (any_of HT_.out (by kernel_rfl)) (fun _ _ _ h => h) (Or.inl ⟨by rfl, ?_⟩) ?_ ?_; rotate_left
                         ·intro w'; (go_simp); with_reducible rfl
                         rotate_left
                         ·simp only [NS]; rfl
                         refine pure_ (i := 20) (N := some 89) (v := ?_) (a' := ?_) #[T,T,T,T,T,T,T,T,T,F,F,T,T,T,F,T,T,T,T,T,T,F,F,F] rfl rfl (any_of HT_.out (by kernel_rfl)) (fun _ _ _ h => h) (Or.inl ⟨by rfl, ?_⟩) ?_ ?_; rotate_left
                         ·intro w'; (go_simp); with_reducible rfl
                         rotate_left
                         ·simp only [NS]; rfl
                         refine take_ (i := 9) (N := some 78) (v := ?_) (a' := ?_) #[T,T,T,T,T,T,T,T,T,T,F,T,T,T,F,T,T,T,T,T,T,F,F,F] rfl rfl (take_ofW HT_.out HW_.out (by kernel_rfl)) (fun _ _ _ h => h) (Or.inl ⟨by rfl, ?_⟩) hHeld ?_ ?_; rotate_left
                         ·rintro w' ⟨s0, s1, s2, s3, s4, s5, s6, s7⟩; (go_simp); with_reducible rfl
                         rotate_left
                         ·simp only [NS]; rfl
                         refine take_ (i := 10) (N := some 79) (v := ?_) (a' := ?_) #[T,T,T,T,T,T,T,T,T,T,T,T,T,T,F,T,T,T,T,T,T,F,F,F] rfl rfl (take_ofW HT_.out HW_.out (by kernel_rfl)) (fun _ _ _ h => h) (Or.inl ⟨by rfl, ?_⟩) hHeld ?_ ?_; rotate_left
                         ·rintro w' ⟨s0, s1, s2, s3, s4, s5, s6, s7⟩; (go_simp); with_reducible rfl
                         rotate_left
                         ·simp only [NS]; rfl
                         refine take_ (i := 14) (N := some 83) (v := ?_) (a' := ?_) #[T,T,T,T,T,T,T,T,T,T,T,T,T,T,T,T,T,T,T,T,T,F,F,F] rfl rfl (take_ofW HT_.out HW_.out (by kernel_rfl)) (fun _ _ _ h => h) (Or.inl ⟨by rfl, ?_⟩) hHeld ?_ ?_; rotate_left
                         ·rintro w' ⟨s0, s1, s2, s3, s4, s5, s6, s7⟩; (go_simp); with_reducible rfl
                         rotate_left
                         ·simp only [NS]; rfl
                         refine take_ (i := 21) (N := some 90) (v := ?_) (a' := ?_) #[T,T,T,T,T,T,T,T,T,T,T,T,T,T,T,T,T,T,T,T,T,T,F,F] rfl rfl (take_ofW HT_.out HW_.out (by kernel_rfl)) (fun _ _ _ h => h) (Or.inl ⟨by rfl, ?_⟩) hHeld ?_ ?_; rotate_left
                         ·rintro w' ⟨s0, s1, s2, s3, s4, s5, s6, s7⟩; (go_simp); with_reducible rfl
                         rotate_left
                         ·simp only [NS]; rfl
                         refine one_ (i := 22) (N := some 91) #[T,T,T,T,T,T,T,T,T,T,T,T,T,T,T,T,T,T,T,T,T,T,T,F] rfl rfl (one_of HT_.out (by kernel_rfl)) (by decide) (fun K hK => ?_); refine goes_ Try.func135 (by kernel_rfl) rfl #[.agg #[.int .i64 ((rd_T129 l0 x5_2).f0), .int .i64 ((rd_T129 l0 x5_2).f1)], .agg #[.int .i64 ((rd_T129 l0 (ji15)).f0), .int .i64 ((rd_T129 l0 (ji15)).f1)], .agg #[.int .i64 ((rd_T129 l0 x8_3).f0), .int .i64 ((rd_T129 l0 x8_3).f1)], .agg #[.int .i64 ((rd_T129 l0 (ji36)).f0), .int .i64 ((rd_T129 l0 (ji36)).f1)]] (by rfl) rfl rfl (by (try simp only [List.map_toArray, List.map_cons, List.map_nil]); first | done | (simp only [hji15, hji36]; rfl) | rfl | (simp only [List.length_drop, List.length_take]; rfl)) ?_; (with_reducible refine (spec_l13Meet.calls k3 ((rd_T129 l0 x5_2).f0) ((rd_T129 l0 x5_2).f1) ((rd_T129 l0 (ji15)).f0) ((rd_T129 l0 (ji15)).f1) ((rd_T129 l0 x8_3).f0) ((rd_T129 l0 x8_3).f1) ((rd_T129 l0 (ji36)).f0) ((rd_T129 l0 (ji36)).f1) t212 _ A39.out).mono ?_); rintro e w41 ⟨rfl, hb⟩; refine ⟨_, rfl, ?_⟩; have n0_ := pB BK205 hb; have n1_ := pB BK207 hb; have n2_ := pS HB hb; clear BK205; clear BK207; clear HB; have BK205 := n0_; have BK207 := n1_; have HB := n2_; clear n0_ n1_ n2_; (try clear hb); (try clear hb2); (try clear hk); (try clear hi); refine hK.out _ _ ⟨(blk_cell BK205.out 0).trans rfl, (blk_cell BK205.out 1).trans rfl, (blk_cell BK207.out 0).trans rfl, (blk_cell BK207.out 1).trans rfl, ((HB.out.cell (World.block_lt_of_cell? w _ hw210_0)).trans hw210_0), ((HB.out.cell (World.block_lt_of_cell? w _ hw210_1)).trans hw210_1), ((HB.out.cell (World.block_lt_of_cell? w _ hw211_0)).trans hw211_0), ((HB.out.cell (World.block_lt_of_cell? w _ hw211_1)).trans hw211_1)⟩ (fun hHeld => ?_); clear hK K; refine norm_ (a' := ?_) ?_ ?_; rotate_left
                         ·(show Act.put _ (some 91) _ = _); simp only [NS]; rfl
                         refine pure_ (i := 23) (N := some 92) (v := ?_) (a' := ?_) #[T,T,T,T,T,T,T,T,T,T,T,T,T,T,T,T,T,T,T,T,T,T,T,T] rfl rfl (any_of HT_.out (by kernel_rfl)) (fun _ _ _ h => h) (Or.inl ⟨by rfl, ?_⟩) ?_ ?_; rotate_left
                         ·intro w'; (go_simp); with_reducible rfl
                         rotate_left
                         ·simp only [NS]; rfl
                         refine done_ (done_of HT_.out (by kernel_rfl)) ?_; (go_upto_if 92 with (fail)); have H := HF_.out; clear HF_; by_cases c42 : t212 = true
                         ·subst c42; (have H1 : (some false) = some r := by rw [if_pos rfl] at H; exact H); clear H; have H := H1; clear H1; obtain rfl := Option.some.inj H; simp only [Option.some.injEq, Prod.mk.injEq] at H; obtain ⟨rfl⟩ := H; (go_wp2); (go_ret); exact ⟨by first | rfl | (simp [errW_none, errW_some] <;> rfl) | (simp only [← hji15, ← hji23, ← hji36]; first | rfl | (simp [errW_none, errW_some] <;> rfl)) | (simp [*, errW_none, errW_some] <;> rfl), pR HB⟩
                         ·replace c42 := Bool.eq_false_iff.mpr c42; subst c42; (have H1 : (spec_l13Ok.l2 k3 l0 (l0.length : Int) x5_2 (wrap64 (x8_3 + 1)) ((rd_T129 l0 x5_2).f0) ((rd_T129 l0 x5_2).f1) ((rd_T129 l0 (ji15)).f0) ((rd_T129 l0 (ji15)).f1)) = some r := by rw [if_neg (show ¬ (false = true) by decide)] at H; exact H); clear H; have H := H1; clear H1; have H' := Aside0.mk H; clear H; (go_wp2); go_roundg k3
                          case measure => have := HK1.out; have := HK2.out; have := HK3.out; omega
                          case rel => exact ⟨(wrap64 (x8_3 + 1)), zF, H', ⟨by have := HK1.out; have := HK2.out; have := HK3.out; omega⟩, ⟨by refine zB ?_; exact BK205.out⟩, ⟨by refine zB ?_; exact BK207.out⟩, ⟨pR HB⟩⟩
                        ·rw [if_neg c38] at H; exact absurd H (by simp)
                       ·rw [if_neg c37] at H; exact absurd H (by simp)
                     ·rw [if_neg c34] at H; exact absurd H (by simp)
                    ·rw [if_neg c33] at H; exact absurd H (by simp)
                   ·rw [if_neg c32] at H; have c32b0 : decide (0 < x5_2) = false := decide_eq_false c32; clear c32; by_cases c43 : x8_3 < (wrap64 ((l0.length : Int) - 1))
                    ·rw [if_pos c43] at H; have c43b0 : decide (x8_3 < (wrap64 ((l0.length : Int) - 1))) = true := decide_eq_true c43; clear c43; by_cases c44 : 0 ≤ x8_3
                     ·rw [if_pos c44] at H; have c44b0 : decide (0 ≤ x8_3) = true := decide_eq_true c44; clear c44; by_cases c45 : x8_3 < (l0.length : Int)
                      ·rw [if_pos c45] at H; have c45b0 : decide (x8_3 < (l0.length : Int)) = true := decide_eq_true c45; clear c45; by_cases c46 : (l0.length : Int) = 0
                       ·rw [if_pos c46] at H; exact absurd H (by simp)
                       ·rw [if_neg c46] at H; have c46b0 : ((l0.length : Int) == 0) = false := beq_eq_false_iff_ne.mpr c46; have c46b1 : ((l0.length : Int) != 0) = true := bne_iff_ne.mpr c46; (have c46b2 : ¬ (l0 = []) := fun h_ => c46 (by rw [h_]; rfl)); obtain ⟨ji47, hji47⟩ : ∃ j_ : Int, (Int.tmod (wrap64 (x8_3 + 1)) (l0.length : Int)) = j_ := ⟨_, rfl⟩; (replace H : (if 0 ≤ (ji47) then (if (ji47) < (l0.length : Int) then ((spec_l13Meet.f k3 ((rd_T129 l0 x5_2).f0) ((rd_T129 l0 x5_2).f1) ((rd_T129 l0 (ji15)).f0) ((rd_T129 l0 (ji15)).f1) ((rd_T129 l0 x8_3).f0) ((rd_T129 l0 x8_3).f1) ((rd_T129 l0 (ji47)).f0) ((rd_T129 l0 (ji47)).f1)).bind fun t215 => (if t215 = true then (some false) else (spec_l13Ok.l2 k3 l0 (l0.length : Int) x5_2 (wrap64 (x8_3 + 1)) ((rd_T129 l0 x5_2).f0) ((rd_T129 l0 x5_2).f1) ((rd_T129 l0 (ji15)).f0) ((rd_T129 l0 (ji15)).f1)))) else (none)) else (none)) = some r := by first | (rw [hji47] at H; exact H) | (simp only [hji47] at H ⊢; exact H)); by_cases c48 : 0 ≤ (ji47)
                        ·rw [if_pos c48] at H; have c48b0 : decide (0 ≤ (ji47)) = true := decide_eq_true c48; clear c48; by_cases c49 : (ji47) < (l0.length : Int)
                         ·rw [if_pos c49] at H; have c49b0 : decide ((ji47) < (l0.length : Int)) = true := decide_eq_true c49; clear c49; replace H := Option.bind_eq_some_iff.mp H; obtain ⟨t215, A500, H⟩ := H; replace H : (if t215 = true then (some false) else (spec_l13Ok.l2 k3 l0 (l0.length : Int) x5_2 (wrap64 (x8_3 + 1)) ((rd_T129 l0 x5_2).f0) ((rd_T129 l0 x5_2).f1) ((rd_T129 l0 (ji15)).f0) ((rd_T129 l0 (ji15)).f1))) = some r := H; have A50 := Aside0.mk A500; clear A500; have HF_ := Aside0.mk H; clear H; (try go_wp2); have n0_ := Aside0.mk (blk_drew BK205.out); have n1_ := Aside0.mk (blk_drew BK207.out); have n2_ := Aside0.mk (below_drew1 HB.out); clear BK205; clear BK207; clear HB; have BK205 := n0_; have BK207 := n1_; have HB := n2_; clear n0_ n1_ n2_; have p213 : 0 ≤ (x8_3 : Int) := of_decide_eq_true (by first | (with_reducible assumption) | assumption); have q213 : x8_3 < (l0.length : Int) := of_decide_eq_true (by first | (with_reducible assumption) | assumption); obtain ⟨ad213, e213, hx213_0, hx213_1⟩ := at_T129 HR0.out x8_3 p213 q213; have hw213_1 := hx213_1; have hw213_0 := hx213_0; obtain rfl : ad204 = ad213 := (by injection e213); replace hx213_0 := bC HB hx213_0; replace hx213_1 := bC HB hx213_1; replace p213 := eq_true p213; replace q213 := eq_true q213; have p214 : 0 ≤ ((ji47) : Int) := of_decide_eq_true (by first | (with_reducible assumption) | assumption); have q214 : (ji47) < (l0.length : Int) := of_decide_eq_true (by first | (with_reducible assumption) | assumption); obtain ⟨ad214, e214, hx214_0, hx214_1⟩ := at_T129 HR0.out (ji47) p214 q214; have hw214_1 := hx214_1; have hw214_0 := hx214_0; obtain rfl : ad204 = ad214 := (by injection e214); replace hx214_0 := bC HB hx214_0; replace hx214_1 := bC HB hx214_1; replace p214 := eq_true p214; replace q214 := eq_true q214; refine start_ (n := 24) (S := fun w' => w'.cell? ⟨gb205, 0, none⟩ = some (.int .i64 ((rd_T129 l0 x5_2).f0)) ∧ w'.cell? ⟨gb205, 1, none⟩ = some (.int .i64 ((rd_T129 l0 x5_2).f1)) ∧ w'.cell? ⟨gb207, 0, none⟩ = some (.int .i64 ((rd_T129 l0 (ji15)).f0)) ∧ w'.cell? ⟨gb207, 1, none⟩ = some (.int .i64 ((rd_T129 l0 (ji15)).f1)) ∧ w'.cell? (ad204.add ((x8_3).toNat * 2)) = some (.int .i64 ((rd_T129 l0 x8_3).f0)) ∧ w'.cell? ⟨(ad204.add ((x8_3).toNat * 2)).block, (ad204.add ((x8_3).toNat * 2)).off + 1, none⟩ = some (.int .i64 ((rd_T129 l0 x8_3).f1)) ∧ w'.cell? (ad204.add (((ji47)).toNat * 2)) = some (.int .i64 ((rd_T129 l0 (ji47)).f0)) ∧ w'.cell? ⟨(ad204.add (((ji47)).toNat * 2)).block, (ad204.add (((ji47)).toNat * 2)).off + 1, none⟩ = some (.int .i64 ((rd_T129 l0 (ji47)).f1))) (ds := []) #[F,F,F,F,F,F,F,F,F,F,F,F,F,F,F,F,F,F,F,F,F,F,F,F] (by kernel_rfl) rfl rfl ⟨(blk_cell BK205.out 0).trans rfl, (blk_cell BK205.out 1).trans rfl, (blk_cell BK207.out 0).trans rfl, (blk_cell BK207.out 1).trans rfl, ((HB.out.cell (World.block_lt_of_cell? w _ hw213_0)).trans hw213_0), ((HB.out.cell (World.block_lt_of_cell? w _ hw213_1)).trans hw213_1), ((HB.out.cell (World.block_lt_of_cell? w _ hw214_0)).trans hw214_0), ((HB.out.cell (World.block_lt_of_cell? w _ hw214_1)).trans hw214_1)⟩ (fun hHeld => ?_); refine with_tabW spec_l13Ok.tab19 spec_l13Ok.bits19 (fun HT_ HW_ => ?_); generalize wr.drew = w51 at BK205 BK207 HB hx213_0 hx213_1 hx214_0 hx214_1 hHeld ⊢; refine pure_ (i := 0) (N := some 69) (v := ?_) (a' := ?_) #[T,F,F,F,F,F,F,F,F,F,F,F,F,F,F,F,F,F,F,F,F,F,F,F] rfl rfl (any_of HT_.out (by kernel_rfl)) (fun _ _ _ h => h) (Or.inl ⟨by rfl, ?_⟩) ?_ ?_; rotate_left
                          ·intro w'; (go_simp); with_reducible rfl
                          rotate_left
                          ·simp only [NS]; rfl
                          refine pure_ (i := 1) (N := some 70) (v := ?_) (a' := ?_) #[T,T,F,F,F,F,F,F,F,F,F,F,F,F,F,F,F,F,F,F,F,F,F,F] rfl rfl (any_of HT_.out (by kernel_rfl)) (fun _ _ _ h => h) (Or.inl ⟨by rfl, ?_⟩) ?_ ?_; rotate_left
                          ·intro w'; (go_simp); with_reducible rfl
                          rotate_left
                          ·simp only [NS]; rfl
                          refine pure_ (i := 2) (N := some 71) (v := ?_) (a' := ?_) #[T,T,T,F,F,F,F,F,F,F,F,F,F,F,F,F,F,F,F,F,F,F,F,F] rfl rfl (any_of HT_.out (by kernel_rfl)) (fun _ _ _ h => h) (Or.inl ⟨by rfl, ?_⟩) ?_ ?_; rotate_left
                          ·intro w'; (go_simp); with_reducible rfl
                          rotate_left
                          ·simp only [NS]; rfl
                          refine pure_ (i := 3) (N := some 72) (v := ?_) (a' := ?_) #[T,T,T,T,F,F,F,F,F,F,F,F,F,F,F,F,F,F,F,F,F,F,F,F] rfl rfl (any_of HT_.out (by kernel_rfl)) (fun _ _ _ h => h) (Or.inl ⟨by rfl, ?_⟩) ?_ ?_; rotate_left
                          ·intro w'; (go_simp); with_reducible rfl
                          rotate_left
                          ·simp only [NS]; rfl
                          refine pure_ (i := 4) (N := some 73) (v := ?_) (a' := ?_) #[T,T,T,T,T,F,F,F,F,F,F,F,F,F,F,F,F,F,F,F,F,F,F,F] rfl rfl (any_of HT_.out (by kernel_rfl)) (fun _ _ _ h => h) (Or.inl ⟨by rfl, ?_⟩) ?_ ?_; rotate_left
                          ·intro w'; (go_simp); with_reducible rfl
                          rotate_left
                          ·simp only [NS]; rfl
                          refine pure_ (i := 5) (N := some 74) (v := ?_) (a' := ?_) #[T,T,T,T,T,T,F,F,F,F,F,F,F,F,F,F,F,F,F,F,F,F,F,F] rfl rfl (any_of HT_.out (by kernel_rfl)) (fun _ _ _ h => h) (Or.inl ⟨by rfl, ?_⟩) ?_ ?_; rotate_left
                          ·intro w'; (go_simp); with_reducible rfl
                          rotate_left
                          ·simp only [NS]; rfl
                          refine pure_ (i := 6) (N := some 75) (v := ?_) (a' := ?_) #[T,T,T,T,T,T,T,F,F,F,F,F,F,F,F,F,F,F,F,F,F,F,F,F] rfl rfl (any_of HT_.out (by kernel_rfl)) (fun _ _ _ h => h) (Or.inl ⟨by rfl, ?_⟩) ?_ ?_; rotate_left
                          ·intro w'; (go_simp); with_reducible rfl
                          rotate_left
                          ·simp only [NS]; rfl
                          refine pure_ (i := 7) (N := some 76) (v := ?_) (a' := ?_) #[T,T,T,T,T,T,T,T,F,F,F,F,F,F,F,F,F,F,F,F,F,F,F,F] rfl rfl (any_of HT_.out (by kernel_rfl)) (fun _ _ _ h => h) (Or.inl ⟨by rfl, ?_⟩) ?_ ?_; rotate_left
                          ·intro w'; (go_simp); with_reducible rfl
                          rotate_left
                          ·simp only [NS]; rfl
                          refine pure_ (i := 8) (N := some 77) (v := ?_) (a' := ?_) #[T,T,T,T,T,T,T,T,T,F,F,F,F,F,F,F,F,F,F,F,F,F,F,F] rfl rfl (any_of HT_.out (by kernel_rfl)) (fun _ _ _ h => h) (Or.inl ⟨by rfl, ?_⟩) ?_ ?_; rotate_left
                          ·intro w'; (go_simp); with_reducible rfl
                          rotate_left
                          ·simp only [NS]; rfl
                          refine pure_ (i := 11) (N := some 80) (v := ?_) (a' := ?_) #[T,T,T,T,T,T,T,T,T,F,F,T,F,F,F,F,F,F,F,F,F,F,F,F] rfl rfl (any_of HT_.out (by kernel_rfl)) (fun _ _ _ h => h) (Or.inl ⟨by rfl, ?_⟩) ?_ ?_; rotate_left
                          ·intro w'; (go_simp); with_reducible rfl
                          rotate_left
                          ·simp only [NS]; rfl
                          refine pure_ (i := 12) (N := some 81) (v := ?_) (a' := ?_) #[T,T,T,T,T,T,T,T,T,F,F,T,T,F,F,F,F,F,F,F,F,F,F,F] rfl rfl (any_of HT_.out (by kernel_rfl)) (fun _ _ _ h => h) (Or.inl ⟨by rfl, ?_⟩) ?_ ?_; rotate_left
                          ·intro w'; (go_simp); with_reducible rfl
                          rotate_left
                          ·simp only [NS]; rfl
                          refine pure_ (i := 13) (N := some 82) (v := ?_) (a' := ?_) #[T,T,T,T,T,T,T,T,T,F,F,T,T,T,F,F,F,F,F,F,F,F,F,F] rfl rfl (any_of HT_.out (by kernel_rfl)) (fun _ _ _ h => h) (Or.inl ⟨by rfl, ?_⟩) ?_ ?_; rotate_left
                          ·intro w'; (go_simp); with_reducible rfl
                          rotate_left
                          ·simp only [NS]; rfl
                          refine pure_ (i := 15) (N := some 84) (v := ?_) (a' := ?_) #[T,T,T,T,T,T,T,T,T,F,F,T,T,T,F,T,F,F,F,F,F,F,F,F] rfl rfl (any_of HT_.out (by kernel_rfl)) (fun _ _ _ h => h) (Or.inl ⟨by rfl, ?_⟩) ?_ ?_; rotate_left
                          ·intro w'; (go_simp); with_reducible rfl
                          rotate_left
                          ·simp only [NS]; rfl
                          refine pure_ (i := 16) (N := some 85) (v := ?_) (a' := ?_) #[T,T,T,T,T,T,T,T,T,F,F,T,T,T,F,T,T,F,F,F,F,F,F,F] rfl rfl (any_of HT_.out (by kernel_rfl)) (fun _ _ _ h => h) (Or.inl ⟨by rfl, ?_⟩) ?_ ?_; rotate_left
                          ·intro w'; (go_simp); with_reducible rfl
                          rotate_left
                          ·simp only [NS]; rfl
                          refine pure_ (i := 17) (N := some 86) (v := ?_) (a' := ?_) #[T,T,T,T,T,T,T,T,T,F,F,T,T,T,F,T,T,T,F,F,F,F,F,F] rfl rfl (any_of HT_.out (by kernel_rfl)) (fun _ _ _ h => h) (Or.inl ⟨by rfl, ?_⟩) ?_ ?_; rotate_left
                          ·intro w'; (go_simp); with_reducible rfl
                          rotate_left
                          ·simp only [NS]; rfl
                          refine pure_ (i := 18) (N := some 87) (v := ?_) (a' := ?_) #[T,T,T,T,T,T,T,T,T,F,F,T,T,T,F,T,T,T,T,F,F,F,F,F] rfl rfl (any_of HT_.out (by kernel_rfl)) (fun _ _ _ h => h) (Or.inl ⟨by rfl, ?_⟩) ?_ ?_; rotate_left
                          ·intro w'; (go_simp); with_reducible rfl
                          rotate_left
                          ·simp only [NS]; rfl
                          refine pure_ (i := 19) (N := some 88) (v := ?_) (a' := ?_) #[T,T,T,T,T,T,T,T,T,F,F,T,T,T,F,T,T,T,T,T,F,F,F,F] rfl rfl (any_of HT_.out (by kernel_rfl)) (fun _ _ _ h => h) (Or.inl ⟨by rfl, ?_⟩) ?_ ?_; rotate_left
                          ·intro w'; (go_simp); with_reducible rfl
                          rotate_left
                          ·simp only [NS]; rfl
                          refine pure_ (i := 20) (N := some 89) (v := ?_) (a' := ?_) #[T,T,T,T,T,T,T,T,T,F,F,T,T,T,F,T,T,T,T,T,T,F,F,F] rfl rfl (any_of HT_.out (by kernel_rfl)) (fun _ _ _ h => h) (Or.inl ⟨by rfl, ?_⟩) ?_ ?_; rotate_left
                          ·intro w'; (go_simp); with_reducible rfl
                          rotate_left
                          ·simp only [NS]; rfl
                          refine take_ (i := 9) (N := some 78) (v := ?_) (a' := ?_) #[T,T,T,T,T,T,T,T,T,T,F,T,T,T,F,T,T,T,T,T,T,F,F,F] rfl rfl (take_ofW HT_.out HW_.out (by kernel_rfl)) (fun _ _ _ h => h) (Or.inl ⟨by rfl, ?_⟩) hHeld ?_ ?_; rotate_left
                          ·rintro w' ⟨s0, s1, s2, s3, s4, s5, s6, s7⟩; (go_simp); with_reducible rfl
                          rotate_left
                          ·simp only [NS]; rfl
                          refine take_ (i := 10) (N := some 79) (v := ?_) (a' := ?_) #[T,T,T,T,T,T,T,T,T,T,T,T,T,T,F,T,T,T,T,T,T,F,F,F] rfl rfl (take_ofW HT_.out HW_.out (by kernel_rfl)) (fun _ _ _ h => h) (Or.inl ⟨by rfl, ?_⟩) hHeld ?_ ?_; rotate_left
                          ·rintro w' ⟨s0, s1, s2, s3, s4, s5, s6, s7⟩; (go_simp); with_reducible rfl
                          rotate_left
                          ·simp only [NS]; rfl
                          refine take_ (i := 14) (N := some 83) (v := ?_) (a' := ?_) #[T,T,T,T,T,T,T,T,T,T,T,T,T,T,T,T,T,T,T,T,T,F,F,F] rfl rfl (take_ofW HT_.out HW_.out (by kernel_rfl)) (fun _ _ _ h => h) (Or.inl ⟨by rfl, ?_⟩) hHeld ?_ ?_; rotate_left
                          ·rintro w' ⟨s0, s1, s2, s3, s4, s5, s6, s7⟩; (go_simp); with_reducible rfl
                          rotate_left
                          ·simp only [NS]; rfl
                          refine take_ (i := 21) (N := some 90) (v := ?_) (a' := ?_) #[T,T,T,T,T,T,T,T,T,T,T,T,T,T,T,T,T,T,T,T,T,T,F,F] rfl rfl (take_ofW HT_.out HW_.out (by kernel_rfl)) (fun _ _ _ h => h) (Or.inl ⟨by rfl, ?_⟩) hHeld ?_ ?_; rotate_left
                          ·rintro w' ⟨s0, s1, s2, s3, s4, s5, s6, s7⟩; (go_simp); with_reducible rfl
                          rotate_left
                          ·simp only [NS]; rfl
                          refine one_ (i := 22) (N := some 91) #[T,T,T,T,T,T,T,T,T,T,T,T,T,T,T,T,T,T,T,T,T,T,T,F] rfl rfl (one_of HT_.out (by kernel_rfl)) (by decide) (fun K hK => ?_); refine goes_ Try.func135 (by kernel_rfl) rfl #[.agg #[.int .i64 ((rd_T129 l0 x5_2).f0), .int .i64 ((rd_T129 l0 x5_2).f1)], .agg #[.int .i64 ((rd_T129 l0 (ji15)).f0), .int .i64 ((rd_T129 l0 (ji15)).f1)], .agg #[.int .i64 ((rd_T129 l0 x8_3).f0), .int .i64 ((rd_T129 l0 x8_3).f1)], .agg #[.int .i64 ((rd_T129 l0 (ji47)).f0), .int .i64 ((rd_T129 l0 (ji47)).f1)]] (by rfl) rfl rfl (by (try simp only [List.map_toArray, List.map_cons, List.map_nil]); first | done | (simp only [hji15, hji47]; rfl) | rfl | (simp only [List.length_drop, List.length_take]; rfl)) ?_; (with_reducible refine (spec_l13Meet.calls k3 ((rd_T129 l0 x5_2).f0) ((rd_T129 l0 x5_2).f1) ((rd_T129 l0 (ji15)).f0) ((rd_T129 l0 (ji15)).f1) ((rd_T129 l0 x8_3).f0) ((rd_T129 l0 x8_3).f1) ((rd_T129 l0 (ji47)).f0) ((rd_T129 l0 (ji47)).f1) t215 _ A50.out).mono ?_); rintro e w52 ⟨rfl, hb⟩; refine ⟨_, rfl, ?_⟩; have n0_ := pB BK205 hb; have n1_ := pB BK207 hb; have n2_ := pS HB hb; clear BK205; clear BK207; clear HB; have BK205 := n0_; have BK207 := n1_; have HB := n2_; clear n0_ n1_ n2_; (try clear hb); (try clear hb2); (try clear hk); (try clear hi); refine hK.out _ _ ⟨(blk_cell BK205.out 0).trans rfl, (blk_cell BK205.out 1).trans rfl, (blk_cell BK207.out 0).trans rfl, (blk_cell BK207.out 1).trans rfl, ((HB.out.cell (World.block_lt_of_cell? w _ hw213_0)).trans hw213_0), ((HB.out.cell (World.block_lt_of_cell? w _ hw213_1)).trans hw213_1), ((HB.out.cell (World.block_lt_of_cell? w _ hw214_0)).trans hw214_0), ((HB.out.cell (World.block_lt_of_cell? w _ hw214_1)).trans hw214_1)⟩ (fun hHeld => ?_); clear hK K; refine norm_ (a' := ?_) ?_ ?_; rotate_left
                          ·(show Act.put _ (some 91) _ = _); simp only [NS]; rfl
                          refine pure_ (i := 23) (N := some 92) (v := ?_) (a' := ?_) #[T,T,T,T,T,T,T,T,T,T,T,T,T,T,T,T,T,T,T,T,T,T,T,T] rfl rfl (any_of HT_.out (by kernel_rfl)) (fun _ _ _ h => h) (Or.inl ⟨by rfl, ?_⟩) ?_ ?_; rotate_left
                          ·intro w'; (go_simp); with_reducible rfl
                          rotate_left
                          ·simp only [NS]; rfl
                          refine done_ (done_of HT_.out (by kernel_rfl)) ?_; (go_upto_if 92 with (fail)); have H := HF_.out; clear HF_; by_cases c53 : t215 = true
                          ·subst c53; (have H1 : (some false) = some r := by rw [if_pos rfl] at H; exact H); clear H; have H := H1; clear H1; obtain rfl := Option.some.inj H; simp only [Option.some.injEq, Prod.mk.injEq] at H; obtain ⟨rfl⟩ := H; (go_wp2); (go_ret); exact ⟨by first | rfl | (simp [errW_none, errW_some] <;> rfl) | (simp only [← hji15, ← hji23, ← hji47]; first | rfl | (simp [errW_none, errW_some] <;> rfl)) | (simp [*, errW_none, errW_some] <;> rfl), pR HB⟩
                          ·replace c53 := Bool.eq_false_iff.mpr c53; subst c53; (have H1 : (spec_l13Ok.l2 k3 l0 (l0.length : Int) x5_2 (wrap64 (x8_3 + 1)) ((rd_T129 l0 x5_2).f0) ((rd_T129 l0 x5_2).f1) ((rd_T129 l0 (ji15)).f0) ((rd_T129 l0 (ji15)).f1)) = some r := by rw [if_neg (show ¬ (false = true) by decide)] at H; exact H); clear H; have H := H1; clear H1; have H' := Aside0.mk H; clear H; (go_wp2); go_roundg k3
                           case measure => have := HK1.out; have := HK2.out; have := HK3.out; omega
                           case rel => exact ⟨(wrap64 (x8_3 + 1)), zF, H', ⟨by have := HK1.out; have := HK2.out; have := HK3.out; omega⟩, ⟨by refine zB ?_; exact BK205.out⟩, ⟨by refine zB ?_; exact BK207.out⟩, ⟨pR HB⟩⟩
                         ·rw [if_neg c49] at H; exact absurd H (by simp)
                        ·rw [if_neg c48] at H; exact absurd H (by simp)
                      ·rw [if_neg c45] at H; exact absurd H (by simp)
                     ·rw [if_neg c44] at H; exact absurd H (by simp)
                    ·rw [if_neg c43] at H; have c43b0 : decide (x8_3 < (wrap64 ((l0.length : Int) - 1))) = false := decide_eq_false c43; clear c43; have H' := Aside0.mk H; clear H; (try go_wp2); have n0_ := Aside0.mk (blk_drew BK205.out); have n1_ := Aside0.mk (blk_drew BK207.out); have n2_ := Aside0.mk (below_drew1 HB.out); clear BK205; clear BK207; clear HB; have BK205 := n0_; have BK207 := n1_; have HB := n2_; clear n0_ n1_ n2_; refine start_ (n := 24) (S := fun w' => True) (ds := []) #[F,F,F,F,F,F,F,F,F,F,F,F,F,F,F,F,F,F,F,F,F,F,F,F] (by kernel_rfl) rfl rfl trivial (fun hHeld => ?_); refine with_tabW spec_l13Ok.tab19 spec_l13Ok.bits19 (fun HT_ HW_ => ?_); generalize wr.drew = w54 at BK205 BK207 HB hHeld ⊢; refine pure_ (i := 0) (N := some 69) (v := ?_) (a' := ?_) #[T,F,F,F,F,F,F,F,F,F,F,F,F,F,F,F,F,F,F,F,F,F,F,F] rfl rfl (any_of HT_.out (by kernel_rfl)) (fun _ _ _ h => h) (Or.inl ⟨by rfl, ?_⟩) ?_ ?_; rotate_left
                     ·intro w'; (go_simp); with_reducible rfl
                     rotate_left
                     ·simp only [NS]; rfl
                     refine pure_ (i := 1) (N := some 70) (v := ?_) (a' := ?_) #[T,T,F,F,F,F,F,F,F,F,F,F,F,F,F,F,F,F,F,F,F,F,F,F] rfl rfl (any_of HT_.out (by kernel_rfl)) (fun _ _ _ h => h) (Or.inl ⟨by rfl, ?_⟩) ?_ ?_; rotate_left
                     ·intro w'; (go_simp); with_reducible rfl
                     rotate_left
                     ·simp only [NS]; rfl
                     refine pure_ (i := 2) (N := some 71) (v := ?_) (a' := ?_) #[T,T,T,F,F,F,F,F,F,F,F,F,F,F,F,F,F,F,F,F,F,F,F,F] rfl rfl (any_of HT_.out (by kernel_rfl)) (fun _ _ _ h => h) (Or.inl ⟨by rfl, ?_⟩) ?_ ?_; rotate_left
                     ·intro w'; (go_simp); with_reducible rfl
                     rotate_left
                     ·simp only [NS]; rfl
                     refine pure_ (i := 3) (N := some 72) (v := ?_) (a' := ?_) #[T,T,T,T,F,F,F,F,F,F,F,F,F,F,F,F,F,F,F,F,F,F,F,F] rfl rfl (any_of HT_.out (by kernel_rfl)) (fun _ _ _ h => h) (Or.inl ⟨by rfl, ?_⟩) ?_ ?_; rotate_left
                     ·intro w'; (go_simp); with_reducible rfl
                     rotate_left
                     ·simp only [NS]; rfl
                     refine pure_ (i := 4) (N := some 73) (v := ?_) (a' := ?_) #[T,T,T,T,T,F,F,F,F,F,F,F,F,F,F,F,F,F,F,F,F,F,F,F] rfl rfl (any_of HT_.out (by kernel_rfl)) (fun _ _ _ h => h) (Or.inl ⟨by rfl, ?_⟩) ?_ ?_; rotate_left
                     ·intro w'; (go_simp); with_reducible rfl
                     rotate_left
                     ·simp only [NS]; rfl
                     refine pure_ (i := 5) (N := some 74) (v := ?_) (a' := ?_) #[T,T,T,T,T,T,F,F,F,F,F,F,F,F,F,F,F,F,F,F,F,F,F,F] rfl rfl (any_of HT_.out (by kernel_rfl)) (fun _ _ _ h => h) (Or.inl ⟨by rfl, ?_⟩) ?_ ?_; rotate_left
                     ·intro w'; (go_simp); with_reducible rfl
                     rotate_left
                     ·simp only [NS]; rfl
                     refine pure_ (i := 6) (N := some 75) (v := ?_) (a' := ?_) #[T,T,T,T,T,T,T,F,F,F,F,F,F,F,F,F,F,F,F,F,F,F,F,F] rfl rfl (any_of HT_.out (by kernel_rfl)) (fun _ _ _ h => h) (Or.inl ⟨by rfl, ?_⟩) ?_ ?_; rotate_left
                     ·intro w'; (go_simp); with_reducible rfl
                     rotate_left
                     ·simp only [NS]; rfl
                     refine pure_ (i := 7) (N := some 76) (v := ?_) (a' := ?_) #[T,T,T,T,T,T,T,T,F,F,F,F,F,F,F,F,F,F,F,F,F,F,F,F] rfl rfl (any_of HT_.out (by kernel_rfl)) (fun _ _ _ h => h) (Or.inl ⟨by rfl, ?_⟩) ?_ ?_; rotate_left
                     ·intro w'; (go_simp); with_reducible rfl
                     rotate_left
                     ·simp only [NS]; rfl
                     refine pure_ (i := 8) (N := some 77) (v := ?_) (a' := ?_) #[T,T,T,T,T,T,T,T,T,F,F,F,F,F,F,F,F,F,F,F,F,F,F,F] rfl rfl (any_of HT_.out (by kernel_rfl)) (fun _ _ _ h => h) (Or.inl ⟨by rfl, ?_⟩) ?_ ?_; rotate_left
                     ·intro w'; (go_simp); with_reducible rfl
                     rotate_left
                     ·simp only [NS]; rfl
                     refine pure_ (i := 9) (N := some 78) (v := undef) (a' := ?_) #[T,T,T,T,T,T,T,T,T,T,F,F,F,F,F,F,F,F,F,F,F,F,F,F] rfl rfl (any_of HT_.out (by kernel_rfl)) (fun _ _ _ h => h) (Or.inr ⟨by rfl, rfl⟩) ?_ ?_; rotate_left
                     ·simp only [NS]; rfl
                     refine pure_ (i := 10) (N := some 79) (v := undef) (a' := ?_) #[T,T,T,T,T,T,T,T,T,T,T,F,F,F,F,F,F,F,F,F,F,F,F,F] rfl rfl (any_of HT_.out (by kernel_rfl)) (fun _ _ _ h => h) (Or.inr ⟨by rfl, rfl⟩) ?_ ?_; rotate_left
                     ·simp only [NS]; rfl
                     refine pure_ (i := 11) (N := some 80) (v := undef) (a' := ?_) #[T,T,T,T,T,T,T,T,T,T,T,T,F,F,F,F,F,F,F,F,F,F,F,F] rfl rfl (any_of HT_.out (by kernel_rfl)) (fun _ _ _ h => h) (Or.inr ⟨by rfl, rfl⟩) ?_ ?_; rotate_left
                     ·simp only [NS]; rfl
                     refine pure_ (i := 12) (N := some 81) (v := undef) (a' := ?_) #[T,T,T,T,T,T,T,T,T,T,T,T,T,F,F,F,F,F,F,F,F,F,F,F] rfl rfl (any_of HT_.out (by kernel_rfl)) (fun _ _ _ h => h) (Or.inr ⟨by rfl, rfl⟩) ?_ ?_; rotate_left
                     ·simp only [NS]; rfl
                     refine pure_ (i := 13) (N := some 82) (v := undef) (a' := ?_) #[T,T,T,T,T,T,T,T,T,T,T,T,T,T,F,F,F,F,F,F,F,F,F,F] rfl rfl (any_of HT_.out (by kernel_rfl)) (fun _ _ _ h => h) (Or.inr ⟨by rfl, rfl⟩) ?_ ?_; rotate_left
                     ·simp only [NS]; rfl
                     refine pure_ (i := 14) (N := some 83) (v := undef) (a' := ?_) #[T,T,T,T,T,T,T,T,T,T,T,T,T,T,T,F,F,F,F,F,F,F,F,F] rfl rfl (any_of HT_.out (by kernel_rfl)) (fun _ _ _ h => h) (Or.inr ⟨by rfl, rfl⟩) ?_ ?_; rotate_left
                     ·simp only [NS]; rfl
                     refine pure_ (i := 15) (N := some 84) (v := undef) (a' := ?_) #[T,T,T,T,T,T,T,T,T,T,T,T,T,T,T,T,F,F,F,F,F,F,F,F] rfl rfl (any_of HT_.out (by kernel_rfl)) (fun _ _ _ h => h) (Or.inr ⟨by rfl, rfl⟩) ?_ ?_; rotate_left
                     ·simp only [NS]; rfl
                     refine pure_ (i := 16) (N := some 85) (v := undef) (a' := ?_) #[T,T,T,T,T,T,T,T,T,T,T,T,T,T,T,T,T,F,F,F,F,F,F,F] rfl rfl (any_of HT_.out (by kernel_rfl)) (fun _ _ _ h => h) (Or.inr ⟨by rfl, rfl⟩) ?_ ?_; rotate_left
                     ·simp only [NS]; rfl
                     refine pure_ (i := 17) (N := some 86) (v := undef) (a' := ?_) #[T,T,T,T,T,T,T,T,T,T,T,T,T,T,T,T,T,T,F,F,F,F,F,F] rfl rfl (any_of HT_.out (by kernel_rfl)) (fun _ _ _ h => h) (Or.inr ⟨by rfl, rfl⟩) ?_ ?_; rotate_left
                     ·simp only [NS]; rfl
                     refine pure_ (i := 18) (N := some 87) (v := undef) (a' := ?_) #[T,T,T,T,T,T,T,T,T,T,T,T,T,T,T,T,T,T,T,F,F,F,F,F] rfl rfl (any_of HT_.out (by kernel_rfl)) (fun _ _ _ h => h) (Or.inr ⟨by rfl, rfl⟩) ?_ ?_; rotate_left
                     ·simp only [NS]; rfl
                     refine pure_ (i := 19) (N := some 88) (v := undef) (a' := ?_) #[T,T,T,T,T,T,T,T,T,T,T,T,T,T,T,T,T,T,T,T,F,F,F,F] rfl rfl (any_of HT_.out (by kernel_rfl)) (fun _ _ _ h => h) (Or.inr ⟨by rfl, rfl⟩) ?_ ?_; rotate_left
                     ·simp only [NS]; rfl
                     refine pure_ (i := 20) (N := some 89) (v := undef) (a' := ?_) #[T,T,T,T,T,T,T,T,T,T,T,T,T,T,T,T,T,T,T,T,T,F,F,F] rfl rfl (any_of HT_.out (by kernel_rfl)) (fun _ _ _ h => h) (Or.inr ⟨by rfl, rfl⟩) ?_ ?_; rotate_left
                     ·simp only [NS]; rfl
                     refine pure_ (i := 21) (N := some 90) (v := undef) (a' := ?_) #[T,T,T,T,T,T,T,T,T,T,T,T,T,T,T,T,T,T,T,T,T,T,F,F] rfl rfl (any_of HT_.out (by kernel_rfl)) (fun _ _ _ h => h) (Or.inr ⟨by rfl, rfl⟩) ?_ ?_; rotate_left
                     ·simp only [NS]; rfl
                     refine pure_ (i := 22) (N := some 91) (v := undef) (a' := ?_) #[T,T,T,T,T,T,T,T,T,T,T,T,T,T,T,T,T,T,T,T,T,T,T,F] rfl rfl (any_of HT_.out (by kernel_rfl)) (fun _ _ _ h => h) (Or.inr ⟨by rfl, rfl⟩) ?_ ?_; rotate_left
                     ·simp only [NS]; rfl
                     refine pure_ (i := 23) (N := some 92) (v := ?_) (a' := ?_) #[T,T,T,T,T,T,T,T,T,T,T,T,T,T,T,T,T,T,T,T,T,T,T,T] rfl rfl (any_of HT_.out (by kernel_rfl)) (fun _ _ _ h => h) (Or.inl ⟨by rfl, ?_⟩) ?_ ?_; rotate_left
                     ·intro w'; (go_simp); with_reducible rfl
                     rotate_left
                     ·simp only [NS]; rfl
                     refine done_ (done_of HT_.out (by kernel_rfl)) ?_; (try go_wp2); go_roundg k3
                     case measure => have := HK1.out; have := HK2.out; have := HK3.out; omega
                     case rel => exact ⟨(wrap64 (x8_3 + 1)), zF, H', ⟨by have := HK1.out; have := HK2.out; have := HK3.out; omega⟩, ⟨by refine zB ?_; exact BK205.out⟩, ⟨by refine zB ?_; exact BK207.out⟩, ⟨pR HB⟩⟩
                  ·rw [if_neg c31] at H; have c31b0 : decide (x8_3 < (l0.length : Int)) = false := decide_eq_false c31; clear c31; have H' := Aside0.mk H; clear H; (go_wp2); go_roundg k3
                   case measure => have := HK1.out; have := HK2.out; have := HK3.out; omega
                   case rel => exact ⟨(wrap64 (x5_2 + 1)), zF, H', ⟨by have := HK1.out; have := HK2.out; have := HK3.out; omega⟩, ⟨pR HB⟩⟩
              ·rw [if_neg c25] at H; exact absurd H (by simp)
             ·rw [if_neg c24] at H; exact absurd H (by simp)
            ·rw [if_neg c17] at H; exact absurd H (by simp)
           ·rw [if_neg c16] at H; exact absurd H (by simp)
         ·rw [if_neg c13] at H; exact absurd H (by simp)
        ·rw [if_neg c12] at H; exact absurd H (by simp)
       ·rw [if_neg c11] at H; have c11b0 : decide (x5_2 < (l0.length : Int)) = false := decide_eq_false c11; clear c11; replace H := Option.bind_eq_some_iff.mp H; obtain ⟨t203, A550, H⟩ := H; replace H : (some (decide (t203 > 0))) = some r := H; have A55 := Aside0.mk A550; clear A550; obtain rfl := Option.some.inj H; simp only [Option.some.injEq, Prod.mk.injEq] at H; obtain ⟨rfl⟩ := H; (go_wp2_with (first | ((with_reducible refine gate_callee (f := 136) rfl ?_); refine goesL_ (some 94) rfl rfl Try.func136 (by kernel_rfl) rfl #[.slice A0 l0.length c0] rfl zM ?_; (with_reducible refine (spec_l13Twice.calls k2 _ _ l0 t203 _ ?side1 ?side2 A55.out).mono ?_); (case side1 => (refine zC ?_; exact (Kd.C_below HR0.out HB.out))); (case side2 => exact HC0.out); rintro e w56 ⟨rfl, hb⟩; refine ⟨_, rfl, ?_⟩; have n0_ := pS HB hb; clear HB; have HB := n0_; clear n0_; (try clear hb); (try clear hb2); (try clear hk); (try clear hi)))); (go_ret); exact ⟨zE, pR HB⟩
 ·replace c3 := Bool.eq_false_iff.mpr c3; subst c3; (have H1 : (some false) = some r := by rw [if_neg (show ¬ (false = true) by decide)] at H; exact H); clear H; have H := H1; clear H1; obtain rfl := Option.some.inj H; simp only [Option.some.injEq, Prod.mk.injEq] at H; obtain ⟨rfl⟩ := H; (go_enter Try.func97, Try.ntmps97); (go_wp2_with (first | ((with_reducible refine gate_callee (f := 103) rfl ?_); refine goesL_ (some 12) rfl rfl Try.func103 (by kernel_rfl) rfl #[.int .i64 (l0.length : Int), .int .i64 3, .int .i64 8] rfl zM ?_; (with_reducible refine (spec_l00In.calls (l0.length : Int) 3 8 false _ A2.out).mono ?_); rintro e w' ⟨rfl, ⟨nd, rfl⟩⟩; refine ⟨_, rfl, ?_⟩))); (go_ret); exact ⟨zE, pR HB⟩

end Go.Proofs.Ytlphfgbeeckjnaa.PFnExactSetSail
