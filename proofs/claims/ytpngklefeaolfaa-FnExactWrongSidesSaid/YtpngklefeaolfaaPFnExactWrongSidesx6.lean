-- Written by a program of this session (wip/tools/pp.sh).
import Derived.Test.YtpngklefeaolfaaPFnExactWrongSidesx0
import Derived.Test.YtpngklefeaolfaaPFnExactWrongSidesx4
import Derived.Test.YtpngklefeaolfaaPFnExactWrongSidesx5
namespace Go.Proofs.Ytpngklefeaolfaa.PFnExactWrongSides
open Go.RowKit Go.Proofs.YtpngklefeaolfaaW.PrintWords Go.Proofs.YtpngklefeaolfaaW.PrintLast Go.Proofs.YtpngklefeaolfaaW.PrintMore Go.Proofs.Ytpngklefeaolfaa.Small
open Bool renaming true → T, false → F
attribute [local go_sem] max2_int min2_int max_two min_two max_three min_three max_four min_four   -- for this text's walks alone
set_option linter.unusedVariables false
set_option linter.unusedSimpArgs false

/-! ### spec_l19At: function 52 -/
def spec_l19At.l0 : Nat → List (S32) → ByteArray → Int → Int → Option (Int)
 | 0, _, _, _, _ => none
 | k + 1, x0, x1, x2, x7 => if x7 < (((rd_T32 x0 0).f2).length : Int) then (if 0 ≤ x7 then (if ((rd_T40 ((rd_T32 x0 0).f2) x7).f1).toList = x1.toList then (if ((rd_T40 ((rd_T32 x0 0).f2) x7).f2) = x2 then (some x7) else (spec_l19At.l0 k x0 x1 x2 (wrap64 (x7 + 1)))) else (spec_l19At.l0 k x0 x1 x2 (wrap64 (x7 + 1)))) else (none)) else (some (-1))
def spec_l19At.f (k : Nat) (l0 : List (S32)) (a1 : ByteArray) (a2 : Int) : Option (Int) := if 0 < (l0.length : Int) then (spec_l19At.l0 k l0 a1 a2 0) else (none)
theorem spec_l19At.mono_l : ∀ k, (∀ y0 y1 y2 y3, LeO (spec_l19At.l0 k y0 y1 y2 y3) (spec_l19At.l0 (k + 1) y0 y1 y2 y3))
 | 0 => fun _ _ _ _ r h => by simp [spec_l19At.l0] at h
 | k + 1 => by
  have ih0 := spec_l19At.mono_l k
  ·intro y0 y1 y2 y3
   unfold spec_l19At.l0
   repeat' first
   | (with_reducible exact ih0 _ _ _ _)
   | (with_reducible exact LeO.refl _)
   | (with_reducible exact LeO.none _)
   | (with_reducible refine LeO.ite ?_ ?_)
   | (with_reducible refine LeO.bind ?_ (fun _ => ?_))
   | exact ih0 _ _ _ _
   | exact LeO.none _
   | refine LeO.ite ?_ ?_
   | refine LeO.bind ?_ (fun _ => ?_)
theorem spec_l19At.mono : ∀ a0 a1 a2 k, LeO (spec_l19At.f k a0 a1 a2) (spec_l19At.f (k + 1) a0 a1 a2) := by
 intro a0 a1 a2 k
 have ih0 := spec_l19At.mono_l k
 unfold spec_l19At.f
 repeat' first
   | (with_reducible exact ih0 _ _ _ _)
   | (with_reducible exact LeO.refl _)
   | (with_reducible exact LeO.none _)
   | (with_reducible refine LeO.ite ?_ ?_)
   | (with_reducible refine LeO.bind ?_ (fun _ => ?_))
   | exact ih0 _ _ _ _
   | exact LeO.none _
   | refine LeO.ite ?_ ?_
   | refine LeO.bind ?_ (fun _ => ?_)
set_option maxHeartbeats 8000000 in
set_option maxRecDepth 100000 in
theorem spec_l19At.calls (k : Nat) (A0 : Option Addr) (c0 : Nat) (l0 : List (S32)) (a1 : ByteArray) (a2 : Int) (r : Int) (w : World) (hr0 : Kd.C k32 w A0 l0.length l0) (hc0 : l0.length ≤ c0) (h : spec_l19At.f k l0 a1 a2 = some r) :
  Calls Try.prog 52 #[.pointer A0, .string a1, .int .i64 a2] w fun e w' => e = .returned (.int .i64 r) ∧ Drawn0 w w' := by
 have HR0 := Aside0.mk hr0
 have HC0 := Aside0.mk hc0
 clear hr0 hc0
 have H : (if 0 < (l0.length : Int) then (spec_l19At.l0 k l0 a1 a2 0) else (none)) = some r := h
 clear h
 by_cases c4 : 0 < (l0.length : Int)
 ·rw [if_pos c4] at H
  have c4b0 : decide (0 < (l0.length : Int)) = true := decide_eq_true c4
  have c4b1 : decide (0 < l0.length) = true := decide_eq_true (by omega)
  clear c4
  have H' := Aside0.mk H
  clear H
  have p213 : 0 ≤ (0 : Int) := (by omega)
  have q213 : 0 < (l0.length : Int) := of_decide_eq_true (by first | (with_reducible assumption) | assumption)
  obtain ⟨ad213, A213_0, c213_0, A213_1, c213_1, A213_2, c213_2, e213, hx213_0, hx213_1, hx213_2, hl213_0, hi213_0, hl213_1, hi213_1, hl213_2, hi213_2⟩ := at_T32 HR0.out 0 p213 q213
  cases e213
  have qi213 : (0 < l0.length) = True := eq_true (by omega)
  (try rw [show ((0 : Int)).toNat = 0 from rfl] at hx213_0)
  (try rw [show 0 * 3 = 0 from rfl] at hx213_0)
  (try rw [Addr.add_zero'] at hx213_0)
  (try rw [show ((0 : Int)).toNat = 0 from rfl] at hx213_1)
  (try rw [show 0 * 3 = 0 from rfl] at hx213_1)
  (try rw [Addr.add_zero'] at hx213_1)
  (try rw [show ((0 : Int)).toNat = 0 from rfl] at hx213_2)
  (try rw [show 0 * 3 = 0 from rfl] at hx213_2)
  (try rw [Addr.add_zero'] at hx213_2)
  have HR213_0 := Aside0.mk hi213_0
  have HC213_0 := Aside0.mk hl213_0
  clear hi213_0 hl213_0
  have HR213_1 := Aside0.mk hi213_1
  have HC213_1 := Aside0.mk hl213_1
  clear hi213_1 hl213_1
  have HR213_2 := Aside0.mk hi213_2
  have HC213_2 := Aside0.mk hl213_2
  clear hi213_2 hl213_2
  replace p213 := eq_true p213
  replace q213 := eq_true q213
  have RX213_0 := Aside0.mk hx213_0
  clear hx213_0
  have RX213_1 := Aside0.mk hx213_1
  clear hx213_1
  have RX213_2 := Aside0.mk hx213_2
  clear hx213_2
  go_enter Try.func52, Try.ntmps52
  go_wp2
  go_loopg [7] k (fun kq v7 w' => ∃ (x7_1 : Int), v7 = .int .i64 x7_1 ∧ Aside0 (spec_l19At.l0 kq l0 a1 a2 x7_1 = some r) ∧ Aside0 (kq ≤ k) ∧ Drawn0 w w')
  case atStart => exact ⟨(0), (by first | rfl | (simp; done) | (simp [*]; done)), H', ⟨Nat.le_refl _⟩, by repeat (first | exact Drawn0.refl _ | apply Drawn0.step)⟩
  case round =>
   clear H'
   try clear c2
   try clear p2
   try clear q2
   try clear hx2
   try clear qi2
   try clear c4
   try clear c4b0
   try clear c4b1
   try clear hx213_0
   try clear hx213_1
   try clear hx213_2
   try clear p213
   try clear q213
   obtain ⟨x7_1, rfl, HA, HK1, ⟨m1, rfl⟩⟩ := hrel
   cases gk with
   | zero => exact absurd HA.out (by simp [spec_l19At.l0])
   | succ k1 =>
    have H := HA.out
    clear HA
    simp only [spec_l19At.l0] at H
    by_cases c5 : x7_1 < (((rd_T32 l0 0).f2).length : Int)
    ·rw [if_pos c5] at H
     have c5b0 : decide (x7_1 < (((rd_T32 l0 0).f2).length : Int)) = true := decide_eq_true c5
     clear c5
     by_cases c6 : 0 ≤ x7_1
     ·rw [if_pos c6] at H
      have c6b0 : decide (0 ≤ x7_1) = true := decide_eq_true c6
      clear c6
      by_cases c7 : ((rd_T40 ((rd_T32 l0 0).f2) x7_1).f1).toList = a1.toList
      ·rw [if_pos c7] at H
       have c7b0 : (((rd_T40 ((rd_T32 l0 0).f2) x7_1).f1).toList == a1.toList) = true := beq_iff_eq.mpr c7
       have c7b1 : (((rd_T40 ((rd_T32 l0 0).f2) x7_1).f1).toList != a1.toList) = false := bne_eq_false_iff_eq.mpr c7
       clear c7
       by_cases c8 : ((rd_T40 ((rd_T32 l0 0).f2) x7_1).f2) = a2
       ·rw [if_pos c8] at H
        have c8b0 : (((rd_T40 ((rd_T32 l0 0).f2) x7_1).f2) == a2) = true := beq_iff_eq.mpr c8
        have c8b1 : (((rd_T40 ((rd_T32 l0 0).f2) x7_1).f2) != a2) = false := bne_eq_false_iff_eq.mpr c8
        clear c8
        obtain rfl := Option.some.inj H
        simp only [Option.some.injEq, Prod.mk.injEq] at H
        obtain ⟨rfl⟩ := H
        (try have hx214_0 := RX213_0.out)
        (try have hx214_1 := RX213_1.out)
        (try have hx214_2 := RX213_2.out)
        (try have hx215_0 := RX213_0.out)
        (try have hx215_1 := RX213_1.out)
        (try have hx215_2 := RX213_2.out)
        have p216 : 0 ≤ (x7_1 : Int) := of_decide_eq_true (by first | (with_reducible assumption) | assumption)
        have q216 : x7_1 < (((rd_T32 l0 0).f2).length : Int) := of_decide_eq_true (by first | (with_reducible assumption) | assumption)
        obtain ⟨ad216, e216, hx216_0, hx216_1, hx216_2⟩ := at_T40 HR213_2.out x7_1 p216 q216
        cases e216
        replace p216 := eq_true p216
        replace q216 := eq_true q216
        (try have hx217_0 := RX213_0.out)
        (try have hx217_1 := RX213_1.out)
        (try have hx217_2 := RX213_2.out)
        have p218 : 0 ≤ (x7_1 : Int) := of_decide_eq_true (by first | (with_reducible assumption) | assumption)
        have q218 : x7_1 < (((rd_T32 l0 0).f2).length : Int) := of_decide_eq_true (by first | (with_reducible assumption) | assumption)
        obtain ⟨ad218, e218, hx218_0, hx218_1, hx218_2⟩ := at_T40 HR213_2.out x7_1 p218 q218
        obtain rfl : ad216 = ad218 := (by injection e218)
        replace p218 := eq_true p218
        replace q218 := eq_true q218
        go_wp2
        go_ret
        exact ⟨by first | rfl | (simp; done) | (simp [*]; done), by repeat (first | exact Drawn0.refl _ | apply Drawn0.step)⟩
       ·rw [if_neg c8] at H
        have c8b0 : (((rd_T40 ((rd_T32 l0 0).f2) x7_1).f2) == a2) = false := beq_eq_false_iff_ne.mpr c8
        have c8b1 : (((rd_T40 ((rd_T32 l0 0).f2) x7_1).f2) != a2) = true := bne_iff_ne.mpr c8
        have H' := Aside0.mk H
        clear H
        (try have hx214_0 := RX213_0.out)
        (try have hx214_1 := RX213_1.out)
        (try have hx214_2 := RX213_2.out)
        (try have hx215_0 := RX213_0.out)
        (try have hx215_1 := RX213_1.out)
        (try have hx215_2 := RX213_2.out)
        have p216 : 0 ≤ (x7_1 : Int) := of_decide_eq_true (by first | (with_reducible assumption) | assumption)
        have q216 : x7_1 < (((rd_T32 l0 0).f2).length : Int) := of_decide_eq_true (by first | (with_reducible assumption) | assumption)
        obtain ⟨ad216, e216, hx216_0, hx216_1, hx216_2⟩ := at_T40 HR213_2.out x7_1 p216 q216
        cases e216
        replace p216 := eq_true p216
        replace q216 := eq_true q216
        (try have hx217_0 := RX213_0.out)
        (try have hx217_1 := RX213_1.out)
        (try have hx217_2 := RX213_2.out)
        have p218 : 0 ≤ (x7_1 : Int) := of_decide_eq_true (by first | (with_reducible assumption) | assumption)
        have q218 : x7_1 < (((rd_T32 l0 0).f2).length : Int) := of_decide_eq_true (by first | (with_reducible assumption) | assumption)
        obtain ⟨ad218, e218, hx218_0, hx218_1, hx218_2⟩ := at_T40 HR213_2.out x7_1 p218 q218
        obtain rfl : ad216 = ad218 := (by injection e218)
        replace p218 := eq_true p218
        replace q218 := eq_true q218
        go_wp2
        go_roundg k1
        case measure => have := HK1.out; omega
        case rel => exact ⟨(wrap64 (x7_1 + 1)), (by first | rfl | (simp; done) | (simp [*]; done)), H', ⟨by have := HK1.out; omega⟩, by repeat (first | exact Drawn0.refl _ | apply Drawn0.step)⟩
      ·rw [if_neg c7] at H
       have c7b0 : (((rd_T40 ((rd_T32 l0 0).f2) x7_1).f1).toList == a1.toList) = false := beq_eq_false_iff_ne.mpr c7
       have c7b1 : (((rd_T40 ((rd_T32 l0 0).f2) x7_1).f1).toList != a1.toList) = true := bne_iff_ne.mpr c7
       have H' := Aside0.mk H
       clear H
       (try have hx214_0 := RX213_0.out)
       (try have hx214_1 := RX213_1.out)
       (try have hx214_2 := RX213_2.out)
       (try have hx215_0 := RX213_0.out)
       (try have hx215_1 := RX213_1.out)
       (try have hx215_2 := RX213_2.out)
       have p216 : 0 ≤ (x7_1 : Int) := of_decide_eq_true (by first | (with_reducible assumption) | assumption)
       have q216 : x7_1 < (((rd_T32 l0 0).f2).length : Int) := of_decide_eq_true (by first | (with_reducible assumption) | assumption)
       obtain ⟨ad216, e216, hx216_0, hx216_1, hx216_2⟩ := at_T40 HR213_2.out x7_1 p216 q216
       cases e216
       replace p216 := eq_true p216
       replace q216 := eq_true q216
       go_wp2
       go_roundg k1
       case measure => have := HK1.out; omega
       case rel => exact ⟨(wrap64 (x7_1 + 1)), (by first | rfl | (simp; done) | (simp [*]; done)), H', ⟨by have := HK1.out; omega⟩, by repeat (first | exact Drawn0.refl _ | apply Drawn0.step)⟩
     ·rw [if_neg c6] at H
      exact absurd H (by simp)
    ·rw [if_neg c5] at H
     have c5b0 : decide (x7_1 < (((rd_T32 l0 0).f2).length : Int)) = false := decide_eq_false c5
     clear c5
     obtain rfl := Option.some.inj H
     simp only [Option.some.injEq, Prod.mk.injEq] at H
     obtain ⟨rfl⟩ := H
     (try have hx214_0 := RX213_0.out)
     (try have hx214_1 := RX213_1.out)
     (try have hx214_2 := RX213_2.out)
     go_wp2
     go_ret
     exact ⟨by first | rfl | (simp; done) | (simp [*]; done), by repeat (first | exact Drawn0.refl _ | apply Drawn0.step)⟩
 ·rw [if_neg c4] at H
  exact absurd H (by simp)

/-! ### spec_l19Of: function 58 -/
def spec_l19Of.l0 : Nat → List (S32) → ByteArray → Int → Option (Int)
 | 0, _, _, _ => none
 | k + 1, x0, x1, x5 => if x5 < (((rd_T32 x0 0).f2).length : Int) then (if 0 ≤ x5 then (if ((rd_T40 ((rd_T32 x0 0).f2) x5).f0).toList = x1.toList then (some x5) else (spec_l19Of.l0 k x0 x1 (wrap64 (x5 + 1)))) else (none)) else (some (-1))
def spec_l19Of.f (k : Nat) (l0 : List (S32)) (a1 : ByteArray) : Option (Int) := if 0 < (l0.length : Int) then (spec_l19Of.l0 k l0 a1 0) else (none)
theorem spec_l19Of.mono_l : ∀ k, (∀ y0 y1 y2, LeO (spec_l19Of.l0 k y0 y1 y2) (spec_l19Of.l0 (k + 1) y0 y1 y2))
 | 0 => fun _ _ _ r h => by simp [spec_l19Of.l0] at h
 | k + 1 => by
  have ih0 := spec_l19Of.mono_l k
  ·intro y0 y1 y2
   unfold spec_l19Of.l0
   repeat' first
   | (with_reducible exact ih0 _ _ _)
   | (with_reducible exact LeO.refl _)
   | (with_reducible exact LeO.none _)
   | (with_reducible refine LeO.ite ?_ ?_)
   | (with_reducible refine LeO.bind ?_ (fun _ => ?_))
   | exact ih0 _ _ _
   | exact LeO.none _
   | refine LeO.ite ?_ ?_
   | refine LeO.bind ?_ (fun _ => ?_)
theorem spec_l19Of.mono : ∀ a0 a1 k, LeO (spec_l19Of.f k a0 a1) (spec_l19Of.f (k + 1) a0 a1) := by
 intro a0 a1 k
 have ih0 := spec_l19Of.mono_l k
 unfold spec_l19Of.f
 repeat' first
   | (with_reducible exact ih0 _ _ _)
   | (with_reducible exact LeO.refl _)
   | (with_reducible exact LeO.none _)
   | (with_reducible refine LeO.ite ?_ ?_)
   | (with_reducible refine LeO.bind ?_ (fun _ => ?_))
   | exact ih0 _ _ _
   | exact LeO.none _
   | refine LeO.ite ?_ ?_
   | refine LeO.bind ?_ (fun _ => ?_)
set_option maxHeartbeats 8000000 in
set_option maxRecDepth 100000 in
theorem spec_l19Of.calls (k : Nat) (A0 : Option Addr) (c0 : Nat) (l0 : List (S32)) (a1 : ByteArray) (r : Int) (w : World) (hr0 : Kd.C k32 w A0 l0.length l0) (hc0 : l0.length ≤ c0) (h : spec_l19Of.f k l0 a1 = some r) :
  Calls Try.prog 58 #[.pointer A0, .string a1] w fun e w' => e = .returned (.int .i64 r) ∧ Drawn0 w w' := by
 have HR0 := Aside0.mk hr0
 have HC0 := Aside0.mk hc0
 clear hr0 hc0
 have H : (if 0 < (l0.length : Int) then (spec_l19Of.l0 k l0 a1 0) else (none)) = some r := h
 clear h
 by_cases c3 : 0 < (l0.length : Int)
 ·rw [if_pos c3] at H
  have c3b0 : decide (0 < (l0.length : Int)) = true := decide_eq_true c3
  have c3b1 : decide (0 < l0.length) = true := decide_eq_true (by omega)
  clear c3
  have H' := Aside0.mk H
  clear H
  have p219 : 0 ≤ (0 : Int) := (by omega)
  have q219 : 0 < (l0.length : Int) := of_decide_eq_true (by first | (with_reducible assumption) | assumption)
  obtain ⟨ad219, A219_0, c219_0, A219_1, c219_1, A219_2, c219_2, e219, hx219_0, hx219_1, hx219_2, hl219_0, hi219_0, hl219_1, hi219_1, hl219_2, hi219_2⟩ := at_T32 HR0.out 0 p219 q219
  cases e219
  have qi219 : (0 < l0.length) = True := eq_true (by omega)
  (try rw [show ((0 : Int)).toNat = 0 from rfl] at hx219_0)
  (try rw [show 0 * 3 = 0 from rfl] at hx219_0)
  (try rw [Addr.add_zero'] at hx219_0)
  (try rw [show ((0 : Int)).toNat = 0 from rfl] at hx219_1)
  (try rw [show 0 * 3 = 0 from rfl] at hx219_1)
  (try rw [Addr.add_zero'] at hx219_1)
  (try rw [show ((0 : Int)).toNat = 0 from rfl] at hx219_2)
  (try rw [show 0 * 3 = 0 from rfl] at hx219_2)
  (try rw [Addr.add_zero'] at hx219_2)
  have HR219_0 := Aside0.mk hi219_0
  have HC219_0 := Aside0.mk hl219_0
  clear hi219_0 hl219_0
  have HR219_1 := Aside0.mk hi219_1
  have HC219_1 := Aside0.mk hl219_1
  clear hi219_1 hl219_1
  have HR219_2 := Aside0.mk hi219_2
  have HC219_2 := Aside0.mk hl219_2
  clear hi219_2 hl219_2
  replace p219 := eq_true p219
  replace q219 := eq_true q219
  have RX219_0 := Aside0.mk hx219_0
  clear hx219_0
  have RX219_1 := Aside0.mk hx219_1
  clear hx219_1
  have RX219_2 := Aside0.mk hx219_2
  clear hx219_2
  go_enter Try.func58, Try.ntmps58
  go_wp2
  go_loopg [5] k (fun kq v5 w' => ∃ (x5_1 : Int), v5 = .int .i64 x5_1 ∧ Aside0 (spec_l19Of.l0 kq l0 a1 x5_1 = some r) ∧ Aside0 (kq ≤ k) ∧ Drawn0 w w')
  case atStart => exact ⟨(0), (by first | rfl | (simp; done) | (simp [*]; done)), H', ⟨Nat.le_refl _⟩, by repeat (first | exact Drawn0.refl _ | apply Drawn0.step)⟩
  case round =>
   clear H'
   try clear c2
   try clear p2
   try clear q2
   try clear hx2
   try clear qi2
   try clear c3
   try clear c3b0
   try clear c3b1
   try clear hx219_0
   try clear hx219_1
   try clear hx219_2
   try clear p219
   try clear q219
   obtain ⟨x5_1, rfl, HA, HK1, ⟨m1, rfl⟩⟩ := hrel
   cases gk with
   | zero => exact absurd HA.out (by simp [spec_l19Of.l0])
   | succ k1 =>
    have H := HA.out
    clear HA
    simp only [spec_l19Of.l0] at H
    by_cases c4 : x5_1 < (((rd_T32 l0 0).f2).length : Int)
    ·rw [if_pos c4] at H
     have c4b0 : decide (x5_1 < (((rd_T32 l0 0).f2).length : Int)) = true := decide_eq_true c4
     clear c4
     by_cases c5 : 0 ≤ x5_1
     ·rw [if_pos c5] at H
      have c5b0 : decide (0 ≤ x5_1) = true := decide_eq_true c5
      clear c5
      by_cases c6 : ((rd_T40 ((rd_T32 l0 0).f2) x5_1).f0).toList = a1.toList
      ·rw [if_pos c6] at H
       have c6b0 : (((rd_T40 ((rd_T32 l0 0).f2) x5_1).f0).toList == a1.toList) = true := beq_iff_eq.mpr c6
       have c6b1 : (((rd_T40 ((rd_T32 l0 0).f2) x5_1).f0).toList != a1.toList) = false := bne_eq_false_iff_eq.mpr c6
       clear c6
       obtain rfl := Option.some.inj H
       simp only [Option.some.injEq, Prod.mk.injEq] at H
       obtain ⟨rfl⟩ := H
       (try have hx220_0 := RX219_0.out)
       (try have hx220_1 := RX219_1.out)
       (try have hx220_2 := RX219_2.out)
       (try have hx221_0 := RX219_0.out)
       (try have hx221_1 := RX219_1.out)
       (try have hx221_2 := RX219_2.out)
       have p222 : 0 ≤ (x5_1 : Int) := of_decide_eq_true (by first | (with_reducible assumption) | assumption)
       have q222 : x5_1 < (((rd_T32 l0 0).f2).length : Int) := of_decide_eq_true (by first | (with_reducible assumption) | assumption)
       obtain ⟨ad222, e222, hx222_0, hx222_1, hx222_2⟩ := at_T40 HR219_2.out x5_1 p222 q222
       cases e222
       replace p222 := eq_true p222
       replace q222 := eq_true q222
       go_wp2
       go_ret
       exact ⟨by first | rfl | (simp; done) | (simp [*]; done), by repeat (first | exact Drawn0.refl _ | apply Drawn0.step)⟩
      ·rw [if_neg c6] at H
       have c6b0 : (((rd_T40 ((rd_T32 l0 0).f2) x5_1).f0).toList == a1.toList) = false := beq_eq_false_iff_ne.mpr c6
       have c6b1 : (((rd_T40 ((rd_T32 l0 0).f2) x5_1).f0).toList != a1.toList) = true := bne_iff_ne.mpr c6
       have H' := Aside0.mk H
       clear H
       (try have hx220_0 := RX219_0.out)
       (try have hx220_1 := RX219_1.out)
       (try have hx220_2 := RX219_2.out)
       (try have hx221_0 := RX219_0.out)
       (try have hx221_1 := RX219_1.out)
       (try have hx221_2 := RX219_2.out)
       have p222 : 0 ≤ (x5_1 : Int) := of_decide_eq_true (by first | (with_reducible assumption) | assumption)
       have q222 : x5_1 < (((rd_T32 l0 0).f2).length : Int) := of_decide_eq_true (by first | (with_reducible assumption) | assumption)
       obtain ⟨ad222, e222, hx222_0, hx222_1, hx222_2⟩ := at_T40 HR219_2.out x5_1 p222 q222
       cases e222
       replace p222 := eq_true p222
       replace q222 := eq_true q222
       go_wp2
       go_roundg k1
       case measure => have := HK1.out; omega
       case rel => exact ⟨(wrap64 (x5_1 + 1)), (by first | rfl | (simp; done) | (simp [*]; done)), H', ⟨by have := HK1.out; omega⟩, by repeat (first | exact Drawn0.refl _ | apply Drawn0.step)⟩
     ·rw [if_neg c5] at H
      exact absurd H (by simp)
    ·rw [if_neg c4] at H
     have c4b0 : decide (x5_1 < (((rd_T32 l0 0).f2).length : Int)) = false := decide_eq_false c4
     clear c4
     obtain rfl := Option.some.inj H
     simp only [Option.some.injEq, Prod.mk.injEq] at H
     obtain ⟨rfl⟩ := H
     (try have hx220_0 := RX219_0.out)
     (try have hx220_1 := RX219_1.out)
     (try have hx220_2 := RX219_2.out)
     go_wp2
     go_ret
     exact ⟨by first | rfl | (simp; done) | (simp [*]; done), by repeat (first | exact Drawn0.refl _ | apply Drawn0.step)⟩
 ·rw [if_neg c3] at H
  exact absurd H (by simp)

/-! ### spec_l19AddBelay: function 73, by hand -/
set_option maxHeartbeats 8000000 in
set_option maxRecDepth 100000 in
theorem spec_addBelay_go (w0 w : World) (g : Nat) (v1 v2 v3 : Value) (R : List S69) (L : List ByteArray) (B : List S40) (b : S40) (t o a : Int) (b2 b3 : Bool) (HI : RigAt w0 w g v1 v2 v3 R L B) (hl : B.length ≤ 1048576) (htl : t < R.length)
  (hT : ∀ w, Kd.C k32 w (some ⟨g, 0, none⟩) 1 [⟨R, L, B⟩] → Calls Try.prog 50 #[.pointer (some ⟨g, 0, none⟩), .string b.f1] w fun e w' => e = .returned (.int .i64 t) ∧ Drawn0 w w')
  (hE : ∀ w, Kd.C k32 w (some ⟨g, 0, none⟩) 1 [⟨R, L, B⟩] → Calls Try.prog 64 #[.pointer (some ⟨g, 0, none⟩), .string b.f0] w fun e w' => e = .returned (.bool b2) ∧ Drawn0 w w')
  (hW : ∀ w, Calls Try.prog 51 #[.int .i64 b.f2, .int .i64 1, .int .i64 (rd_T69 R t).f2] w fun e w' => e = .returned (.bool b3) ∧ Drawn0 w w')
  (hO : ∀ w, Kd.C k32 w (some ⟨g, 0, none⟩) 1 [⟨R, L, B⟩] → Calls Try.prog 58 #[.pointer (some ⟨g, 0, none⟩), .string b.f0] w fun e w' => e = .returned (.int .i64 o) ∧ Drawn0 w w')
  (hA : ∀ w, Kd.C k32 w (some ⟨g, 0, none⟩) 1 [⟨R, L, B⟩] → Calls Try.prog 52 #[.pointer (some ⟨g, 0, none⟩), .string b.f1, .int .i64 b.f2] w fun e w' => e = .returned (.int .i64 a) ∧ Drawn0 w w') :
  Calls Try.prog 73 #[.pointer (some ⟨g, 0, none⟩), .agg #[.string b.f0, .string b.f1, .int .i64 b.f2]] w fun e w' => ∃ v3', e = .returned (.int .i64 (addBelayN t b2 b3 o a)) ∧ RigAt w0 w' g v1 v2 v3' R L (addBelayB t b2 b3 o a B b) := by
 have HI0 := Aside0.mk HI
 have HL := Aside0.mk hl
 have HT := Aside0.mk hT
 have HE := Aside0.mk hE
 have HW := Aside0.mk hW
 have HO := Aside0.mk hO
 have HA := Aside0.mk hA
 clear HI hl hT hE hW hO hA
 obtain ⟨nm, sd, pn⟩ := b
 obtain ⟨A1, c1, rfl⟩ := Kd.R_slice HI0.out.r1
 obtain ⟨A2, c2, rfl⟩ := Kd.R_slice HI0.out.r2
 obtain ⟨A3, c3, rfl⟩ := Kd.R_slice HI0.out.r3
 show Calls Try.prog 73 #[.pointer (some ⟨g, 0, none⟩), .agg #[.string nm, .string sd, .int .i64 pn]] w fun e w' => ∃ v3', e = .returned (.int .i64 (addBelayN t b2 b3 o a)) ∧ RigAt w0 w' g _ _ v3' R L (addBelayB t b2 b3 o a B ⟨nm, sd, pn⟩)
 by_cases ht : t < 0
 ·have ht0 : decide (t < 0) = true := decide_eq_true ht
  have HT0 := Aside0.mk ht
  clear ht
  go_enter Try.func73, Try.ntmps73
  go_wp2_with (first | ((with_reducible refine gate_dst (N := 3) rfl ?_); refine box_event ?hg (N := 3) ?hd (cs := #[.string nm, .string sd, .int .i64 pn]) (t := 40) ?hr ?_; (case hd => rfl); (case hg => rfl); (case hr => first | (go_simp; done) | (go_simp; rfl)); intro gb hg w1 hbox hb; have n0_ := Aside0.mk (HI0.out.later hb); have n1_ := Aside0.mk hbox; clear HI0 hbox hb hg; have HI0 := n0_; have BR := n1_; clear n0_ n1_; have BX := Aside0.mk HI0.out.box; obtain ⟨hx0, hx1, hx2, hy0, hy1, hy2⟩ := cz3 BX; clear BX; obtain ⟨hr0, hr1, hr2, hs0, hs1, hs2⟩ := cz3 BR) | (go_at_call 50; (with_reducible refine (HT.out _ HI0.out.C).mono ?_); rintro e w2 ⟨rfl, hd⟩; obtain ⟨nd, rfl⟩ := hd; clear hr0 hr1 hr2 hs0 hs1 hs2 hx0 hx1 hx2 hy0 hy1 hy2; have n0_ := Aside0.mk (HI0.out.drawn ⟨⟨nd, rfl⟩⟩); have n1_ := Aside0.mk (blk_drewN BR.out nd); clear HI0 BR; have HI0 := n0_; have BR := n1_; clear n0_ n1_; generalize World.drewN _ nd = w2 at HI0 BR ⊢; have BX := Aside0.mk HI0.out.box; obtain ⟨hx0, hx1, hx2, hy0, hy1, hy2⟩ := cz3 BX; clear BX; obtain ⟨hr0, hr1, hr2, hs0, hs1, hs2⟩ := cz3 BR) | (go_at_call 64; (with_reducible refine (HE.out _ HI0.out.C).mono ?_); rintro e w2 ⟨rfl, hd⟩; obtain ⟨nd, rfl⟩ := hd; clear hr0 hr1 hr2 hs0 hs1 hs2 hx0 hx1 hx2 hy0 hy1 hy2; have n0_ := Aside0.mk (HI0.out.drawn ⟨⟨nd, rfl⟩⟩); have n1_ := Aside0.mk (blk_drewN BR.out nd); clear HI0 BR; have HI0 := n0_; have BR := n1_; clear n0_ n1_; generalize World.drewN _ nd = w2 at HI0 BR ⊢; have BX := Aside0.mk HI0.out.box; obtain ⟨hx0, hx1, hx2, hy0, hy1, hy2⟩ := cz3 BX; clear BX; obtain ⟨hr0, hr1, hr2, hs0, hs1, hs2⟩ := cz3 BR) | (go_at_call 51; (with_reducible refine (HW.out _).mono ?_); rintro e w2 ⟨rfl, hd⟩; obtain ⟨nd, rfl⟩ := hd; clear hr0 hr1 hr2 hs0 hs1 hs2 hx0 hx1 hx2 hy0 hy1 hy2; have n0_ := Aside0.mk (HI0.out.drawn ⟨⟨nd, rfl⟩⟩); have n1_ := Aside0.mk (blk_drewN BR.out nd); clear HI0 BR; have HI0 := n0_; have BR := n1_; clear n0_ n1_; generalize World.drewN _ nd = w2 at HI0 BR ⊢; have BX := Aside0.mk HI0.out.box; obtain ⟨hx0, hx1, hx2, hy0, hy1, hy2⟩ := cz3 BX; clear BX; obtain ⟨hr0, hr1, hr2, hs0, hs1, hs2⟩ := cz3 BR) | (go_at_call 58; (with_reducible refine (HO.out _ HI0.out.C).mono ?_); rintro e w2 ⟨rfl, hd⟩; obtain ⟨nd, rfl⟩ := hd; clear hr0 hr1 hr2 hs0 hs1 hs2 hx0 hx1 hx2 hy0 hy1 hy2; have n0_ := Aside0.mk (HI0.out.drawn ⟨⟨nd, rfl⟩⟩); have n1_ := Aside0.mk (blk_drewN BR.out nd); clear HI0 BR; have HI0 := n0_; have BR := n1_; clear n0_ n1_; generalize World.drewN _ nd = w2 at HI0 BR ⊢; have BX := Aside0.mk HI0.out.box; obtain ⟨hx0, hx1, hx2, hy0, hy1, hy2⟩ := cz3 BX; clear BX; obtain ⟨hr0, hr1, hr2, hs0, hs1, hs2⟩ := cz3 BR) | (go_at_call 52; (with_reducible refine (HA.out _ HI0.out.C).mono ?_); rintro e w2 ⟨rfl, hd⟩; obtain ⟨nd, rfl⟩ := hd; clear hr0 hr1 hr2 hs0 hs1 hs2 hx0 hx1 hx2 hy0 hy1 hy2; have n0_ := Aside0.mk (HI0.out.drawn ⟨⟨nd, rfl⟩⟩); have n1_ := Aside0.mk (blk_drewN BR.out nd); clear HI0 BR; have HI0 := n0_; have BR := n1_; clear n0_ n1_; generalize World.drewN _ nd = w2 at HI0 BR ⊢; have BX := Aside0.mk HI0.out.box; obtain ⟨hx0, hx1, hx2, hy0, hy1, hy2⟩ := cz3 BX; clear BX; obtain ⟨hr0, hr1, hr2, hs0, hs1, hs2⟩ := cz3 BR))
  go_ret
  exact ⟨_, by rw [addBelayN, if_pos HT0.out]; rfl, by simpa [addBelayB, addBelayN, HT0.out] using HI0.out⟩
 ·have ht0 : decide (t < 0) = false := decide_eq_false ht
  have ht1 : 0 ≤ t := by omega
  have HT0 := Aside0.mk ht
  clear ht
  cases b2 with
  | false =>
   go_enter Try.func73, Try.ntmps73
   go_wp2_with (first | ((with_reducible refine gate_dst (N := 3) rfl ?_); refine box_event ?hg (N := 3) ?hd (cs := #[.string nm, .string sd, .int .i64 pn]) (t := 40) ?hr ?_; (case hd => rfl); (case hg => rfl); (case hr => first | (go_simp; done) | (go_simp; rfl)); intro gb hg w1 hbox hb; have n0_ := Aside0.mk (HI0.out.later hb); have n1_ := Aside0.mk hbox; clear HI0 hbox hb hg; have HI0 := n0_; have BR := n1_; clear n0_ n1_; have BX := Aside0.mk HI0.out.box; obtain ⟨hx0, hx1, hx2, hy0, hy1, hy2⟩ := cz3 BX; clear BX; obtain ⟨hr0, hr1, hr2, hs0, hs1, hs2⟩ := cz3 BR) | (go_at_call 50; (with_reducible refine (HT.out _ HI0.out.C).mono ?_); rintro e w2 ⟨rfl, hd⟩; obtain ⟨nd, rfl⟩ := hd; clear hr0 hr1 hr2 hs0 hs1 hs2 hx0 hx1 hx2 hy0 hy1 hy2; have n0_ := Aside0.mk (HI0.out.drawn ⟨⟨nd, rfl⟩⟩); have n1_ := Aside0.mk (blk_drewN BR.out nd); clear HI0 BR; have HI0 := n0_; have BR := n1_; clear n0_ n1_; generalize World.drewN _ nd = w2 at HI0 BR ⊢; have BX := Aside0.mk HI0.out.box; obtain ⟨hx0, hx1, hx2, hy0, hy1, hy2⟩ := cz3 BX; clear BX; obtain ⟨hr0, hr1, hr2, hs0, hs1, hs2⟩ := cz3 BR) | (go_at_call 64; (with_reducible refine (HE.out _ HI0.out.C).mono ?_); rintro e w2 ⟨rfl, hd⟩; obtain ⟨nd, rfl⟩ := hd; clear hr0 hr1 hr2 hs0 hs1 hs2 hx0 hx1 hx2 hy0 hy1 hy2; have n0_ := Aside0.mk (HI0.out.drawn ⟨⟨nd, rfl⟩⟩); have n1_ := Aside0.mk (blk_drewN BR.out nd); clear HI0 BR; have HI0 := n0_; have BR := n1_; clear n0_ n1_; generalize World.drewN _ nd = w2 at HI0 BR ⊢; have BX := Aside0.mk HI0.out.box; obtain ⟨hx0, hx1, hx2, hy0, hy1, hy2⟩ := cz3 BX; clear BX; obtain ⟨hr0, hr1, hr2, hs0, hs1, hs2⟩ := cz3 BR) | (go_at_call 51; (with_reducible refine (HW.out _).mono ?_); rintro e w2 ⟨rfl, hd⟩; obtain ⟨nd, rfl⟩ := hd; clear hr0 hr1 hr2 hs0 hs1 hs2 hx0 hx1 hx2 hy0 hy1 hy2; have n0_ := Aside0.mk (HI0.out.drawn ⟨⟨nd, rfl⟩⟩); have n1_ := Aside0.mk (blk_drewN BR.out nd); clear HI0 BR; have HI0 := n0_; have BR := n1_; clear n0_ n1_; generalize World.drewN _ nd = w2 at HI0 BR ⊢; have BX := Aside0.mk HI0.out.box; obtain ⟨hx0, hx1, hx2, hy0, hy1, hy2⟩ := cz3 BX; clear BX; obtain ⟨hr0, hr1, hr2, hs0, hs1, hs2⟩ := cz3 BR) | (go_at_call 58; (with_reducible refine (HO.out _ HI0.out.C).mono ?_); rintro e w2 ⟨rfl, hd⟩; obtain ⟨nd, rfl⟩ := hd; clear hr0 hr1 hr2 hs0 hs1 hs2 hx0 hx1 hx2 hy0 hy1 hy2; have n0_ := Aside0.mk (HI0.out.drawn ⟨⟨nd, rfl⟩⟩); have n1_ := Aside0.mk (blk_drewN BR.out nd); clear HI0 BR; have HI0 := n0_; have BR := n1_; clear n0_ n1_; generalize World.drewN _ nd = w2 at HI0 BR ⊢; have BX := Aside0.mk HI0.out.box; obtain ⟨hx0, hx1, hx2, hy0, hy1, hy2⟩ := cz3 BX; clear BX; obtain ⟨hr0, hr1, hr2, hs0, hs1, hs2⟩ := cz3 BR) | (go_at_call 52; (with_reducible refine (HA.out _ HI0.out.C).mono ?_); rintro e w2 ⟨rfl, hd⟩; obtain ⟨nd, rfl⟩ := hd; clear hr0 hr1 hr2 hs0 hs1 hs2 hx0 hx1 hx2 hy0 hy1 hy2; have n0_ := Aside0.mk (HI0.out.drawn ⟨⟨nd, rfl⟩⟩); have n1_ := Aside0.mk (blk_drewN BR.out nd); clear HI0 BR; have HI0 := n0_; have BR := n1_; clear n0_ n1_; generalize World.drewN _ nd = w2 at HI0 BR ⊢; have BX := Aside0.mk HI0.out.box; obtain ⟨hx0, hx1, hx2, hy0, hy1, hy2⟩ := cz3 BX; clear BX; obtain ⟨hr0, hr1, hr2, hs0, hs1, hs2⟩ := cz3 BR))
   go_ret
   exact ⟨_, by rw [addBelayN, if_neg (show ¬ t < 0 by have := HT0.out; omega), if_pos rfl]; rfl, by simpa [addBelayB, addBelayN, show ¬ t < 0 by have := HT0.out; omega] using HI0.out⟩
  | true =>
   cases b3 with
   | false =>
    go_enter Try.func73, Try.ntmps73
    go_wp2_with (first | ((with_reducible refine gate_dst (N := 3) rfl ?_); refine box_event ?hg (N := 3) ?hd (cs := #[.string nm, .string sd, .int .i64 pn]) (t := 40) ?hr ?_; (case hd => rfl); (case hg => rfl); (case hr => first | (go_simp; done) | (go_simp; rfl)); intro gb hg w1 hbox hb; have n0_ := Aside0.mk (HI0.out.later hb); have n1_ := Aside0.mk hbox; clear HI0 hbox hb hg; have HI0 := n0_; have BR := n1_; clear n0_ n1_; have BX := Aside0.mk HI0.out.box; obtain ⟨hx0, hx1, hx2, hy0, hy1, hy2⟩ := cz3 BX; clear BX; obtain ⟨hr0, hr1, hr2, hs0, hs1, hs2⟩ := cz3 BR) | (go_at_call 50; (with_reducible refine (HT.out _ HI0.out.C).mono ?_); rintro e w2 ⟨rfl, hd⟩; obtain ⟨nd, rfl⟩ := hd; clear hr0 hr1 hr2 hs0 hs1 hs2 hx0 hx1 hx2 hy0 hy1 hy2; have n0_ := Aside0.mk (HI0.out.drawn ⟨⟨nd, rfl⟩⟩); have n1_ := Aside0.mk (blk_drewN BR.out nd); clear HI0 BR; have HI0 := n0_; have BR := n1_; clear n0_ n1_; generalize World.drewN _ nd = w2 at HI0 BR ⊢; have BX := Aside0.mk HI0.out.box; obtain ⟨hx0, hx1, hx2, hy0, hy1, hy2⟩ := cz3 BX; clear BX; obtain ⟨hr0, hr1, hr2, hs0, hs1, hs2⟩ := cz3 BR) | (go_at_call 64; (with_reducible refine (HE.out _ HI0.out.C).mono ?_); rintro e w2 ⟨rfl, hd⟩; obtain ⟨nd, rfl⟩ := hd; clear hr0 hr1 hr2 hs0 hs1 hs2 hx0 hx1 hx2 hy0 hy1 hy2; have n0_ := Aside0.mk (HI0.out.drawn ⟨⟨nd, rfl⟩⟩); have n1_ := Aside0.mk (blk_drewN BR.out nd); clear HI0 BR; have HI0 := n0_; have BR := n1_; clear n0_ n1_; generalize World.drewN _ nd = w2 at HI0 BR ⊢; have BX := Aside0.mk HI0.out.box; obtain ⟨hx0, hx1, hx2, hy0, hy1, hy2⟩ := cz3 BX; clear BX; obtain ⟨hr0, hr1, hr2, hs0, hs1, hs2⟩ := cz3 BR) | (go_at_call 51; (with_reducible refine (HW.out _).mono ?_); rintro e w2 ⟨rfl, hd⟩; obtain ⟨nd, rfl⟩ := hd; clear hr0 hr1 hr2 hs0 hs1 hs2 hx0 hx1 hx2 hy0 hy1 hy2; have n0_ := Aside0.mk (HI0.out.drawn ⟨⟨nd, rfl⟩⟩); have n1_ := Aside0.mk (blk_drewN BR.out nd); clear HI0 BR; have HI0 := n0_; have BR := n1_; clear n0_ n1_; generalize World.drewN _ nd = w2 at HI0 BR ⊢; have BX := Aside0.mk HI0.out.box; obtain ⟨hx0, hx1, hx2, hy0, hy1, hy2⟩ := cz3 BX; clear BX; obtain ⟨hr0, hr1, hr2, hs0, hs1, hs2⟩ := cz3 BR) | (go_at_call 58; (with_reducible refine (HO.out _ HI0.out.C).mono ?_); rintro e w2 ⟨rfl, hd⟩; obtain ⟨nd, rfl⟩ := hd; clear hr0 hr1 hr2 hs0 hs1 hs2 hx0 hx1 hx2 hy0 hy1 hy2; have n0_ := Aside0.mk (HI0.out.drawn ⟨⟨nd, rfl⟩⟩); have n1_ := Aside0.mk (blk_drewN BR.out nd); clear HI0 BR; have HI0 := n0_; have BR := n1_; clear n0_ n1_; generalize World.drewN _ nd = w2 at HI0 BR ⊢; have BX := Aside0.mk HI0.out.box; obtain ⟨hx0, hx1, hx2, hy0, hy1, hy2⟩ := cz3 BX; clear BX; obtain ⟨hr0, hr1, hr2, hs0, hs1, hs2⟩ := cz3 BR) | (go_at_call 52; (with_reducible refine (HA.out _ HI0.out.C).mono ?_); rintro e w2 ⟨rfl, hd⟩; obtain ⟨nd, rfl⟩ := hd; clear hr0 hr1 hr2 hs0 hs1 hs2 hx0 hx1 hx2 hy0 hy1 hy2; have n0_ := Aside0.mk (HI0.out.drawn ⟨⟨nd, rfl⟩⟩); have n1_ := Aside0.mk (blk_drewN BR.out nd); clear HI0 BR; have HI0 := n0_; have BR := n1_; clear n0_ n1_; generalize World.drewN _ nd = w2 at HI0 BR ⊢; have BX := Aside0.mk HI0.out.box; obtain ⟨hx0, hx1, hx2, hy0, hy1, hy2⟩ := cz3 BX; clear BX; obtain ⟨hr0, hr1, hr2, hs0, hs1, hs2⟩ := cz3 BR))
    obtain ⟨ad, e0, ha0, ha1, ha2⟩ := at_T69 (Kd.R_reads' HI0.out.r1).2.2 t ht1 htl
    subst e0
    go_still_tail 10, (by kernel_rfl)
    change wpList _ _ _ _ _ w2.drew
    clear hr0 hr1 hr2 hs0 hs1 hs2 hx0 hx1 hx2 hy0 hy1 hy2
    clear ha0 ha1 ha2
    have n0_ := Aside0.mk HI0.out.drew
    have n1_ := Aside0.mk (blk_drew BR.out)
    clear HI0 BR
    have HI0 := n0_
    have BR := n1_
    clear n0_ n1_
    generalize w2.drew = wd at HI0 BR ⊢
    have BX := Aside0.mk HI0.out.box
    obtain ⟨hx0, hx1, hx2, hy0, hy1, hy2⟩ := cz3 BX
    clear BX
    obtain ⟨hr0, hr1, hr2, hs0, hs1, hs2⟩ := cz3 BR
    go_wp2_with (first | ((with_reducible refine gate_dst (N := 3) rfl ?_); refine box_event ?hg (N := 3) ?hd (cs := #[.string nm, .string sd, .int .i64 pn]) (t := 40) ?hr ?_; (case hd => rfl); (case hg => rfl); (case hr => first | (go_simp; done) | (go_simp; rfl)); intro gb hg w1 hbox hb; have n0_ := Aside0.mk (HI0.out.later hb); have n1_ := Aside0.mk hbox; clear HI0 hbox hb hg; have HI0 := n0_; have BR := n1_; clear n0_ n1_; have BX := Aside0.mk HI0.out.box; obtain ⟨hx0, hx1, hx2, hy0, hy1, hy2⟩ := cz3 BX; clear BX; obtain ⟨hr0, hr1, hr2, hs0, hs1, hs2⟩ := cz3 BR) | (go_at_call 50; (with_reducible refine (HT.out _ HI0.out.C).mono ?_); rintro e w2 ⟨rfl, hd⟩; obtain ⟨nd, rfl⟩ := hd; clear hr0 hr1 hr2 hs0 hs1 hs2 hx0 hx1 hx2 hy0 hy1 hy2; have n0_ := Aside0.mk (HI0.out.drawn ⟨⟨nd, rfl⟩⟩); have n1_ := Aside0.mk (blk_drewN BR.out nd); clear HI0 BR; have HI0 := n0_; have BR := n1_; clear n0_ n1_; generalize World.drewN _ nd = w2 at HI0 BR ⊢; have BX := Aside0.mk HI0.out.box; obtain ⟨hx0, hx1, hx2, hy0, hy1, hy2⟩ := cz3 BX; clear BX; obtain ⟨hr0, hr1, hr2, hs0, hs1, hs2⟩ := cz3 BR) | (go_at_call 64; (with_reducible refine (HE.out _ HI0.out.C).mono ?_); rintro e w2 ⟨rfl, hd⟩; obtain ⟨nd, rfl⟩ := hd; clear hr0 hr1 hr2 hs0 hs1 hs2 hx0 hx1 hx2 hy0 hy1 hy2; have n0_ := Aside0.mk (HI0.out.drawn ⟨⟨nd, rfl⟩⟩); have n1_ := Aside0.mk (blk_drewN BR.out nd); clear HI0 BR; have HI0 := n0_; have BR := n1_; clear n0_ n1_; generalize World.drewN _ nd = w2 at HI0 BR ⊢; have BX := Aside0.mk HI0.out.box; obtain ⟨hx0, hx1, hx2, hy0, hy1, hy2⟩ := cz3 BX; clear BX; obtain ⟨hr0, hr1, hr2, hs0, hs1, hs2⟩ := cz3 BR) | (go_at_call 51; (with_reducible refine (HW.out _).mono ?_); rintro e w2 ⟨rfl, hd⟩; obtain ⟨nd, rfl⟩ := hd; clear hr0 hr1 hr2 hs0 hs1 hs2 hx0 hx1 hx2 hy0 hy1 hy2; have n0_ := Aside0.mk (HI0.out.drawn ⟨⟨nd, rfl⟩⟩); have n1_ := Aside0.mk (blk_drewN BR.out nd); clear HI0 BR; have HI0 := n0_; have BR := n1_; clear n0_ n1_; generalize World.drewN _ nd = w2 at HI0 BR ⊢; have BX := Aside0.mk HI0.out.box; obtain ⟨hx0, hx1, hx2, hy0, hy1, hy2⟩ := cz3 BX; clear BX; obtain ⟨hr0, hr1, hr2, hs0, hs1, hs2⟩ := cz3 BR) | (go_at_call 58; (with_reducible refine (HO.out _ HI0.out.C).mono ?_); rintro e w2 ⟨rfl, hd⟩; obtain ⟨nd, rfl⟩ := hd; clear hr0 hr1 hr2 hs0 hs1 hs2 hx0 hx1 hx2 hy0 hy1 hy2; have n0_ := Aside0.mk (HI0.out.drawn ⟨⟨nd, rfl⟩⟩); have n1_ := Aside0.mk (blk_drewN BR.out nd); clear HI0 BR; have HI0 := n0_; have BR := n1_; clear n0_ n1_; generalize World.drewN _ nd = w2 at HI0 BR ⊢; have BX := Aside0.mk HI0.out.box; obtain ⟨hx0, hx1, hx2, hy0, hy1, hy2⟩ := cz3 BX; clear BX; obtain ⟨hr0, hr1, hr2, hs0, hs1, hs2⟩ := cz3 BR) | (go_at_call 52; (with_reducible refine (HA.out _ HI0.out.C).mono ?_); rintro e w2 ⟨rfl, hd⟩; obtain ⟨nd, rfl⟩ := hd; clear hr0 hr1 hr2 hs0 hs1 hs2 hx0 hx1 hx2 hy0 hy1 hy2; have n0_ := Aside0.mk (HI0.out.drawn ⟨⟨nd, rfl⟩⟩); have n1_ := Aside0.mk (blk_drewN BR.out nd); clear HI0 BR; have HI0 := n0_; have BR := n1_; clear n0_ n1_; generalize World.drewN _ nd = w2 at HI0 BR ⊢; have BX := Aside0.mk HI0.out.box; obtain ⟨hx0, hx1, hx2, hy0, hy1, hy2⟩ := cz3 BX; clear BX; obtain ⟨hr0, hr1, hr2, hs0, hs1, hs2⟩ := cz3 BR))
    go_ret
    exact ⟨_, by rw [addBelayN, if_neg (show ¬ t < 0 by have := HT0.out; omega), if_neg (by simp), if_pos rfl]; rfl, by simpa [addBelayB, addBelayN, show ¬ t < 0 by have := HT0.out; omega] using HI0.out⟩
   | true =>
    by_cases ho : o ≥ 0
    ·have ho0 : decide (o ≥ 0) = true := decide_eq_true ho
     have ho1 : decide (0 ≤ o) = true := decide_eq_true ho
     have HO0 := Aside0.mk ho
     clear ho
     go_enter Try.func73, Try.ntmps73
     go_wp2_with (first | ((with_reducible refine gate_dst (N := 3) rfl ?_); refine box_event ?hg (N := 3) ?hd (cs := #[.string nm, .string sd, .int .i64 pn]) (t := 40) ?hr ?_; (case hd => rfl); (case hg => rfl); (case hr => first | (go_simp; done) | (go_simp; rfl)); intro gb hg w1 hbox hb; have n0_ := Aside0.mk (HI0.out.later hb); have n1_ := Aside0.mk hbox; clear HI0 hbox hb hg; have HI0 := n0_; have BR := n1_; clear n0_ n1_; have BX := Aside0.mk HI0.out.box; obtain ⟨hx0, hx1, hx2, hy0, hy1, hy2⟩ := cz3 BX; clear BX; obtain ⟨hr0, hr1, hr2, hs0, hs1, hs2⟩ := cz3 BR) | (go_at_call 50; (with_reducible refine (HT.out _ HI0.out.C).mono ?_); rintro e w2 ⟨rfl, hd⟩; obtain ⟨nd, rfl⟩ := hd; clear hr0 hr1 hr2 hs0 hs1 hs2 hx0 hx1 hx2 hy0 hy1 hy2; have n0_ := Aside0.mk (HI0.out.drawn ⟨⟨nd, rfl⟩⟩); have n1_ := Aside0.mk (blk_drewN BR.out nd); clear HI0 BR; have HI0 := n0_; have BR := n1_; clear n0_ n1_; generalize World.drewN _ nd = w2 at HI0 BR ⊢; have BX := Aside0.mk HI0.out.box; obtain ⟨hx0, hx1, hx2, hy0, hy1, hy2⟩ := cz3 BX; clear BX; obtain ⟨hr0, hr1, hr2, hs0, hs1, hs2⟩ := cz3 BR) | (go_at_call 64; (with_reducible refine (HE.out _ HI0.out.C).mono ?_); rintro e w2 ⟨rfl, hd⟩; obtain ⟨nd, rfl⟩ := hd; clear hr0 hr1 hr2 hs0 hs1 hs2 hx0 hx1 hx2 hy0 hy1 hy2; have n0_ := Aside0.mk (HI0.out.drawn ⟨⟨nd, rfl⟩⟩); have n1_ := Aside0.mk (blk_drewN BR.out nd); clear HI0 BR; have HI0 := n0_; have BR := n1_; clear n0_ n1_; generalize World.drewN _ nd = w2 at HI0 BR ⊢; have BX := Aside0.mk HI0.out.box; obtain ⟨hx0, hx1, hx2, hy0, hy1, hy2⟩ := cz3 BX; clear BX; obtain ⟨hr0, hr1, hr2, hs0, hs1, hs2⟩ := cz3 BR) | (go_at_call 51; (with_reducible refine (HW.out _).mono ?_); rintro e w2 ⟨rfl, hd⟩; obtain ⟨nd, rfl⟩ := hd; clear hr0 hr1 hr2 hs0 hs1 hs2 hx0 hx1 hx2 hy0 hy1 hy2; have n0_ := Aside0.mk (HI0.out.drawn ⟨⟨nd, rfl⟩⟩); have n1_ := Aside0.mk (blk_drewN BR.out nd); clear HI0 BR; have HI0 := n0_; have BR := n1_; clear n0_ n1_; generalize World.drewN _ nd = w2 at HI0 BR ⊢; have BX := Aside0.mk HI0.out.box; obtain ⟨hx0, hx1, hx2, hy0, hy1, hy2⟩ := cz3 BX; clear BX; obtain ⟨hr0, hr1, hr2, hs0, hs1, hs2⟩ := cz3 BR) | (go_at_call 58; (with_reducible refine (HO.out _ HI0.out.C).mono ?_); rintro e w2 ⟨rfl, hd⟩; obtain ⟨nd, rfl⟩ := hd; clear hr0 hr1 hr2 hs0 hs1 hs2 hx0 hx1 hx2 hy0 hy1 hy2; have n0_ := Aside0.mk (HI0.out.drawn ⟨⟨nd, rfl⟩⟩); have n1_ := Aside0.mk (blk_drewN BR.out nd); clear HI0 BR; have HI0 := n0_; have BR := n1_; clear n0_ n1_; generalize World.drewN _ nd = w2 at HI0 BR ⊢; have BX := Aside0.mk HI0.out.box; obtain ⟨hx0, hx1, hx2, hy0, hy1, hy2⟩ := cz3 BX; clear BX; obtain ⟨hr0, hr1, hr2, hs0, hs1, hs2⟩ := cz3 BR) | (go_at_call 52; (with_reducible refine (HA.out _ HI0.out.C).mono ?_); rintro e w2 ⟨rfl, hd⟩; obtain ⟨nd, rfl⟩ := hd; clear hr0 hr1 hr2 hs0 hs1 hs2 hx0 hx1 hx2 hy0 hy1 hy2; have n0_ := Aside0.mk (HI0.out.drawn ⟨⟨nd, rfl⟩⟩); have n1_ := Aside0.mk (blk_drewN BR.out nd); clear HI0 BR; have HI0 := n0_; have BR := n1_; clear n0_ n1_; generalize World.drewN _ nd = w2 at HI0 BR ⊢; have BX := Aside0.mk HI0.out.box; obtain ⟨hx0, hx1, hx2, hy0, hy1, hy2⟩ := cz3 BX; clear BX; obtain ⟨hr0, hr1, hr2, hs0, hs1, hs2⟩ := cz3 BR))
     obtain ⟨ad, e0, ha0, ha1, ha2⟩ := at_T69 (Kd.R_reads' HI0.out.r1).2.2 t ht1 htl
     subst e0
     go_still_tail 10, (by kernel_rfl)
     change wpList _ _ _ _ _ w2.drew
     clear hr0 hr1 hr2 hs0 hs1 hs2 hx0 hx1 hx2 hy0 hy1 hy2
     clear ha0 ha1 ha2
     have n0_ := Aside0.mk HI0.out.drew
     have n1_ := Aside0.mk (blk_drew BR.out)
     clear HI0 BR
     have HI0 := n0_
     have BR := n1_
     clear n0_ n1_
     generalize w2.drew = wd at HI0 BR ⊢
     have BX := Aside0.mk HI0.out.box
     obtain ⟨hx0, hx1, hx2, hy0, hy1, hy2⟩ := cz3 BX
     clear BX
     obtain ⟨hr0, hr1, hr2, hs0, hs1, hs2⟩ := cz3 BR
     go_wp2_with (first | ((with_reducible refine gate_dst (N := 3) rfl ?_); refine box_event ?hg (N := 3) ?hd (cs := #[.string nm, .string sd, .int .i64 pn]) (t := 40) ?hr ?_; (case hd => rfl); (case hg => rfl); (case hr => first | (go_simp; done) | (go_simp; rfl)); intro gb hg w1 hbox hb; have n0_ := Aside0.mk (HI0.out.later hb); have n1_ := Aside0.mk hbox; clear HI0 hbox hb hg; have HI0 := n0_; have BR := n1_; clear n0_ n1_; have BX := Aside0.mk HI0.out.box; obtain ⟨hx0, hx1, hx2, hy0, hy1, hy2⟩ := cz3 BX; clear BX; obtain ⟨hr0, hr1, hr2, hs0, hs1, hs2⟩ := cz3 BR) | (go_at_call 50; (with_reducible refine (HT.out _ HI0.out.C).mono ?_); rintro e w2 ⟨rfl, hd⟩; obtain ⟨nd, rfl⟩ := hd; clear hr0 hr1 hr2 hs0 hs1 hs2 hx0 hx1 hx2 hy0 hy1 hy2; have n0_ := Aside0.mk (HI0.out.drawn ⟨⟨nd, rfl⟩⟩); have n1_ := Aside0.mk (blk_drewN BR.out nd); clear HI0 BR; have HI0 := n0_; have BR := n1_; clear n0_ n1_; generalize World.drewN _ nd = w2 at HI0 BR ⊢; have BX := Aside0.mk HI0.out.box; obtain ⟨hx0, hx1, hx2, hy0, hy1, hy2⟩ := cz3 BX; clear BX; obtain ⟨hr0, hr1, hr2, hs0, hs1, hs2⟩ := cz3 BR) | (go_at_call 64; (with_reducible refine (HE.out _ HI0.out.C).mono ?_); rintro e w2 ⟨rfl, hd⟩; obtain ⟨nd, rfl⟩ := hd; clear hr0 hr1 hr2 hs0 hs1 hs2 hx0 hx1 hx2 hy0 hy1 hy2; have n0_ := Aside0.mk (HI0.out.drawn ⟨⟨nd, rfl⟩⟩); have n1_ := Aside0.mk (blk_drewN BR.out nd); clear HI0 BR; have HI0 := n0_; have BR := n1_; clear n0_ n1_; generalize World.drewN _ nd = w2 at HI0 BR ⊢; have BX := Aside0.mk HI0.out.box; obtain ⟨hx0, hx1, hx2, hy0, hy1, hy2⟩ := cz3 BX; clear BX; obtain ⟨hr0, hr1, hr2, hs0, hs1, hs2⟩ := cz3 BR) | (go_at_call 51; (with_reducible refine (HW.out _).mono ?_); rintro e w2 ⟨rfl, hd⟩; obtain ⟨nd, rfl⟩ := hd; clear hr0 hr1 hr2 hs0 hs1 hs2 hx0 hx1 hx2 hy0 hy1 hy2; have n0_ := Aside0.mk (HI0.out.drawn ⟨⟨nd, rfl⟩⟩); have n1_ := Aside0.mk (blk_drewN BR.out nd); clear HI0 BR; have HI0 := n0_; have BR := n1_; clear n0_ n1_; generalize World.drewN _ nd = w2 at HI0 BR ⊢; have BX := Aside0.mk HI0.out.box; obtain ⟨hx0, hx1, hx2, hy0, hy1, hy2⟩ := cz3 BX; clear BX; obtain ⟨hr0, hr1, hr2, hs0, hs1, hs2⟩ := cz3 BR) | (go_at_call 58; (with_reducible refine (HO.out _ HI0.out.C).mono ?_); rintro e w2 ⟨rfl, hd⟩; obtain ⟨nd, rfl⟩ := hd; clear hr0 hr1 hr2 hs0 hs1 hs2 hx0 hx1 hx2 hy0 hy1 hy2; have n0_ := Aside0.mk (HI0.out.drawn ⟨⟨nd, rfl⟩⟩); have n1_ := Aside0.mk (blk_drewN BR.out nd); clear HI0 BR; have HI0 := n0_; have BR := n1_; clear n0_ n1_; generalize World.drewN _ nd = w2 at HI0 BR ⊢; have BX := Aside0.mk HI0.out.box; obtain ⟨hx0, hx1, hx2, hy0, hy1, hy2⟩ := cz3 BX; clear BX; obtain ⟨hr0, hr1, hr2, hs0, hs1, hs2⟩ := cz3 BR) | (go_at_call 52; (with_reducible refine (HA.out _ HI0.out.C).mono ?_); rintro e w2 ⟨rfl, hd⟩; obtain ⟨nd, rfl⟩ := hd; clear hr0 hr1 hr2 hs0 hs1 hs2 hx0 hx1 hx2 hy0 hy1 hy2; have n0_ := Aside0.mk (HI0.out.drawn ⟨⟨nd, rfl⟩⟩); have n1_ := Aside0.mk (blk_drewN BR.out nd); clear HI0 BR; have HI0 := n0_; have BR := n1_; clear n0_ n1_; generalize World.drewN _ nd = w2 at HI0 BR ⊢; have BX := Aside0.mk HI0.out.box; obtain ⟨hx0, hx1, hx2, hy0, hy1, hy2⟩ := cz3 BX; clear BX; obtain ⟨hr0, hr1, hr2, hs0, hs1, hs2⟩ := cz3 BR))
     go_ret
     exact ⟨_, by rw [addBelayN, if_neg (show ¬ t < 0 by have := HT0.out; omega), if_neg (by simp), if_neg (by simp), if_pos HO0.out]; rfl, by simpa [addBelayB, addBelayN, show ¬ t < 0 by have := HT0.out; omega, HO0.out] using HI0.out⟩
    ·have ho0 : decide (o ≥ 0) = false := decide_eq_false ho
     have ho1 : decide (0 ≤ o) = false := decide_eq_false ho
     have HO0 := Aside0.mk (show o < 0 by omega)
     clear ho
     by_cases ha : a ≥ 0
     ·have hb0 : decide (a ≥ 0) = true := decide_eq_true ha
      have hb1 : decide (0 ≤ a) = true := decide_eq_true ha
      have HA0 := Aside0.mk ha
      clear ha
      go_enter Try.func73, Try.ntmps73
      go_wp2_with (first | ((with_reducible refine gate_dst (N := 3) rfl ?_); refine box_event ?hg (N := 3) ?hd (cs := #[.string nm, .string sd, .int .i64 pn]) (t := 40) ?hr ?_; (case hd => rfl); (case hg => rfl); (case hr => first | (go_simp; done) | (go_simp; rfl)); intro gb hg w1 hbox hb; have n0_ := Aside0.mk (HI0.out.later hb); have n1_ := Aside0.mk hbox; clear HI0 hbox hb hg; have HI0 := n0_; have BR := n1_; clear n0_ n1_; have BX := Aside0.mk HI0.out.box; obtain ⟨hx0, hx1, hx2, hy0, hy1, hy2⟩ := cz3 BX; clear BX; obtain ⟨hr0, hr1, hr2, hs0, hs1, hs2⟩ := cz3 BR) | (go_at_call 50; (with_reducible refine (HT.out _ HI0.out.C).mono ?_); rintro e w2 ⟨rfl, hd⟩; obtain ⟨nd, rfl⟩ := hd; clear hr0 hr1 hr2 hs0 hs1 hs2 hx0 hx1 hx2 hy0 hy1 hy2; have n0_ := Aside0.mk (HI0.out.drawn ⟨⟨nd, rfl⟩⟩); have n1_ := Aside0.mk (blk_drewN BR.out nd); clear HI0 BR; have HI0 := n0_; have BR := n1_; clear n0_ n1_; generalize World.drewN _ nd = w2 at HI0 BR ⊢; have BX := Aside0.mk HI0.out.box; obtain ⟨hx0, hx1, hx2, hy0, hy1, hy2⟩ := cz3 BX; clear BX; obtain ⟨hr0, hr1, hr2, hs0, hs1, hs2⟩ := cz3 BR) | (go_at_call 64; (with_reducible refine (HE.out _ HI0.out.C).mono ?_); rintro e w2 ⟨rfl, hd⟩; obtain ⟨nd, rfl⟩ := hd; clear hr0 hr1 hr2 hs0 hs1 hs2 hx0 hx1 hx2 hy0 hy1 hy2; have n0_ := Aside0.mk (HI0.out.drawn ⟨⟨nd, rfl⟩⟩); have n1_ := Aside0.mk (blk_drewN BR.out nd); clear HI0 BR; have HI0 := n0_; have BR := n1_; clear n0_ n1_; generalize World.drewN _ nd = w2 at HI0 BR ⊢; have BX := Aside0.mk HI0.out.box; obtain ⟨hx0, hx1, hx2, hy0, hy1, hy2⟩ := cz3 BX; clear BX; obtain ⟨hr0, hr1, hr2, hs0, hs1, hs2⟩ := cz3 BR) | (go_at_call 51; (with_reducible refine (HW.out _).mono ?_); rintro e w2 ⟨rfl, hd⟩; obtain ⟨nd, rfl⟩ := hd; clear hr0 hr1 hr2 hs0 hs1 hs2 hx0 hx1 hx2 hy0 hy1 hy2; have n0_ := Aside0.mk (HI0.out.drawn ⟨⟨nd, rfl⟩⟩); have n1_ := Aside0.mk (blk_drewN BR.out nd); clear HI0 BR; have HI0 := n0_; have BR := n1_; clear n0_ n1_; generalize World.drewN _ nd = w2 at HI0 BR ⊢; have BX := Aside0.mk HI0.out.box; obtain ⟨hx0, hx1, hx2, hy0, hy1, hy2⟩ := cz3 BX; clear BX; obtain ⟨hr0, hr1, hr2, hs0, hs1, hs2⟩ := cz3 BR) | (go_at_call 58; (with_reducible refine (HO.out _ HI0.out.C).mono ?_); rintro e w2 ⟨rfl, hd⟩; obtain ⟨nd, rfl⟩ := hd; clear hr0 hr1 hr2 hs0 hs1 hs2 hx0 hx1 hx2 hy0 hy1 hy2; have n0_ := Aside0.mk (HI0.out.drawn ⟨⟨nd, rfl⟩⟩); have n1_ := Aside0.mk (blk_drewN BR.out nd); clear HI0 BR; have HI0 := n0_; have BR := n1_; clear n0_ n1_; generalize World.drewN _ nd = w2 at HI0 BR ⊢; have BX := Aside0.mk HI0.out.box; obtain ⟨hx0, hx1, hx2, hy0, hy1, hy2⟩ := cz3 BX; clear BX; obtain ⟨hr0, hr1, hr2, hs0, hs1, hs2⟩ := cz3 BR) | (go_at_call 52; (with_reducible refine (HA.out _ HI0.out.C).mono ?_); rintro e w2 ⟨rfl, hd⟩; obtain ⟨nd, rfl⟩ := hd; clear hr0 hr1 hr2 hs0 hs1 hs2 hx0 hx1 hx2 hy0 hy1 hy2; have n0_ := Aside0.mk (HI0.out.drawn ⟨⟨nd, rfl⟩⟩); have n1_ := Aside0.mk (blk_drewN BR.out nd); clear HI0 BR; have HI0 := n0_; have BR := n1_; clear n0_ n1_; generalize World.drewN _ nd = w2 at HI0 BR ⊢; have BX := Aside0.mk HI0.out.box; obtain ⟨hx0, hx1, hx2, hy0, hy1, hy2⟩ := cz3 BX; clear BX; obtain ⟨hr0, hr1, hr2, hs0, hs1, hs2⟩ := cz3 BR))
      obtain ⟨ad, e0, ha0, ha1, ha2⟩ := at_T69 (Kd.R_reads' HI0.out.r1).2.2 t ht1 htl
      subst e0
      go_still_tail 10, (by kernel_rfl)
      change wpList _ _ _ _ _ w2.drew
      clear hr0 hr1 hr2 hs0 hs1 hs2 hx0 hx1 hx2 hy0 hy1 hy2
      clear ha0 ha1 ha2
      have n0_ := Aside0.mk HI0.out.drew
      have n1_ := Aside0.mk (blk_drew BR.out)
      clear HI0 BR
      have HI0 := n0_
      have BR := n1_
      clear n0_ n1_
      generalize w2.drew = wd at HI0 BR ⊢
      have BX := Aside0.mk HI0.out.box
      obtain ⟨hx0, hx1, hx2, hy0, hy1, hy2⟩ := cz3 BX
      clear BX
      obtain ⟨hr0, hr1, hr2, hs0, hs1, hs2⟩ := cz3 BR
      go_wp2_with (first | ((with_reducible refine gate_dst (N := 3) rfl ?_); refine box_event ?hg (N := 3) ?hd (cs := #[.string nm, .string sd, .int .i64 pn]) (t := 40) ?hr ?_; (case hd => rfl); (case hg => rfl); (case hr => first | (go_simp; done) | (go_simp; rfl)); intro gb hg w1 hbox hb; have n0_ := Aside0.mk (HI0.out.later hb); have n1_ := Aside0.mk hbox; clear HI0 hbox hb hg; have HI0 := n0_; have BR := n1_; clear n0_ n1_; have BX := Aside0.mk HI0.out.box; obtain ⟨hx0, hx1, hx2, hy0, hy1, hy2⟩ := cz3 BX; clear BX; obtain ⟨hr0, hr1, hr2, hs0, hs1, hs2⟩ := cz3 BR) | (go_at_call 50; (with_reducible refine (HT.out _ HI0.out.C).mono ?_); rintro e w2 ⟨rfl, hd⟩; obtain ⟨nd, rfl⟩ := hd; clear hr0 hr1 hr2 hs0 hs1 hs2 hx0 hx1 hx2 hy0 hy1 hy2; have n0_ := Aside0.mk (HI0.out.drawn ⟨⟨nd, rfl⟩⟩); have n1_ := Aside0.mk (blk_drewN BR.out nd); clear HI0 BR; have HI0 := n0_; have BR := n1_; clear n0_ n1_; generalize World.drewN _ nd = w2 at HI0 BR ⊢; have BX := Aside0.mk HI0.out.box; obtain ⟨hx0, hx1, hx2, hy0, hy1, hy2⟩ := cz3 BX; clear BX; obtain ⟨hr0, hr1, hr2, hs0, hs1, hs2⟩ := cz3 BR) | (go_at_call 64; (with_reducible refine (HE.out _ HI0.out.C).mono ?_); rintro e w2 ⟨rfl, hd⟩; obtain ⟨nd, rfl⟩ := hd; clear hr0 hr1 hr2 hs0 hs1 hs2 hx0 hx1 hx2 hy0 hy1 hy2; have n0_ := Aside0.mk (HI0.out.drawn ⟨⟨nd, rfl⟩⟩); have n1_ := Aside0.mk (blk_drewN BR.out nd); clear HI0 BR; have HI0 := n0_; have BR := n1_; clear n0_ n1_; generalize World.drewN _ nd = w2 at HI0 BR ⊢; have BX := Aside0.mk HI0.out.box; obtain ⟨hx0, hx1, hx2, hy0, hy1, hy2⟩ := cz3 BX; clear BX; obtain ⟨hr0, hr1, hr2, hs0, hs1, hs2⟩ := cz3 BR) | (go_at_call 51; (with_reducible refine (HW.out _).mono ?_); rintro e w2 ⟨rfl, hd⟩; obtain ⟨nd, rfl⟩ := hd; clear hr0 hr1 hr2 hs0 hs1 hs2 hx0 hx1 hx2 hy0 hy1 hy2; have n0_ := Aside0.mk (HI0.out.drawn ⟨⟨nd, rfl⟩⟩); have n1_ := Aside0.mk (blk_drewN BR.out nd); clear HI0 BR; have HI0 := n0_; have BR := n1_; clear n0_ n1_; generalize World.drewN _ nd = w2 at HI0 BR ⊢; have BX := Aside0.mk HI0.out.box; obtain ⟨hx0, hx1, hx2, hy0, hy1, hy2⟩ := cz3 BX; clear BX; obtain ⟨hr0, hr1, hr2, hs0, hs1, hs2⟩ := cz3 BR) | (go_at_call 58; (with_reducible refine (HO.out _ HI0.out.C).mono ?_); rintro e w2 ⟨rfl, hd⟩; obtain ⟨nd, rfl⟩ := hd; clear hr0 hr1 hr2 hs0 hs1 hs2 hx0 hx1 hx2 hy0 hy1 hy2; have n0_ := Aside0.mk (HI0.out.drawn ⟨⟨nd, rfl⟩⟩); have n1_ := Aside0.mk (blk_drewN BR.out nd); clear HI0 BR; have HI0 := n0_; have BR := n1_; clear n0_ n1_; generalize World.drewN _ nd = w2 at HI0 BR ⊢; have BX := Aside0.mk HI0.out.box; obtain ⟨hx0, hx1, hx2, hy0, hy1, hy2⟩ := cz3 BX; clear BX; obtain ⟨hr0, hr1, hr2, hs0, hs1, hs2⟩ := cz3 BR) | (go_at_call 52; (with_reducible refine (HA.out _ HI0.out.C).mono ?_); rintro e w2 ⟨rfl, hd⟩; obtain ⟨nd, rfl⟩ := hd; clear hr0 hr1 hr2 hs0 hs1 hs2 hx0 hx1 hx2 hy0 hy1 hy2; have n0_ := Aside0.mk (HI0.out.drawn ⟨⟨nd, rfl⟩⟩); have n1_ := Aside0.mk (blk_drewN BR.out nd); clear HI0 BR; have HI0 := n0_; have BR := n1_; clear n0_ n1_; generalize World.drewN _ nd = w2 at HI0 BR ⊢; have BX := Aside0.mk HI0.out.box; obtain ⟨hx0, hx1, hx2, hy0, hy1, hy2⟩ := cz3 BX; clear BX; obtain ⟨hr0, hr1, hr2, hs0, hs1, hs2⟩ := cz3 BR))
      go_ret
      exact ⟨_, by rw [addBelayN, if_neg (show ¬ t < 0 by have := HT0.out; omega), if_neg (by simp), if_neg (by simp), if_neg (show ¬ o ≥ 0 by have := HO0.out; omega), if_pos HA0.out]; rfl, by simpa [addBelayB, addBelayN, show ¬ t < 0 by have := HT0.out; omega, show ¬ 0 ≤ o by have := HO0.out; omega, HA0.out] using HI0.out⟩
     ·have hb0 : decide (a ≥ 0) = false := decide_eq_false ha
      have hb1 : decide (0 ≤ a) = false := decide_eq_false ha
      have HA0 := Aside0.mk (show a < 0 by omega)
      clear ha
      go_enter Try.func73, Try.ntmps73
      go_wp2_with (first | ((with_reducible refine gate_dst (N := 3) rfl ?_); refine box_event ?hg (N := 3) ?hd (cs := #[.string nm, .string sd, .int .i64 pn]) (t := 40) ?hr ?_; (case hd => rfl); (case hg => rfl); (case hr => first | (go_simp; done) | (go_simp; rfl)); intro gb hg w1 hbox hb; have n0_ := Aside0.mk (HI0.out.later hb); have n1_ := Aside0.mk hbox; clear HI0 hbox hb hg; have HI0 := n0_; have BR := n1_; clear n0_ n1_; have BX := Aside0.mk HI0.out.box; obtain ⟨hx0, hx1, hx2, hy0, hy1, hy2⟩ := cz3 BX; clear BX; obtain ⟨hr0, hr1, hr2, hs0, hs1, hs2⟩ := cz3 BR) | (go_at_call 50; (with_reducible refine (HT.out _ HI0.out.C).mono ?_); rintro e w2 ⟨rfl, hd⟩; obtain ⟨nd, rfl⟩ := hd; clear hr0 hr1 hr2 hs0 hs1 hs2 hx0 hx1 hx2 hy0 hy1 hy2; have n0_ := Aside0.mk (HI0.out.drawn ⟨⟨nd, rfl⟩⟩); have n1_ := Aside0.mk (blk_drewN BR.out nd); clear HI0 BR; have HI0 := n0_; have BR := n1_; clear n0_ n1_; generalize World.drewN _ nd = w2 at HI0 BR ⊢; have BX := Aside0.mk HI0.out.box; obtain ⟨hx0, hx1, hx2, hy0, hy1, hy2⟩ := cz3 BX; clear BX; obtain ⟨hr0, hr1, hr2, hs0, hs1, hs2⟩ := cz3 BR) | (go_at_call 64; (with_reducible refine (HE.out _ HI0.out.C).mono ?_); rintro e w2 ⟨rfl, hd⟩; obtain ⟨nd, rfl⟩ := hd; clear hr0 hr1 hr2 hs0 hs1 hs2 hx0 hx1 hx2 hy0 hy1 hy2; have n0_ := Aside0.mk (HI0.out.drawn ⟨⟨nd, rfl⟩⟩); have n1_ := Aside0.mk (blk_drewN BR.out nd); clear HI0 BR; have HI0 := n0_; have BR := n1_; clear n0_ n1_; generalize World.drewN _ nd = w2 at HI0 BR ⊢; have BX := Aside0.mk HI0.out.box; obtain ⟨hx0, hx1, hx2, hy0, hy1, hy2⟩ := cz3 BX; clear BX; obtain ⟨hr0, hr1, hr2, hs0, hs1, hs2⟩ := cz3 BR) | (go_at_call 51; (with_reducible refine (HW.out _).mono ?_); rintro e w2 ⟨rfl, hd⟩; obtain ⟨nd, rfl⟩ := hd; clear hr0 hr1 hr2 hs0 hs1 hs2 hx0 hx1 hx2 hy0 hy1 hy2; have n0_ := Aside0.mk (HI0.out.drawn ⟨⟨nd, rfl⟩⟩); have n1_ := Aside0.mk (blk_drewN BR.out nd); clear HI0 BR; have HI0 := n0_; have BR := n1_; clear n0_ n1_; generalize World.drewN _ nd = w2 at HI0 BR ⊢; have BX := Aside0.mk HI0.out.box; obtain ⟨hx0, hx1, hx2, hy0, hy1, hy2⟩ := cz3 BX; clear BX; obtain ⟨hr0, hr1, hr2, hs0, hs1, hs2⟩ := cz3 BR) | (go_at_call 58; (with_reducible refine (HO.out _ HI0.out.C).mono ?_); rintro e w2 ⟨rfl, hd⟩; obtain ⟨nd, rfl⟩ := hd; clear hr0 hr1 hr2 hs0 hs1 hs2 hx0 hx1 hx2 hy0 hy1 hy2; have n0_ := Aside0.mk (HI0.out.drawn ⟨⟨nd, rfl⟩⟩); have n1_ := Aside0.mk (blk_drewN BR.out nd); clear HI0 BR; have HI0 := n0_; have BR := n1_; clear n0_ n1_; generalize World.drewN _ nd = w2 at HI0 BR ⊢; have BX := Aside0.mk HI0.out.box; obtain ⟨hx0, hx1, hx2, hy0, hy1, hy2⟩ := cz3 BX; clear BX; obtain ⟨hr0, hr1, hr2, hs0, hs1, hs2⟩ := cz3 BR) | (go_at_call 52; (with_reducible refine (HA.out _ HI0.out.C).mono ?_); rintro e w2 ⟨rfl, hd⟩; obtain ⟨nd, rfl⟩ := hd; clear hr0 hr1 hr2 hs0 hs1 hs2 hx0 hx1 hx2 hy0 hy1 hy2; have n0_ := Aside0.mk (HI0.out.drawn ⟨⟨nd, rfl⟩⟩); have n1_ := Aside0.mk (blk_drewN BR.out nd); clear HI0 BR; have HI0 := n0_; have BR := n1_; clear n0_ n1_; generalize World.drewN _ nd = w2 at HI0 BR ⊢; have BX := Aside0.mk HI0.out.box; obtain ⟨hx0, hx1, hx2, hy0, hy1, hy2⟩ := cz3 BX; clear BX; obtain ⟨hr0, hr1, hr2, hs0, hs1, hs2⟩ := cz3 BR))
      obtain ⟨ad, e0, ha0, ha1, ha2⟩ := at_T69 (Kd.R_reads' HI0.out.r1).2.2 t ht1 htl
      subst e0
      go_still_tail 10, (by kernel_rfl)
      change wpList _ _ _ _ _ w2.drew
      clear hr0 hr1 hr2 hs0 hs1 hs2 hx0 hx1 hx2 hy0 hy1 hy2
      clear ha0 ha1 ha2
      have n0_ := Aside0.mk HI0.out.drew
      have n1_ := Aside0.mk (blk_drew BR.out)
      clear HI0 BR
      have HI0 := n0_
      have BR := n1_
      clear n0_ n1_
      generalize w2.drew = wd at HI0 BR ⊢
      have BX := Aside0.mk HI0.out.box
      obtain ⟨hx0, hx1, hx2, hy0, hy1, hy2⟩ := cz3 BX
      clear BX
      obtain ⟨hr0, hr1, hr2, hs0, hs1, hs2⟩ := cz3 BR
      go_wp2_with (first | ((with_reducible refine gate_dst (N := 3) rfl ?_); refine box_event ?hg (N := 3) ?hd (cs := #[.string nm, .string sd, .int .i64 pn]) (t := 40) ?hr ?_; (case hd => rfl); (case hg => rfl); (case hr => first | (go_simp; done) | (go_simp; rfl)); intro gb hg w1 hbox hb; have n0_ := Aside0.mk (HI0.out.later hb); have n1_ := Aside0.mk hbox; clear HI0 hbox hb hg; have HI0 := n0_; have BR := n1_; clear n0_ n1_; have BX := Aside0.mk HI0.out.box; obtain ⟨hx0, hx1, hx2, hy0, hy1, hy2⟩ := cz3 BX; clear BX; obtain ⟨hr0, hr1, hr2, hs0, hs1, hs2⟩ := cz3 BR) | (go_at_call 50; (with_reducible refine (HT.out _ HI0.out.C).mono ?_); rintro e w2 ⟨rfl, hd⟩; obtain ⟨nd, rfl⟩ := hd; clear hr0 hr1 hr2 hs0 hs1 hs2 hx0 hx1 hx2 hy0 hy1 hy2; have n0_ := Aside0.mk (HI0.out.drawn ⟨⟨nd, rfl⟩⟩); have n1_ := Aside0.mk (blk_drewN BR.out nd); clear HI0 BR; have HI0 := n0_; have BR := n1_; clear n0_ n1_; generalize World.drewN _ nd = w2 at HI0 BR ⊢; have BX := Aside0.mk HI0.out.box; obtain ⟨hx0, hx1, hx2, hy0, hy1, hy2⟩ := cz3 BX; clear BX; obtain ⟨hr0, hr1, hr2, hs0, hs1, hs2⟩ := cz3 BR) | (go_at_call 64; (with_reducible refine (HE.out _ HI0.out.C).mono ?_); rintro e w2 ⟨rfl, hd⟩; obtain ⟨nd, rfl⟩ := hd; clear hr0 hr1 hr2 hs0 hs1 hs2 hx0 hx1 hx2 hy0 hy1 hy2; have n0_ := Aside0.mk (HI0.out.drawn ⟨⟨nd, rfl⟩⟩); have n1_ := Aside0.mk (blk_drewN BR.out nd); clear HI0 BR; have HI0 := n0_; have BR := n1_; clear n0_ n1_; generalize World.drewN _ nd = w2 at HI0 BR ⊢; have BX := Aside0.mk HI0.out.box; obtain ⟨hx0, hx1, hx2, hy0, hy1, hy2⟩ := cz3 BX; clear BX; obtain ⟨hr0, hr1, hr2, hs0, hs1, hs2⟩ := cz3 BR) | (go_at_call 51; (with_reducible refine (HW.out _).mono ?_); rintro e w2 ⟨rfl, hd⟩; obtain ⟨nd, rfl⟩ := hd; clear hr0 hr1 hr2 hs0 hs1 hs2 hx0 hx1 hx2 hy0 hy1 hy2; have n0_ := Aside0.mk (HI0.out.drawn ⟨⟨nd, rfl⟩⟩); have n1_ := Aside0.mk (blk_drewN BR.out nd); clear HI0 BR; have HI0 := n0_; have BR := n1_; clear n0_ n1_; generalize World.drewN _ nd = w2 at HI0 BR ⊢; have BX := Aside0.mk HI0.out.box; obtain ⟨hx0, hx1, hx2, hy0, hy1, hy2⟩ := cz3 BX; clear BX; obtain ⟨hr0, hr1, hr2, hs0, hs1, hs2⟩ := cz3 BR) | (go_at_call 58; (with_reducible refine (HO.out _ HI0.out.C).mono ?_); rintro e w2 ⟨rfl, hd⟩; obtain ⟨nd, rfl⟩ := hd; clear hr0 hr1 hr2 hs0 hs1 hs2 hx0 hx1 hx2 hy0 hy1 hy2; have n0_ := Aside0.mk (HI0.out.drawn ⟨⟨nd, rfl⟩⟩); have n1_ := Aside0.mk (blk_drewN BR.out nd); clear HI0 BR; have HI0 := n0_; have BR := n1_; clear n0_ n1_; generalize World.drewN _ nd = w2 at HI0 BR ⊢; have BX := Aside0.mk HI0.out.box; obtain ⟨hx0, hx1, hx2, hy0, hy1, hy2⟩ := cz3 BX; clear BX; obtain ⟨hr0, hr1, hr2, hs0, hs1, hs2⟩ := cz3 BR) | (go_at_call 52; (with_reducible refine (HA.out _ HI0.out.C).mono ?_); rintro e w2 ⟨rfl, hd⟩; obtain ⟨nd, rfl⟩ := hd; clear hr0 hr1 hr2 hs0 hs1 hs2 hx0 hx1 hx2 hy0 hy1 hy2; have n0_ := Aside0.mk (HI0.out.drawn ⟨⟨nd, rfl⟩⟩); have n1_ := Aside0.mk (blk_drewN BR.out nd); clear HI0 BR; have HI0 := n0_; have BR := n1_; clear n0_ n1_; generalize World.drewN _ nd = w2 at HI0 BR ⊢; have BX := Aside0.mk HI0.out.box; obtain ⟨hx0, hx1, hx2, hy0, hy1, hy2⟩ := cz3 BX; clear BX; obtain ⟨hr0, hr1, hr2, hs0, hs1, hs2⟩ := cz3 BR))
      have HZ := HI0.out.later (below_alloc (Below.refl w2.heap.size w2) (.cells #[.string nm, .string sd, .int .i64 pn] 40))
      have BZ := Aside0.mk HZ.box
      clear HZ
      obtain ⟨hz0, hz1, hz2, hw0, hw1, hw2⟩ := cz3 BZ
      clear BZ
      go_region_law (refine Kd.R_append_step k40 (w0 := w0) w0.heap.size (by rfl) (.tmp 51) (.tmp 53) 30 40 (.agg #[.string ⟨#[]⟩, .string ⟨#[]⟩, .int .i64 0]) 40 rfl Try.underlying30 info40 rfl (by decide) (by omega) (.slice A3 B.length c3) B (⟨nm, sd, pn⟩ : S40) [.string nm, .string sd, .int .i64 pn] (fun _ => True) (fun _ => False) rfl rfl (k40_mkM _ _ _ _) (fun _ hk => hk.elim) (fun _ _ => trivial) HI0.out.drew.r3 HI0.out.drew.below HI0.out.drew.below.size (by have := HL.out; omega) ?_; intro v3' w6 ho hb hg hat; obtain ⟨A4, c4, rfl⟩ := Kd.R_slice ho; have n0_ := Aside0.mk (HI0.out.drew.grown3 ho hb hg); clear hz0 hz1 hz2 hw0 hw1 hw2; clear hr0 hr1 hr2 hs0 hs1 hs2 hx0 hx1 hx2 hy0 hy1 hy2; clear HI0 BR ho hb hg hat; have HI0 := n0_; clear n0_; have BX := Aside0.mk HI0.out.1; obtain ⟨hx0, hx1, hx2, hy0, hy1, hy2⟩ := cz3 BX; clear BX)
      all_goals
       go_wp2
       go_ret
       exact ⟨_, by rw [addBelayN, if_neg (show ¬ t < 0 by have := HT0.out; omega), if_neg (by simp), if_neg (by simp), if_neg (show ¬ o ≥ 0 by have := HO0.out; omega), if_neg (show ¬ a ≥ 0 by have := HA0.out; omega)]; rfl, by simpa [addBelayB, addBelayN, show ¬ t < 0 by have := HT0.out; omega, show ¬ 0 ≤ o by have := HO0.out; omega, show ¬ 0 ≤ a by have := HA0.out; omega] using HI0.out.2⟩
def spec_l19AddBelay.f (k : Nat) (l0 : List (S69)) (l1 : List ByteArray) (l2 : List (S40)) (a1 : ByteArray) (a2 : ByteArray) (a3 : Int) : Option (Int) := (spec_l19Rail.f k [⟨l0, l1, l2⟩] a2).bind fun t1 => ((spec_l19Line.f k [⟨l0, l1, l2⟩] a1).bind fun t2 => ((spec_l00In.f a3 1 (rd_T69 l0 t1).f2).bind fun t3 => ((spec_l19Of.f k [⟨l0, l1, l2⟩] a1).bind fun t4 => ((spec_l19At.f k [⟨l0, l1, l2⟩] a2 a3).bind fun t5 => (if t1 < (l0.length : Int) then (some (addBelayN t1 t2 t3 t4 t5)) else (none))))))
theorem spec_l19AddBelay.mono : ∀ a0 a1 a2 a3 a4 a5 k, LeO (spec_l19AddBelay.f k a0 a1 a2 a3 a4 a5) (spec_l19AddBelay.f (k + 1) a0 a1 a2 a3 a4 a5) := by
 intro a0 a1 a2 a3 a4 a5 k
 unfold spec_l19AddBelay.f
 repeat' first
  | (with_reducible exact spec_l19Rail.mono _ _ _)
  | (with_reducible exact spec_l19Line.mono _ _ _)
  | (with_reducible exact spec_l19Of.mono _ _ _)
  | (with_reducible exact spec_l19At.mono _ _ _ _)
  | (with_reducible exact LeO.refl _)
  | (with_reducible exact LeO.none _)
  | (with_reducible refine LeO.ite ?_ ?_)
  | (with_reducible refine LeO.bind ?_ (fun _ => ?_))
theorem spec_l19AddBelay.at (k : Nat) (w0 w : World) (g : Nat) (v1 v2 v3 : Value) (R : List S69) (L : List ByteArray) (B : List S40) (s : S40) (n : Int) (HI : RigAt w0 w g v1 v2 v3 R L B) (hl : B.length ≤ 1048576) (h : spec_l19AddBelay.f k R L B s.f0 s.f1 s.f2 = some n) :
  Calls Try.prog 73 #[.pointer (some ⟨g, 0, none⟩), .agg #[.string s.f0, .string s.f1, .int .i64 s.f2]] w fun e w' => ∃ v3', e = .returned (.int .i64 n) ∧ RigAt w0 w' g v1 v2 v3' R L (addTo n B s) := by
 unfold spec_l19AddBelay.f at h
 obtain ⟨t, h1, h⟩ := Option.bind_eq_some_iff.mp h
 obtain ⟨b2, h2, h⟩ := Option.bind_eq_some_iff.mp h
 obtain ⟨b3, h3, h⟩ := Option.bind_eq_some_iff.mp h
 obtain ⟨o, h4, h⟩ := Option.bind_eq_some_iff.mp h
 obtain ⟨a, h5, h⟩ := Option.bind_eq_some_iff.mp h
 by_cases hlt : t < (R.length : Int)
 ·rw [if_pos hlt] at h
  obtain rfl := Option.some.inj h
  exact spec_addBelay_go w0 w g v1 v2 v3 R L B s t o a b2 b3 HI hl hlt (fun w hr => spec_l19Rail.calls k _ 1 [⟨R, L, B⟩] s.f1 t w hr (Nat.le_refl _) h1) (fun w hr => spec_l19Line.calls k _ 1 [⟨R, L, B⟩] s.f0 b2 w hr (Nat.le_refl _) h2)
   (fun w => spec_l00In.calls s.f2 1 _ b3 w h3) (fun w hr => spec_l19Of.calls k _ 1 [⟨R, L, B⟩] s.f0 o w hr (Nat.le_refl _) h4) (fun w hr => spec_l19At.calls k _ 1 [⟨R, L, B⟩] s.f1 s.f2 a w hr (Nat.le_refl _) h5)
 ·rw [if_neg hlt] at h
  cases h

end Go.Proofs.Ytpngklefeaolfaa.PFnExactWrongSides
