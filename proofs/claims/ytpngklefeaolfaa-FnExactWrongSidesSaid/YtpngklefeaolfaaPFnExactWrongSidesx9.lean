-- Written by a program of this session (wip/tools/pp.sh).
import Derived.Test.YtpngklefeaolfaaPFnExactWrongSidesx0
import Derived.Test.YtpngklefeaolfaaPFnExactWrongSidesx5
import Derived.Test.YtpngklefeaolfaaPFnExactWrongSidesx8
namespace Go.Proofs.Ytpngklefeaolfaa.PFnExactWrongSides
open Go.RowKit Go.Proofs.YtpngklefeaolfaaW.PrintWords Go.Proofs.YtpngklefeaolfaaW.PrintLast Go.Proofs.YtpngklefeaolfaaW.PrintMore Go.Proofs.Ytpngklefeaolfaa.Small
open Bool renaming true → T, false → F
attribute [local go_sem] max2_int min2_int max_two min_two max_three min_three max_four min_four   -- for this text's walks alone
set_option linter.unusedVariables false
set_option linter.unusedSimpArgs false

/-! ### impl_IsName: function 75 -/
mutual
def impl_IsName.j0 : Nat → ByteArray → Bool → Option (Bool)
 | 0, _, _ => none
 | k + 1, x0, x21 => if x21 = true then (some false) else (impl_IsName.l0 k x0 0)
def impl_IsName.l0 : Nat → ByteArray → Int → Option (Bool)
 | 0, _, _ => none
 | k + 1, x0, x3 => if x3 < (x0.size : Int) then (if 0 ≤ x3 then (if (bt x0 x3) < 97 then (if (bt x0 x3) < 48 then (if (bt x0 x3) = 45 then (impl_IsName.l0 k x0 (wrap64 (x3 + 1))) else (some false)) else (if (bt x0 x3) > 57 then (if (bt x0 x3) = 45 then (impl_IsName.l0 k x0 (wrap64 (x3 + 1))) else (some false)) else (impl_IsName.l0 k x0 (wrap64 (x3 + 1))))) else (if (bt x0 x3) > 122 then (if (bt x0 x3) < 48 then (if (bt x0 x3) = 45 then (impl_IsName.l0 k x0 (wrap64 (x3 + 1))) else (some false)) else (if (bt x0 x3) > 57 then (if (bt x0 x3) = 45 then (impl_IsName.l0 k x0 (wrap64 (x3 + 1))) else (some false)) else (impl_IsName.l0 k x0 (wrap64 (x3 + 1))))) else (impl_IsName.l0 k x0 (wrap64 (x3 + 1))))) else (none)) else (some true)
end
def impl_IsName.f (k : Nat) (a0 : ByteArray) : Option (Bool) := if (a0.size : Int) < 1 then (impl_IsName.j0 k a0 true) else (if (a0.size : Int) > 12 then (impl_IsName.j0 k a0 true) else (if 0 < (a0.size : Int) then (if (bt a0 0) < 97 then (impl_IsName.j0 k a0 true) else (impl_IsName.j0 k a0 (decide ((bt a0 0) > 122)))) else (none)))
theorem impl_IsName.mono_l : ∀ k, (∀ y0 y1, LeO (impl_IsName.j0 k y0 y1) (impl_IsName.j0 (k + 1) y0 y1)) ∧ (∀ y0 y1, LeO (impl_IsName.l0 k y0 y1) (impl_IsName.l0 (k + 1) y0 y1))
 | 0 => ⟨fun _ _ r h => by simp [impl_IsName.j0] at h, fun _ _ r h => by simp [impl_IsName.l0] at h⟩
 | k + 1 => by
  obtain ⟨ih0, ih1⟩ := impl_IsName.mono_l k
  refine ⟨?_, ?_⟩
  ·intro y0 y1
   unfold impl_IsName.j0
   repeat' first
   | (with_reducible exact ih0 _ _)
   | (with_reducible exact ih1 _ _)
   | (with_reducible exact LeO.refl _)
   | (with_reducible exact LeO.none _)
   | (with_reducible refine LeO.ite ?_ ?_)
   | (with_reducible refine LeO.bind ?_ (fun _ => ?_))
   | exact ih0 _ _
   | exact ih1 _ _
   | exact LeO.none _
   | refine LeO.ite ?_ ?_
   | refine LeO.bind ?_ (fun _ => ?_)
  ·intro y0 y1
   unfold impl_IsName.l0
   repeat' first
   | (with_reducible exact ih0 _ _)
   | (with_reducible exact ih1 _ _)
   | (with_reducible exact LeO.refl _)
   | (with_reducible exact LeO.none _)
   | (with_reducible refine LeO.ite ?_ ?_)
   | (with_reducible refine LeO.bind ?_ (fun _ => ?_))
   | exact ih0 _ _
   | exact ih1 _ _
   | exact LeO.none _
   | refine LeO.ite ?_ ?_
   | refine LeO.bind ?_ (fun _ => ?_)
theorem impl_IsName.mono : ∀ a0 k, LeO (impl_IsName.f k a0) (impl_IsName.f (k + 1) a0) := by
 intro a0 k
 obtain ⟨ih0, ih1⟩ := impl_IsName.mono_l k
 unfold impl_IsName.f
 repeat' first
   | (with_reducible exact ih0 _ _)
   | (with_reducible exact ih1 _ _)
   | (with_reducible exact LeO.refl _)
   | (with_reducible exact LeO.none _)
   | (with_reducible refine LeO.ite ?_ ?_)
   | (with_reducible refine LeO.bind ?_ (fun _ => ?_))
   | exact ih0 _ _
   | exact ih1 _ _
   | exact LeO.none _
   | refine LeO.ite ?_ ?_
   | refine LeO.bind ?_ (fun _ => ?_)
set_option maxHeartbeats 8000000 in
set_option maxRecDepth 100000 in
theorem impl_IsName.calls (k : Nat) (a0 : ByteArray) (r : Bool) (w : World) (h : impl_IsName.f k a0 = some r) :
  Calls Try.prog 75 #[.string a0] w fun e w' => e = .returned (.bool r) ∧ Drawn0 w w' := by
 have H : (if (a0.size : Int) < 1 then (impl_IsName.j0 k a0 true) else (if (a0.size : Int) > 12 then (impl_IsName.j0 k a0 true) else (if 0 < (a0.size : Int) then (if (bt a0 0) < 97 then (impl_IsName.j0 k a0 true) else (impl_IsName.j0 k a0 (decide ((bt a0 0) > 122)))) else (none)))) = some r := h
 clear h
 have HC2 := Aside0.mk H
 clear H
 go_enter Try.func75, Try.ntmps75
 go_upto_region 1 with (fail)
 go_cut [21] (fun v21 wc => ∃ (kq : Nat) (x21_1 : Bool), v21 = .bool x21_1 ∧ Aside0 (impl_IsName.j0 kq a0 x21_1 = some r) ∧ Aside0 (kq ≤ k) ∧ Drawn0 w wc)
 case first =>
  have H := HC2.out
  clear HC2
  by_cases c3 : (a0.size : Int) < 1
  ·rw [if_pos c3] at H
   have c3b0 : decide ((a0.size : Int) < 1) = true := decide_eq_true c3
   have c3b1 : decide (a0.size < 1) = true := decide_eq_true (by omega)
   clear c3
   (first | rw [c3b0] | (simp only [i64_w, i32_w]; rw [c3b0]) | skip)
   have H' := Aside0.mk H
   clear H
   go_wp2
   go_meet
   case rel => exact ⟨_, (true), (by first | rfl | (simp; done) | (simp [*]; done)), H', ⟨by first | omega | exact Nat.le_refl _⟩, by repeat (first | exact Drawn0.refl _ | apply Drawn0.step)⟩
  ·rw [if_neg c3] at H
   have c3b0 : decide ((a0.size : Int) < 1) = false := decide_eq_false c3
   have c3b1 : decide (a0.size < 1) = false := decide_eq_false (by omega)
   clear c3
   (first | rw [c3b0] | (simp only [i64_w, i32_w]; rw [c3b0]) | skip)
   by_cases c4 : (a0.size : Int) > 12
   ·rw [if_pos c4] at H
    have c4b0 : decide (12 < (a0.size : Int)) = true := decide_eq_true c4
    have c4b1 : decide (12 < a0.size) = true := decide_eq_true (by omega)
    clear c4
    have H' := Aside0.mk H
    clear H
    go_wp2
    go_meet
    case rel => exact ⟨_, (true), (by first | rfl | (simp; done) | (simp [*]; done)), H', ⟨by first | omega | exact Nat.le_refl _⟩, by repeat (first | exact Drawn0.refl _ | apply Drawn0.step)⟩
   ·rw [if_neg c4] at H
    have c4b0 : decide (12 < (a0.size : Int)) = false := decide_eq_false c4
    have c4b1 : decide (12 < a0.size) = false := decide_eq_false (by omega)
    clear c4
    by_cases c5 : 0 < (a0.size : Int)
    ·rw [if_pos c5] at H
     have c5b0 : decide (0 < (a0.size : Int)) = true := decide_eq_true c5
     have c5b1 : decide (0 < a0.size) = true := decide_eq_true (by omega)
     clear c5
     by_cases c7 : (bt a0 0) < 97
     ·rw [if_pos c7] at H
      have c7b0 : decide ((bt a0 0) < 97) = true := decide_eq_true c7
      clear c7
      have H' := Aside0.mk H
      clear H
      have p6 : 0 ≤ (0 : Int) := (by omega)
      have q6 : 0 < a0.size := (by have : (0 : Int) < (a0.size : Int) := of_decide_eq_true (by first | (with_reducible assumption) | assumption); omega)
      have hx6 : ∀ h : 0 < a0.size, ((a0[0]'h).toNat : Int) = bt a0 0 := bt_at a0 0
      clear p6
      have qi6 : (0 < (a0.size : Int)) = True := eq_true (of_decide_eq_true (by first | (with_reducible assumption) | assumption))
      replace q6 := eq_true q6
      go_wp2
      go_meet
      case rel => exact ⟨_, (true), (by first | rfl | (simp; done) | (simp [*]; done)), H', ⟨by first | omega | exact Nat.le_refl _⟩, by repeat (first | exact Drawn0.refl _ | apply Drawn0.step)⟩
     ·rw [if_neg c7] at H
      have c7b0 : decide ((bt a0 0) < 97) = false := decide_eq_false c7
      clear c7
      have H' := Aside0.mk H
      clear H
      have p6 : 0 ≤ (0 : Int) := (by omega)
      have q6 : 0 < a0.size := (by have : (0 : Int) < (a0.size : Int) := of_decide_eq_true (by first | (with_reducible assumption) | assumption); omega)
      have hx6 : ∀ h : 0 < a0.size, ((a0[0]'h).toNat : Int) = bt a0 0 := bt_at a0 0
      clear p6
      have qi6 : (0 < (a0.size : Int)) = True := eq_true (of_decide_eq_true (by first | (with_reducible assumption) | assumption))
      replace q6 := eq_true q6
      have p8 : 0 ≤ (0 : Int) := (by omega)
      have q8 : 0 < a0.size := (by have : (0 : Int) < (a0.size : Int) := of_decide_eq_true (by first | (with_reducible assumption) | assumption); omega)
      have hx8 : ∀ h : 0 < a0.size, ((a0[0]'h).toNat : Int) = bt a0 0 := bt_at a0 0
      clear p8
      have qi8 : (0 < (a0.size : Int)) = True := eq_true (of_decide_eq_true (by first | (with_reducible assumption) | assumption))
      replace q8 := eq_true q8
      go_wp2
      go_meet
      case rel => exact ⟨_, (decide ((bt a0 0) > 122)), (by first | rfl | (simp; done) | (simp [*]; done)), H', ⟨by first | omega | exact Nat.le_refl _⟩, by repeat (first | exact Drawn0.refl _ | apply Drawn0.step)⟩
    ·rw [if_neg c5] at H
     exact absurd H (by simp)
 case rest =>
  clear HC2
  try clear p2
  try clear c3
  try clear c3b0
  try clear c3b1
  try clear c4
  try clear c4b0
  try clear c4b1
  try clear c5
  try clear c5b0
  try clear c5b1
  try clear p6
  try clear q6
  try clear hx6
  try clear qi6
  try clear c7
  try clear c7b0
  try clear p8
  try clear q8
  try clear hx8
  try clear qi8
  try clear p6
  try clear p8
  try clear q6
  try clear q8
  obtain ⟨kq, x21_1, rfl, HA, HJ1, ⟨mc1, rfl⟩⟩ := hcut
  cases kq with
  | zero => exact absurd HA.out (by simp [impl_IsName.j0])
  | succ kj1 =>
   have H := HA.out
   clear HA
   simp only [impl_IsName.j0] at H
   by_cases c9 : x21_1 = true
   ·subst c9
    have H1 : (some false) = some r := by rw [if_pos rfl] at H; exact H
    clear H
    have H := H1
    clear H1
    obtain rfl := Option.some.inj H
    simp only [Option.some.injEq, Prod.mk.injEq] at H
    obtain ⟨rfl⟩ := H
    go_wp2
    go_ret
    exact ⟨by first | rfl | (simp; done) | (simp [*]; done), by repeat (first | exact Drawn0.refl _ | apply Drawn0.step)⟩
   ·replace c9 := Bool.eq_false_iff.mpr c9
    subst c9
    have H1 : (impl_IsName.l0 kj1 a0 0) = some r := by rw [if_neg (show ¬ (false = true) by decide)] at H; exact H
    clear H
    have H := H1
    clear H1
    have H' := Aside0.mk H
    clear H
    go_wp2
    go_loopg [3] kj1 (fun kq v3 w' => ∃ (x3_2 : Int), v3 = .int .i64 x3_2 ∧ Aside0 (impl_IsName.l0 kq a0 x3_2 = some r) ∧ Aside0 (kq ≤ kj1) ∧ Drawn0 w w')
    case atStart => exact ⟨(0), (by first | rfl | (simp; done) | (simp [*]; done)), H', ⟨Nat.le_refl _⟩, by repeat (first | exact Drawn0.refl _ | apply Drawn0.step)⟩
    case round =>
     clear H'
     try clear c1
     try clear p2
     try clear c3
     try clear c3b0
     try clear c3b1
     try clear c4
     try clear c4b0
     try clear c4b1
     try clear c5
     try clear c5b0
     try clear c5b1
     try clear p6
     try clear q6
     try clear hx6
     try clear qi6
     try clear c7
     try clear c7b0
     try clear p8
     try clear q8
     try clear hx8
     try clear qi8
     try clear c9
     try clear p2
     try clear p6
     try clear p8
     try clear q6
     try clear q8
     obtain ⟨x3_2, rfl, HA, HK2, ⟨m2, rfl⟩⟩ := hrel
     cases gk with
     | zero => exact absurd HA.out (by simp [impl_IsName.l0])
     | succ k2 =>
      have H := HA.out
      clear HA
      simp only [impl_IsName.l0] at H
      by_cases c10 : x3_2 < (a0.size : Int)
      ·rw [if_pos c10] at H
       have c10b0 : decide (x3_2 < (a0.size : Int)) = true := decide_eq_true c10
       clear c10
       by_cases c11 : 0 ≤ x3_2
       ·rw [if_pos c11] at H
        have c11b0 : decide (0 ≤ x3_2) = true := decide_eq_true c11
        clear c11
        by_cases c13 : (bt a0 x3_2) < 97
        ·rw [if_pos c13] at H
         have c13b0 : decide ((bt a0 x3_2) < 97) = true := decide_eq_true c13
         clear c13
         by_cases c15 : (bt a0 x3_2) < 48
         ·rw [if_pos c15] at H
          have c15b0 : decide ((bt a0 x3_2) < 48) = true := decide_eq_true c15
          clear c15
          by_cases c17 : (bt a0 x3_2) = 45
          ·rw [if_pos c17] at H
           have c17b0 : ((bt a0 x3_2) == 45) = true := beq_iff_eq.mpr c17
           have c17b1 : ((bt a0 x3_2) != 45) = false := bne_eq_false_iff_eq.mpr c17
           clear c17
           have H' := Aside0.mk H
           clear H
           have p12 : 0 ≤ (x3_2 : Int) := of_decide_eq_true (by first | (with_reducible assumption) | assumption)
           have q12 : x3_2 < (a0.size : Int) := of_decide_eq_true (by first | (with_reducible assumption) | assumption)
           have hx12 := bt_at a0 x3_2
           replace p12 := eq_true p12
           replace q12 := eq_true q12
           have p14 : 0 ≤ (x3_2 : Int) := of_decide_eq_true (by first | (with_reducible assumption) | assumption)
           have q14 : x3_2 < (a0.size : Int) := of_decide_eq_true (by first | (with_reducible assumption) | assumption)
           have hx14 := bt_at a0 x3_2
           replace p14 := eq_true p14
           replace q14 := eq_true q14
           have p16 : 0 ≤ (x3_2 : Int) := of_decide_eq_true (by first | (with_reducible assumption) | assumption)
           have q16 : x3_2 < (a0.size : Int) := of_decide_eq_true (by first | (with_reducible assumption) | assumption)
           have hx16 := bt_at a0 x3_2
           replace p16 := eq_true p16
           replace q16 := eq_true q16
           go_wp2
           go_roundg k2
           case measure => have := HJ1.out; have := HK2.out; omega
           case rel => exact ⟨(wrap64 (x3_2 + 1)), (by first | rfl | (simp; done) | (simp [*]; done)), H', ⟨by have := HJ1.out; have := HK2.out; omega⟩, by repeat (first | exact Drawn0.refl _ | apply Drawn0.step)⟩
          ·rw [if_neg c17] at H
           have c17b0 : ((bt a0 x3_2) == 45) = false := beq_eq_false_iff_ne.mpr c17
           have c17b1 : ((bt a0 x3_2) != 45) = true := bne_iff_ne.mpr c17
           obtain rfl := Option.some.inj H
           simp only [Option.some.injEq, Prod.mk.injEq] at H
           obtain ⟨rfl⟩ := H
           have p12 : 0 ≤ (x3_2 : Int) := of_decide_eq_true (by first | (with_reducible assumption) | assumption)
           have q12 : x3_2 < (a0.size : Int) := of_decide_eq_true (by first | (with_reducible assumption) | assumption)
           have hx12 := bt_at a0 x3_2
           replace p12 := eq_true p12
           replace q12 := eq_true q12
           have p14 : 0 ≤ (x3_2 : Int) := of_decide_eq_true (by first | (with_reducible assumption) | assumption)
           have q14 : x3_2 < (a0.size : Int) := of_decide_eq_true (by first | (with_reducible assumption) | assumption)
           have hx14 := bt_at a0 x3_2
           replace p14 := eq_true p14
           replace q14 := eq_true q14
           have p16 : 0 ≤ (x3_2 : Int) := of_decide_eq_true (by first | (with_reducible assumption) | assumption)
           have q16 : x3_2 < (a0.size : Int) := of_decide_eq_true (by first | (with_reducible assumption) | assumption)
           have hx16 := bt_at a0 x3_2
           replace p16 := eq_true p16
           replace q16 := eq_true q16
           go_wp2
           go_ret
           exact ⟨by first | rfl | (simp; done) | (simp [*]; done), by repeat (first | exact Drawn0.refl _ | apply Drawn0.step)⟩
         ·rw [if_neg c15] at H
          have c15b0 : decide ((bt a0 x3_2) < 48) = false := decide_eq_false c15
          clear c15
          by_cases c19 : (bt a0 x3_2) > 57
          ·rw [if_pos c19] at H
           have c19b0 : decide (57 < (bt a0 x3_2)) = true := decide_eq_true c19
           clear c19
           by_cases c21 : (bt a0 x3_2) = 45
           ·rw [if_pos c21] at H
            have c21b0 : ((bt a0 x3_2) == 45) = true := beq_iff_eq.mpr c21
            have c21b1 : ((bt a0 x3_2) != 45) = false := bne_eq_false_iff_eq.mpr c21
            clear c21
            have H' := Aside0.mk H
            clear H
            have p12 : 0 ≤ (x3_2 : Int) := of_decide_eq_true (by first | (with_reducible assumption) | assumption)
            have q12 : x3_2 < (a0.size : Int) := of_decide_eq_true (by first | (with_reducible assumption) | assumption)
            have hx12 := bt_at a0 x3_2
            replace p12 := eq_true p12
            replace q12 := eq_true q12
            have p14 : 0 ≤ (x3_2 : Int) := of_decide_eq_true (by first | (with_reducible assumption) | assumption)
            have q14 : x3_2 < (a0.size : Int) := of_decide_eq_true (by first | (with_reducible assumption) | assumption)
            have hx14 := bt_at a0 x3_2
            replace p14 := eq_true p14
            replace q14 := eq_true q14
            have p18 : 0 ≤ (x3_2 : Int) := of_decide_eq_true (by first | (with_reducible assumption) | assumption)
            have q18 : x3_2 < (a0.size : Int) := of_decide_eq_true (by first | (with_reducible assumption) | assumption)
            have hx18 := bt_at a0 x3_2
            replace p18 := eq_true p18
            replace q18 := eq_true q18
            have p20 : 0 ≤ (x3_2 : Int) := of_decide_eq_true (by first | (with_reducible assumption) | assumption)
            have q20 : x3_2 < (a0.size : Int) := of_decide_eq_true (by first | (with_reducible assumption) | assumption)
            have hx20 := bt_at a0 x3_2
            replace p20 := eq_true p20
            replace q20 := eq_true q20
            go_wp2
            go_roundg k2
            case measure => have := HJ1.out; have := HK2.out; omega
            case rel => exact ⟨(wrap64 (x3_2 + 1)), (by first | rfl | (simp; done) | (simp [*]; done)), H', ⟨by have := HJ1.out; have := HK2.out; omega⟩, by repeat (first | exact Drawn0.refl _ | apply Drawn0.step)⟩
           ·rw [if_neg c21] at H
            have c21b0 : ((bt a0 x3_2) == 45) = false := beq_eq_false_iff_ne.mpr c21
            have c21b1 : ((bt a0 x3_2) != 45) = true := bne_iff_ne.mpr c21
            obtain rfl := Option.some.inj H
            simp only [Option.some.injEq, Prod.mk.injEq] at H
            obtain ⟨rfl⟩ := H
            have p12 : 0 ≤ (x3_2 : Int) := of_decide_eq_true (by first | (with_reducible assumption) | assumption)
            have q12 : x3_2 < (a0.size : Int) := of_decide_eq_true (by first | (with_reducible assumption) | assumption)
            have hx12 := bt_at a0 x3_2
            replace p12 := eq_true p12
            replace q12 := eq_true q12
            have p14 : 0 ≤ (x3_2 : Int) := of_decide_eq_true (by first | (with_reducible assumption) | assumption)
            have q14 : x3_2 < (a0.size : Int) := of_decide_eq_true (by first | (with_reducible assumption) | assumption)
            have hx14 := bt_at a0 x3_2
            replace p14 := eq_true p14
            replace q14 := eq_true q14
            have p18 : 0 ≤ (x3_2 : Int) := of_decide_eq_true (by first | (with_reducible assumption) | assumption)
            have q18 : x3_2 < (a0.size : Int) := of_decide_eq_true (by first | (with_reducible assumption) | assumption)
            have hx18 := bt_at a0 x3_2
            replace p18 := eq_true p18
            replace q18 := eq_true q18
            have p20 : 0 ≤ (x3_2 : Int) := of_decide_eq_true (by first | (with_reducible assumption) | assumption)
            have q20 : x3_2 < (a0.size : Int) := of_decide_eq_true (by first | (with_reducible assumption) | assumption)
            have hx20 := bt_at a0 x3_2
            replace p20 := eq_true p20
            replace q20 := eq_true q20
            go_wp2
            go_ret
            exact ⟨by first | rfl | (simp; done) | (simp [*]; done), by repeat (first | exact Drawn0.refl _ | apply Drawn0.step)⟩
          ·rw [if_neg c19] at H
           have c19b0 : decide (57 < (bt a0 x3_2)) = false := decide_eq_false c19
           clear c19
           have H' := Aside0.mk H
           clear H
           have p12 : 0 ≤ (x3_2 : Int) := of_decide_eq_true (by first | (with_reducible assumption) | assumption)
           have q12 : x3_2 < (a0.size : Int) := of_decide_eq_true (by first | (with_reducible assumption) | assumption)
           have hx12 := bt_at a0 x3_2
           replace p12 := eq_true p12
           replace q12 := eq_true q12
           have p14 : 0 ≤ (x3_2 : Int) := of_decide_eq_true (by first | (with_reducible assumption) | assumption)
           have q14 : x3_2 < (a0.size : Int) := of_decide_eq_true (by first | (with_reducible assumption) | assumption)
           have hx14 := bt_at a0 x3_2
           replace p14 := eq_true p14
           replace q14 := eq_true q14
           have p18 : 0 ≤ (x3_2 : Int) := of_decide_eq_true (by first | (with_reducible assumption) | assumption)
           have q18 : x3_2 < (a0.size : Int) := of_decide_eq_true (by first | (with_reducible assumption) | assumption)
           have hx18 := bt_at a0 x3_2
           replace p18 := eq_true p18
           replace q18 := eq_true q18
           go_wp2
           go_roundg k2
           case measure => have := HJ1.out; have := HK2.out; omega
           case rel => exact ⟨(wrap64 (x3_2 + 1)), (by first | rfl | (simp; done) | (simp [*]; done)), H', ⟨by have := HJ1.out; have := HK2.out; omega⟩, by repeat (first | exact Drawn0.refl _ | apply Drawn0.step)⟩
        ·rw [if_neg c13] at H
         have c13b0 : decide ((bt a0 x3_2) < 97) = false := decide_eq_false c13
         clear c13
         by_cases c23 : (bt a0 x3_2) > 122
         ·rw [if_pos c23] at H
          have c23b0 : decide (122 < (bt a0 x3_2)) = true := decide_eq_true c23
          clear c23
          by_cases c25 : (bt a0 x3_2) < 48
          ·rw [if_pos c25] at H
           have c25b0 : decide ((bt a0 x3_2) < 48) = true := decide_eq_true c25
           clear c25
           by_cases c27 : (bt a0 x3_2) = 45
           ·rw [if_pos c27] at H
            have c27b0 : ((bt a0 x3_2) == 45) = true := beq_iff_eq.mpr c27
            have c27b1 : ((bt a0 x3_2) != 45) = false := bne_eq_false_iff_eq.mpr c27
            clear c27
            have H' := Aside0.mk H
            clear H
            have p12 : 0 ≤ (x3_2 : Int) := of_decide_eq_true (by first | (with_reducible assumption) | assumption)
            have q12 : x3_2 < (a0.size : Int) := of_decide_eq_true (by first | (with_reducible assumption) | assumption)
            have hx12 := bt_at a0 x3_2
            replace p12 := eq_true p12
            replace q12 := eq_true q12
            have p22 : 0 ≤ (x3_2 : Int) := of_decide_eq_true (by first | (with_reducible assumption) | assumption)
            have q22 : x3_2 < (a0.size : Int) := of_decide_eq_true (by first | (with_reducible assumption) | assumption)
            have hx22 := bt_at a0 x3_2
            replace p22 := eq_true p22
            replace q22 := eq_true q22
            have p24 : 0 ≤ (x3_2 : Int) := of_decide_eq_true (by first | (with_reducible assumption) | assumption)
            have q24 : x3_2 < (a0.size : Int) := of_decide_eq_true (by first | (with_reducible assumption) | assumption)
            have hx24 := bt_at a0 x3_2
            replace p24 := eq_true p24
            replace q24 := eq_true q24
            have p26 : 0 ≤ (x3_2 : Int) := of_decide_eq_true (by first | (with_reducible assumption) | assumption)
            have q26 : x3_2 < (a0.size : Int) := of_decide_eq_true (by first | (with_reducible assumption) | assumption)
            have hx26 := bt_at a0 x3_2
            replace p26 := eq_true p26
            replace q26 := eq_true q26
            go_wp2
            go_roundg k2
            case measure => have := HJ1.out; have := HK2.out; omega
            case rel => exact ⟨(wrap64 (x3_2 + 1)), (by first | rfl | (simp; done) | (simp [*]; done)), H', ⟨by have := HJ1.out; have := HK2.out; omega⟩, by repeat (first | exact Drawn0.refl _ | apply Drawn0.step)⟩
           ·rw [if_neg c27] at H
            have c27b0 : ((bt a0 x3_2) == 45) = false := beq_eq_false_iff_ne.mpr c27
            have c27b1 : ((bt a0 x3_2) != 45) = true := bne_iff_ne.mpr c27
            obtain rfl := Option.some.inj H
            simp only [Option.some.injEq, Prod.mk.injEq] at H
            obtain ⟨rfl⟩ := H
            have p12 : 0 ≤ (x3_2 : Int) := of_decide_eq_true (by first | (with_reducible assumption) | assumption)
            have q12 : x3_2 < (a0.size : Int) := of_decide_eq_true (by first | (with_reducible assumption) | assumption)
            have hx12 := bt_at a0 x3_2
            replace p12 := eq_true p12
            replace q12 := eq_true q12
            have p22 : 0 ≤ (x3_2 : Int) := of_decide_eq_true (by first | (with_reducible assumption) | assumption)
            have q22 : x3_2 < (a0.size : Int) := of_decide_eq_true (by first | (with_reducible assumption) | assumption)
            have hx22 := bt_at a0 x3_2
            replace p22 := eq_true p22
            replace q22 := eq_true q22
            have p24 : 0 ≤ (x3_2 : Int) := of_decide_eq_true (by first | (with_reducible assumption) | assumption)
            have q24 : x3_2 < (a0.size : Int) := of_decide_eq_true (by first | (with_reducible assumption) | assumption)
            have hx24 := bt_at a0 x3_2
            replace p24 := eq_true p24
            replace q24 := eq_true q24
            have p26 : 0 ≤ (x3_2 : Int) := of_decide_eq_true (by first | (with_reducible assumption) | assumption)
            have q26 : x3_2 < (a0.size : Int) := of_decide_eq_true (by first | (with_reducible assumption) | assumption)
            have hx26 := bt_at a0 x3_2
            replace p26 := eq_true p26
            replace q26 := eq_true q26
            go_wp2
            go_ret
            exact ⟨by first | rfl | (simp; done) | (simp [*]; done), by repeat (first | exact Drawn0.refl _ | apply Drawn0.step)⟩
          ·rw [if_neg c25] at H
           have c25b0 : decide ((bt a0 x3_2) < 48) = false := decide_eq_false c25
           clear c25
           by_cases c29 : (bt a0 x3_2) > 57
           ·rw [if_pos c29] at H
            have c29b0 : decide (57 < (bt a0 x3_2)) = true := decide_eq_true c29
            clear c29
            by_cases c31 : (bt a0 x3_2) = 45
            ·rw [if_pos c31] at H
             have c31b0 : ((bt a0 x3_2) == 45) = true := beq_iff_eq.mpr c31
             have c31b1 : ((bt a0 x3_2) != 45) = false := bne_eq_false_iff_eq.mpr c31
             clear c31
             have H' := Aside0.mk H
             clear H
             have p12 : 0 ≤ (x3_2 : Int) := of_decide_eq_true (by first | (with_reducible assumption) | assumption)
             have q12 : x3_2 < (a0.size : Int) := of_decide_eq_true (by first | (with_reducible assumption) | assumption)
             have hx12 := bt_at a0 x3_2
             replace p12 := eq_true p12
             replace q12 := eq_true q12
             have p22 : 0 ≤ (x3_2 : Int) := of_decide_eq_true (by first | (with_reducible assumption) | assumption)
             have q22 : x3_2 < (a0.size : Int) := of_decide_eq_true (by first | (with_reducible assumption) | assumption)
             have hx22 := bt_at a0 x3_2
             replace p22 := eq_true p22
             replace q22 := eq_true q22
             have p24 : 0 ≤ (x3_2 : Int) := of_decide_eq_true (by first | (with_reducible assumption) | assumption)
             have q24 : x3_2 < (a0.size : Int) := of_decide_eq_true (by first | (with_reducible assumption) | assumption)
             have hx24 := bt_at a0 x3_2
             replace p24 := eq_true p24
             replace q24 := eq_true q24
             have p28 : 0 ≤ (x3_2 : Int) := of_decide_eq_true (by first | (with_reducible assumption) | assumption)
             have q28 : x3_2 < (a0.size : Int) := of_decide_eq_true (by first | (with_reducible assumption) | assumption)
             have hx28 := bt_at a0 x3_2
             replace p28 := eq_true p28
             replace q28 := eq_true q28
             have p30 : 0 ≤ (x3_2 : Int) := of_decide_eq_true (by first | (with_reducible assumption) | assumption)
             have q30 : x3_2 < (a0.size : Int) := of_decide_eq_true (by first | (with_reducible assumption) | assumption)
             have hx30 := bt_at a0 x3_2
             replace p30 := eq_true p30
             replace q30 := eq_true q30
             go_wp2
             go_roundg k2
             case measure => have := HJ1.out; have := HK2.out; omega
             case rel => exact ⟨(wrap64 (x3_2 + 1)), (by first | rfl | (simp; done) | (simp [*]; done)), H', ⟨by have := HJ1.out; have := HK2.out; omega⟩, by repeat (first | exact Drawn0.refl _ | apply Drawn0.step)⟩
            ·rw [if_neg c31] at H
             have c31b0 : ((bt a0 x3_2) == 45) = false := beq_eq_false_iff_ne.mpr c31
             have c31b1 : ((bt a0 x3_2) != 45) = true := bne_iff_ne.mpr c31
             obtain rfl := Option.some.inj H
             simp only [Option.some.injEq, Prod.mk.injEq] at H
             obtain ⟨rfl⟩ := H
             have p12 : 0 ≤ (x3_2 : Int) := of_decide_eq_true (by first | (with_reducible assumption) | assumption)
             have q12 : x3_2 < (a0.size : Int) := of_decide_eq_true (by first | (with_reducible assumption) | assumption)
             have hx12 := bt_at a0 x3_2
             replace p12 := eq_true p12
             replace q12 := eq_true q12
             have p22 : 0 ≤ (x3_2 : Int) := of_decide_eq_true (by first | (with_reducible assumption) | assumption)
             have q22 : x3_2 < (a0.size : Int) := of_decide_eq_true (by first | (with_reducible assumption) | assumption)
             have hx22 := bt_at a0 x3_2
             replace p22 := eq_true p22
             replace q22 := eq_true q22
             have p24 : 0 ≤ (x3_2 : Int) := of_decide_eq_true (by first | (with_reducible assumption) | assumption)
             have q24 : x3_2 < (a0.size : Int) := of_decide_eq_true (by first | (with_reducible assumption) | assumption)
             have hx24 := bt_at a0 x3_2
             replace p24 := eq_true p24
             replace q24 := eq_true q24
             have p28 : 0 ≤ (x3_2 : Int) := of_decide_eq_true (by first | (with_reducible assumption) | assumption)
             have q28 : x3_2 < (a0.size : Int) := of_decide_eq_true (by first | (with_reducible assumption) | assumption)
             have hx28 := bt_at a0 x3_2
             replace p28 := eq_true p28
             replace q28 := eq_true q28
             have p30 : 0 ≤ (x3_2 : Int) := of_decide_eq_true (by first | (with_reducible assumption) | assumption)
             have q30 : x3_2 < (a0.size : Int) := of_decide_eq_true (by first | (with_reducible assumption) | assumption)
             have hx30 := bt_at a0 x3_2
             replace p30 := eq_true p30
             replace q30 := eq_true q30
             go_wp2
             go_ret
             exact ⟨by first | rfl | (simp; done) | (simp [*]; done), by repeat (first | exact Drawn0.refl _ | apply Drawn0.step)⟩
           ·rw [if_neg c29] at H
            have c29b0 : decide (57 < (bt a0 x3_2)) = false := decide_eq_false c29
            clear c29
            have H' := Aside0.mk H
            clear H
            have p12 : 0 ≤ (x3_2 : Int) := of_decide_eq_true (by first | (with_reducible assumption) | assumption)
            have q12 : x3_2 < (a0.size : Int) := of_decide_eq_true (by first | (with_reducible assumption) | assumption)
            have hx12 := bt_at a0 x3_2
            replace p12 := eq_true p12
            replace q12 := eq_true q12
            have p22 : 0 ≤ (x3_2 : Int) := of_decide_eq_true (by first | (with_reducible assumption) | assumption)
            have q22 : x3_2 < (a0.size : Int) := of_decide_eq_true (by first | (with_reducible assumption) | assumption)
            have hx22 := bt_at a0 x3_2
            replace p22 := eq_true p22
            replace q22 := eq_true q22
            have p24 : 0 ≤ (x3_2 : Int) := of_decide_eq_true (by first | (with_reducible assumption) | assumption)
            have q24 : x3_2 < (a0.size : Int) := of_decide_eq_true (by first | (with_reducible assumption) | assumption)
            have hx24 := bt_at a0 x3_2
            replace p24 := eq_true p24
            replace q24 := eq_true q24
            have p28 : 0 ≤ (x3_2 : Int) := of_decide_eq_true (by first | (with_reducible assumption) | assumption)
            have q28 : x3_2 < (a0.size : Int) := of_decide_eq_true (by first | (with_reducible assumption) | assumption)
            have hx28 := bt_at a0 x3_2
            replace p28 := eq_true p28
            replace q28 := eq_true q28
            go_wp2
            go_roundg k2
            case measure => have := HJ1.out; have := HK2.out; omega
            case rel => exact ⟨(wrap64 (x3_2 + 1)), (by first | rfl | (simp; done) | (simp [*]; done)), H', ⟨by have := HJ1.out; have := HK2.out; omega⟩, by repeat (first | exact Drawn0.refl _ | apply Drawn0.step)⟩
         ·rw [if_neg c23] at H
          have c23b0 : decide (122 < (bt a0 x3_2)) = false := decide_eq_false c23
          clear c23
          have H' := Aside0.mk H
          clear H
          have p12 : 0 ≤ (x3_2 : Int) := of_decide_eq_true (by first | (with_reducible assumption) | assumption)
          have q12 : x3_2 < (a0.size : Int) := of_decide_eq_true (by first | (with_reducible assumption) | assumption)
          have hx12 := bt_at a0 x3_2
          replace p12 := eq_true p12
          replace q12 := eq_true q12
          have p22 : 0 ≤ (x3_2 : Int) := of_decide_eq_true (by first | (with_reducible assumption) | assumption)
          have q22 : x3_2 < (a0.size : Int) := of_decide_eq_true (by first | (with_reducible assumption) | assumption)
          have hx22 := bt_at a0 x3_2
          replace p22 := eq_true p22
          replace q22 := eq_true q22
          go_wp2
          go_roundg k2
          case measure => have := HJ1.out; have := HK2.out; omega
          case rel => exact ⟨(wrap64 (x3_2 + 1)), (by first | rfl | (simp; done) | (simp [*]; done)), H', ⟨by have := HJ1.out; have := HK2.out; omega⟩, by repeat (first | exact Drawn0.refl _ | apply Drawn0.step)⟩
       ·rw [if_neg c11] at H
        exact absurd H (by simp)
      ·rw [if_neg c10] at H
       have c10b0 : decide (x3_2 < (a0.size : Int)) = false := decide_eq_false c10
       clear c10
       obtain rfl := Option.some.inj H
       simp only [Option.some.injEq, Prod.mk.injEq] at H
       obtain ⟨rfl⟩ := H
       go_wp2
       go_ret
       exact ⟨by first | rfl | (simp; done) | (simp [*]; done), by repeat (first | exact Drawn0.refl _ | apply Drawn0.step)⟩

/-! ### impl_within: function 76 -/
def impl_within.f (a0 : Int) (a1 : Int) (a2 : Int) : Option (Bool) := if a0 ≥ a1 then (some (decide (a0 ≤ a2))) else (some false)
set_option maxHeartbeats 8000000 in
set_option maxRecDepth 100000 in
theorem impl_within.calls (a0 : Int) (a1 : Int) (a2 : Int) (r : Bool) (w : World) (h : impl_within.f a0 a1 a2 = some r) :
  Calls Try.prog 76 #[.int .i64 a0, .int .i64 a1, .int .i64 a2] w fun e w' => e = .returned (.bool r) ∧ Drawn0 w w' := by
 have H : (if a0 ≥ a1 then (some (decide (a0 ≤ a2))) else (some false)) = some r := h
 clear h
 by_cases c4 : a0 ≥ a1
 ·rw [if_pos c4] at H
  have c4b0 : decide (a1 ≤ a0) = true := decide_eq_true c4
  clear c4
  obtain rfl := Option.some.inj H
  simp only [Option.some.injEq, Prod.mk.injEq] at H
  obtain ⟨rfl⟩ := H
  go_enter Try.func76, Try.ntmps76
  go_wp2
  go_ret
  exact ⟨by first | rfl | (simp; done) | (simp [*]; done), by repeat (first | exact Drawn0.refl _ | apply Drawn0.step)⟩
 ·rw [if_neg c4] at H
  have c4b0 : decide (a1 ≤ a0) = false := decide_eq_false c4
  clear c4
  obtain rfl := Option.some.inj H
  simp only [Option.some.injEq, Prod.mk.injEq] at H
  obtain ⟨rfl⟩ := H
  go_enter Try.func76, Try.ntmps76
  go_wp2
  go_ret
  exact ⟨by first | rfl | (simp; done) | (simp [*]; done), by repeat (first | exact Drawn0.refl _ | apply Drawn0.step)⟩

/-! ### impl_addRail: function 45, by hand -/
set_option maxHeartbeats 8000000 in
set_option maxRecDepth 100000 in
theorem addRail_go (w0 w : World) (g : Nat) (v1 v2 v3 : Value) (R : List S69) (L : List ByteArray) (B : List S40) (r : S69) (b1 b3 : Bool) (t : Int) (HI : RigAt w0 w g v1 v2 v3 R L B) (hl : R.length ≤ 10)
  (hN : ∀ w, Calls Try.prog 75 #[.string r.f0] w fun e w' => e = .returned (.bool b1) ∧ Drawn0 w w')
  (hW : ∀ w, Calls Try.prog 76 #[.int .i64 r.f2, .int .i64 1, .int .i64 30] w fun e w' => e = .returned (.bool b3) ∧ Drawn0 w w')
  (hR : ∀ A1 c1 A2 c2 A3 c3 w, Kd.C k69 w A1 R.length R → R.length ≤ c1 → Kd.C Kd.string w A2 L.length L → L.length ≤ c2 → Kd.C k40 w A3 B.length B → B.length ≤ c3 → Calls Try.prog 63 #[.agg #[.slice A1 R.length c1, .slice A2 L.length c2, .slice A3 B.length c3], .string r.f0] w fun e w' => e = .returned (.int .i64 t) ∧ Below w.heap.size w w') :
  Calls Try.prog 45 #[.pointer (some ⟨g, 0, none⟩), .agg #[.string r.f0, .string r.f1, .int .i64 r.f2]] w fun e w' => ∃ v1', e = .returned (.int .i64 (addRailN b1 (railSide r.f1) b3 t R.length)) ∧ RigAt w0 w' g v1' v2 v3 (addRailR b1 (railSide r.f1) b3 t R r) L B := by
 have HI0 := Aside0.mk HI
 have HL := Aside0.mk hl
 have HN := Aside0.mk hN
 have HW := Aside0.mk hW
 have HR := Aside0.mk hR
 clear HI hl hN hW hR
 obtain ⟨nm, sd, pn⟩ := r
 cases b1 with
 | false =>
  go_enter Try.func45, Try.ntmps45
  go_wp2_with (first | ((with_reducible refine gate_dst (N := 3) rfl ?_); refine box_event ?hg (N := 3) ?hd (cs := #[.string nm, .string sd, .int .i64 pn]) (t := 69) ?hr ?_; (case hd => rfl); (case hg => rfl); (case hr => first | (go_simp; done) | (go_simp; rfl)); intro gb hg w1 hbox hb; have n0_ := Aside0.mk (HI0.out.later hb); have n1_ := Aside0.mk hbox; clear HI0 hbox hb hg; have HI0 := n0_; have BR := n1_; clear n0_ n1_; obtain ⟨hr0, hr1, hr2, hs0, hs1, hs2⟩ := cz3 BR) | (go_at_call 75; (with_reducible refine (HN.out _).mono ?_); rintro e w2 ⟨rfl, hd⟩; obtain ⟨nd, rfl⟩ := hd; clear hr0 hr1 hr2 hs0 hs1 hs2; have n0_ := Aside0.mk (HI0.out.drawn ⟨⟨nd, rfl⟩⟩); have n1_ := Aside0.mk (blk_drewN BR.out nd); clear HI0 BR; have HI0 := n0_; have BR := n1_; clear n0_ n1_; generalize World.drewN _ nd = w2 at HI0 BR ⊢; obtain ⟨hr0, hr1, hr2, hs0, hs1, hs2⟩ := cz3 BR))
  go_ret
  exact ⟨_, rfl, by simpa [addRailR, addRailN] using HI0.out⟩
 | true =>
  obtain ⟨A1, c1, rfl⟩ := Kd.R_slice HI0.out.r1
  obtain ⟨A2, c2, rfl⟩ := Kd.R_slice HI0.out.r2
  obtain ⟨A3, c3, rfl⟩ := Kd.R_slice HI0.out.r3
  show Calls Try.prog 45 #[.pointer (some ⟨g, 0, none⟩), .agg #[.string nm, .string sd, .int .i64 pn]] w fun e w' => ∃ v1', e = .returned (.int .i64 (addRailN true (railSide sd) b3 t R.length)) ∧ RigAt w0 w' g v1' _ _ (addRailR true (railSide sd) b3 t R ⟨nm, sd, pn⟩) L B
  by_cases hS : railSide sd = true
  ·have h3 : sd.toList = [112] ∨ (¬ sd.toList = [112] ∧ sd.toList = [115]) ∨ (¬ sd.toList = [112] ∧ ¬ sd.toList = [115] ∧ sd.toList = [109]) := by
    simp only [railSide, Bool.or_eq_true, decide_eq_true_eq] at hS
    by_cases a1 : sd.toList = [112]
    ·exact .inl a1
    ·by_cases a2 : sd.toList = [115]
     ·exact .inr (.inl ⟨a1, a2⟩)
     ·exact .inr (.inr ⟨a1, a2, by rcases hS with h | h | h <;> first | exact h | exact absurd h a1 | exact absurd h a2⟩)
   rw [hS]
   clear hS
   rcases h3 with q1 | ⟨q2, q1⟩ | ⟨q3, q2, q1⟩
   all_goals
    cases b3 with
    | false =>
     go_enter Try.func45, Try.ntmps45
     go_wp2_with (first | ((with_reducible refine gate_dst (N := 3) rfl ?_); refine box_event ?hg (N := 3) ?hd (cs := #[.string nm, .string sd, .int .i64 pn]) (t := 69) ?hr ?_; (case hd => rfl); (case hg => rfl); (case hr => first | (go_simp; done) | (go_simp; rfl)); intro gb hg w1 hbox hb; have n0_ := Aside0.mk (HI0.out.later hb); have n1_ := Aside0.mk hbox; clear HI0 hbox hb hg; have HI0 := n0_; have BR := n1_; clear n0_ n1_; have BX := Aside0.mk HI0.out.box; obtain ⟨hx0, hx1, hx2, hy0, hy1, hy2⟩ := cz3 BX; clear BX; obtain ⟨hr0, hr1, hr2, hs0, hs1, hs2⟩ := cz3 BR) | (go_at_call 75; (with_reducible refine (HN.out _).mono ?_); rintro e w2 ⟨rfl, hd⟩; obtain ⟨nd, rfl⟩ := hd; clear hr0 hr1 hr2 hs0 hs1 hs2 hx0 hx1 hx2 hy0 hy1 hy2; have n0_ := Aside0.mk (HI0.out.drawn ⟨⟨nd, rfl⟩⟩); have n1_ := Aside0.mk (blk_drewN BR.out nd); clear HI0 BR; have HI0 := n0_; have BR := n1_; clear n0_ n1_; generalize World.drewN _ nd = w2 at HI0 BR ⊢; have BX := Aside0.mk HI0.out.box; obtain ⟨hx0, hx1, hx2, hy0, hy1, hy2⟩ := cz3 BX; clear BX; obtain ⟨hr0, hr1, hr2, hs0, hs1, hs2⟩ := cz3 BR) | (go_at_call 76; (with_reducible refine (HW.out _).mono ?_); rintro e w2 ⟨rfl, hd⟩; obtain ⟨nd, rfl⟩ := hd; clear hr0 hr1 hr2 hs0 hs1 hs2 hx0 hx1 hx2 hy0 hy1 hy2; have n0_ := Aside0.mk (HI0.out.drawn ⟨⟨nd, rfl⟩⟩); have n1_ := Aside0.mk (blk_drewN BR.out nd); clear HI0 BR; have HI0 := n0_; have BR := n1_; clear n0_ n1_; generalize World.drewN _ nd = w2 at HI0 BR ⊢; have BX := Aside0.mk HI0.out.box; obtain ⟨hx0, hx1, hx2, hy0, hy1, hy2⟩ := cz3 BX; clear BX; obtain ⟨hr0, hr1, hr2, hs0, hs1, hs2⟩ := cz3 BR) | (go_at_call 63; (with_reducible refine (HR.out A1 c1 A2 c2 A3 c3 _ (Kd.R_reads' HI0.out.r1).2.2 (Kd.R_reads' HI0.out.r1).2.1 (Kd.R_reads' HI0.out.r2).2.2 (Kd.R_reads' HI0.out.r2).2.1 (Kd.R_reads' HI0.out.r3).2.2 (Kd.R_reads' HI0.out.r3).2.1).mono ?_); rintro e w5 ⟨rfl, hb⟩; clear hr0 hr1 hr2 hs0 hs1 hs2 hx0 hx1 hx2 hy0 hy1 hy2; have n0_ := Aside0.mk (HI0.out.later hb); have n1_ := Aside0.mk (blk_below BR.out hb); clear HI0 BR hb; have HI0 := n0_; have BR := n1_; clear n0_ n1_; have BX := Aside0.mk HI0.out.box; obtain ⟨hx0, hx1, hx2, hy0, hy1, hy2⟩ := cz3 BX; clear BX; obtain ⟨hr0, hr1, hr2, hs0, hs1, hs2⟩ := cz3 BR) | ((with_reducible refine gate_builtin (b := .append) (xs := #[.tmp 48, .tmp 50]) rfl ?_); at_builtin; refine Kd.R_append k69 (w0 := w0) w0.heap.size rfl (.tmp 48) (.tmp 50) 29 69 (.agg #[.string ⟨#[]⟩, .string ⟨#[]⟩, .int .i64 0]) 40 rfl Try.underlying29 info69 rfl (by decide) (by omega) (.slice A1 R.length c1) R (⟨nm, sd, pn⟩ : S69) [.string nm, .string sd, .int .i64 pn] (fun _ => True) (fun _ => False) rfl rfl ?aP (fun _ hk => hk.elim) ?aF ?aO ?aB ?aS ?aL ?_; (case aP => exact k69_mkM _ _ _ _); (case aB => exact HI0.out.below); (case aF => exact (fun _ _ => trivial)); (case aO => exact HI0.out.r1); (case aS => exact HI0.out.below.size); (case aL => have := HL.out; omega); intro v1' w6 ho hb hg hat; obtain ⟨A4, c4, rfl⟩ := Kd.R_slice ho; have n0_ := Aside0.mk (HI0.out.grown1 ho hb hg); clear hr0 hr1 hr2 hs0 hs1 hs2 hx0 hx1 hx2 hy0 hy1 hy2; clear HI0 BR ho hb hg hat; have HI0 := n0_; clear n0_; have BX := Aside0.mk HI0.out.1; obtain ⟨hx0, hx1, hx2, hy0, hy1, hy2⟩ := cz3 BX; clear BX))
     go_ret
     exact ⟨_, rfl, by simpa [addRailR, addRailN] using HI0.out⟩
    | true =>
     by_cases ht : t ≥ 0
     ·have ht0 : decide (t ≥ 0) = true := decide_eq_true ht
      have ht1 : decide (0 ≤ t) = true := decide_eq_true ht
      have HT := Aside0.mk ht
      clear ht
      go_enter Try.func45, Try.ntmps45
      go_wp2_with (first | ((with_reducible refine gate_dst (N := 3) rfl ?_); refine box_event ?hg (N := 3) ?hd (cs := #[.string nm, .string sd, .int .i64 pn]) (t := 69) ?hr ?_; (case hd => rfl); (case hg => rfl); (case hr => first | (go_simp; done) | (go_simp; rfl)); intro gb hg w1 hbox hb; have n0_ := Aside0.mk (HI0.out.later hb); have n1_ := Aside0.mk hbox; clear HI0 hbox hb hg; have HI0 := n0_; have BR := n1_; clear n0_ n1_; have BX := Aside0.mk HI0.out.box; obtain ⟨hx0, hx1, hx2, hy0, hy1, hy2⟩ := cz3 BX; clear BX; obtain ⟨hr0, hr1, hr2, hs0, hs1, hs2⟩ := cz3 BR) | (go_at_call 75; (with_reducible refine (HN.out _).mono ?_); rintro e w2 ⟨rfl, hd⟩; obtain ⟨nd, rfl⟩ := hd; clear hr0 hr1 hr2 hs0 hs1 hs2 hx0 hx1 hx2 hy0 hy1 hy2; have n0_ := Aside0.mk (HI0.out.drawn ⟨⟨nd, rfl⟩⟩); have n1_ := Aside0.mk (blk_drewN BR.out nd); clear HI0 BR; have HI0 := n0_; have BR := n1_; clear n0_ n1_; generalize World.drewN _ nd = w2 at HI0 BR ⊢; have BX := Aside0.mk HI0.out.box; obtain ⟨hx0, hx1, hx2, hy0, hy1, hy2⟩ := cz3 BX; clear BX; obtain ⟨hr0, hr1, hr2, hs0, hs1, hs2⟩ := cz3 BR) | (go_at_call 76; (with_reducible refine (HW.out _).mono ?_); rintro e w2 ⟨rfl, hd⟩; obtain ⟨nd, rfl⟩ := hd; clear hr0 hr1 hr2 hs0 hs1 hs2 hx0 hx1 hx2 hy0 hy1 hy2; have n0_ := Aside0.mk (HI0.out.drawn ⟨⟨nd, rfl⟩⟩); have n1_ := Aside0.mk (blk_drewN BR.out nd); clear HI0 BR; have HI0 := n0_; have BR := n1_; clear n0_ n1_; generalize World.drewN _ nd = w2 at HI0 BR ⊢; have BX := Aside0.mk HI0.out.box; obtain ⟨hx0, hx1, hx2, hy0, hy1, hy2⟩ := cz3 BX; clear BX; obtain ⟨hr0, hr1, hr2, hs0, hs1, hs2⟩ := cz3 BR) | (go_at_call 63; (with_reducible refine (HR.out A1 c1 A2 c2 A3 c3 _ (Kd.R_reads' HI0.out.r1).2.2 (Kd.R_reads' HI0.out.r1).2.1 (Kd.R_reads' HI0.out.r2).2.2 (Kd.R_reads' HI0.out.r2).2.1 (Kd.R_reads' HI0.out.r3).2.2 (Kd.R_reads' HI0.out.r3).2.1).mono ?_); rintro e w5 ⟨rfl, hb⟩; clear hr0 hr1 hr2 hs0 hs1 hs2 hx0 hx1 hx2 hy0 hy1 hy2; have n0_ := Aside0.mk (HI0.out.later hb); have n1_ := Aside0.mk (blk_below BR.out hb); clear HI0 BR hb; have HI0 := n0_; have BR := n1_; clear n0_ n1_; have BX := Aside0.mk HI0.out.box; obtain ⟨hx0, hx1, hx2, hy0, hy1, hy2⟩ := cz3 BX; clear BX; obtain ⟨hr0, hr1, hr2, hs0, hs1, hs2⟩ := cz3 BR) | ((with_reducible refine gate_builtin (b := .append) (xs := #[.tmp 48, .tmp 50]) rfl ?_); at_builtin; refine Kd.R_append k69 (w0 := w0) w0.heap.size rfl (.tmp 48) (.tmp 50) 29 69 (.agg #[.string ⟨#[]⟩, .string ⟨#[]⟩, .int .i64 0]) 40 rfl Try.underlying29 info69 rfl (by decide) (by omega) (.slice A1 R.length c1) R (⟨nm, sd, pn⟩ : S69) [.string nm, .string sd, .int .i64 pn] (fun _ => True) (fun _ => False) rfl rfl ?aP (fun _ hk => hk.elim) ?aF ?aO ?aB ?aS ?aL ?_; (case aP => exact k69_mkM _ _ _ _); (case aB => exact HI0.out.below); (case aF => exact (fun _ _ => trivial)); (case aO => exact HI0.out.r1); (case aS => exact HI0.out.below.size); (case aL => have := HL.out; omega); intro v1' w6 ho hb hg hat; obtain ⟨A4, c4, rfl⟩ := Kd.R_slice ho; have n0_ := Aside0.mk (HI0.out.grown1 ho hb hg); clear hr0 hr1 hr2 hs0 hs1 hs2 hx0 hx1 hx2 hy0 hy1 hy2; clear HI0 BR ho hb hg hat; have HI0 := n0_; clear n0_; have BX := Aside0.mk HI0.out.1; obtain ⟨hx0, hx1, hx2, hy0, hy1, hy2⟩ := cz3 BX; clear BX))
      go_still_tail 5, (by kernel_rfl)
      change wpList _ _ _ _ _ w2.drew
      clear hr0 hr1 hr2 hs0 hs1 hs2 hx0 hx1 hx2 hy0 hy1 hy2
      have n0_ := Aside0.mk HI0.out.drew
      have n1_ := Aside0.mk (blk_drew BR.out)
      clear HI0 BR
      have HI0 := n0_
      have BR := n1_
      clear n0_ n1_
      generalize w2.drew = wd at HI0 BR ⊢
      have BX := Aside0.mk HI0.out.box
      obtain ⟨hx0, hx1, hx2, hy0, hy1, hy2⟩ := cz3 BX
      clear BX
      obtain ⟨hr0, hr1, hr2, hs0, hs1, hs2⟩ := cz3 BR
      go_wp2_with (first | ((with_reducible refine gate_dst (N := 3) rfl ?_); refine box_event ?hg (N := 3) ?hd (cs := #[.string nm, .string sd, .int .i64 pn]) (t := 69) ?hr ?_; (case hd => rfl); (case hg => rfl); (case hr => first | (go_simp; done) | (go_simp; rfl)); intro gb hg w1 hbox hb; have n0_ := Aside0.mk (HI0.out.later hb); have n1_ := Aside0.mk hbox; clear HI0 hbox hb hg; have HI0 := n0_; have BR := n1_; clear n0_ n1_; have BX := Aside0.mk HI0.out.box; obtain ⟨hx0, hx1, hx2, hy0, hy1, hy2⟩ := cz3 BX; clear BX; obtain ⟨hr0, hr1, hr2, hs0, hs1, hs2⟩ := cz3 BR) | (go_at_call 75; (with_reducible refine (HN.out _).mono ?_); rintro e w2 ⟨rfl, hd⟩; obtain ⟨nd, rfl⟩ := hd; clear hr0 hr1 hr2 hs0 hs1 hs2 hx0 hx1 hx2 hy0 hy1 hy2; have n0_ := Aside0.mk (HI0.out.drawn ⟨⟨nd, rfl⟩⟩); have n1_ := Aside0.mk (blk_drewN BR.out nd); clear HI0 BR; have HI0 := n0_; have BR := n1_; clear n0_ n1_; generalize World.drewN _ nd = w2 at HI0 BR ⊢; have BX := Aside0.mk HI0.out.box; obtain ⟨hx0, hx1, hx2, hy0, hy1, hy2⟩ := cz3 BX; clear BX; obtain ⟨hr0, hr1, hr2, hs0, hs1, hs2⟩ := cz3 BR) | (go_at_call 76; (with_reducible refine (HW.out _).mono ?_); rintro e w2 ⟨rfl, hd⟩; obtain ⟨nd, rfl⟩ := hd; clear hr0 hr1 hr2 hs0 hs1 hs2 hx0 hx1 hx2 hy0 hy1 hy2; have n0_ := Aside0.mk (HI0.out.drawn ⟨⟨nd, rfl⟩⟩); have n1_ := Aside0.mk (blk_drewN BR.out nd); clear HI0 BR; have HI0 := n0_; have BR := n1_; clear n0_ n1_; generalize World.drewN _ nd = w2 at HI0 BR ⊢; have BX := Aside0.mk HI0.out.box; obtain ⟨hx0, hx1, hx2, hy0, hy1, hy2⟩ := cz3 BX; clear BX; obtain ⟨hr0, hr1, hr2, hs0, hs1, hs2⟩ := cz3 BR) | (go_at_call 63; (with_reducible refine (HR.out A1 c1 A2 c2 A3 c3 _ (Kd.R_reads' HI0.out.r1).2.2 (Kd.R_reads' HI0.out.r1).2.1 (Kd.R_reads' HI0.out.r2).2.2 (Kd.R_reads' HI0.out.r2).2.1 (Kd.R_reads' HI0.out.r3).2.2 (Kd.R_reads' HI0.out.r3).2.1).mono ?_); rintro e w5 ⟨rfl, hb⟩; clear hr0 hr1 hr2 hs0 hs1 hs2 hx0 hx1 hx2 hy0 hy1 hy2; have n0_ := Aside0.mk (HI0.out.later hb); have n1_ := Aside0.mk (blk_below BR.out hb); clear HI0 BR hb; have HI0 := n0_; have BR := n1_; clear n0_ n1_; have BX := Aside0.mk HI0.out.box; obtain ⟨hx0, hx1, hx2, hy0, hy1, hy2⟩ := cz3 BX; clear BX; obtain ⟨hr0, hr1, hr2, hs0, hs1, hs2⟩ := cz3 BR) | ((with_reducible refine gate_builtin (b := .append) (xs := #[.tmp 48, .tmp 50]) rfl ?_); at_builtin; refine Kd.R_append k69 (w0 := w0) w0.heap.size rfl (.tmp 48) (.tmp 50) 29 69 (.agg #[.string ⟨#[]⟩, .string ⟨#[]⟩, .int .i64 0]) 40 rfl Try.underlying29 info69 rfl (by decide) (by omega) (.slice A1 R.length c1) R (⟨nm, sd, pn⟩ : S69) [.string nm, .string sd, .int .i64 pn] (fun _ => True) (fun _ => False) rfl rfl ?aP (fun _ hk => hk.elim) ?aF ?aO ?aB ?aS ?aL ?_; (case aP => exact k69_mkM _ _ _ _); (case aB => exact HI0.out.below); (case aF => exact (fun _ _ => trivial)); (case aO => exact HI0.out.r1); (case aS => exact HI0.out.below.size); (case aL => have := HL.out; omega); intro v1' w6 ho hb hg hat; obtain ⟨A4, c4, rfl⟩ := Kd.R_slice ho; have n0_ := Aside0.mk (HI0.out.grown1 ho hb hg); clear hr0 hr1 hr2 hs0 hs1 hs2 hx0 hx1 hx2 hy0 hy1 hy2; clear HI0 BR ho hb hg hat; have HI0 := n0_; clear n0_; have BX := Aside0.mk HI0.out.1; obtain ⟨hx0, hx1, hx2, hy0, hy1, hy2⟩ := cz3 BX; clear BX))
      go_ret
      exact ⟨_, by rw [addRailN, if_pos rfl, if_pos rfl, if_pos rfl, if_pos HT.out]; rfl, by simpa [addRailR, addRailN, HT.out] using HI0.out⟩
     ·have ht0 : decide (t ≥ 0) = false := decide_eq_false ht
      have ht1 : decide (0 ≤ t) = false := decide_eq_false ht
      have HT := Aside0.mk ht
      clear ht
      by_cases h10 : R.length = 10
      ·have hb10 : ((R.length : Int) == 10) = true := beq_iff_eq.mpr (by omega)
       have H10 := Aside0.mk h10
       clear h10
       go_enter Try.func45, Try.ntmps45
       go_wp2_with (first | ((with_reducible refine gate_dst (N := 3) rfl ?_); refine box_event ?hg (N := 3) ?hd (cs := #[.string nm, .string sd, .int .i64 pn]) (t := 69) ?hr ?_; (case hd => rfl); (case hg => rfl); (case hr => first | (go_simp; done) | (go_simp; rfl)); intro gb hg w1 hbox hb; have n0_ := Aside0.mk (HI0.out.later hb); have n1_ := Aside0.mk hbox; clear HI0 hbox hb hg; have HI0 := n0_; have BR := n1_; clear n0_ n1_; have BX := Aside0.mk HI0.out.box; obtain ⟨hx0, hx1, hx2, hy0, hy1, hy2⟩ := cz3 BX; clear BX; obtain ⟨hr0, hr1, hr2, hs0, hs1, hs2⟩ := cz3 BR) | (go_at_call 75; (with_reducible refine (HN.out _).mono ?_); rintro e w2 ⟨rfl, hd⟩; obtain ⟨nd, rfl⟩ := hd; clear hr0 hr1 hr2 hs0 hs1 hs2 hx0 hx1 hx2 hy0 hy1 hy2; have n0_ := Aside0.mk (HI0.out.drawn ⟨⟨nd, rfl⟩⟩); have n1_ := Aside0.mk (blk_drewN BR.out nd); clear HI0 BR; have HI0 := n0_; have BR := n1_; clear n0_ n1_; generalize World.drewN _ nd = w2 at HI0 BR ⊢; have BX := Aside0.mk HI0.out.box; obtain ⟨hx0, hx1, hx2, hy0, hy1, hy2⟩ := cz3 BX; clear BX; obtain ⟨hr0, hr1, hr2, hs0, hs1, hs2⟩ := cz3 BR) | (go_at_call 76; (with_reducible refine (HW.out _).mono ?_); rintro e w2 ⟨rfl, hd⟩; obtain ⟨nd, rfl⟩ := hd; clear hr0 hr1 hr2 hs0 hs1 hs2 hx0 hx1 hx2 hy0 hy1 hy2; have n0_ := Aside0.mk (HI0.out.drawn ⟨⟨nd, rfl⟩⟩); have n1_ := Aside0.mk (blk_drewN BR.out nd); clear HI0 BR; have HI0 := n0_; have BR := n1_; clear n0_ n1_; generalize World.drewN _ nd = w2 at HI0 BR ⊢; have BX := Aside0.mk HI0.out.box; obtain ⟨hx0, hx1, hx2, hy0, hy1, hy2⟩ := cz3 BX; clear BX; obtain ⟨hr0, hr1, hr2, hs0, hs1, hs2⟩ := cz3 BR) | (go_at_call 63; (with_reducible refine (HR.out A1 c1 A2 c2 A3 c3 _ (Kd.R_reads' HI0.out.r1).2.2 (Kd.R_reads' HI0.out.r1).2.1 (Kd.R_reads' HI0.out.r2).2.2 (Kd.R_reads' HI0.out.r2).2.1 (Kd.R_reads' HI0.out.r3).2.2 (Kd.R_reads' HI0.out.r3).2.1).mono ?_); rintro e w5 ⟨rfl, hb⟩; clear hr0 hr1 hr2 hs0 hs1 hs2 hx0 hx1 hx2 hy0 hy1 hy2; have n0_ := Aside0.mk (HI0.out.later hb); have n1_ := Aside0.mk (blk_below BR.out hb); clear HI0 BR hb; have HI0 := n0_; have BR := n1_; clear n0_ n1_; have BX := Aside0.mk HI0.out.box; obtain ⟨hx0, hx1, hx2, hy0, hy1, hy2⟩ := cz3 BX; clear BX; obtain ⟨hr0, hr1, hr2, hs0, hs1, hs2⟩ := cz3 BR) | ((with_reducible refine gate_builtin (b := .append) (xs := #[.tmp 48, .tmp 50]) rfl ?_); at_builtin; refine Kd.R_append k69 (w0 := w0) w0.heap.size rfl (.tmp 48) (.tmp 50) 29 69 (.agg #[.string ⟨#[]⟩, .string ⟨#[]⟩, .int .i64 0]) 40 rfl Try.underlying29 info69 rfl (by decide) (by omega) (.slice A1 R.length c1) R (⟨nm, sd, pn⟩ : S69) [.string nm, .string sd, .int .i64 pn] (fun _ => True) (fun _ => False) rfl rfl ?aP (fun _ hk => hk.elim) ?aF ?aO ?aB ?aS ?aL ?_; (case aP => exact k69_mkM _ _ _ _); (case aB => exact HI0.out.below); (case aF => exact (fun _ _ => trivial)); (case aO => exact HI0.out.r1); (case aS => exact HI0.out.below.size); (case aL => have := HL.out; omega); intro v1' w6 ho hb hg hat; obtain ⟨A4, c4, rfl⟩ := Kd.R_slice ho; have n0_ := Aside0.mk (HI0.out.grown1 ho hb hg); clear hr0 hr1 hr2 hs0 hs1 hs2 hx0 hx1 hx2 hy0 hy1 hy2; clear HI0 BR ho hb hg hat; have HI0 := n0_; clear n0_; have BX := Aside0.mk HI0.out.1; obtain ⟨hx0, hx1, hx2, hy0, hy1, hy2⟩ := cz3 BX; clear BX))
       go_still_tail 5, (by kernel_rfl)
       change wpList _ _ _ _ _ w2.drew
       clear hr0 hr1 hr2 hs0 hs1 hs2 hx0 hx1 hx2 hy0 hy1 hy2
       have n0_ := Aside0.mk HI0.out.drew
       have n1_ := Aside0.mk (blk_drew BR.out)
       clear HI0 BR
       have HI0 := n0_
       have BR := n1_
       clear n0_ n1_
       generalize w2.drew = wd at HI0 BR ⊢
       have BX := Aside0.mk HI0.out.box
       obtain ⟨hx0, hx1, hx2, hy0, hy1, hy2⟩ := cz3 BX
       clear BX
       obtain ⟨hr0, hr1, hr2, hs0, hs1, hs2⟩ := cz3 BR
       go_wp2_with (first | ((with_reducible refine gate_dst (N := 3) rfl ?_); refine box_event ?hg (N := 3) ?hd (cs := #[.string nm, .string sd, .int .i64 pn]) (t := 69) ?hr ?_; (case hd => rfl); (case hg => rfl); (case hr => first | (go_simp; done) | (go_simp; rfl)); intro gb hg w1 hbox hb; have n0_ := Aside0.mk (HI0.out.later hb); have n1_ := Aside0.mk hbox; clear HI0 hbox hb hg; have HI0 := n0_; have BR := n1_; clear n0_ n1_; have BX := Aside0.mk HI0.out.box; obtain ⟨hx0, hx1, hx2, hy0, hy1, hy2⟩ := cz3 BX; clear BX; obtain ⟨hr0, hr1, hr2, hs0, hs1, hs2⟩ := cz3 BR) | (go_at_call 75; (with_reducible refine (HN.out _).mono ?_); rintro e w2 ⟨rfl, hd⟩; obtain ⟨nd, rfl⟩ := hd; clear hr0 hr1 hr2 hs0 hs1 hs2 hx0 hx1 hx2 hy0 hy1 hy2; have n0_ := Aside0.mk (HI0.out.drawn ⟨⟨nd, rfl⟩⟩); have n1_ := Aside0.mk (blk_drewN BR.out nd); clear HI0 BR; have HI0 := n0_; have BR := n1_; clear n0_ n1_; generalize World.drewN _ nd = w2 at HI0 BR ⊢; have BX := Aside0.mk HI0.out.box; obtain ⟨hx0, hx1, hx2, hy0, hy1, hy2⟩ := cz3 BX; clear BX; obtain ⟨hr0, hr1, hr2, hs0, hs1, hs2⟩ := cz3 BR) | (go_at_call 76; (with_reducible refine (HW.out _).mono ?_); rintro e w2 ⟨rfl, hd⟩; obtain ⟨nd, rfl⟩ := hd; clear hr0 hr1 hr2 hs0 hs1 hs2 hx0 hx1 hx2 hy0 hy1 hy2; have n0_ := Aside0.mk (HI0.out.drawn ⟨⟨nd, rfl⟩⟩); have n1_ := Aside0.mk (blk_drewN BR.out nd); clear HI0 BR; have HI0 := n0_; have BR := n1_; clear n0_ n1_; generalize World.drewN _ nd = w2 at HI0 BR ⊢; have BX := Aside0.mk HI0.out.box; obtain ⟨hx0, hx1, hx2, hy0, hy1, hy2⟩ := cz3 BX; clear BX; obtain ⟨hr0, hr1, hr2, hs0, hs1, hs2⟩ := cz3 BR) | (go_at_call 63; (with_reducible refine (HR.out A1 c1 A2 c2 A3 c3 _ (Kd.R_reads' HI0.out.r1).2.2 (Kd.R_reads' HI0.out.r1).2.1 (Kd.R_reads' HI0.out.r2).2.2 (Kd.R_reads' HI0.out.r2).2.1 (Kd.R_reads' HI0.out.r3).2.2 (Kd.R_reads' HI0.out.r3).2.1).mono ?_); rintro e w5 ⟨rfl, hb⟩; clear hr0 hr1 hr2 hs0 hs1 hs2 hx0 hx1 hx2 hy0 hy1 hy2; have n0_ := Aside0.mk (HI0.out.later hb); have n1_ := Aside0.mk (blk_below BR.out hb); clear HI0 BR hb; have HI0 := n0_; have BR := n1_; clear n0_ n1_; have BX := Aside0.mk HI0.out.box; obtain ⟨hx0, hx1, hx2, hy0, hy1, hy2⟩ := cz3 BX; clear BX; obtain ⟨hr0, hr1, hr2, hs0, hs1, hs2⟩ := cz3 BR) | ((with_reducible refine gate_builtin (b := .append) (xs := #[.tmp 48, .tmp 50]) rfl ?_); at_builtin; refine Kd.R_append k69 (w0 := w0) w0.heap.size rfl (.tmp 48) (.tmp 50) 29 69 (.agg #[.string ⟨#[]⟩, .string ⟨#[]⟩, .int .i64 0]) 40 rfl Try.underlying29 info69 rfl (by decide) (by omega) (.slice A1 R.length c1) R (⟨nm, sd, pn⟩ : S69) [.string nm, .string sd, .int .i64 pn] (fun _ => True) (fun _ => False) rfl rfl ?aP (fun _ hk => hk.elim) ?aF ?aO ?aB ?aS ?aL ?_; (case aP => exact k69_mkM _ _ _ _); (case aB => exact HI0.out.below); (case aF => exact (fun _ _ => trivial)); (case aO => exact HI0.out.r1); (case aS => exact HI0.out.below.size); (case aL => have := HL.out; omega); intro v1' w6 ho hb hg hat; obtain ⟨A4, c4, rfl⟩ := Kd.R_slice ho; have n0_ := Aside0.mk (HI0.out.grown1 ho hb hg); clear hr0 hr1 hr2 hs0 hs1 hs2 hx0 hx1 hx2 hy0 hy1 hy2; clear HI0 BR ho hb hg hat; have HI0 := n0_; clear n0_; have BX := Aside0.mk HI0.out.1; obtain ⟨hx0, hx1, hx2, hy0, hy1, hy2⟩ := cz3 BX; clear BX))
       go_ret
       exact ⟨_, by rw [addRailN, if_pos rfl, if_pos rfl, if_pos rfl, if_neg (show ¬ t ≥ 0 by have := HT.out; omega), if_pos H10.out]; rfl, by simpa [addRailR, addRailN, show ¬ 0 ≤ t by have := HT.out; omega, H10.out] using HI0.out⟩
      ·have hb10 : ((R.length : Int) == 10) = false := beq_eq_false_iff_ne.mpr (by omega)
       have H10 := Aside0.mk h10
       clear h10
       go_enter Try.func45, Try.ntmps45
       go_wp2_with (first | ((with_reducible refine gate_dst (N := 3) rfl ?_); refine box_event ?hg (N := 3) ?hd (cs := #[.string nm, .string sd, .int .i64 pn]) (t := 69) ?hr ?_; (case hd => rfl); (case hg => rfl); (case hr => first | (go_simp; done) | (go_simp; rfl)); intro gb hg w1 hbox hb; have n0_ := Aside0.mk (HI0.out.later hb); have n1_ := Aside0.mk hbox; clear HI0 hbox hb hg; have HI0 := n0_; have BR := n1_; clear n0_ n1_; have BX := Aside0.mk HI0.out.box; obtain ⟨hx0, hx1, hx2, hy0, hy1, hy2⟩ := cz3 BX; clear BX; obtain ⟨hr0, hr1, hr2, hs0, hs1, hs2⟩ := cz3 BR) | (go_at_call 75; (with_reducible refine (HN.out _).mono ?_); rintro e w2 ⟨rfl, hd⟩; obtain ⟨nd, rfl⟩ := hd; clear hr0 hr1 hr2 hs0 hs1 hs2 hx0 hx1 hx2 hy0 hy1 hy2; have n0_ := Aside0.mk (HI0.out.drawn ⟨⟨nd, rfl⟩⟩); have n1_ := Aside0.mk (blk_drewN BR.out nd); clear HI0 BR; have HI0 := n0_; have BR := n1_; clear n0_ n1_; generalize World.drewN _ nd = w2 at HI0 BR ⊢; have BX := Aside0.mk HI0.out.box; obtain ⟨hx0, hx1, hx2, hy0, hy1, hy2⟩ := cz3 BX; clear BX; obtain ⟨hr0, hr1, hr2, hs0, hs1, hs2⟩ := cz3 BR) | (go_at_call 76; (with_reducible refine (HW.out _).mono ?_); rintro e w2 ⟨rfl, hd⟩; obtain ⟨nd, rfl⟩ := hd; clear hr0 hr1 hr2 hs0 hs1 hs2 hx0 hx1 hx2 hy0 hy1 hy2; have n0_ := Aside0.mk (HI0.out.drawn ⟨⟨nd, rfl⟩⟩); have n1_ := Aside0.mk (blk_drewN BR.out nd); clear HI0 BR; have HI0 := n0_; have BR := n1_; clear n0_ n1_; generalize World.drewN _ nd = w2 at HI0 BR ⊢; have BX := Aside0.mk HI0.out.box; obtain ⟨hx0, hx1, hx2, hy0, hy1, hy2⟩ := cz3 BX; clear BX; obtain ⟨hr0, hr1, hr2, hs0, hs1, hs2⟩ := cz3 BR) | (go_at_call 63; (with_reducible refine (HR.out A1 c1 A2 c2 A3 c3 _ (Kd.R_reads' HI0.out.r1).2.2 (Kd.R_reads' HI0.out.r1).2.1 (Kd.R_reads' HI0.out.r2).2.2 (Kd.R_reads' HI0.out.r2).2.1 (Kd.R_reads' HI0.out.r3).2.2 (Kd.R_reads' HI0.out.r3).2.1).mono ?_); rintro e w5 ⟨rfl, hb⟩; clear hr0 hr1 hr2 hs0 hs1 hs2 hx0 hx1 hx2 hy0 hy1 hy2; have n0_ := Aside0.mk (HI0.out.later hb); have n1_ := Aside0.mk (blk_below BR.out hb); clear HI0 BR hb; have HI0 := n0_; have BR := n1_; clear n0_ n1_; have BX := Aside0.mk HI0.out.box; obtain ⟨hx0, hx1, hx2, hy0, hy1, hy2⟩ := cz3 BX; clear BX; obtain ⟨hr0, hr1, hr2, hs0, hs1, hs2⟩ := cz3 BR) | ((with_reducible refine gate_builtin (b := .append) (xs := #[.tmp 48, .tmp 50]) rfl ?_); at_builtin; refine Kd.R_append k69 (w0 := w0) w0.heap.size rfl (.tmp 48) (.tmp 50) 29 69 (.agg #[.string ⟨#[]⟩, .string ⟨#[]⟩, .int .i64 0]) 40 rfl Try.underlying29 info69 rfl (by decide) (by omega) (.slice A1 R.length c1) R (⟨nm, sd, pn⟩ : S69) [.string nm, .string sd, .int .i64 pn] (fun _ => True) (fun _ => False) rfl rfl ?aP (fun _ hk => hk.elim) ?aF ?aO ?aB ?aS ?aL ?_; (case aP => exact k69_mkM _ _ _ _); (case aB => exact HI0.out.below); (case aF => exact (fun _ _ => trivial)); (case aO => exact HI0.out.r1); (case aS => exact HI0.out.below.size); (case aL => have := HL.out; omega); intro v1' w6 ho hb hg hat; obtain ⟨A4, c4, rfl⟩ := Kd.R_slice ho; have n0_ := Aside0.mk (HI0.out.grown1 ho hb hg); clear hr0 hr1 hr2 hs0 hs1 hs2 hx0 hx1 hx2 hy0 hy1 hy2; clear HI0 BR ho hb hg hat; have HI0 := n0_; clear n0_; have BX := Aside0.mk HI0.out.1; obtain ⟨hx0, hx1, hx2, hy0, hy1, hy2⟩ := cz3 BX; clear BX))
       go_still_tail 5, (by kernel_rfl)
       change wpList _ _ _ _ _ w2.drew
       clear hr0 hr1 hr2 hs0 hs1 hs2 hx0 hx1 hx2 hy0 hy1 hy2
       have n0_ := Aside0.mk HI0.out.drew
       have n1_ := Aside0.mk (blk_drew BR.out)
       clear HI0 BR
       have HI0 := n0_
       have BR := n1_
       clear n0_ n1_
       generalize w2.drew = wd at HI0 BR ⊢
       have BX := Aside0.mk HI0.out.box
       obtain ⟨hx0, hx1, hx2, hy0, hy1, hy2⟩ := cz3 BX
       clear BX
       obtain ⟨hr0, hr1, hr2, hs0, hs1, hs2⟩ := cz3 BR
       go_wp2_with (first | ((with_reducible refine gate_dst (N := 3) rfl ?_); refine box_event ?hg (N := 3) ?hd (cs := #[.string nm, .string sd, .int .i64 pn]) (t := 69) ?hr ?_; (case hd => rfl); (case hg => rfl); (case hr => first | (go_simp; done) | (go_simp; rfl)); intro gb hg w1 hbox hb; have n0_ := Aside0.mk (HI0.out.later hb); have n1_ := Aside0.mk hbox; clear HI0 hbox hb hg; have HI0 := n0_; have BR := n1_; clear n0_ n1_; have BX := Aside0.mk HI0.out.box; obtain ⟨hx0, hx1, hx2, hy0, hy1, hy2⟩ := cz3 BX; clear BX; obtain ⟨hr0, hr1, hr2, hs0, hs1, hs2⟩ := cz3 BR) | (go_at_call 75; (with_reducible refine (HN.out _).mono ?_); rintro e w2 ⟨rfl, hd⟩; obtain ⟨nd, rfl⟩ := hd; clear hr0 hr1 hr2 hs0 hs1 hs2 hx0 hx1 hx2 hy0 hy1 hy2; have n0_ := Aside0.mk (HI0.out.drawn ⟨⟨nd, rfl⟩⟩); have n1_ := Aside0.mk (blk_drewN BR.out nd); clear HI0 BR; have HI0 := n0_; have BR := n1_; clear n0_ n1_; generalize World.drewN _ nd = w2 at HI0 BR ⊢; have BX := Aside0.mk HI0.out.box; obtain ⟨hx0, hx1, hx2, hy0, hy1, hy2⟩ := cz3 BX; clear BX; obtain ⟨hr0, hr1, hr2, hs0, hs1, hs2⟩ := cz3 BR) | (go_at_call 76; (with_reducible refine (HW.out _).mono ?_); rintro e w2 ⟨rfl, hd⟩; obtain ⟨nd, rfl⟩ := hd; clear hr0 hr1 hr2 hs0 hs1 hs2 hx0 hx1 hx2 hy0 hy1 hy2; have n0_ := Aside0.mk (HI0.out.drawn ⟨⟨nd, rfl⟩⟩); have n1_ := Aside0.mk (blk_drewN BR.out nd); clear HI0 BR; have HI0 := n0_; have BR := n1_; clear n0_ n1_; generalize World.drewN _ nd = w2 at HI0 BR ⊢; have BX := Aside0.mk HI0.out.box; obtain ⟨hx0, hx1, hx2, hy0, hy1, hy2⟩ := cz3 BX; clear BX; obtain ⟨hr0, hr1, hr2, hs0, hs1, hs2⟩ := cz3 BR) | (go_at_call 63; (with_reducible refine (HR.out A1 c1 A2 c2 A3 c3 _ (Kd.R_reads' HI0.out.r1).2.2 (Kd.R_reads' HI0.out.r1).2.1 (Kd.R_reads' HI0.out.r2).2.2 (Kd.R_reads' HI0.out.r2).2.1 (Kd.R_reads' HI0.out.r3).2.2 (Kd.R_reads' HI0.out.r3).2.1).mono ?_); rintro e w5 ⟨rfl, hb⟩; clear hr0 hr1 hr2 hs0 hs1 hs2 hx0 hx1 hx2 hy0 hy1 hy2; have n0_ := Aside0.mk (HI0.out.later hb); have n1_ := Aside0.mk (blk_below BR.out hb); clear HI0 BR hb; have HI0 := n0_; have BR := n1_; clear n0_ n1_; have BX := Aside0.mk HI0.out.box; obtain ⟨hx0, hx1, hx2, hy0, hy1, hy2⟩ := cz3 BX; clear BX; obtain ⟨hr0, hr1, hr2, hs0, hs1, hs2⟩ := cz3 BR) | ((with_reducible refine gate_builtin (b := .append) (xs := #[.tmp 48, .tmp 50]) rfl ?_); at_builtin; refine Kd.R_append k69 (w0 := w0) w0.heap.size rfl (.tmp 48) (.tmp 50) 29 69 (.agg #[.string ⟨#[]⟩, .string ⟨#[]⟩, .int .i64 0]) 40 rfl Try.underlying29 info69 rfl (by decide) (by omega) (.slice A1 R.length c1) R (⟨nm, sd, pn⟩ : S69) [.string nm, .string sd, .int .i64 pn] (fun _ => True) (fun _ => False) rfl rfl ?aP (fun _ hk => hk.elim) ?aF ?aO ?aB ?aS ?aL ?_; (case aP => exact k69_mkM _ _ _ _); (case aB => exact HI0.out.below); (case aF => exact (fun _ _ => trivial)); (case aO => exact HI0.out.r1); (case aS => exact HI0.out.below.size); (case aL => have := HL.out; omega); intro v1' w6 ho hb hg hat; obtain ⟨A4, c4, rfl⟩ := Kd.R_slice ho; have n0_ := Aside0.mk (HI0.out.grown1 ho hb hg); clear hr0 hr1 hr2 hs0 hs1 hs2 hx0 hx1 hx2 hy0 hy1 hy2; clear HI0 BR ho hb hg hat; have HI0 := n0_; clear n0_; have BX := Aside0.mk HI0.out.1; obtain ⟨hx0, hx1, hx2, hy0, hy1, hy2⟩ := cz3 BX; clear BX))
       have HA := HI0.out.later (below_alloc (Below.refl w5.heap.size w5) (.cells #[.string nm, .string sd, .int .i64 pn] 69))
       have BZ := Aside0.mk HA.box
       clear HA
       obtain ⟨hz0, hz1, hz2, hw0, hw1, hw2⟩ := cz3 BZ
       clear BZ
       go_region_law (refine Kd.R_append_step k69 (w0 := w0) w0.heap.size (by rfl) (.tmp 48) (.tmp 50) 29 69 (.agg #[.string ⟨#[]⟩, .string ⟨#[]⟩, .int .i64 0]) 40 rfl Try.underlying29 info69 rfl (by decide) (by omega) (.slice A1 R.length c1) R (⟨nm, sd, pn⟩ : S69) [.string nm, .string sd, .int .i64 pn] (fun _ => True) (fun _ => False) rfl rfl (k69_mkM _ _ _ _) (fun _ hk => hk.elim) (fun _ _ => trivial) HI0.out.drew.r1 HI0.out.drew.below HI0.out.drew.below.size (by have := HL.out; omega) ?_; intro v1' w6 ho hb hg hat; obtain ⟨A4, c4, rfl⟩ := Kd.R_slice ho; have n0_ := Aside0.mk (HI0.out.drew.grown1 ho hb hg); clear hz0 hz1 hz2 hw0 hw1 hw2 hr0 hr1 hr2 hs0 hs1 hs2 hx0 hx1 hx2 hy0 hy1 hy2; clear HI0 BR ho hb hg hat; have HI0 := n0_; clear n0_; have BX := Aside0.mk HI0.out.1; obtain ⟨hx0, hx1, hx2, hy0, hy1, hy2⟩ := cz3 BX; clear BX)
       all_goals
        go_wp2
        go_ret
        exact ⟨_, by rw [addRailN, if_pos rfl, if_pos rfl, if_pos rfl, if_neg (show ¬ t ≥ 0 by have := HT.out; omega), if_neg H10.out]; rfl, by simpa [addRailR, addRailN, show ¬ 0 ≤ t by have := HT.out; omega, H10.out] using HI0.out.2⟩
  ·have h3 : ¬ sd.toList = [112] ∧ ¬ sd.toList = [115] ∧ ¬ sd.toList = [109] := by
    simp only [railSide, Bool.or_eq_true, decide_eq_true_eq, not_or] at hS
    exact hS
   obtain ⟨q1, q2, q3⟩ := h3
   have hS2 : railSide sd = false := by simpa using hS
   rw [hS2]
   clear hS hS2
   have e1 : (sd.toList == [112]) = false := beq_eq_false_iff_ne.mpr q1
   have e2 : (sd.toList == [115]) = false := beq_eq_false_iff_ne.mpr q2
   have e3 : (sd.toList == [109]) = false := beq_eq_false_iff_ne.mpr q3
   clear q1 q2 q3
   go_enter Try.func45, Try.ntmps45
   go_wp2_with (first | ((with_reducible refine gate_dst (N := 3) rfl ?_); refine box_event ?hg (N := 3) ?hd (cs := #[.string nm, .string sd, .int .i64 pn]) (t := 69) ?hr ?_; (case hd => rfl); (case hg => rfl); (case hr => first | (go_simp; done) | (go_simp; rfl)); intro gb hg w1 hbox hb; have n0_ := Aside0.mk (HI0.out.later hb); have n1_ := Aside0.mk hbox; clear HI0 hbox hb hg; have HI0 := n0_; have BR := n1_; clear n0_ n1_; have BX := Aside0.mk HI0.out.box; obtain ⟨hx0, hx1, hx2, hy0, hy1, hy2⟩ := cz3 BX; clear BX; obtain ⟨hr0, hr1, hr2, hs0, hs1, hs2⟩ := cz3 BR) | (go_at_call 75; (with_reducible refine (HN.out _).mono ?_); rintro e w2 ⟨rfl, hd⟩; obtain ⟨nd, rfl⟩ := hd; clear hr0 hr1 hr2 hs0 hs1 hs2 hx0 hx1 hx2 hy0 hy1 hy2; have n0_ := Aside0.mk (HI0.out.drawn ⟨⟨nd, rfl⟩⟩); have n1_ := Aside0.mk (blk_drewN BR.out nd); clear HI0 BR; have HI0 := n0_; have BR := n1_; clear n0_ n1_; generalize World.drewN _ nd = w2 at HI0 BR ⊢; have BX := Aside0.mk HI0.out.box; obtain ⟨hx0, hx1, hx2, hy0, hy1, hy2⟩ := cz3 BX; clear BX; obtain ⟨hr0, hr1, hr2, hs0, hs1, hs2⟩ := cz3 BR) | (go_at_call 76; (with_reducible refine (HW.out _).mono ?_); rintro e w2 ⟨rfl, hd⟩; obtain ⟨nd, rfl⟩ := hd; clear hr0 hr1 hr2 hs0 hs1 hs2 hx0 hx1 hx2 hy0 hy1 hy2; have n0_ := Aside0.mk (HI0.out.drawn ⟨⟨nd, rfl⟩⟩); have n1_ := Aside0.mk (blk_drewN BR.out nd); clear HI0 BR; have HI0 := n0_; have BR := n1_; clear n0_ n1_; generalize World.drewN _ nd = w2 at HI0 BR ⊢; have BX := Aside0.mk HI0.out.box; obtain ⟨hx0, hx1, hx2, hy0, hy1, hy2⟩ := cz3 BX; clear BX; obtain ⟨hr0, hr1, hr2, hs0, hs1, hs2⟩ := cz3 BR) | (go_at_call 63; (with_reducible refine (HR.out A1 c1 A2 c2 A3 c3 _ (Kd.R_reads' HI0.out.r1).2.2 (Kd.R_reads' HI0.out.r1).2.1 (Kd.R_reads' HI0.out.r2).2.2 (Kd.R_reads' HI0.out.r2).2.1 (Kd.R_reads' HI0.out.r3).2.2 (Kd.R_reads' HI0.out.r3).2.1).mono ?_); rintro e w5 ⟨rfl, hb⟩; clear hr0 hr1 hr2 hs0 hs1 hs2 hx0 hx1 hx2 hy0 hy1 hy2; have n0_ := Aside0.mk (HI0.out.later hb); have n1_ := Aside0.mk (blk_below BR.out hb); clear HI0 BR hb; have HI0 := n0_; have BR := n1_; clear n0_ n1_; have BX := Aside0.mk HI0.out.box; obtain ⟨hx0, hx1, hx2, hy0, hy1, hy2⟩ := cz3 BX; clear BX; obtain ⟨hr0, hr1, hr2, hs0, hs1, hs2⟩ := cz3 BR) | ((with_reducible refine gate_builtin (b := .append) (xs := #[.tmp 48, .tmp 50]) rfl ?_); at_builtin; refine Kd.R_append k69 (w0 := w0) w0.heap.size rfl (.tmp 48) (.tmp 50) 29 69 (.agg #[.string ⟨#[]⟩, .string ⟨#[]⟩, .int .i64 0]) 40 rfl Try.underlying29 info69 rfl (by decide) (by omega) (.slice A1 R.length c1) R (⟨nm, sd, pn⟩ : S69) [.string nm, .string sd, .int .i64 pn] (fun _ => True) (fun _ => False) rfl rfl ?aP (fun _ hk => hk.elim) ?aF ?aO ?aB ?aS ?aL ?_; (case aP => exact k69_mkM _ _ _ _); (case aB => exact HI0.out.below); (case aF => exact (fun _ _ => trivial)); (case aO => exact HI0.out.r1); (case aS => exact HI0.out.below.size); (case aL => have := HL.out; omega); intro v1' w6 ho hb hg hat; obtain ⟨A4, c4, rfl⟩ := Kd.R_slice ho; have n0_ := Aside0.mk (HI0.out.grown1 ho hb hg); clear hr0 hr1 hr2 hs0 hs1 hs2 hx0 hx1 hx2 hy0 hy1 hy2; clear HI0 BR ho hb hg hat; have HI0 := n0_; clear n0_; have BX := Aside0.mk HI0.out.1; obtain ⟨hx0, hx1, hx2, hy0, hy1, hy2⟩ := cz3 BX; clear BX))
   go_ret
   exact ⟨_, rfl, by simpa [addRailR, addRailN] using HI0.out⟩
def impl_addRail.f (k : Nat) (l0 : List (S69)) (a1 : ByteArray) (a2 : ByteArray) (a3 : Int) : Option (Int) := (impl_IsName.f k a1).bind fun t1 => ((impl_within.f a3 1 30).bind fun t2 => ((impl_railNamed.f l0 [] [] a1).bind fun t3 => (some (addRailN t1 (railSide a2) t2 t3 l0.length))))
theorem impl_addRail.mono : ∀ a0 a1 a2 a3 k, LeO (impl_addRail.f k a0 a1 a2 a3) (impl_addRail.f (k + 1) a0 a1 a2 a3) := by
 intro a0 a1 a2 a3 k
 unfold impl_addRail.f
 repeat' first
  | (with_reducible exact impl_IsName.mono _ _)
  | (with_reducible exact LeO.refl _)
  | (with_reducible exact LeO.none _)
  | (with_reducible refine LeO.ite ?_ ?_)
  | (with_reducible refine LeO.bind ?_ (fun _ => ?_))
theorem impl_addRail.at (k : Nat) (w0 w : World) (g : Nat) (v1 v2 v3 : Value) (R : List S69) (L : List ByteArray) (B : List S40) (s : S69) (n : Int) (HI : RigAt w0 w g v1 v2 v3 R L B) (hl : R.length ≤ 10) (h : impl_addRail.f k R s.f0 s.f1 s.f2 = some n) :
  (n = 0 → R.length + 1 ≤ 10) ∧ Calls Try.prog 45 #[.pointer (some ⟨g, 0, none⟩), .agg #[.string s.f0, .string s.f1, .int .i64 s.f2]] w fun e w' => ∃ v1', e = .returned (.int .i64 n) ∧ RigAt w0 w' g v1' v2 v3 (addTo n R s) L B := by
 unfold impl_addRail.f at h
 obtain ⟨b1, h1, h⟩ := Option.bind_eq_some_iff.mp h
 obtain ⟨b3, h2, h⟩ := Option.bind_eq_some_iff.mp h
 obtain ⟨t, h3, h⟩ := Option.bind_eq_some_iff.mp h
 obtain rfl := Option.some.inj h
 refine ⟨fun h0 => addRailN_lt h0 hl, ?_⟩
 exact addRail_go w0 w g v1 v2 v3 R L B s b1 b3 t HI hl (fun w => impl_IsName.calls k s.f0 b1 w h1) (fun w => impl_within.calls s.f2 1 30 b3 w h2) (fun A1 c1 A2 c2 A3 c3 w p1 q1 p2 q2 p3 q3 => impl_railNamed.calls A1 c1 R A2 c2 L A3 c3 B s.f0 t w p1 q1 p2 q2 p3 q3 h3)

end Go.Proofs.Ytpngklefeaolfaa.PFnExactWrongSides
