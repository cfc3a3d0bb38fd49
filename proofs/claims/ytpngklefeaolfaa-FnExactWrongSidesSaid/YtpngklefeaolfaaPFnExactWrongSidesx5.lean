-- Written by a program of this session (wip/tools/pp.sh).
import Derived.Test.YtpngklefeaolfaaPFnExactWrongSidesx0
import Derived.Test.YtpngklefeaolfaaPFnExactWrongSidesx4
namespace Go.Proofs.Ytpngklefeaolfaa.PFnExactWrongSides
open Go.RowKit Go.Proofs.YtpngklefeaolfaaW.PrintWords Go.Proofs.YtpngklefeaolfaaW.PrintLast Go.Proofs.YtpngklefeaolfaaW.PrintMore Go.Proofs.Ytpngklefeaolfaa.Small
open Bool renaming true → T, false → F
attribute [local go_sem] max2_int min2_int max_two min_two max_three min_three max_four min_four   -- for this text's walks alone
set_option linter.unusedVariables false
set_option linter.unusedSimpArgs false

/-! ### spec_IsName: function 85 -/
mutual
def spec_IsName.j0 : Nat → ByteArray → Bool → Option (Bool)
 | 0, _, _ => none
 | k + 1, x0, x16 => if x16 = true then (some false) else (spec_IsName.l0 k x0 0)
def spec_IsName.l0 : Nat → ByteArray → Int → Option (Bool)
 | 0, _, _ => none
 | k + 1, x0, x3 => if x3 < (x0.size : Int) then (if 0 ≤ x3 then ((spec_l01Small.f (bt x0 x3)).bind fun t207 => (if t207 = true then (spec_IsName.l0 k x0 (wrap64 (x3 + 1))) else ((spec_l01Digit.f (bt x0 x3)).bind fun t208 => (if t208 = true then (spec_IsName.l0 k x0 (wrap64 (x3 + 1))) else (if (bt x0 x3) = 45 then (spec_IsName.l0 k x0 (wrap64 (x3 + 1))) else (some false)))))) else (none)) else (some true)
end
def spec_IsName.f (k : Nat) (a0 : ByteArray) : Option (Bool) := if a0.toList = ([] : List UInt8) then (spec_IsName.j0 k a0 true) else (if (a0.size : Int) > 12 then (spec_IsName.j0 k a0 true) else (if 0 < (a0.size : Int) then ((spec_l01Small.f (bt a0 0)).bind fun t206 => (spec_IsName.j0 k a0 (!t206))) else (none)))
theorem spec_IsName.mono_l : ∀ k, (∀ y0 y1, LeO (spec_IsName.j0 k y0 y1) (spec_IsName.j0 (k + 1) y0 y1)) ∧ (∀ y0 y1, LeO (spec_IsName.l0 k y0 y1) (spec_IsName.l0 (k + 1) y0 y1))
 | 0 => ⟨fun _ _ r h => by simp [spec_IsName.j0] at h, fun _ _ r h => by simp [spec_IsName.l0] at h⟩
 | k + 1 => by
  obtain ⟨ih0, ih1⟩ := spec_IsName.mono_l k
  refine ⟨?_, ?_⟩
  ·intro y0 y1
   unfold spec_IsName.j0
   repeat' first
   | (with_reducible exact ih0 _ _)
   | (with_reducible exact ih1 _ _)
   | (with_reducible exact LeO.refl _)
   | (with_reducible exact LeO.none _)
   | (with_reducible refine LeO.ite ?_ ?_)
   | (with_reducible refine LeO.bind ?_ (fun _ => ?_))
   | exact ih0 _ _
   | exact ih1 _ _
   | exact LeO.none _
   | refine LeO.ite ?_ ?_
   | refine LeO.bind ?_ (fun _ => ?_)
  ·intro y0 y1
   unfold spec_IsName.l0
   repeat' first
   | (with_reducible exact ih0 _ _)
   | (with_reducible exact ih1 _ _)
   | (with_reducible exact LeO.refl _)
   | (with_reducible exact LeO.none _)
   | (with_reducible refine LeO.ite ?_ ?_)
   | (with_reducible refine LeO.bind ?_ (fun _ => ?_))
   | exact ih0 _ _
   | exact ih1 _ _
   | exact LeO.none _
   | refine LeO.ite ?_ ?_
   | refine LeO.bind ?_ (fun _ => ?_)
theorem spec_IsName.mono : ∀ a0 k, LeO (spec_IsName.f k a0) (spec_IsName.f (k + 1) a0) := by
 intro a0 k
 obtain ⟨ih0, ih1⟩ := spec_IsName.mono_l k
 unfold spec_IsName.f
 repeat' first
   | (with_reducible exact ih0 _ _)
   | (with_reducible exact ih1 _ _)
   | (with_reducible exact LeO.refl _)
   | (with_reducible exact LeO.none _)
   | (with_reducible refine LeO.ite ?_ ?_)
   | (with_reducible refine LeO.bind ?_ (fun _ => ?_))
   | exact ih0 _ _
   | exact ih1 _ _
   | exact LeO.none _
   | refine LeO.ite ?_ ?_
   | refine LeO.bind ?_ (fun _ => ?_)
set_option maxHeartbeats 8000000 in
set_option maxRecDepth 100000 in
theorem spec_IsName.calls (k : Nat) (a0 : ByteArray) (r : Bool) (w : World) (h : spec_IsName.f k a0 = some r) :
  Calls Try.prog 85 #[.string a0] w fun e w' => e = .returned (.bool r) ∧ Drawn0 w w' := by
 have H : (if a0.toList = ([] : List UInt8) then (spec_IsName.j0 k a0 true) else (if (a0.size : Int) > 12 then (spec_IsName.j0 k a0 true) else (if 0 < (a0.size : Int) then ((spec_l01Small.f (bt a0 0)).bind fun t206 => (spec_IsName.j0 k a0 (!t206))) else (none)))) = some r := h
 clear h
 have HC2 := Aside0.mk H
 clear H
 go_enter Try.func85, Try.ntmps85
 go_upto_region 1 with (fail)
 go_cut [16] (fun v16 wc => ∃ (kq : Nat) (x16_1 : Bool), v16 = .bool x16_1 ∧ Aside0 (spec_IsName.j0 kq a0 x16_1 = some r) ∧ Aside0 (kq ≤ k) ∧ Drawn0 w wc)
 case first =>
  have H := HC2.out
  clear HC2
  by_cases c3 : a0.toList = ([] : List UInt8)
  ·rw [if_pos c3] at H
   have c3b0 : (a0.toList == ([] : List UInt8)) = true := beq_iff_eq.mpr c3
   have c3b1 : (a0.toList != ([] : List UInt8)) = false := bne_eq_false_iff_eq.mpr c3
   clear c3
   (first | rw [c3b0] | (simp only [i64_w, i32_w]; rw [c3b0]) | skip)
   have H' := Aside0.mk H
   clear H
   go_wp2
   go_meet
   case rel => exact ⟨_, (true), (by first | rfl | (simp; done) | (simp [*]; done)), H', ⟨by first | omega | exact Nat.le_refl _⟩, by repeat (first | exact Drawn0.refl _ | apply Drawn0.step)⟩
  ·rw [if_neg c3] at H
   have c3b0 : (a0.toList == ([] : List UInt8)) = false := beq_eq_false_iff_ne.mpr c3
   have c3b1 : (a0.toList != ([] : List UInt8)) = true := bne_iff_ne.mpr c3
   (first | rw [c3b0] | (simp only [i64_w, i32_w]; rw [c3b0]) | skip)
   by_cases c4 : (a0.size : Int) > 12
   ·rw [if_pos c4] at H
    have c4b0 : decide (12 < (a0.size : Int)) = true := decide_eq_true c4
    have c4b1 : decide (12 < a0.size) = true := decide_eq_true (by omega)
    clear c4
    have H' := Aside0.mk H
    clear H
    go_wp2
    go_meet
    case rel => exact ⟨_, (true), (by first | rfl | (simp; done) | (simp [*]; done)), H', ⟨by first | omega | exact Nat.le_refl _⟩, by repeat (first | exact Drawn0.refl _ | apply Drawn0.step)⟩
   ·rw [if_neg c4] at H
    have c4b0 : decide (12 < (a0.size : Int)) = false := decide_eq_false c4
    have c4b1 : decide (12 < a0.size) = false := decide_eq_false (by omega)
    clear c4
    by_cases c5 : 0 < (a0.size : Int)
    ·rw [if_pos c5] at H
     have c5b0 : decide (0 < (a0.size : Int)) = true := decide_eq_true c5
     have c5b1 : decide (0 < a0.size) = true := decide_eq_true (by omega)
     clear c5
     replace H := Option.bind_eq_some_iff.mp H
     obtain ⟨t206, A70, H⟩ := H
     replace H : (spec_IsName.j0 k a0 (!t206)) = some r := H
     have A7 := Aside0.mk A70
     clear A70
     have H' := Aside0.mk H
     clear H
     have p6 : 0 ≤ (0 : Int) := (by omega)
     have q6 : 0 < a0.size := (by have : (0 : Int) < (a0.size : Int) := of_decide_eq_true (by first | (with_reducible assumption) | assumption); omega)
     have hx6 : ∀ h : 0 < a0.size, ((a0[0]'h).toNat : Int) = bt a0 0 := bt_at a0 0
     clear p6
     have qi6 : (0 < (a0.size : Int)) = True := eq_true (of_decide_eq_true (by first | (with_reducible assumption) | assumption))
     replace q6 := eq_true q6
     go_wp2_with (first | (go_at_call 86; (with_reducible refine (spec_l01Small.calls (bt a0 0) t206 _ A7.out).mono ?_); rintro e w' ⟨rfl, ⟨nd, rfl⟩⟩))
     go_meet
     case rel => exact ⟨_, (!t206), (by first | rfl | (simp; done) | (simp [*]; done)), H', ⟨by first | omega | exact Nat.le_refl _⟩, by repeat (first | exact Drawn0.refl _ | apply Drawn0.step)⟩
    ·rw [if_neg c5] at H
     exact absurd H (by simp)
 case rest =>
  clear HC2
  try clear p2
  try clear c3
  try clear c3b0
  try clear c3b1
  try clear c4
  try clear c4b0
  try clear c4b1
  try clear c5
  try clear c5b0
  try clear c5b1
  try clear p6
  try clear q6
  try clear hx6
  try clear qi6
  try clear p6
  try clear q6
  obtain ⟨kq, x16_1, rfl, HA, HJ1, ⟨mc1, rfl⟩⟩ := hcut
  cases kq with
  | zero => exact absurd HA.out (by simp [spec_IsName.j0])
  | succ kj1 =>
   have H := HA.out
   clear HA
   simp only [spec_IsName.j0] at H
   by_cases c8 : x16_1 = true
   ·subst c8
    have H1 : (some false) = some r := by rw [if_pos rfl] at H; exact H
    clear H
    have H := H1
    clear H1
    obtain rfl := Option.some.inj H
    simp only [Option.some.injEq, Prod.mk.injEq] at H
    obtain ⟨rfl⟩ := H
    go_wp2
    go_ret
    exact ⟨by first | rfl | (simp; done) | (simp [*]; done), by repeat (first | exact Drawn0.refl _ | apply Drawn0.step)⟩
   ·replace c8 := Bool.eq_false_iff.mpr c8
    subst c8
    have H1 : (spec_IsName.l0 kj1 a0 0) = some r := by rw [if_neg (show ¬ (false = true) by decide)] at H; exact H
    clear H
    have H := H1
    clear H1
    have H' := Aside0.mk H
    clear H
    go_wp2
    go_loopg [3] kj1 (fun kq v3 w' => ∃ (x3_2 : Int), v3 = .int .i64 x3_2 ∧ Aside0 (spec_IsName.l0 kq a0 x3_2 = some r) ∧ Aside0 (kq ≤ kj1) ∧ Drawn0 w w')
    case atStart => exact ⟨(0), (by first | rfl | (simp; done) | (simp [*]; done)), H', ⟨Nat.le_refl _⟩, by repeat (first | exact Drawn0.refl _ | apply Drawn0.step)⟩
    case round =>
     clear H'
     try clear c1
     try clear p2
     try clear c3
     try clear c3b0
     try clear c3b1
     try clear c4
     try clear c4b0
     try clear c4b1
     try clear c5
     try clear c5b0
     try clear c5b1
     try clear p6
     try clear q6
     try clear hx6
     try clear qi6
     try clear c8
     try clear p2
     try clear p6
     try clear q6
     obtain ⟨x3_2, rfl, HA, HK2, ⟨m2, rfl⟩⟩ := hrel
     cases gk with
     | zero => exact absurd HA.out (by simp [spec_IsName.l0])
     | succ k2 =>
      have H := HA.out
      clear HA
      simp only [spec_IsName.l0] at H
      by_cases c9 : x3_2 < (a0.size : Int)
      ·rw [if_pos c9] at H
       have c9b0 : decide (x3_2 < (a0.size : Int)) = true := decide_eq_true c9
       clear c9
       by_cases c10 : 0 ≤ x3_2
       ·rw [if_pos c10] at H
        have c10b0 : decide (0 ≤ x3_2) = true := decide_eq_true c10
        clear c10
        replace H := Option.bind_eq_some_iff.mp H
        obtain ⟨t207, A120, H⟩ := H
        replace H : (if t207 = true then (spec_IsName.l0 k2 a0 (wrap64 (x3_2 + 1))) else ((spec_l01Digit.f (bt a0 x3_2)).bind fun t208 => (if t208 = true then (spec_IsName.l0 k2 a0 (wrap64 (x3_2 + 1))) else (if (bt a0 x3_2) = 45 then (spec_IsName.l0 k2 a0 (wrap64 (x3_2 + 1))) else (some false))))) = some r := H
        have A12 := Aside0.mk A120
        clear A120
        by_cases c13 : t207 = true
        ·subst c13
         have H1 : (spec_IsName.l0 k2 a0 (wrap64 (x3_2 + 1))) = some r := by rw [if_pos rfl] at H; exact H
         clear H
         have H := H1
         clear H1
         have H' := Aside0.mk H
         clear H
         have p11 : 0 ≤ (x3_2 : Int) := of_decide_eq_true (by first | (with_reducible assumption) | assumption)
         have q11 : x3_2 < (a0.size : Int) := of_decide_eq_true (by first | (with_reducible assumption) | assumption)
         have hx11 := bt_at a0 x3_2
         replace p11 := eq_true p11
         replace q11 := eq_true q11
         go_wp2_with (first | ((with_reducible refine gate_callee (f := 86) rfl ?_); refine goesL_ (some 26) rfl rfl Try.func86 (by kernel_rfl) rfl #[.int .u8 (bt a0 x3_2)] rfl (by (try simp only [List.map_toArray, List.map_cons, List.map_nil]); first | done | rfl | (simp only [List.length_drop, List.length_take]; rfl)) ?_; (with_reducible refine (spec_l01Small.calls (bt a0 x3_2) true _ A12.out).mono ?_); rintro e w' ⟨rfl, ⟨nd, rfl⟩⟩; refine ⟨_, rfl, ?_⟩))
         go_roundg k2
         case measure => have := HJ1.out; have := HK2.out; omega
         case rel => exact ⟨(wrap64 (x3_2 + 1)), (by first | rfl | (simp; done) | (simp [*]; done)), H', ⟨by have := HJ1.out; have := HK2.out; omega⟩, by repeat (first | exact Drawn0.refl _ | apply Drawn0.step)⟩
        ·replace c13 := Bool.eq_false_iff.mpr c13
         subst c13
         have H1 : ((spec_l01Digit.f (bt a0 x3_2)).bind fun t208 => (if t208 = true then (spec_IsName.l0 k2 a0 (wrap64 (x3_2 + 1))) else (if (bt a0 x3_2) = 45 then (spec_IsName.l0 k2 a0 (wrap64 (x3_2 + 1))) else (some false)))) = some r := by rw [if_neg (show ¬ (false = true) by decide)] at H; exact H
         clear H
         have H := H1
         clear H1
         replace H := Option.bind_eq_some_iff.mp H
         obtain ⟨t208, A150, H⟩ := H
         replace H : (if t208 = true then (spec_IsName.l0 k2 a0 (wrap64 (x3_2 + 1))) else (if (bt a0 x3_2) = 45 then (spec_IsName.l0 k2 a0 (wrap64 (x3_2 + 1))) else (some false))) = some r := H
         have A15 := Aside0.mk A150
         clear A150
         by_cases c16 : t208 = true
         ·subst c16
          have H1 : (spec_IsName.l0 k2 a0 (wrap64 (x3_2 + 1))) = some r := by rw [if_pos rfl] at H; exact H
          clear H
          have H := H1
          clear H1
          have H' := Aside0.mk H
          clear H
          have p11 : 0 ≤ (x3_2 : Int) := of_decide_eq_true (by first | (with_reducible assumption) | assumption)
          have q11 : x3_2 < (a0.size : Int) := of_decide_eq_true (by first | (with_reducible assumption) | assumption)
          have hx11 := bt_at a0 x3_2
          replace p11 := eq_true p11
          replace q11 := eq_true q11
          go_wp2_with (first | ((with_reducible refine gate_callee (f := 86) rfl ?_); refine goesL_ (some 26) rfl rfl Try.func86 (by kernel_rfl) rfl #[.int .u8 (bt a0 x3_2)] rfl (by (try simp only [List.map_toArray, List.map_cons, List.map_nil]); first | done | rfl | (simp only [List.length_drop, List.length_take]; rfl)) ?_; (with_reducible refine (spec_l01Small.calls (bt a0 x3_2) false _ A12.out).mono ?_); rintro e w' ⟨rfl, ⟨nd, rfl⟩⟩; refine ⟨_, rfl, ?_⟩; have p14 : 0 ≤ (x3_2 : Int) := of_decide_eq_true (by first | (with_reducible assumption) | assumption); have q14 : x3_2 < (a0.size : Int) := of_decide_eq_true (by first | (with_reducible assumption) | assumption); have hx14 := bt_at a0 x3_2; replace p14 := eq_true p14; replace q14 := eq_true q14) | (go_at_call 87; (with_reducible refine (spec_l01Digit.calls (bt a0 x3_2) true _ A15.out).mono ?_); rintro e w' ⟨rfl, ⟨nd, rfl⟩⟩))
          go_roundg k2
          case measure => have := HJ1.out; have := HK2.out; omega
          case rel => exact ⟨(wrap64 (x3_2 + 1)), (by first | rfl | (simp; done) | (simp [*]; done)), H', ⟨by have := HJ1.out; have := HK2.out; omega⟩, by repeat (first | exact Drawn0.refl _ | apply Drawn0.step)⟩
         ·replace c16 := Bool.eq_false_iff.mpr c16
          subst c16
          have H1 : (if (bt a0 x3_2) = 45 then (spec_IsName.l0 k2 a0 (wrap64 (x3_2 + 1))) else (some false)) = some r := by rw [if_neg (show ¬ (false = true) by decide)] at H; exact H
          clear H
          have H := H1
          clear H1
          have HF_ := Aside0.mk H
          clear H
          have p11 : 0 ≤ (x3_2 : Int) := of_decide_eq_true (by first | (with_reducible assumption) | assumption)
          have q11 : x3_2 < (a0.size : Int) := of_decide_eq_true (by first | (with_reducible assumption) | assumption)
          have hx11 := bt_at a0 x3_2
          replace p11 := eq_true p11
          replace q11 := eq_true q11
          go_upto_if 40 with (first | ((with_reducible refine gate_callee (f := 86) rfl ?_); refine goesL_ (some 26) rfl rfl Try.func86 (by kernel_rfl) rfl #[.int .u8 (bt a0 x3_2)] rfl (by (try simp only [List.map_toArray, List.map_cons, List.map_nil]); first | done | rfl | (simp only [List.length_drop, List.length_take]; rfl)) ?_; (with_reducible refine (spec_l01Small.calls (bt a0 x3_2) false _ A12.out).mono ?_); rintro e w' ⟨rfl, ⟨nd, rfl⟩⟩; refine ⟨_, rfl, ?_⟩; have p14 : 0 ≤ (x3_2 : Int) := of_decide_eq_true (by first | (with_reducible assumption) | assumption); have q14 : x3_2 < (a0.size : Int) := of_decide_eq_true (by first | (with_reducible assumption) | assumption); have hx14 := bt_at a0 x3_2; replace p14 := eq_true p14; replace q14 := eq_true q14) | (go_at_call 87; (with_reducible refine (spec_l01Digit.calls (bt a0 x3_2) false _ A15.out).mono ?_); rintro e w' ⟨rfl, ⟨nd, rfl⟩⟩; have p17 : 0 ≤ (x3_2 : Int) := of_decide_eq_true (by first | (with_reducible assumption) | assumption); have q17 : x3_2 < (a0.size : Int) := of_decide_eq_true (by first | (with_reducible assumption) | assumption); have hx17 := bt_at a0 x3_2; replace p17 := eq_true p17; replace q17 := eq_true q17))
          (try simp only [Act.put, List.setIfInBounds_toArray, List.set_cons_zero, List.set_cons_succ])
          have H := HF_.out
          clear HF_
          by_cases c18 : (bt a0 x3_2) = 45
          ·rw [if_pos c18] at H
           have c18b0 : ((bt a0 x3_2) == 45) = true := beq_iff_eq.mpr c18
           have c18b1 : ((bt a0 x3_2) != 45) = false := bne_eq_false_iff_eq.mpr c18
           clear c18
           (first | rw [c18b0] | (simp only [i64_w, i32_w]; rw [c18b0]) | skip)
           have H' := Aside0.mk H
           clear H
           go_wp2
           go_roundg k2
           case measure => have := HJ1.out; have := HK2.out; omega
           case rel => exact ⟨(wrap64 (x3_2 + 1)), (by first | rfl | (simp; done) | (simp [*]; done)), H', ⟨by have := HJ1.out; have := HK2.out; omega⟩, by repeat (first | exact Drawn0.refl _ | apply Drawn0.step)⟩
          ·rw [if_neg c18] at H
           have c18b0 : ((bt a0 x3_2) == 45) = false := beq_eq_false_iff_ne.mpr c18
           have c18b1 : ((bt a0 x3_2) != 45) = true := bne_iff_ne.mpr c18
           (first | rw [c18b0] | (simp only [i64_w, i32_w]; rw [c18b0]) | skip)
           obtain rfl := Option.some.inj H
           simp only [Option.some.injEq, Prod.mk.injEq] at H
           obtain ⟨rfl⟩ := H
           go_wp2
           go_ret
           exact ⟨by first | rfl | (simp; done) | (simp [*]; done), by repeat (first | exact Drawn0.refl _ | apply Drawn0.step)⟩
       ·rw [if_neg c10] at H
        exact absurd H (by simp)
      ·rw [if_neg c9] at H
       have c9b0 : decide (x3_2 < (a0.size : Int)) = false := decide_eq_false c9
       clear c9
       obtain rfl := Option.some.inj H
       simp only [Option.some.injEq, Prod.mk.injEq] at H
       obtain ⟨rfl⟩ := H
       go_wp2
       go_ret
       exact ⟨by first | rfl | (simp; done) | (simp [*]; done), by repeat (first | exact Drawn0.refl _ | apply Drawn0.step)⟩

/-! ### spec_l19AddRail: function 71, by hand -/
structure RigAt (w0 w : World) (g : Nat) (v1 v2 v3 : Value) (R : List S69) (L : List ByteArray) (B : List S40) : Prop where
 box : w.heap[g]? = some (.cells #[v1, v2, v3] 32 (0, 0))
 new : w0.heap.size ≤ g
 r1 : Kd.R k69 69 w w0.heap.size (fun _ => True) v1 R
 r2 : Kd.R Kd.string 9 w w0.heap.size (fun _ => True) v2 L
 r3 : Kd.R k40 40 w w0.heap.size (fun _ => True) v3 B
 below : Below w0.heap.size w0 w
theorem nf : ¬ (false = true) := by decide
theorem RigAt.drawn {w0 w w' : World} {g : Nat} {v1 v2 v3 : Value} {R : List S69} {L : List ByteArray} {B : List S40} (h : RigAt w0 w g v1 v2 v3 R L B) (hd : Drawn0 w w') : RigAt w0 w' g v1 v2 v3 R L B := by
 obtain ⟨n, rfl⟩ := hd
 exact ⟨blk_drewN h.box n, h.new, Kd.R_drewN h.r1 n, Kd.R_drewN h.r2 n, Kd.R_drewN h.r3 n, pw_below_drewN h.below n⟩
/-- Behind an append to the lines, ahead of the store. -/
theorem RigAt.grown2 {w0 w w1 : World} {g : Nat} {v1 v2 v3 v2' : Value} {R : List S69} {L L' : List ByteArray} {B : List S40} (h : RigAt w0 w g v1 v2 v3 R L B) (ho : Kd.R Kd.string 9 w1 w0.heap.size (fun _ => True) v2' L') (hb : Below w0.heap.size w0 w1) (hg : w.grownBy w1 v2.ownBlock) :
  w1.heap[g]? = some (.cells #[v1, v2, v3] 32 (0, 0)) ∧ RigAt w0 (w1.setCell ⟨g, 1, none⟩ v2') g v1 v2' v3 R L' B := by
 have hbox := blk_grown h.box hg (Kd.R_ne h.r2 h.box (by decide))
 have a1 := Kd.R_grown (Kd.R_apart' h.r1 (Kd.R_typed h.r2) (by decide)) hg (fun k hk => hk.2)
 have a3 := Kd.R_grown (Kd.R_apart' h.r3 (Kd.R_typed h.r2) (by decide)) hg (fun k hk => hk.2)
 refine ⟨hbox, blk_put hbox 1 v2' rfl, h.new, ?_, ?_, ?_, hb.setCell h.new _⟩
 ·exact Kd.R_set (Kd.R_mono a1 (fun _ _ => trivial)) hbox (by decide) 1 v2'
 ·exact Kd.R_set ho hbox (by decide) 1 v2'
 ·exact Kd.R_set (Kd.R_mono a3 (fun _ _ => trivial)) hbox (by decide) 1 v2'
/-- What addLine tells, and what the lines are then. -/
def addLineN (b1 b2 : Bool) (n : Nat) : Int := if b1 = true then (if b2 = true then 5 else if n = 60 then 8 else 0) else 3
def addLineL (b1 b2 : Bool) (L : List ByteArray) (s : ByteArray) : List ByteArray := if b1 = true ∧ b2 = false ∧ L.length ≠ 60 then L ++ [s] else L
theorem RigAt.C {w0 w : World} {g : Nat} {v1 v2 v3 : Value} {R : List S69} {L : List ByteArray} {B : List S40} (h : RigAt w0 w g v1 v2 v3 R L B) : Kd.C k32 w (some ⟨g, 0, none⟩) 1 [⟨R, L, B⟩] := by
 obtain ⟨A1, c1, rfl⟩ := Kd.R_slice h.r1
 obtain ⟨A2, c2, rfl⟩ := Kd.R_slice h.r2
 obtain ⟨A3, c3, rfl⟩ := Kd.R_slice h.r3
 exact ro_box (t := 32) (cs := [.slice A1 R.length c1, .slice A2 L.length c2, .slice A3 B.length c3]) h.box (k32_mk w ⟨R, L, B⟩ (Kd.R_reads' h.r1).2.1 (Kd.R_reads' h.r1).2.2 (Kd.R_reads' h.r2).2.1 (Kd.R_reads' h.r2).2.2 (Kd.R_reads' h.r3).2.1 (Kd.R_reads' h.r3).2.2) rfl
theorem RigAt.later {w0 w w' : World} {g : Nat} {v1 v2 v3 : Value} {R : List S69} {L : List ByteArray} {B : List S40} (h : RigAt w0 w g v1 v2 v3 R L B) (hb : Below w.heap.size w w') : RigAt w0 w' g v1 v2 v3 R L B :=
 ⟨blk_below h.box hb, h.new, Kd.R_below h.r1 hb, Kd.R_below h.r2 hb, Kd.R_below h.r3 hb, below_then h.below h.below.size hb⟩
theorem RigAt.drew {w0 w : World} {g : Nat} {v1 v2 v3 : Value} {R : List S69} {L : List ByteArray} {B : List S40} (h : RigAt w0 w g v1 v2 v3 R L B) : RigAt w0 w.drew g v1 v2 v3 R L B :=
 ⟨blk_drew h.box, h.new, Kd.R_drew h.r1, Kd.R_drew h.r2, Kd.R_drew h.r3, below_drew1 h.below⟩
theorem RigAt.grown1 {w0 w w1 : World} {g : Nat} {v1 v2 v3 v1' : Value} {R R' : List S69} {L : List ByteArray} {B : List S40} (h : RigAt w0 w g v1 v2 v3 R L B) (ho : Kd.R k69 69 w1 w0.heap.size (fun _ => True) v1' R') (hb : Below w0.heap.size w0 w1) (hg : w.grownBy w1 v1.ownBlock) :
  w1.heap[g]? = some (.cells #[v1, v2, v3] 32 (0, 0)) ∧ RigAt w0 (w1.setCell ⟨g, 0, none⟩ v1') g v1' v2 v3 R' L B := by
 have hbox := blk_grown h.box hg (Kd.R_ne h.r1 h.box (by decide))
 have a2 := Kd.R_grown (Kd.R_apart' h.r2 (Kd.R_typed h.r1) (by decide)) hg (fun k hk => hk.2)
 have a3 := Kd.R_grown (Kd.R_apart' h.r3 (Kd.R_typed h.r1) (by decide)) hg (fun k hk => hk.2)
 refine ⟨hbox, blk_put hbox 0 v1' rfl, h.new, ?_, ?_, ?_, hb.setCell h.new _⟩
 ·exact Kd.R_set ho hbox (by decide) 0 v1'
 ·exact Kd.R_set (Kd.R_mono a2 (fun _ _ => trivial)) hbox (by decide) 0 v1'
 ·exact Kd.R_set (Kd.R_mono a3 (fun _ _ => trivial)) hbox (by decide) 0 v1'
def railSide (s : ByteArray) : Bool := decide (s.toList = [112]) || (decide (s.toList = [115]) || decide (s.toList = [109]))
/-- What addRail tells, and what the rails are then. -/
def addRailN (b1 bs b3 : Bool) (t : Int) (n : Nat) : Int := if b1 = true then (if bs = true then (if b3 = true then (if t ≥ 0 then 5 else if n = 10 then 8 else 0) else 4) else 1) else 3
def addRailR (b1 bs b3 : Bool) (t : Int) (R : List S69) (r : S69) : List S69 := if addRailN b1 bs b3 t R.length = 0 then R ++ [r] else R
theorem RigAt.grown3 {w0 w w1 : World} {g : Nat} {v1 v2 v3 v3' : Value} {R : List S69} {L : List ByteArray} {B B' : List S40} (h : RigAt w0 w g v1 v2 v3 R L B) (ho : Kd.R k40 40 w1 w0.heap.size (fun _ => True) v3' B') (hb : Below w0.heap.size w0 w1) (hg : w.grownBy w1 v3.ownBlock) :
  w1.heap[g]? = some (.cells #[v1, v2, v3] 32 (0, 0)) ∧ RigAt w0 (w1.setCell ⟨g, 2, none⟩ v3') g v1 v2 v3' R L B' := by
 have hbox := blk_grown h.box hg (Kd.R_ne h.r3 h.box (by decide))
 have a1 := Kd.R_grown (Kd.R_apart' h.r1 (Kd.R_typed h.r3) (by decide)) hg (fun k hk => hk.2)
 have a2 := Kd.R_grown (Kd.R_apart' h.r2 (Kd.R_typed h.r3) (by decide)) hg (fun k hk => hk.2)
 refine ⟨hbox, blk_put hbox 2 v3' rfl, h.new, ?_, ?_, ?_, hb.setCell h.new _⟩
 ·exact Kd.R_set (Kd.R_mono a1 (fun _ _ => trivial)) hbox (by decide) 2 v3'
 ·exact Kd.R_set (Kd.R_mono a2 (fun _ _ => trivial)) hbox (by decide) 2 v3'
 ·exact Kd.R_set ho hbox (by decide) 2 v3'
def addBelayN (t : Int) (b2 b3 : Bool) (o a : Int) : Int := if t < 0 then 6 else if b2 = false then 6 else if b3 = false then 4 else if o ≥ 0 then 5 else if a ≥ 0 then 7 else 0
def addBelayB (t : Int) (b2 b3 : Bool) (o a : Int) (B : List S40) (b : S40) : List S40 := if addBelayN t b2 b3 o a = 0 then B ++ [b] else B
def addTo {α : Type} (n : Int) (l : List α) (x : α) : List α := if n = 0 then l ++ [x] else l
theorem addTo_zero {α : Type} (l : List α) (x : α) : addTo 0 l x = l ++ [x] := if_pos rfl
theorem addLineL_eq (b1 b2 : Bool) (L : List ByteArray) (s : ByteArray) : addLineL b1 b2 L s = addTo (addLineN b1 b2 L.length) L s := by
 unfold addLineL addTo addLineN
 cases b1 <;> cases b2 <;> by_cases h : L.length = 60 <;> simp [h]
theorem addLineN_lt {b1 b2 : Bool} {n : Nat} (h : addLineN b1 b2 n = 0) (hn : n ≤ 60) : n + 1 ≤ 60 := by
 unfold addLineN at h
 by_cases e : n = 60
 ·cases b1 <;> cases b2 <;> simp [e] at h
 ·omega
theorem addRailN_lt {b1 bs b3 : Bool} {t : Int} {n : Nat} (h : addRailN b1 bs b3 t n = 0) (hn : n ≤ 10) : n + 1 ≤ 10 := by
 unfold addRailN at h
 by_cases e : n = 10
 ·cases b1 <;> cases bs <;> cases b3 <;> by_cases ht : t ≥ 0 <;> simp [e, ht] at h
 ·omega
set_option maxHeartbeats 8000000 in
set_option maxRecDepth 100000 in
theorem spec_addRail_go (w0 w : World) (g : Nat) (v1 v2 v3 : Value) (R : List S69) (L : List ByteArray) (B : List S40) (r : S69) (b1 b3 : Bool) (t : Int) (HI : RigAt w0 w g v1 v2 v3 R L B) (hl : R.length ≤ 10)
  (hN : ∀ w, Calls Try.prog 85 #[.string r.f0] w fun e w' => e = .returned (.bool b1) ∧ Drawn0 w w')
  (hW : ∀ w, Calls Try.prog 51 #[.int .i64 r.f2, .int .i64 1, .int .i64 30] w fun e w' => e = .returned (.bool b3) ∧ Drawn0 w w')
  (hR : ∀ w, Kd.C k32 w (some ⟨g, 0, none⟩) 1 [⟨R, L, B⟩] → Calls Try.prog 50 #[.pointer (some ⟨g, 0, none⟩), .string r.f0] w fun e w' => e = .returned (.int .i64 t) ∧ Drawn0 w w') :
  Calls Try.prog 71 #[.pointer (some ⟨g, 0, none⟩), .agg #[.string r.f0, .string r.f1, .int .i64 r.f2]] w fun e w' => ∃ v1', e = .returned (.int .i64 (addRailN b1 (railSide r.f1) b3 t R.length)) ∧ RigAt w0 w' g v1' v2 v3 (addRailR b1 (railSide r.f1) b3 t R r) L B := by
 have HI0 := Aside0.mk HI
 have HL := Aside0.mk hl
 have HN := Aside0.mk hN
 have HW := Aside0.mk hW
 have HR := Aside0.mk hR
 clear HI hl hN hW hR
 obtain ⟨nm, sd, pn⟩ := r
 cases b1 with
 | false =>
  go_enter Try.func71, Try.ntmps71
  go_wp2_with (first | ((with_reducible refine gate_dst (N := 3) rfl ?_); refine box_event ?hg (N := 3) ?hd (cs := #[.string nm, .string sd, .int .i64 pn]) (t := 69) ?hr ?_; (case hd => rfl); (case hg => rfl); (case hr => first | (go_simp; done) | (go_simp; rfl)); intro gb hg w1 hbox hb; have n0_ := Aside0.mk (HI0.out.later hb); have n1_ := Aside0.mk hbox; clear HI0 hbox hb hg; have HI0 := n0_; have BR := n1_; clear n0_ n1_; obtain ⟨hr0, hr1, hr2, hs0, hs1, hs2⟩ := cz3 BR) | (go_at_call 85; (with_reducible refine (HN.out _).mono ?_); rintro e w2 ⟨rfl, hd⟩; obtain ⟨nd, rfl⟩ := hd; clear hr0 hr1 hr2 hs0 hs1 hs2; have n0_ := Aside0.mk (HI0.out.drawn ⟨⟨nd, rfl⟩⟩); have n1_ := Aside0.mk (blk_drewN BR.out nd); clear HI0 BR; have HI0 := n0_; have BR := n1_; clear n0_ n1_; generalize World.drewN _ nd = w2 at HI0 BR ⊢; obtain ⟨hr0, hr1, hr2, hs0, hs1, hs2⟩ := cz3 BR))
  go_ret
  exact ⟨_, rfl, by simpa [addRailR, addRailN] using HI0.out⟩
 | true =>
  obtain ⟨A1, c1, rfl⟩ := Kd.R_slice HI0.out.r1
  obtain ⟨A2, c2, rfl⟩ := Kd.R_slice HI0.out.r2
  obtain ⟨A3, c3, rfl⟩ := Kd.R_slice HI0.out.r3
  show Calls Try.prog 71 #[.pointer (some ⟨g, 0, none⟩), .agg #[.string nm, .string sd, .int .i64 pn]] w fun e w' => ∃ v1', e = .returned (.int .i64 (addRailN true (railSide sd) b3 t R.length)) ∧ RigAt w0 w' g v1' _ _ (addRailR true (railSide sd) b3 t R ⟨nm, sd, pn⟩) L B
  by_cases hS : railSide sd = true
  ·have h3 : sd.toList = [112] ∨ (¬ sd.toList = [112] ∧ sd.toList = [115]) ∨ (¬ sd.toList = [112] ∧ ¬ sd.toList = [115] ∧ sd.toList = [109]) := by
    simp only [railSide, Bool.or_eq_true, decide_eq_true_eq] at hS
    by_cases a1 : sd.toList = [112]
    ·exact .inl a1
    ·by_cases a2 : sd.toList = [115]
     ·exact .inr (.inl ⟨a1, a2⟩)
     ·exact .inr (.inr ⟨a1, a2, by rcases hS with h | h | h <;> first | exact h | exact absurd h a1 | exact absurd h a2⟩)
   rw [hS]
   clear hS
   rcases h3 with q1 | ⟨q2, q1⟩ | ⟨q3, q2, q1⟩
   all_goals
    cases b3 with
    | false =>
     go_enter Try.func71, Try.ntmps71
     go_wp2_with (first | ((with_reducible refine gate_dst (N := 3) rfl ?_); refine box_event ?hg (N := 3) ?hd (cs := #[.string nm, .string sd, .int .i64 pn]) (t := 69) ?hr ?_; (case hd => rfl); (case hg => rfl); (case hr => first | (go_simp; done) | (go_simp; rfl)); intro gb hg w1 hbox hb; have n0_ := Aside0.mk (HI0.out.later hb); have n1_ := Aside0.mk hbox; clear HI0 hbox hb hg; have HI0 := n0_; have BR := n1_; clear n0_ n1_; have BX := Aside0.mk HI0.out.box; obtain ⟨hx0, hx1, hx2, hy0, hy1, hy2⟩ := cz3 BX; clear BX; obtain ⟨hr0, hr1, hr2, hs0, hs1, hs2⟩ := cz3 BR) | (go_at_call 85; (with_reducible refine (HN.out _).mono ?_); rintro e w2 ⟨rfl, hd⟩; obtain ⟨nd, rfl⟩ := hd; clear hr0 hr1 hr2 hs0 hs1 hs2 hx0 hx1 hx2 hy0 hy1 hy2; have n0_ := Aside0.mk (HI0.out.drawn ⟨⟨nd, rfl⟩⟩); have n1_ := Aside0.mk (blk_drewN BR.out nd); clear HI0 BR; have HI0 := n0_; have BR := n1_; clear n0_ n1_; generalize World.drewN _ nd = w2 at HI0 BR ⊢; have BX := Aside0.mk HI0.out.box; obtain ⟨hx0, hx1, hx2, hy0, hy1, hy2⟩ := cz3 BX; clear BX; obtain ⟨hr0, hr1, hr2, hs0, hs1, hs2⟩ := cz3 BR) | (go_at_call 51; (with_reducible refine (HW.out _).mono ?_); rintro e w2 ⟨rfl, hd⟩; obtain ⟨nd, rfl⟩ := hd; clear hr0 hr1 hr2 hs0 hs1 hs2 hx0 hx1 hx2 hy0 hy1 hy2; have n0_ := Aside0.mk (HI0.out.drawn ⟨⟨nd, rfl⟩⟩); have n1_ := Aside0.mk (blk_drewN BR.out nd); clear HI0 BR; have HI0 := n0_; have BR := n1_; clear n0_ n1_; generalize World.drewN _ nd = w2 at HI0 BR ⊢; have BX := Aside0.mk HI0.out.box; obtain ⟨hx0, hx1, hx2, hy0, hy1, hy2⟩ := cz3 BX; clear BX; obtain ⟨hr0, hr1, hr2, hs0, hs1, hs2⟩ := cz3 BR) | (go_at_call 50; (with_reducible refine (HR.out _ HI0.out.C).mono ?_); rintro e w2 ⟨rfl, hd⟩; obtain ⟨nd, rfl⟩ := hd; clear hr0 hr1 hr2 hs0 hs1 hs2 hx0 hx1 hx2 hy0 hy1 hy2; have n0_ := Aside0.mk (HI0.out.drawn ⟨⟨nd, rfl⟩⟩); have n1_ := Aside0.mk (blk_drewN BR.out nd); clear HI0 BR; have HI0 := n0_; have BR := n1_; clear n0_ n1_; generalize World.drewN _ nd = w2 at HI0 BR ⊢; have BX := Aside0.mk HI0.out.box; obtain ⟨hx0, hx1, hx2, hy0, hy1, hy2⟩ := cz3 BX; clear BX; obtain ⟨hr0, hr1, hr2, hs0, hs1, hs2⟩ := cz3 BR) | ((with_reducible refine gate_builtin (b := .append) (xs := #[.tmp 46, .tmp 48]) rfl ?_); at_builtin; refine Kd.R_append k69 (w0 := w0) w0.heap.size rfl (.tmp 46) (.tmp 48) 29 69 (.agg #[.string ⟨#[]⟩, .string ⟨#[]⟩, .int .i64 0]) 40 rfl Try.underlying29 info69 rfl (by decide) (by omega) (.slice A1 R.length c1) R (⟨nm, sd, pn⟩ : S69) [.string nm, .string sd, .int .i64 pn] (fun _ => True) (fun _ => False) rfl rfl ?aP (fun _ hk => hk.elim) ?aF ?aO ?aB ?aS ?aL ?_; (case aP => exact k69_mkM _ _ _ _); (case aB => exact HI0.out.below); (case aF => exact (fun _ _ => trivial)); (case aO => exact HI0.out.r1); (case aS => exact HI0.out.below.size); (case aL => have := HL.out; omega); intro v1' w6 ho hb hg hat; obtain ⟨A4, c4, rfl⟩ := Kd.R_slice ho; have n0_ := Aside0.mk (HI0.out.grown1 ho hb hg); clear hr0 hr1 hr2 hs0 hs1 hs2 hx0 hx1 hx2 hy0 hy1 hy2; clear HI0 BR ho hb hg hat; have HI0 := n0_; clear n0_; have BX := Aside0.mk HI0.out.1; obtain ⟨hx0, hx1, hx2, hy0, hy1, hy2⟩ := cz3 BX; clear BX))
     go_ret
     exact ⟨_, rfl, by simpa [addRailR, addRailN] using HI0.out⟩
    | true =>
     by_cases ht : t ≥ 0
     ·have ht0 : decide (t ≥ 0) = true := decide_eq_true ht
      have ht1 : decide (0 ≤ t) = true := decide_eq_true ht
      have HT := Aside0.mk ht
      clear ht
      go_enter Try.func71, Try.ntmps71
      go_wp2_with (first | ((with_reducible refine gate_dst (N := 3) rfl ?_); refine box_event ?hg (N := 3) ?hd (cs := #[.string nm, .string sd, .int .i64 pn]) (t := 69) ?hr ?_; (case hd => rfl); (case hg => rfl); (case hr => first | (go_simp; done) | (go_simp; rfl)); intro gb hg w1 hbox hb; have n0_ := Aside0.mk (HI0.out.later hb); have n1_ := Aside0.mk hbox; clear HI0 hbox hb hg; have HI0 := n0_; have BR := n1_; clear n0_ n1_; have BX := Aside0.mk HI0.out.box; obtain ⟨hx0, hx1, hx2, hy0, hy1, hy2⟩ := cz3 BX; clear BX; obtain ⟨hr0, hr1, hr2, hs0, hs1, hs2⟩ := cz3 BR) | (go_at_call 85; (with_reducible refine (HN.out _).mono ?_); rintro e w2 ⟨rfl, hd⟩; obtain ⟨nd, rfl⟩ := hd; clear hr0 hr1 hr2 hs0 hs1 hs2 hx0 hx1 hx2 hy0 hy1 hy2; have n0_ := Aside0.mk (HI0.out.drawn ⟨⟨nd, rfl⟩⟩); have n1_ := Aside0.mk (blk_drewN BR.out nd); clear HI0 BR; have HI0 := n0_; have BR := n1_; clear n0_ n1_; generalize World.drewN _ nd = w2 at HI0 BR ⊢; have BX := Aside0.mk HI0.out.box; obtain ⟨hx0, hx1, hx2, hy0, hy1, hy2⟩ := cz3 BX; clear BX; obtain ⟨hr0, hr1, hr2, hs0, hs1, hs2⟩ := cz3 BR) | (go_at_call 51; (with_reducible refine (HW.out _).mono ?_); rintro e w2 ⟨rfl, hd⟩; obtain ⟨nd, rfl⟩ := hd; clear hr0 hr1 hr2 hs0 hs1 hs2 hx0 hx1 hx2 hy0 hy1 hy2; have n0_ := Aside0.mk (HI0.out.drawn ⟨⟨nd, rfl⟩⟩); have n1_ := Aside0.mk (blk_drewN BR.out nd); clear HI0 BR; have HI0 := n0_; have BR := n1_; clear n0_ n1_; generalize World.drewN _ nd = w2 at HI0 BR ⊢; have BX := Aside0.mk HI0.out.box; obtain ⟨hx0, hx1, hx2, hy0, hy1, hy2⟩ := cz3 BX; clear BX; obtain ⟨hr0, hr1, hr2, hs0, hs1, hs2⟩ := cz3 BR) | (go_at_call 50; (with_reducible refine (HR.out _ HI0.out.C).mono ?_); rintro e w2 ⟨rfl, hd⟩; obtain ⟨nd, rfl⟩ := hd; clear hr0 hr1 hr2 hs0 hs1 hs2 hx0 hx1 hx2 hy0 hy1 hy2; have n0_ := Aside0.mk (HI0.out.drawn ⟨⟨nd, rfl⟩⟩); have n1_ := Aside0.mk (blk_drewN BR.out nd); clear HI0 BR; have HI0 := n0_; have BR := n1_; clear n0_ n1_; generalize World.drewN _ nd = w2 at HI0 BR ⊢; have BX := Aside0.mk HI0.out.box; obtain ⟨hx0, hx1, hx2, hy0, hy1, hy2⟩ := cz3 BX; clear BX; obtain ⟨hr0, hr1, hr2, hs0, hs1, hs2⟩ := cz3 BR) | ((with_reducible refine gate_builtin (b := .append) (xs := #[.tmp 46, .tmp 48]) rfl ?_); at_builtin; refine Kd.R_append k69 (w0 := w0) w0.heap.size rfl (.tmp 46) (.tmp 48) 29 69 (.agg #[.string ⟨#[]⟩, .string ⟨#[]⟩, .int .i64 0]) 40 rfl Try.underlying29 info69 rfl (by decide) (by omega) (.slice A1 R.length c1) R (⟨nm, sd, pn⟩ : S69) [.string nm, .string sd, .int .i64 pn] (fun _ => True) (fun _ => False) rfl rfl ?aP (fun _ hk => hk.elim) ?aF ?aO ?aB ?aS ?aL ?_; (case aP => exact k69_mkM _ _ _ _); (case aB => exact HI0.out.below); (case aF => exact (fun _ _ => trivial)); (case aO => exact HI0.out.r1); (case aS => exact HI0.out.below.size); (case aL => have := HL.out; omega); intro v1' w6 ho hb hg hat; obtain ⟨A4, c4, rfl⟩ := Kd.R_slice ho; have n0_ := Aside0.mk (HI0.out.grown1 ho hb hg); clear hr0 hr1 hr2 hs0 hs1 hs2 hx0 hx1 hx2 hy0 hy1 hy2; clear HI0 BR ho hb hg hat; have HI0 := n0_; clear n0_; have BX := Aside0.mk HI0.out.1; obtain ⟨hx0, hx1, hx2, hy0, hy1, hy2⟩ := cz3 BX; clear BX))
      go_ret
      exact ⟨_, by rw [addRailN, if_pos rfl, if_pos rfl, if_pos rfl, if_pos HT.out]; rfl, by simpa [addRailR, addRailN, HT.out] using HI0.out⟩
     ·have ht0 : decide (t ≥ 0) = false := decide_eq_false ht
      have ht1 : decide (0 ≤ t) = false := decide_eq_false ht
      have HT := Aside0.mk ht
      clear ht
      by_cases h10 : R.length = 10
      ·have hb10 : decide ((R.length : Int) ≥ 10) = true := decide_eq_true (by omega)
       have hb11 : decide (10 ≤ R.length) = true := decide_eq_true (by omega)
       have H10 := Aside0.mk h10
       clear h10
       go_enter Try.func71, Try.ntmps71
       go_wp2_with (first | ((with_reducible refine gate_dst (N := 3) rfl ?_); refine box_event ?hg (N := 3) ?hd (cs := #[.string nm, .string sd, .int .i64 pn]) (t := 69) ?hr ?_; (case hd => rfl); (case hg => rfl); (case hr => first | (go_simp; done) | (go_simp; rfl)); intro gb hg w1 hbox hb; have n0_ := Aside0.mk (HI0.out.later hb); have n1_ := Aside0.mk hbox; clear HI0 hbox hb hg; have HI0 := n0_; have BR := n1_; clear n0_ n1_; have BX := Aside0.mk HI0.out.box; obtain ⟨hx0, hx1, hx2, hy0, hy1, hy2⟩ := cz3 BX; clear BX; obtain ⟨hr0, hr1, hr2, hs0, hs1, hs2⟩ := cz3 BR) | (go_at_call 85; (with_reducible refine (HN.out _).mono ?_); rintro e w2 ⟨rfl, hd⟩; obtain ⟨nd, rfl⟩ := hd; clear hr0 hr1 hr2 hs0 hs1 hs2 hx0 hx1 hx2 hy0 hy1 hy2; have n0_ := Aside0.mk (HI0.out.drawn ⟨⟨nd, rfl⟩⟩); have n1_ := Aside0.mk (blk_drewN BR.out nd); clear HI0 BR; have HI0 := n0_; have BR := n1_; clear n0_ n1_; generalize World.drewN _ nd = w2 at HI0 BR ⊢; have BX := Aside0.mk HI0.out.box; obtain ⟨hx0, hx1, hx2, hy0, hy1, hy2⟩ := cz3 BX; clear BX; obtain ⟨hr0, hr1, hr2, hs0, hs1, hs2⟩ := cz3 BR) | (go_at_call 51; (with_reducible refine (HW.out _).mono ?_); rintro e w2 ⟨rfl, hd⟩; obtain ⟨nd, rfl⟩ := hd; clear hr0 hr1 hr2 hs0 hs1 hs2 hx0 hx1 hx2 hy0 hy1 hy2; have n0_ := Aside0.mk (HI0.out.drawn ⟨⟨nd, rfl⟩⟩); have n1_ := Aside0.mk (blk_drewN BR.out nd); clear HI0 BR; have HI0 := n0_; have BR := n1_; clear n0_ n1_; generalize World.drewN _ nd = w2 at HI0 BR ⊢; have BX := Aside0.mk HI0.out.box; obtain ⟨hx0, hx1, hx2, hy0, hy1, hy2⟩ := cz3 BX; clear BX; obtain ⟨hr0, hr1, hr2, hs0, hs1, hs2⟩ := cz3 BR) | (go_at_call 50; (with_reducible refine (HR.out _ HI0.out.C).mono ?_); rintro e w2 ⟨rfl, hd⟩; obtain ⟨nd, rfl⟩ := hd; clear hr0 hr1 hr2 hs0 hs1 hs2 hx0 hx1 hx2 hy0 hy1 hy2; have n0_ := Aside0.mk (HI0.out.drawn ⟨⟨nd, rfl⟩⟩); have n1_ := Aside0.mk (blk_drewN BR.out nd); clear HI0 BR; have HI0 := n0_; have BR := n1_; clear n0_ n1_; generalize World.drewN _ nd = w2 at HI0 BR ⊢; have BX := Aside0.mk HI0.out.box; obtain ⟨hx0, hx1, hx2, hy0, hy1, hy2⟩ := cz3 BX; clear BX; obtain ⟨hr0, hr1, hr2, hs0, hs1, hs2⟩ := cz3 BR) | ((with_reducible refine gate_builtin (b := .append) (xs := #[.tmp 46, .tmp 48]) rfl ?_); at_builtin; refine Kd.R_append k69 (w0 := w0) w0.heap.size rfl (.tmp 46) (.tmp 48) 29 69 (.agg #[.string ⟨#[]⟩, .string ⟨#[]⟩, .int .i64 0]) 40 rfl Try.underlying29 info69 rfl (by decide) (by omega) (.slice A1 R.length c1) R (⟨nm, sd, pn⟩ : S69) [.string nm, .string sd, .int .i64 pn] (fun _ => True) (fun _ => False) rfl rfl ?aP (fun _ hk => hk.elim) ?aF ?aO ?aB ?aS ?aL ?_; (case aP => exact k69_mkM _ _ _ _); (case aB => exact HI0.out.below); (case aF => exact (fun _ _ => trivial)); (case aO => exact HI0.out.r1); (case aS => exact HI0.out.below.size); (case aL => have := HL.out; omega); intro v1' w6 ho hb hg hat; obtain ⟨A4, c4, rfl⟩ := Kd.R_slice ho; have n0_ := Aside0.mk (HI0.out.grown1 ho hb hg); clear hr0 hr1 hr2 hs0 hs1 hs2 hx0 hx1 hx2 hy0 hy1 hy2; clear HI0 BR ho hb hg hat; have HI0 := n0_; clear n0_; have BX := Aside0.mk HI0.out.1; obtain ⟨hx0, hx1, hx2, hy0, hy1, hy2⟩ := cz3 BX; clear BX))
       go_ret
       exact ⟨_, by rw [addRailN, if_pos rfl, if_pos rfl, if_pos rfl, if_neg (show ¬ t ≥ 0 by have := HT.out; omega), if_pos H10.out]; rfl, by simpa [addRailR, addRailN, show ¬ 0 ≤ t by have := HT.out; omega, H10.out] using HI0.out⟩
      ·have hb10 : decide ((R.length : Int) ≥ 10) = false := decide_eq_false (by have := HL.out; omega)
       have hb11 : decide (10 ≤ R.length) = false := decide_eq_false (by have := HL.out; omega)
       have H10 := Aside0.mk h10
       clear h10
       go_enter Try.func71, Try.ntmps71
       go_wp2_with (first | ((with_reducible refine gate_dst (N := 3) rfl ?_); refine box_event ?hg (N := 3) ?hd (cs := #[.string nm, .string sd, .int .i64 pn]) (t := 69) ?hr ?_; (case hd => rfl); (case hg => rfl); (case hr => first | (go_simp; done) | (go_simp; rfl)); intro gb hg w1 hbox hb; have n0_ := Aside0.mk (HI0.out.later hb); have n1_ := Aside0.mk hbox; clear HI0 hbox hb hg; have HI0 := n0_; have BR := n1_; clear n0_ n1_; have BX := Aside0.mk HI0.out.box; obtain ⟨hx0, hx1, hx2, hy0, hy1, hy2⟩ := cz3 BX; clear BX; obtain ⟨hr0, hr1, hr2, hs0, hs1, hs2⟩ := cz3 BR) | (go_at_call 85; (with_reducible refine (HN.out _).mono ?_); rintro e w2 ⟨rfl, hd⟩; obtain ⟨nd, rfl⟩ := hd; clear hr0 hr1 hr2 hs0 hs1 hs2 hx0 hx1 hx2 hy0 hy1 hy2; have n0_ := Aside0.mk (HI0.out.drawn ⟨⟨nd, rfl⟩⟩); have n1_ := Aside0.mk (blk_drewN BR.out nd); clear HI0 BR; have HI0 := n0_; have BR := n1_; clear n0_ n1_; generalize World.drewN _ nd = w2 at HI0 BR ⊢; have BX := Aside0.mk HI0.out.box; obtain ⟨hx0, hx1, hx2, hy0, hy1, hy2⟩ := cz3 BX; clear BX; obtain ⟨hr0, hr1, hr2, hs0, hs1, hs2⟩ := cz3 BR) | (go_at_call 51; (with_reducible refine (HW.out _).mono ?_); rintro e w2 ⟨rfl, hd⟩; obtain ⟨nd, rfl⟩ := hd; clear hr0 hr1 hr2 hs0 hs1 hs2 hx0 hx1 hx2 hy0 hy1 hy2; have n0_ := Aside0.mk (HI0.out.drawn ⟨⟨nd, rfl⟩⟩); have n1_ := Aside0.mk (blk_drewN BR.out nd); clear HI0 BR; have HI0 := n0_; have BR := n1_; clear n0_ n1_; generalize World.drewN _ nd = w2 at HI0 BR ⊢; have BX := Aside0.mk HI0.out.box; obtain ⟨hx0, hx1, hx2, hy0, hy1, hy2⟩ := cz3 BX; clear BX; obtain ⟨hr0, hr1, hr2, hs0, hs1, hs2⟩ := cz3 BR) | (go_at_call 50; (with_reducible refine (HR.out _ HI0.out.C).mono ?_); rintro e w2 ⟨rfl, hd⟩; obtain ⟨nd, rfl⟩ := hd; clear hr0 hr1 hr2 hs0 hs1 hs2 hx0 hx1 hx2 hy0 hy1 hy2; have n0_ := Aside0.mk (HI0.out.drawn ⟨⟨nd, rfl⟩⟩); have n1_ := Aside0.mk (blk_drewN BR.out nd); clear HI0 BR; have HI0 := n0_; have BR := n1_; clear n0_ n1_; generalize World.drewN _ nd = w2 at HI0 BR ⊢; have BX := Aside0.mk HI0.out.box; obtain ⟨hx0, hx1, hx2, hy0, hy1, hy2⟩ := cz3 BX; clear BX; obtain ⟨hr0, hr1, hr2, hs0, hs1, hs2⟩ := cz3 BR) | ((with_reducible refine gate_builtin (b := .append) (xs := #[.tmp 46, .tmp 48]) rfl ?_); at_builtin; refine Kd.R_append k69 (w0 := w0) w0.heap.size rfl (.tmp 46) (.tmp 48) 29 69 (.agg #[.string ⟨#[]⟩, .string ⟨#[]⟩, .int .i64 0]) 40 rfl Try.underlying29 info69 rfl (by decide) (by omega) (.slice A1 R.length c1) R (⟨nm, sd, pn⟩ : S69) [.string nm, .string sd, .int .i64 pn] (fun _ => True) (fun _ => False) rfl rfl ?aP (fun _ hk => hk.elim) ?aF ?aO ?aB ?aS ?aL ?_; (case aP => exact k69_mkM _ _ _ _); (case aB => exact HI0.out.below); (case aF => exact (fun _ _ => trivial)); (case aO => exact HI0.out.r1); (case aS => exact HI0.out.below.size); (case aL => have := HL.out; omega); intro v1' w6 ho hb hg hat; obtain ⟨A4, c4, rfl⟩ := Kd.R_slice ho; have n0_ := Aside0.mk (HI0.out.grown1 ho hb hg); clear hr0 hr1 hr2 hs0 hs1 hs2 hx0 hx1 hx2 hy0 hy1 hy2; clear HI0 BR ho hb hg hat; have HI0 := n0_; clear n0_; have BX := Aside0.mk HI0.out.1; obtain ⟨hx0, hx1, hx2, hy0, hy1, hy2⟩ := cz3 BX; clear BX))
       have HA := HI0.out.later (below_alloc (Below.refl w2.heap.size w2) (.cells #[.string nm, .string sd, .int .i64 pn] 69))
       have BZ := Aside0.mk HA.box
       clear HA
       obtain ⟨hz0, hz1, hz2, hw0, hw1, hw2⟩ := cz3 BZ
       clear BZ
       go_region_law (refine Kd.R_append_step k69 (w0 := w0) w0.heap.size (by rfl) (.tmp 46) (.tmp 48) 29 69 (.agg #[.string ⟨#[]⟩, .string ⟨#[]⟩, .int .i64 0]) 40 rfl Try.underlying29 info69 rfl (by decide) (by omega) (.slice A1 R.length c1) R (⟨nm, sd, pn⟩ : S69) [.string nm, .string sd, .int .i64 pn] (fun _ => True) (fun _ => False) rfl rfl (k69_mkM _ _ _ _) (fun _ hk => hk.elim) (fun _ _ => trivial) HI0.out.drew.r1 HI0.out.drew.below HI0.out.drew.below.size (by have := HL.out; omega) ?_; intro v1' w6 ho hb hg hat; obtain ⟨A4, c4, rfl⟩ := Kd.R_slice ho; have n0_ := Aside0.mk (HI0.out.drew.grown1 ho hb hg); clear hz0 hz1 hz2 hw0 hw1 hw2 hr0 hr1 hr2 hs0 hs1 hs2 hx0 hx1 hx2 hy0 hy1 hy2; clear HI0 BR ho hb hg hat; have HI0 := n0_; clear n0_; have BX := Aside0.mk HI0.out.1; obtain ⟨hx0, hx1, hx2, hy0, hy1, hy2⟩ := cz3 BX; clear BX)
       all_goals
        go_wp2
        go_ret
        exact ⟨_, by rw [addRailN, if_pos rfl, if_pos rfl, if_pos rfl, if_neg (show ¬ t ≥ 0 by have := HT.out; omega), if_neg H10.out]; rfl, by simpa [addRailR, addRailN, show ¬ 0 ≤ t by have := HT.out; omega, H10.out] using HI0.out.2⟩
  ·have h3 : ¬ sd.toList = [112] ∧ ¬ sd.toList = [115] ∧ ¬ sd.toList = [109] := by
    simp only [railSide, Bool.or_eq_true, decide_eq_true_eq, not_or] at hS
    exact hS
   obtain ⟨q1, q2, q3⟩ := h3
   have hS2 : railSide sd = false := by simpa using hS
   rw [hS2]
   clear hS hS2
   have e1 : (sd.toList == [112]) = false := beq_eq_false_iff_ne.mpr q1
   have e2 : (sd.toList == [115]) = false := beq_eq_false_iff_ne.mpr q2
   have e3 : (sd.toList == [109]) = false := beq_eq_false_iff_ne.mpr q3
   clear q1 q2 q3
   go_enter Try.func71, Try.ntmps71
   go_wp2_with (first | ((with_reducible refine gate_dst (N := 3) rfl ?_); refine box_event ?hg (N := 3) ?hd (cs := #[.string nm, .string sd, .int .i64 pn]) (t := 69) ?hr ?_; (case hd => rfl); (case hg => rfl); (case hr => first | (go_simp; done) | (go_simp; rfl)); intro gb hg w1 hbox hb; have n0_ := Aside0.mk (HI0.out.later hb); have n1_ := Aside0.mk hbox; clear HI0 hbox hb hg; have HI0 := n0_; have BR := n1_; clear n0_ n1_; have BX := Aside0.mk HI0.out.box; obtain ⟨hx0, hx1, hx2, hy0, hy1, hy2⟩ := cz3 BX; clear BX; obtain ⟨hr0, hr1, hr2, hs0, hs1, hs2⟩ := cz3 BR) | (go_at_call 85; (with_reducible refine (HN.out _).mono ?_); rintro e w2 ⟨rfl, hd⟩; obtain ⟨nd, rfl⟩ := hd; clear hr0 hr1 hr2 hs0 hs1 hs2 hx0 hx1 hx2 hy0 hy1 hy2; have n0_ := Aside0.mk (HI0.out.drawn ⟨⟨nd, rfl⟩⟩); have n1_ := Aside0.mk (blk_drewN BR.out nd); clear HI0 BR; have HI0 := n0_; have BR := n1_; clear n0_ n1_; generalize World.drewN _ nd = w2 at HI0 BR ⊢; have BX := Aside0.mk HI0.out.box; obtain ⟨hx0, hx1, hx2, hy0, hy1, hy2⟩ := cz3 BX; clear BX; obtain ⟨hr0, hr1, hr2, hs0, hs1, hs2⟩ := cz3 BR) | (go_at_call 51; (with_reducible refine (HW.out _).mono ?_); rintro e w2 ⟨rfl, hd⟩; obtain ⟨nd, rfl⟩ := hd; clear hr0 hr1 hr2 hs0 hs1 hs2 hx0 hx1 hx2 hy0 hy1 hy2; have n0_ := Aside0.mk (HI0.out.drawn ⟨⟨nd, rfl⟩⟩); have n1_ := Aside0.mk (blk_drewN BR.out nd); clear HI0 BR; have HI0 := n0_; have BR := n1_; clear n0_ n1_; generalize World.drewN _ nd = w2 at HI0 BR ⊢; have BX := Aside0.mk HI0.out.box; obtain ⟨hx0, hx1, hx2, hy0, hy1, hy2⟩ := cz3 BX; clear BX; obtain ⟨hr0, hr1, hr2, hs0, hs1, hs2⟩ := cz3 BR) | (go_at_call 50; (with_reducible refine (HR.out _ HI0.out.C).mono ?_); rintro e w2 ⟨rfl, hd⟩; obtain ⟨nd, rfl⟩ := hd; clear hr0 hr1 hr2 hs0 hs1 hs2 hx0 hx1 hx2 hy0 hy1 hy2; have n0_ := Aside0.mk (HI0.out.drawn ⟨⟨nd, rfl⟩⟩); have n1_ := Aside0.mk (blk_drewN BR.out nd); clear HI0 BR; have HI0 := n0_; have BR := n1_; clear n0_ n1_; generalize World.drewN _ nd = w2 at HI0 BR ⊢; have BX := Aside0.mk HI0.out.box; obtain ⟨hx0, hx1, hx2, hy0, hy1, hy2⟩ := cz3 BX; clear BX; obtain ⟨hr0, hr1, hr2, hs0, hs1, hs2⟩ := cz3 BR) | ((with_reducible refine gate_builtin (b := .append) (xs := #[.tmp 46, .tmp 48]) rfl ?_); at_builtin; refine Kd.R_append k69 (w0 := w0) w0.heap.size rfl (.tmp 46) (.tmp 48) 29 69 (.agg #[.string ⟨#[]⟩, .string ⟨#[]⟩, .int .i64 0]) 40 rfl Try.underlying29 info69 rfl (by decide) (by omega) (.slice A1 R.length c1) R (⟨nm, sd, pn⟩ : S69) [.string nm, .string sd, .int .i64 pn] (fun _ => True) (fun _ => False) rfl rfl ?aP (fun _ hk => hk.elim) ?aF ?aO ?aB ?aS ?aL ?_; (case aP => exact k69_mkM _ _ _ _); (case aB => exact HI0.out.below); (case aF => exact (fun _ _ => trivial)); (case aO => exact HI0.out.r1); (case aS => exact HI0.out.below.size); (case aL => have := HL.out; omega); intro v1' w6 ho hb hg hat; obtain ⟨A4, c4, rfl⟩ := Kd.R_slice ho; have n0_ := Aside0.mk (HI0.out.grown1 ho hb hg); clear hr0 hr1 hr2 hs0 hs1 hs2 hx0 hx1 hx2 hy0 hy1 hy2; clear HI0 BR ho hb hg hat; have HI0 := n0_; clear n0_; have BX := Aside0.mk HI0.out.1; obtain ⟨hx0, hx1, hx2, hy0, hy1, hy2⟩ := cz3 BX; clear BX))
   go_ret
   exact ⟨_, rfl, by simpa [addRailR, addRailN] using HI0.out⟩
def spec_l19AddRail.f (k : Nat) (l0 : List (S69)) (l1 : List ByteArray) (l2 : List (S40)) (a1 : ByteArray) (a2 : ByteArray) (a3 : Int) : Option (Int) := (spec_IsName.f k a1).bind fun t1 => ((spec_l00In.f a3 1 30).bind fun t2 => ((spec_l19Rail.f k [⟨l0, l1, l2⟩] a1).bind fun t3 => (some (addRailN t1 (railSide a2) t2 t3 l0.length))))
theorem spec_l19AddRail.mono : ∀ a0 a1 a2 a3 a4 a5 k, LeO (spec_l19AddRail.f k a0 a1 a2 a3 a4 a5) (spec_l19AddRail.f (k + 1) a0 a1 a2 a3 a4 a5) := by
 intro a0 a1 a2 a3 a4 a5 k
 unfold spec_l19AddRail.f
 repeat' first
  | (with_reducible exact spec_IsName.mono _ _)
  | (with_reducible exact spec_l19Rail.mono _ _ _)
  | (with_reducible exact LeO.refl _)
  | (with_reducible exact LeO.none _)
  | (with_reducible refine LeO.ite ?_ ?_)
  | (with_reducible refine LeO.bind ?_ (fun _ => ?_))
theorem spec_l19AddRail.at (k : Nat) (w0 w : World) (g : Nat) (v1 v2 v3 : Value) (R : List S69) (L : List ByteArray) (B : List S40) (s : S69) (n : Int) (HI : RigAt w0 w g v1 v2 v3 R L B) (hl : R.length ≤ 10) (h : spec_l19AddRail.f k R L B s.f0 s.f1 s.f2 = some n) :
  (n = 0 → R.length + 1 ≤ 10) ∧ Calls Try.prog 71 #[.pointer (some ⟨g, 0, none⟩), .agg #[.string s.f0, .string s.f1, .int .i64 s.f2]] w fun e w' => ∃ v1', e = .returned (.int .i64 n) ∧ RigAt w0 w' g v1' v2 v3 (addTo n R s) L B := by
 unfold spec_l19AddRail.f at h
 obtain ⟨b1, h1, h⟩ := Option.bind_eq_some_iff.mp h
 obtain ⟨b3, h2, h⟩ := Option.bind_eq_some_iff.mp h
 obtain ⟨t, h3, h⟩ := Option.bind_eq_some_iff.mp h
 obtain rfl := Option.some.inj h
 refine ⟨fun h0 => addRailN_lt h0 hl, ?_⟩
 exact spec_addRail_go w0 w g v1 v2 v3 R L B s b1 b3 t HI hl (fun w => spec_IsName.calls k s.f0 b1 w h1) (fun w => spec_l00In.calls s.f2 1 30 b3 w h2) (fun w hr => spec_l19Rail.calls k _ 1 [⟨R, L, B⟩] s.f0 t w hr (Nat.le_refl _) h3)

/-! ### spec_l19Line: function 64 -/
def spec_l19Line.l0 : Nat → List (S32) → ByteArray → Int → Option (Bool)
 | 0, _, _, _ => none
 | k + 1, x0, x1, x5 => if x5 < (((rd_T32 x0 0).f1).length : Int) then (if 0 ≤ x5 then (if (rdOf ByteArray.empty ((rd_T32 x0 0).f1) x5).toList = x1.toList then (some true) else (spec_l19Line.l0 k x0 x1 (wrap64 (x5 + 1)))) else (none)) else (some false)
def spec_l19Line.f (k : Nat) (l0 : List (S32)) (a1 : ByteArray) : Option (Bool) := if 0 < (l0.length : Int) then (spec_l19Line.l0 k l0 a1 0) else (none)
theorem spec_l19Line.mono_l : ∀ k, (∀ y0 y1 y2, LeO (spec_l19Line.l0 k y0 y1 y2) (spec_l19Line.l0 (k + 1) y0 y1 y2))
 | 0 => fun _ _ _ r h => by simp [spec_l19Line.l0] at h
 | k + 1 => by
  have ih0 := spec_l19Line.mono_l k
  ·intro y0 y1 y2
   unfold spec_l19Line.l0
   repeat' first
   | (with_reducible exact ih0 _ _ _)
   | (with_reducible exact LeO.refl _)
   | (with_reducible exact LeO.none _)
   | (with_reducible refine LeO.ite ?_ ?_)
   | (with_reducible refine LeO.bind ?_ (fun _ => ?_))
   | exact ih0 _ _ _
   | exact LeO.none _
   | refine LeO.ite ?_ ?_
   | refine LeO.bind ?_ (fun _ => ?_)
theorem spec_l19Line.mono : ∀ a0 a1 k, LeO (spec_l19Line.f k a0 a1) (spec_l19Line.f (k + 1) a0 a1) := by
 intro a0 a1 k
 have ih0 := spec_l19Line.mono_l k
 unfold spec_l19Line.f
 repeat' first
   | (with_reducible exact ih0 _ _ _)
   | (with_reducible exact LeO.refl _)
   | (with_reducible exact LeO.none _)
   | (with_reducible refine LeO.ite ?_ ?_)
   | (with_reducible refine LeO.bind ?_ (fun _ => ?_))
   | exact ih0 _ _ _
   | exact LeO.none _
   | refine LeO.ite ?_ ?_
   | refine LeO.bind ?_ (fun _ => ?_)
set_option maxHeartbeats 8000000 in
set_option maxRecDepth 100000 in
theorem spec_l19Line.calls (k : Nat) (A0 : Option Addr) (c0 : Nat) (l0 : List (S32)) (a1 : ByteArray) (r : Bool) (w : World) (hr0 : Kd.C k32 w A0 l0.length l0) (hc0 : l0.length ≤ c0) (h : spec_l19Line.f k l0 a1 = some r) :
  Calls Try.prog 64 #[.pointer A0, .string a1] w fun e w' => e = .returned (.bool r) ∧ Drawn0 w w' := by
 have HR0 := Aside0.mk hr0
 have HC0 := Aside0.mk hc0
 clear hr0 hc0
 have H : (if 0 < (l0.length : Int) then (spec_l19Line.l0 k l0 a1 0) else (none)) = some r := h
 clear h
 by_cases c3 : 0 < (l0.length : Int)
 ·rw [if_pos c3] at H
  have c3b0 : decide (0 < (l0.length : Int)) = true := decide_eq_true c3
  have c3b1 : decide (0 < l0.length) = true := decide_eq_true (by omega)
  clear c3
  have H' := Aside0.mk H
  clear H
  have p209 : 0 ≤ (0 : Int) := (by omega)
  have q209 : 0 < (l0.length : Int) := of_decide_eq_true (by first | (with_reducible assumption) | assumption)
  obtain ⟨ad209, A209_0, c209_0, A209_1, c209_1, A209_2, c209_2, e209, hx209_0, hx209_1, hx209_2, hl209_0, hi209_0, hl209_1, hi209_1, hl209_2, hi209_2⟩ := at_T32 HR0.out 0 p209 q209
  cases e209
  have qi209 : (0 < l0.length) = True := eq_true (by omega)
  (try rw [show ((0 : Int)).toNat = 0 from rfl] at hx209_0)
  (try rw [show 0 * 3 = 0 from rfl] at hx209_0)
  (try rw [Addr.add_zero'] at hx209_0)
  (try rw [show ((0 : Int)).toNat = 0 from rfl] at hx209_1)
  (try rw [show 0 * 3 = 0 from rfl] at hx209_1)
  (try rw [Addr.add_zero'] at hx209_1)
  (try rw [show ((0 : Int)).toNat = 0 from rfl] at hx209_2)
  (try rw [show 0 * 3 = 0 from rfl] at hx209_2)
  (try rw [Addr.add_zero'] at hx209_2)
  have HR209_0 := Aside0.mk hi209_0
  have HC209_0 := Aside0.mk hl209_0
  clear hi209_0 hl209_0
  have HR209_1 := Aside0.mk hi209_1
  have HC209_1 := Aside0.mk hl209_1
  clear hi209_1 hl209_1
  have HR209_2 := Aside0.mk hi209_2
  have HC209_2 := Aside0.mk hl209_2
  clear hi209_2 hl209_2
  replace p209 := eq_true p209
  replace q209 := eq_true q209
  have RX209_0 := Aside0.mk hx209_0
  clear hx209_0
  have RX209_1 := Aside0.mk hx209_1
  clear hx209_1
  have RX209_2 := Aside0.mk hx209_2
  clear hx209_2
  go_enter Try.func64, Try.ntmps64
  go_wp2
  go_loopg [5] k (fun kq v5 w' => ∃ (x5_1 : Int), v5 = .int .i64 x5_1 ∧ Aside0 (spec_l19Line.l0 kq l0 a1 x5_1 = some r) ∧ Aside0 (kq ≤ k) ∧ Drawn0 w w')
  case atStart => exact ⟨(0), (by first | rfl | (simp; done) | (simp [*]; done)), H', ⟨Nat.le_refl _⟩, by repeat (first | exact Drawn0.refl _ | apply Drawn0.step)⟩
  case round =>
   clear H'
   try clear c2
   try clear p2
   try clear q2
   try clear hx2
   try clear qi2
   try clear c3
   try clear c3b0
   try clear c3b1
   try clear hx209_0
   try clear hx209_1
   try clear hx209_2
   try clear p209
   try clear q209
   obtain ⟨x5_1, rfl, HA, HK1, ⟨m1, rfl⟩⟩ := hrel
   cases gk with
   | zero => exact absurd HA.out (by simp [spec_l19Line.l0])
   | succ k1 =>
    have H := HA.out
    clear HA
    simp only [spec_l19Line.l0] at H
    by_cases c4 : x5_1 < (((rd_T32 l0 0).f1).length : Int)
    ·rw [if_pos c4] at H
     have c4b0 : decide (x5_1 < (((rd_T32 l0 0).f1).length : Int)) = true := decide_eq_true c4
     clear c4
     by_cases c5 : 0 ≤ x5_1
     ·rw [if_pos c5] at H
      have c5b0 : decide (0 ≤ x5_1) = true := decide_eq_true c5
      clear c5
      by_cases c6 : (rdOf ByteArray.empty ((rd_T32 l0 0).f1) x5_1).toList = a1.toList
      ·rw [if_pos c6] at H
       have c6b0 : ((rdOf ByteArray.empty ((rd_T32 l0 0).f1) x5_1).toList == a1.toList) = true := beq_iff_eq.mpr c6
       have c6b1 : ((rdOf ByteArray.empty ((rd_T32 l0 0).f1) x5_1).toList != a1.toList) = false := bne_eq_false_iff_eq.mpr c6
       clear c6
       obtain rfl := Option.some.inj H
       simp only [Option.some.injEq, Prod.mk.injEq] at H
       obtain ⟨rfl⟩ := H
       (try have hx210_0 := RX209_0.out)
       (try have hx210_1 := RX209_1.out)
       (try have hx210_2 := RX209_2.out)
       (try have hx211_0 := RX209_0.out)
       (try have hx211_1 := RX209_1.out)
       (try have hx211_2 := RX209_2.out)
       have p212 : 0 ≤ (x5_1 : Int) := of_decide_eq_true (by first | (with_reducible assumption) | assumption)
       have q212 : x5_1 < (((rd_T32 l0 0).f1).length : Int) := of_decide_eq_true (by first | (with_reducible assumption) | assumption)
       obtain ⟨ad212, e212, hx212_0⟩ := Kd.at_string HR209_1.out x5_1 p212 q212
       cases e212
       replace p212 := eq_true p212
       replace q212 := eq_true q212
       go_wp2
       go_ret
       exact ⟨by first | rfl | (simp; done) | (simp [*]; done), by repeat (first | exact Drawn0.refl _ | apply Drawn0.step)⟩
      ·rw [if_neg c6] at H
       have c6b0 : ((rdOf ByteArray.empty ((rd_T32 l0 0).f1) x5_1).toList == a1.toList) = false := beq_eq_false_iff_ne.mpr c6
       have c6b1 : ((rdOf ByteArray.empty ((rd_T32 l0 0).f1) x5_1).toList != a1.toList) = true := bne_iff_ne.mpr c6
       have H' := Aside0.mk H
       clear H
       (try have hx210_0 := RX209_0.out)
       (try have hx210_1 := RX209_1.out)
       (try have hx210_2 := RX209_2.out)
       (try have hx211_0 := RX209_0.out)
       (try have hx211_1 := RX209_1.out)
       (try have hx211_2 := RX209_2.out)
       have p212 : 0 ≤ (x5_1 : Int) := of_decide_eq_true (by first | (with_reducible assumption) | assumption)
       have q212 : x5_1 < (((rd_T32 l0 0).f1).length : Int) := of_decide_eq_true (by first | (with_reducible assumption) | assumption)
       obtain ⟨ad212, e212, hx212_0⟩ := Kd.at_string HR209_1.out x5_1 p212 q212
       cases e212
       replace p212 := eq_true p212
       replace q212 := eq_true q212
       go_wp2
       go_roundg k1
       case measure => have := HK1.out; omega
       case rel => exact ⟨(wrap64 (x5_1 + 1)), (by first | rfl | (simp; done) | (simp [*]; done)), H', ⟨by have := HK1.out; omega⟩, by repeat (first | exact Drawn0.refl _ | apply Drawn0.step)⟩
     ·rw [if_neg c5] at H
      exact absurd H (by simp)
    ·rw [if_neg c4] at H
     have c4b0 : decide (x5_1 < (((rd_T32 l0 0).f1).length : Int)) = false := decide_eq_false c4
     clear c4
     obtain rfl := Option.some.inj H
     simp only [Option.some.injEq, Prod.mk.injEq] at H
     obtain ⟨rfl⟩ := H
     (try have hx210_0 := RX209_0.out)
     (try have hx210_1 := RX209_1.out)
     (try have hx210_2 := RX209_2.out)
     go_wp2
     go_ret
     exact ⟨by first | rfl | (simp; done) | (simp [*]; done), by repeat (first | exact Drawn0.refl _ | apply Drawn0.step)⟩
 ·rw [if_neg c3] at H
  exact absurd H (by simp)

/-! ### spec_l19AddLine: function 72, by hand -/
set_option maxHeartbeats 8000000 in
set_option maxRecDepth 100000 in
theorem spec_addLine_go (w0 w : World) (g : Nat) (v1 v2 v3 : Value) (R : List S69) (L : List ByteArray) (B : List S40) (name : ByteArray) (b1 b2 : Bool) (HI : RigAt w0 w g v1 v2 v3 R L B) (hl : L.length ≤ 60)
  (hN : ∀ w, Calls Try.prog 85 #[.string name] w fun e w' => e = .returned (.bool b1) ∧ Drawn0 w w')
  (hC : ∀ w, Kd.C k32 w (some ⟨g, 0, none⟩) 1 [⟨R, L, B⟩] → Calls Try.prog 64 #[.pointer (some ⟨g, 0, none⟩), .string name] w fun e w' => e = .returned (.bool b2) ∧ Drawn0 w w') :
  Calls Try.prog 72 #[.pointer (some ⟨g, 0, none⟩), .string name] w fun e w' => ∃ v2', e = .returned (.int .i64 (addLineN b1 b2 L.length)) ∧ RigAt w0 w' g v1 v2' v3 R (addLineL b1 b2 L name) B := by
 have HI0 := Aside0.mk HI
 have HL := Aside0.mk hl
 have HN := Aside0.mk hN
 have HC := Aside0.mk hC
 clear HI hl hN hC
 cases b1 with
 | false =>
  go_enter Try.func72, Try.ntmps72
  go_wp2_with (first | (go_at_call 85; (with_reducible refine (HN.out _).mono ?_); rintro e w1 ⟨rfl, hd⟩; have n0_ := Aside0.mk (HI0.out.drawn hd); clear HI0 hd; have HI0 := n0_; clear n0_))
  go_ret
  exact ⟨v2, rfl, by simpa [addLineL] using HI0.out⟩
 | true =>
  obtain ⟨A2, c2, rfl⟩ := Kd.R_slice HI0.out.r2
  cases b2 with
  | true =>
   go_enter Try.func72, Try.ntmps72
   go_wp2_with (first | (go_at_call 85; (with_reducible refine (HN.out _).mono ?_); rintro e w1 ⟨rfl, hd⟩; have n0_ := Aside0.mk (HI0.out.drawn hd); clear HI0 hd; have HI0 := n0_; clear n0_; have BX := Aside0.mk HI0.out.box; obtain ⟨hx0, hx1, hx2, hy0, hy1, hy2⟩ := cz3 BX; clear BX) | (go_at_call 64; (with_reducible refine (HC.out _ HI0.out.C).mono ?_); rintro e w2 ⟨rfl, hd⟩; clear hx0 hx1 hx2 hy0 hy1 hy2; have n0_ := Aside0.mk (HI0.out.drawn hd); clear HI0 hd; have HI0 := n0_; clear n0_; have BX := Aside0.mk HI0.out.box; obtain ⟨hx0, hx1, hx2, hy0, hy1, hy2⟩ := cz3 BX; clear BX))
   go_ret
   exact ⟨_, rfl, by simpa [addLineL] using HI0.out⟩
  | false =>
   by_cases h60 : L.length = 60
   ·have hb60 : decide ((L.length : Int) ≥ 60) = true := decide_eq_true (by omega)
    have hb61 : decide (60 ≤ L.length) = true := decide_eq_true (by omega)
    have H60 := Aside0.mk h60
    clear h60
    go_enter Try.func72, Try.ntmps72
    go_wp2_with (first | (go_at_call 85; (with_reducible refine (HN.out _).mono ?_); rintro e w1 ⟨rfl, hd⟩; have n0_ := Aside0.mk (HI0.out.drawn hd); clear HI0 hd; have HI0 := n0_; clear n0_; have BX := Aside0.mk HI0.out.box; obtain ⟨hx0, hx1, hx2, hy0, hy1, hy2⟩ := cz3 BX; clear BX) | (go_at_call 64; (with_reducible refine (HC.out _ HI0.out.C).mono ?_); rintro e w2 ⟨rfl, hd⟩; clear hx0 hx1 hx2 hy0 hy1 hy2; have n0_ := Aside0.mk (HI0.out.drawn hd); clear HI0 hd; have HI0 := n0_; clear n0_; have BX := Aside0.mk HI0.out.box; obtain ⟨hx0, hx1, hx2, hy0, hy1, hy2⟩ := cz3 BX; clear BX))
    go_ret
    exact ⟨_, by rw [addLineN, if_pos rfl, if_neg nf, if_pos H60.out]; rfl, by simpa [addLineL, H60.out] using HI0.out⟩
   ·have hb60 : decide ((L.length : Int) ≥ 60) = false := decide_eq_false (by have := HL.out; omega)
    have hb61 : decide (60 ≤ L.length) = false := decide_eq_false (by have := HL.out; omega)
    have H60 := Aside0.mk h60
    clear h60
    go_enter Try.func72, Try.ntmps72
    go_wp2_with (first | (go_at_call 85; (with_reducible refine (HN.out _).mono ?_); rintro e w1 ⟨rfl, hd⟩; have n0_ := Aside0.mk (HI0.out.drawn hd); clear HI0 hd; have HI0 := n0_; clear n0_; have BX := Aside0.mk HI0.out.box; obtain ⟨hx0, hx1, hx2, hy0, hy1, hy2⟩ := cz3 BX; clear BX) | (go_at_call 64; (with_reducible refine (HC.out _ HI0.out.C).mono ?_); rintro e w2 ⟨rfl, hd⟩; clear hx0 hx1 hx2 hy0 hy1 hy2; have n0_ := Aside0.mk (HI0.out.drawn hd); clear HI0 hd; have HI0 := n0_; clear n0_; have BX := Aside0.mk HI0.out.box; obtain ⟨hx0, hx1, hx2, hy0, hy1, hy2⟩ := cz3 BX; clear BX) | ((with_reducible refine gate_builtin (b := .append) (xs := #[.tmp 24, .tmp 26]) rfl ?_); at_builtin; refine Kd.R_append Kd.string (w0 := w0) w0.heap.size rfl (.tmp 24) (.tmp 26) 23 9 (.string ⟨#[]⟩) 16 rfl Try.underlying23 info9 rfl (by decide) (by omega) (.slice A2 L.length c2) L name [.string name] (fun _ => True) (fun _ => False) rfl rfl ?aP (fun _ hk => hk.elim) ?aF ?aO ?aB ?aS ?aL ?_; (case aP => exact rfl); (case aB => exact HI0.out.below); (case aF => exact (fun _ _ => trivial)); (case aO => exact HI0.out.r2); (case aS => exact HI0.out.below.size); (case aL => have := HL.out; omega); intro v2' w3 ho hb hg hat; obtain ⟨A3, c3, rfl⟩ := Kd.R_slice ho; have n0_ := Aside0.mk (HI0.out.grown2 ho hb hg); clear HI0 ho hb hg hat hx0 hx1 hx2 hy0 hy1 hy2; have HI0 := n0_; clear n0_; have BX := Aside0.mk HI0.out.1; obtain ⟨hx0, hx1, hx2, hy0, hy1, hy2⟩ := cz3 BX; clear BX))
    go_ret
    exact ⟨_, by rw [addLineN, if_pos rfl, if_neg nf, if_neg H60.out]; rfl, by simpa [addLineL, H60.out] using HI0.out.2⟩
def spec_l19AddLine.f (k : Nat) (l0 : List (S69)) (l1 : List ByteArray) (l2 : List (S40)) (a1 : ByteArray) : Option (Int) := (spec_IsName.f k a1).bind fun t1 => ((spec_l19Line.f k [⟨l0, l1, l2⟩] a1).bind fun t2 => (some (addLineN t1 t2 l1.length)))
theorem spec_l19AddLine.mono : ∀ a0 a1 a2 a3 k, LeO (spec_l19AddLine.f k a0 a1 a2 a3) (spec_l19AddLine.f (k + 1) a0 a1 a2 a3) := by
 intro a0 a1 a2 a3 k
 unfold spec_l19AddLine.f
 repeat' first
  | (with_reducible exact spec_IsName.mono _ _)
  | (with_reducible exact spec_l19Line.mono _ _ _)
  | (with_reducible exact LeO.refl _)
  | (with_reducible exact LeO.none _)
  | (with_reducible refine LeO.ite ?_ ?_)
  | (with_reducible refine LeO.bind ?_ (fun _ => ?_))
theorem spec_l19AddLine.at (k : Nat) (w0 w : World) (g : Nat) (v1 v2 v3 : Value) (R : List S69) (L : List ByteArray) (B : List S40) (s : ByteArray) (n : Int) (HI : RigAt w0 w g v1 v2 v3 R L B) (hl : L.length ≤ 60) (h : spec_l19AddLine.f k R L B s = some n) :
  (n = 0 → L.length + 1 ≤ 60) ∧ Calls Try.prog 72 #[.pointer (some ⟨g, 0, none⟩), .string s] w fun e w' => ∃ v2', e = .returned (.int .i64 n) ∧ RigAt w0 w' g v1 v2' v3 R (addTo n L s) B := by
 unfold spec_l19AddLine.f at h
 obtain ⟨b1, h1, h⟩ := Option.bind_eq_some_iff.mp h
 obtain ⟨b2, h2, h⟩ := Option.bind_eq_some_iff.mp h
 obtain rfl := Option.some.inj h
 refine ⟨fun h0 => addLineN_lt h0 hl, ?_⟩
 have := spec_addLine_go w0 w g v1 v2 v3 R L B s b1 b2 HI hl (fun w => spec_IsName.calls k s b1 w h1) (fun w hr => spec_l19Line.calls k _ 1 [⟨R, L, B⟩] s b2 w hr (Nat.le_refl _) h2)
 rw [addLineL_eq] at this
 exact this

end Go.Proofs.Ytpngklefeaolfaa.PFnExactWrongSides
