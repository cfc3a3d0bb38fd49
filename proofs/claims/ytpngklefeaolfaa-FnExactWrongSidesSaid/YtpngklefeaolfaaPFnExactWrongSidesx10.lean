-- Written by a program of this session (wip/tools/pp.sh).
import Derived.Test.YtpngklefeaolfaaPFnExactWrongSidesx0
import Derived.Test.YtpngklefeaolfaaPFnExactWrongSidesx5
import Derived.Test.YtpngklefeaolfaaPFnExactWrongSidesx8
import Derived.Test.YtpngklefeaolfaaPFnExactWrongSidesx9
namespace Go.Proofs.Ytpngklefeaolfaa.PFnExactWrongSides
open Go.RowKit Go.Proofs.YtpngklefeaolfaaW.PrintWords Go.Proofs.YtpngklefeaolfaaW.PrintLast Go.Proofs.YtpngklefeaolfaaW.PrintMore Go.Proofs.Ytpngklefeaolfaa.Small
open Bool renaming true → T, false → F
attribute [local go_sem] max2_int min2_int max_two min_two max_three min_three max_four min_four   -- for this text's walks alone
set_option linter.unusedVariables false
set_option linter.unusedSimpArgs false

/-! ### slices_Index_string_string: function 80 -/
def slices_Index_string_string.l0 : Nat → List ByteArray → ByteArray → Int → Int → Option (Int)
 | 0, _, _, _, _ => none
 | k + 1, x0, x1, x7, x8 => if x8 < x7 then (if 0 ≤ x8 then (if x8 < (x0.length : Int) then (if x1.toList = (rdOf ByteArray.empty x0 x8).toList then (some x8) else (slices_Index_string_string.l0 k x0 x1 x7 (wrap64 (x8 + 1)))) else (none)) else (none)) else (some (-1))
def slices_Index_string_string.f (k : Nat) (l0 : List ByteArray) (a1 : ByteArray) : Option (Int) := slices_Index_string_string.l0 k l0 a1 (l0.length : Int) 0
theorem slices_Index_string_string.mono_l : ∀ k, (∀ y0 y1 y2 y3, LeO (slices_Index_string_string.l0 k y0 y1 y2 y3) (slices_Index_string_string.l0 (k + 1) y0 y1 y2 y3))
 | 0 => fun _ _ _ _ r h => by simp [slices_Index_string_string.l0] at h
 | k + 1 => by
  have ih0 := slices_Index_string_string.mono_l k
  ·intro y0 y1 y2 y3
   unfold slices_Index_string_string.l0
   repeat' first
   | (with_reducible exact ih0 _ _ _ _)
   | (with_reducible exact LeO.refl _)
   | (with_reducible exact LeO.none _)
   | (with_reducible refine LeO.ite ?_ ?_)
   | (with_reducible refine LeO.bind ?_ (fun _ => ?_))
   | exact ih0 _ _ _ _
   | exact LeO.none _
   | refine LeO.ite ?_ ?_
   | refine LeO.bind ?_ (fun _ => ?_)
theorem slices_Index_string_string.mono : ∀ a0 a1 k, LeO (slices_Index_string_string.f k a0 a1) (slices_Index_string_string.f (k + 1) a0 a1) := by
 intro a0 a1 k
 have ih0 := slices_Index_string_string.mono_l k
 unfold slices_Index_string_string.f
 repeat' first
   | (with_reducible exact ih0 _ _ _ _)
   | (with_reducible exact LeO.refl _)
   | (with_reducible exact LeO.none _)
   | (with_reducible refine LeO.ite ?_ ?_)
   | (with_reducible refine LeO.bind ?_ (fun _ => ?_))
   | exact ih0 _ _ _ _
   | exact LeO.none _
   | refine LeO.ite ?_ ?_
   | refine LeO.bind ?_ (fun _ => ?_)
set_option maxHeartbeats 8000000 in
set_option maxRecDepth 100000 in
theorem slices_Index_string_string.calls (k : Nat) (A0 : Option Addr) (c0 : Nat) (l0 : List ByteArray) (a1 : ByteArray) (r : Int) (w : World) (hr0 : Kd.C Kd.string w A0 l0.length l0) (hc0 : l0.length ≤ c0) (h : slices_Index_string_string.f k l0 a1 = some r) :
  Calls Try.prog 80 #[.slice A0 l0.length c0, .string a1] w fun e w' => e = .returned (.int .i64 r) ∧ Drawn0 w w' := by
 have HR0 := Aside0.mk hr0
 have HC0 := Aside0.mk hc0
 clear hr0 hc0
 have H : (slices_Index_string_string.l0 k l0 a1 (l0.length : Int) 0) = some r := h
 clear h
 have H' := Aside0.mk H
 clear H
 go_enter Try.func80, Try.ntmps80
 go_wp2
 go_loopg [8] k (fun kq v8 w' => ∃ (x8_1 : Int), v8 = .int .i64 x8_1 ∧ Aside0 (slices_Index_string_string.l0 kq l0 a1 (l0.length : Int) x8_1 = some r) ∧ Aside0 (kq ≤ k) ∧ Drawn0 w w')
 case atStart => exact ⟨(0), (by first | rfl | (simp; done) | (simp [*]; done)), H', ⟨Nat.le_refl _⟩, by repeat (first | exact Drawn0.refl _ | apply Drawn0.step)⟩
 case round =>
  clear H'
  try clear p2
  obtain ⟨x8_1, rfl, HA, HK1, ⟨m1, rfl⟩⟩ := hrel
  cases gk with
  | zero => exact absurd HA.out (by simp [slices_Index_string_string.l0])
  | succ k1 =>
   have H := HA.out
   clear HA
   simp only [slices_Index_string_string.l0] at H
   by_cases c3 : x8_1 < (l0.length : Int)
   ·rw [if_pos c3] at H
    have c3b0 : decide (x8_1 < (l0.length : Int)) = true := decide_eq_true c3
    clear c3
    by_cases c4 : 0 ≤ x8_1
    ·rw [if_pos c4] at H
     have c4b0 : decide (0 ≤ x8_1) = true := decide_eq_true c4
     clear c4
     by_cases c5 : x8_1 < (l0.length : Int)
     ·rw [if_pos c5] at H
      have c5b0 : decide (x8_1 < (l0.length : Int)) = true := decide_eq_true c5
      clear c5
      by_cases c6 : a1.toList = (rdOf ByteArray.empty l0 x8_1).toList
      ·rw [if_pos c6] at H
       have c6b0 : (a1.toList == (rdOf ByteArray.empty l0 x8_1).toList) = true := beq_iff_eq.mpr c6
       have c6b1 : (a1.toList != (rdOf ByteArray.empty l0 x8_1).toList) = false := bne_eq_false_iff_eq.mpr c6
       clear c6
       obtain rfl := Option.some.inj H
       simp only [Option.some.injEq, Prod.mk.injEq] at H
       obtain ⟨rfl⟩ := H
       have p248 : 0 ≤ (x8_1 : Int) := of_decide_eq_true (by first | (with_reducible assumption) | assumption)
       have q248 : x8_1 < (l0.length : Int) := of_decide_eq_true (by first | (with_reducible assumption) | assumption)
       obtain ⟨ad248, e248, hx248_0⟩ := Kd.at_string HR0.out x8_1 p248 q248
       cases e248
       replace p248 := eq_true p248
       replace q248 := eq_true q248
       go_wp2
       go_ret
       exact ⟨by first | rfl | (simp; done) | (simp [*]; done), by repeat (first | exact Drawn0.refl _ | apply Drawn0.step)⟩
      ·rw [if_neg c6] at H
       have c6b0 : (a1.toList == (rdOf ByteArray.empty l0 x8_1).toList) = false := beq_eq_false_iff_ne.mpr c6
       have c6b1 : (a1.toList != (rdOf ByteArray.empty l0 x8_1).toList) = true := bne_iff_ne.mpr c6
       have H' := Aside0.mk H
       clear H
       have p248 : 0 ≤ (x8_1 : Int) := of_decide_eq_true (by first | (with_reducible assumption) | assumption)
       have q248 : x8_1 < (l0.length : Int) := of_decide_eq_true (by first | (with_reducible assumption) | assumption)
       obtain ⟨ad248, e248, hx248_0⟩ := Kd.at_string HR0.out x8_1 p248 q248
       cases e248
       replace p248 := eq_true p248
       replace q248 := eq_true q248
       go_wp2
       go_roundg k1
       case measure => have := HK1.out; omega
       case rel => exact ⟨(wrap64 (x8_1 + 1)), (by first | rfl | (simp; done) | (simp [*]; done)), H', ⟨by have := HK1.out; omega⟩, by repeat (first | exact Drawn0.refl _ | apply Drawn0.step)⟩
     ·rw [if_neg c5] at H
      exact absurd H (by simp)
    ·rw [if_neg c4] at H
     exact absurd H (by simp)
   ·rw [if_neg c3] at H
    have c3b0 : decide (x8_1 < (l0.length : Int)) = false := decide_eq_false c3
    clear c3
    obtain rfl := Option.some.inj H
    simp only [Option.some.injEq, Prod.mk.injEq] at H
    obtain ⟨rfl⟩ := H
    go_wp2
    go_ret
    exact ⟨by first | rfl | (simp; done) | (simp [*]; done), by repeat (first | exact Drawn0.refl _ | apply Drawn0.step)⟩

/-! ### slices_Contains_string_string: function 56 -/
def slices_Contains_string_string.f (k : Nat) (l0 : List ByteArray) (a1 : ByteArray) : Option (Bool) := (slices_Index_string_string.f k l0 a1).bind fun t249 => (some (decide (t249 ≥ 0)))
theorem slices_Contains_string_string.mono : ∀ a0 a1 k, LeO (slices_Contains_string_string.f k a0 a1) (slices_Contains_string_string.f (k + 1) a0 a1) := by
 intro a0 a1 k
 unfold slices_Contains_string_string.f
 repeat' first
   | (with_reducible exact slices_Index_string_string.mono _ _ _)
   | (with_reducible exact LeO.refl _)
   | (with_reducible exact LeO.none _)
   | (with_reducible refine LeO.ite ?_ ?_)
   | (with_reducible refine LeO.bind ?_ (fun _ => ?_))
   | exact slices_Index_string_string.mono _ _ _
   | exact LeO.none _
   | refine LeO.ite ?_ ?_
   | refine LeO.bind ?_ (fun _ => ?_)
set_option maxHeartbeats 8000000 in
set_option maxRecDepth 100000 in
theorem slices_Contains_string_string.calls (k : Nat) (A0 : Option Addr) (c0 : Nat) (l0 : List ByteArray) (a1 : ByteArray) (r : Bool) (w : World) (hr0 : Kd.C Kd.string w A0 l0.length l0) (hc0 : l0.length ≤ c0) (h : slices_Contains_string_string.f k l0 a1 = some r) :
  Calls Try.prog 56 #[.slice A0 l0.length c0, .string a1] w fun e w' => e = .returned (.bool r) ∧ Drawn0 w w' := by
 have HR0 := Aside0.mk hr0
 have HC0 := Aside0.mk hc0
 clear hr0 hc0
 have H : ((slices_Index_string_string.f k l0 a1).bind fun t249 => (some (decide (t249 ≥ 0)))) = some r := h
 clear h
 replace H := Option.bind_eq_some_iff.mp H
 obtain ⟨t249, A30, H⟩ := H
 replace H : (some (decide (t249 ≥ 0))) = some r := H
 have A3 := Aside0.mk A30
 clear A30
 obtain rfl := Option.some.inj H
 simp only [Option.some.injEq, Prod.mk.injEq] at H
 obtain ⟨rfl⟩ := H
 go_enter Try.func56, Try.ntmps56
 go_wp2_with (first | ((with_reducible refine gate_callee (f := 80) rfl ?_); refine goesL_ (some 7) rfl rfl Try.func80 (by kernel_rfl) rfl #[.slice A0 l0.length c0, .string a1] rfl (by (try simp only [List.map_toArray, List.map_cons, List.map_nil]); first | done | rfl | (simp only [List.length_drop, List.length_take]; rfl)) ?_; (with_reducible refine (slices_Index_string_string.calls k _ _ l0 a1 t249 _ ?side1 ?side2 A3.out).mono ?_); (case side1 => repeat (first | exact HR0.out | (with_reducible refine Kd.C_alloc ?_ _) | (with_reducible refine Kd.C_drewN ?_ _) | (with_reducible refine Kd.C_drew ?_))); (case side2 => exact HC0.out); rintro e w' ⟨rfl, ⟨nd, rfl⟩⟩; refine ⟨_, rfl, ?_⟩))
 go_ret
 exact ⟨by first | rfl | (simp; done) | (simp [*]; done), by repeat (first | exact Drawn0.refl _ | apply Drawn0.step)⟩

/-! ### impl_addLine: function 46, by hand -/
set_option maxHeartbeats 8000000 in
set_option maxRecDepth 100000 in
theorem addLine_go (w0 w : World) (g : Nat) (v1 v2 v3 : Value) (R : List S69) (L : List ByteArray) (B : List S40) (name : ByteArray) (b1 b2 : Bool) (HI : RigAt w0 w g v1 v2 v3 R L B) (hl : L.length ≤ 60)
  (hN : ∀ w, Calls Try.prog 75 #[.string name] w fun e w' => e = .returned (.bool b1) ∧ Drawn0 w w')
  (hC : ∀ A c w, Kd.C Kd.string w A L.length L → L.length ≤ c → Calls Try.prog 56 #[.slice A L.length c, .string name] w fun e w' => e = .returned (.bool b2) ∧ Drawn0 w w') :
  Calls Try.prog 46 #[.pointer (some ⟨g, 0, none⟩), .string name] w fun e w' => ∃ v2', e = .returned (.int .i64 (addLineN b1 b2 L.length)) ∧ RigAt w0 w' g v1 v2' v3 R (addLineL b1 b2 L name) B := by
 have HI0 := Aside0.mk HI
 have HL := Aside0.mk hl
 have HN := Aside0.mk hN
 have HC := Aside0.mk hC
 clear HI hl hN hC
 cases b1 with
 | false =>
  go_enter Try.func46, Try.ntmps46
  go_wp2_with (first | (go_at_call 75; (with_reducible refine (HN.out _).mono ?_); rintro e w1 ⟨rfl, hd⟩; have n0_ := Aside0.mk (HI0.out.drawn hd); clear HI0 hd; have HI0 := n0_; clear n0_))
  go_ret
  exact ⟨v2, rfl, by simpa [addLineL] using HI0.out⟩
 | true =>
  obtain ⟨A2, c2, rfl⟩ := Kd.R_slice HI0.out.r2
  cases b2 with
  | true =>
   go_enter Try.func46, Try.ntmps46
   go_wp2_with (first | (go_at_call 75; (with_reducible refine (HN.out _).mono ?_); rintro e w1 ⟨rfl, hd⟩; have n0_ := Aside0.mk (HI0.out.drawn hd); clear HI0 hd; have HI0 := n0_; clear n0_; have BX := Aside0.mk HI0.out.box; obtain ⟨hx0, hx1, hx2, hy0, hy1, hy2⟩ := cz3 BX; clear BX) | (go_at_call 56; (with_reducible refine (HC.out A2 c2 _ (Kd.R_reads' HI0.out.r2).2.2 (Kd.R_reads' HI0.out.r2).2.1).mono ?_); rintro e w2 ⟨rfl, hd⟩; clear hx0 hx1 hx2 hy0 hy1 hy2; have n0_ := Aside0.mk (HI0.out.drawn hd); clear HI0 hd; have HI0 := n0_; clear n0_; have BX := Aside0.mk HI0.out.box; obtain ⟨hx0, hx1, hx2, hy0, hy1, hy2⟩ := cz3 BX; clear BX))
   go_ret
   exact ⟨_, rfl, by simpa [addLineL] using HI0.out⟩
  | false =>
   by_cases h60 : L.length = 60
   ·have hb60 : ((L.length : Int) == 60) = true := beq_iff_eq.mpr (by omega)
    have H60 := Aside0.mk h60
    clear h60
    go_enter Try.func46, Try.ntmps46
    go_wp2_with (first | (go_at_call 75; (with_reducible refine (HN.out _).mono ?_); rintro e w1 ⟨rfl, hd⟩; have n0_ := Aside0.mk (HI0.out.drawn hd); clear HI0 hd; have HI0 := n0_; clear n0_; have BX := Aside0.mk HI0.out.box; obtain ⟨hx0, hx1, hx2, hy0, hy1, hy2⟩ := cz3 BX; clear BX) | (go_at_call 56; (with_reducible refine (HC.out A2 c2 _ (Kd.R_reads' HI0.out.r2).2.2 (Kd.R_reads' HI0.out.r2).2.1).mono ?_); rintro e w2 ⟨rfl, hd⟩; clear hx0 hx1 hx2 hy0 hy1 hy2; have n0_ := Aside0.mk (HI0.out.drawn hd); clear HI0 hd; have HI0 := n0_; clear n0_; have BX := Aside0.mk HI0.out.box; obtain ⟨hx0, hx1, hx2, hy0, hy1, hy2⟩ := cz3 BX; clear BX))
    go_ret
    exact ⟨_, by rw [addLineN, if_pos rfl, if_neg nf, if_pos H60.out]; rfl, by simpa [addLineL, H60.out] using HI0.out⟩
   ·have hb60 : ((L.length : Int) == 60) = false := beq_eq_false_iff_ne.mpr (by omega)
    have H60 := Aside0.mk h60
    clear h60
    go_enter Try.func46, Try.ntmps46
    go_wp2_with (first | (go_at_call 75; (with_reducible refine (HN.out _).mono ?_); rintro e w1 ⟨rfl, hd⟩; have n0_ := Aside0.mk (HI0.out.drawn hd); clear HI0 hd; have HI0 := n0_; clear n0_; have BX := Aside0.mk HI0.out.box; obtain ⟨hx0, hx1, hx2, hy0, hy1, hy2⟩ := cz3 BX; clear BX) | (go_at_call 56; (with_reducible refine (HC.out A2 c2 _ (Kd.R_reads' HI0.out.r2).2.2 (Kd.R_reads' HI0.out.r2).2.1).mono ?_); rintro e w2 ⟨rfl, hd⟩; clear hx0 hx1 hx2 hy0 hy1 hy2; have n0_ := Aside0.mk (HI0.out.drawn hd); clear HI0 hd; have HI0 := n0_; clear n0_; have BX := Aside0.mk HI0.out.box; obtain ⟨hx0, hx1, hx2, hy0, hy1, hy2⟩ := cz3 BX; clear BX) | ((with_reducible refine gate_builtin (b := .append) (xs := #[.tmp 27, .tmp 29]) rfl ?_); at_builtin; refine Kd.R_append Kd.string (w0 := w0) w0.heap.size rfl (.tmp 27) (.tmp 29) 23 9 (.string ⟨#[]⟩) 16 rfl Try.underlying23 info9 rfl (by decide) (by omega) (.slice A2 L.length c2) L name [.string name] (fun _ => True) (fun _ => False) rfl rfl ?aP (fun _ hk => hk.elim) ?aF ?aO ?aB ?aS ?aL ?_; (case aP => exact rfl); (case aB => exact HI0.out.below); (case aF => exact (fun _ _ => trivial)); (case aO => exact HI0.out.r2); (case aS => exact HI0.out.below.size); (case aL => have := HL.out; omega); intro v2' w3 ho hb hg hat; obtain ⟨A3, c3, rfl⟩ := Kd.R_slice ho; have n0_ := Aside0.mk (HI0.out.grown2 ho hb hg); clear HI0 ho hb hg hat hx0 hx1 hx2 hy0 hy1 hy2; have HI0 := n0_; clear n0_; have BX := Aside0.mk HI0.out.1; obtain ⟨hx0, hx1, hx2, hy0, hy1, hy2⟩ := cz3 BX; clear BX))
    go_ret
    exact ⟨_, by rw [addLineN, if_pos rfl, if_neg nf, if_neg H60.out]; rfl, by simpa [addLineL, H60.out] using HI0.out.2⟩
def impl_addLine.f (k : Nat) (l0 : List ByteArray) (a1 : ByteArray) : Option (Int) := (impl_IsName.f k a1).bind fun t1 => ((slices_Contains_string_string.f k l0 a1).bind fun t2 => (some (addLineN t1 t2 l0.length)))
theorem impl_addLine.mono : ∀ a0 a1 k, LeO (impl_addLine.f k a0 a1) (impl_addLine.f (k + 1) a0 a1) := by
 intro a0 a1 k
 unfold impl_addLine.f
 repeat' first
  | (with_reducible exact impl_IsName.mono _ _)
  | (with_reducible exact slices_Contains_string_string.mono _ _ _)
  | (with_reducible exact LeO.refl _)
  | (with_reducible exact LeO.none _)
  | (with_reducible refine LeO.ite ?_ ?_)
  | (with_reducible refine LeO.bind ?_ (fun _ => ?_))
theorem impl_addLine.at (k : Nat) (w0 w : World) (g : Nat) (v1 v2 v3 : Value) (R : List S69) (L : List ByteArray) (B : List S40) (s : ByteArray) (n : Int) (HI : RigAt w0 w g v1 v2 v3 R L B) (hl : L.length ≤ 60) (h : impl_addLine.f k L s = some n) :
  (n = 0 → L.length + 1 ≤ 60) ∧ Calls Try.prog 46 #[.pointer (some ⟨g, 0, none⟩), .string s] w fun e w' => ∃ v2', e = .returned (.int .i64 n) ∧ RigAt w0 w' g v1 v2' v3 R (addTo n L s) B := by
 unfold impl_addLine.f at h
 obtain ⟨b1, h1, h⟩ := Option.bind_eq_some_iff.mp h
 obtain ⟨b2, h2, h⟩ := Option.bind_eq_some_iff.mp h
 obtain rfl := Option.some.inj h
 refine ⟨fun h0 => addLineN_lt h0 hl, ?_⟩
 have := addLine_go w0 w g v1 v2 v3 R L B s b1 b2 HI hl (fun w => impl_IsName.calls k s b1 w h1) (fun A c w hr hc => slices_Contains_string_string.calls k A c L s b2 w hr hc h2)
 rw [addLineL_eq] at this
 exact this

/-! ### impl_hasPin: function 53 -/
def impl_hasPin.f (l0_0 : List (S69)) (l0_1 : List ByteArray) (l0_2 : List (S40)) (a1 : ByteArray) (a2 : Int) : Option (Bool) := (impl_railNamed.f l0_0 l0_1 l0_2 a1).bind fun t251 => (if t251 ≥ 0 then (if 0 ≤ t251 then (if t251 < (l0_0.length : Int) then ((impl_within.f a2 1 ((rd_T69 l0_0 t251).f2)).bind fun t253 => (some t253)) else (none)) else (none)) else (some false))
set_option maxHeartbeats 8000000 in
set_option maxRecDepth 100000 in
theorem impl_hasPin.calls (A0_0 : Option Addr) (c0_0 : Nat) (l0_0 : List (S69)) (A0_1 : Option Addr) (c0_1 : Nat) (l0_1 : List ByteArray) (A0_2 : Option Addr) (c0_2 : Nat) (l0_2 : List (S40)) (a1 : ByteArray) (a2 : Int) (r : Bool) (w : World) (hr0_0 : Kd.C k69 w A0_0 l0_0.length l0_0) (hc0_0 : l0_0.length ≤ c0_0) (hr0_1 : Kd.C Kd.string w A0_1 l0_1.length l0_1) (hc0_1 : l0_1.length ≤ c0_1) (hr0_2 : Kd.C k40 w A0_2 l0_2.length l0_2) (hc0_2 : l0_2.length ≤ c0_2) (h : impl_hasPin.f l0_0 l0_1 l0_2 a1 a2 = some r) :
  Calls Try.prog 53 #[.agg #[.slice A0_0 l0_0.length c0_0, .slice A0_1 l0_1.length c0_1, .slice A0_2 l0_2.length c0_2], .string a1, .int .i64 a2] w fun e w' => e = .returned (.bool r) ∧ Below w.heap.size w w' := by
 have hu32 := Try.underlying32
 have HR0_0 := Aside0.mk hr0_0
 have HC0_0 := Aside0.mk hc0_0
 clear hr0_0 hc0_0
 have HR0_1 := Aside0.mk hr0_1
 have HC0_1 := Aside0.mk hc0_1
 clear hr0_1 hc0_1
 have HR0_2 := Aside0.mk hr0_2
 have HC0_2 := Aside0.mk hc0_2
 clear hr0_2 hc0_2
 have HB := Aside0.mk (Below.refl w.heap.size w)
 have H : ((impl_railNamed.f l0_0 l0_1 l0_2 a1).bind fun t251 => (if t251 ≥ 0 then (if 0 ≤ t251 then (if t251 < (l0_0.length : Int) then ((impl_within.f a2 1 ((rd_T69 l0_0 t251).f2)).bind fun t253 => (some t253)) else (none)) else (none)) else (some false))) = some r := h
 clear h
 replace H := Option.bind_eq_some_iff.mp H
 obtain ⟨t251, A40, H⟩ := H
 replace H : (if t251 ≥ 0 then (if 0 ≤ t251 then (if t251 < (l0_0.length : Int) then ((impl_within.f a2 1 ((rd_T69 l0_0 t251).f2)).bind fun t253 => (some t253)) else (none)) else (none)) else (some false)) = some r := H
 have A4 := Aside0.mk A40
 clear A40
 have HF_ := Aside0.mk H
 clear H
 go_enter Try.func53, Try.ntmps53
 go_upto_region 2 with (first | ((with_reducible refine gate_dst (N := 3) rfl ?_); refine box_event ?hg (N := 3) ?hd (cs := #[.slice A0_0 l0_0.length c0_0, .slice A0_1 l0_1.length c0_1, .slice A0_2 l0_2.length c0_2]) (t := 32) ?hr ?_; (case hd => rfl); (case hg => rfl); (case hr => first | (go_simp; done) | (go_simp; rfl)); intro gb250 hg w5 hbox hb; have n0_ := pS HB hb; have n1_ := Aside0.mk (hbox); have n2_ := pG HB hg; have n3_ := pG HB hg; clear HB; have HB := n0_; have BK250 := n1_; have GW250 := n2_; have GE250 := n3_; clear n0_ n1_ n2_ n3_; clear hb hbox hg; obtain ⟨hcz6_0, hcz6_1, hcz6_2, hfz6_0, hfz6_1, hfz6_2⟩ := cz3 BK250) | ((with_reducible refine gate_callee (f := 63) rfl ?_); refine goesL_ (some 10) rfl rfl Try.func63 (by kernel_rfl) rfl #[.agg #[.slice A0_0 l0_0.length c0_0, .slice A0_1 l0_1.length c0_1, .slice A0_2 l0_2.length c0_2], .string a1] rfl (by (try simp only [List.map_toArray, List.map_cons, List.map_nil]); first | done | rfl | (simp only [List.length_drop, List.length_take]; rfl)) ?_; (with_reducible refine (impl_railNamed.calls _ _ l0_0 _ _ l0_1 _ _ l0_2 a1 t251 _ ?side1 ?side2 ?side3 ?side4 ?side5 ?side6 A4.out).mono ?_); (case side1 => repeat (first | exact (Kd.C_below HR0_0.out HB.out) | (with_reducible refine Kd.C_alloc ?_ _) | (with_reducible refine Kd.C_drewN ?_ _) | (with_reducible refine Kd.C_drew ?_))); (case side2 => exact HC0_0.out); (case side3 => repeat (first | exact (Kd.C_below HR0_1.out HB.out) | (with_reducible refine Kd.C_alloc ?_ _) | (with_reducible refine Kd.C_drewN ?_ _) | (with_reducible refine Kd.C_drew ?_))); (case side4 => exact HC0_1.out); (case side5 => repeat (first | exact (Kd.C_below HR0_2.out HB.out) | (with_reducible refine Kd.C_alloc ?_ _) | (with_reducible refine Kd.C_drewN ?_ _) | (with_reducible refine Kd.C_drew ?_))); (case side6 => exact HC0_2.out); rintro e w7 ⟨rfl, hb⟩; refine ⟨_, rfl, ?_⟩; have n0_ := pB BK250 hb; have n1_ := pS HB hb; clear BK250 HB; have BK250 := n0_; have HB := n1_; clear n0_ n1_; (try clear hb); (try clear hb2); (try clear hk); (try clear hi)))
 (try simp only [Act.put, List.setIfInBounds_toArray, List.set_cons_zero, List.set_cons_succ])
 have H := HF_.out
 clear HF_
 by_cases c8 : t251 ≥ 0
 ·rw [if_pos c8] at H
  have c8b0 : decide (0 ≤ t251) = true := decide_eq_true c8
  clear c8
  (first | rw [c8b0] | (simp only [i64_w, i32_w]; rw [c8b0]) | skip)
  by_cases c9 : 0 ≤ t251
  ·rw [if_pos c9] at H
   have c9b0 : decide (0 ≤ t251) = true := decide_eq_true c9
   clear c9
   by_cases c10 : t251 < (l0_0.length : Int)
   ·rw [if_pos c10] at H
    have c10b0 : decide (t251 < (l0_0.length : Int)) = true := decide_eq_true c10
    clear c10
    replace H := Option.bind_eq_some_iff.mp H
    obtain ⟨t253, A110, H⟩ := H
    replace H : (some t253) = some r := H
    have A11 := Aside0.mk A110
    clear A110
    obtain rfl := Option.some.inj H
    simp only [Option.some.injEq, Prod.mk.injEq] at H
    obtain ⟨rfl⟩ := H
    obtain ⟨hcz12_0, hcz12_1, hcz12_2, hfz12_0, hfz12_1, hfz12_2⟩ := cz3 BK250
    have p252 : 0 ≤ (t251 : Int) := of_decide_eq_true (by first | (with_reducible assumption) | assumption)
    have q252 : t251 < (l0_0.length : Int) := of_decide_eq_true (by first | (with_reducible assumption) | assumption)
    obtain ⟨ad252, e252, hx252_0, hx252_1, hx252_2⟩ := at_T69 HR0_0.out t251 p252 q252
    cases e252
    replace hx252_0 := bC HB hx252_0
    replace hx252_1 := bC HB hx252_1
    replace hx252_2 := bC HB hx252_2
    replace p252 := eq_true p252
    replace q252 := eq_true q252
    go_wp2_with (first | (go_at_call 76; (with_reducible refine (impl_within.calls a2 1 ((rd_T69 l0_0 t251).f2) t253 _ A11.out).mono ?_); rintro e w' ⟨rfl, ⟨nd, rfl⟩⟩))
    go_ret
    exact ⟨by first | rfl | (simp [errW_none, errW_some] <;> rfl) | (simp [*, errW_none, errW_some] <;> rfl), pR HB⟩
   ·rw [if_neg c10] at H
    exact absurd H (by simp)
  ·rw [if_neg c9] at H
   exact absurd H (by simp)
 ·rw [if_neg c8] at H
  have c8b0 : decide (0 ≤ t251) = false := decide_eq_false c8
  clear c8
  (first | rw [c8b0] | (simp only [i64_w, i32_w]; rw [c8b0]) | skip)
  obtain rfl := Option.some.inj H
  simp only [Option.some.injEq, Prod.mk.injEq] at H
  obtain ⟨rfl⟩ := H
  go_wp2
  go_ret
  exact ⟨by first | rfl | (simp [errW_none, errW_some] <;> rfl) | (simp [*, errW_none, errW_some] <;> rfl), pR HB⟩

-- NOT PRINTED: function 78 (impl_Belay)

/-! ### impl_belayAt: function 54, by hand -/
set_option maxHeartbeats 8000000 in
set_option maxRecDepth 100000 in
theorem gen78 (g : Nat) (lb : Array Value) (p : S40 → Bool) (A0 : Option Addr) (c0 : Nat) (l0 : List S40) (w : World) (eg : ∀ args w, (callFunc g args).run Try.prog w = .ok (.enter g args) w) (hr0 : Kd.C k40 w A0 l0.length l0) (hn : l0.length < 4611686018427387904)
 (hp : ∀ (W : World) (x : S40) , Below w.heap.size w W → Calls Try.prog g (#[.agg #[.string x.f0, .string x.f1, .int .i64 x.f2]] ++ lb) W fun e w' => e = .returned (.bool (p x)) ∧ Below w.heap.size w w') :
 Calls Try.prog 78 #[.slice A0 l0.length c0, .func (.func g) #[] lb] w fun e w' => e = .returned (.int .i64 (idxF p l0)) ∧ Below w.heap.size w w' := by
 have HR := Aside0.mk hr0
 clear hr0
 generalize hL : l0.length = n at hn HR
 have HN := Aside0.mk hL
 clear hL
 go_enter Try.func78, Try.ntmps78
 go_wp2
 go_loopg [5, 8] n (fun gg _ s8 wr => ∃ kk : Nat, kk ≤ n ∧ n - kk ≤ gg ∧ s8 = .int .i64 kk ∧ Aside0 (Below w.heap.size w wr) ∧ Aside0 (∀ j (hj : j < kk) (hl : j < l0.length), p l0[j] = false))
 case atStart => exact ⟨0, Nat.zero_le _, by omega, rfl, ⟨Below.refl _ w⟩, ⟨fun j hj => absurd hj (Nat.not_lt_zero _)⟩⟩
 case round =>
  obtain ⟨kk, hkk, hg, rfl, BW, A⟩ := hrel
  by_cases hlt : kk < n
  ·have hltz : (kk : Int) < (n : Int) := by omega
   have hb0 : decide ((kk : Int) < (n : Int)) = true := decide_eq_true hltz
   have hb2 : decide (kk < n) = true := decide_eq_true hlt
   have hkl : kk < l0.length := by rw [HN.out]; exact hlt
   obtain ⟨ad, e0, hx0, hx1, hx2⟩ := at_T40 HR.out (kk : Int) (by omega) (by omega)
   cases e0
   have ex : rd_T40 l0 (kk : Int) = l0[kk] := by simp [rd_T40, hkl]
   rw [ex] at hx0 hx1 hx2
   rw [Int.toNat_natCast] at hx0 hx1 hx2
   replace hx0 := (BW.out.cell (World.block_lt_of_cell? w _ hx0)).trans hx0
   replace hx1 := (BW.out.cell (World.block_lt_of_cell? w _ hx1)).trans hx1
   replace hx2 := (BW.out.cell (World.block_lt_of_cell? w _ hx2)).trans hx2
   have hcall := hp wr l0[kk] BW.out
   generalize hy : l0[kk] = y at hx0 hx1 hx2 hcall
   have B := Aside0.mk hy
   clear hy ex
   have HP := Aside0.mk hp
   clear hp
   cases hq : p y with
   | true =>
    rw [hq] at hcall
    have HQ := Aside0.mk hq
    clear hq
    go_wp2_with (fail)
    refine hcall.mono ?_
    rintro e w' ⟨rfl, hb'⟩
    clear hcall hx0 hx1 hx2
    have HB' := Aside0.mk hb'
    clear hb'
    go_wp2
    go_ret
    refine ⟨?_, HB'.out⟩
    rw [idxF_hit p l0 kk hkl (by rw [B.out]; exact HQ.out) (fun j hj => A.out j hj (by omega))]
    rfl
   | false =>
    rw [hq] at hcall
    have HQ := Aside0.mk hq
    clear hq
    go_wp2_with (fail)
    refine hcall.mono ?_
    rintro e w' ⟨rfl, hb'⟩
    clear hcall hx0 hx1 hx2
    have HB' := Aside0.mk hb'
    clear hb'
    go_wp2
    go_roundg (n - (kk + 1))
    case measure => omega
    case rel =>
     refine ⟨kk + 1, by omega, by omega, by go_num, HB', ⟨fun j hj hl => ?_⟩⟩
     by_cases e : j = kk
     ·subst e
      rw [B.out]; exact HQ.out
     ·exact A.out j (by omega) hl
  ·have hltz : ¬ (kk : Int) < (n : Int) := by omega
   have hb0 : decide ((kk : Int) < (n : Int)) = false := decide_eq_false hltz
   have hb2 : decide (kk < n) = false := decide_eq_false hlt
   have hkn : kk = n := by omega
   have HKN := Aside0.mk hkn
   clear hkn
   go_wp2
   go_ret
   refine ⟨?_, BW.out⟩
   rw [idxF_miss p l0 (fun j hj => A.out j (by rw [HKN.out, ← HN.out]; exact hj) hj)]
   rfl
set_option maxHeartbeats 8000000 in
set_option maxRecDepth 100000 in
theorem pred79 (g h : Nat) (s : ByteArray) (n : Int) (w : World) (x : S40) (BK : w.heap[g]? = some (.cells #[.string s] 9 (0, 0))) (BJ : w.heap[h]? = some (.cells #[.int .i64 n] 2 (0, 0))) :
 Calls Try.prog 79 #[.agg #[.string x.f0, .string x.f1, .int .i64 x.f2], .pointer (some ⟨g, 0, none⟩), .pointer (some ⟨h, 0, none⟩)] w fun e w' => e = .returned (.bool (decide (x.f1 = s) && decide (x.f2 = n))) ∧ Below w.heap.size w w' := by
 have B1 := Aside0.mk BK
 have B2 := Aside0.mk BJ
 clear BK BJ
 have HB := Aside0.mk (Below.refl w.heap.size w)
 by_cases hs : x.f1 = s
 ·have hb0 : (x.f1.toList == s.toList) = true := by rw [str_beq]; exact decide_eq_true hs
  go_enter Try.func79, Try.ntmps79
  go_wp2_with (first | ((with_reducible refine gate_dst (N := 3) rfl ?_); refine box_event ?hg (N := 3) ?hd (cs := #[.string x.f0, .string x.f1, .int .i64 x.f2]) (t := 40) ?hr ?_; (case hd => rfl); (case hg => rfl); (case hr => first | (go_simp; done) | (go_simp; rfl)); intro gb hg w4 hbox hb; have n0_ := pS HB hb; have n1_ := Aside0.mk hbox; have n2_ := pB B1 hb; have n3_ := pB B2 hb; clear HB hbox B1 B2 hb hg; have HB := n0_; have BK := n1_; have B1 := n2_; have B2 := n3_; clear n0_ n1_ n2_ n3_; obtain ⟨hc0, hc1, hc2, hf0, hf1, hf2⟩ := cz3 BK; obtain ⟨hd0, hg0⟩ := cz1 B1; obtain ⟨he0, hh0⟩ := cz1 B2))
  go_ret
  refine ⟨?_, pR HB⟩
  rw [decide_eq_true hs]
  first | rfl | simp
 ·have hb0 : (x.f1.toList == s.toList) = false := by rw [str_beq]; exact decide_eq_false hs
  go_enter Try.func79, Try.ntmps79
  go_wp2_with (first | ((with_reducible refine gate_dst (N := 3) rfl ?_); refine box_event ?hg (N := 3) ?hd (cs := #[.string x.f0, .string x.f1, .int .i64 x.f2]) (t := 40) ?hr ?_; (case hd => rfl); (case hg => rfl); (case hr => first | (go_simp; done) | (go_simp; rfl)); intro gb hg w4 hbox hb; have n0_ := pS HB hb; have n1_ := Aside0.mk hbox; have n2_ := pB B1 hb; have n3_ := pB B2 hb; clear HB hbox B1 B2 hb hg; have HB := n0_; have BK := n1_; have B1 := n2_; have B2 := n3_; clear n0_ n1_ n2_ n3_; obtain ⟨hc0, hc1, hc2, hf0, hf1, hf2⟩ := cz3 BK; obtain ⟨hd0, hg0⟩ := cz1 B1; obtain ⟨he0, hh0⟩ := cz1 B2))
  go_ret
  refine ⟨?_, pR HB⟩
  rw [decide_eq_false hs]
  first | rfl | simp
set_option maxHeartbeats 8000000 in
set_option maxRecDepth 100000 in
theorem impl_belayAt.go (A0_0 : Option Addr) (c0_0 : Nat) (l0_0 : List (S69)) (A0_1 : Option Addr) (c0_1 : Nat) (l0_1 : List ByteArray) (A0_2 : Option Addr) (c0_2 : Nat) (l0_2 : List (S40)) (a1 : ByteArray) (a2 : Int) (w : World) (hr : Kd.C k40 w A0_2 l0_2.length l0_2) (hn : l0_2.length < 4611686018427387904) :
 Calls Try.prog 54 #[.agg #[.slice A0_0 l0_0.length c0_0, .slice A0_1 l0_1.length c0_1, .slice A0_2 l0_2.length c0_2], .string a1, .int .i64 a2] w fun e w' => e = .returned (.int .i64 (idxF (fun x : S40 => decide (x.f1 = a1) && decide (x.f2 = a2)) l0_2)) ∧ Below w.heap.size w w' := by
 have HR0 := Aside0.mk hr
 have HN := Aside0.mk hn
 clear hr hn
 have HB := Aside0.mk (Below.refl w.heap.size w)
 go_enter Try.func54, Try.ntmps54
 go_wp2_with (first | ((with_reducible refine gate_dst (N := 3) rfl ?_); refine box_event ?hg (N := 3) ?hd (cs := #[.slice A0_0 l0_0.length c0_0, .slice A0_1 l0_1.length c0_1, .slice A0_2 l0_2.length c0_2]) (t := 32) ?hr ?_; (case hd => rfl); (case hg => rfl); (case hr => first | (go_simp; done) | (go_simp; rfl)); intro gb0 hg w4 hbox hb; have n0_ := pS HB hb; have n1_ := Aside0.mk hbox; clear HB hbox; have HB := n0_; clear n0_; have BX := n1_; clear n1_ hb hg; skip) | ((with_reducible refine gate_dst (N := 4) rfl ?_); refine box_event ?hg (N := 4) ?hd (cs := #[.string a1]) (t := 9) ?hr ?_; (case hd => rfl); (case hg => rfl); (case hr => first | (go_simp; done) | (go_simp; rfl)); intro gb1 hg w5 hbox hb; have n0_ := pS HB hb; have m0_ := pB BX hb; have n1_ := Aside0.mk hbox; clear HB hbox; have HB := n0_; clear n0_ BX; have BX := m0_; clear m0_; have BK := n1_; clear n1_ hb hg; skip) | ((with_reducible refine gate_dst (N := 5) rfl ?_); refine box_event ?hg (N := 5) ?hd (cs := #[.int .i64 a2]) (t := 2) ?hr ?_; (case hd => rfl); (case hg => rfl); (case hr => first | (go_simp; done) | (go_simp; rfl)); intro gb2 hg w6 hbox hb; have n0_ := pS HB hb; have m0_ := pB BX hb; have m1_ := pB BK hb; have n1_ := Aside0.mk hbox; clear HB hbox; have HB := n0_; clear n0_ BX; have BX := m0_; clear m0_ BK; have BK := m1_; clear m1_; have BJ := n1_; clear n1_ hb hg; obtain ⟨hx0, hx1, hx2, hy0, hy1, hy2⟩ := cz3 BX))
 refine (gen78 79 #[.pointer (some ⟨gb1, 0, none⟩), .pointer (some ⟨gb2, 0, none⟩)] (fun x : S40 => decide (x.f1 = a1) && decide (x.f2 = a2)) A0_2 c0_2 l0_2 w6 (fun _ _ => rfl) (Kd.C_below HR0.out HB.out) HN.out (fun W x hb => (pred79 gb1 gb2 a1 a2 W x (blk_below BK.out hb) (blk_below BJ.out hb)).mono ?_)).mono ?_
 ·rintro e w' ⟨h1, h2⟩
  exact ⟨h1, below_step hb h2⟩
 rintro e w' ⟨rfl, hb⟩
 have HB2 := pS HB hb
 clear hb BX BK BJ HB
 go_wp2
 go_ret
 exact ⟨rfl, HB2.out⟩
def impl_belayAt.f (l0_0 : List (S69)) (l0_1 : List ByteArray) (l0_2 : List (S40)) (a1 : ByteArray) (a2 : Int) : Option (Int) := if l0_2.length < 4611686018427387904 then some (idxF (fun x : S40 => decide (x.f1 = a1) && decide (x.f2 = a2)) l0_2) else none
theorem impl_belayAt.calls (A0_0 : Option Addr) (c0_0 : Nat) (l0_0 : List (S69)) (A0_1 : Option Addr) (c0_1 : Nat) (l0_1 : List ByteArray) (A0_2 : Option Addr) (c0_2 : Nat) (l0_2 : List (S40)) (a1 : ByteArray) (a2 : Int) (r : Int) (w : World) (hr0_0 : Kd.C k69 w A0_0 l0_0.length l0_0) (hc0_0 : l0_0.length ≤ c0_0) (hr0_1 : Kd.C Kd.string w A0_1 l0_1.length l0_1) (hc0_1 : l0_1.length ≤ c0_1) (hr0_2 : Kd.C k40 w A0_2 l0_2.length l0_2) (hc0_2 : l0_2.length ≤ c0_2) (h : impl_belayAt.f l0_0 l0_1 l0_2 a1 a2 = some r) :
 Calls Try.prog 54 #[.agg #[.slice A0_0 l0_0.length c0_0, .slice A0_1 l0_1.length c0_1, .slice A0_2 l0_2.length c0_2], .string a1, .int .i64 a2] w fun e w' => e = .returned (.int .i64 r) ∧ Below w.heap.size w w' := by
 unfold impl_belayAt.f at h
 split at h
 ·rename_i hn
  obtain rfl := Option.some.inj h
  exact impl_belayAt.go A0_0 c0_0 l0_0 A0_1 c0_1 l0_1 A0_2 c0_2 l0_2 a1 a2 w hr0_2 hn
 ·cases h

/-! ### impl_belayOf: function 57, by hand -/
set_option maxHeartbeats 8000000 in
set_option maxRecDepth 100000 in
theorem pred81 (g : Nat) (s : ByteArray) (w : World) (x : S40) (BK : w.heap[g]? = some (.cells #[.string s] 9 (0, 0))) :
 Calls Try.prog 81 #[.agg #[.string x.f0, .string x.f1, .int .i64 x.f2], .pointer (some ⟨g, 0, none⟩)] w fun e w' => e = .returned (.bool (decide (x.f0 = s))) ∧ Below w.heap.size w w' := by
 have B1 := Aside0.mk BK
 clear BK
 have HB := Aside0.mk (Below.refl w.heap.size w)
 go_enter Try.func81, Try.ntmps81
 go_wp2_with (first | ((with_reducible refine gate_dst (N := 2) rfl ?_); refine box_event ?hg (N := 2) ?hd (cs := #[.string x.f0, .string x.f1, .int .i64 x.f2]) (t := 40) ?hr ?_; (case hd => rfl); (case hg => rfl); (case hr => first | (go_simp; done) | (go_simp; rfl)); intro gb hg w4 hbox hb; have n0_ := pS HB hb; have n1_ := Aside0.mk hbox; have n2_ := pB B1 hb; clear HB hbox B1 hb hg; have HB := n0_; have BK := n1_; have B1 := n2_; clear n0_ n1_ n2_; obtain ⟨hc0, hc1, hc2, hf0, hf1, hf2⟩ := cz3 BK; obtain ⟨hd0, hg0⟩ := cz1 B1))
 go_ret
 refine ⟨?_, pR HB⟩
 rw [str_beq]
 rfl
set_option maxHeartbeats 8000000 in
set_option maxRecDepth 100000 in
theorem impl_belayOf.go (A0_0 : Option Addr) (c0_0 : Nat) (l0_0 : List (S69)) (A0_1 : Option Addr) (c0_1 : Nat) (l0_1 : List ByteArray) (A0_2 : Option Addr) (c0_2 : Nat) (l0_2 : List (S40)) (a1 : ByteArray) (w : World) (hr : Kd.C k40 w A0_2 l0_2.length l0_2) (hn : l0_2.length < 4611686018427387904) :
 Calls Try.prog 57 #[.agg #[.slice A0_0 l0_0.length c0_0, .slice A0_1 l0_1.length c0_1, .slice A0_2 l0_2.length c0_2], .string a1] w fun e w' => e = .returned (.int .i64 (idxF (fun x : S40 => decide (x.f0 = a1)) l0_2)) ∧ Below w.heap.size w w' := by
 have HR0 := Aside0.mk hr
 have HN := Aside0.mk hn
 clear hr hn
 have HB := Aside0.mk (Below.refl w.heap.size w)
 go_enter Try.func57, Try.ntmps57
 go_wp2_with (first | ((with_reducible refine gate_dst (N := 2) rfl ?_); refine box_event ?hg (N := 2) ?hd (cs := #[.slice A0_0 l0_0.length c0_0, .slice A0_1 l0_1.length c0_1, .slice A0_2 l0_2.length c0_2]) (t := 32) ?hr ?_; (case hd => rfl); (case hg => rfl); (case hr => first | (go_simp; done) | (go_simp; rfl)); intro gb0 hg w4 hbox hb; have n0_ := pS HB hb; have n1_ := Aside0.mk hbox; clear HB hbox; have HB := n0_; clear n0_; have BX := n1_; clear n1_ hb hg; skip) | ((with_reducible refine gate_dst (N := 3) rfl ?_); refine box_event ?hg (N := 3) ?hd (cs := #[.string a1]) (t := 9) ?hr ?_; (case hd => rfl); (case hg => rfl); (case hr => first | (go_simp; done) | (go_simp; rfl)); intro gb1 hg w5 hbox hb; have n0_ := pS HB hb; have m0_ := pB BX hb; have n1_ := Aside0.mk hbox; clear HB hbox; have HB := n0_; clear n0_ BX; have BX := m0_; clear m0_; have BK := n1_; clear n1_ hb hg; obtain ⟨hx0, hx1, hx2, hy0, hy1, hy2⟩ := cz3 BX))
 refine (gen78 81 #[.pointer (some ⟨gb1, 0, none⟩)] (fun x : S40 => decide (x.f0 = a1)) A0_2 c0_2 l0_2 w5 (fun _ _ => rfl) (Kd.C_below HR0.out HB.out) HN.out (fun W x hb => (pred81 gb1 a1 W x (blk_below BK.out hb)).mono ?_)).mono ?_
 ·rintro e w' ⟨h1, h2⟩
  exact ⟨h1, below_step hb h2⟩
 rintro e w' ⟨rfl, hb⟩
 have HB2 := pS HB hb
 clear hb BX BK HB
 go_wp2
 go_ret
 exact ⟨rfl, HB2.out⟩
def impl_belayOf.f (l0_0 : List (S69)) (l0_1 : List ByteArray) (l0_2 : List (S40)) (a1 : ByteArray) : Option (Int) := if l0_2.length < 4611686018427387904 then some (idxF (fun x : S40 => decide (x.f0 = a1)) l0_2) else none
theorem impl_belayOf.calls (A0_0 : Option Addr) (c0_0 : Nat) (l0_0 : List (S69)) (A0_1 : Option Addr) (c0_1 : Nat) (l0_1 : List ByteArray) (A0_2 : Option Addr) (c0_2 : Nat) (l0_2 : List (S40)) (a1 : ByteArray) (r : Int) (w : World) (hr0_0 : Kd.C k69 w A0_0 l0_0.length l0_0) (hc0_0 : l0_0.length ≤ c0_0) (hr0_1 : Kd.C Kd.string w A0_1 l0_1.length l0_1) (hc0_1 : l0_1.length ≤ c0_1) (hr0_2 : Kd.C k40 w A0_2 l0_2.length l0_2) (hc0_2 : l0_2.length ≤ c0_2) (h : impl_belayOf.f l0_0 l0_1 l0_2 a1 = some r) :
 Calls Try.prog 57 #[.agg #[.slice A0_0 l0_0.length c0_0, .slice A0_1 l0_1.length c0_1, .slice A0_2 l0_2.length c0_2], .string a1] w fun e w' => e = .returned (.int .i64 r) ∧ Below w.heap.size w w' := by
 unfold impl_belayOf.f at h
 split at h
 ·rename_i hn
  obtain rfl := Option.some.inj h
  exact impl_belayOf.go A0_0 c0_0 l0_0 A0_1 c0_1 l0_1 A0_2 c0_2 l0_2 a1 w hr0_2 hn
 ·cases h

/-! ### impl_addBelay: function 47, by hand -/
set_option maxHeartbeats 8000000 in
set_option maxRecDepth 100000 in
theorem addBelay_go (w0 w : World) (g : Nat) (v1 v2 v3 : Value) (R : List S69) (L : List ByteArray) (B : List S40) (b : S40) (t o a : Int) (b2 b3 : Bool) (HI : RigAt w0 w g v1 v2 v3 R L B) (hl : B.length ≤ 1048576) (hneg : t < 0 → t = -1)
  (hT : ∀ A1 c1 A2 c2 A3 c3 w, Kd.C k69 w A1 R.length R → R.length ≤ c1 → Kd.C Kd.string w A2 L.length L → L.length ≤ c2 → Kd.C k40 w A3 B.length B → B.length ≤ c3 → Calls Try.prog 63 #[.agg #[.slice A1 R.length c1, .slice A2 L.length c2, .slice A3 B.length c3], .string b.f1] w fun e w' => e = .returned (.int .i64 t) ∧ Below w.heap.size w w')
  (hE : ∀ A c w, Kd.C Kd.string w A L.length L → L.length ≤ c → Calls Try.prog 56 #[.slice A L.length c, .string b.f0] w fun e w' => e = .returned (.bool b2) ∧ Drawn0 w w')
  (hW : ∀ A1 c1 A2 c2 A3 c3 w, Kd.C k69 w A1 R.length R → R.length ≤ c1 → Kd.C Kd.string w A2 L.length L → L.length ≤ c2 → Kd.C k40 w A3 B.length B → B.length ≤ c3 → Calls Try.prog 53 #[.agg #[.slice A1 R.length c1, .slice A2 L.length c2, .slice A3 B.length c3], .string b.f1, .int .i64 b.f2] w fun e w' => e = .returned (.bool b3) ∧ Below w.heap.size w w')
  (hO : ∀ A1 c1 A2 c2 A3 c3 w, Kd.C k69 w A1 R.length R → R.length ≤ c1 → Kd.C Kd.string w A2 L.length L → L.length ≤ c2 → Kd.C k40 w A3 B.length B → B.length ≤ c3 → Calls Try.prog 57 #[.agg #[.slice A1 R.length c1, .slice A2 L.length c2, .slice A3 B.length c3], .string b.f0] w fun e w' => e = .returned (.int .i64 o) ∧ Below w.heap.size w w')
  (hA : ∀ A1 c1 A2 c2 A3 c3 w, Kd.C k69 w A1 R.length R → R.length ≤ c1 → Kd.C Kd.string w A2 L.length L → L.length ≤ c2 → Kd.C k40 w A3 B.length B → B.length ≤ c3 → Calls Try.prog 54 #[.agg #[.slice A1 R.length c1, .slice A2 L.length c2, .slice A3 B.length c3], .string b.f1, .int .i64 b.f2] w fun e w' => e = .returned (.int .i64 a) ∧ Below w.heap.size w w') :
  Calls Try.prog 47 #[.pointer (some ⟨g, 0, none⟩), .agg #[.string b.f0, .string b.f1, .int .i64 b.f2]] w fun e w' => ∃ v3', e = .returned (.int .i64 (addBelayN t b2 b3 o a)) ∧ RigAt w0 w' g v1 v2 v3' R L (addBelayB t b2 b3 o a B b) := by
 have HI0 := Aside0.mk HI
 have HL := Aside0.mk hl
 have HT := Aside0.mk hT
 have HE := Aside0.mk hE
 have HW := Aside0.mk hW
 have HO := Aside0.mk hO
 have HA := Aside0.mk hA
 clear HI hl hT hE hW hO hA
 obtain ⟨nm, sd, pn⟩ := b
 obtain ⟨A1, c1, rfl⟩ := Kd.R_slice HI0.out.r1
 obtain ⟨A2, c2, rfl⟩ := Kd.R_slice HI0.out.r2
 obtain ⟨A3, c3, rfl⟩ := Kd.R_slice HI0.out.r3
 show Calls Try.prog 47 #[.pointer (some ⟨g, 0, none⟩), .agg #[.string nm, .string sd, .int .i64 pn]] w fun e w' => ∃ v3', e = .returned (.int .i64 (addBelayN t b2 b3 o a)) ∧ RigAt w0 w' g _ _ v3' R L (addBelayB t b2 b3 o a B ⟨nm, sd, pn⟩)
 by_cases ht : t < 0
 ·obtain rfl := hneg ht
  clear ht hneg
  go_enter Try.func47, Try.ntmps47
  go_wp2_with (first | ((with_reducible refine gate_dst (N := 3) rfl ?_); refine box_event ?hg (N := 3) ?hd (cs := #[.string nm, .string sd, .int .i64 pn]) (t := 40) ?hr ?_; (case hd => rfl); (case hg => rfl); (case hr => first | (go_simp; done) | (go_simp; rfl)); intro gb hg w1 hbox hb; have n0_ := Aside0.mk (HI0.out.later hb); have n1_ := Aside0.mk hbox; clear HI0 hbox hb hg; have HI0 := n0_; have BR := n1_; clear n0_ n1_; have BX := Aside0.mk HI0.out.box; obtain ⟨hx0, hx1, hx2, hy0, hy1, hy2⟩ := cz3 BX; clear BX; obtain ⟨hr0, hr1, hr2, hs0, hs1, hs2⟩ := cz3 BR) | (go_at_call 63; (with_reducible refine (HT.out A1 c1 A2 c2 A3 c3 _ (Kd.R_reads' HI0.out.r1).2.2 (Kd.R_reads' HI0.out.r1).2.1 (Kd.R_reads' HI0.out.r2).2.2 (Kd.R_reads' HI0.out.r2).2.1 (Kd.R_reads' HI0.out.r3).2.2 (Kd.R_reads' HI0.out.r3).2.1).mono ?_); rintro e w2 ⟨rfl, hb⟩; clear hr0 hr1 hr2 hs0 hs1 hs2 hx0 hx1 hx2 hy0 hy1 hy2; have n0_ := Aside0.mk (HI0.out.later hb); have n1_ := Aside0.mk (blk_below BR.out hb); clear HI0 BR hb; have HI0 := n0_; have BR := n1_; clear n0_ n1_; have BX := Aside0.mk HI0.out.box; obtain ⟨hx0, hx1, hx2, hy0, hy1, hy2⟩ := cz3 BX; clear BX; obtain ⟨hr0, hr1, hr2, hs0, hs1, hs2⟩ := cz3 BR) | (go_at_call 56; (with_reducible refine (HE.out A2 c2 _ (Kd.R_reads' HI0.out.r2).2.2 (Kd.R_reads' HI0.out.r2).2.1).mono ?_); rintro e w2 ⟨rfl, hd⟩; obtain ⟨nd, rfl⟩ := hd; clear hr0 hr1 hr2 hs0 hs1 hs2 hx0 hx1 hx2 hy0 hy1 hy2; have n0_ := Aside0.mk (HI0.out.drawn ⟨⟨nd, rfl⟩⟩); have n1_ := Aside0.mk (blk_drewN BR.out nd); clear HI0 BR; have HI0 := n0_; have BR := n1_; clear n0_ n1_; generalize World.drewN _ nd = w2 at HI0 BR ⊢; have BX := Aside0.mk HI0.out.box; obtain ⟨hx0, hx1, hx2, hy0, hy1, hy2⟩ := cz3 BX; clear BX; obtain ⟨hr0, hr1, hr2, hs0, hs1, hs2⟩ := cz3 BR) | (go_at_call 53; (with_reducible refine (HW.out A1 c1 A2 c2 A3 c3 _ (Kd.R_reads' HI0.out.r1).2.2 (Kd.R_reads' HI0.out.r1).2.1 (Kd.R_reads' HI0.out.r2).2.2 (Kd.R_reads' HI0.out.r2).2.1 (Kd.R_reads' HI0.out.r3).2.2 (Kd.R_reads' HI0.out.r3).2.1).mono ?_); rintro e w2 ⟨rfl, hb⟩; clear hr0 hr1 hr2 hs0 hs1 hs2 hx0 hx1 hx2 hy0 hy1 hy2; have n0_ := Aside0.mk (HI0.out.later hb); have n1_ := Aside0.mk (blk_below BR.out hb); clear HI0 BR hb; have HI0 := n0_; have BR := n1_; clear n0_ n1_; have BX := Aside0.mk HI0.out.box; obtain ⟨hx0, hx1, hx2, hy0, hy1, hy2⟩ := cz3 BX; clear BX; obtain ⟨hr0, hr1, hr2, hs0, hs1, hs2⟩ := cz3 BR) | (go_at_call 57; (with_reducible refine (HO.out A1 c1 A2 c2 A3 c3 _ (Kd.R_reads' HI0.out.r1).2.2 (Kd.R_reads' HI0.out.r1).2.1 (Kd.R_reads' HI0.out.r2).2.2 (Kd.R_reads' HI0.out.r2).2.1 (Kd.R_reads' HI0.out.r3).2.2 (Kd.R_reads' HI0.out.r3).2.1).mono ?_); rintro e w2 ⟨rfl, hb⟩; clear hr0 hr1 hr2 hs0 hs1 hs2 hx0 hx1 hx2 hy0 hy1 hy2; have n0_ := Aside0.mk (HI0.out.later hb); have n1_ := Aside0.mk (blk_below BR.out hb); clear HI0 BR hb; have HI0 := n0_; have BR := n1_; clear n0_ n1_; have BX := Aside0.mk HI0.out.box; obtain ⟨hx0, hx1, hx2, hy0, hy1, hy2⟩ := cz3 BX; clear BX; obtain ⟨hr0, hr1, hr2, hs0, hs1, hs2⟩ := cz3 BR) | (go_at_call 54; (with_reducible refine (HA.out A1 c1 A2 c2 A3 c3 _ (Kd.R_reads' HI0.out.r1).2.2 (Kd.R_reads' HI0.out.r1).2.1 (Kd.R_reads' HI0.out.r2).2.2 (Kd.R_reads' HI0.out.r2).2.1 (Kd.R_reads' HI0.out.r3).2.2 (Kd.R_reads' HI0.out.r3).2.1).mono ?_); rintro e w2 ⟨rfl, hb⟩; clear hr0 hr1 hr2 hs0 hs1 hs2 hx0 hx1 hx2 hy0 hy1 hy2; have n0_ := Aside0.mk (HI0.out.later hb); have n1_ := Aside0.mk (blk_below BR.out hb); clear HI0 BR hb; have HI0 := n0_; have BR := n1_; clear n0_ n1_; have BX := Aside0.mk HI0.out.box; obtain ⟨hx0, hx1, hx2, hy0, hy1, hy2⟩ := cz3 BX; clear BX; obtain ⟨hr0, hr1, hr2, hs0, hs1, hs2⟩ := cz3 BR))
  refine wp_region_held_drew (S := (fun w' : World => w'.cell? ⟨g, 0, none⟩ = some (.slice A1 R.length c1) ∧ w'.cell? ⟨g, 1, none⟩ = some (.slice A2 L.length c2) ∧ w'.cell? ⟨g, 2, none⟩ = some (.slice A3 B.length c3) ∧ w'.cell? ⟨gb, 0, none⟩ = some (.string nm) ∧ w'.cell? ⟨gb, 1, none⟩ = some (.string sd) ∧ w'.cell? ⟨gb, 2, none⟩ = some (.int .i64 pn))) (by kernel_rfl) (by exact ⟨hx0, hx1, hx2, hr0, hr1, hr2⟩) (fun hHeld => ?_)
  refine wpAnyH_take (i := 0) (oi := _) (v := ?_) rfl (by kernel_rfl) (by kernel_rfl) (by kernel_rfl) (fun _ _ _ h => h) (Or.inl ⟨by rfl, ?_⟩) (by assumption) ?_
  rotate_left 1
  ·(intro w hSw; (try dsimp only at hSw); go_simp; try with_reducible rfl)
  (try simp only [Act.put, List.setIfInBounds_toArray, List.set_cons_zero, List.set_cons_succ, List.getElem_toArray, List.getElem_cons_succ, List.getElem_cons_zero])
  refine wpAnyH_take (i := 1) (oi := _) (v := ?_) rfl (by kernel_rfl) (by kernel_rfl) (by kernel_rfl) (fun _ _ _ h => h) (Or.inl ⟨by rfl, ?_⟩) (by assumption) ?_
  rotate_left 1
  ·(intro w hSw; (try dsimp only at hSw); go_simp; try with_reducible rfl)
  (try simp only [Act.put, List.setIfInBounds_toArray, List.set_cons_zero, List.set_cons_succ, List.getElem_toArray, List.getElem_cons_succ, List.getElem_cons_zero])
  refine wpAnyH_take (i := 2) (oi := _) (v := ?_) rfl (by kernel_rfl) (by kernel_rfl) (by kernel_rfl) (fun _ _ _ h => h) (Or.inl ⟨by rfl, ?_⟩) (by assumption) ?_
  rotate_left 1
  ·(intro w hSw; (try dsimp only at hSw); go_simp; try with_reducible rfl)
  (try simp only [Act.put, List.setIfInBounds_toArray, List.set_cons_zero, List.set_cons_succ, List.getElem_toArray, List.getElem_cons_succ, List.getElem_cons_zero])
  refine wpAnyH_take (i := 3) (oi := _) (v := ?_) rfl (by kernel_rfl) (by kernel_rfl) (by kernel_rfl) (fun _ _ _ h => h) (Or.inl ⟨by rfl, ?_⟩) (by assumption) ?_
  rotate_left 1
  ·(intro w hSw; (try dsimp only at hSw); go_simp; try with_reducible rfl)
  (try simp only [Act.put, List.setIfInBounds_toArray, List.set_cons_zero, List.set_cons_succ, List.getElem_toArray, List.getElem_cons_succ, List.getElem_cons_zero])
  refine wpAnyH_take (i := 4) (oi := _) (v := ?_) rfl (by kernel_rfl) (by kernel_rfl) (by kernel_rfl) (fun _ _ _ h => h) (Or.inl ⟨by rfl, ?_⟩) (by assumption) ?_
  rotate_left 1
  ·(intro w hSw; (try dsimp only at hSw); go_simp; try with_reducible rfl)
  (try simp only [Act.put, List.setIfInBounds_toArray, List.set_cons_zero, List.set_cons_succ, List.getElem_toArray, List.getElem_cons_succ, List.getElem_cons_zero])
  refine wpAnyH_ready (rs := [5]) (by kernel_rfl) (by simp) ?_
  refine AllReadyH.cons rfl (fun K hK => ?_) AllReadyH.nil
  go_simp
  go_wp2_with (first | (go_at_call 63; (with_reducible refine (HT.out A1 c1 A2 c2 A3 c3 _ (Kd.R_reads' HI0.out.drew.r1).2.2 (Kd.R_reads' HI0.out.drew.r1).2.1 (Kd.R_reads' HI0.out.drew.r2).2.2 (Kd.R_reads' HI0.out.drew.r2).2.1 (Kd.R_reads' HI0.out.drew.r3).2.2 (Kd.R_reads' HI0.out.drew.r3).2.1).mono ?_); rintro e w2 ⟨rfl, hb⟩; clear hr0 hr1 hr2 hs0 hs1 hs2 hx0 hx1 hx2 hy0 hy1 hy2; have n0_ := Aside0.mk (HI0.out.drew.later hb); have n1_ := Aside0.mk (blk_below (blk_drew BR.out) hb); clear HI0 BR hb; have HI0 := n0_; have BR := n1_; clear n0_ n1_; have BX := Aside0.mk HI0.out.box; obtain ⟨hx0, hx1, hx2, hy0, hy1, hy2⟩ := cz3 BX; clear BX; obtain ⟨hr0, hr1, hr2, hs0, hs1, hs2⟩ := cz3 BR) | (go_at_call 56; (with_reducible refine (HE.out A2 c2 _ (Kd.R_reads' HI0.out.r2).2.2 (Kd.R_reads' HI0.out.r2).2.1).mono ?_); rintro e w2 ⟨rfl, hd⟩; obtain ⟨nd, rfl⟩ := hd; clear hr0 hr1 hr2 hs0 hs1 hs2 hx0 hx1 hx2 hy0 hy1 hy2; have n0_ := Aside0.mk (HI0.out.drawn ⟨⟨nd, rfl⟩⟩); have n1_ := Aside0.mk (blk_drewN BR.out nd); clear HI0 BR; have HI0 := n0_; have BR := n1_; clear n0_ n1_; generalize World.drewN _ nd = w2 at HI0 BR ⊢; have BX := Aside0.mk HI0.out.box; obtain ⟨hx0, hx1, hx2, hy0, hy1, hy2⟩ := cz3 BX; clear BX; obtain ⟨hr0, hr1, hr2, hs0, hs1, hs2⟩ := cz3 BR) | (go_at_call 53; (with_reducible refine (HW.out A1 c1 A2 c2 A3 c3 _ (Kd.R_reads' HI0.out.r1).2.2 (Kd.R_reads' HI0.out.r1).2.1 (Kd.R_reads' HI0.out.r2).2.2 (Kd.R_reads' HI0.out.r2).2.1 (Kd.R_reads' HI0.out.r3).2.2 (Kd.R_reads' HI0.out.r3).2.1).mono ?_); rintro e w2 ⟨rfl, hb⟩; clear hr0 hr1 hr2 hs0 hs1 hs2 hx0 hx1 hx2 hy0 hy1 hy2; have n0_ := Aside0.mk (HI0.out.later hb); have n1_ := Aside0.mk (blk_below BR.out hb); clear HI0 BR hb; have HI0 := n0_; have BR := n1_; clear n0_ n1_; have BX := Aside0.mk HI0.out.box; obtain ⟨hx0, hx1, hx2, hy0, hy1, hy2⟩ := cz3 BX; clear BX; obtain ⟨hr0, hr1, hr2, hs0, hs1, hs2⟩ := cz3 BR) | (go_at_call 57; (with_reducible refine (HO.out A1 c1 A2 c2 A3 c3 _ (Kd.R_reads' HI0.out.r1).2.2 (Kd.R_reads' HI0.out.r1).2.1 (Kd.R_reads' HI0.out.r2).2.2 (Kd.R_reads' HI0.out.r2).2.1 (Kd.R_reads' HI0.out.r3).2.2 (Kd.R_reads' HI0.out.r3).2.1).mono ?_); rintro e w2 ⟨rfl, hb⟩; clear hr0 hr1 hr2 hs0 hs1 hs2 hx0 hx1 hx2 hy0 hy1 hy2; have n0_ := Aside0.mk (HI0.out.later hb); have n1_ := Aside0.mk (blk_below BR.out hb); clear HI0 BR hb; have HI0 := n0_; have BR := n1_; clear n0_ n1_; have BX := Aside0.mk HI0.out.box; obtain ⟨hx0, hx1, hx2, hy0, hy1, hy2⟩ := cz3 BX; clear BX; obtain ⟨hr0, hr1, hr2, hs0, hs1, hs2⟩ := cz3 BR) | (go_at_call 54; (with_reducible refine (HA.out A1 c1 A2 c2 A3 c3 _ (Kd.R_reads' HI0.out.r1).2.2 (Kd.R_reads' HI0.out.r1).2.1 (Kd.R_reads' HI0.out.r2).2.2 (Kd.R_reads' HI0.out.r2).2.1 (Kd.R_reads' HI0.out.r3).2.2 (Kd.R_reads' HI0.out.r3).2.1).mono ?_); rintro e w2 ⟨rfl, hb⟩; clear hr0 hr1 hr2 hs0 hs1 hs2 hx0 hx1 hx2 hy0 hy1 hy2; have n0_ := Aside0.mk (HI0.out.later hb); have n1_ := Aside0.mk (blk_below BR.out hb); clear HI0 BR hb; have HI0 := n0_; have BR := n1_; clear n0_ n1_; have BX := Aside0.mk HI0.out.box; obtain ⟨hx0, hx1, hx2, hy0, hy1, hy2⟩ := cz3 BX; clear BX; obtain ⟨hr0, hr1, hr2, hs0, hs1, hs2⟩ := cz3 BR))
  refine hK.out _ _ (by exact ⟨hx0, hx1, hx2, hr0, hr1, hr2⟩) (fun hHeld2 => ?_)
  clear hK K hHeld
  (try simp only [Act.put, List.setIfInBounds_toArray, List.set_cons_zero, List.set_cons_succ, List.getElem_toArray, List.getElem_cons_succ, List.getElem_cons_zero])
  refine wpAnyH_take (i := 6) (oi := _) (v := ?_) rfl (by kernel_rfl) (by kernel_rfl) (by kernel_rfl) (fun _ _ _ h => h) (Or.inl ⟨by rfl, ?_⟩) (by assumption) ?_
  rotate_left 1
  ·(intro w hSw; (try dsimp only at hSw); go_simp; try with_reducible rfl)
  (try simp only [Act.put, List.setIfInBounds_toArray, List.set_cons_zero, List.set_cons_succ, List.getElem_toArray, List.getElem_cons_succ, List.getElem_cons_zero])
  refine wpAnyH_take (i := 7) (oi := _) (v := ?_) rfl (by kernel_rfl) (by kernel_rfl) (by kernel_rfl) (fun _ _ _ h => h) (Or.inl ⟨by rfl, ?_⟩) (by assumption) ?_
  rotate_left 1
  ·(intro w hSw; (try dsimp only at hSw); go_simp; try with_reducible rfl)
  (try simp only [Act.put, List.setIfInBounds_toArray, List.set_cons_zero, List.set_cons_succ, List.getElem_toArray, List.getElem_cons_succ, List.getElem_cons_zero])
  refine wpAnyH_take (i := 8) (oi := _) (v := undef) rfl (by kernel_rfl) (by kernel_rfl) (by kernel_rfl) (fun _ _ _ h => h) (Or.inr ⟨by rfl, rfl⟩) (by assumption) ?_
  (try simp only [Act.put, List.setIfInBounds_toArray, List.set_cons_zero, List.set_cons_succ, List.getElem_toArray, List.getElem_cons_succ, List.getElem_cons_zero])
  refine wpAnyH_take (i := 9) (oi := _) (v := undef) rfl (by kernel_rfl) (by kernel_rfl) (by kernel_rfl) (fun _ _ _ h => h) (Or.inr ⟨by rfl, rfl⟩) (by assumption) ?_
  (try simp only [Act.put, List.setIfInBounds_toArray, List.set_cons_zero, List.set_cons_succ, List.getElem_toArray, List.getElem_cons_succ, List.getElem_cons_zero])
  refine wpAnyH_take (i := 10) (oi := _) (v := undef) rfl (by kernel_rfl) (by kernel_rfl) (by kernel_rfl) (fun _ _ _ h => h) (Or.inr ⟨by rfl, rfl⟩) (by assumption) ?_
  (try simp only [Act.put, List.setIfInBounds_toArray, List.set_cons_zero, List.set_cons_succ, List.getElem_toArray, List.getElem_cons_succ, List.getElem_cons_zero])
  refine wpAnyH_take (i := 11) (oi := _) (v := undef) rfl (by kernel_rfl) (by kernel_rfl) (by kernel_rfl) (fun _ _ _ h => h) (Or.inr ⟨by rfl, rfl⟩) (by assumption) ?_
  (try simp only [Act.put, List.setIfInBounds_toArray, List.set_cons_zero, List.set_cons_succ, List.getElem_toArray, List.getElem_cons_succ, List.getElem_cons_zero])
  refine wpAnyH_take (i := 12) (oi := _) (v := undef) rfl (by kernel_rfl) (by kernel_rfl) (by kernel_rfl) (fun _ _ _ h => h) (Or.inr ⟨by rfl, rfl⟩) (by assumption) ?_
  (try simp only [Act.put, List.setIfInBounds_toArray, List.set_cons_zero, List.set_cons_succ, List.getElem_toArray, List.getElem_cons_succ, List.getElem_cons_zero])
  refine wpAnyH_take (i := 13) (oi := _) (v := undef) rfl (by kernel_rfl) (by kernel_rfl) (by kernel_rfl) (fun _ _ _ h => h) (Or.inr ⟨by rfl, rfl⟩) (by assumption) ?_
  (try simp only [Act.put, List.setIfInBounds_toArray, List.set_cons_zero, List.set_cons_succ, List.getElem_toArray, List.getElem_cons_succ, List.getElem_cons_zero])
  refine wpAnyH_take (i := 14) (oi := _) (v := undef) rfl (by kernel_rfl) (by kernel_rfl) (by kernel_rfl) (fun _ _ _ h => h) (Or.inr ⟨by rfl, rfl⟩) (by assumption) ?_
  (try simp only [Act.put, List.setIfInBounds_toArray, List.set_cons_zero, List.set_cons_succ, List.getElem_toArray, List.getElem_cons_succ, List.getElem_cons_zero])
  refine wpAnyH_take (i := 15) (oi := _) (v := undef) rfl (by kernel_rfl) (by kernel_rfl) (by kernel_rfl) (fun _ _ _ h => h) (Or.inr ⟨by rfl, rfl⟩) (by assumption) ?_
  (try simp only [Act.put, List.setIfInBounds_toArray, List.set_cons_zero, List.set_cons_succ, List.getElem_toArray, List.getElem_cons_succ, List.getElem_cons_zero])
  refine wpAnyH_take (i := 16) (oi := _) (v := ?_) rfl (by kernel_rfl) (by kernel_rfl) (by kernel_rfl) (fun _ _ _ h => h) (Or.inl ⟨by rfl, ?_⟩) (by assumption) ?_
  rotate_left 1
  ·(intro w hSw; (try dsimp only at hSw); go_simp; try with_reducible rfl)
  (try simp only [Act.put, List.setIfInBounds_toArray, List.set_cons_zero, List.set_cons_succ, List.getElem_toArray, List.getElem_cons_succ, List.getElem_cons_zero])
  refine wpAnyH_take (i := 17) (oi := _) (v := ?_) rfl (by kernel_rfl) (by kernel_rfl) (by kernel_rfl) (fun _ _ _ h => h) (Or.inl ⟨by rfl, ?_⟩) (by assumption) ?_
  rotate_left 1
  ·(intro w hSw; (try dsimp only at hSw); go_simp; try with_reducible rfl)
  (try simp only [Act.put, List.setIfInBounds_toArray, List.set_cons_zero, List.set_cons_succ, List.getElem_toArray, List.getElem_cons_succ, List.getElem_cons_zero])
  refine wpAnyH_done (by kernel_rfl) ?_ _
  all_goals
   go_wp2_with (first | ((with_reducible refine gate_dst (N := 3) rfl ?_); refine box_event ?hg (N := 3) ?hd (cs := #[.string nm, .string sd, .int .i64 pn]) (t := 40) ?hr ?_; (case hd => rfl); (case hg => rfl); (case hr => first | (go_simp; done) | (go_simp; rfl)); intro gb hg w1 hbox hb; have n0_ := Aside0.mk (HI0.out.later hb); have n1_ := Aside0.mk hbox; clear HI0 hbox hb hg; have HI0 := n0_; have BR := n1_; clear n0_ n1_; have BX := Aside0.mk HI0.out.box; obtain ⟨hx0, hx1, hx2, hy0, hy1, hy2⟩ := cz3 BX; clear BX; obtain ⟨hr0, hr1, hr2, hs0, hs1, hs2⟩ := cz3 BR) | (go_at_call 63; (with_reducible refine (HT.out A1 c1 A2 c2 A3 c3 _ (Kd.R_reads' HI0.out.r1).2.2 (Kd.R_reads' HI0.out.r1).2.1 (Kd.R_reads' HI0.out.r2).2.2 (Kd.R_reads' HI0.out.r2).2.1 (Kd.R_reads' HI0.out.r3).2.2 (Kd.R_reads' HI0.out.r3).2.1).mono ?_); rintro e w2 ⟨rfl, hb⟩; clear hr0 hr1 hr2 hs0 hs1 hs2 hx0 hx1 hx2 hy0 hy1 hy2; have n0_ := Aside0.mk (HI0.out.later hb); have n1_ := Aside0.mk (blk_below BR.out hb); clear HI0 BR hb; have HI0 := n0_; have BR := n1_; clear n0_ n1_; have BX := Aside0.mk HI0.out.box; obtain ⟨hx0, hx1, hx2, hy0, hy1, hy2⟩ := cz3 BX; clear BX; obtain ⟨hr0, hr1, hr2, hs0, hs1, hs2⟩ := cz3 BR) | (go_at_call 56; (with_reducible refine (HE.out A2 c2 _ (Kd.R_reads' HI0.out.r2).2.2 (Kd.R_reads' HI0.out.r2).2.1).mono ?_); rintro e w2 ⟨rfl, hd⟩; obtain ⟨nd, rfl⟩ := hd; clear hr0 hr1 hr2 hs0 hs1 hs2 hx0 hx1 hx2 hy0 hy1 hy2; have n0_ := Aside0.mk (HI0.out.drawn ⟨⟨nd, rfl⟩⟩); have n1_ := Aside0.mk (blk_drewN BR.out nd); clear HI0 BR; have HI0 := n0_; have BR := n1_; clear n0_ n1_; generalize World.drewN _ nd = w2 at HI0 BR ⊢; have BX := Aside0.mk HI0.out.box; obtain ⟨hx0, hx1, hx2, hy0, hy1, hy2⟩ := cz3 BX; clear BX; obtain ⟨hr0, hr1, hr2, hs0, hs1, hs2⟩ := cz3 BR) | (go_at_call 53; (with_reducible refine (HW.out A1 c1 A2 c2 A3 c3 _ (Kd.R_reads' HI0.out.r1).2.2 (Kd.R_reads' HI0.out.r1).2.1 (Kd.R_reads' HI0.out.r2).2.2 (Kd.R_reads' HI0.out.r2).2.1 (Kd.R_reads' HI0.out.r3).2.2 (Kd.R_reads' HI0.out.r3).2.1).mono ?_); rintro e w2 ⟨rfl, hb⟩; clear hr0 hr1 hr2 hs0 hs1 hs2 hx0 hx1 hx2 hy0 hy1 hy2; have n0_ := Aside0.mk (HI0.out.later hb); have n1_ := Aside0.mk (blk_below BR.out hb); clear HI0 BR hb; have HI0 := n0_; have BR := n1_; clear n0_ n1_; have BX := Aside0.mk HI0.out.box; obtain ⟨hx0, hx1, hx2, hy0, hy1, hy2⟩ := cz3 BX; clear BX; obtain ⟨hr0, hr1, hr2, hs0, hs1, hs2⟩ := cz3 BR) | (go_at_call 57; (with_reducible refine (HO.out A1 c1 A2 c2 A3 c3 _ (Kd.R_reads' HI0.out.r1).2.2 (Kd.R_reads' HI0.out.r1).2.1 (Kd.R_reads' HI0.out.r2).2.2 (Kd.R_reads' HI0.out.r2).2.1 (Kd.R_reads' HI0.out.r3).2.2 (Kd.R_reads' HI0.out.r3).2.1).mono ?_); rintro e w2 ⟨rfl, hb⟩; clear hr0 hr1 hr2 hs0 hs1 hs2 hx0 hx1 hx2 hy0 hy1 hy2; have n0_ := Aside0.mk (HI0.out.later hb); have n1_ := Aside0.mk (blk_below BR.out hb); clear HI0 BR hb; have HI0 := n0_; have BR := n1_; clear n0_ n1_; have BX := Aside0.mk HI0.out.box; obtain ⟨hx0, hx1, hx2, hy0, hy1, hy2⟩ := cz3 BX; clear BX; obtain ⟨hr0, hr1, hr2, hs0, hs1, hs2⟩ := cz3 BR) | (go_at_call 54; (with_reducible refine (HA.out A1 c1 A2 c2 A3 c3 _ (Kd.R_reads' HI0.out.r1).2.2 (Kd.R_reads' HI0.out.r1).2.1 (Kd.R_reads' HI0.out.r2).2.2 (Kd.R_reads' HI0.out.r2).2.1 (Kd.R_reads' HI0.out.r3).2.2 (Kd.R_reads' HI0.out.r3).2.1).mono ?_); rintro e w2 ⟨rfl, hb⟩; clear hr0 hr1 hr2 hs0 hs1 hs2 hx0 hx1 hx2 hy0 hy1 hy2; have n0_ := Aside0.mk (HI0.out.later hb); have n1_ := Aside0.mk (blk_below BR.out hb); clear HI0 BR hb; have HI0 := n0_; have BR := n1_; clear n0_ n1_; have BX := Aside0.mk HI0.out.box; obtain ⟨hx0, hx1, hx2, hy0, hy1, hy2⟩ := cz3 BX; clear BX; obtain ⟨hr0, hr1, hr2, hs0, hs1, hs2⟩ := cz3 BR))
   go_ret
   exact ⟨_, rfl, by simpa [addBelayB, addBelayN] using HI0.out⟩
 ·have ht0 : decide (t < 0) = false := decide_eq_false ht
  have HT0 := Aside0.mk (show 0 ≤ t by omega)
  clear ht hneg
  cases b2 with
  | false =>
   go_enter Try.func47, Try.ntmps47
   go_wp2_with (first | ((with_reducible refine gate_dst (N := 3) rfl ?_); refine box_event ?hg (N := 3) ?hd (cs := #[.string nm, .string sd, .int .i64 pn]) (t := 40) ?hr ?_; (case hd => rfl); (case hg => rfl); (case hr => first | (go_simp; done) | (go_simp; rfl)); intro gb hg w1 hbox hb; have n0_ := Aside0.mk (HI0.out.later hb); have n1_ := Aside0.mk hbox; clear HI0 hbox hb hg; have HI0 := n0_; have BR := n1_; clear n0_ n1_; have BX := Aside0.mk HI0.out.box; obtain ⟨hx0, hx1, hx2, hy0, hy1, hy2⟩ := cz3 BX; clear BX; obtain ⟨hr0, hr1, hr2, hs0, hs1, hs2⟩ := cz3 BR) | (go_at_call 63; (with_reducible refine (HT.out A1 c1 A2 c2 A3 c3 _ (Kd.R_reads' HI0.out.r1).2.2 (Kd.R_reads' HI0.out.r1).2.1 (Kd.R_reads' HI0.out.r2).2.2 (Kd.R_reads' HI0.out.r2).2.1 (Kd.R_reads' HI0.out.r3).2.2 (Kd.R_reads' HI0.out.r3).2.1).mono ?_); rintro e w2 ⟨rfl, hb⟩; clear hr0 hr1 hr2 hs0 hs1 hs2 hx0 hx1 hx2 hy0 hy1 hy2; have n0_ := Aside0.mk (HI0.out.later hb); have n1_ := Aside0.mk (blk_below BR.out hb); clear HI0 BR hb; have HI0 := n0_; have BR := n1_; clear n0_ n1_; have BX := Aside0.mk HI0.out.box; obtain ⟨hx0, hx1, hx2, hy0, hy1, hy2⟩ := cz3 BX; clear BX; obtain ⟨hr0, hr1, hr2, hs0, hs1, hs2⟩ := cz3 BR) | (go_at_call 56; (with_reducible refine (HE.out A2 c2 _ (Kd.R_reads' HI0.out.r2).2.2 (Kd.R_reads' HI0.out.r2).2.1).mono ?_); rintro e w2 ⟨rfl, hd⟩; obtain ⟨nd, rfl⟩ := hd; clear hr0 hr1 hr2 hs0 hs1 hs2 hx0 hx1 hx2 hy0 hy1 hy2; have n0_ := Aside0.mk (HI0.out.drawn ⟨⟨nd, rfl⟩⟩); have n1_ := Aside0.mk (blk_drewN BR.out nd); clear HI0 BR; have HI0 := n0_; have BR := n1_; clear n0_ n1_; generalize World.drewN _ nd = w2 at HI0 BR ⊢; have BX := Aside0.mk HI0.out.box; obtain ⟨hx0, hx1, hx2, hy0, hy1, hy2⟩ := cz3 BX; clear BX; obtain ⟨hr0, hr1, hr2, hs0, hs1, hs2⟩ := cz3 BR) | (go_at_call 53; (with_reducible refine (HW.out A1 c1 A2 c2 A3 c3 _ (Kd.R_reads' HI0.out.r1).2.2 (Kd.R_reads' HI0.out.r1).2.1 (Kd.R_reads' HI0.out.r2).2.2 (Kd.R_reads' HI0.out.r2).2.1 (Kd.R_reads' HI0.out.r3).2.2 (Kd.R_reads' HI0.out.r3).2.1).mono ?_); rintro e w2 ⟨rfl, hb⟩; clear hr0 hr1 hr2 hs0 hs1 hs2 hx0 hx1 hx2 hy0 hy1 hy2; have n0_ := Aside0.mk (HI0.out.later hb); have n1_ := Aside0.mk (blk_below BR.out hb); clear HI0 BR hb; have HI0 := n0_; have BR := n1_; clear n0_ n1_; have BX := Aside0.mk HI0.out.box; obtain ⟨hx0, hx1, hx2, hy0, hy1, hy2⟩ := cz3 BX; clear BX; obtain ⟨hr0, hr1, hr2, hs0, hs1, hs2⟩ := cz3 BR) | (go_at_call 57; (with_reducible refine (HO.out A1 c1 A2 c2 A3 c3 _ (Kd.R_reads' HI0.out.r1).2.2 (Kd.R_reads' HI0.out.r1).2.1 (Kd.R_reads' HI0.out.r2).2.2 (Kd.R_reads' HI0.out.r2).2.1 (Kd.R_reads' HI0.out.r3).2.2 (Kd.R_reads' HI0.out.r3).2.1).mono ?_); rintro e w2 ⟨rfl, hb⟩; clear hr0 hr1 hr2 hs0 hs1 hs2 hx0 hx1 hx2 hy0 hy1 hy2; have n0_ := Aside0.mk (HI0.out.later hb); have n1_ := Aside0.mk (blk_below BR.out hb); clear HI0 BR hb; have HI0 := n0_; have BR := n1_; clear n0_ n1_; have BX := Aside0.mk HI0.out.box; obtain ⟨hx0, hx1, hx2, hy0, hy1, hy2⟩ := cz3 BX; clear BX; obtain ⟨hr0, hr1, hr2, hs0, hs1, hs2⟩ := cz3 BR) | (go_at_call 54; (with_reducible refine (HA.out A1 c1 A2 c2 A3 c3 _ (Kd.R_reads' HI0.out.r1).2.2 (Kd.R_reads' HI0.out.r1).2.1 (Kd.R_reads' HI0.out.r2).2.2 (Kd.R_reads' HI0.out.r2).2.1 (Kd.R_reads' HI0.out.r3).2.2 (Kd.R_reads' HI0.out.r3).2.1).mono ?_); rintro e w2 ⟨rfl, hb⟩; clear hr0 hr1 hr2 hs0 hs1 hs2 hx0 hx1 hx2 hy0 hy1 hy2; have n0_ := Aside0.mk (HI0.out.later hb); have n1_ := Aside0.mk (blk_below BR.out hb); clear HI0 BR hb; have HI0 := n0_; have BR := n1_; clear n0_ n1_; have BX := Aside0.mk HI0.out.box; obtain ⟨hx0, hx1, hx2, hy0, hy1, hy2⟩ := cz3 BX; clear BX; obtain ⟨hr0, hr1, hr2, hs0, hs1, hs2⟩ := cz3 BR))
   (first | go_region_held3 (fun w' : World => w'.cell? ⟨g, 0, none⟩ = some (.slice A1 R.length c1) ∧ w'.cell? ⟨g, 1, none⟩ = some (.slice A2 L.length c2) ∧ w'.cell? ⟨g, 2, none⟩ = some (.slice A3 B.length c3) ∧ w'.cell? ⟨gb, 0, none⟩ = some (.string nm) ∧ w'.cell? ⟨gb, 1, none⟩ = some (.string sd) ∧ w'.cell? ⟨gb, 2, none⟩ = some (.int .i64 pn)) (first | exact ⟨hx0, hx1, hx2, hr0, hr1, hr2⟩) (first | (go_at_call 63; (with_reducible refine (HT.out A1 c1 A2 c2 A3 c3 _ (Kd.R_reads' HI0.out.drew.r1).2.2 (Kd.R_reads' HI0.out.drew.r1).2.1 (Kd.R_reads' HI0.out.drew.r2).2.2 (Kd.R_reads' HI0.out.drew.r2).2.1 (Kd.R_reads' HI0.out.drew.r3).2.2 (Kd.R_reads' HI0.out.drew.r3).2.1).mono ?_); rintro e w2 ⟨rfl, hb⟩; clear hr0 hr1 hr2 hs0 hs1 hs2 hx0 hx1 hx2 hy0 hy1 hy2; have n0_ := Aside0.mk (HI0.out.drew.later hb); have n1_ := Aside0.mk (blk_below (blk_drew BR.out) hb); clear HI0 BR hb; have HI0 := n0_; have BR := n1_; clear n0_ n1_; have BX := Aside0.mk HI0.out.box; obtain ⟨hx0, hx1, hx2, hy0, hy1, hy2⟩ := cz3 BX; clear BX; obtain ⟨hr0, hr1, hr2, hs0, hs1, hs2⟩ := cz3 BR) | (go_at_call 56; (with_reducible refine (HE.out A2 c2 _ (Kd.R_reads' HI0.out.r2).2.2 (Kd.R_reads' HI0.out.r2).2.1).mono ?_); rintro e w2 ⟨rfl, hd⟩; obtain ⟨nd, rfl⟩ := hd; clear hr0 hr1 hr2 hs0 hs1 hs2 hx0 hx1 hx2 hy0 hy1 hy2; have n0_ := Aside0.mk (HI0.out.drawn ⟨⟨nd, rfl⟩⟩); have n1_ := Aside0.mk (blk_drewN BR.out nd); clear HI0 BR; have HI0 := n0_; have BR := n1_; clear n0_ n1_; generalize World.drewN _ nd = w2 at HI0 BR ⊢; have BX := Aside0.mk HI0.out.box; obtain ⟨hx0, hx1, hx2, hy0, hy1, hy2⟩ := cz3 BX; clear BX; obtain ⟨hr0, hr1, hr2, hs0, hs1, hs2⟩ := cz3 BR) | (go_at_call 53; (with_reducible refine (HW.out A1 c1 A2 c2 A3 c3 _ (Kd.R_reads' HI0.out.r1).2.2 (Kd.R_reads' HI0.out.r1).2.1 (Kd.R_reads' HI0.out.r2).2.2 (Kd.R_reads' HI0.out.r2).2.1 (Kd.R_reads' HI0.out.r3).2.2 (Kd.R_reads' HI0.out.r3).2.1).mono ?_); rintro e w2 ⟨rfl, hb⟩; clear hr0 hr1 hr2 hs0 hs1 hs2 hx0 hx1 hx2 hy0 hy1 hy2; have n0_ := Aside0.mk (HI0.out.later hb); have n1_ := Aside0.mk (blk_below BR.out hb); clear HI0 BR hb; have HI0 := n0_; have BR := n1_; clear n0_ n1_; have BX := Aside0.mk HI0.out.box; obtain ⟨hx0, hx1, hx2, hy0, hy1, hy2⟩ := cz3 BX; clear BX; obtain ⟨hr0, hr1, hr2, hs0, hs1, hs2⟩ := cz3 BR) | (go_at_call 57; (with_reducible refine (HO.out A1 c1 A2 c2 A3 c3 _ (Kd.R_reads' HI0.out.r1).2.2 (Kd.R_reads' HI0.out.r1).2.1 (Kd.R_reads' HI0.out.r2).2.2 (Kd.R_reads' HI0.out.r2).2.1 (Kd.R_reads' HI0.out.r3).2.2 (Kd.R_reads' HI0.out.r3).2.1).mono ?_); rintro e w2 ⟨rfl, hb⟩; clear hr0 hr1 hr2 hs0 hs1 hs2 hx0 hx1 hx2 hy0 hy1 hy2; have n0_ := Aside0.mk (HI0.out.later hb); have n1_ := Aside0.mk (blk_below BR.out hb); clear HI0 BR hb; have HI0 := n0_; have BR := n1_; clear n0_ n1_; have BX := Aside0.mk HI0.out.box; obtain ⟨hx0, hx1, hx2, hy0, hy1, hy2⟩ := cz3 BX; clear BX; obtain ⟨hr0, hr1, hr2, hs0, hs1, hs2⟩ := cz3 BR) | (go_at_call 54; (with_reducible refine (HA.out A1 c1 A2 c2 A3 c3 _ (Kd.R_reads' HI0.out.r1).2.2 (Kd.R_reads' HI0.out.r1).2.1 (Kd.R_reads' HI0.out.r2).2.2 (Kd.R_reads' HI0.out.r2).2.1 (Kd.R_reads' HI0.out.r3).2.2 (Kd.R_reads' HI0.out.r3).2.1).mono ?_); rintro e w2 ⟨rfl, hb⟩; clear hr0 hr1 hr2 hs0 hs1 hs2 hx0 hx1 hx2 hy0 hy1 hy2; have n0_ := Aside0.mk (HI0.out.later hb); have n1_ := Aside0.mk (blk_below BR.out hb); clear HI0 BR hb; have HI0 := n0_; have BR := n1_; clear n0_ n1_; have BX := Aside0.mk HI0.out.box; obtain ⟨hx0, hx1, hx2, hy0, hy1, hy2⟩ := cz3 BX; clear BX; obtain ⟨hr0, hr1, hr2, hs0, hs1, hs2⟩ := cz3 BR)) | fail)
   all_goals
    go_wp2_with (first | ((with_reducible refine gate_dst (N := 3) rfl ?_); refine box_event ?hg (N := 3) ?hd (cs := #[.string nm, .string sd, .int .i64 pn]) (t := 40) ?hr ?_; (case hd => rfl); (case hg => rfl); (case hr => first | (go_simp; done) | (go_simp; rfl)); intro gb hg w1 hbox hb; have n0_ := Aside0.mk (HI0.out.later hb); have n1_ := Aside0.mk hbox; clear HI0 hbox hb hg; have HI0 := n0_; have BR := n1_; clear n0_ n1_; have BX := Aside0.mk HI0.out.box; obtain ⟨hx0, hx1, hx2, hy0, hy1, hy2⟩ := cz3 BX; clear BX; obtain ⟨hr0, hr1, hr2, hs0, hs1, hs2⟩ := cz3 BR) | (go_at_call 63; (with_reducible refine (HT.out A1 c1 A2 c2 A3 c3 _ (Kd.R_reads' HI0.out.r1).2.2 (Kd.R_reads' HI0.out.r1).2.1 (Kd.R_reads' HI0.out.r2).2.2 (Kd.R_reads' HI0.out.r2).2.1 (Kd.R_reads' HI0.out.r3).2.2 (Kd.R_reads' HI0.out.r3).2.1).mono ?_); rintro e w2 ⟨rfl, hb⟩; clear hr0 hr1 hr2 hs0 hs1 hs2 hx0 hx1 hx2 hy0 hy1 hy2; have n0_ := Aside0.mk (HI0.out.later hb); have n1_ := Aside0.mk (blk_below BR.out hb); clear HI0 BR hb; have HI0 := n0_; have BR := n1_; clear n0_ n1_; have BX := Aside0.mk HI0.out.box; obtain ⟨hx0, hx1, hx2, hy0, hy1, hy2⟩ := cz3 BX; clear BX; obtain ⟨hr0, hr1, hr2, hs0, hs1, hs2⟩ := cz3 BR) | (go_at_call 56; (with_reducible refine (HE.out A2 c2 _ (Kd.R_reads' HI0.out.r2).2.2 (Kd.R_reads' HI0.out.r2).2.1).mono ?_); rintro e w2 ⟨rfl, hd⟩; obtain ⟨nd, rfl⟩ := hd; clear hr0 hr1 hr2 hs0 hs1 hs2 hx0 hx1 hx2 hy0 hy1 hy2; have n0_ := Aside0.mk (HI0.out.drawn ⟨⟨nd, rfl⟩⟩); have n1_ := Aside0.mk (blk_drewN BR.out nd); clear HI0 BR; have HI0 := n0_; have BR := n1_; clear n0_ n1_; generalize World.drewN _ nd = w2 at HI0 BR ⊢; have BX := Aside0.mk HI0.out.box; obtain ⟨hx0, hx1, hx2, hy0, hy1, hy2⟩ := cz3 BX; clear BX; obtain ⟨hr0, hr1, hr2, hs0, hs1, hs2⟩ := cz3 BR) | (go_at_call 53; (with_reducible refine (HW.out A1 c1 A2 c2 A3 c3 _ (Kd.R_reads' HI0.out.r1).2.2 (Kd.R_reads' HI0.out.r1).2.1 (Kd.R_reads' HI0.out.r2).2.2 (Kd.R_reads' HI0.out.r2).2.1 (Kd.R_reads' HI0.out.r3).2.2 (Kd.R_reads' HI0.out.r3).2.1).mono ?_); rintro e w2 ⟨rfl, hb⟩; clear hr0 hr1 hr2 hs0 hs1 hs2 hx0 hx1 hx2 hy0 hy1 hy2; have n0_ := Aside0.mk (HI0.out.later hb); have n1_ := Aside0.mk (blk_below BR.out hb); clear HI0 BR hb; have HI0 := n0_; have BR := n1_; clear n0_ n1_; have BX := Aside0.mk HI0.out.box; obtain ⟨hx0, hx1, hx2, hy0, hy1, hy2⟩ := cz3 BX; clear BX; obtain ⟨hr0, hr1, hr2, hs0, hs1, hs2⟩ := cz3 BR) | (go_at_call 57; (with_reducible refine (HO.out A1 c1 A2 c2 A3 c3 _ (Kd.R_reads' HI0.out.r1).2.2 (Kd.R_reads' HI0.out.r1).2.1 (Kd.R_reads' HI0.out.r2).2.2 (Kd.R_reads' HI0.out.r2).2.1 (Kd.R_reads' HI0.out.r3).2.2 (Kd.R_reads' HI0.out.r3).2.1).mono ?_); rintro e w2 ⟨rfl, hb⟩; clear hr0 hr1 hr2 hs0 hs1 hs2 hx0 hx1 hx2 hy0 hy1 hy2; have n0_ := Aside0.mk (HI0.out.later hb); have n1_ := Aside0.mk (blk_below BR.out hb); clear HI0 BR hb; have HI0 := n0_; have BR := n1_; clear n0_ n1_; have BX := Aside0.mk HI0.out.box; obtain ⟨hx0, hx1, hx2, hy0, hy1, hy2⟩ := cz3 BX; clear BX; obtain ⟨hr0, hr1, hr2, hs0, hs1, hs2⟩ := cz3 BR) | (go_at_call 54; (with_reducible refine (HA.out A1 c1 A2 c2 A3 c3 _ (Kd.R_reads' HI0.out.r1).2.2 (Kd.R_reads' HI0.out.r1).2.1 (Kd.R_reads' HI0.out.r2).2.2 (Kd.R_reads' HI0.out.r2).2.1 (Kd.R_reads' HI0.out.r3).2.2 (Kd.R_reads' HI0.out.r3).2.1).mono ?_); rintro e w2 ⟨rfl, hb⟩; clear hr0 hr1 hr2 hs0 hs1 hs2 hx0 hx1 hx2 hy0 hy1 hy2; have n0_ := Aside0.mk (HI0.out.later hb); have n1_ := Aside0.mk (blk_below BR.out hb); clear HI0 BR hb; have HI0 := n0_; have BR := n1_; clear n0_ n1_; have BX := Aside0.mk HI0.out.box; obtain ⟨hx0, hx1, hx2, hy0, hy1, hy2⟩ := cz3 BX; clear BX; obtain ⟨hr0, hr1, hr2, hs0, hs1, hs2⟩ := cz3 BR))
    go_ret
    exact ⟨_, by rw [addBelayN, if_neg (show ¬ t < 0 by have := HT0.out; omega), if_pos rfl]; rfl, by simpa [addBelayB, addBelayN, show ¬ t < 0 by have := HT0.out; omega] using HI0.out⟩
  | true =>
   cases b3 with
   | false =>
    go_enter Try.func47, Try.ntmps47
    go_wp2_with (first | ((with_reducible refine gate_dst (N := 3) rfl ?_); refine box_event ?hg (N := 3) ?hd (cs := #[.string nm, .string sd, .int .i64 pn]) (t := 40) ?hr ?_; (case hd => rfl); (case hg => rfl); (case hr => first | (go_simp; done) | (go_simp; rfl)); intro gb hg w1 hbox hb; have n0_ := Aside0.mk (HI0.out.later hb); have n1_ := Aside0.mk hbox; clear HI0 hbox hb hg; have HI0 := n0_; have BR := n1_; clear n0_ n1_; have BX := Aside0.mk HI0.out.box; obtain ⟨hx0, hx1, hx2, hy0, hy1, hy2⟩ := cz3 BX; clear BX; obtain ⟨hr0, hr1, hr2, hs0, hs1, hs2⟩ := cz3 BR) | (go_at_call 63; (with_reducible refine (HT.out A1 c1 A2 c2 A3 c3 _ (Kd.R_reads' HI0.out.r1).2.2 (Kd.R_reads' HI0.out.r1).2.1 (Kd.R_reads' HI0.out.r2).2.2 (Kd.R_reads' HI0.out.r2).2.1 (Kd.R_reads' HI0.out.r3).2.2 (Kd.R_reads' HI0.out.r3).2.1).mono ?_); rintro e w2 ⟨rfl, hb⟩; clear hr0 hr1 hr2 hs0 hs1 hs2 hx0 hx1 hx2 hy0 hy1 hy2; have n0_ := Aside0.mk (HI0.out.later hb); have n1_ := Aside0.mk (blk_below BR.out hb); clear HI0 BR hb; have HI0 := n0_; have BR := n1_; clear n0_ n1_; have BX := Aside0.mk HI0.out.box; obtain ⟨hx0, hx1, hx2, hy0, hy1, hy2⟩ := cz3 BX; clear BX; obtain ⟨hr0, hr1, hr2, hs0, hs1, hs2⟩ := cz3 BR) | (go_at_call 56; (with_reducible refine (HE.out A2 c2 _ (Kd.R_reads' HI0.out.r2).2.2 (Kd.R_reads' HI0.out.r2).2.1).mono ?_); rintro e w2 ⟨rfl, hd⟩; obtain ⟨nd, rfl⟩ := hd; clear hr0 hr1 hr2 hs0 hs1 hs2 hx0 hx1 hx2 hy0 hy1 hy2; have n0_ := Aside0.mk (HI0.out.drawn ⟨⟨nd, rfl⟩⟩); have n1_ := Aside0.mk (blk_drewN BR.out nd); clear HI0 BR; have HI0 := n0_; have BR := n1_; clear n0_ n1_; generalize World.drewN _ nd = w2 at HI0 BR ⊢; have BX := Aside0.mk HI0.out.box; obtain ⟨hx0, hx1, hx2, hy0, hy1, hy2⟩ := cz3 BX; clear BX; obtain ⟨hr0, hr1, hr2, hs0, hs1, hs2⟩ := cz3 BR) | (go_at_call 53; (with_reducible refine (HW.out A1 c1 A2 c2 A3 c3 _ (Kd.R_reads' HI0.out.r1).2.2 (Kd.R_reads' HI0.out.r1).2.1 (Kd.R_reads' HI0.out.r2).2.2 (Kd.R_reads' HI0.out.r2).2.1 (Kd.R_reads' HI0.out.r3).2.2 (Kd.R_reads' HI0.out.r3).2.1).mono ?_); rintro e w2 ⟨rfl, hb⟩; clear hr0 hr1 hr2 hs0 hs1 hs2 hx0 hx1 hx2 hy0 hy1 hy2; have n0_ := Aside0.mk (HI0.out.later hb); have n1_ := Aside0.mk (blk_below BR.out hb); clear HI0 BR hb; have HI0 := n0_; have BR := n1_; clear n0_ n1_; have BX := Aside0.mk HI0.out.box; obtain ⟨hx0, hx1, hx2, hy0, hy1, hy2⟩ := cz3 BX; clear BX; obtain ⟨hr0, hr1, hr2, hs0, hs1, hs2⟩ := cz3 BR) | (go_at_call 57; (with_reducible refine (HO.out A1 c1 A2 c2 A3 c3 _ (Kd.R_reads' HI0.out.r1).2.2 (Kd.R_reads' HI0.out.r1).2.1 (Kd.R_reads' HI0.out.r2).2.2 (Kd.R_reads' HI0.out.r2).2.1 (Kd.R_reads' HI0.out.r3).2.2 (Kd.R_reads' HI0.out.r3).2.1).mono ?_); rintro e w2 ⟨rfl, hb⟩; clear hr0 hr1 hr2 hs0 hs1 hs2 hx0 hx1 hx2 hy0 hy1 hy2; have n0_ := Aside0.mk (HI0.out.later hb); have n1_ := Aside0.mk (blk_below BR.out hb); clear HI0 BR hb; have HI0 := n0_; have BR := n1_; clear n0_ n1_; have BX := Aside0.mk HI0.out.box; obtain ⟨hx0, hx1, hx2, hy0, hy1, hy2⟩ := cz3 BX; clear BX; obtain ⟨hr0, hr1, hr2, hs0, hs1, hs2⟩ := cz3 BR) | (go_at_call 54; (with_reducible refine (HA.out A1 c1 A2 c2 A3 c3 _ (Kd.R_reads' HI0.out.r1).2.2 (Kd.R_reads' HI0.out.r1).2.1 (Kd.R_reads' HI0.out.r2).2.2 (Kd.R_reads' HI0.out.r2).2.1 (Kd.R_reads' HI0.out.r3).2.2 (Kd.R_reads' HI0.out.r3).2.1).mono ?_); rintro e w2 ⟨rfl, hb⟩; clear hr0 hr1 hr2 hs0 hs1 hs2 hx0 hx1 hx2 hy0 hy1 hy2; have n0_ := Aside0.mk (HI0.out.later hb); have n1_ := Aside0.mk (blk_below BR.out hb); clear HI0 BR hb; have HI0 := n0_; have BR := n1_; clear n0_ n1_; have BX := Aside0.mk HI0.out.box; obtain ⟨hx0, hx1, hx2, hy0, hy1, hy2⟩ := cz3 BX; clear BX; obtain ⟨hr0, hr1, hr2, hs0, hs1, hs2⟩ := cz3 BR))
    (first | go_region_held3 (fun w' : World => w'.cell? ⟨g, 0, none⟩ = some (.slice A1 R.length c1) ∧ w'.cell? ⟨g, 1, none⟩ = some (.slice A2 L.length c2) ∧ w'.cell? ⟨g, 2, none⟩ = some (.slice A3 B.length c3) ∧ w'.cell? ⟨gb, 0, none⟩ = some (.string nm) ∧ w'.cell? ⟨gb, 1, none⟩ = some (.string sd) ∧ w'.cell? ⟨gb, 2, none⟩ = some (.int .i64 pn)) (first | exact ⟨hx0, hx1, hx2, hr0, hr1, hr2⟩) (first | (go_at_call 63; (with_reducible refine (HT.out A1 c1 A2 c2 A3 c3 _ (Kd.R_reads' HI0.out.drew.r1).2.2 (Kd.R_reads' HI0.out.drew.r1).2.1 (Kd.R_reads' HI0.out.drew.r2).2.2 (Kd.R_reads' HI0.out.drew.r2).2.1 (Kd.R_reads' HI0.out.drew.r3).2.2 (Kd.R_reads' HI0.out.drew.r3).2.1).mono ?_); rintro e w2 ⟨rfl, hb⟩; clear hr0 hr1 hr2 hs0 hs1 hs2 hx0 hx1 hx2 hy0 hy1 hy2; have n0_ := Aside0.mk (HI0.out.drew.later hb); have n1_ := Aside0.mk (blk_below (blk_drew BR.out) hb); clear HI0 BR hb; have HI0 := n0_; have BR := n1_; clear n0_ n1_; have BX := Aside0.mk HI0.out.box; obtain ⟨hx0, hx1, hx2, hy0, hy1, hy2⟩ := cz3 BX; clear BX; obtain ⟨hr0, hr1, hr2, hs0, hs1, hs2⟩ := cz3 BR) | (go_at_call 56; (with_reducible refine (HE.out A2 c2 _ (Kd.R_reads' HI0.out.r2).2.2 (Kd.R_reads' HI0.out.r2).2.1).mono ?_); rintro e w2 ⟨rfl, hd⟩; obtain ⟨nd, rfl⟩ := hd; clear hr0 hr1 hr2 hs0 hs1 hs2 hx0 hx1 hx2 hy0 hy1 hy2; have n0_ := Aside0.mk (HI0.out.drawn ⟨⟨nd, rfl⟩⟩); have n1_ := Aside0.mk (blk_drewN BR.out nd); clear HI0 BR; have HI0 := n0_; have BR := n1_; clear n0_ n1_; generalize World.drewN _ nd = w2 at HI0 BR ⊢; have BX := Aside0.mk HI0.out.box; obtain ⟨hx0, hx1, hx2, hy0, hy1, hy2⟩ := cz3 BX; clear BX; obtain ⟨hr0, hr1, hr2, hs0, hs1, hs2⟩ := cz3 BR) | (go_at_call 53; (with_reducible refine (HW.out A1 c1 A2 c2 A3 c3 _ (Kd.R_reads' HI0.out.r1).2.2 (Kd.R_reads' HI0.out.r1).2.1 (Kd.R_reads' HI0.out.r2).2.2 (Kd.R_reads' HI0.out.r2).2.1 (Kd.R_reads' HI0.out.r3).2.2 (Kd.R_reads' HI0.out.r3).2.1).mono ?_); rintro e w2 ⟨rfl, hb⟩; clear hr0 hr1 hr2 hs0 hs1 hs2 hx0 hx1 hx2 hy0 hy1 hy2; have n0_ := Aside0.mk (HI0.out.later hb); have n1_ := Aside0.mk (blk_below BR.out hb); clear HI0 BR hb; have HI0 := n0_; have BR := n1_; clear n0_ n1_; have BX := Aside0.mk HI0.out.box; obtain ⟨hx0, hx1, hx2, hy0, hy1, hy2⟩ := cz3 BX; clear BX; obtain ⟨hr0, hr1, hr2, hs0, hs1, hs2⟩ := cz3 BR) | (go_at_call 57; (with_reducible refine (HO.out A1 c1 A2 c2 A3 c3 _ (Kd.R_reads' HI0.out.r1).2.2 (Kd.R_reads' HI0.out.r1).2.1 (Kd.R_reads' HI0.out.r2).2.2 (Kd.R_reads' HI0.out.r2).2.1 (Kd.R_reads' HI0.out.r3).2.2 (Kd.R_reads' HI0.out.r3).2.1).mono ?_); rintro e w2 ⟨rfl, hb⟩; clear hr0 hr1 hr2 hs0 hs1 hs2 hx0 hx1 hx2 hy0 hy1 hy2; have n0_ := Aside0.mk (HI0.out.later hb); have n1_ := Aside0.mk (blk_below BR.out hb); clear HI0 BR hb; have HI0 := n0_; have BR := n1_; clear n0_ n1_; have BX := Aside0.mk HI0.out.box; obtain ⟨hx0, hx1, hx2, hy0, hy1, hy2⟩ := cz3 BX; clear BX; obtain ⟨hr0, hr1, hr2, hs0, hs1, hs2⟩ := cz3 BR) | (go_at_call 54; (with_reducible refine (HA.out A1 c1 A2 c2 A3 c3 _ (Kd.R_reads' HI0.out.r1).2.2 (Kd.R_reads' HI0.out.r1).2.1 (Kd.R_reads' HI0.out.r2).2.2 (Kd.R_reads' HI0.out.r2).2.1 (Kd.R_reads' HI0.out.r3).2.2 (Kd.R_reads' HI0.out.r3).2.1).mono ?_); rintro e w2 ⟨rfl, hb⟩; clear hr0 hr1 hr2 hs0 hs1 hs2 hx0 hx1 hx2 hy0 hy1 hy2; have n0_ := Aside0.mk (HI0.out.later hb); have n1_ := Aside0.mk (blk_below BR.out hb); clear HI0 BR hb; have HI0 := n0_; have BR := n1_; clear n0_ n1_; have BX := Aside0.mk HI0.out.box; obtain ⟨hx0, hx1, hx2, hy0, hy1, hy2⟩ := cz3 BX; clear BX; obtain ⟨hr0, hr1, hr2, hs0, hs1, hs2⟩ := cz3 BR)) | fail)
    all_goals
     go_wp2_with (first | ((with_reducible refine gate_dst (N := 3) rfl ?_); refine box_event ?hg (N := 3) ?hd (cs := #[.string nm, .string sd, .int .i64 pn]) (t := 40) ?hr ?_; (case hd => rfl); (case hg => rfl); (case hr => first | (go_simp; done) | (go_simp; rfl)); intro gb hg w1 hbox hb; have n0_ := Aside0.mk (HI0.out.later hb); have n1_ := Aside0.mk hbox; clear HI0 hbox hb hg; have HI0 := n0_; have BR := n1_; clear n0_ n1_; have BX := Aside0.mk HI0.out.box; obtain ⟨hx0, hx1, hx2, hy0, hy1, hy2⟩ := cz3 BX; clear BX; obtain ⟨hr0, hr1, hr2, hs0, hs1, hs2⟩ := cz3 BR) | (go_at_call 63; (with_reducible refine (HT.out A1 c1 A2 c2 A3 c3 _ (Kd.R_reads' HI0.out.r1).2.2 (Kd.R_reads' HI0.out.r1).2.1 (Kd.R_reads' HI0.out.r2).2.2 (Kd.R_reads' HI0.out.r2).2.1 (Kd.R_reads' HI0.out.r3).2.2 (Kd.R_reads' HI0.out.r3).2.1).mono ?_); rintro e w2 ⟨rfl, hb⟩; clear hr0 hr1 hr2 hs0 hs1 hs2 hx0 hx1 hx2 hy0 hy1 hy2; have n0_ := Aside0.mk (HI0.out.later hb); have n1_ := Aside0.mk (blk_below BR.out hb); clear HI0 BR hb; have HI0 := n0_; have BR := n1_; clear n0_ n1_; have BX := Aside0.mk HI0.out.box; obtain ⟨hx0, hx1, hx2, hy0, hy1, hy2⟩ := cz3 BX; clear BX; obtain ⟨hr0, hr1, hr2, hs0, hs1, hs2⟩ := cz3 BR) | (go_at_call 56; (with_reducible refine (HE.out A2 c2 _ (Kd.R_reads' HI0.out.r2).2.2 (Kd.R_reads' HI0.out.r2).2.1).mono ?_); rintro e w2 ⟨rfl, hd⟩; obtain ⟨nd, rfl⟩ := hd; clear hr0 hr1 hr2 hs0 hs1 hs2 hx0 hx1 hx2 hy0 hy1 hy2; have n0_ := Aside0.mk (HI0.out.drawn ⟨⟨nd, rfl⟩⟩); have n1_ := Aside0.mk (blk_drewN BR.out nd); clear HI0 BR; have HI0 := n0_; have BR := n1_; clear n0_ n1_; generalize World.drewN _ nd = w2 at HI0 BR ⊢; have BX := Aside0.mk HI0.out.box; obtain ⟨hx0, hx1, hx2, hy0, hy1, hy2⟩ := cz3 BX; clear BX; obtain ⟨hr0, hr1, hr2, hs0, hs1, hs2⟩ := cz3 BR) | (go_at_call 53; (with_reducible refine (HW.out A1 c1 A2 c2 A3 c3 _ (Kd.R_reads' HI0.out.r1).2.2 (Kd.R_reads' HI0.out.r1).2.1 (Kd.R_reads' HI0.out.r2).2.2 (Kd.R_reads' HI0.out.r2).2.1 (Kd.R_reads' HI0.out.r3).2.2 (Kd.R_reads' HI0.out.r3).2.1).mono ?_); rintro e w2 ⟨rfl, hb⟩; clear hr0 hr1 hr2 hs0 hs1 hs2 hx0 hx1 hx2 hy0 hy1 hy2; have n0_ := Aside0.mk (HI0.out.later hb); have n1_ := Aside0.mk (blk_below BR.out hb); clear HI0 BR hb; have HI0 := n0_; have BR := n1_; clear n0_ n1_; have BX := Aside0.mk HI0.out.box; obtain ⟨hx0, hx1, hx2, hy0, hy1, hy2⟩ := cz3 BX; clear BX; obtain ⟨hr0, hr1, hr2, hs0, hs1, hs2⟩ := cz3 BR) | (go_at_call 57; (with_reducible refine (HO.out A1 c1 A2 c2 A3 c3 _ (Kd.R_reads' HI0.out.r1).2.2 (Kd.R_reads' HI0.out.r1).2.1 (Kd.R_reads' HI0.out.r2).2.2 (Kd.R_reads' HI0.out.r2).2.1 (Kd.R_reads' HI0.out.r3).2.2 (Kd.R_reads' HI0.out.r3).2.1).mono ?_); rintro e w2 ⟨rfl, hb⟩; clear hr0 hr1 hr2 hs0 hs1 hs2 hx0 hx1 hx2 hy0 hy1 hy2; have n0_ := Aside0.mk (HI0.out.later hb); have n1_ := Aside0.mk (blk_below BR.out hb); clear HI0 BR hb; have HI0 := n0_; have BR := n1_; clear n0_ n1_; have BX := Aside0.mk HI0.out.box; obtain ⟨hx0, hx1, hx2, hy0, hy1, hy2⟩ := cz3 BX; clear BX; obtain ⟨hr0, hr1, hr2, hs0, hs1, hs2⟩ := cz3 BR) | (go_at_call 54; (with_reducible refine (HA.out A1 c1 A2 c2 A3 c3 _ (Kd.R_reads' HI0.out.r1).2.2 (Kd.R_reads' HI0.out.r1).2.1 (Kd.R_reads' HI0.out.r2).2.2 (Kd.R_reads' HI0.out.r2).2.1 (Kd.R_reads' HI0.out.r3).2.2 (Kd.R_reads' HI0.out.r3).2.1).mono ?_); rintro e w2 ⟨rfl, hb⟩; clear hr0 hr1 hr2 hs0 hs1 hs2 hx0 hx1 hx2 hy0 hy1 hy2; have n0_ := Aside0.mk (HI0.out.later hb); have n1_ := Aside0.mk (blk_below BR.out hb); clear HI0 BR hb; have HI0 := n0_; have BR := n1_; clear n0_ n1_; have BX := Aside0.mk HI0.out.box; obtain ⟨hx0, hx1, hx2, hy0, hy1, hy2⟩ := cz3 BX; clear BX; obtain ⟨hr0, hr1, hr2, hs0, hs1, hs2⟩ := cz3 BR))
     go_still_tail 7, (by kernel_rfl)
     change wpList _ _ _ _ _ w2.drew
     clear hr0 hr1 hr2 hs0 hs1 hs2 hx0 hx1 hx2 hy0 hy1 hy2
     have n0_ := Aside0.mk HI0.out.drew
     have n1_ := Aside0.mk (blk_drew BR.out)
     clear HI0 BR
     have HI0 := n0_
     have BR := n1_
     clear n0_ n1_
     generalize w2.drew = wd at HI0 BR ⊢
     have BX := Aside0.mk HI0.out.box
     obtain ⟨hx0, hx1, hx2, hy0, hy1, hy2⟩ := cz3 BX
     clear BX
     obtain ⟨hr0, hr1, hr2, hs0, hs1, hs2⟩ := cz3 BR
     go_wp2_with (first | ((with_reducible refine gate_dst (N := 3) rfl ?_); refine box_event ?hg (N := 3) ?hd (cs := #[.string nm, .string sd, .int .i64 pn]) (t := 40) ?hr ?_; (case hd => rfl); (case hg => rfl); (case hr => first | (go_simp; done) | (go_simp; rfl)); intro gb hg w1 hbox hb; have n0_ := Aside0.mk (HI0.out.later hb); have n1_ := Aside0.mk hbox; clear HI0 hbox hb hg; have HI0 := n0_; have BR := n1_; clear n0_ n1_; have BX := Aside0.mk HI0.out.box; obtain ⟨hx0, hx1, hx2, hy0, hy1, hy2⟩ := cz3 BX; clear BX; obtain ⟨hr0, hr1, hr2, hs0, hs1, hs2⟩ := cz3 BR) | (go_at_call 63; (with_reducible refine (HT.out A1 c1 A2 c2 A3 c3 _ (Kd.R_reads' HI0.out.r1).2.2 (Kd.R_reads' HI0.out.r1).2.1 (Kd.R_reads' HI0.out.r2).2.2 (Kd.R_reads' HI0.out.r2).2.1 (Kd.R_reads' HI0.out.r3).2.2 (Kd.R_reads' HI0.out.r3).2.1).mono ?_); rintro e w2 ⟨rfl, hb⟩; clear hr0 hr1 hr2 hs0 hs1 hs2 hx0 hx1 hx2 hy0 hy1 hy2; have n0_ := Aside0.mk (HI0.out.later hb); have n1_ := Aside0.mk (blk_below BR.out hb); clear HI0 BR hb; have HI0 := n0_; have BR := n1_; clear n0_ n1_; have BX := Aside0.mk HI0.out.box; obtain ⟨hx0, hx1, hx2, hy0, hy1, hy2⟩ := cz3 BX; clear BX; obtain ⟨hr0, hr1, hr2, hs0, hs1, hs2⟩ := cz3 BR) | (go_at_call 56; (with_reducible refine (HE.out A2 c2 _ (Kd.R_reads' HI0.out.r2).2.2 (Kd.R_reads' HI0.out.r2).2.1).mono ?_); rintro e w2 ⟨rfl, hd⟩; obtain ⟨nd, rfl⟩ := hd; clear hr0 hr1 hr2 hs0 hs1 hs2 hx0 hx1 hx2 hy0 hy1 hy2; have n0_ := Aside0.mk (HI0.out.drawn ⟨⟨nd, rfl⟩⟩); have n1_ := Aside0.mk (blk_drewN BR.out nd); clear HI0 BR; have HI0 := n0_; have BR := n1_; clear n0_ n1_; generalize World.drewN _ nd = w2 at HI0 BR ⊢; have BX := Aside0.mk HI0.out.box; obtain ⟨hx0, hx1, hx2, hy0, hy1, hy2⟩ := cz3 BX; clear BX; obtain ⟨hr0, hr1, hr2, hs0, hs1, hs2⟩ := cz3 BR) | (go_at_call 53; (with_reducible refine (HW.out A1 c1 A2 c2 A3 c3 _ (Kd.R_reads' HI0.out.r1).2.2 (Kd.R_reads' HI0.out.r1).2.1 (Kd.R_reads' HI0.out.r2).2.2 (Kd.R_reads' HI0.out.r2).2.1 (Kd.R_reads' HI0.out.r3).2.2 (Kd.R_reads' HI0.out.r3).2.1).mono ?_); rintro e w2 ⟨rfl, hb⟩; clear hr0 hr1 hr2 hs0 hs1 hs2 hx0 hx1 hx2 hy0 hy1 hy2; have n0_ := Aside0.mk (HI0.out.later hb); have n1_ := Aside0.mk (blk_below BR.out hb); clear HI0 BR hb; have HI0 := n0_; have BR := n1_; clear n0_ n1_; have BX := Aside0.mk HI0.out.box; obtain ⟨hx0, hx1, hx2, hy0, hy1, hy2⟩ := cz3 BX; clear BX; obtain ⟨hr0, hr1, hr2, hs0, hs1, hs2⟩ := cz3 BR) | (go_at_call 57; (with_reducible refine (HO.out A1 c1 A2 c2 A3 c3 _ (Kd.R_reads' HI0.out.r1).2.2 (Kd.R_reads' HI0.out.r1).2.1 (Kd.R_reads' HI0.out.r2).2.2 (Kd.R_reads' HI0.out.r2).2.1 (Kd.R_reads' HI0.out.r3).2.2 (Kd.R_reads' HI0.out.r3).2.1).mono ?_); rintro e w2 ⟨rfl, hb⟩; clear hr0 hr1 hr2 hs0 hs1 hs2 hx0 hx1 hx2 hy0 hy1 hy2; have n0_ := Aside0.mk (HI0.out.later hb); have n1_ := Aside0.mk (blk_below BR.out hb); clear HI0 BR hb; have HI0 := n0_; have BR := n1_; clear n0_ n1_; have BX := Aside0.mk HI0.out.box; obtain ⟨hx0, hx1, hx2, hy0, hy1, hy2⟩ := cz3 BX; clear BX; obtain ⟨hr0, hr1, hr2, hs0, hs1, hs2⟩ := cz3 BR) | (go_at_call 54; (with_reducible refine (HA.out A1 c1 A2 c2 A3 c3 _ (Kd.R_reads' HI0.out.r1).2.2 (Kd.R_reads' HI0.out.r1).2.1 (Kd.R_reads' HI0.out.r2).2.2 (Kd.R_reads' HI0.out.r2).2.1 (Kd.R_reads' HI0.out.r3).2.2 (Kd.R_reads' HI0.out.r3).2.1).mono ?_); rintro e w2 ⟨rfl, hb⟩; clear hr0 hr1 hr2 hs0 hs1 hs2 hx0 hx1 hx2 hy0 hy1 hy2; have n0_ := Aside0.mk (HI0.out.later hb); have n1_ := Aside0.mk (blk_below BR.out hb); clear HI0 BR hb; have HI0 := n0_; have BR := n1_; clear n0_ n1_; have BX := Aside0.mk HI0.out.box; obtain ⟨hx0, hx1, hx2, hy0, hy1, hy2⟩ := cz3 BX; clear BX; obtain ⟨hr0, hr1, hr2, hs0, hs1, hs2⟩ := cz3 BR))
     go_ret
     exact ⟨_, by rw [addBelayN, if_neg (show ¬ t < 0 by have := HT0.out; omega), if_neg (by simp), if_pos rfl]; rfl, by simpa [addBelayB, addBelayN, show ¬ t < 0 by have := HT0.out; omega] using HI0.out⟩
   | true =>
    by_cases ho : o ≥ 0
    ·have ho0 : decide (o ≥ 0) = true := decide_eq_true ho
     have ho1 : decide (0 ≤ o) = true := decide_eq_true ho
     have HO0 := Aside0.mk ho
     clear ho
     go_enter Try.func47, Try.ntmps47
     go_wp2_with (first | ((with_reducible refine gate_dst (N := 3) rfl ?_); refine box_event ?hg (N := 3) ?hd (cs := #[.string nm, .string sd, .int .i64 pn]) (t := 40) ?hr ?_; (case hd => rfl); (case hg => rfl); (case hr => first | (go_simp; done) | (go_simp; rfl)); intro gb hg w1 hbox hb; have n0_ := Aside0.mk (HI0.out.later hb); have n1_ := Aside0.mk hbox; clear HI0 hbox hb hg; have HI0 := n0_; have BR := n1_; clear n0_ n1_; have BX := Aside0.mk HI0.out.box; obtain ⟨hx0, hx1, hx2, hy0, hy1, hy2⟩ := cz3 BX; clear BX; obtain ⟨hr0, hr1, hr2, hs0, hs1, hs2⟩ := cz3 BR) | (go_at_call 63; (with_reducible refine (HT.out A1 c1 A2 c2 A3 c3 _ (Kd.R_reads' HI0.out.r1).2.2 (Kd.R_reads' HI0.out.r1).2.1 (Kd.R_reads' HI0.out.r2).2.2 (Kd.R_reads' HI0.out.r2).2.1 (Kd.R_reads' HI0.out.r3).2.2 (Kd.R_reads' HI0.out.r3).2.1).mono ?_); rintro e w2 ⟨rfl, hb⟩; clear hr0 hr1 hr2 hs0 hs1 hs2 hx0 hx1 hx2 hy0 hy1 hy2; have n0_ := Aside0.mk (HI0.out.later hb); have n1_ := Aside0.mk (blk_below BR.out hb); clear HI0 BR hb; have HI0 := n0_; have BR := n1_; clear n0_ n1_; have BX := Aside0.mk HI0.out.box; obtain ⟨hx0, hx1, hx2, hy0, hy1, hy2⟩ := cz3 BX; clear BX; obtain ⟨hr0, hr1, hr2, hs0, hs1, hs2⟩ := cz3 BR) | (go_at_call 56; (with_reducible refine (HE.out A2 c2 _ (Kd.R_reads' HI0.out.r2).2.2 (Kd.R_reads' HI0.out.r2).2.1).mono ?_); rintro e w2 ⟨rfl, hd⟩; obtain ⟨nd, rfl⟩ := hd; clear hr0 hr1 hr2 hs0 hs1 hs2 hx0 hx1 hx2 hy0 hy1 hy2; have n0_ := Aside0.mk (HI0.out.drawn ⟨⟨nd, rfl⟩⟩); have n1_ := Aside0.mk (blk_drewN BR.out nd); clear HI0 BR; have HI0 := n0_; have BR := n1_; clear n0_ n1_; generalize World.drewN _ nd = w2 at HI0 BR ⊢; have BX := Aside0.mk HI0.out.box; obtain ⟨hx0, hx1, hx2, hy0, hy1, hy2⟩ := cz3 BX; clear BX; obtain ⟨hr0, hr1, hr2, hs0, hs1, hs2⟩ := cz3 BR) | (go_at_call 53; (with_reducible refine (HW.out A1 c1 A2 c2 A3 c3 _ (Kd.R_reads' HI0.out.r1).2.2 (Kd.R_reads' HI0.out.r1).2.1 (Kd.R_reads' HI0.out.r2).2.2 (Kd.R_reads' HI0.out.r2).2.1 (Kd.R_reads' HI0.out.r3).2.2 (Kd.R_reads' HI0.out.r3).2.1).mono ?_); rintro e w2 ⟨rfl, hb⟩; clear hr0 hr1 hr2 hs0 hs1 hs2 hx0 hx1 hx2 hy0 hy1 hy2; have n0_ := Aside0.mk (HI0.out.later hb); have n1_ := Aside0.mk (blk_below BR.out hb); clear HI0 BR hb; have HI0 := n0_; have BR := n1_; clear n0_ n1_; have BX := Aside0.mk HI0.out.box; obtain ⟨hx0, hx1, hx2, hy0, hy1, hy2⟩ := cz3 BX; clear BX; obtain ⟨hr0, hr1, hr2, hs0, hs1, hs2⟩ := cz3 BR) | (go_at_call 57; (with_reducible refine (HO.out A1 c1 A2 c2 A3 c3 _ (Kd.R_reads' HI0.out.r1).2.2 (Kd.R_reads' HI0.out.r1).2.1 (Kd.R_reads' HI0.out.r2).2.2 (Kd.R_reads' HI0.out.r2).2.1 (Kd.R_reads' HI0.out.r3).2.2 (Kd.R_reads' HI0.out.r3).2.1).mono ?_); rintro e w2 ⟨rfl, hb⟩; clear hr0 hr1 hr2 hs0 hs1 hs2 hx0 hx1 hx2 hy0 hy1 hy2; have n0_ := Aside0.mk (HI0.out.later hb); have n1_ := Aside0.mk (blk_below BR.out hb); clear HI0 BR hb; have HI0 := n0_; have BR := n1_; clear n0_ n1_; have BX := Aside0.mk HI0.out.box; obtain ⟨hx0, hx1, hx2, hy0, hy1, hy2⟩ := cz3 BX; clear BX; obtain ⟨hr0, hr1, hr2, hs0, hs1, hs2⟩ := cz3 BR) | (go_at_call 54; (with_reducible refine (HA.out A1 c1 A2 c2 A3 c3 _ (Kd.R_reads' HI0.out.r1).2.2 (Kd.R_reads' HI0.out.r1).2.1 (Kd.R_reads' HI0.out.r2).2.2 (Kd.R_reads' HI0.out.r2).2.1 (Kd.R_reads' HI0.out.r3).2.2 (Kd.R_reads' HI0.out.r3).2.1).mono ?_); rintro e w2 ⟨rfl, hb⟩; clear hr0 hr1 hr2 hs0 hs1 hs2 hx0 hx1 hx2 hy0 hy1 hy2; have n0_ := Aside0.mk (HI0.out.later hb); have n1_ := Aside0.mk (blk_below BR.out hb); clear HI0 BR hb; have HI0 := n0_; have BR := n1_; clear n0_ n1_; have BX := Aside0.mk HI0.out.box; obtain ⟨hx0, hx1, hx2, hy0, hy1, hy2⟩ := cz3 BX; clear BX; obtain ⟨hr0, hr1, hr2, hs0, hs1, hs2⟩ := cz3 BR))
     (first | go_region_held3 (fun w' : World => w'.cell? ⟨g, 0, none⟩ = some (.slice A1 R.length c1) ∧ w'.cell? ⟨g, 1, none⟩ = some (.slice A2 L.length c2) ∧ w'.cell? ⟨g, 2, none⟩ = some (.slice A3 B.length c3) ∧ w'.cell? ⟨gb, 0, none⟩ = some (.string nm) ∧ w'.cell? ⟨gb, 1, none⟩ = some (.string sd) ∧ w'.cell? ⟨gb, 2, none⟩ = some (.int .i64 pn)) (first | exact ⟨hx0, hx1, hx2, hr0, hr1, hr2⟩) (first | (go_at_call 63; (with_reducible refine (HT.out A1 c1 A2 c2 A3 c3 _ (Kd.R_reads' HI0.out.drew.r1).2.2 (Kd.R_reads' HI0.out.drew.r1).2.1 (Kd.R_reads' HI0.out.drew.r2).2.2 (Kd.R_reads' HI0.out.drew.r2).2.1 (Kd.R_reads' HI0.out.drew.r3).2.2 (Kd.R_reads' HI0.out.drew.r3).2.1).mono ?_); rintro e w2 ⟨rfl, hb⟩; clear hr0 hr1 hr2 hs0 hs1 hs2 hx0 hx1 hx2 hy0 hy1 hy2; have n0_ := Aside0.mk (HI0.out.drew.later hb); have n1_ := Aside0.mk (blk_below (blk_drew BR.out) hb); clear HI0 BR hb; have HI0 := n0_; have BR := n1_; clear n0_ n1_; have BX := Aside0.mk HI0.out.box; obtain ⟨hx0, hx1, hx2, hy0, hy1, hy2⟩ := cz3 BX; clear BX; obtain ⟨hr0, hr1, hr2, hs0, hs1, hs2⟩ := cz3 BR) | (go_at_call 56; (with_reducible refine (HE.out A2 c2 _ (Kd.R_reads' HI0.out.r2).2.2 (Kd.R_reads' HI0.out.r2).2.1).mono ?_); rintro e w2 ⟨rfl, hd⟩; obtain ⟨nd, rfl⟩ := hd; clear hr0 hr1 hr2 hs0 hs1 hs2 hx0 hx1 hx2 hy0 hy1 hy2; have n0_ := Aside0.mk (HI0.out.drawn ⟨⟨nd, rfl⟩⟩); have n1_ := Aside0.mk (blk_drewN BR.out nd); clear HI0 BR; have HI0 := n0_; have BR := n1_; clear n0_ n1_; generalize World.drewN _ nd = w2 at HI0 BR ⊢; have BX := Aside0.mk HI0.out.box; obtain ⟨hx0, hx1, hx2, hy0, hy1, hy2⟩ := cz3 BX; clear BX; obtain ⟨hr0, hr1, hr2, hs0, hs1, hs2⟩ := cz3 BR) | (go_at_call 53; (with_reducible refine (HW.out A1 c1 A2 c2 A3 c3 _ (Kd.R_reads' HI0.out.r1).2.2 (Kd.R_reads' HI0.out.r1).2.1 (Kd.R_reads' HI0.out.r2).2.2 (Kd.R_reads' HI0.out.r2).2.1 (Kd.R_reads' HI0.out.r3).2.2 (Kd.R_reads' HI0.out.r3).2.1).mono ?_); rintro e w2 ⟨rfl, hb⟩; clear hr0 hr1 hr2 hs0 hs1 hs2 hx0 hx1 hx2 hy0 hy1 hy2; have n0_ := Aside0.mk (HI0.out.later hb); have n1_ := Aside0.mk (blk_below BR.out hb); clear HI0 BR hb; have HI0 := n0_; have BR := n1_; clear n0_ n1_; have BX := Aside0.mk HI0.out.box; obtain ⟨hx0, hx1, hx2, hy0, hy1, hy2⟩ := cz3 BX; clear BX; obtain ⟨hr0, hr1, hr2, hs0, hs1, hs2⟩ := cz3 BR) | (go_at_call 57; (with_reducible refine (HO.out A1 c1 A2 c2 A3 c3 _ (Kd.R_reads' HI0.out.r1).2.2 (Kd.R_reads' HI0.out.r1).2.1 (Kd.R_reads' HI0.out.r2).2.2 (Kd.R_reads' HI0.out.r2).2.1 (Kd.R_reads' HI0.out.r3).2.2 (Kd.R_reads' HI0.out.r3).2.1).mono ?_); rintro e w2 ⟨rfl, hb⟩; clear hr0 hr1 hr2 hs0 hs1 hs2 hx0 hx1 hx2 hy0 hy1 hy2; have n0_ := Aside0.mk (HI0.out.later hb); have n1_ := Aside0.mk (blk_below BR.out hb); clear HI0 BR hb; have HI0 := n0_; have BR := n1_; clear n0_ n1_; have BX := Aside0.mk HI0.out.box; obtain ⟨hx0, hx1, hx2, hy0, hy1, hy2⟩ := cz3 BX; clear BX; obtain ⟨hr0, hr1, hr2, hs0, hs1, hs2⟩ := cz3 BR) | (go_at_call 54; (with_reducible refine (HA.out A1 c1 A2 c2 A3 c3 _ (Kd.R_reads' HI0.out.r1).2.2 (Kd.R_reads' HI0.out.r1).2.1 (Kd.R_reads' HI0.out.r2).2.2 (Kd.R_reads' HI0.out.r2).2.1 (Kd.R_reads' HI0.out.r3).2.2 (Kd.R_reads' HI0.out.r3).2.1).mono ?_); rintro e w2 ⟨rfl, hb⟩; clear hr0 hr1 hr2 hs0 hs1 hs2 hx0 hx1 hx2 hy0 hy1 hy2; have n0_ := Aside0.mk (HI0.out.later hb); have n1_ := Aside0.mk (blk_below BR.out hb); clear HI0 BR hb; have HI0 := n0_; have BR := n1_; clear n0_ n1_; have BX := Aside0.mk HI0.out.box; obtain ⟨hx0, hx1, hx2, hy0, hy1, hy2⟩ := cz3 BX; clear BX; obtain ⟨hr0, hr1, hr2, hs0, hs1, hs2⟩ := cz3 BR)) | fail)
     all_goals
      go_wp2_with (first | ((with_reducible refine gate_dst (N := 3) rfl ?_); refine box_event ?hg (N := 3) ?hd (cs := #[.string nm, .string sd, .int .i64 pn]) (t := 40) ?hr ?_; (case hd => rfl); (case hg => rfl); (case hr => first | (go_simp; done) | (go_simp; rfl)); intro gb hg w1 hbox hb; have n0_ := Aside0.mk (HI0.out.later hb); have n1_ := Aside0.mk hbox; clear HI0 hbox hb hg; have HI0 := n0_; have BR := n1_; clear n0_ n1_; have BX := Aside0.mk HI0.out.box; obtain ⟨hx0, hx1, hx2, hy0, hy1, hy2⟩ := cz3 BX; clear BX; obtain ⟨hr0, hr1, hr2, hs0, hs1, hs2⟩ := cz3 BR) | (go_at_call 63; (with_reducible refine (HT.out A1 c1 A2 c2 A3 c3 _ (Kd.R_reads' HI0.out.r1).2.2 (Kd.R_reads' HI0.out.r1).2.1 (Kd.R_reads' HI0.out.r2).2.2 (Kd.R_reads' HI0.out.r2).2.1 (Kd.R_reads' HI0.out.r3).2.2 (Kd.R_reads' HI0.out.r3).2.1).mono ?_); rintro e w2 ⟨rfl, hb⟩; clear hr0 hr1 hr2 hs0 hs1 hs2 hx0 hx1 hx2 hy0 hy1 hy2; have n0_ := Aside0.mk (HI0.out.later hb); have n1_ := Aside0.mk (blk_below BR.out hb); clear HI0 BR hb; have HI0 := n0_; have BR := n1_; clear n0_ n1_; have BX := Aside0.mk HI0.out.box; obtain ⟨hx0, hx1, hx2, hy0, hy1, hy2⟩ := cz3 BX; clear BX; obtain ⟨hr0, hr1, hr2, hs0, hs1, hs2⟩ := cz3 BR) | (go_at_call 56; (with_reducible refine (HE.out A2 c2 _ (Kd.R_reads' HI0.out.r2).2.2 (Kd.R_reads' HI0.out.r2).2.1).mono ?_); rintro e w2 ⟨rfl, hd⟩; obtain ⟨nd, rfl⟩ := hd; clear hr0 hr1 hr2 hs0 hs1 hs2 hx0 hx1 hx2 hy0 hy1 hy2; have n0_ := Aside0.mk (HI0.out.drawn ⟨⟨nd, rfl⟩⟩); have n1_ := Aside0.mk (blk_drewN BR.out nd); clear HI0 BR; have HI0 := n0_; have BR := n1_; clear n0_ n1_; generalize World.drewN _ nd = w2 at HI0 BR ⊢; have BX := Aside0.mk HI0.out.box; obtain ⟨hx0, hx1, hx2, hy0, hy1, hy2⟩ := cz3 BX; clear BX; obtain ⟨hr0, hr1, hr2, hs0, hs1, hs2⟩ := cz3 BR) | (go_at_call 53; (with_reducible refine (HW.out A1 c1 A2 c2 A3 c3 _ (Kd.R_reads' HI0.out.r1).2.2 (Kd.R_reads' HI0.out.r1).2.1 (Kd.R_reads' HI0.out.r2).2.2 (Kd.R_reads' HI0.out.r2).2.1 (Kd.R_reads' HI0.out.r3).2.2 (Kd.R_reads' HI0.out.r3).2.1).mono ?_); rintro e w2 ⟨rfl, hb⟩; clear hr0 hr1 hr2 hs0 hs1 hs2 hx0 hx1 hx2 hy0 hy1 hy2; have n0_ := Aside0.mk (HI0.out.later hb); have n1_ := Aside0.mk (blk_below BR.out hb); clear HI0 BR hb; have HI0 := n0_; have BR := n1_; clear n0_ n1_; have BX := Aside0.mk HI0.out.box; obtain ⟨hx0, hx1, hx2, hy0, hy1, hy2⟩ := cz3 BX; clear BX; obtain ⟨hr0, hr1, hr2, hs0, hs1, hs2⟩ := cz3 BR) | (go_at_call 57; (with_reducible refine (HO.out A1 c1 A2 c2 A3 c3 _ (Kd.R_reads' HI0.out.r1).2.2 (Kd.R_reads' HI0.out.r1).2.1 (Kd.R_reads' HI0.out.r2).2.2 (Kd.R_reads' HI0.out.r2).2.1 (Kd.R_reads' HI0.out.r3).2.2 (Kd.R_reads' HI0.out.r3).2.1).mono ?_); rintro e w2 ⟨rfl, hb⟩; clear hr0 hr1 hr2 hs0 hs1 hs2 hx0 hx1 hx2 hy0 hy1 hy2; have n0_ := Aside0.mk (HI0.out.later hb); have n1_ := Aside0.mk (blk_below BR.out hb); clear HI0 BR hb; have HI0 := n0_; have BR := n1_; clear n0_ n1_; have BX := Aside0.mk HI0.out.box; obtain ⟨hx0, hx1, hx2, hy0, hy1, hy2⟩ := cz3 BX; clear BX; obtain ⟨hr0, hr1, hr2, hs0, hs1, hs2⟩ := cz3 BR) | (go_at_call 54; (with_reducible refine (HA.out A1 c1 A2 c2 A3 c3 _ (Kd.R_reads' HI0.out.r1).2.2 (Kd.R_reads' HI0.out.r1).2.1 (Kd.R_reads' HI0.out.r2).2.2 (Kd.R_reads' HI0.out.r2).2.1 (Kd.R_reads' HI0.out.r3).2.2 (Kd.R_reads' HI0.out.r3).2.1).mono ?_); rintro e w2 ⟨rfl, hb⟩; clear hr0 hr1 hr2 hs0 hs1 hs2 hx0 hx1 hx2 hy0 hy1 hy2; have n0_ := Aside0.mk (HI0.out.later hb); have n1_ := Aside0.mk (blk_below BR.out hb); clear HI0 BR hb; have HI0 := n0_; have BR := n1_; clear n0_ n1_; have BX := Aside0.mk HI0.out.box; obtain ⟨hx0, hx1, hx2, hy0, hy1, hy2⟩ := cz3 BX; clear BX; obtain ⟨hr0, hr1, hr2, hs0, hs1, hs2⟩ := cz3 BR))
      go_still_tail 7, (by kernel_rfl)
      change wpList _ _ _ _ _ w2.drew
      clear hr0 hr1 hr2 hs0 hs1 hs2 hx0 hx1 hx2 hy0 hy1 hy2
      have n0_ := Aside0.mk HI0.out.drew
      have n1_ := Aside0.mk (blk_drew BR.out)
      clear HI0 BR
      have HI0 := n0_
      have BR := n1_
      clear n0_ n1_
      generalize w2.drew = wd at HI0 BR ⊢
      have BX := Aside0.mk HI0.out.box
      obtain ⟨hx0, hx1, hx2, hy0, hy1, hy2⟩ := cz3 BX
      clear BX
      obtain ⟨hr0, hr1, hr2, hs0, hs1, hs2⟩ := cz3 BR
      go_wp2_with (first | ((with_reducible refine gate_dst (N := 3) rfl ?_); refine box_event ?hg (N := 3) ?hd (cs := #[.string nm, .string sd, .int .i64 pn]) (t := 40) ?hr ?_; (case hd => rfl); (case hg => rfl); (case hr => first | (go_simp; done) | (go_simp; rfl)); intro gb hg w1 hbox hb; have n0_ := Aside0.mk (HI0.out.later hb); have n1_ := Aside0.mk hbox; clear HI0 hbox hb hg; have HI0 := n0_; have BR := n1_; clear n0_ n1_; have BX := Aside0.mk HI0.out.box; obtain ⟨hx0, hx1, hx2, hy0, hy1, hy2⟩ := cz3 BX; clear BX; obtain ⟨hr0, hr1, hr2, hs0, hs1, hs2⟩ := cz3 BR) | (go_at_call 63; (with_reducible refine (HT.out A1 c1 A2 c2 A3 c3 _ (Kd.R_reads' HI0.out.r1).2.2 (Kd.R_reads' HI0.out.r1).2.1 (Kd.R_reads' HI0.out.r2).2.2 (Kd.R_reads' HI0.out.r2).2.1 (Kd.R_reads' HI0.out.r3).2.2 (Kd.R_reads' HI0.out.r3).2.1).mono ?_); rintro e w2 ⟨rfl, hb⟩; clear hr0 hr1 hr2 hs0 hs1 hs2 hx0 hx1 hx2 hy0 hy1 hy2; have n0_ := Aside0.mk (HI0.out.later hb); have n1_ := Aside0.mk (blk_below BR.out hb); clear HI0 BR hb; have HI0 := n0_; have BR := n1_; clear n0_ n1_; have BX := Aside0.mk HI0.out.box; obtain ⟨hx0, hx1, hx2, hy0, hy1, hy2⟩ := cz3 BX; clear BX; obtain ⟨hr0, hr1, hr2, hs0, hs1, hs2⟩ := cz3 BR) | (go_at_call 56; (with_reducible refine (HE.out A2 c2 _ (Kd.R_reads' HI0.out.r2).2.2 (Kd.R_reads' HI0.out.r2).2.1).mono ?_); rintro e w2 ⟨rfl, hd⟩; obtain ⟨nd, rfl⟩ := hd; clear hr0 hr1 hr2 hs0 hs1 hs2 hx0 hx1 hx2 hy0 hy1 hy2; have n0_ := Aside0.mk (HI0.out.drawn ⟨⟨nd, rfl⟩⟩); have n1_ := Aside0.mk (blk_drewN BR.out nd); clear HI0 BR; have HI0 := n0_; have BR := n1_; clear n0_ n1_; generalize World.drewN _ nd = w2 at HI0 BR ⊢; have BX := Aside0.mk HI0.out.box; obtain ⟨hx0, hx1, hx2, hy0, hy1, hy2⟩ := cz3 BX; clear BX; obtain ⟨hr0, hr1, hr2, hs0, hs1, hs2⟩ := cz3 BR) | (go_at_call 53; (with_reducible refine (HW.out A1 c1 A2 c2 A3 c3 _ (Kd.R_reads' HI0.out.r1).2.2 (Kd.R_reads' HI0.out.r1).2.1 (Kd.R_reads' HI0.out.r2).2.2 (Kd.R_reads' HI0.out.r2).2.1 (Kd.R_reads' HI0.out.r3).2.2 (Kd.R_reads' HI0.out.r3).2.1).mono ?_); rintro e w2 ⟨rfl, hb⟩; clear hr0 hr1 hr2 hs0 hs1 hs2 hx0 hx1 hx2 hy0 hy1 hy2; have n0_ := Aside0.mk (HI0.out.later hb); have n1_ := Aside0.mk (blk_below BR.out hb); clear HI0 BR hb; have HI0 := n0_; have BR := n1_; clear n0_ n1_; have BX := Aside0.mk HI0.out.box; obtain ⟨hx0, hx1, hx2, hy0, hy1, hy2⟩ := cz3 BX; clear BX; obtain ⟨hr0, hr1, hr2, hs0, hs1, hs2⟩ := cz3 BR) | (go_at_call 57; (with_reducible refine (HO.out A1 c1 A2 c2 A3 c3 _ (Kd.R_reads' HI0.out.r1).2.2 (Kd.R_reads' HI0.out.r1).2.1 (Kd.R_reads' HI0.out.r2).2.2 (Kd.R_reads' HI0.out.r2).2.1 (Kd.R_reads' HI0.out.r3).2.2 (Kd.R_reads' HI0.out.r3).2.1).mono ?_); rintro e w2 ⟨rfl, hb⟩; clear hr0 hr1 hr2 hs0 hs1 hs2 hx0 hx1 hx2 hy0 hy1 hy2; have n0_ := Aside0.mk (HI0.out.later hb); have n1_ := Aside0.mk (blk_below BR.out hb); clear HI0 BR hb; have HI0 := n0_; have BR := n1_; clear n0_ n1_; have BX := Aside0.mk HI0.out.box; obtain ⟨hx0, hx1, hx2, hy0, hy1, hy2⟩ := cz3 BX; clear BX; obtain ⟨hr0, hr1, hr2, hs0, hs1, hs2⟩ := cz3 BR) | (go_at_call 54; (with_reducible refine (HA.out A1 c1 A2 c2 A3 c3 _ (Kd.R_reads' HI0.out.r1).2.2 (Kd.R_reads' HI0.out.r1).2.1 (Kd.R_reads' HI0.out.r2).2.2 (Kd.R_reads' HI0.out.r2).2.1 (Kd.R_reads' HI0.out.r3).2.2 (Kd.R_reads' HI0.out.r3).2.1).mono ?_); rintro e w2 ⟨rfl, hb⟩; clear hr0 hr1 hr2 hs0 hs1 hs2 hx0 hx1 hx2 hy0 hy1 hy2; have n0_ := Aside0.mk (HI0.out.later hb); have n1_ := Aside0.mk (blk_below BR.out hb); clear HI0 BR hb; have HI0 := n0_; have BR := n1_; clear n0_ n1_; have BX := Aside0.mk HI0.out.box; obtain ⟨hx0, hx1, hx2, hy0, hy1, hy2⟩ := cz3 BX; clear BX; obtain ⟨hr0, hr1, hr2, hs0, hs1, hs2⟩ := cz3 BR))
      go_still_tail 5, (by kernel_rfl)
      change wpList _ _ _ _ _ w2.drew
      clear hr0 hr1 hr2 hs0 hs1 hs2 hx0 hx1 hx2 hy0 hy1 hy2
      have n0_ := Aside0.mk HI0.out.drew
      have n1_ := Aside0.mk (blk_drew BR.out)
      clear HI0 BR
      have HI0 := n0_
      have BR := n1_
      clear n0_ n1_
      generalize w2.drew = wd at HI0 BR ⊢
      have BX := Aside0.mk HI0.out.box
      obtain ⟨hx0, hx1, hx2, hy0, hy1, hy2⟩ := cz3 BX
      clear BX
      obtain ⟨hr0, hr1, hr2, hs0, hs1, hs2⟩ := cz3 BR
      go_wp2_with (first | ((with_reducible refine gate_dst (N := 3) rfl ?_); refine box_event ?hg (N := 3) ?hd (cs := #[.string nm, .string sd, .int .i64 pn]) (t := 40) ?hr ?_; (case hd => rfl); (case hg => rfl); (case hr => first | (go_simp; done) | (go_simp; rfl)); intro gb hg w1 hbox hb; have n0_ := Aside0.mk (HI0.out.later hb); have n1_ := Aside0.mk hbox; clear HI0 hbox hb hg; have HI0 := n0_; have BR := n1_; clear n0_ n1_; have BX := Aside0.mk HI0.out.box; obtain ⟨hx0, hx1, hx2, hy0, hy1, hy2⟩ := cz3 BX; clear BX; obtain ⟨hr0, hr1, hr2, hs0, hs1, hs2⟩ := cz3 BR) | (go_at_call 63; (with_reducible refine (HT.out A1 c1 A2 c2 A3 c3 _ (Kd.R_reads' HI0.out.r1).2.2 (Kd.R_reads' HI0.out.r1).2.1 (Kd.R_reads' HI0.out.r2).2.2 (Kd.R_reads' HI0.out.r2).2.1 (Kd.R_reads' HI0.out.r3).2.2 (Kd.R_reads' HI0.out.r3).2.1).mono ?_); rintro e w2 ⟨rfl, hb⟩; clear hr0 hr1 hr2 hs0 hs1 hs2 hx0 hx1 hx2 hy0 hy1 hy2; have n0_ := Aside0.mk (HI0.out.later hb); have n1_ := Aside0.mk (blk_below BR.out hb); clear HI0 BR hb; have HI0 := n0_; have BR := n1_; clear n0_ n1_; have BX := Aside0.mk HI0.out.box; obtain ⟨hx0, hx1, hx2, hy0, hy1, hy2⟩ := cz3 BX; clear BX; obtain ⟨hr0, hr1, hr2, hs0, hs1, hs2⟩ := cz3 BR) | (go_at_call 56; (with_reducible refine (HE.out A2 c2 _ (Kd.R_reads' HI0.out.r2).2.2 (Kd.R_reads' HI0.out.r2).2.1).mono ?_); rintro e w2 ⟨rfl, hd⟩; obtain ⟨nd, rfl⟩ := hd; clear hr0 hr1 hr2 hs0 hs1 hs2 hx0 hx1 hx2 hy0 hy1 hy2; have n0_ := Aside0.mk (HI0.out.drawn ⟨⟨nd, rfl⟩⟩); have n1_ := Aside0.mk (blk_drewN BR.out nd); clear HI0 BR; have HI0 := n0_; have BR := n1_; clear n0_ n1_; generalize World.drewN _ nd = w2 at HI0 BR ⊢; have BX := Aside0.mk HI0.out.box; obtain ⟨hx0, hx1, hx2, hy0, hy1, hy2⟩ := cz3 BX; clear BX; obtain ⟨hr0, hr1, hr2, hs0, hs1, hs2⟩ := cz3 BR) | (go_at_call 53; (with_reducible refine (HW.out A1 c1 A2 c2 A3 c3 _ (Kd.R_reads' HI0.out.r1).2.2 (Kd.R_reads' HI0.out.r1).2.1 (Kd.R_reads' HI0.out.r2).2.2 (Kd.R_reads' HI0.out.r2).2.1 (Kd.R_reads' HI0.out.r3).2.2 (Kd.R_reads' HI0.out.r3).2.1).mono ?_); rintro e w2 ⟨rfl, hb⟩; clear hr0 hr1 hr2 hs0 hs1 hs2 hx0 hx1 hx2 hy0 hy1 hy2; have n0_ := Aside0.mk (HI0.out.later hb); have n1_ := Aside0.mk (blk_below BR.out hb); clear HI0 BR hb; have HI0 := n0_; have BR := n1_; clear n0_ n1_; have BX := Aside0.mk HI0.out.box; obtain ⟨hx0, hx1, hx2, hy0, hy1, hy2⟩ := cz3 BX; clear BX; obtain ⟨hr0, hr1, hr2, hs0, hs1, hs2⟩ := cz3 BR) | (go_at_call 57; (with_reducible refine (HO.out A1 c1 A2 c2 A3 c3 _ (Kd.R_reads' HI0.out.r1).2.2 (Kd.R_reads' HI0.out.r1).2.1 (Kd.R_reads' HI0.out.r2).2.2 (Kd.R_reads' HI0.out.r2).2.1 (Kd.R_reads' HI0.out.r3).2.2 (Kd.R_reads' HI0.out.r3).2.1).mono ?_); rintro e w2 ⟨rfl, hb⟩; clear hr0 hr1 hr2 hs0 hs1 hs2 hx0 hx1 hx2 hy0 hy1 hy2; have n0_ := Aside0.mk (HI0.out.later hb); have n1_ := Aside0.mk (blk_below BR.out hb); clear HI0 BR hb; have HI0 := n0_; have BR := n1_; clear n0_ n1_; have BX := Aside0.mk HI0.out.box; obtain ⟨hx0, hx1, hx2, hy0, hy1, hy2⟩ := cz3 BX; clear BX; obtain ⟨hr0, hr1, hr2, hs0, hs1, hs2⟩ := cz3 BR) | (go_at_call 54; (with_reducible refine (HA.out A1 c1 A2 c2 A3 c3 _ (Kd.R_reads' HI0.out.r1).2.2 (Kd.R_reads' HI0.out.r1).2.1 (Kd.R_reads' HI0.out.r2).2.2 (Kd.R_reads' HI0.out.r2).2.1 (Kd.R_reads' HI0.out.r3).2.2 (Kd.R_reads' HI0.out.r3).2.1).mono ?_); rintro e w2 ⟨rfl, hb⟩; clear hr0 hr1 hr2 hs0 hs1 hs2 hx0 hx1 hx2 hy0 hy1 hy2; have n0_ := Aside0.mk (HI0.out.later hb); have n1_ := Aside0.mk (blk_below BR.out hb); clear HI0 BR hb; have HI0 := n0_; have BR := n1_; clear n0_ n1_; have BX := Aside0.mk HI0.out.box; obtain ⟨hx0, hx1, hx2, hy0, hy1, hy2⟩ := cz3 BX; clear BX; obtain ⟨hr0, hr1, hr2, hs0, hs1, hs2⟩ := cz3 BR))
      go_ret
      exact ⟨_, by rw [addBelayN, if_neg (show ¬ t < 0 by have := HT0.out; omega), if_neg (by simp), if_neg (by simp), if_pos HO0.out]; rfl, by simpa [addBelayB, addBelayN, show ¬ t < 0 by have := HT0.out; omega, HO0.out] using HI0.out⟩
    ·have ho0 : decide (o ≥ 0) = false := decide_eq_false ho
     have ho1 : decide (0 ≤ o) = false := decide_eq_false ho
     have HO0 := Aside0.mk (show o < 0 by omega)
     clear ho
     by_cases ha : a ≥ 0
     ·have hb0 : decide (a ≥ 0) = true := decide_eq_true ha
      have hb1 : decide (0 ≤ a) = true := decide_eq_true ha
      have HA0 := Aside0.mk ha
      clear ha
      go_enter Try.func47, Try.ntmps47
      go_wp2_with (first | ((with_reducible refine gate_dst (N := 3) rfl ?_); refine box_event ?hg (N := 3) ?hd (cs := #[.string nm, .string sd, .int .i64 pn]) (t := 40) ?hr ?_; (case hd => rfl); (case hg => rfl); (case hr => first | (go_simp; done) | (go_simp; rfl)); intro gb hg w1 hbox hb; have n0_ := Aside0.mk (HI0.out.later hb); have n1_ := Aside0.mk hbox; clear HI0 hbox hb hg; have HI0 := n0_; have BR := n1_; clear n0_ n1_; have BX := Aside0.mk HI0.out.box; obtain ⟨hx0, hx1, hx2, hy0, hy1, hy2⟩ := cz3 BX; clear BX; obtain ⟨hr0, hr1, hr2, hs0, hs1, hs2⟩ := cz3 BR) | (go_at_call 63; (with_reducible refine (HT.out A1 c1 A2 c2 A3 c3 _ (Kd.R_reads' HI0.out.r1).2.2 (Kd.R_reads' HI0.out.r1).2.1 (Kd.R_reads' HI0.out.r2).2.2 (Kd.R_reads' HI0.out.r2).2.1 (Kd.R_reads' HI0.out.r3).2.2 (Kd.R_reads' HI0.out.r3).2.1).mono ?_); rintro e w2 ⟨rfl, hb⟩; clear hr0 hr1 hr2 hs0 hs1 hs2 hx0 hx1 hx2 hy0 hy1 hy2; have n0_ := Aside0.mk (HI0.out.later hb); have n1_ := Aside0.mk (blk_below BR.out hb); clear HI0 BR hb; have HI0 := n0_; have BR := n1_; clear n0_ n1_; have BX := Aside0.mk HI0.out.box; obtain ⟨hx0, hx1, hx2, hy0, hy1, hy2⟩ := cz3 BX; clear BX; obtain ⟨hr0, hr1, hr2, hs0, hs1, hs2⟩ := cz3 BR) | (go_at_call 56; (with_reducible refine (HE.out A2 c2 _ (Kd.R_reads' HI0.out.r2).2.2 (Kd.R_reads' HI0.out.r2).2.1).mono ?_); rintro e w2 ⟨rfl, hd⟩; obtain ⟨nd, rfl⟩ := hd; clear hr0 hr1 hr2 hs0 hs1 hs2 hx0 hx1 hx2 hy0 hy1 hy2; have n0_ := Aside0.mk (HI0.out.drawn ⟨⟨nd, rfl⟩⟩); have n1_ := Aside0.mk (blk_drewN BR.out nd); clear HI0 BR; have HI0 := n0_; have BR := n1_; clear n0_ n1_; generalize World.drewN _ nd = w2 at HI0 BR ⊢; have BX := Aside0.mk HI0.out.box; obtain ⟨hx0, hx1, hx2, hy0, hy1, hy2⟩ := cz3 BX; clear BX; obtain ⟨hr0, hr1, hr2, hs0, hs1, hs2⟩ := cz3 BR) | (go_at_call 53; (with_reducible refine (HW.out A1 c1 A2 c2 A3 c3 _ (Kd.R_reads' HI0.out.r1).2.2 (Kd.R_reads' HI0.out.r1).2.1 (Kd.R_reads' HI0.out.r2).2.2 (Kd.R_reads' HI0.out.r2).2.1 (Kd.R_reads' HI0.out.r3).2.2 (Kd.R_reads' HI0.out.r3).2.1).mono ?_); rintro e w2 ⟨rfl, hb⟩; clear hr0 hr1 hr2 hs0 hs1 hs2 hx0 hx1 hx2 hy0 hy1 hy2; have n0_ := Aside0.mk (HI0.out.later hb); have n1_ := Aside0.mk (blk_below BR.out hb); clear HI0 BR hb; have HI0 := n0_; have BR := n1_; clear n0_ n1_; have BX := Aside0.mk HI0.out.box; obtain ⟨hx0, hx1, hx2, hy0, hy1, hy2⟩ := cz3 BX; clear BX; obtain ⟨hr0, hr1, hr2, hs0, hs1, hs2⟩ := cz3 BR) | (go_at_call 57; (with_reducible refine (HO.out A1 c1 A2 c2 A3 c3 _ (Kd.R_reads' HI0.out.r1).2.2 (Kd.R_reads' HI0.out.r1).2.1 (Kd.R_reads' HI0.out.r2).2.2 (Kd.R_reads' HI0.out.r2).2.1 (Kd.R_reads' HI0.out.r3).2.2 (Kd.R_reads' HI0.out.r3).2.1).mono ?_); rintro e w2 ⟨rfl, hb⟩; clear hr0 hr1 hr2 hs0 hs1 hs2 hx0 hx1 hx2 hy0 hy1 hy2; have n0_ := Aside0.mk (HI0.out.later hb); have n1_ := Aside0.mk (blk_below BR.out hb); clear HI0 BR hb; have HI0 := n0_; have BR := n1_; clear n0_ n1_; have BX := Aside0.mk HI0.out.box; obtain ⟨hx0, hx1, hx2, hy0, hy1, hy2⟩ := cz3 BX; clear BX; obtain ⟨hr0, hr1, hr2, hs0, hs1, hs2⟩ := cz3 BR) | (go_at_call 54; (with_reducible refine (HA.out A1 c1 A2 c2 A3 c3 _ (Kd.R_reads' HI0.out.r1).2.2 (Kd.R_reads' HI0.out.r1).2.1 (Kd.R_reads' HI0.out.r2).2.2 (Kd.R_reads' HI0.out.r2).2.1 (Kd.R_reads' HI0.out.r3).2.2 (Kd.R_reads' HI0.out.r3).2.1).mono ?_); rintro e w2 ⟨rfl, hb⟩; clear hr0 hr1 hr2 hs0 hs1 hs2 hx0 hx1 hx2 hy0 hy1 hy2; have n0_ := Aside0.mk (HI0.out.later hb); have n1_ := Aside0.mk (blk_below BR.out hb); clear HI0 BR hb; have HI0 := n0_; have BR := n1_; clear n0_ n1_; have BX := Aside0.mk HI0.out.box; obtain ⟨hx0, hx1, hx2, hy0, hy1, hy2⟩ := cz3 BX; clear BX; obtain ⟨hr0, hr1, hr2, hs0, hs1, hs2⟩ := cz3 BR))
      (first | go_region_held3 (fun w' : World => w'.cell? ⟨g, 0, none⟩ = some (.slice A1 R.length c1) ∧ w'.cell? ⟨g, 1, none⟩ = some (.slice A2 L.length c2) ∧ w'.cell? ⟨g, 2, none⟩ = some (.slice A3 B.length c3) ∧ w'.cell? ⟨gb, 0, none⟩ = some (.string nm) ∧ w'.cell? ⟨gb, 1, none⟩ = some (.string sd) ∧ w'.cell? ⟨gb, 2, none⟩ = some (.int .i64 pn)) (first | exact ⟨hx0, hx1, hx2, hr0, hr1, hr2⟩) (first | (go_at_call 63; (with_reducible refine (HT.out A1 c1 A2 c2 A3 c3 _ (Kd.R_reads' HI0.out.drew.r1).2.2 (Kd.R_reads' HI0.out.drew.r1).2.1 (Kd.R_reads' HI0.out.drew.r2).2.2 (Kd.R_reads' HI0.out.drew.r2).2.1 (Kd.R_reads' HI0.out.drew.r3).2.2 (Kd.R_reads' HI0.out.drew.r3).2.1).mono ?_); rintro e w2 ⟨rfl, hb⟩; clear hr0 hr1 hr2 hs0 hs1 hs2 hx0 hx1 hx2 hy0 hy1 hy2; have n0_ := Aside0.mk (HI0.out.drew.later hb); have n1_ := Aside0.mk (blk_below (blk_drew BR.out) hb); clear HI0 BR hb; have HI0 := n0_; have BR := n1_; clear n0_ n1_; have BX := Aside0.mk HI0.out.box; obtain ⟨hx0, hx1, hx2, hy0, hy1, hy2⟩ := cz3 BX; clear BX; obtain ⟨hr0, hr1, hr2, hs0, hs1, hs2⟩ := cz3 BR) | (go_at_call 56; (with_reducible refine (HE.out A2 c2 _ (Kd.R_reads' HI0.out.r2).2.2 (Kd.R_reads' HI0.out.r2).2.1).mono ?_); rintro e w2 ⟨rfl, hd⟩; obtain ⟨nd, rfl⟩ := hd; clear hr0 hr1 hr2 hs0 hs1 hs2 hx0 hx1 hx2 hy0 hy1 hy2; have n0_ := Aside0.mk (HI0.out.drawn ⟨⟨nd, rfl⟩⟩); have n1_ := Aside0.mk (blk_drewN BR.out nd); clear HI0 BR; have HI0 := n0_; have BR := n1_; clear n0_ n1_; generalize World.drewN _ nd = w2 at HI0 BR ⊢; have BX := Aside0.mk HI0.out.box; obtain ⟨hx0, hx1, hx2, hy0, hy1, hy2⟩ := cz3 BX; clear BX; obtain ⟨hr0, hr1, hr2, hs0, hs1, hs2⟩ := cz3 BR) | (go_at_call 53; (with_reducible refine (HW.out A1 c1 A2 c2 A3 c3 _ (Kd.R_reads' HI0.out.r1).2.2 (Kd.R_reads' HI0.out.r1).2.1 (Kd.R_reads' HI0.out.r2).2.2 (Kd.R_reads' HI0.out.r2).2.1 (Kd.R_reads' HI0.out.r3).2.2 (Kd.R_reads' HI0.out.r3).2.1).mono ?_); rintro e w2 ⟨rfl, hb⟩; clear hr0 hr1 hr2 hs0 hs1 hs2 hx0 hx1 hx2 hy0 hy1 hy2; have n0_ := Aside0.mk (HI0.out.later hb); have n1_ := Aside0.mk (blk_below BR.out hb); clear HI0 BR hb; have HI0 := n0_; have BR := n1_; clear n0_ n1_; have BX := Aside0.mk HI0.out.box; obtain ⟨hx0, hx1, hx2, hy0, hy1, hy2⟩ := cz3 BX; clear BX; obtain ⟨hr0, hr1, hr2, hs0, hs1, hs2⟩ := cz3 BR) | (go_at_call 57; (with_reducible refine (HO.out A1 c1 A2 c2 A3 c3 _ (Kd.R_reads' HI0.out.r1).2.2 (Kd.R_reads' HI0.out.r1).2.1 (Kd.R_reads' HI0.out.r2).2.2 (Kd.R_reads' HI0.out.r2).2.1 (Kd.R_reads' HI0.out.r3).2.2 (Kd.R_reads' HI0.out.r3).2.1).mono ?_); rintro e w2 ⟨rfl, hb⟩; clear hr0 hr1 hr2 hs0 hs1 hs2 hx0 hx1 hx2 hy0 hy1 hy2; have n0_ := Aside0.mk (HI0.out.later hb); have n1_ := Aside0.mk (blk_below BR.out hb); clear HI0 BR hb; have HI0 := n0_; have BR := n1_; clear n0_ n1_; have BX := Aside0.mk HI0.out.box; obtain ⟨hx0, hx1, hx2, hy0, hy1, hy2⟩ := cz3 BX; clear BX; obtain ⟨hr0, hr1, hr2, hs0, hs1, hs2⟩ := cz3 BR) | (go_at_call 54; (with_reducible refine (HA.out A1 c1 A2 c2 A3 c3 _ (Kd.R_reads' HI0.out.r1).2.2 (Kd.R_reads' HI0.out.r1).2.1 (Kd.R_reads' HI0.out.r2).2.2 (Kd.R_reads' HI0.out.r2).2.1 (Kd.R_reads' HI0.out.r3).2.2 (Kd.R_reads' HI0.out.r3).2.1).mono ?_); rintro e w2 ⟨rfl, hb⟩; clear hr0 hr1 hr2 hs0 hs1 hs2 hx0 hx1 hx2 hy0 hy1 hy2; have n0_ := Aside0.mk (HI0.out.later hb); have n1_ := Aside0.mk (blk_below BR.out hb); clear HI0 BR hb; have HI0 := n0_; have BR := n1_; clear n0_ n1_; have BX := Aside0.mk HI0.out.box; obtain ⟨hx0, hx1, hx2, hy0, hy1, hy2⟩ := cz3 BX; clear BX; obtain ⟨hr0, hr1, hr2, hs0, hs1, hs2⟩ := cz3 BR)) | fail)
      all_goals
       go_wp2_with (first | ((with_reducible refine gate_dst (N := 3) rfl ?_); refine box_event ?hg (N := 3) ?hd (cs := #[.string nm, .string sd, .int .i64 pn]) (t := 40) ?hr ?_; (case hd => rfl); (case hg => rfl); (case hr => first | (go_simp; done) | (go_simp; rfl)); intro gb hg w1 hbox hb; have n0_ := Aside0.mk (HI0.out.later hb); have n1_ := Aside0.mk hbox; clear HI0 hbox hb hg; have HI0 := n0_; have BR := n1_; clear n0_ n1_; have BX := Aside0.mk HI0.out.box; obtain ⟨hx0, hx1, hx2, hy0, hy1, hy2⟩ := cz3 BX; clear BX; obtain ⟨hr0, hr1, hr2, hs0, hs1, hs2⟩ := cz3 BR) | (go_at_call 63; (with_reducible refine (HT.out A1 c1 A2 c2 A3 c3 _ (Kd.R_reads' HI0.out.r1).2.2 (Kd.R_reads' HI0.out.r1).2.1 (Kd.R_reads' HI0.out.r2).2.2 (Kd.R_reads' HI0.out.r2).2.1 (Kd.R_reads' HI0.out.r3).2.2 (Kd.R_reads' HI0.out.r3).2.1).mono ?_); rintro e w2 ⟨rfl, hb⟩; clear hr0 hr1 hr2 hs0 hs1 hs2 hx0 hx1 hx2 hy0 hy1 hy2; have n0_ := Aside0.mk (HI0.out.later hb); have n1_ := Aside0.mk (blk_below BR.out hb); clear HI0 BR hb; have HI0 := n0_; have BR := n1_; clear n0_ n1_; have BX := Aside0.mk HI0.out.box; obtain ⟨hx0, hx1, hx2, hy0, hy1, hy2⟩ := cz3 BX; clear BX; obtain ⟨hr0, hr1, hr2, hs0, hs1, hs2⟩ := cz3 BR) | (go_at_call 56; (with_reducible refine (HE.out A2 c2 _ (Kd.R_reads' HI0.out.r2).2.2 (Kd.R_reads' HI0.out.r2).2.1).mono ?_); rintro e w2 ⟨rfl, hd⟩; obtain ⟨nd, rfl⟩ := hd; clear hr0 hr1 hr2 hs0 hs1 hs2 hx0 hx1 hx2 hy0 hy1 hy2; have n0_ := Aside0.mk (HI0.out.drawn ⟨⟨nd, rfl⟩⟩); have n1_ := Aside0.mk (blk_drewN BR.out nd); clear HI0 BR; have HI0 := n0_; have BR := n1_; clear n0_ n1_; generalize World.drewN _ nd = w2 at HI0 BR ⊢; have BX := Aside0.mk HI0.out.box; obtain ⟨hx0, hx1, hx2, hy0, hy1, hy2⟩ := cz3 BX; clear BX; obtain ⟨hr0, hr1, hr2, hs0, hs1, hs2⟩ := cz3 BR) | (go_at_call 53; (with_reducible refine (HW.out A1 c1 A2 c2 A3 c3 _ (Kd.R_reads' HI0.out.r1).2.2 (Kd.R_reads' HI0.out.r1).2.1 (Kd.R_reads' HI0.out.r2).2.2 (Kd.R_reads' HI0.out.r2).2.1 (Kd.R_reads' HI0.out.r3).2.2 (Kd.R_reads' HI0.out.r3).2.1).mono ?_); rintro e w2 ⟨rfl, hb⟩; clear hr0 hr1 hr2 hs0 hs1 hs2 hx0 hx1 hx2 hy0 hy1 hy2; have n0_ := Aside0.mk (HI0.out.later hb); have n1_ := Aside0.mk (blk_below BR.out hb); clear HI0 BR hb; have HI0 := n0_; have BR := n1_; clear n0_ n1_; have BX := Aside0.mk HI0.out.box; obtain ⟨hx0, hx1, hx2, hy0, hy1, hy2⟩ := cz3 BX; clear BX; obtain ⟨hr0, hr1, hr2, hs0, hs1, hs2⟩ := cz3 BR) | (go_at_call 57; (with_reducible refine (HO.out A1 c1 A2 c2 A3 c3 _ (Kd.R_reads' HI0.out.r1).2.2 (Kd.R_reads' HI0.out.r1).2.1 (Kd.R_reads' HI0.out.r2).2.2 (Kd.R_reads' HI0.out.r2).2.1 (Kd.R_reads' HI0.out.r3).2.2 (Kd.R_reads' HI0.out.r3).2.1).mono ?_); rintro e w2 ⟨rfl, hb⟩; clear hr0 hr1 hr2 hs0 hs1 hs2 hx0 hx1 hx2 hy0 hy1 hy2; have n0_ := Aside0.mk (HI0.out.later hb); have n1_ := Aside0.mk (blk_below BR.out hb); clear HI0 BR hb; have HI0 := n0_; have BR := n1_; clear n0_ n1_; have BX := Aside0.mk HI0.out.box; obtain ⟨hx0, hx1, hx2, hy0, hy1, hy2⟩ := cz3 BX; clear BX; obtain ⟨hr0, hr1, hr2, hs0, hs1, hs2⟩ := cz3 BR) | (go_at_call 54; (with_reducible refine (HA.out A1 c1 A2 c2 A3 c3 _ (Kd.R_reads' HI0.out.r1).2.2 (Kd.R_reads' HI0.out.r1).2.1 (Kd.R_reads' HI0.out.r2).2.2 (Kd.R_reads' HI0.out.r2).2.1 (Kd.R_reads' HI0.out.r3).2.2 (Kd.R_reads' HI0.out.r3).2.1).mono ?_); rintro e w2 ⟨rfl, hb⟩; clear hr0 hr1 hr2 hs0 hs1 hs2 hx0 hx1 hx2 hy0 hy1 hy2; have n0_ := Aside0.mk (HI0.out.later hb); have n1_ := Aside0.mk (blk_below BR.out hb); clear HI0 BR hb; have HI0 := n0_; have BR := n1_; clear n0_ n1_; have BX := Aside0.mk HI0.out.box; obtain ⟨hx0, hx1, hx2, hy0, hy1, hy2⟩ := cz3 BX; clear BX; obtain ⟨hr0, hr1, hr2, hs0, hs1, hs2⟩ := cz3 BR))
       go_still_tail 7, (by kernel_rfl)
       change wpList _ _ _ _ _ w2.drew
       clear hr0 hr1 hr2 hs0 hs1 hs2 hx0 hx1 hx2 hy0 hy1 hy2
       have n0_ := Aside0.mk HI0.out.drew
       have n1_ := Aside0.mk (blk_drew BR.out)
       clear HI0 BR
       have HI0 := n0_
       have BR := n1_
       clear n0_ n1_
       generalize w2.drew = wd at HI0 BR ⊢
       have BX := Aside0.mk HI0.out.box
       obtain ⟨hx0, hx1, hx2, hy0, hy1, hy2⟩ := cz3 BX
       clear BX
       obtain ⟨hr0, hr1, hr2, hs0, hs1, hs2⟩ := cz3 BR
       go_wp2_with (first | ((with_reducible refine gate_dst (N := 3) rfl ?_); refine box_event ?hg (N := 3) ?hd (cs := #[.string nm, .string sd, .int .i64 pn]) (t := 40) ?hr ?_; (case hd => rfl); (case hg => rfl); (case hr => first | (go_simp; done) | (go_simp; rfl)); intro gb hg w1 hbox hb; have n0_ := Aside0.mk (HI0.out.later hb); have n1_ := Aside0.mk hbox; clear HI0 hbox hb hg; have HI0 := n0_; have BR := n1_; clear n0_ n1_; have BX := Aside0.mk HI0.out.box; obtain ⟨hx0, hx1, hx2, hy0, hy1, hy2⟩ := cz3 BX; clear BX; obtain ⟨hr0, hr1, hr2, hs0, hs1, hs2⟩ := cz3 BR) | (go_at_call 63; (with_reducible refine (HT.out A1 c1 A2 c2 A3 c3 _ (Kd.R_reads' HI0.out.r1).2.2 (Kd.R_reads' HI0.out.r1).2.1 (Kd.R_reads' HI0.out.r2).2.2 (Kd.R_reads' HI0.out.r2).2.1 (Kd.R_reads' HI0.out.r3).2.2 (Kd.R_reads' HI0.out.r3).2.1).mono ?_); rintro e w2 ⟨rfl, hb⟩; clear hr0 hr1 hr2 hs0 hs1 hs2 hx0 hx1 hx2 hy0 hy1 hy2; have n0_ := Aside0.mk (HI0.out.later hb); have n1_ := Aside0.mk (blk_below BR.out hb); clear HI0 BR hb; have HI0 := n0_; have BR := n1_; clear n0_ n1_; have BX := Aside0.mk HI0.out.box; obtain ⟨hx0, hx1, hx2, hy0, hy1, hy2⟩ := cz3 BX; clear BX; obtain ⟨hr0, hr1, hr2, hs0, hs1, hs2⟩ := cz3 BR) | (go_at_call 56; (with_reducible refine (HE.out A2 c2 _ (Kd.R_reads' HI0.out.r2).2.2 (Kd.R_reads' HI0.out.r2).2.1).mono ?_); rintro e w2 ⟨rfl, hd⟩; obtain ⟨nd, rfl⟩ := hd; clear hr0 hr1 hr2 hs0 hs1 hs2 hx0 hx1 hx2 hy0 hy1 hy2; have n0_ := Aside0.mk (HI0.out.drawn ⟨⟨nd, rfl⟩⟩); have n1_ := Aside0.mk (blk_drewN BR.out nd); clear HI0 BR; have HI0 := n0_; have BR := n1_; clear n0_ n1_; generalize World.drewN _ nd = w2 at HI0 BR ⊢; have BX := Aside0.mk HI0.out.box; obtain ⟨hx0, hx1, hx2, hy0, hy1, hy2⟩ := cz3 BX; clear BX; obtain ⟨hr0, hr1, hr2, hs0, hs1, hs2⟩ := cz3 BR) | (go_at_call 53; (with_reducible refine (HW.out A1 c1 A2 c2 A3 c3 _ (Kd.R_reads' HI0.out.r1).2.2 (Kd.R_reads' HI0.out.r1).2.1 (Kd.R_reads' HI0.out.r2).2.2 (Kd.R_reads' HI0.out.r2).2.1 (Kd.R_reads' HI0.out.r3).2.2 (Kd.R_reads' HI0.out.r3).2.1).mono ?_); rintro e w2 ⟨rfl, hb⟩; clear hr0 hr1 hr2 hs0 hs1 hs2 hx0 hx1 hx2 hy0 hy1 hy2; have n0_ := Aside0.mk (HI0.out.later hb); have n1_ := Aside0.mk (blk_below BR.out hb); clear HI0 BR hb; have HI0 := n0_; have BR := n1_; clear n0_ n1_; have BX := Aside0.mk HI0.out.box; obtain ⟨hx0, hx1, hx2, hy0, hy1, hy2⟩ := cz3 BX; clear BX; obtain ⟨hr0, hr1, hr2, hs0, hs1, hs2⟩ := cz3 BR) | (go_at_call 57; (with_reducible refine (HO.out A1 c1 A2 c2 A3 c3 _ (Kd.R_reads' HI0.out.r1).2.2 (Kd.R_reads' HI0.out.r1).2.1 (Kd.R_reads' HI0.out.r2).2.2 (Kd.R_reads' HI0.out.r2).2.1 (Kd.R_reads' HI0.out.r3).2.2 (Kd.R_reads' HI0.out.r3).2.1).mono ?_); rintro e w2 ⟨rfl, hb⟩; clear hr0 hr1 hr2 hs0 hs1 hs2 hx0 hx1 hx2 hy0 hy1 hy2; have n0_ := Aside0.mk (HI0.out.later hb); have n1_ := Aside0.mk (blk_below BR.out hb); clear HI0 BR hb; have HI0 := n0_; have BR := n1_; clear n0_ n1_; have BX := Aside0.mk HI0.out.box; obtain ⟨hx0, hx1, hx2, hy0, hy1, hy2⟩ := cz3 BX; clear BX; obtain ⟨hr0, hr1, hr2, hs0, hs1, hs2⟩ := cz3 BR) | (go_at_call 54; (with_reducible refine (HA.out A1 c1 A2 c2 A3 c3 _ (Kd.R_reads' HI0.out.r1).2.2 (Kd.R_reads' HI0.out.r1).2.1 (Kd.R_reads' HI0.out.r2).2.2 (Kd.R_reads' HI0.out.r2).2.1 (Kd.R_reads' HI0.out.r3).2.2 (Kd.R_reads' HI0.out.r3).2.1).mono ?_); rintro e w2 ⟨rfl, hb⟩; clear hr0 hr1 hr2 hs0 hs1 hs2 hx0 hx1 hx2 hy0 hy1 hy2; have n0_ := Aside0.mk (HI0.out.later hb); have n1_ := Aside0.mk (blk_below BR.out hb); clear HI0 BR hb; have HI0 := n0_; have BR := n1_; clear n0_ n1_; have BX := Aside0.mk HI0.out.box; obtain ⟨hx0, hx1, hx2, hy0, hy1, hy2⟩ := cz3 BX; clear BX; obtain ⟨hr0, hr1, hr2, hs0, hs1, hs2⟩ := cz3 BR))
       go_still_tail 5, (by kernel_rfl)
       change wpList _ _ _ _ _ w2.drew
       clear hr0 hr1 hr2 hs0 hs1 hs2 hx0 hx1 hx2 hy0 hy1 hy2
       have n0_ := Aside0.mk HI0.out.drew
       have n1_ := Aside0.mk (blk_drew BR.out)
       clear HI0 BR
       have HI0 := n0_
       have BR := n1_
       clear n0_ n1_
       generalize w2.drew = wd at HI0 BR ⊢
       have BX := Aside0.mk HI0.out.box
       obtain ⟨hx0, hx1, hx2, hy0, hy1, hy2⟩ := cz3 BX
       clear BX
       obtain ⟨hr0, hr1, hr2, hs0, hs1, hs2⟩ := cz3 BR
       go_wp2_with (first | ((with_reducible refine gate_dst (N := 3) rfl ?_); refine box_event ?hg (N := 3) ?hd (cs := #[.string nm, .string sd, .int .i64 pn]) (t := 40) ?hr ?_; (case hd => rfl); (case hg => rfl); (case hr => first | (go_simp; done) | (go_simp; rfl)); intro gb hg w1 hbox hb; have n0_ := Aside0.mk (HI0.out.later hb); have n1_ := Aside0.mk hbox; clear HI0 hbox hb hg; have HI0 := n0_; have BR := n1_; clear n0_ n1_; have BX := Aside0.mk HI0.out.box; obtain ⟨hx0, hx1, hx2, hy0, hy1, hy2⟩ := cz3 BX; clear BX; obtain ⟨hr0, hr1, hr2, hs0, hs1, hs2⟩ := cz3 BR) | (go_at_call 63; (with_reducible refine (HT.out A1 c1 A2 c2 A3 c3 _ (Kd.R_reads' HI0.out.r1).2.2 (Kd.R_reads' HI0.out.r1).2.1 (Kd.R_reads' HI0.out.r2).2.2 (Kd.R_reads' HI0.out.r2).2.1 (Kd.R_reads' HI0.out.r3).2.2 (Kd.R_reads' HI0.out.r3).2.1).mono ?_); rintro e w2 ⟨rfl, hb⟩; clear hr0 hr1 hr2 hs0 hs1 hs2 hx0 hx1 hx2 hy0 hy1 hy2; have n0_ := Aside0.mk (HI0.out.later hb); have n1_ := Aside0.mk (blk_below BR.out hb); clear HI0 BR hb; have HI0 := n0_; have BR := n1_; clear n0_ n1_; have BX := Aside0.mk HI0.out.box; obtain ⟨hx0, hx1, hx2, hy0, hy1, hy2⟩ := cz3 BX; clear BX; obtain ⟨hr0, hr1, hr2, hs0, hs1, hs2⟩ := cz3 BR) | (go_at_call 56; (with_reducible refine (HE.out A2 c2 _ (Kd.R_reads' HI0.out.r2).2.2 (Kd.R_reads' HI0.out.r2).2.1).mono ?_); rintro e w2 ⟨rfl, hd⟩; obtain ⟨nd, rfl⟩ := hd; clear hr0 hr1 hr2 hs0 hs1 hs2 hx0 hx1 hx2 hy0 hy1 hy2; have n0_ := Aside0.mk (HI0.out.drawn ⟨⟨nd, rfl⟩⟩); have n1_ := Aside0.mk (blk_drewN BR.out nd); clear HI0 BR; have HI0 := n0_; have BR := n1_; clear n0_ n1_; generalize World.drewN _ nd = w2 at HI0 BR ⊢; have BX := Aside0.mk HI0.out.box; obtain ⟨hx0, hx1, hx2, hy0, hy1, hy2⟩ := cz3 BX; clear BX; obtain ⟨hr0, hr1, hr2, hs0, hs1, hs2⟩ := cz3 BR) | (go_at_call 53; (with_reducible refine (HW.out A1 c1 A2 c2 A3 c3 _ (Kd.R_reads' HI0.out.r1).2.2 (Kd.R_reads' HI0.out.r1).2.1 (Kd.R_reads' HI0.out.r2).2.2 (Kd.R_reads' HI0.out.r2).2.1 (Kd.R_reads' HI0.out.r3).2.2 (Kd.R_reads' HI0.out.r3).2.1).mono ?_); rintro e w2 ⟨rfl, hb⟩; clear hr0 hr1 hr2 hs0 hs1 hs2 hx0 hx1 hx2 hy0 hy1 hy2; have n0_ := Aside0.mk (HI0.out.later hb); have n1_ := Aside0.mk (blk_below BR.out hb); clear HI0 BR hb; have HI0 := n0_; have BR := n1_; clear n0_ n1_; have BX := Aside0.mk HI0.out.box; obtain ⟨hx0, hx1, hx2, hy0, hy1, hy2⟩ := cz3 BX; clear BX; obtain ⟨hr0, hr1, hr2, hs0, hs1, hs2⟩ := cz3 BR) | (go_at_call 57; (with_reducible refine (HO.out A1 c1 A2 c2 A3 c3 _ (Kd.R_reads' HI0.out.r1).2.2 (Kd.R_reads' HI0.out.r1).2.1 (Kd.R_reads' HI0.out.r2).2.2 (Kd.R_reads' HI0.out.r2).2.1 (Kd.R_reads' HI0.out.r3).2.2 (Kd.R_reads' HI0.out.r3).2.1).mono ?_); rintro e w2 ⟨rfl, hb⟩; clear hr0 hr1 hr2 hs0 hs1 hs2 hx0 hx1 hx2 hy0 hy1 hy2; have n0_ := Aside0.mk (HI0.out.later hb); have n1_ := Aside0.mk (blk_below BR.out hb); clear HI0 BR hb; have HI0 := n0_; have BR := n1_; clear n0_ n1_; have BX := Aside0.mk HI0.out.box; obtain ⟨hx0, hx1, hx2, hy0, hy1, hy2⟩ := cz3 BX; clear BX; obtain ⟨hr0, hr1, hr2, hs0, hs1, hs2⟩ := cz3 BR) | (go_at_call 54; (with_reducible refine (HA.out A1 c1 A2 c2 A3 c3 _ (Kd.R_reads' HI0.out.r1).2.2 (Kd.R_reads' HI0.out.r1).2.1 (Kd.R_reads' HI0.out.r2).2.2 (Kd.R_reads' HI0.out.r2).2.1 (Kd.R_reads' HI0.out.r3).2.2 (Kd.R_reads' HI0.out.r3).2.1).mono ?_); rintro e w2 ⟨rfl, hb⟩; clear hr0 hr1 hr2 hs0 hs1 hs2 hx0 hx1 hx2 hy0 hy1 hy2; have n0_ := Aside0.mk (HI0.out.later hb); have n1_ := Aside0.mk (blk_below BR.out hb); clear HI0 BR hb; have HI0 := n0_; have BR := n1_; clear n0_ n1_; have BX := Aside0.mk HI0.out.box; obtain ⟨hx0, hx1, hx2, hy0, hy1, hy2⟩ := cz3 BX; clear BX; obtain ⟨hr0, hr1, hr2, hs0, hs1, hs2⟩ := cz3 BR))
       go_still_tail 7, (by kernel_rfl)
       change wpList _ _ _ _ _ w2.drew
       clear hr0 hr1 hr2 hs0 hs1 hs2 hx0 hx1 hx2 hy0 hy1 hy2
       have n0_ := Aside0.mk HI0.out.drew
       have n1_ := Aside0.mk (blk_drew BR.out)
       clear HI0 BR
       have HI0 := n0_
       have BR := n1_
       clear n0_ n1_
       generalize w2.drew = wd at HI0 BR ⊢
       have BX := Aside0.mk HI0.out.box
       obtain ⟨hx0, hx1, hx2, hy0, hy1, hy2⟩ := cz3 BX
       clear BX
       obtain ⟨hr0, hr1, hr2, hs0, hs1, hs2⟩ := cz3 BR
       go_wp2_with (first | ((with_reducible refine gate_dst (N := 3) rfl ?_); refine box_event ?hg (N := 3) ?hd (cs := #[.string nm, .string sd, .int .i64 pn]) (t := 40) ?hr ?_; (case hd => rfl); (case hg => rfl); (case hr => first | (go_simp; done) | (go_simp; rfl)); intro gb hg w1 hbox hb; have n0_ := Aside0.mk (HI0.out.later hb); have n1_ := Aside0.mk hbox; clear HI0 hbox hb hg; have HI0 := n0_; have BR := n1_; clear n0_ n1_; have BX := Aside0.mk HI0.out.box; obtain ⟨hx0, hx1, hx2, hy0, hy1, hy2⟩ := cz3 BX; clear BX; obtain ⟨hr0, hr1, hr2, hs0, hs1, hs2⟩ := cz3 BR) | (go_at_call 63; (with_reducible refine (HT.out A1 c1 A2 c2 A3 c3 _ (Kd.R_reads' HI0.out.r1).2.2 (Kd.R_reads' HI0.out.r1).2.1 (Kd.R_reads' HI0.out.r2).2.2 (Kd.R_reads' HI0.out.r2).2.1 (Kd.R_reads' HI0.out.r3).2.2 (Kd.R_reads' HI0.out.r3).2.1).mono ?_); rintro e w2 ⟨rfl, hb⟩; clear hr0 hr1 hr2 hs0 hs1 hs2 hx0 hx1 hx2 hy0 hy1 hy2; have n0_ := Aside0.mk (HI0.out.later hb); have n1_ := Aside0.mk (blk_below BR.out hb); clear HI0 BR hb; have HI0 := n0_; have BR := n1_; clear n0_ n1_; have BX := Aside0.mk HI0.out.box; obtain ⟨hx0, hx1, hx2, hy0, hy1, hy2⟩ := cz3 BX; clear BX; obtain ⟨hr0, hr1, hr2, hs0, hs1, hs2⟩ := cz3 BR) | (go_at_call 56; (with_reducible refine (HE.out A2 c2 _ (Kd.R_reads' HI0.out.r2).2.2 (Kd.R_reads' HI0.out.r2).2.1).mono ?_); rintro e w2 ⟨rfl, hd⟩; obtain ⟨nd, rfl⟩ := hd; clear hr0 hr1 hr2 hs0 hs1 hs2 hx0 hx1 hx2 hy0 hy1 hy2; have n0_ := Aside0.mk (HI0.out.drawn ⟨⟨nd, rfl⟩⟩); have n1_ := Aside0.mk (blk_drewN BR.out nd); clear HI0 BR; have HI0 := n0_; have BR := n1_; clear n0_ n1_; generalize World.drewN _ nd = w2 at HI0 BR ⊢; have BX := Aside0.mk HI0.out.box; obtain ⟨hx0, hx1, hx2, hy0, hy1, hy2⟩ := cz3 BX; clear BX; obtain ⟨hr0, hr1, hr2, hs0, hs1, hs2⟩ := cz3 BR) | (go_at_call 53; (with_reducible refine (HW.out A1 c1 A2 c2 A3 c3 _ (Kd.R_reads' HI0.out.r1).2.2 (Kd.R_reads' HI0.out.r1).2.1 (Kd.R_reads' HI0.out.r2).2.2 (Kd.R_reads' HI0.out.r2).2.1 (Kd.R_reads' HI0.out.r3).2.2 (Kd.R_reads' HI0.out.r3).2.1).mono ?_); rintro e w2 ⟨rfl, hb⟩; clear hr0 hr1 hr2 hs0 hs1 hs2 hx0 hx1 hx2 hy0 hy1 hy2; have n0_ := Aside0.mk (HI0.out.later hb); have n1_ := Aside0.mk (blk_below BR.out hb); clear HI0 BR hb; have HI0 := n0_; have BR := n1_; clear n0_ n1_; have BX := Aside0.mk HI0.out.box; obtain ⟨hx0, hx1, hx2, hy0, hy1, hy2⟩ := cz3 BX; clear BX; obtain ⟨hr0, hr1, hr2, hs0, hs1, hs2⟩ := cz3 BR) | (go_at_call 57; (with_reducible refine (HO.out A1 c1 A2 c2 A3 c3 _ (Kd.R_reads' HI0.out.r1).2.2 (Kd.R_reads' HI0.out.r1).2.1 (Kd.R_reads' HI0.out.r2).2.2 (Kd.R_reads' HI0.out.r2).2.1 (Kd.R_reads' HI0.out.r3).2.2 (Kd.R_reads' HI0.out.r3).2.1).mono ?_); rintro e w2 ⟨rfl, hb⟩; clear hr0 hr1 hr2 hs0 hs1 hs2 hx0 hx1 hx2 hy0 hy1 hy2; have n0_ := Aside0.mk (HI0.out.later hb); have n1_ := Aside0.mk (blk_below BR.out hb); clear HI0 BR hb; have HI0 := n0_; have BR := n1_; clear n0_ n1_; have BX := Aside0.mk HI0.out.box; obtain ⟨hx0, hx1, hx2, hy0, hy1, hy2⟩ := cz3 BX; clear BX; obtain ⟨hr0, hr1, hr2, hs0, hs1, hs2⟩ := cz3 BR) | (go_at_call 54; (with_reducible refine (HA.out A1 c1 A2 c2 A3 c3 _ (Kd.R_reads' HI0.out.r1).2.2 (Kd.R_reads' HI0.out.r1).2.1 (Kd.R_reads' HI0.out.r2).2.2 (Kd.R_reads' HI0.out.r2).2.1 (Kd.R_reads' HI0.out.r3).2.2 (Kd.R_reads' HI0.out.r3).2.1).mono ?_); rintro e w2 ⟨rfl, hb⟩; clear hr0 hr1 hr2 hs0 hs1 hs2 hx0 hx1 hx2 hy0 hy1 hy2; have n0_ := Aside0.mk (HI0.out.later hb); have n1_ := Aside0.mk (blk_below BR.out hb); clear HI0 BR hb; have HI0 := n0_; have BR := n1_; clear n0_ n1_; have BX := Aside0.mk HI0.out.box; obtain ⟨hx0, hx1, hx2, hy0, hy1, hy2⟩ := cz3 BX; clear BX; obtain ⟨hr0, hr1, hr2, hs0, hs1, hs2⟩ := cz3 BR))
       go_ret
       exact ⟨_, by rw [addBelayN, if_neg (show ¬ t < 0 by have := HT0.out; omega), if_neg (by simp), if_neg (by simp), if_neg (show ¬ o ≥ 0 by have := HO0.out; omega), if_pos HA0.out]; rfl, by simpa [addBelayB, addBelayN, show ¬ t < 0 by have := HT0.out; omega, show ¬ 0 ≤ o by have := HO0.out; omega, HA0.out] using HI0.out⟩
     ·have hb0 : decide (a ≥ 0) = false := decide_eq_false ha
      have hb1 : decide (0 ≤ a) = false := decide_eq_false ha
      have HA0 := Aside0.mk (show a < 0 by omega)
      clear ha
      go_enter Try.func47, Try.ntmps47
      go_wp2_with (first | ((with_reducible refine gate_dst (N := 3) rfl ?_); refine box_event ?hg (N := 3) ?hd (cs := #[.string nm, .string sd, .int .i64 pn]) (t := 40) ?hr ?_; (case hd => rfl); (case hg => rfl); (case hr => first | (go_simp; done) | (go_simp; rfl)); intro gb hg w1 hbox hb; have n0_ := Aside0.mk (HI0.out.later hb); have n1_ := Aside0.mk hbox; clear HI0 hbox hb hg; have HI0 := n0_; have BR := n1_; clear n0_ n1_; have BX := Aside0.mk HI0.out.box; obtain ⟨hx0, hx1, hx2, hy0, hy1, hy2⟩ := cz3 BX; clear BX; obtain ⟨hr0, hr1, hr2, hs0, hs1, hs2⟩ := cz3 BR) | (go_at_call 63; (with_reducible refine (HT.out A1 c1 A2 c2 A3 c3 _ (Kd.R_reads' HI0.out.r1).2.2 (Kd.R_reads' HI0.out.r1).2.1 (Kd.R_reads' HI0.out.r2).2.2 (Kd.R_reads' HI0.out.r2).2.1 (Kd.R_reads' HI0.out.r3).2.2 (Kd.R_reads' HI0.out.r3).2.1).mono ?_); rintro e w2 ⟨rfl, hb⟩; clear hr0 hr1 hr2 hs0 hs1 hs2 hx0 hx1 hx2 hy0 hy1 hy2; have n0_ := Aside0.mk (HI0.out.later hb); have n1_ := Aside0.mk (blk_below BR.out hb); clear HI0 BR hb; have HI0 := n0_; have BR := n1_; clear n0_ n1_; have BX := Aside0.mk HI0.out.box; obtain ⟨hx0, hx1, hx2, hy0, hy1, hy2⟩ := cz3 BX; clear BX; obtain ⟨hr0, hr1, hr2, hs0, hs1, hs2⟩ := cz3 BR) | (go_at_call 56; (with_reducible refine (HE.out A2 c2 _ (Kd.R_reads' HI0.out.r2).2.2 (Kd.R_reads' HI0.out.r2).2.1).mono ?_); rintro e w2 ⟨rfl, hd⟩; obtain ⟨nd, rfl⟩ := hd; clear hr0 hr1 hr2 hs0 hs1 hs2 hx0 hx1 hx2 hy0 hy1 hy2; have n0_ := Aside0.mk (HI0.out.drawn ⟨⟨nd, rfl⟩⟩); have n1_ := Aside0.mk (blk_drewN BR.out nd); clear HI0 BR; have HI0 := n0_; have BR := n1_; clear n0_ n1_; generalize World.drewN _ nd = w2 at HI0 BR ⊢; have BX := Aside0.mk HI0.out.box; obtain ⟨hx0, hx1, hx2, hy0, hy1, hy2⟩ := cz3 BX; clear BX; obtain ⟨hr0, hr1, hr2, hs0, hs1, hs2⟩ := cz3 BR) | (go_at_call 53; (with_reducible refine (HW.out A1 c1 A2 c2 A3 c3 _ (Kd.R_reads' HI0.out.r1).2.2 (Kd.R_reads' HI0.out.r1).2.1 (Kd.R_reads' HI0.out.r2).2.2 (Kd.R_reads' HI0.out.r2).2.1 (Kd.R_reads' HI0.out.r3).2.2 (Kd.R_reads' HI0.out.r3).2.1).mono ?_); rintro e w2 ⟨rfl, hb⟩; clear hr0 hr1 hr2 hs0 hs1 hs2 hx0 hx1 hx2 hy0 hy1 hy2; have n0_ := Aside0.mk (HI0.out.later hb); have n1_ := Aside0.mk (blk_below BR.out hb); clear HI0 BR hb; have HI0 := n0_; have BR := n1_; clear n0_ n1_; have BX := Aside0.mk HI0.out.box; obtain ⟨hx0, hx1, hx2, hy0, hy1, hy2⟩ := cz3 BX; clear BX; obtain ⟨hr0, hr1, hr2, hs0, hs1, hs2⟩ := cz3 BR) | (go_at_call 57; (with_reducible refine (HO.out A1 c1 A2 c2 A3 c3 _ (Kd.R_reads' HI0.out.r1).2.2 (Kd.R_reads' HI0.out.r1).2.1 (Kd.R_reads' HI0.out.r2).2.2 (Kd.R_reads' HI0.out.r2).2.1 (Kd.R_reads' HI0.out.r3).2.2 (Kd.R_reads' HI0.out.r3).2.1).mono ?_); rintro e w2 ⟨rfl, hb⟩; clear hr0 hr1 hr2 hs0 hs1 hs2 hx0 hx1 hx2 hy0 hy1 hy2; have n0_ := Aside0.mk (HI0.out.later hb); have n1_ := Aside0.mk (blk_below BR.out hb); clear HI0 BR hb; have HI0 := n0_; have BR := n1_; clear n0_ n1_; have BX := Aside0.mk HI0.out.box; obtain ⟨hx0, hx1, hx2, hy0, hy1, hy2⟩ := cz3 BX; clear BX; obtain ⟨hr0, hr1, hr2, hs0, hs1, hs2⟩ := cz3 BR) | (go_at_call 54; (with_reducible refine (HA.out A1 c1 A2 c2 A3 c3 _ (Kd.R_reads' HI0.out.r1).2.2 (Kd.R_reads' HI0.out.r1).2.1 (Kd.R_reads' HI0.out.r2).2.2 (Kd.R_reads' HI0.out.r2).2.1 (Kd.R_reads' HI0.out.r3).2.2 (Kd.R_reads' HI0.out.r3).2.1).mono ?_); rintro e w2 ⟨rfl, hb⟩; clear hr0 hr1 hr2 hs0 hs1 hs2 hx0 hx1 hx2 hy0 hy1 hy2; have n0_ := Aside0.mk (HI0.out.later hb); have n1_ := Aside0.mk (blk_below BR.out hb); clear HI0 BR hb; have HI0 := n0_; have BR := n1_; clear n0_ n1_; have BX := Aside0.mk HI0.out.box; obtain ⟨hx0, hx1, hx2, hy0, hy1, hy2⟩ := cz3 BX; clear BX; obtain ⟨hr0, hr1, hr2, hs0, hs1, hs2⟩ := cz3 BR))
      (first | go_region_held3 (fun w' : World => w'.cell? ⟨g, 0, none⟩ = some (.slice A1 R.length c1) ∧ w'.cell? ⟨g, 1, none⟩ = some (.slice A2 L.length c2) ∧ w'.cell? ⟨g, 2, none⟩ = some (.slice A3 B.length c3) ∧ w'.cell? ⟨gb, 0, none⟩ = some (.string nm) ∧ w'.cell? ⟨gb, 1, none⟩ = some (.string sd) ∧ w'.cell? ⟨gb, 2, none⟩ = some (.int .i64 pn)) (first | exact ⟨hx0, hx1, hx2, hr0, hr1, hr2⟩) (first | (go_at_call 63; (with_reducible refine (HT.out A1 c1 A2 c2 A3 c3 _ (Kd.R_reads' HI0.out.drew.r1).2.2 (Kd.R_reads' HI0.out.drew.r1).2.1 (Kd.R_reads' HI0.out.drew.r2).2.2 (Kd.R_reads' HI0.out.drew.r2).2.1 (Kd.R_reads' HI0.out.drew.r3).2.2 (Kd.R_reads' HI0.out.drew.r3).2.1).mono ?_); rintro e w2 ⟨rfl, hb⟩; clear hr0 hr1 hr2 hs0 hs1 hs2 hx0 hx1 hx2 hy0 hy1 hy2; have n0_ := Aside0.mk (HI0.out.drew.later hb); have n1_ := Aside0.mk (blk_below (blk_drew BR.out) hb); clear HI0 BR hb; have HI0 := n0_; have BR := n1_; clear n0_ n1_; have BX := Aside0.mk HI0.out.box; obtain ⟨hx0, hx1, hx2, hy0, hy1, hy2⟩ := cz3 BX; clear BX; obtain ⟨hr0, hr1, hr2, hs0, hs1, hs2⟩ := cz3 BR) | (go_at_call 56; (with_reducible refine (HE.out A2 c2 _ (Kd.R_reads' HI0.out.r2).2.2 (Kd.R_reads' HI0.out.r2).2.1).mono ?_); rintro e w2 ⟨rfl, hd⟩; obtain ⟨nd, rfl⟩ := hd; clear hr0 hr1 hr2 hs0 hs1 hs2 hx0 hx1 hx2 hy0 hy1 hy2; have n0_ := Aside0.mk (HI0.out.drawn ⟨⟨nd, rfl⟩⟩); have n1_ := Aside0.mk (blk_drewN BR.out nd); clear HI0 BR; have HI0 := n0_; have BR := n1_; clear n0_ n1_; generalize World.drewN _ nd = w2 at HI0 BR ⊢; have BX := Aside0.mk HI0.out.box; obtain ⟨hx0, hx1, hx2, hy0, hy1, hy2⟩ := cz3 BX; clear BX; obtain ⟨hr0, hr1, hr2, hs0, hs1, hs2⟩ := cz3 BR) | (go_at_call 53; (with_reducible refine (HW.out A1 c1 A2 c2 A3 c3 _ (Kd.R_reads' HI0.out.r1).2.2 (Kd.R_reads' HI0.out.r1).2.1 (Kd.R_reads' HI0.out.r2).2.2 (Kd.R_reads' HI0.out.r2).2.1 (Kd.R_reads' HI0.out.r3).2.2 (Kd.R_reads' HI0.out.r3).2.1).mono ?_); rintro e w2 ⟨rfl, hb⟩; clear hr0 hr1 hr2 hs0 hs1 hs2 hx0 hx1 hx2 hy0 hy1 hy2; have n0_ := Aside0.mk (HI0.out.later hb); have n1_ := Aside0.mk (blk_below BR.out hb); clear HI0 BR hb; have HI0 := n0_; have BR := n1_; clear n0_ n1_; have BX := Aside0.mk HI0.out.box; obtain ⟨hx0, hx1, hx2, hy0, hy1, hy2⟩ := cz3 BX; clear BX; obtain ⟨hr0, hr1, hr2, hs0, hs1, hs2⟩ := cz3 BR) | (go_at_call 57; (with_reducible refine (HO.out A1 c1 A2 c2 A3 c3 _ (Kd.R_reads' HI0.out.r1).2.2 (Kd.R_reads' HI0.out.r1).2.1 (Kd.R_reads' HI0.out.r2).2.2 (Kd.R_reads' HI0.out.r2).2.1 (Kd.R_reads' HI0.out.r3).2.2 (Kd.R_reads' HI0.out.r3).2.1).mono ?_); rintro e w2 ⟨rfl, hb⟩; clear hr0 hr1 hr2 hs0 hs1 hs2 hx0 hx1 hx2 hy0 hy1 hy2; have n0_ := Aside0.mk (HI0.out.later hb); have n1_ := Aside0.mk (blk_below BR.out hb); clear HI0 BR hb; have HI0 := n0_; have BR := n1_; clear n0_ n1_; have BX := Aside0.mk HI0.out.box; obtain ⟨hx0, hx1, hx2, hy0, hy1, hy2⟩ := cz3 BX; clear BX; obtain ⟨hr0, hr1, hr2, hs0, hs1, hs2⟩ := cz3 BR) | (go_at_call 54; (with_reducible refine (HA.out A1 c1 A2 c2 A3 c3 _ (Kd.R_reads' HI0.out.r1).2.2 (Kd.R_reads' HI0.out.r1).2.1 (Kd.R_reads' HI0.out.r2).2.2 (Kd.R_reads' HI0.out.r2).2.1 (Kd.R_reads' HI0.out.r3).2.2 (Kd.R_reads' HI0.out.r3).2.1).mono ?_); rintro e w2 ⟨rfl, hb⟩; clear hr0 hr1 hr2 hs0 hs1 hs2 hx0 hx1 hx2 hy0 hy1 hy2; have n0_ := Aside0.mk (HI0.out.later hb); have n1_ := Aside0.mk (blk_below BR.out hb); clear HI0 BR hb; have HI0 := n0_; have BR := n1_; clear n0_ n1_; have BX := Aside0.mk HI0.out.box; obtain ⟨hx0, hx1, hx2, hy0, hy1, hy2⟩ := cz3 BX; clear BX; obtain ⟨hr0, hr1, hr2, hs0, hs1, hs2⟩ := cz3 BR)) | fail)
      all_goals
       go_wp2_with (first | ((with_reducible refine gate_dst (N := 3) rfl ?_); refine box_event ?hg (N := 3) ?hd (cs := #[.string nm, .string sd, .int .i64 pn]) (t := 40) ?hr ?_; (case hd => rfl); (case hg => rfl); (case hr => first | (go_simp; done) | (go_simp; rfl)); intro gb hg w1 hbox hb; have n0_ := Aside0.mk (HI0.out.later hb); have n1_ := Aside0.mk hbox; clear HI0 hbox hb hg; have HI0 := n0_; have BR := n1_; clear n0_ n1_; have BX := Aside0.mk HI0.out.box; obtain ⟨hx0, hx1, hx2, hy0, hy1, hy2⟩ := cz3 BX; clear BX; obtain ⟨hr0, hr1, hr2, hs0, hs1, hs2⟩ := cz3 BR) | (go_at_call 63; (with_reducible refine (HT.out A1 c1 A2 c2 A3 c3 _ (Kd.R_reads' HI0.out.r1).2.2 (Kd.R_reads' HI0.out.r1).2.1 (Kd.R_reads' HI0.out.r2).2.2 (Kd.R_reads' HI0.out.r2).2.1 (Kd.R_reads' HI0.out.r3).2.2 (Kd.R_reads' HI0.out.r3).2.1).mono ?_); rintro e w2 ⟨rfl, hb⟩; clear hr0 hr1 hr2 hs0 hs1 hs2 hx0 hx1 hx2 hy0 hy1 hy2; have n0_ := Aside0.mk (HI0.out.later hb); have n1_ := Aside0.mk (blk_below BR.out hb); clear HI0 BR hb; have HI0 := n0_; have BR := n1_; clear n0_ n1_; have BX := Aside0.mk HI0.out.box; obtain ⟨hx0, hx1, hx2, hy0, hy1, hy2⟩ := cz3 BX; clear BX; obtain ⟨hr0, hr1, hr2, hs0, hs1, hs2⟩ := cz3 BR) | (go_at_call 56; (with_reducible refine (HE.out A2 c2 _ (Kd.R_reads' HI0.out.r2).2.2 (Kd.R_reads' HI0.out.r2).2.1).mono ?_); rintro e w2 ⟨rfl, hd⟩; obtain ⟨nd, rfl⟩ := hd; clear hr0 hr1 hr2 hs0 hs1 hs2 hx0 hx1 hx2 hy0 hy1 hy2; have n0_ := Aside0.mk (HI0.out.drawn ⟨⟨nd, rfl⟩⟩); have n1_ := Aside0.mk (blk_drewN BR.out nd); clear HI0 BR; have HI0 := n0_; have BR := n1_; clear n0_ n1_; generalize World.drewN _ nd = w2 at HI0 BR ⊢; have BX := Aside0.mk HI0.out.box; obtain ⟨hx0, hx1, hx2, hy0, hy1, hy2⟩ := cz3 BX; clear BX; obtain ⟨hr0, hr1, hr2, hs0, hs1, hs2⟩ := cz3 BR) | (go_at_call 53; (with_reducible refine (HW.out A1 c1 A2 c2 A3 c3 _ (Kd.R_reads' HI0.out.r1).2.2 (Kd.R_reads' HI0.out.r1).2.1 (Kd.R_reads' HI0.out.r2).2.2 (Kd.R_reads' HI0.out.r2).2.1 (Kd.R_reads' HI0.out.r3).2.2 (Kd.R_reads' HI0.out.r3).2.1).mono ?_); rintro e w2 ⟨rfl, hb⟩; clear hr0 hr1 hr2 hs0 hs1 hs2 hx0 hx1 hx2 hy0 hy1 hy2; have n0_ := Aside0.mk (HI0.out.later hb); have n1_ := Aside0.mk (blk_below BR.out hb); clear HI0 BR hb; have HI0 := n0_; have BR := n1_; clear n0_ n1_; have BX := Aside0.mk HI0.out.box; obtain ⟨hx0, hx1, hx2, hy0, hy1, hy2⟩ := cz3 BX; clear BX; obtain ⟨hr0, hr1, hr2, hs0, hs1, hs2⟩ := cz3 BR) | (go_at_call 57; (with_reducible refine (HO.out A1 c1 A2 c2 A3 c3 _ (Kd.R_reads' HI0.out.r1).2.2 (Kd.R_reads' HI0.out.r1).2.1 (Kd.R_reads' HI0.out.r2).2.2 (Kd.R_reads' HI0.out.r2).2.1 (Kd.R_reads' HI0.out.r3).2.2 (Kd.R_reads' HI0.out.r3).2.1).mono ?_); rintro e w2 ⟨rfl, hb⟩; clear hr0 hr1 hr2 hs0 hs1 hs2 hx0 hx1 hx2 hy0 hy1 hy2; have n0_ := Aside0.mk (HI0.out.later hb); have n1_ := Aside0.mk (blk_below BR.out hb); clear HI0 BR hb; have HI0 := n0_; have BR := n1_; clear n0_ n1_; have BX := Aside0.mk HI0.out.box; obtain ⟨hx0, hx1, hx2, hy0, hy1, hy2⟩ := cz3 BX; clear BX; obtain ⟨hr0, hr1, hr2, hs0, hs1, hs2⟩ := cz3 BR) | (go_at_call 54; (with_reducible refine (HA.out A1 c1 A2 c2 A3 c3 _ (Kd.R_reads' HI0.out.r1).2.2 (Kd.R_reads' HI0.out.r1).2.1 (Kd.R_reads' HI0.out.r2).2.2 (Kd.R_reads' HI0.out.r2).2.1 (Kd.R_reads' HI0.out.r3).2.2 (Kd.R_reads' HI0.out.r3).2.1).mono ?_); rintro e w2 ⟨rfl, hb⟩; clear hr0 hr1 hr2 hs0 hs1 hs2 hx0 hx1 hx2 hy0 hy1 hy2; have n0_ := Aside0.mk (HI0.out.later hb); have n1_ := Aside0.mk (blk_below BR.out hb); clear HI0 BR hb; have HI0 := n0_; have BR := n1_; clear n0_ n1_; have BX := Aside0.mk HI0.out.box; obtain ⟨hx0, hx1, hx2, hy0, hy1, hy2⟩ := cz3 BX; clear BX; obtain ⟨hr0, hr1, hr2, hs0, hs1, hs2⟩ := cz3 BR))
       go_still_tail 7, (by kernel_rfl)
       change wpList _ _ _ _ _ w2.drew
       clear hr0 hr1 hr2 hs0 hs1 hs2 hx0 hx1 hx2 hy0 hy1 hy2
       have n0_ := Aside0.mk HI0.out.drew
       have n1_ := Aside0.mk (blk_drew BR.out)
       clear HI0 BR
       have HI0 := n0_
       have BR := n1_
       clear n0_ n1_
       generalize w2.drew = wd at HI0 BR ⊢
       have BX := Aside0.mk HI0.out.box
       obtain ⟨hx0, hx1, hx2, hy0, hy1, hy2⟩ := cz3 BX
       clear BX
       obtain ⟨hr0, hr1, hr2, hs0, hs1, hs2⟩ := cz3 BR
       go_wp2_with (first | ((with_reducible refine gate_dst (N := 3) rfl ?_); refine box_event ?hg (N := 3) ?hd (cs := #[.string nm, .string sd, .int .i64 pn]) (t := 40) ?hr ?_; (case hd => rfl); (case hg => rfl); (case hr => first | (go_simp; done) | (go_simp; rfl)); intro gb hg w1 hbox hb; have n0_ := Aside0.mk (HI0.out.later hb); have n1_ := Aside0.mk hbox; clear HI0 hbox hb hg; have HI0 := n0_; have BR := n1_; clear n0_ n1_; have BX := Aside0.mk HI0.out.box; obtain ⟨hx0, hx1, hx2, hy0, hy1, hy2⟩ := cz3 BX; clear BX; obtain ⟨hr0, hr1, hr2, hs0, hs1, hs2⟩ := cz3 BR) | (go_at_call 63; (with_reducible refine (HT.out A1 c1 A2 c2 A3 c3 _ (Kd.R_reads' HI0.out.r1).2.2 (Kd.R_reads' HI0.out.r1).2.1 (Kd.R_reads' HI0.out.r2).2.2 (Kd.R_reads' HI0.out.r2).2.1 (Kd.R_reads' HI0.out.r3).2.2 (Kd.R_reads' HI0.out.r3).2.1).mono ?_); rintro e w2 ⟨rfl, hb⟩; clear hr0 hr1 hr2 hs0 hs1 hs2 hx0 hx1 hx2 hy0 hy1 hy2; have n0_ := Aside0.mk (HI0.out.later hb); have n1_ := Aside0.mk (blk_below BR.out hb); clear HI0 BR hb; have HI0 := n0_; have BR := n1_; clear n0_ n1_; have BX := Aside0.mk HI0.out.box; obtain ⟨hx0, hx1, hx2, hy0, hy1, hy2⟩ := cz3 BX; clear BX; obtain ⟨hr0, hr1, hr2, hs0, hs1, hs2⟩ := cz3 BR) | (go_at_call 56; (with_reducible refine (HE.out A2 c2 _ (Kd.R_reads' HI0.out.r2).2.2 (Kd.R_reads' HI0.out.r2).2.1).mono ?_); rintro e w2 ⟨rfl, hd⟩; obtain ⟨nd, rfl⟩ := hd; clear hr0 hr1 hr2 hs0 hs1 hs2 hx0 hx1 hx2 hy0 hy1 hy2; have n0_ := Aside0.mk (HI0.out.drawn ⟨⟨nd, rfl⟩⟩); have n1_ := Aside0.mk (blk_drewN BR.out nd); clear HI0 BR; have HI0 := n0_; have BR := n1_; clear n0_ n1_; generalize World.drewN _ nd = w2 at HI0 BR ⊢; have BX := Aside0.mk HI0.out.box; obtain ⟨hx0, hx1, hx2, hy0, hy1, hy2⟩ := cz3 BX; clear BX; obtain ⟨hr0, hr1, hr2, hs0, hs1, hs2⟩ := cz3 BR) | (go_at_call 53; (with_reducible refine (HW.out A1 c1 A2 c2 A3 c3 _ (Kd.R_reads' HI0.out.r1).2.2 (Kd.R_reads' HI0.out.r1).2.1 (Kd.R_reads' HI0.out.r2).2.2 (Kd.R_reads' HI0.out.r2).2.1 (Kd.R_reads' HI0.out.r3).2.2 (Kd.R_reads' HI0.out.r3).2.1).mono ?_); rintro e w2 ⟨rfl, hb⟩; clear hr0 hr1 hr2 hs0 hs1 hs2 hx0 hx1 hx2 hy0 hy1 hy2; have n0_ := Aside0.mk (HI0.out.later hb); have n1_ := Aside0.mk (blk_below BR.out hb); clear HI0 BR hb; have HI0 := n0_; have BR := n1_; clear n0_ n1_; have BX := Aside0.mk HI0.out.box; obtain ⟨hx0, hx1, hx2, hy0, hy1, hy2⟩ := cz3 BX; clear BX; obtain ⟨hr0, hr1, hr2, hs0, hs1, hs2⟩ := cz3 BR) | (go_at_call 57; (with_reducible refine (HO.out A1 c1 A2 c2 A3 c3 _ (Kd.R_reads' HI0.out.r1).2.2 (Kd.R_reads' HI0.out.r1).2.1 (Kd.R_reads' HI0.out.r2).2.2 (Kd.R_reads' HI0.out.r2).2.1 (Kd.R_reads' HI0.out.r3).2.2 (Kd.R_reads' HI0.out.r3).2.1).mono ?_); rintro e w2 ⟨rfl, hb⟩; clear hr0 hr1 hr2 hs0 hs1 hs2 hx0 hx1 hx2 hy0 hy1 hy2; have n0_ := Aside0.mk (HI0.out.later hb); have n1_ := Aside0.mk (blk_below BR.out hb); clear HI0 BR hb; have HI0 := n0_; have BR := n1_; clear n0_ n1_; have BX := Aside0.mk HI0.out.box; obtain ⟨hx0, hx1, hx2, hy0, hy1, hy2⟩ := cz3 BX; clear BX; obtain ⟨hr0, hr1, hr2, hs0, hs1, hs2⟩ := cz3 BR) | (go_at_call 54; (with_reducible refine (HA.out A1 c1 A2 c2 A3 c3 _ (Kd.R_reads' HI0.out.r1).2.2 (Kd.R_reads' HI0.out.r1).2.1 (Kd.R_reads' HI0.out.r2).2.2 (Kd.R_reads' HI0.out.r2).2.1 (Kd.R_reads' HI0.out.r3).2.2 (Kd.R_reads' HI0.out.r3).2.1).mono ?_); rintro e w2 ⟨rfl, hb⟩; clear hr0 hr1 hr2 hs0 hs1 hs2 hx0 hx1 hx2 hy0 hy1 hy2; have n0_ := Aside0.mk (HI0.out.later hb); have n1_ := Aside0.mk (blk_below BR.out hb); clear HI0 BR hb; have HI0 := n0_; have BR := n1_; clear n0_ n1_; have BX := Aside0.mk HI0.out.box; obtain ⟨hx0, hx1, hx2, hy0, hy1, hy2⟩ := cz3 BX; clear BX; obtain ⟨hr0, hr1, hr2, hs0, hs1, hs2⟩ := cz3 BR))
       go_still_tail 5, (by kernel_rfl)
       change wpList _ _ _ _ _ w2.drew
       clear hr0 hr1 hr2 hs0 hs1 hs2 hx0 hx1 hx2 hy0 hy1 hy2
       have n0_ := Aside0.mk HI0.out.drew
       have n1_ := Aside0.mk (blk_drew BR.out)
       clear HI0 BR
       have HI0 := n0_
       have BR := n1_
       clear n0_ n1_
       generalize w2.drew = wd at HI0 BR ⊢
       have BX := Aside0.mk HI0.out.box
       obtain ⟨hx0, hx1, hx2, hy0, hy1, hy2⟩ := cz3 BX
       clear BX
       obtain ⟨hr0, hr1, hr2, hs0, hs1, hs2⟩ := cz3 BR
       go_wp2_with (first | ((with_reducible refine gate_dst (N := 3) rfl ?_); refine box_event ?hg (N := 3) ?hd (cs := #[.string nm, .string sd, .int .i64 pn]) (t := 40) ?hr ?_; (case hd => rfl); (case hg => rfl); (case hr => first | (go_simp; done) | (go_simp; rfl)); intro gb hg w1 hbox hb; have n0_ := Aside0.mk (HI0.out.later hb); have n1_ := Aside0.mk hbox; clear HI0 hbox hb hg; have HI0 := n0_; have BR := n1_; clear n0_ n1_; have BX := Aside0.mk HI0.out.box; obtain ⟨hx0, hx1, hx2, hy0, hy1, hy2⟩ := cz3 BX; clear BX; obtain ⟨hr0, hr1, hr2, hs0, hs1, hs2⟩ := cz3 BR) | (go_at_call 63; (with_reducible refine (HT.out A1 c1 A2 c2 A3 c3 _ (Kd.R_reads' HI0.out.r1).2.2 (Kd.R_reads' HI0.out.r1).2.1 (Kd.R_reads' HI0.out.r2).2.2 (Kd.R_reads' HI0.out.r2).2.1 (Kd.R_reads' HI0.out.r3).2.2 (Kd.R_reads' HI0.out.r3).2.1).mono ?_); rintro e w2 ⟨rfl, hb⟩; clear hr0 hr1 hr2 hs0 hs1 hs2 hx0 hx1 hx2 hy0 hy1 hy2; have n0_ := Aside0.mk (HI0.out.later hb); have n1_ := Aside0.mk (blk_below BR.out hb); clear HI0 BR hb; have HI0 := n0_; have BR := n1_; clear n0_ n1_; have BX := Aside0.mk HI0.out.box; obtain ⟨hx0, hx1, hx2, hy0, hy1, hy2⟩ := cz3 BX; clear BX; obtain ⟨hr0, hr1, hr2, hs0, hs1, hs2⟩ := cz3 BR) | (go_at_call 56; (with_reducible refine (HE.out A2 c2 _ (Kd.R_reads' HI0.out.r2).2.2 (Kd.R_reads' HI0.out.r2).2.1).mono ?_); rintro e w2 ⟨rfl, hd⟩; obtain ⟨nd, rfl⟩ := hd; clear hr0 hr1 hr2 hs0 hs1 hs2 hx0 hx1 hx2 hy0 hy1 hy2; have n0_ := Aside0.mk (HI0.out.drawn ⟨⟨nd, rfl⟩⟩); have n1_ := Aside0.mk (blk_drewN BR.out nd); clear HI0 BR; have HI0 := n0_; have BR := n1_; clear n0_ n1_; generalize World.drewN _ nd = w2 at HI0 BR ⊢; have BX := Aside0.mk HI0.out.box; obtain ⟨hx0, hx1, hx2, hy0, hy1, hy2⟩ := cz3 BX; clear BX; obtain ⟨hr0, hr1, hr2, hs0, hs1, hs2⟩ := cz3 BR) | (go_at_call 53; (with_reducible refine (HW.out A1 c1 A2 c2 A3 c3 _ (Kd.R_reads' HI0.out.r1).2.2 (Kd.R_reads' HI0.out.r1).2.1 (Kd.R_reads' HI0.out.r2).2.2 (Kd.R_reads' HI0.out.r2).2.1 (Kd.R_reads' HI0.out.r3).2.2 (Kd.R_reads' HI0.out.r3).2.1).mono ?_); rintro e w2 ⟨rfl, hb⟩; clear hr0 hr1 hr2 hs0 hs1 hs2 hx0 hx1 hx2 hy0 hy1 hy2; have n0_ := Aside0.mk (HI0.out.later hb); have n1_ := Aside0.mk (blk_below BR.out hb); clear HI0 BR hb; have HI0 := n0_; have BR := n1_; clear n0_ n1_; have BX := Aside0.mk HI0.out.box; obtain ⟨hx0, hx1, hx2, hy0, hy1, hy2⟩ := cz3 BX; clear BX; obtain ⟨hr0, hr1, hr2, hs0, hs1, hs2⟩ := cz3 BR) | (go_at_call 57; (with_reducible refine (HO.out A1 c1 A2 c2 A3 c3 _ (Kd.R_reads' HI0.out.r1).2.2 (Kd.R_reads' HI0.out.r1).2.1 (Kd.R_reads' HI0.out.r2).2.2 (Kd.R_reads' HI0.out.r2).2.1 (Kd.R_reads' HI0.out.r3).2.2 (Kd.R_reads' HI0.out.r3).2.1).mono ?_); rintro e w2 ⟨rfl, hb⟩; clear hr0 hr1 hr2 hs0 hs1 hs2 hx0 hx1 hx2 hy0 hy1 hy2; have n0_ := Aside0.mk (HI0.out.later hb); have n1_ := Aside0.mk (blk_below BR.out hb); clear HI0 BR hb; have HI0 := n0_; have BR := n1_; clear n0_ n1_; have BX := Aside0.mk HI0.out.box; obtain ⟨hx0, hx1, hx2, hy0, hy1, hy2⟩ := cz3 BX; clear BX; obtain ⟨hr0, hr1, hr2, hs0, hs1, hs2⟩ := cz3 BR) | (go_at_call 54; (with_reducible refine (HA.out A1 c1 A2 c2 A3 c3 _ (Kd.R_reads' HI0.out.r1).2.2 (Kd.R_reads' HI0.out.r1).2.1 (Kd.R_reads' HI0.out.r2).2.2 (Kd.R_reads' HI0.out.r2).2.1 (Kd.R_reads' HI0.out.r3).2.2 (Kd.R_reads' HI0.out.r3).2.1).mono ?_); rintro e w2 ⟨rfl, hb⟩; clear hr0 hr1 hr2 hs0 hs1 hs2 hx0 hx1 hx2 hy0 hy1 hy2; have n0_ := Aside0.mk (HI0.out.later hb); have n1_ := Aside0.mk (blk_below BR.out hb); clear HI0 BR hb; have HI0 := n0_; have BR := n1_; clear n0_ n1_; have BX := Aside0.mk HI0.out.box; obtain ⟨hx0, hx1, hx2, hy0, hy1, hy2⟩ := cz3 BX; clear BX; obtain ⟨hr0, hr1, hr2, hs0, hs1, hs2⟩ := cz3 BR))
       go_still_tail 7, (by kernel_rfl)
       change wpList _ _ _ _ _ w2.drew
       clear hr0 hr1 hr2 hs0 hs1 hs2 hx0 hx1 hx2 hy0 hy1 hy2
       have n0_ := Aside0.mk HI0.out.drew
       have n1_ := Aside0.mk (blk_drew BR.out)
       clear HI0 BR
       have HI0 := n0_
       have BR := n1_
       clear n0_ n1_
       generalize w2.drew = wd at HI0 BR ⊢
       have BX := Aside0.mk HI0.out.box
       obtain ⟨hx0, hx1, hx2, hy0, hy1, hy2⟩ := cz3 BX
       clear BX
       obtain ⟨hr0, hr1, hr2, hs0, hs1, hs2⟩ := cz3 BR
       go_wp2_with (first | ((with_reducible refine gate_dst (N := 3) rfl ?_); refine box_event ?hg (N := 3) ?hd (cs := #[.string nm, .string sd, .int .i64 pn]) (t := 40) ?hr ?_; (case hd => rfl); (case hg => rfl); (case hr => first | (go_simp; done) | (go_simp; rfl)); intro gb hg w1 hbox hb; have n0_ := Aside0.mk (HI0.out.later hb); have n1_ := Aside0.mk hbox; clear HI0 hbox hb hg; have HI0 := n0_; have BR := n1_; clear n0_ n1_; have BX := Aside0.mk HI0.out.box; obtain ⟨hx0, hx1, hx2, hy0, hy1, hy2⟩ := cz3 BX; clear BX; obtain ⟨hr0, hr1, hr2, hs0, hs1, hs2⟩ := cz3 BR) | (go_at_call 63; (with_reducible refine (HT.out A1 c1 A2 c2 A3 c3 _ (Kd.R_reads' HI0.out.r1).2.2 (Kd.R_reads' HI0.out.r1).2.1 (Kd.R_reads' HI0.out.r2).2.2 (Kd.R_reads' HI0.out.r2).2.1 (Kd.R_reads' HI0.out.r3).2.2 (Kd.R_reads' HI0.out.r3).2.1).mono ?_); rintro e w2 ⟨rfl, hb⟩; clear hr0 hr1 hr2 hs0 hs1 hs2 hx0 hx1 hx2 hy0 hy1 hy2; have n0_ := Aside0.mk (HI0.out.later hb); have n1_ := Aside0.mk (blk_below BR.out hb); clear HI0 BR hb; have HI0 := n0_; have BR := n1_; clear n0_ n1_; have BX := Aside0.mk HI0.out.box; obtain ⟨hx0, hx1, hx2, hy0, hy1, hy2⟩ := cz3 BX; clear BX; obtain ⟨hr0, hr1, hr2, hs0, hs1, hs2⟩ := cz3 BR) | (go_at_call 56; (with_reducible refine (HE.out A2 c2 _ (Kd.R_reads' HI0.out.r2).2.2 (Kd.R_reads' HI0.out.r2).2.1).mono ?_); rintro e w2 ⟨rfl, hd⟩; obtain ⟨nd, rfl⟩ := hd; clear hr0 hr1 hr2 hs0 hs1 hs2 hx0 hx1 hx2 hy0 hy1 hy2; have n0_ := Aside0.mk (HI0.out.drawn ⟨⟨nd, rfl⟩⟩); have n1_ := Aside0.mk (blk_drewN BR.out nd); clear HI0 BR; have HI0 := n0_; have BR := n1_; clear n0_ n1_; generalize World.drewN _ nd = w2 at HI0 BR ⊢; have BX := Aside0.mk HI0.out.box; obtain ⟨hx0, hx1, hx2, hy0, hy1, hy2⟩ := cz3 BX; clear BX; obtain ⟨hr0, hr1, hr2, hs0, hs1, hs2⟩ := cz3 BR) | (go_at_call 53; (with_reducible refine (HW.out A1 c1 A2 c2 A3 c3 _ (Kd.R_reads' HI0.out.r1).2.2 (Kd.R_reads' HI0.out.r1).2.1 (Kd.R_reads' HI0.out.r2).2.2 (Kd.R_reads' HI0.out.r2).2.1 (Kd.R_reads' HI0.out.r3).2.2 (Kd.R_reads' HI0.out.r3).2.1).mono ?_); rintro e w2 ⟨rfl, hb⟩; clear hr0 hr1 hr2 hs0 hs1 hs2 hx0 hx1 hx2 hy0 hy1 hy2; have n0_ := Aside0.mk (HI0.out.later hb); have n1_ := Aside0.mk (blk_below BR.out hb); clear HI0 BR hb; have HI0 := n0_; have BR := n1_; clear n0_ n1_; have BX := Aside0.mk HI0.out.box; obtain ⟨hx0, hx1, hx2, hy0, hy1, hy2⟩ := cz3 BX; clear BX; obtain ⟨hr0, hr1, hr2, hs0, hs1, hs2⟩ := cz3 BR) | (go_at_call 57; (with_reducible refine (HO.out A1 c1 A2 c2 A3 c3 _ (Kd.R_reads' HI0.out.r1).2.2 (Kd.R_reads' HI0.out.r1).2.1 (Kd.R_reads' HI0.out.r2).2.2 (Kd.R_reads' HI0.out.r2).2.1 (Kd.R_reads' HI0.out.r3).2.2 (Kd.R_reads' HI0.out.r3).2.1).mono ?_); rintro e w2 ⟨rfl, hb⟩; clear hr0 hr1 hr2 hs0 hs1 hs2 hx0 hx1 hx2 hy0 hy1 hy2; have n0_ := Aside0.mk (HI0.out.later hb); have n1_ := Aside0.mk (blk_below BR.out hb); clear HI0 BR hb; have HI0 := n0_; have BR := n1_; clear n0_ n1_; have BX := Aside0.mk HI0.out.box; obtain ⟨hx0, hx1, hx2, hy0, hy1, hy2⟩ := cz3 BX; clear BX; obtain ⟨hr0, hr1, hr2, hs0, hs1, hs2⟩ := cz3 BR) | (go_at_call 54; (with_reducible refine (HA.out A1 c1 A2 c2 A3 c3 _ (Kd.R_reads' HI0.out.r1).2.2 (Kd.R_reads' HI0.out.r1).2.1 (Kd.R_reads' HI0.out.r2).2.2 (Kd.R_reads' HI0.out.r2).2.1 (Kd.R_reads' HI0.out.r3).2.2 (Kd.R_reads' HI0.out.r3).2.1).mono ?_); rintro e w2 ⟨rfl, hb⟩; clear hr0 hr1 hr2 hs0 hs1 hs2 hx0 hx1 hx2 hy0 hy1 hy2; have n0_ := Aside0.mk (HI0.out.later hb); have n1_ := Aside0.mk (blk_below BR.out hb); clear HI0 BR hb; have HI0 := n0_; have BR := n1_; clear n0_ n1_; have BX := Aside0.mk HI0.out.box; obtain ⟨hx0, hx1, hx2, hy0, hy1, hy2⟩ := cz3 BX; clear BX; obtain ⟨hr0, hr1, hr2, hs0, hs1, hs2⟩ := cz3 BR))
       have HZ := HI0.out.later (below_alloc (Below.refl w2.heap.size w2) (.cells #[.string nm, .string sd, .int .i64 pn] 40))
       have BZ := Aside0.mk HZ.box
       clear HZ
       obtain ⟨hz0, hz1, hz2, hw0, hw1, hw2⟩ := cz3 BZ
       clear BZ
       go_region_law (refine Kd.R_append_step k40 (w0 := w0) w0.heap.size (by rfl) (.tmp 55) (.tmp 57) 30 40 (.agg #[.string ⟨#[]⟩, .string ⟨#[]⟩, .int .i64 0]) 40 rfl Try.underlying30 info40 rfl (by decide) (by omega) (.slice A3 B.length c3) B (⟨nm, sd, pn⟩ : S40) [.string nm, .string sd, .int .i64 pn] (fun _ => True) (fun _ => False) rfl rfl (k40_mkM _ _ _ _) (fun _ hk => hk.elim) (fun _ _ => trivial) HI0.out.drew.r3 HI0.out.drew.below HI0.out.drew.below.size (by have := HL.out; omega) ?_; intro v3' w6 ho hb hg hat; obtain ⟨A4, c4, rfl⟩ := Kd.R_slice ho; have n0_ := Aside0.mk (HI0.out.drew.grown3 ho hb hg); clear hz0 hz1 hz2 hw0 hw1 hw2; clear hr0 hr1 hr2 hs0 hs1 hs2 hx0 hx1 hx2 hy0 hy1 hy2; clear HI0 BR ho hb hg hat; have HI0 := n0_; clear n0_; have BX := Aside0.mk HI0.out.1; obtain ⟨hx0, hx1, hx2, hy0, hy1, hy2⟩ := cz3 BX; clear BX)
       all_goals
        go_wp2
        go_ret
        exact ⟨_, by rw [addBelayN, if_neg (show ¬ t < 0 by have := HT0.out; omega), if_neg (by simp), if_neg (by simp), if_neg (show ¬ o ≥ 0 by have := HO0.out; omega), if_neg (show ¬ a ≥ 0 by have := HA0.out; omega)]; rfl, by simpa [addBelayB, addBelayN, show ¬ t < 0 by have := HT0.out; omega, show ¬ 0 ≤ o by have := HO0.out; omega, show ¬ 0 ≤ a by have := HA0.out; omega] using HI0.out.2⟩
def impl_addBelay.f (k : Nat) (l0 : List (S69)) (l1 : List ByteArray) (l2 : List (S40)) (a1 : ByteArray) (a2 : ByteArray) (a3 : Int) : Option (Int) := (impl_railNamed.f l0 l1 l2 a2).bind fun t1 => ((slices_Contains_string_string.f k l1 a1).bind fun t2 => ((impl_hasPin.f l0 l1 l2 a2 a3).bind fun t3 => ((impl_belayOf.f l0 l1 l2 a1).bind fun t4 => ((impl_belayAt.f l0 l1 l2 a2 a3).bind fun t5 => (some (addBelayN t1 t2 t3 t4 t5))))))
theorem impl_addBelay.mono : ∀ a0 a1 a2 a3 a4 a5 k, LeO (impl_addBelay.f k a0 a1 a2 a3 a4 a5) (impl_addBelay.f (k + 1) a0 a1 a2 a3 a4 a5) := by
 intro a0 a1 a2 a3 a4 a5 k
 unfold impl_addBelay.f
 repeat' first
  | (with_reducible exact slices_Contains_string_string.mono _ _ _)
  | (with_reducible exact LeO.refl _)
  | (with_reducible exact LeO.none _)
  | (with_reducible refine LeO.ite ?_ ?_)
  | (with_reducible refine LeO.bind ?_ (fun _ => ?_))
theorem idxF_neg {α : Type} (p : α → Bool) (l : List α) (h : idxF p l < 0) : idxF p l = -1 := by
 unfold idxF at h ⊢
 split at h
 ·omega
 ·rfl
theorem impl_addBelay.at (k : Nat) (w0 w : World) (g : Nat) (v1 v2 v3 : Value) (R : List S69) (L : List ByteArray) (B : List S40) (s : S40) (n : Int) (HI : RigAt w0 w g v1 v2 v3 R L B) (hl : B.length ≤ 1048576) (h : impl_addBelay.f k R L B s.f0 s.f1 s.f2 = some n) :
  Calls Try.prog 47 #[.pointer (some ⟨g, 0, none⟩), .agg #[.string s.f0, .string s.f1, .int .i64 s.f2]] w fun e w' => ∃ v3', e = .returned (.int .i64 n) ∧ RigAt w0 w' g v1 v2 v3' R L (addTo n B s) := by
 unfold impl_addBelay.f at h
 obtain ⟨t, h1, h⟩ := Option.bind_eq_some_iff.mp h
 obtain ⟨b2, h2, h⟩ := Option.bind_eq_some_iff.mp h
 obtain ⟨b3, h3, h⟩ := Option.bind_eq_some_iff.mp h
 obtain ⟨o, h4, h⟩ := Option.bind_eq_some_iff.mp h
 obtain ⟨a, h5, h⟩ := Option.bind_eq_some_iff.mp h
 obtain rfl := Option.some.inj h
 exact addBelay_go w0 w g v1 v2 v3 R L B s t o a b2 b3 HI hl (fun ht => by
   unfold impl_railNamed.f at h1
   split at h1
   ·obtain rfl := Option.some.inj h1
    exact idxF_neg _ _ ht
   ·cases h1)
  (fun A1 c1 A2 c2 A3 c3 w p1 q1 p2 q2 p3 q3 => impl_railNamed.calls A1 c1 R A2 c2 L A3 c3 B s.f1 t w p1 q1 p2 q2 p3 q3 h1) (fun A c w hr hc => slices_Contains_string_string.calls k A c L s.f0 b2 w hr hc h2)
  (fun A1 c1 A2 c2 A3 c3 w p1 q1 p2 q2 p3 q3 => impl_hasPin.calls A1 c1 R A2 c2 L A3 c3 B s.f1 s.f2 b3 w p1 q1 p2 q2 p3 q3 h3) (fun A1 c1 A2 c2 A3 c3 w p1 q1 p2 q2 p3 q3 => impl_belayOf.calls A1 c1 R A2 c2 L A3 c3 B s.f0 o w p1 q1 p2 q2 p3 q3 h4)
  (fun A1 c1 A2 c2 A3 c3 w p1 q1 p2 q2 p3 q3 => impl_belayAt.calls A1 c1 R A2 c2 L A3 c3 B s.f1 s.f2 a w p1 q1 p2 q2 p3 q3 h5)

end Go.Proofs.Ytpngklefeaolfaa.PFnExactWrongSides
