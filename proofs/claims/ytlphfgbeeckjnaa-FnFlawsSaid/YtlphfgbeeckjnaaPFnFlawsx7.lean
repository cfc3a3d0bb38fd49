-- Written by a program of this session (wip/tools/pp.sh).
import Derived.Test.YtlphfgbeeckjnaaPFnFlawsx0
import Derived.Test.YtlphfgbeeckjnaaPFnFlawsx1
namespace Go.Proofs.Ytlphfgbeeckjnaa.PFnFlaws
open Go.RowKit Go.Proofs.YtlphfgbeeckjnaaW.PrintWords Go.Proofs.YtlphfgbeeckjnaaW.PrintLast Go.Proofs.YtlphfgbeeckjnaaW.PrintMore Go.Proofs.Ytlphfgbeeckjnaa.Small
open Bool renaming true → T, false → F
attribute [local go_sem] max2_int min2_int max_two min_two max_three min_three max_four min_four   -- for this text's walks alone
set_option linter.unusedVariables false
set_option linter.unusedSimpArgs false

/-! ### laws_a2Has: function 62 -/
def laws_a2Has.l0 : Nat → List Int → Int → Int → Option (Bool)
 | 0, _, _, _ => none
 | k + 1, x0, x1, x5 => if x5 < (x0.length : Int) then (if 0 ≤ x5 then (if (rd x0 x5) = x1 then (some true) else (laws_a2Has.l0 k x0 x1 (wrap64 (x5 + 1)))) else (none)) else (some false)
def laws_a2Has.f (k : Nat) (l0 : List Int) (a1 : Int) : Option (Bool) := laws_a2Has.l0 k l0 a1 0
theorem laws_a2Has.mono_l : ∀ k, (∀ y0 y1 y2, LeO (laws_a2Has.l0 k y0 y1 y2) (laws_a2Has.l0 (k + 1) y0 y1 y2))
 | 0 => fun _ _ _ r h => by simp [laws_a2Has.l0] at h
 | k + 1 => by
  have ih0 := laws_a2Has.mono_l k
  ·intro y0 y1 y2
   unfold laws_a2Has.l0
   repeat' with_reducible first | exact ih0 _ _ _ | exact LeO.refl _ | exact LeO.none _ | refine LeO.ite ?_ ?_ | refine LeO.bind ?_ (fun _ => ?_)
theorem laws_a2Has.mono : ∀ a0 a1 k, LeO (laws_a2Has.f k a0 a1) (laws_a2Has.f (k + 1) a0 a1) := by
 intro a0 a1 k; have ih0 := laws_a2Has.mono_l k; unfold laws_a2Has.f; repeat' with_reducible first | exact ih0 _ _ _ | exact LeO.refl _ | exact LeO.none _ | refine LeO.ite ?_ ?_ | refine LeO.bind ?_ (fun _ => ?_)
set_option maxHeartbeats 8000000 in
set_option maxRecDepth 100000 in
theorem laws_a2Has.calls (k : Nat) (A0 : Option Addr) (c0 : Nat) (l0 : List Int) (a1 : Int) (r : Bool) (w : World) (hr0 : Kd.C (Kd.int .i64) w A0 l0.length l0) (hc0 : l0.length ≤ c0) (h : laws_a2Has.f k l0 a1 = some r) :
  Calls Try.prog 62 #[.slice A0 l0.length c0, .int .i64 a1] w fun e w' => e = .returned (.bool r) ∧ Drawn0 w w' := by
 have HR0 := Aside0.mk hr0; have HC0 := Aside0.mk hc0; clear hr0 hc0; have H : (laws_a2Has.l0 k l0 a1 0) = some r := h; clear h; have H' := Aside0.mk H; clear H; (go_enter Try.func62, Try.ntmps62); (go_wp2); go_loopg [5] k (fun kq v5 w' => ∃ (x5_1 : Int), v5 = .int .i64 x5_1 ∧ Aside0 (laws_a2Has.l0 kq l0 a1 x5_1 = some r) ∧ Aside0 (kq ≤ k) ∧ Drawn0 w w')
 case atStart => exact ⟨(0), zF, H', ⟨Nat.le_refl _⟩, zD⟩
 case round =>
  clear H'; (try clear p2); obtain ⟨x5_1, rfl, HA, HK1, ⟨m1, rfl⟩⟩ := hrel
  cases gk with
  | zero => exact absurd HA.out (by simp [laws_a2Has.l0])
  | succ k1 =>
   have H := HA.out; clear HA; simp only [laws_a2Has.l0] at H; by_cases c3 : x5_1 < (l0.length : Int)
   ·rw [if_pos c3] at H; have c3b0 : decide (x5_1 < (l0.length : Int)) = true := decide_eq_true c3; clear c3; by_cases c4 : 0 ≤ x5_1
    ·rw [if_pos c4] at H; have c4b0 : decide (0 ≤ x5_1) = true := decide_eq_true c4; clear c4; by_cases c5 : (rd l0 x5_1) = a1
     ·rw [if_pos c5] at H; have c5b0 : ((rd l0 x5_1) == a1) = true := beq_iff_eq.mpr c5; have c5b1 : ((rd l0 x5_1) != a1) = false := bne_eq_false_iff_eq.mpr c5; clear c5; obtain rfl := Option.some.inj H; simp only [Option.some.injEq, Prod.mk.injEq] at H; obtain ⟨rfl⟩ := H; have p241 : 0 ≤ (x5_1 : Int) := of_decide_eq_true (by first | (with_reducible assumption) | assumption); have q241 : x5_1 < (l0.length : Int) := of_decide_eq_true (by first | (with_reducible assumption) | assumption); obtain ⟨ad241, e241, hx241_0⟩ := Kd.at_int HR0.out x5_1 p241 q241
      cases e241
      replace p241 := eq_true p241; replace q241 := eq_true q241; (go_wp2); (go_ret); exact ⟨zF, zD⟩
     ·rw [if_neg c5] at H; have c5b0 : ((rd l0 x5_1) == a1) = false := beq_eq_false_iff_ne.mpr c5; have c5b1 : ((rd l0 x5_1) != a1) = true := bne_iff_ne.mpr c5; have H' := Aside0.mk H; clear H; have p241 : 0 ≤ (x5_1 : Int) := of_decide_eq_true (by first | (with_reducible assumption) | assumption); have q241 : x5_1 < (l0.length : Int) := of_decide_eq_true (by first | (with_reducible assumption) | assumption); obtain ⟨ad241, e241, hx241_0⟩ := Kd.at_int HR0.out x5_1 p241 q241
      cases e241
      replace p241 := eq_true p241; replace q241 := eq_true q241; (go_wp2); go_roundg k1
      case measure => have := HK1.out; omega
      case rel => exact ⟨(wrap64 (x5_1 + 1)), zF, H', ⟨by have := HK1.out; omega⟩, zD⟩
    ·rw [if_neg c4] at H; exact absurd H (by simp)
   ·rw [if_neg c3] at H; have c3b0 : decide (x5_1 < (l0.length : Int)) = false := decide_eq_false c3; clear c3; obtain rfl := Option.some.inj H; simp only [Option.some.injEq, Prod.mk.injEq] at H; obtain ⟨rfl⟩ := H; (go_wp2); (go_ret); exact ⟨zF, zD⟩

/-! ### spec_l00In: function 103 -/
def spec_l00In.f (a0 : Int) (a1 : Int) (a2 : Int) : Option (Bool) := if a0 ≥ a1 then (some (decide (a0 ≤ a2))) else (some false)
set_option maxHeartbeats 8000000 in
set_option maxRecDepth 100000 in
theorem spec_l00In.calls (a0 : Int) (a1 : Int) (a2 : Int) (r : Bool) (w : World) (h : spec_l00In.f a0 a1 a2 = some r) :
  Calls Try.prog 103 #[.int .i64 a0, .int .i64 a1, .int .i64 a2] w fun e w' => e = .returned (.bool r) ∧ Drawn0 w w' := by
 have H : (if a0 ≥ a1 then (some (decide (a0 ≤ a2))) else (some false)) = some r := h; clear h; by_cases c4 : a0 ≥ a1
 ·rw [if_pos c4] at H; have c4b0 : decide (a1 ≤ a0) = true := decide_eq_true c4; clear c4; obtain rfl := Option.some.inj H; simp only [Option.some.injEq, Prod.mk.injEq] at H; obtain ⟨rfl⟩ := H; (go_enter Try.func103, Try.ntmps103); (go_wp2); (go_ret); exact ⟨zF, zD⟩
 ·rw [if_neg c4] at H; have c4b0 : decide (a1 ≤ a0) = false := decide_eq_false c4; clear c4; obtain rfl := Option.some.inj H; simp only [Option.some.injEq, Prod.mk.injEq] at H; obtain ⟨rfl⟩ := H; (go_enter Try.func103, Try.ntmps103); (go_wp2); (go_ret); exact ⟨zF, zD⟩

/-! ### spec_l00Rises: function 119 -/
def spec_l00Rises.l0 : Nat → List Int → Int → Int → Int → Option (Bool)
 | 0, _, _, _, _ => none
 | k + 1, x0, x1, x2, x7 => if x7 < (x0.length : Int) then (if 0 ≤ x7 then ((spec_l00In.f (rd x0 x7) x1 x2).bind fun t243 => (if t243 = true then (if x7 > 0 then (if 0 ≤ (wrap64 (x7 - 1)) then (if (wrap64 (x7 - 1)) < (x0.length : Int) then (if (rd x0 (wrap64 (x7 - 1))) ≥ (rd x0 x7) then (some false) else (spec_l00Rises.l0 k x0 x1 x2 (wrap64 (x7 + 1)))) else (none)) else (none)) else (spec_l00Rises.l0 k x0 x1 x2 (wrap64 (x7 + 1)))) else (some false))) else (none)) else (some true)
def spec_l00Rises.f (k : Nat) (l0 : List Int) (a1 : Int) (a2 : Int) : Option (Bool) := spec_l00Rises.l0 k l0 a1 a2 0
theorem spec_l00Rises.mono_l : ∀ k, (∀ y0 y1 y2 y3, LeO (spec_l00Rises.l0 k y0 y1 y2 y3) (spec_l00Rises.l0 (k + 1) y0 y1 y2 y3))
 | 0 => fun _ _ _ _ r h => by simp [spec_l00Rises.l0] at h
 | k + 1 => by
  have ih0 := spec_l00Rises.mono_l k
  ·intro y0 y1 y2 y3
   unfold spec_l00Rises.l0
   repeat' with_reducible first | exact ih0 _ _ _ _ | exact LeO.refl _ | exact LeO.none _ | refine LeO.ite ?_ ?_ | refine LeO.bind ?_ (fun _ => ?_)
theorem spec_l00Rises.mono : ∀ a0 a1 a2 k, LeO (spec_l00Rises.f k a0 a1 a2) (spec_l00Rises.f (k + 1) a0 a1 a2) := by
 intro a0 a1 a2 k; have ih0 := spec_l00Rises.mono_l k; unfold spec_l00Rises.f; repeat' with_reducible first | exact ih0 _ _ _ _ | exact LeO.refl _ | exact LeO.none _ | refine LeO.ite ?_ ?_ | refine LeO.bind ?_ (fun _ => ?_)
set_option maxHeartbeats 8000000 in
set_option maxRecDepth 100000 in
theorem spec_l00Rises.calls (k : Nat) (A0 : Option Addr) (c0 : Nat) (l0 : List Int) (a1 : Int) (a2 : Int) (r : Bool) (w : World) (hr0 : Kd.C (Kd.int .i64) w A0 l0.length l0) (hc0 : l0.length ≤ c0) (h : spec_l00Rises.f k l0 a1 a2 = some r) :
  Calls Try.prog 119 #[.slice A0 l0.length c0, .int .i64 a1, .int .i64 a2] w fun e w' => e = .returned (.bool r) ∧ Drawn0 w w' := by
 have HR0 := Aside0.mk hr0; have HC0 := Aside0.mk hc0; clear hr0 hc0; have H : (spec_l00Rises.l0 k l0 a1 a2 0) = some r := h; clear h; have H' := Aside0.mk H; clear H; (go_enter Try.func119, Try.ntmps119); (go_wp2); (repeat (go_quiet (fail); try go_wp2)); go_loopg [7] k (fun kq v7 w' => ∃ (x7_1 : Int), v7 = .int .i64 x7_1 ∧ Aside0 (spec_l00Rises.l0 kq l0 a1 a2 x7_1 = some r) ∧ Aside0 (kq ≤ k) ∧ Drawn0 w w')
 case atStart => exact ⟨(0), zF, H', ⟨Nat.le_refl _⟩, zD⟩
 case round =>
  clear H'; (try clear c1); (try clear p2); obtain ⟨x7_1, rfl, HA, HK1, ⟨m1, rfl⟩⟩ := hrel
  cases gk with
  | zero => exact absurd HA.out (by simp [spec_l00Rises.l0])
  | succ k1 =>
   have H := HA.out; clear HA; simp only [spec_l00Rises.l0] at H; by_cases c4 : x7_1 < (l0.length : Int)
   ·rw [if_pos c4] at H; have c4b0 : decide (x7_1 < (l0.length : Int)) = true := decide_eq_true c4; clear c4; by_cases c5 : 0 ≤ x7_1
    ·rw [if_pos c5] at H; have c5b0 : decide (0 ≤ x7_1) = true := decide_eq_true c5; clear c5; replace H := Option.bind_eq_some_iff.mp H; obtain ⟨t243, A60, H⟩ := H; (try dsimp only at H); have A6 := Aside0.mk A60; clear A60; by_cases c7 : t243 = true
     ·subst c7; (have H1 : (if x7_1 > 0 then (if 0 ≤ (wrap64 (x7_1 - 1)) then (if (wrap64 (x7_1 - 1)) < (l0.length : Int) then (if (rd l0 (wrap64 (x7_1 - 1))) ≥ (rd l0 x7_1) then (some false) else (spec_l00Rises.l0 k1 l0 a1 a2 (wrap64 (x7_1 + 1)))) else (none)) else (none)) else (spec_l00Rises.l0 k1 l0 a1 a2 (wrap64 (x7_1 + 1)))) = some r := by rw [if_pos rfl] at H; exact H); clear H; have H := H1; clear H1; by_cases c8 : x7_1 > 0
      ·rw [if_pos c8] at H; have c8b0 : decide (0 < x7_1) = true := decide_eq_true c8; clear c8; obtain ⟨ji9, hji9⟩ : ∃ j_ : Int, (wrap64 (x7_1 - 1)) = j_ := ⟨_, rfl⟩; (replace H : (if 0 ≤ (ji9) then (if (ji9) < (l0.length : Int) then (if (rd l0 (ji9)) ≥ (rd l0 x7_1) then (some false) else (spec_l00Rises.l0 k1 l0 a1 a2 (wrap64 (x7_1 + 1)))) else (none)) else (none)) = some r := by first | (rw [hji9] at H; exact H) | (simp only [hji9] at H ⊢; exact H)); (try rw [hji9] at A6); have hji9w : (IntKind.i64.wrap (x7_1 - 1)) = ji9 := (i64_w _).trans hji9; by_cases c10 : 0 ≤ (ji9)
       ·rw [if_pos c10] at H; have c10b0 : decide (0 ≤ (ji9)) = true := decide_eq_true c10; clear c10; by_cases c11 : (ji9) < (l0.length : Int)
        ·rw [if_pos c11] at H; have c11b0 : decide ((ji9) < (l0.length : Int)) = true := decide_eq_true c11; clear c11; have HF_ := Aside0.mk H; clear H; have p242 : 0 ≤ (x7_1 : Int) := of_decide_eq_true (by first | (with_reducible assumption) | assumption); have q242 : x7_1 < (l0.length : Int) := of_decide_eq_true (by first | (with_reducible assumption) | assumption); obtain ⟨ad242, e242, hx242_0⟩ := Kd.at_int HR0.out x7_1 p242 q242
         cases e242
         replace p242 := eq_true p242; replace q242 := eq_true q242; (go_upto_if 37 with (first | (go_at_call 103; (with_reducible refine (spec_l00In.calls (rd l0 x7_1) a1 a2 true _ A6.out).mono ?_); rintro e w' ⟨rfl, ⟨nd, rfl⟩⟩; (try first | exact ⟨rfl, _, World.drewN_drewN _ _ _⟩ | exact ⟨rfl, _, Eq.trans (World.drewN_drewN _ _ _) (congrArg (World.drewN _) (Nat.add_assoc _ _ _))⟩); have p244 : 0 ≤ ((ji9) : Int) := of_decide_eq_true (by first | (with_reducible assumption) | assumption); have q244 : (ji9) < (l0.length : Int) := of_decide_eq_true (by first | (with_reducible assumption) | assumption); obtain ⟨ad244, e244, hx244_0⟩ := Kd.at_int HR0.out (ji9) p244 q244; obtain rfl : ad242 = ad244 := (by injection e244); replace p244 := eq_true p244; replace q244 := eq_true q244; have p245 : 0 ≤ (x7_1 : Int) := of_decide_eq_true (by first | (with_reducible assumption) | assumption); have q245 : x7_1 < (l0.length : Int) := of_decide_eq_true (by first | (with_reducible assumption) | assumption); obtain ⟨ad245, e245, hx245_0⟩ := Kd.at_int HR0.out x7_1 p245 q245; obtain rfl : ad242 = ad245 := (by injection e245); replace p245 := eq_true p245; replace q245 := eq_true q245))); (repeat (go_quiet (first | (go_at_call 103; (with_reducible refine (spec_l00In.calls (rd l0 x7_1) a1 a2 true _ A6.out).mono ?_); rintro e w' ⟨rfl, ⟨nd, rfl⟩⟩; (try first | exact ⟨rfl, _, World.drewN_drewN _ _ _⟩ | exact ⟨rfl, _, Eq.trans (World.drewN_drewN _ _ _) (congrArg (World.drewN _) (Nat.add_assoc _ _ _))⟩); have p244 : 0 ≤ ((ji9) : Int) := of_decide_eq_true (by first | (with_reducible assumption) | assumption); have q244 : (ji9) < (l0.length : Int) := of_decide_eq_true (by first | (with_reducible assumption) | assumption); obtain ⟨ad244, e244, hx244_0⟩ := Kd.at_int HR0.out (ji9) p244 q244; obtain rfl : ad242 = ad244 := (by injection e244); replace p244 := eq_true p244; replace q244 := eq_true q244; have p245 : 0 ≤ (x7_1 : Int) := of_decide_eq_true (by first | (with_reducible assumption) | assumption); have q245 : x7_1 < (l0.length : Int) := of_decide_eq_true (by first | (with_reducible assumption) | assumption); obtain ⟨ad245, e245, hx245_0⟩ := Kd.at_int HR0.out x7_1 p245 q245; obtain rfl : ad242 = ad245 := (by injection e245); replace p245 := eq_true p245; replace q245 := eq_true q245)); go_upto_if 37 with (first | (go_at_call 103; (with_reducible refine (spec_l00In.calls (rd l0 x7_1) a1 a2 true _ A6.out).mono ?_); rintro e w' ⟨rfl, ⟨nd, rfl⟩⟩; (try first | exact ⟨rfl, _, World.drewN_drewN _ _ _⟩ | exact ⟨rfl, _, Eq.trans (World.drewN_drewN _ _ _) (congrArg (World.drewN _) (Nat.add_assoc _ _ _))⟩); have p244 : 0 ≤ ((ji9) : Int) := of_decide_eq_true (by first | (with_reducible assumption) | assumption); have q244 : (ji9) < (l0.length : Int) := of_decide_eq_true (by first | (with_reducible assumption) | assumption); obtain ⟨ad244, e244, hx244_0⟩ := Kd.at_int HR0.out (ji9) p244 q244; obtain rfl : ad242 = ad244 := (by injection e244); replace p244 := eq_true p244; replace q244 := eq_true q244; have p245 : 0 ≤ (x7_1 : Int) := of_decide_eq_true (by first | (with_reducible assumption) | assumption); have q245 : x7_1 < (l0.length : Int) := of_decide_eq_true (by first | (with_reducible assumption) | assumption); obtain ⟨ad245, e245, hx245_0⟩ := Kd.at_int HR0.out x7_1 p245 q245; obtain rfl : ad242 = ad245 := (by injection e245); replace p245 := eq_true p245; replace q245 := eq_true q245)))); (try simp only [Act.put, List.setIfInBounds_toArray, List.set_cons_zero, List.set_cons_succ]); have H := HF_.out; clear HF_; by_cases c12 : (rd l0 (ji9)) ≥ (rd l0 x7_1)
         ·rw [if_pos c12] at H; have c12b0 : decide ((rd l0 x7_1) ≤ (rd l0 (ji9))) = true := decide_eq_true c12; clear c12; (first | rw [c12b0] | (simp only [i64_w, i32_w]; rw [c12b0]) | skip); obtain rfl := Option.some.inj H; simp only [Option.some.injEq, Prod.mk.injEq] at H; obtain ⟨rfl⟩ := H; (go_wp2); (repeat (go_quiet (fail); try go_wp2)); (go_ret); exact ⟨by first | rfl | (simp; done) | (simp only [← hji9] <;> (first | rfl | simp)) | (simp [*]; done), zD⟩
         ·rw [if_neg c12] at H; have c12b0 : decide ((rd l0 x7_1) ≤ (rd l0 (ji9))) = false := decide_eq_false c12; clear c12; (first | rw [c12b0] | (simp only [i64_w, i32_w]; rw [c12b0]) | skip); have H' := Aside0.mk H; clear H; (go_wp2); (repeat (go_quiet (fail); try go_wp2)); go_roundg k1
          case measure => have := HK1.out; omega
          case rel => exact ⟨(wrap64 (x7_1 + 1)), zF, H', ⟨by have := HK1.out; omega⟩, zD⟩
        ·rw [if_neg c11] at H; exact absurd H (by simp)
       ·rw [if_neg c10] at H; exact absurd H (by simp)
      ·rw [if_neg c8] at H; have c8b0 : decide (0 < x7_1) = false := decide_eq_false c8; clear c8; have H' := Aside0.mk H; clear H; have p242 : 0 ≤ (x7_1 : Int) := of_decide_eq_true (by first | (with_reducible assumption) | assumption); have q242 : x7_1 < (l0.length : Int) := of_decide_eq_true (by first | (with_reducible assumption) | assumption); obtain ⟨ad242, e242, hx242_0⟩ := Kd.at_int HR0.out x7_1 p242 q242
       cases e242
       replace p242 := eq_true p242; replace q242 := eq_true q242; (go_wp2_with (first | (go_at_call 103; (with_reducible refine (spec_l00In.calls (rd l0 x7_1) a1 a2 true _ A6.out).mono ?_); rintro e w' ⟨rfl, ⟨nd, rfl⟩⟩; (try first | exact ⟨rfl, _, World.drewN_drewN _ _ _⟩ | exact ⟨rfl, _, Eq.trans (World.drewN_drewN _ _ _) (congrArg (World.drewN _) (Nat.add_assoc _ _ _))⟩)))); (repeat (go_quiet (first | (go_at_call 103; (with_reducible refine (spec_l00In.calls (rd l0 x7_1) a1 a2 true _ A6.out).mono ?_); rintro e w' ⟨rfl, ⟨nd, rfl⟩⟩; (try first | exact ⟨rfl, _, World.drewN_drewN _ _ _⟩ | exact ⟨rfl, _, Eq.trans (World.drewN_drewN _ _ _) (congrArg (World.drewN _) (Nat.add_assoc _ _ _))⟩))); try go_wp2_with (first | (go_at_call 103; (with_reducible refine (spec_l00In.calls (rd l0 x7_1) a1 a2 true _ A6.out).mono ?_); rintro e w' ⟨rfl, ⟨nd, rfl⟩⟩; (try first | exact ⟨rfl, _, World.drewN_drewN _ _ _⟩ | exact ⟨rfl, _, Eq.trans (World.drewN_drewN _ _ _) (congrArg (World.drewN _) (Nat.add_assoc _ _ _))⟩))))); go_roundg k1
       case measure => have := HK1.out; omega
       case rel => exact ⟨(wrap64 (x7_1 + 1)), zF, H', ⟨by have := HK1.out; omega⟩, zD⟩
     ·replace c7 := Bool.eq_false_iff.mpr c7; subst c7; (have H1 : (some false) = some r := by rw [if_neg (show ¬ (false = true) by decide)] at H; exact H); clear H; have H := H1; clear H1; obtain rfl := Option.some.inj H; simp only [Option.some.injEq, Prod.mk.injEq] at H; obtain ⟨rfl⟩ := H; have p242 : 0 ≤ (x7_1 : Int) := of_decide_eq_true (by first | (with_reducible assumption) | assumption); have q242 : x7_1 < (l0.length : Int) := of_decide_eq_true (by first | (with_reducible assumption) | assumption); obtain ⟨ad242, e242, hx242_0⟩ := Kd.at_int HR0.out x7_1 p242 q242
      cases e242
      replace p242 := eq_true p242; replace q242 := eq_true q242; (go_wp2_with (first | (go_at_call 103; (with_reducible refine (spec_l00In.calls (rd l0 x7_1) a1 a2 false _ A6.out).mono ?_); rintro e w' ⟨rfl, ⟨nd, rfl⟩⟩; (try first | exact ⟨rfl, _, World.drewN_drewN _ _ _⟩ | exact ⟨rfl, _, Eq.trans (World.drewN_drewN _ _ _) (congrArg (World.drewN _) (Nat.add_assoc _ _ _))⟩)))); (repeat (go_quiet (first | (go_at_call 103; (with_reducible refine (spec_l00In.calls (rd l0 x7_1) a1 a2 false _ A6.out).mono ?_); rintro e w' ⟨rfl, ⟨nd, rfl⟩⟩; (try first | exact ⟨rfl, _, World.drewN_drewN _ _ _⟩ | exact ⟨rfl, _, Eq.trans (World.drewN_drewN _ _ _) (congrArg (World.drewN _) (Nat.add_assoc _ _ _))⟩))); try go_wp2_with (first | (go_at_call 103; (with_reducible refine (spec_l00In.calls (rd l0 x7_1) a1 a2 false _ A6.out).mono ?_); rintro e w' ⟨rfl, ⟨nd, rfl⟩⟩; (try first | exact ⟨rfl, _, World.drewN_drewN _ _ _⟩ | exact ⟨rfl, _, Eq.trans (World.drewN_drewN _ _ _) (congrArg (World.drewN _) (Nat.add_assoc _ _ _))⟩))))); (go_ret); exact ⟨zF, zD⟩
    ·rw [if_neg c5] at H; exact absurd H (by simp)
   ·rw [if_neg c4] at H; have c4b0 : decide (x7_1 < (l0.length : Int)) = false := decide_eq_false c4; clear c4; obtain rfl := Option.some.inj H; simp only [Option.some.injEq, Prod.mk.injEq] at H; obtain ⟨rfl⟩ := H; (go_wp2); (repeat (go_quiet (fail); try go_wp2)); (go_ret); exact ⟨zF, zD⟩

/-! ### spec_l16One: function 66 -/
def spec_l16One.f (k : Nat) (l0 : List (S29)) : Option (Bool) := if 0 < (l0.length : Int) then ((spec_l00In.f ((rd_T29 l0 0).f0) 1 10000).bind fun t248 => (if t248 = true then (if (((rd_T29 l0 0).f1).length : Int) ≤ 6 then ((spec_l00Rises.f k ((rd_T29 l0 0).f1) 1 (wrap64 (((rd_T29 l0 0).f0) - 1))).bind fun t252 => (some t252)) else (some false)) else (some false))) else (none)
theorem spec_l16One.mono : ∀ a0 k, LeO (spec_l16One.f k a0) (spec_l16One.f (k + 1) a0) := by
 intro a0 k; unfold spec_l16One.f; repeat' with_reducible first | exact spec_l00Rises.mono _ _ _ _ | exact LeO.refl _ | exact LeO.none _ | refine LeO.ite ?_ ?_ | refine LeO.bind ?_ (fun _ => ?_)
set_option maxHeartbeats 8000000 in
set_option maxRecDepth 100000 in
theorem spec_l16One.calls (k : Nat) (A0 : Option Addr) (c0 : Nat) (l0 : List (S29)) (r : Bool) (w : World) (hr0 : Kd.C k29 w A0 l0.length l0) (hc0 : l0.length ≤ c0) (h : spec_l16One.f k l0 = some r) :
  Calls Try.prog 66 #[.pointer A0] w fun e w' => e = .returned (.bool r) ∧ Drawn0 w w' := by
 have HR0 := Aside0.mk hr0; have HC0 := Aside0.mk hc0; clear hr0 hc0; have H : (if 0 < (l0.length : Int) then ((spec_l00In.f ((rd_T29 l0 0).f0) 1 10000).bind fun t248 => (if t248 = true then (if (((rd_T29 l0 0).f1).length : Int) ≤ 6 then ((spec_l00Rises.f k ((rd_T29 l0 0).f1) 1 (wrap64 (((rd_T29 l0 0).f0) - 1))).bind fun t252 => (some t252)) else (some false)) else (some false))) else (none)) = some r := h; clear h; by_cases c2 : 0 < (l0.length : Int)
 ·rw [if_pos c2] at H; have c2b0 : decide (0 < (l0.length : Int)) = true := decide_eq_true c2; have c2b1 : decide (0 < l0.length) = true := decide_eq_true (by omega); clear c2; replace H := Option.bind_eq_some_iff.mp H; obtain ⟨t248, A30, H⟩ := H; (try dsimp only at H); have A3 := Aside0.mk A30; clear A30; by_cases c4 : t248 = true
  ·subst c4; (have H1 : (if (((rd_T29 l0 0).f1).length : Int) ≤ 6 then ((spec_l00Rises.f k ((rd_T29 l0 0).f1) 1 (wrap64 (((rd_T29 l0 0).f0) - 1))).bind fun t252 => (some t252)) else (some false)) = some r := by rw [if_pos rfl] at H; exact H); clear H; have H := H1; clear H1; by_cases c5 : (((rd_T29 l0 0).f1).length : Int) ≤ 6
   ·rw [if_pos c5] at H; have c5b0 : decide ((((rd_T29 l0 0).f1).length : Int) ≤ 6) = true := decide_eq_true c5; have c5b1 : decide (((rd_T29 l0 0).f1).length ≤ 6) = true := decide_eq_true (by omega); clear c5; replace H := Option.bind_eq_some_iff.mp H; obtain ⟨t252, A60, H⟩ := H; (try dsimp only at H); have A6 := Aside0.mk A60; clear A60; obtain rfl := Option.some.inj H; simp only [Option.some.injEq, Prod.mk.injEq] at H; obtain ⟨rfl⟩ := H; have p246 : 0 ≤ (0 : Int) := (by omega); have q246 : 0 < (l0.length : Int) := of_decide_eq_true (by first | (with_reducible assumption) | assumption); obtain ⟨ad246, A246_1, c246_1, e246, hx246_0, hx246_1, hl246_1, hi246_1⟩ := at_T29 HR0.out 0 p246 q246
    cases e246
    have qi246 : (0 < l0.length) = True := eq_true (by omega); (try rw [show ((0 : Int)).toNat = 0 from rfl] at hx246_0); (try rw [show 0 * 2 = 0 from rfl] at hx246_0); (try rw [Addr.add_zero'] at hx246_0); (try rw [show ((0 : Int)).toNat = 0 from rfl] at hx246_1); (try rw [show 0 * 2 = 0 from rfl] at hx246_1); (try rw [Addr.add_zero'] at hx246_1); have HR246_1 := Aside0.mk hi246_1; have HC246_1 := Aside0.mk hl246_1; clear hi246_1 hl246_1; replace p246 := eq_true p246; replace q246 := eq_true q246; have RX246_0 := Aside0.mk hx246_0; clear hx246_0; have RX246_1 := Aside0.mk hx246_1; clear hx246_1; (try have hx247_0 := RX246_0.out); (try have hx247_1 := RX246_1.out); (go_enter Try.func66, Try.ntmps66); (go_wp2_with (first | (go_at_call 103; (with_reducible refine (spec_l00In.calls ((rd_T29 l0 0).f0) 1 10000 true _ A3.out).mono ?_); rintro e w' ⟨rfl, ⟨nd, rfl⟩⟩; (try first | exact ⟨rfl, _, World.drewN_drewN _ _ _⟩ | exact ⟨rfl, _, Eq.trans (World.drewN_drewN _ _ _) (congrArg (World.drewN _) (Nat.add_assoc _ _ _))⟩); (try have hx249_0 := RX246_0.out); (try have hx249_1 := RX246_1.out); (try have hx250_0 := RX246_0.out); (try have hx250_1 := RX246_1.out); (try have hx251_0 := RX246_0.out); (try have hx251_1 := RX246_1.out)) | (go_at_call 119; (try simp only [i64_w]); (with_reducible refine (spec_l00Rises.calls k _ _ ((rd_T29 l0 0).f1) 1 (wrap64 (((rd_T29 l0 0).f0) - 1)) t252 _ ?side1 ?side2 A6.out).mono ?_); (case side1 => (refine zC ?_; exact HR246_1.out)); (case side2 => exact HC246_1.out); rintro e w' ⟨rfl, ⟨nd, rfl⟩⟩; (try first | exact ⟨rfl, _, World.drewN_drewN _ _ _⟩ | exact ⟨rfl, _, Eq.trans (World.drewN_drewN _ _ _) (congrArg (World.drewN _) (Nat.add_assoc _ _ _))⟩)))); (repeat (go_quiet (first | (go_at_call 103; (with_reducible refine (spec_l00In.calls ((rd_T29 l0 0).f0) 1 10000 true _ A3.out).mono ?_); rintro e w' ⟨rfl, ⟨nd, rfl⟩⟩; (try first | exact ⟨rfl, _, World.drewN_drewN _ _ _⟩ | exact ⟨rfl, _, Eq.trans (World.drewN_drewN _ _ _) (congrArg (World.drewN _) (Nat.add_assoc _ _ _))⟩); (try have hx249_0 := RX246_0.out); (try have hx249_1 := RX246_1.out); (try have hx250_0 := RX246_0.out); (try have hx250_1 := RX246_1.out); (try have hx251_0 := RX246_0.out); (try have hx251_1 := RX246_1.out)) | (go_at_call 119; (try simp only [i64_w]); (with_reducible refine (spec_l00Rises.calls k _ _ ((rd_T29 l0 0).f1) 1 (wrap64 (((rd_T29 l0 0).f0) - 1)) t252 _ ?side1 ?side2 A6.out).mono ?_); (case side1 => (refine zC ?_; exact HR246_1.out)); (case side2 => exact HC246_1.out); rintro e w' ⟨rfl, ⟨nd, rfl⟩⟩; (try first | exact ⟨rfl, _, World.drewN_drewN _ _ _⟩ | exact ⟨rfl, _, Eq.trans (World.drewN_drewN _ _ _) (congrArg (World.drewN _) (Nat.add_assoc _ _ _))⟩))); try go_wp2_with (first | (go_at_call 103; (with_reducible refine (spec_l00In.calls ((rd_T29 l0 0).f0) 1 10000 true _ A3.out).mono ?_); rintro e w' ⟨rfl, ⟨nd, rfl⟩⟩; (try first | exact ⟨rfl, _, World.drewN_drewN _ _ _⟩ | exact ⟨rfl, _, Eq.trans (World.drewN_drewN _ _ _) (congrArg (World.drewN _) (Nat.add_assoc _ _ _))⟩); (try have hx249_0 := RX246_0.out); (try have hx249_1 := RX246_1.out); (try have hx250_0 := RX246_0.out); (try have hx250_1 := RX246_1.out); (try have hx251_0 := RX246_0.out); (try have hx251_1 := RX246_1.out)) | (go_at_call 119; (try simp only [i64_w]); (with_reducible refine (spec_l00Rises.calls k _ _ ((rd_T29 l0 0).f1) 1 (wrap64 (((rd_T29 l0 0).f0) - 1)) t252 _ ?side1 ?side2 A6.out).mono ?_); (case side1 => (refine zC ?_; exact HR246_1.out)); (case side2 => exact HC246_1.out); rintro e w' ⟨rfl, ⟨nd, rfl⟩⟩; (try first | exact ⟨rfl, _, World.drewN_drewN _ _ _⟩ | exact ⟨rfl, _, Eq.trans (World.drewN_drewN _ _ _) (congrArg (World.drewN _) (Nat.add_assoc _ _ _))⟩))))); (go_ret); exact ⟨zF, zD⟩
   ·rw [if_neg c5] at H; have c5b0 : decide ((((rd_T29 l0 0).f1).length : Int) ≤ 6) = false := decide_eq_false c5; have c5b1 : decide (((rd_T29 l0 0).f1).length ≤ 6) = false := decide_eq_false (by omega); clear c5; obtain rfl := Option.some.inj H; simp only [Option.some.injEq, Prod.mk.injEq] at H; obtain ⟨rfl⟩ := H; have p246 : 0 ≤ (0 : Int) := (by omega); have q246 : 0 < (l0.length : Int) := of_decide_eq_true (by first | (with_reducible assumption) | assumption); obtain ⟨ad246, A246_1, c246_1, e246, hx246_0, hx246_1, hl246_1, hi246_1⟩ := at_T29 HR0.out 0 p246 q246
    cases e246
    have qi246 : (0 < l0.length) = True := eq_true (by omega); (try rw [show ((0 : Int)).toNat = 0 from rfl] at hx246_0); (try rw [show 0 * 2 = 0 from rfl] at hx246_0); (try rw [Addr.add_zero'] at hx246_0); (try rw [show ((0 : Int)).toNat = 0 from rfl] at hx246_1); (try rw [show 0 * 2 = 0 from rfl] at hx246_1); (try rw [Addr.add_zero'] at hx246_1); have HR246_1 := Aside0.mk hi246_1; have HC246_1 := Aside0.mk hl246_1; clear hi246_1 hl246_1; replace p246 := eq_true p246; replace q246 := eq_true q246; have RX246_0 := Aside0.mk hx246_0; clear hx246_0; have RX246_1 := Aside0.mk hx246_1; clear hx246_1; (try have hx247_0 := RX246_0.out); (try have hx247_1 := RX246_1.out); (go_enter Try.func66, Try.ntmps66); (go_wp2_with (first | (go_at_call 103; (with_reducible refine (spec_l00In.calls ((rd_T29 l0 0).f0) 1 10000 true _ A3.out).mono ?_); rintro e w' ⟨rfl, ⟨nd, rfl⟩⟩; (try first | exact ⟨rfl, _, World.drewN_drewN _ _ _⟩ | exact ⟨rfl, _, Eq.trans (World.drewN_drewN _ _ _) (congrArg (World.drewN _) (Nat.add_assoc _ _ _))⟩); (try have hx249_0 := RX246_0.out); (try have hx249_1 := RX246_1.out)))); (repeat (go_quiet (first | (go_at_call 103; (with_reducible refine (spec_l00In.calls ((rd_T29 l0 0).f0) 1 10000 true _ A3.out).mono ?_); rintro e w' ⟨rfl, ⟨nd, rfl⟩⟩; (try first | exact ⟨rfl, _, World.drewN_drewN _ _ _⟩ | exact ⟨rfl, _, Eq.trans (World.drewN_drewN _ _ _) (congrArg (World.drewN _) (Nat.add_assoc _ _ _))⟩); (try have hx249_0 := RX246_0.out); (try have hx249_1 := RX246_1.out))); try go_wp2_with (first | (go_at_call 103; (with_reducible refine (spec_l00In.calls ((rd_T29 l0 0).f0) 1 10000 true _ A3.out).mono ?_); rintro e w' ⟨rfl, ⟨nd, rfl⟩⟩; (try first | exact ⟨rfl, _, World.drewN_drewN _ _ _⟩ | exact ⟨rfl, _, Eq.trans (World.drewN_drewN _ _ _) (congrArg (World.drewN _) (Nat.add_assoc _ _ _))⟩); (try have hx249_0 := RX246_0.out); (try have hx249_1 := RX246_1.out))))); (go_ret); exact ⟨zF, zD⟩
  ·replace c4 := Bool.eq_false_iff.mpr c4; subst c4; (have H1 : (some false) = some r := by rw [if_neg (show ¬ (false = true) by decide)] at H; exact H); clear H; have H := H1; clear H1; obtain rfl := Option.some.inj H; simp only [Option.some.injEq, Prod.mk.injEq] at H; obtain ⟨rfl⟩ := H; have p246 : 0 ≤ (0 : Int) := (by omega); have q246 : 0 < (l0.length : Int) := of_decide_eq_true (by first | (with_reducible assumption) | assumption); obtain ⟨ad246, A246_1, c246_1, e246, hx246_0, hx246_1, hl246_1, hi246_1⟩ := at_T29 HR0.out 0 p246 q246
   cases e246
   have qi246 : (0 < l0.length) = True := eq_true (by omega); (try rw [show ((0 : Int)).toNat = 0 from rfl] at hx246_0); (try rw [show 0 * 2 = 0 from rfl] at hx246_0); (try rw [Addr.add_zero'] at hx246_0); (try rw [show ((0 : Int)).toNat = 0 from rfl] at hx246_1); (try rw [show 0 * 2 = 0 from rfl] at hx246_1); (try rw [Addr.add_zero'] at hx246_1); have HR246_1 := Aside0.mk hi246_1; have HC246_1 := Aside0.mk hl246_1; clear hi246_1 hl246_1; replace p246 := eq_true p246; replace q246 := eq_true q246; have RX246_0 := Aside0.mk hx246_0; clear hx246_0; have RX246_1 := Aside0.mk hx246_1; clear hx246_1; (try have hx247_0 := RX246_0.out); (try have hx247_1 := RX246_1.out); (go_enter Try.func66, Try.ntmps66); (go_wp2_with (first | (go_at_call 103; (with_reducible refine (spec_l00In.calls ((rd_T29 l0 0).f0) 1 10000 false _ A3.out).mono ?_); rintro e w' ⟨rfl, ⟨nd, rfl⟩⟩; (try first | exact ⟨rfl, _, World.drewN_drewN _ _ _⟩ | exact ⟨rfl, _, Eq.trans (World.drewN_drewN _ _ _) (congrArg (World.drewN _) (Nat.add_assoc _ _ _))⟩)))); (repeat (go_quiet (first | (go_at_call 103; (with_reducible refine (spec_l00In.calls ((rd_T29 l0 0).f0) 1 10000 false _ A3.out).mono ?_); rintro e w' ⟨rfl, ⟨nd, rfl⟩⟩; (try first | exact ⟨rfl, _, World.drewN_drewN _ _ _⟩ | exact ⟨rfl, _, Eq.trans (World.drewN_drewN _ _ _) (congrArg (World.drewN _) (Nat.add_assoc _ _ _))⟩))); try go_wp2_with (first | (go_at_call 103; (with_reducible refine (spec_l00In.calls ((rd_T29 l0 0).f0) 1 10000 false _ A3.out).mono ?_); rintro e w' ⟨rfl, ⟨nd, rfl⟩⟩; (try first | exact ⟨rfl, _, World.drewN_drewN _ _ _⟩ | exact ⟨rfl, _, Eq.trans (World.drewN_drewN _ _ _) (congrArg (World.drewN _) (Nat.add_assoc _ _ _))⟩))))); (go_ret); exact ⟨zF, zD⟩
 ·rw [if_neg c2] at H; exact absurd H (by simp)

/-! ### spec_l16Ok: function 118 -/
def spec_l16Ok.l0 : Nat → List (S29) → Int → Option (Bool)
 | 0, _, _ => none
 | k + 1, x0, x3 => if x3 < (x0.length : Int) then (if 0 ≤ x3 then ((spec_l16One.f k [rd_T29 x0 x3]).bind fun t255 => (if t255 = true then (spec_l16Ok.l0 k x0 (wrap64 (x3 + 1))) else (some false))) else (none)) else (some (decide ((x0.length : Int) ≤ 4)))
def spec_l16Ok.f (k : Nat) (l0 : List (S29)) : Option (Bool) := spec_l16Ok.l0 k l0 0
theorem spec_l16Ok.mono_l : ∀ k, (∀ y0 y1, LeO (spec_l16Ok.l0 k y0 y1) (spec_l16Ok.l0 (k + 1) y0 y1))
 | 0 => fun _ _ r h => by simp [spec_l16Ok.l0] at h
 | k + 1 => by
  have ih0 := spec_l16Ok.mono_l k
  ·intro y0 y1
   unfold spec_l16Ok.l0
   repeat' with_reducible first | exact ih0 _ _ | exact spec_l16One.mono _ _ | exact LeO.refl _ | exact LeO.none _ | refine LeO.ite ?_ ?_ | refine LeO.bind ?_ (fun _ => ?_)
theorem spec_l16Ok.mono : ∀ a0 k, LeO (spec_l16Ok.f k a0) (spec_l16Ok.f (k + 1) a0) := by
 intro a0 k; have ih0 := spec_l16Ok.mono_l k; unfold spec_l16Ok.f; repeat' with_reducible first | exact ih0 _ _ | exact spec_l16One.mono _ _ | exact LeO.refl _ | exact LeO.none _ | refine LeO.ite ?_ ?_ | refine LeO.bind ?_ (fun _ => ?_)
set_option maxHeartbeats 8000000 in
set_option maxRecDepth 100000 in
theorem spec_l16Ok.calls (k : Nat) (A0 : Option Addr) (c0 : Nat) (l0 : List (S29)) (r : Bool) (w : World) (hr0 : Kd.C k29 w A0 l0.length l0) (hc0 : l0.length ≤ c0) (h : spec_l16Ok.f k l0 = some r) :
  Calls Try.prog 118 #[.slice A0 l0.length c0] w fun e w' => e = .returned (.bool r) ∧ Drawn0 w w' := by
 have HR0 := Aside0.mk hr0; have HC0 := Aside0.mk hc0; clear hr0 hc0; have H : (spec_l16Ok.l0 k l0 0) = some r := h; clear h; have H' := Aside0.mk H; clear H; (go_enter Try.func118, Try.ntmps118); (go_wp2); go_loopg [3] k (fun kq v3 w' => ∃ (x3_1 : Int), v3 = .int .i64 x3_1 ∧ Aside0 (spec_l16Ok.l0 kq l0 x3_1 = some r) ∧ Aside0 (kq ≤ k) ∧ Drawn0 w w')
 case atStart => exact ⟨(0), zF, H', ⟨Nat.le_refl _⟩, zD⟩
 case round =>
  clear H'; (try clear c1); obtain ⟨x3_1, rfl, HA, HK1, ⟨m1, rfl⟩⟩ := hrel
  cases gk with
  | zero => exact absurd HA.out (by simp [spec_l16Ok.l0])
  | succ k1 =>
   have H := HA.out; clear HA; simp only [spec_l16Ok.l0] at H; by_cases c2 : x3_1 < (l0.length : Int)
   ·rw [if_pos c2] at H; have c2b0 : decide (x3_1 < (l0.length : Int)) = true := decide_eq_true c2; clear c2; by_cases c3 : 0 ≤ x3_1
    ·rw [if_pos c3] at H; have c3b0 : decide (0 ≤ x3_1) = true := decide_eq_true c3; clear c3; replace H := Option.bind_eq_some_iff.mp H; obtain ⟨t255, A40, H⟩ := H; (try dsimp only at H); have A4 := Aside0.mk A40; clear A40; have HF_ := Aside0.mk H; clear H; have p253 : 0 ≤ (x3_1 : Int) := of_decide_eq_true (by first | (with_reducible assumption) | assumption); have q253 : x3_1 < (l0.length : Int) := of_decide_eq_true (by first | (with_reducible assumption) | assumption); obtain ⟨ad253, A253_1, c253_1, e253, hx253_0, hx253_1, hl253_1, hi253_1⟩ := at_T29 HR0.out x3_1 p253 q253
     cases e253
     have HR253_1 := Aside0.mk hi253_1; have HC253_1 := Aside0.mk hl253_1; clear hi253_1 hl253_1; replace p253 := eq_true p253; replace q253 := eq_true q253; obtain ⟨ae_, ee_, HRe254_⟩ := ro_elem 2 rfl HR0.out z29 x3_1 (by first | exact of_eq_true p253 | exact p253) (by first | exact of_eq_true q253 | exact q253); obtain rfl : ad253 = ae_ := (by injection ee_); have HRe254 := Aside0.mk (show Kd.C k29 w _ [rd_T29 l0 x3_1].length [rd_T29 l0 x3_1] from HRe254_); clear HRe254_; (go_upto_if 14 with (first | ((with_reducible refine gate_callee (f := 66) rfl ?_); refine goesL_ (some 13) rfl rfl Try.func66 (by kernel_rfl) rfl #[.pointer (some (ad253.add (x3_1.toNat * 2)))] rfl zM ?_; (with_reducible refine (spec_l16One.calls k1 _ 1 [rd_T29 l0 x3_1] t255 _ ?side1 ?side2 A4.out).mono ?_); (case side1 => (refine zC ?_; exact HRe254.out)); (case side2 => exact Nat.le_refl _); rintro e w' ⟨rfl, ⟨nd, rfl⟩⟩; refine ⟨_, rfl, ?_⟩))); (try simp only [Act.put, List.setIfInBounds_toArray, List.set_cons_zero, List.set_cons_succ]); have H := HF_.out; clear HF_; by_cases c5 : t255 = true
     ·subst c5; (have H1 : (spec_l16Ok.l0 k1 l0 (wrap64 (x3_1 + 1))) = some r := by rw [if_pos rfl] at H; exact H); clear H; have H := H1; clear H1; have H' := Aside0.mk H; clear H; (go_wp2); go_roundg k1
      case measure => have := HK1.out; omega
      case rel => exact ⟨(wrap64 (x3_1 + 1)), zF, H', ⟨by have := HK1.out; omega⟩, zD⟩
     ·replace c5 := Bool.eq_false_iff.mpr c5; subst c5; (have H1 : (some false) = some r := by rw [if_neg (show ¬ (false = true) by decide)] at H; exact H); clear H; have H := H1; clear H1; obtain rfl := Option.some.inj H; simp only [Option.some.injEq, Prod.mk.injEq] at H; obtain ⟨rfl⟩ := H; (go_wp2); (go_ret); exact ⟨zF, zD⟩
    ·rw [if_neg c3] at H; exact absurd H (by simp)
   ·rw [if_neg c2] at H; have c2b0 : decide (x3_1 < (l0.length : Int)) = false := decide_eq_false c2; clear c2; obtain rfl := Option.some.inj H; simp only [Option.some.injEq, Prod.mk.injEq] at H; obtain ⟨rfl⟩ := H; (go_wp2); (go_ret); exact ⟨zF, zD⟩

/-! ### spec_ValidBolts: function 63 -/
def spec_ValidBolts.f (k : Nat) (l0 : List (S29)) : Option (Bool) := (spec_l16Ok.f k l0).bind fun t256 => (some t256)
theorem spec_ValidBolts.mono : ∀ a0 k, LeO (spec_ValidBolts.f k a0) (spec_ValidBolts.f (k + 1) a0) := by
 intro a0 k; unfold spec_ValidBolts.f; repeat' with_reducible first | exact spec_l16Ok.mono _ _ | exact LeO.refl _ | exact LeO.none _ | refine LeO.ite ?_ ?_ | refine LeO.bind ?_ (fun _ => ?_)
set_option maxHeartbeats 8000000 in
set_option maxRecDepth 100000 in
theorem spec_ValidBolts.calls (k : Nat) (A0 : Option Addr) (c0 : Nat) (l0 : List (S29)) (r : Bool) (w : World) (hr0 : Kd.C k29 w A0 l0.length l0) (hc0 : l0.length ≤ c0) (h : spec_ValidBolts.f k l0 = some r) :
  Calls Try.prog 63 #[.slice A0 l0.length c0] w fun e w' => e = .returned (.bool r) ∧ Drawn0 w w' := by
 have HR0 := Aside0.mk hr0; have HC0 := Aside0.mk hc0; clear hr0 hc0; have H : ((spec_l16Ok.f k l0).bind fun t256 => (some t256)) = some r := h; clear h; replace H := Option.bind_eq_some_iff.mp H; obtain ⟨t256, A20, H⟩ := H; (try dsimp only at H); have A2 := Aside0.mk A20; clear A20; obtain rfl := Option.some.inj H; simp only [Option.some.injEq, Prod.mk.injEq] at H; obtain ⟨rfl⟩ := H; (go_enter Try.func63, Try.ntmps63); (go_wp2_with (first | ((with_reducible refine gate_callee (f := 118) rfl ?_); refine goesL_ (some 4) rfl rfl Try.func118 (by kernel_rfl) rfl #[.slice A0 l0.length c0] rfl zM ?_; (with_reducible refine (spec_l16Ok.calls k _ _ l0 t256 _ ?side1 ?side2 A2.out).mono ?_); (case side1 => (refine zC ?_; exact HR0.out)); (case side2 => exact HC0.out); rintro e w' ⟨rfl, ⟨nd, rfl⟩⟩; refine ⟨_, rfl, ?_⟩))); (go_ret); exact ⟨zF, zD⟩

/-! ### impl_ClothWidths: function 64 -/
mutual
def impl_ClothWidths.j0 : Nat → Int → Int → Int → Bool → Option (Int × Int)
 | 0, _, _, _, _ => none
 | k + 1, x0, x1, x2, x23 => if x23 = true then (some (0, 2)) else (impl_ClothWidths.l0 k x0 x1 x2 1)
def impl_ClothWidths.l0 : Nat → Int → Int → Int → Int → Option (Int × Int)
 | 0, _, _, _, _ => none
 | k + 1, x0, x1, x2, x8 => if (wrap64 ((wrap64 (x8 * x1)) - (wrap64 ((wrap64 (x8 - 1)) * x2)))) < x0 then (impl_ClothWidths.l0 k x0 x1 x2 (wrap64 (x8 + 1))) else (some (x8, 0))
end
def impl_ClothWidths.f (k : Nat) (a0 : Int) (a1 : Int) (a2 : Int) : Option (Int × Int) := (impl_within.f a0 1 10000).bind fun t257 => (if t257 = true then ((impl_within.f a1 1 1000).bind fun t258 => (if t258 = true then ((impl_within.f a2 0 (wrap64 (a1 - 1))).bind fun t259 => (impl_ClothWidths.j0 k a0 a1 a2 (!t259))) else (impl_ClothWidths.j0 k a0 a1 a2 true))) else (impl_ClothWidths.j0 k a0 a1 a2 true))
theorem impl_ClothWidths.mono_l : ∀ k, (∀ y0 y1 y2 y3, LeO (impl_ClothWidths.j0 k y0 y1 y2 y3) (impl_ClothWidths.j0 (k + 1) y0 y1 y2 y3)) ∧ (∀ y0 y1 y2 y3, LeO (impl_ClothWidths.l0 k y0 y1 y2 y3) (impl_ClothWidths.l0 (k + 1) y0 y1 y2 y3))
 | 0 => ⟨fun _ _ _ _ r h => by simp [impl_ClothWidths.j0] at h, fun _ _ _ _ r h => by simp [impl_ClothWidths.l0] at h⟩
 | k + 1 => by
  obtain ⟨ih0, ih1⟩ := impl_ClothWidths.mono_l k
  refine ⟨?_, ?_⟩
  ·intro y0 y1 y2 y3
   unfold impl_ClothWidths.j0
   repeat' with_reducible first | exact ih0 _ _ _ _ | exact ih1 _ _ _ _ | exact LeO.refl _ | exact LeO.none _ | refine LeO.ite ?_ ?_ | refine LeO.bind ?_ (fun _ => ?_)
  ·intro y0 y1 y2 y3
   unfold impl_ClothWidths.l0
   repeat' with_reducible first | exact ih0 _ _ _ _ | exact ih1 _ _ _ _ | exact LeO.refl _ | exact LeO.none _ | refine LeO.ite ?_ ?_ | refine LeO.bind ?_ (fun _ => ?_)
theorem impl_ClothWidths.mono : ∀ a0 a1 a2 k, LeO (impl_ClothWidths.f k a0 a1 a2) (impl_ClothWidths.f (k + 1) a0 a1 a2) := by
 intro a0 a1 a2 k; obtain ⟨ih0, ih1⟩ := impl_ClothWidths.mono_l k; unfold impl_ClothWidths.f; repeat' with_reducible first | exact ih0 _ _ _ _ | exact ih1 _ _ _ _ | exact LeO.refl _ | exact LeO.none _ | refine LeO.ite ?_ ?_ | refine LeO.bind ?_ (fun _ => ?_)
set_option maxHeartbeats 8000000 in
set_option maxRecDepth 100000 in
theorem impl_ClothWidths.calls (k : Nat) (a0 : Int) (a1 : Int) (a2 : Int) (r1 : Int) (r2 : Int) (w : World) (h : impl_ClothWidths.f k a0 a1 a2 = some (r1, r2)) :
  Calls Try.prog 64 #[.int .i64 a0, .int .i64 a1, .int .i64 a2] w fun e w' => e = .returned (.tuple #[.int .i64 r1, .int .i64 r2]) ∧ Drawn0 w w' := by
 have H : ((impl_within.f a0 1 10000).bind fun t257 => (if t257 = true then ((impl_within.f a1 1 1000).bind fun t258 => (if t258 = true then ((impl_within.f a2 0 (wrap64 (a1 - 1))).bind fun t259 => (impl_ClothWidths.j0 k a0 a1 a2 (!t259))) else (impl_ClothWidths.j0 k a0 a1 a2 true))) else (impl_ClothWidths.j0 k a0 a1 a2 true))) = some (r1, r2) := h; clear h; have HC4 := Aside0.mk H; clear H; (go_enter Try.func64, Try.ntmps64); (go_upto_region 1 with (fail)); go_cut [23] (fun v23 wc => ∃ (kq : Nat) (x23_3 : Bool), v23 = .bool x23_3 ∧ Aside0 (impl_ClothWidths.j0 kq a0 a1 a2 x23_3 = some (r1, r2)) ∧ Aside0 (kq ≤ k) ∧ Drawn0 w wc)
 case first =>
  have H := HC4.out; clear HC4; replace H := Option.bind_eq_some_iff.mp H; obtain ⟨t257, A50, H⟩ := H; (try dsimp only at H); have A5 := Aside0.mk A50; clear A50; by_cases c6 : t257 = true
  ·subst c6; (have H1 : ((impl_within.f a1 1 1000).bind fun t258 => (if t258 = true then ((impl_within.f a2 0 (wrap64 (a1 - 1))).bind fun t259 => (impl_ClothWidths.j0 k a0 a1 a2 (!t259))) else (impl_ClothWidths.j0 k a0 a1 a2 true))) = some (r1, r2) := by rw [if_pos rfl] at H; exact H); clear H; have H := H1; clear H1; replace H := Option.bind_eq_some_iff.mp H; obtain ⟨t258, A70, H⟩ := H; (try dsimp only at H); have A7 := Aside0.mk A70; clear A70; by_cases c8 : t258 = true
   ·subst c8; (have H1 : ((impl_within.f a2 0 (wrap64 (a1 - 1))).bind fun t259 => (impl_ClothWidths.j0 k a0 a1 a2 (!t259))) = some (r1, r2) := by rw [if_pos rfl] at H; exact H); clear H; have H := H1; clear H1; replace H := Option.bind_eq_some_iff.mp H; obtain ⟨t259, A90, H⟩ := H; (try dsimp only at H); have A9 := Aside0.mk A90; clear A90; have H' := Aside0.mk H; clear H; (go_wp2_with (first | ((with_reducible refine gate_callee (f := 107) rfl ?_); refine goesL_ (some 10) rfl rfl Try.func107 (by kernel_rfl) rfl #[.int .i64 a0, .int .i64 1, .int .i64 10000] rfl zM ?_; (with_reducible refine (impl_within.calls a0 1 10000 true _ A5.out).mono ?_); rintro e w' ⟨rfl, ⟨nd, rfl⟩⟩; refine ⟨_, rfl, ?_⟩) | (go_at_call 107; (with_reducible refine (impl_within.calls a1 1 1000 true _ A7.out).mono ?_); rintro e w' ⟨rfl, ⟨nd, rfl⟩⟩) | (go_at_call 107; (try simp only [i64_w]); (with_reducible refine (impl_within.calls a2 0 (wrap64 (a1 - 1)) t259 _ A9.out).mono ?_); rintro e w' ⟨rfl, ⟨nd, rfl⟩⟩))); go_meet
    case rel => exact ⟨_, (!t259), zF, H', ⟨by first | omega | exact Nat.le_refl _⟩, zD⟩
   ·replace c8 := Bool.eq_false_iff.mpr c8; subst c8; (have H1 : (impl_ClothWidths.j0 k a0 a1 a2 true) = some (r1, r2) := by rw [if_neg (show ¬ (false = true) by decide)] at H; exact H); clear H; have H := H1; clear H1; have H' := Aside0.mk H; clear H; (go_wp2_with (first | ((with_reducible refine gate_callee (f := 107) rfl ?_); refine goesL_ (some 10) rfl rfl Try.func107 (by kernel_rfl) rfl #[.int .i64 a0, .int .i64 1, .int .i64 10000] rfl zM ?_; (with_reducible refine (impl_within.calls a0 1 10000 true _ A5.out).mono ?_); rintro e w' ⟨rfl, ⟨nd, rfl⟩⟩; refine ⟨_, rfl, ?_⟩) | (go_at_call 107; (with_reducible refine (impl_within.calls a1 1 1000 false _ A7.out).mono ?_); rintro e w' ⟨rfl, ⟨nd, rfl⟩⟩))); go_meet
    case rel => exact ⟨_, (true), zF, H', ⟨by first | omega | exact Nat.le_refl _⟩, zD⟩
  ·replace c6 := Bool.eq_false_iff.mpr c6; subst c6; (have H1 : (impl_ClothWidths.j0 k a0 a1 a2 true) = some (r1, r2) := by rw [if_neg (show ¬ (false = true) by decide)] at H; exact H); clear H; have H := H1; clear H1; have H' := Aside0.mk H; clear H; (go_wp2_with (first | ((with_reducible refine gate_callee (f := 107) rfl ?_); refine goesL_ (some 10) rfl rfl Try.func107 (by kernel_rfl) rfl #[.int .i64 a0, .int .i64 1, .int .i64 10000] rfl zM ?_; (with_reducible refine (impl_within.calls a0 1 10000 false _ A5.out).mono ?_); rintro e w' ⟨rfl, ⟨nd, rfl⟩⟩; refine ⟨_, rfl, ?_⟩))); go_meet
   case rel => exact ⟨_, (true), zF, H', ⟨by first | omega | exact Nat.le_refl _⟩, zD⟩
 case rest =>
  clear HC4; (try clear c1); (try clear p2); (try clear c6); (try clear p6); (try clear c8); obtain ⟨kq, x23_3, rfl, HA, HJ3, ⟨mc3, rfl⟩⟩ := hcut
  cases kq with
  | zero => exact absurd HA.out (by simp [impl_ClothWidths.j0])
  | succ kj3 =>
   have H := HA.out; clear HA; simp only [impl_ClothWidths.j0] at H; by_cases c10 : x23_3 = true
   ·subst c10; (have H1 : (some (0, 2)) = some (r1, r2) := by rw [if_pos rfl] at H; exact H); clear H; have H := H1; clear H1; simp only [Option.some.injEq, Prod.mk.injEq] at H; obtain ⟨rfl, rfl⟩ := H; (go_wp2); (go_ret2); exact ⟨zF, zD⟩
   ·replace c10 := Bool.eq_false_iff.mpr c10; subst c10; (have H1 : (impl_ClothWidths.l0 kj3 a0 a1 a2 1) = some (r1, r2) := by rw [if_neg (show ¬ (false = true) by decide)] at H; exact H); clear H; have H := H1; clear H1; have H' := Aside0.mk H; clear H; (go_wp2); go_loopg [8] kj3 (fun kq v8 w' => ∃ (x8_2 : Int), v8 = .int .i64 x8_2 ∧ Aside0 (impl_ClothWidths.l0 kq a0 a1 a2 x8_2 = some (r1, r2)) ∧ Aside0 (kq ≤ kj3) ∧ Drawn0 w w')
    case atStart => exact ⟨(1), zF, H', ⟨Nat.le_refl _⟩, zD⟩
    case round =>
     clear H'; (try clear c1); (try clear p2); (try clear c3); (try clear c6); (try clear p6); (try clear c8); (try clear c10); (try clear p2); (try clear p6); obtain ⟨x8_2, rfl, HA, HK2, ⟨m2, rfl⟩⟩ := hrel
     cases gk with
     | zero => exact absurd HA.out (by simp [impl_ClothWidths.l0])
     | succ k2 =>
      have H := HA.out; clear HA; simp only [impl_ClothWidths.l0] at H; by_cases c11 : (wrap64 ((wrap64 (x8_2 * a1)) - (wrap64 ((wrap64 (x8_2 - 1)) * a2)))) < a0
      ·rw [if_pos c11] at H; have c11b0 : decide ((wrap64 ((wrap64 (x8_2 * a1)) - (wrap64 ((wrap64 (x8_2 - 1)) * a2)))) < a0) = true := decide_eq_true c11; clear c11; have H' := Aside0.mk H; clear H; (go_wp2); go_roundg k2
       case measure => have := HJ3.out; have := HK2.out; omega
       case rel => exact ⟨(wrap64 (x8_2 + 1)), zF, H', ⟨by have := HJ3.out; have := HK2.out; omega⟩, zD⟩
      ·rw [if_neg c11] at H; have c11b0 : decide ((wrap64 ((wrap64 (x8_2 * a1)) - (wrap64 ((wrap64 (x8_2 - 1)) * a2)))) < a0) = false := decide_eq_false c11; clear c11; simp only [Option.some.injEq, Prod.mk.injEq] at H; obtain ⟨rfl, rfl⟩ := H; (go_wp2); (go_ret2); exact ⟨zF, zD⟩

end Go.Proofs.Ytlphfgbeeckjnaa.PFnFlaws
