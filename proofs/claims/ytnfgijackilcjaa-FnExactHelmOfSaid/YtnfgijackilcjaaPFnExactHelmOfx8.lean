-- Written by a program of this session (wip/tools/pp.sh).
import Derived.Test.YtnfgijackilcjaaPFnExactHelmOfx0
import Derived.Test.YtnfgijackilcjaaPFnExactHelmOfx7
namespace Go.Proofs.Ytnfgijackilcjaa.PFnExactHelmOf
open Go.RowKit Go.Proofs.YtnfgijackilcjaaW.PrintWords Go.Proofs.YtnfgijackilcjaaW.PrintLast Go.Proofs.YtnfgijackilcjaaW.PrintMore Go.Proofs.Ytnfgijackilcjaa.Small
open Bool renaming true → T, false → F
attribute [local go_sem] max2_int min2_int max_two min_two max_three min_three max_four min_four   -- for this text's walks alone
set_option linter.unusedVariables false
set_option linter.unusedSimpArgs false

/-! ### spec_l17Moments: function 36 -/
def spec_l17Moments.l0 : Nat → List (S29) → Int → Int → Int → Option (Int × Int)
 | 0, _, _, _, _ => none
 | k + 1, x0, x4, x5, x6 => if x6 < (((rd_T29 x0 0).f0).length : Int) then (if 0 ≤ x6 then (if (rd_T54 ((rd_T29 x0 0).f0) x6).f2 = true then ((spec_l13Moments.f k ((rd_T54 ((rd_T29 x0 0).f0) x6).f1)).bind fun bt246 => (spec_l17Moments.l0 k x0 (wrap64 (x4 + bt246.1)) (wrap64 (x5 + bt246.2)) (wrap64 (x6 + 1)))) else (spec_l17Moments.l0 k x0 x4 x5 (wrap64 (x6 + 1)))) else (none)) else (some (x4, x5))
def spec_l17Moments.f (k : Nat) (l0 : List (S29)) : Option (Int × Int) := if 0 < (l0.length : Int) then (spec_l17Moments.l0 k l0 0 0 0) else (none)
theorem spec_l17Moments.mono_l : ∀ k, (∀ y0 y1 y2 y3, LeO (spec_l17Moments.l0 k y0 y1 y2 y3) (spec_l17Moments.l0 (k + 1) y0 y1 y2 y3))
 | 0 => fun _ _ _ _ r h => by simp [spec_l17Moments.l0] at h
 | k + 1 => by
  have ih0 := spec_l17Moments.mono_l k
  ·intro y0 y1 y2 y3
   unfold spec_l17Moments.l0
   repeat' first
   | (with_reducible exact ih0 _ _ _ _)
   | (with_reducible exact spec_l13Moments.mono _ _)
   | (with_reducible exact LeO.refl _)
   | (with_reducible exact LeO.none _)
   | (with_reducible refine LeO.ite ?_ ?_)
   | (with_reducible refine LeO.bind ?_ (fun _ => ?_))
   | exact ih0 _ _ _ _
   | exact spec_l13Moments.mono _ _
   | exact LeO.none _
   | refine LeO.ite ?_ ?_
   | refine LeO.bind ?_ (fun _ => ?_)
theorem spec_l17Moments.mono : ∀ a0 k, LeO (spec_l17Moments.f k a0) (spec_l17Moments.f (k + 1) a0) := by
 intro a0 k
 have ih0 := spec_l17Moments.mono_l k
 unfold spec_l17Moments.f
 repeat' first
   | (with_reducible exact ih0 _ _ _ _)
   | (with_reducible exact spec_l13Moments.mono _ _)
   | (with_reducible exact LeO.refl _)
   | (with_reducible exact LeO.none _)
   | (with_reducible refine LeO.ite ?_ ?_)
   | (with_reducible refine LeO.bind ?_ (fun _ => ?_))
   | exact ih0 _ _ _ _
   | exact spec_l13Moments.mono _ _
   | exact LeO.none _
   | refine LeO.ite ?_ ?_
   | refine LeO.bind ?_ (fun _ => ?_)
set_option maxHeartbeats 8000000 in
set_option maxRecDepth 100000 in
theorem spec_l17Moments.calls (k : Nat) (A0 : Option Addr) (c0 : Nat) (l0 : List (S29)) (r1 : Int) (r2 : Int) (w : World) (hr0 : Kd.C k29 w A0 l0.length l0) (hc0 : l0.length ≤ c0) (h : spec_l17Moments.f k l0 = some (r1, r2)) :
  Calls Try.prog 36 #[.pointer A0] w fun e w' => e = .returned (.tuple #[.int .i64 r1, .int .i64 r2]) ∧ Below w.heap.size w w' := by
 have HR0 := Aside0.mk hr0
 have HC0 := Aside0.mk hc0
 clear hr0 hc0
 have HB := Aside0.mk (Below.refl w.heap.size w)
 have H : (if 0 < (l0.length : Int) then (spec_l17Moments.l0 k l0 0 0 0) else (none)) = some (r1, r2) := h
 clear h
 by_cases c2 : 0 < (l0.length : Int)
 ·rw [if_pos c2] at H
  have c2b0 : decide (0 < (l0.length : Int)) = true := decide_eq_true c2
  have c2b1 : decide (0 < l0.length) = true := decide_eq_true (by omega)
  clear c2
  have H' := Aside0.mk H
  clear H
  have p240 : 0 ≤ (0 : Int) := (by omega)
  have q240 : 0 < (l0.length : Int) := of_decide_eq_true (by first | (with_reducible assumption) | assumption)
  obtain ⟨ad240, A240_0, c240_0, e240, hx240_0, hx240_1, hx240_2, hl240_0, hi240_0⟩ := at_T29 HR0.out 0 p240 q240
  cases e240
  have qi240 : (0 < l0.length) = True := eq_true (by omega)
  (try rw [show ((0 : Int)).toNat = 0 from rfl] at hx240_0)
  (try rw [show 0 * 3 = 0 from rfl] at hx240_0)
  (try rw [Addr.add_zero'] at hx240_0)
  (try rw [show ((0 : Int)).toNat = 0 from rfl] at hx240_1)
  (try rw [show 0 * 3 = 0 from rfl] at hx240_1)
  (try rw [Addr.add_zero'] at hx240_1)
  (try rw [show ((0 : Int)).toNat = 0 from rfl] at hx240_2)
  (try rw [show 0 * 3 = 0 from rfl] at hx240_2)
  (try rw [Addr.add_zero'] at hx240_2)
  have HR240_0 := Aside0.mk hi240_0
  have HC240_0 := Aside0.mk hl240_0
  clear hi240_0 hl240_0
  replace p240 := eq_true p240
  replace q240 := eq_true q240
  have RX240_0 := Aside0.mk hx240_0
  clear hx240_0
  have RX240_1 := Aside0.mk hx240_1
  clear hx240_1
  have RX240_2 := Aside0.mk hx240_2
  clear hx240_2
  go_enter Try.func36, Try.ntmps36
  go_wp2
  go_loopg [4, 5, 6] k (fun kq v4 v5 v6 w' => ∃ (x4_1 : Int) (x5_1 : Int) (x6_1 : Int), v4 = .int .i64 x4_1 ∧ v5 = .int .i64 x5_1 ∧ v6 = .int .i64 x6_1 ∧ Aside0 (spec_l17Moments.l0 kq l0 x4_1 x5_1 x6_1 = some (r1, r2)) ∧ Aside0 (kq ≤ k) ∧ Aside0 (Below w.heap.size w w'))
  case atStart => exact ⟨(0), (0), (0), (by first | rfl | (simp; done) | (simp [*]; done)), (by first | rfl | (simp; done) | (simp [*]; done)), (by first | rfl | (simp; done) | (simp [*]; done)), H', ⟨Nat.le_refl _⟩, ⟨by repeat (first | (with_reducible first | exact HB.out | apply below_alloc | apply pw_below_drewN | apply below_drew1) | exact HB.out)⟩⟩
  case round =>
   clear H'
   try clear c2
   try clear c2b0
   try clear c2b1
   try clear p2
   try clear q2
   try clear hx2
   try clear qi2
   try clear hx240_0
   try clear hx240_1
   try clear hx240_2
   try clear p240
   try clear q240
   obtain ⟨x4_1, x5_1, x6_1, rfl, rfl, rfl, HA, HK1, HB⟩ := hrel
   cases gk with
   | zero => exact absurd HA.out (by simp [spec_l17Moments.l0])
   | succ k1 =>
    have H := HA.out
    clear HA
    simp only [spec_l17Moments.l0] at H
    by_cases c3 : x6_1 < (((rd_T29 l0 0).f0).length : Int)
    ·rw [if_pos c3] at H
     have c3b0 : decide (x6_1 < (((rd_T29 l0 0).f0).length : Int)) = true := decide_eq_true c3
     clear c3
     by_cases c4 : 0 ≤ x6_1
     ·rw [if_pos c4] at H
      have c4b0 : decide (0 ≤ x6_1) = true := decide_eq_true c4
      clear c4
      obtain ⟨bq5, hbq5⟩ : ∃ b_ : Bool, b_ = ((rd_T54 ((rd_T29 l0 0).f0) x6_1).f2) := ⟨_, rfl⟩
      replace H : (if bq5 = true then ((spec_l13Moments.f k1 ((rd_T54 ((rd_T29 l0 0).f0) x6_1).f1)).bind fun bt246 => (spec_l17Moments.l0 k1 l0 (wrap64 (x4_1 + bt246.1)) (wrap64 (x5_1 + bt246.2)) (wrap64 (x6_1 + 1)))) else (spec_l17Moments.l0 k1 l0 x4_1 x5_1 (wrap64 (x6_1 + 1)))) = some (r1, r2) := by rw [← hbq5] at H; exact H
      have Nbq5 := Aside0.mk hbq5
      clear hbq5
      by_cases c6 : bq5 = true
      ·subst c6
       have H1 : ((spec_l13Moments.f k1 ((rd_T54 ((rd_T29 l0 0).f0) x6_1).f1)).bind fun bt246 => (spec_l17Moments.l0 k1 l0 (wrap64 (x4_1 + bt246.1)) (wrap64 (x5_1 + bt246.2)) (wrap64 (x6_1 + 1)))) = some (r1, r2) := by rw [if_pos rfl] at H; exact H
       clear H
       have H := H1
       clear H1
       replace H := Option.bind_eq_some_iff.mp H
       obtain ⟨⟨t246, t247⟩, A70, H⟩ := H
       replace H : (spec_l17Moments.l0 k1 l0 (wrap64 (x4_1 + t246)) (wrap64 (x5_1 + t247)) (wrap64 (x6_1 + 1))) = some (r1, r2) := H
       have A7 := Aside0.mk A70
       clear A70
       have H' := Aside0.mk H
       clear H
       (try have hx241_0 := bC HB RX240_0.out)
       (try have hx241_1 := bC HB RX240_1.out)
       (try have hx241_2 := bC HB RX240_2.out)
       (try have hx242_0 := bC HB RX240_0.out)
       (try have hx242_1 := bC HB RX240_1.out)
       (try have hx242_2 := bC HB RX240_2.out)
       have p243 : 0 ≤ (x6_1 : Int) := of_decide_eq_true (by first | (with_reducible assumption) | assumption)
       have q243 : x6_1 < (((rd_T29 l0 0).f0).length : Int) := of_decide_eq_true (by first | (with_reducible assumption) | assumption)
       obtain ⟨ad243, A243_1, c243_1, e243, hx243_0, hx243_1, hx243_2, hl243_1, hi243_1⟩ := at_T54 HR240_0.out x6_1 p243 q243
       (try rw [← Nbq5.out] at hx243_2)
       cases e243
       replace hx243_0 := bC HB hx243_0
       replace hx243_1 := bC HB hx243_1
       replace hx243_2 := bC HB hx243_2
       have HR243_1 := Aside0.mk hi243_1
       have HC243_1 := Aside0.mk hl243_1
       clear hi243_1 hl243_1
       replace p243 := eq_true p243
       replace q243 := eq_true q243
       (try have hx244_0 := bC HB RX240_0.out)
       (try have hx244_1 := bC HB RX240_1.out)
       (try have hx244_2 := bC HB RX240_2.out)
       have p245 : 0 ≤ (x6_1 : Int) := of_decide_eq_true (by first | (with_reducible assumption) | assumption)
       have q245 : x6_1 < (((rd_T29 l0 0).f0).length : Int) := of_decide_eq_true (by first | (with_reducible assumption) | assumption)
       obtain ⟨ad245, A245_1, c245_1, e245, hx245_0, hx245_1, hx245_2, hl245_1, hi245_1⟩ := at_T54 HR240_0.out x6_1 p245 q245
       (try rw [← Nbq5.out] at hx245_2)
       obtain rfl : ad243 = ad245 := (by injection e245)
       replace hx245_0 := bC HB hx245_0
       replace hx245_1 := bC HB hx245_1
       replace hx245_2 := bC HB hx245_2
       have HR245_1 := Aside0.mk hi245_1
       have HC245_1 := Aside0.mk hl245_1
       clear hi245_1 hl245_1
       replace p245 := eq_true p245
       replace q245 := eq_true q245
       have ea_ := Option.some.inj (hx243_1.symm.trans hx245_1)
       injection ea_ with ea_ en_ ec_
       subst ea_
       subst ec_
       clear en_
       go_wp2_with (first | ((with_reducible refine gate_callee (f := 57) rfl ?_); refine goesL_ (some 35) rfl rfl Try.func57 (by kernel_rfl) rfl #[.slice A243_1 ((rd_T54 ((rd_T29 l0 0).f0) x6_1).f1).length c243_1] rfl (by (try simp only [List.map_toArray, List.map_cons, List.map_nil]); first | done | rfl | (simp only [List.length_drop, List.length_take]; rfl)) ?_; (with_reducible refine (spec_l13Moments.calls k1 _ _ ((rd_T54 ((rd_T29 l0 0).f0) x6_1).f1) t246 t247 _ ?side1 ?side2 A7.out).mono ?_); (case side1 => repeat (first | exact (Kd.C_below HR245_1.out HB.out) | (with_reducible refine Kd.C_alloc ?_ _) | (with_reducible refine Kd.C_drewN ?_ _) | (with_reducible refine Kd.C_drew ?_))); (case side2 => exact HC245_1.out); rintro e w8 ⟨rfl, hb⟩; refine ⟨_, rfl, ?_⟩; have n0_ := pS HB hb; clear HB; have HB := n0_; clear n0_; (try clear hb); (try clear hb2); (try clear hk); (try clear hi)))
       go_roundg k1
       case measure => have := HK1.out; omega
       case rel => exact ⟨(wrap64 (x4_1 + t246)), (wrap64 (x5_1 + t247)), (wrap64 (x6_1 + 1)), (by first | rfl | (simp; done) | (simp [*]; done)), (by first | rfl | (simp; done) | (simp [*]; done)), (by first | rfl | (simp; done) | (simp [*]; done)), H', ⟨by have := HK1.out; omega⟩, ⟨by repeat (first | (with_reducible first | exact HB.out | apply below_alloc | apply pw_below_drewN | apply below_drew1) | exact HB.out)⟩⟩
      ·replace c6 := Bool.eq_false_iff.mpr c6
       subst c6
       have H1 : (spec_l17Moments.l0 k1 l0 x4_1 x5_1 (wrap64 (x6_1 + 1))) = some (r1, r2) := by rw [if_neg (show ¬ (false = true) by decide)] at H; exact H
       clear H
       have H := H1
       clear H1
       have H' := Aside0.mk H
       clear H
       (try have hx241_0 := bC HB RX240_0.out)
       (try have hx241_1 := bC HB RX240_1.out)
       (try have hx241_2 := bC HB RX240_2.out)
       (try have hx242_0 := bC HB RX240_0.out)
       (try have hx242_1 := bC HB RX240_1.out)
       (try have hx242_2 := bC HB RX240_2.out)
       have p243 : 0 ≤ (x6_1 : Int) := of_decide_eq_true (by first | (with_reducible assumption) | assumption)
       have q243 : x6_1 < (((rd_T29 l0 0).f0).length : Int) := of_decide_eq_true (by first | (with_reducible assumption) | assumption)
       obtain ⟨ad243, A243_1, c243_1, e243, hx243_0, hx243_1, hx243_2, hl243_1, hi243_1⟩ := at_T54 HR240_0.out x6_1 p243 q243
       (try rw [← Nbq5.out] at hx243_2)
       cases e243
       replace hx243_0 := bC HB hx243_0
       replace hx243_1 := bC HB hx243_1
       replace hx243_2 := bC HB hx243_2
       have HR243_1 := Aside0.mk hi243_1
       have HC243_1 := Aside0.mk hl243_1
       clear hi243_1 hl243_1
       replace p243 := eq_true p243
       replace q243 := eq_true q243
       go_wp2
       go_roundg k1
       case measure => have := HK1.out; omega
       case rel => exact ⟨(x4_1), (x5_1), (wrap64 (x6_1 + 1)), (by first | rfl | (simp; done) | (simp [*]; done)), (by first | rfl | (simp; done) | (simp [*]; done)), (by first | rfl | (simp; done) | (simp [*]; done)), H', ⟨by have := HK1.out; omega⟩, ⟨by repeat (first | (with_reducible first | exact HB.out | apply below_alloc | apply pw_below_drewN | apply below_drew1) | exact HB.out)⟩⟩
     ·rw [if_neg c4] at H
      exact absurd H (by simp)
    ·rw [if_neg c3] at H
     have c3b0 : decide (x6_1 < (((rd_T29 l0 0).f0).length : Int)) = false := decide_eq_false c3
     clear c3
     simp only [Option.some.injEq, Prod.mk.injEq] at H
     obtain ⟨rfl, rfl⟩ := H
     (try have hx241_0 := bC HB RX240_0.out)
     (try have hx241_1 := bC HB RX240_1.out)
     (try have hx241_2 := bC HB RX240_2.out)
     go_wp2
     go_ret2
     exact ⟨by first | rfl | (simp [errW_none, errW_some] <;> rfl) | (simp [*, errW_none, errW_some] <;> rfl), pR HB⟩
 ·rw [if_neg c2] at H
  exact absurd H (by simp)

/-! ### spec_l17Lead: function 40 -/
def spec_l17Lead.f (k : Nat) (l0 : List (S29)) : Option (Int × Int) := if 0 < (l0.length : Int) then ((spec_l17Moments.f k l0).bind fun bt249 => ((spec_l17Area.f k l0).bind fun t251 => (some (wrap64 (bt249.1 - (wrap64 (((rd_T29 l0 0).f1) * (wrap64 (3 * t251))))), wrap64 (3 * t251))))) else (none)
theorem spec_l17Lead.mono : ∀ a0 k, LeO (spec_l17Lead.f k a0) (spec_l17Lead.f (k + 1) a0) := by
 intro a0 k
 unfold spec_l17Lead.f
 repeat' first
   | (with_reducible exact spec_l17Area.mono _ _)
   | (with_reducible exact spec_l17Moments.mono _ _)
   | (with_reducible exact LeO.refl _)
   | (with_reducible exact LeO.none _)
   | (with_reducible refine LeO.ite ?_ ?_)
   | (with_reducible refine LeO.bind ?_ (fun _ => ?_))
   | exact spec_l17Area.mono _ _
   | exact spec_l17Moments.mono _ _
   | exact LeO.none _
   | refine LeO.ite ?_ ?_
   | refine LeO.bind ?_ (fun _ => ?_)
set_option maxHeartbeats 8000000 in
set_option maxRecDepth 100000 in
theorem spec_l17Lead.calls (k : Nat) (A0 : Option Addr) (c0 : Nat) (l0 : List (S29)) (r1 : Int) (r2 : Int) (w : World) (hr0 : Kd.C k29 w A0 l0.length l0) (hc0 : l0.length ≤ c0) (h : spec_l17Lead.f k l0 = some (r1, r2)) :
  Calls Try.prog 40 #[.pointer A0] w fun e w' => e = .returned (.tuple #[.int .i64 r1, .int .i64 r2]) ∧ Below w.heap.size w w' := by
 have HR0 := Aside0.mk hr0
 have HC0 := Aside0.mk hc0
 clear hr0 hc0
 have HB := Aside0.mk (Below.refl w.heap.size w)
 have H : (if 0 < (l0.length : Int) then ((spec_l17Moments.f k l0).bind fun bt249 => ((spec_l17Area.f k l0).bind fun t251 => (some (wrap64 (bt249.1 - (wrap64 (((rd_T29 l0 0).f1) * (wrap64 (3 * t251))))), wrap64 (3 * t251))))) else (none)) = some (r1, r2) := h
 clear h
 by_cases c2 : 0 < (l0.length : Int)
 ·rw [if_pos c2] at H
  have c2b0 : decide (0 < (l0.length : Int)) = true := decide_eq_true c2
  have c2b1 : decide (0 < l0.length) = true := decide_eq_true (by omega)
  clear c2
  replace H := Option.bind_eq_some_iff.mp H
  obtain ⟨⟨t249, t250⟩, A30, H⟩ := H
  replace H : ((spec_l17Area.f k l0).bind fun t251 => (some (wrap64 (t249 - (wrap64 (((rd_T29 l0 0).f1) * (wrap64 (3 * t251))))), wrap64 (3 * t251)))) = some (r1, r2) := H
  have A3 := Aside0.mk A30
  clear A30
  replace H := Option.bind_eq_some_iff.mp H
  obtain ⟨t251, A40, H⟩ := H
  replace H : (some (wrap64 (t249 - (wrap64 (((rd_T29 l0 0).f1) * (wrap64 (3 * t251))))), wrap64 (3 * t251))) = some (r1, r2) := H
  have A4 := Aside0.mk A40
  clear A40
  simp only [Option.some.injEq, Prod.mk.injEq] at H
  obtain ⟨rfl, rfl⟩ := H
  have p248 : 0 ≤ (0 : Int) := (by omega)
  have q248 : 0 < (l0.length : Int) := of_decide_eq_true (by first | (with_reducible assumption) | assumption)
  obtain ⟨ad248, A248_0, c248_0, e248, hx248_0, hx248_1, hx248_2, hl248_0, hi248_0⟩ := at_T29 HR0.out 0 p248 q248
  cases e248
  have qi248 : (0 < l0.length) = True := eq_true (by omega)
  (try rw [show ((0 : Int)).toNat = 0 from rfl] at hx248_0)
  (try rw [show 0 * 3 = 0 from rfl] at hx248_0)
  (try rw [Addr.add_zero'] at hx248_0)
  (try rw [show ((0 : Int)).toNat = 0 from rfl] at hx248_1)
  (try rw [show 0 * 3 = 0 from rfl] at hx248_1)
  (try rw [Addr.add_zero'] at hx248_1)
  (try rw [show ((0 : Int)).toNat = 0 from rfl] at hx248_2)
  (try rw [show 0 * 3 = 0 from rfl] at hx248_2)
  (try rw [Addr.add_zero'] at hx248_2)
  have HR248_0 := Aside0.mk hi248_0
  have HC248_0 := Aside0.mk hl248_0
  clear hi248_0 hl248_0
  replace p248 := eq_true p248
  replace q248 := eq_true q248
  have RX248_0 := Aside0.mk hx248_0
  clear hx248_0
  have RX248_1 := Aside0.mk hx248_1
  clear hx248_1
  have RX248_2 := Aside0.mk hx248_2
  clear hx248_2
  go_enter Try.func40, Try.ntmps40
  go_wp2_with (first | ((with_reducible refine gate_callee (f := 36) rfl ?_); refine goesL_ (some 9) rfl rfl Try.func36 (by kernel_rfl) rfl #[.pointer (some ad248)] rfl (by (try simp only [List.map_toArray, List.map_cons, List.map_nil]); first | done | rfl | (simp only [List.length_drop, List.length_take]; rfl)) ?_; (with_reducible refine (spec_l17Moments.calls k _ c0 l0 t249 t250 _ ?side1 ?side2 A3.out).mono ?_); (case side1 => repeat (first | exact HR0.out | (with_reducible refine Kd.C_alloc ?_ _) | (with_reducible refine Kd.C_drewN ?_ _) | (with_reducible refine Kd.C_drew ?_))); (case side2 => exact HC0.out); rintro e w5 ⟨rfl, hb⟩; refine ⟨_, rfl, ?_⟩; have n0_ := pS HB hb; clear HB; have HB := n0_; clear n0_; (try clear hb); (try clear hb2); (try clear hk); (try clear hi)) | ((with_reducible refine gate_callee (f := 33) rfl ?_); refine goesL_ (some 13) rfl rfl Try.func33 (by kernel_rfl) rfl #[.pointer (some ad248)] rfl (by (try simp only [List.map_toArray, List.map_cons, List.map_nil]); first | done | rfl | (simp only [List.length_drop, List.length_take]; rfl)) ?_; (with_reducible refine (spec_l17Area.calls k _ c0 l0 t251 _ ?side1 ?side2 A4.out).mono ?_); (case side1 => repeat (first | exact (Kd.C_below HR0.out HB.out) | (with_reducible refine Kd.C_alloc ?_ _) | (with_reducible refine Kd.C_drewN ?_ _) | (with_reducible refine Kd.C_drew ?_))); (case side2 => exact HC0.out); rintro e w6 ⟨rfl, hb⟩; refine ⟨_, rfl, ?_⟩; have n0_ := pS HB hb; clear HB; have HB := n0_; clear n0_; (try clear hb); (try clear hb2); (try clear hk); (try clear hi); (try have hx252_0 := bC HB RX248_0.out); (try have hx252_1 := bC HB RX248_1.out); (try have hx252_2 := bC HB RX248_2.out)))
  go_ret2
  exact ⟨by first | rfl | (simp [errW_none, errW_some] <;> rfl) | (simp [*, errW_none, errW_some] <;> rfl), pR HB⟩
 ·rw [if_neg c2] at H
  exact absurd H (by simp)

/-! ### spec_l00Floor: function 61 -/
def spec_l00Floor.f (a0 : Int) (a1 : Int) : Option (Int) := if a1 = 0 then (none) else (if (Int.tmod a0 a1) < 0 then (some (wrap64 ((wrap64 (Int.tdiv a0 a1)) - 1))) else (some (wrap64 (Int.tdiv a0 a1))))
set_option maxHeartbeats 8000000 in
set_option maxRecDepth 100000 in
theorem spec_l00Floor.calls (a0 : Int) (a1 : Int) (r : Int) (w : World) (h : spec_l00Floor.f a0 a1 = some r) :
  Calls Try.prog 61 #[.int .i64 a0, .int .i64 a1] w fun e w' => e = .returned (.int .i64 r) ∧ Drawn0 w w' := by
 have H : (if a1 = 0 then (none) else (if (Int.tmod a0 a1) < 0 then (some (wrap64 ((wrap64 (Int.tdiv a0 a1)) - 1))) else (some (wrap64 (Int.tdiv a0 a1))))) = some r := h
 clear h
 by_cases c3 : a1 = 0
 ·rw [if_pos c3] at H
  exact absurd H (by simp)
 ·rw [if_neg c3] at H
  have c3b0 : (a1 == 0) = false := beq_eq_false_iff_ne.mpr c3
  have c3b1 : (a1 != 0) = true := bne_iff_ne.mpr c3
  by_cases c4 : (Int.tmod a0 a1) < 0
  ·rw [if_pos c4] at H
   have c4b0 : decide ((Int.tmod a0 a1) < 0) = true := decide_eq_true c4
   clear c4
   obtain rfl := Option.some.inj H
   simp only [Option.some.injEq, Prod.mk.injEq] at H
   obtain ⟨rfl⟩ := H
   go_enter Try.func61, Try.ntmps61
   go_wp2
   go_ret
   exact ⟨by first | rfl | (simp; done) | (simp [*]; done), by repeat (first | exact Drawn0.refl _ | apply Drawn0.step)⟩
  ·rw [if_neg c4] at H
   have c4b0 : decide ((Int.tmod a0 a1) < 0) = false := decide_eq_false c4
   clear c4
   obtain rfl := Option.some.inj H
   simp only [Option.some.injEq, Prod.mk.injEq] at H
   obtain ⟨rfl⟩ := H
   go_enter Try.func61, Try.ntmps61
   go_wp2
   go_ret
   exact ⟨by first | rfl | (simp; done) | (simp [*]; done), by repeat (first | exact Drawn0.refl _ | apply Drawn0.step)⟩

/-! ### spec_l17Helm: function 43 -/
def spec_l17Helm.f (k : Nat) (l0 : List (S29)) (a1 : Int) (a2 : Int) : Option (ByteArray) := if 0 < (l0.length : Int) then ((spec_l17Lead.f k l0).bind fun bt254 => ((spec_l00Floor.f (wrap64 (1000 * bt254.1)) bt254.2).bind fun t256 => (if t256 < (wrap64 (a1 * ((rd_T29 l0 0).f2))) then (some (⟨#[119, 101, 97, 116, 104, 101, 114]⟩ : ByteArray)) else ((spec_l00Floor.f (wrap64 ((-1000) * bt254.1)) bt254.2).bind fun t258 => (if t258 < (wrap64 ((wrap64 (-a2)) * ((rd_T29 l0 0).f2))) then (some (⟨#[108, 101, 101]⟩ : ByteArray)) else (some (⟨#[98, 97, 108, 97, 110, 99, 101, 100]⟩ : ByteArray))))))) else (none)
theorem spec_l17Helm.mono : ∀ a0 a1 a2 k, LeO (spec_l17Helm.f k a0 a1 a2) (spec_l17Helm.f (k + 1) a0 a1 a2) := by
 intro a0 a1 a2 k
 unfold spec_l17Helm.f
 repeat' first
   | (with_reducible exact spec_l17Lead.mono _ _)
   | (with_reducible exact LeO.refl _)
   | (with_reducible exact LeO.none _)
   | (with_reducible refine LeO.ite ?_ ?_)
   | (with_reducible refine LeO.bind ?_ (fun _ => ?_))
   | exact spec_l17Lead.mono _ _
   | exact LeO.none _
   | refine LeO.ite ?_ ?_
   | refine LeO.bind ?_ (fun _ => ?_)
set_option maxHeartbeats 8000000 in
set_option maxRecDepth 100000 in
theorem spec_l17Helm.calls (k : Nat) (A0 : Option Addr) (c0 : Nat) (l0 : List (S29)) (a1 : Int) (a2 : Int) (r : ByteArray) (w : World) (hr0 : Kd.C k29 w A0 l0.length l0) (hc0 : l0.length ≤ c0) (h : spec_l17Helm.f k l0 a1 a2 = some r) :
  Calls Try.prog 43 #[.pointer A0, .int .i64 a1, .int .i64 a2] w fun e w' => e = .returned (.string r) ∧ Below w.heap.size w w' := by
 have HR0 := Aside0.mk hr0
 have HC0 := Aside0.mk hc0
 clear hr0 hc0
 have HB := Aside0.mk (Below.refl w.heap.size w)
 have H : (if 0 < (l0.length : Int) then ((spec_l17Lead.f k l0).bind fun bt254 => ((spec_l00Floor.f (wrap64 (1000 * bt254.1)) bt254.2).bind fun t256 => (if t256 < (wrap64 (a1 * ((rd_T29 l0 0).f2))) then (some (⟨#[119, 101, 97, 116, 104, 101, 114]⟩ : ByteArray)) else ((spec_l00Floor.f (wrap64 ((-1000) * bt254.1)) bt254.2).bind fun t258 => (if t258 < (wrap64 ((wrap64 (-a2)) * ((rd_T29 l0 0).f2))) then (some (⟨#[108, 101, 101]⟩ : ByteArray)) else (some (⟨#[98, 97, 108, 97, 110, 99, 101, 100]⟩ : ByteArray))))))) else (none)) = some r := h
 clear h
 by_cases c4 : 0 < (l0.length : Int)
 ·rw [if_pos c4] at H
  have c4b0 : decide (0 < (l0.length : Int)) = true := decide_eq_true c4
  have c4b1 : decide (0 < l0.length) = true := decide_eq_true (by omega)
  clear c4
  replace H := Option.bind_eq_some_iff.mp H
  obtain ⟨⟨t254, t255⟩, A50, H⟩ := H
  replace H : ((spec_l00Floor.f (wrap64 (1000 * t254)) t255).bind fun t256 => (if t256 < (wrap64 (a1 * ((rd_T29 l0 0).f2))) then (some (⟨#[119, 101, 97, 116, 104, 101, 114]⟩ : ByteArray)) else ((spec_l00Floor.f (wrap64 ((-1000) * t254)) t255).bind fun t258 => (if t258 < (wrap64 ((wrap64 (-a2)) * ((rd_T29 l0 0).f2))) then (some (⟨#[108, 101, 101]⟩ : ByteArray)) else (some (⟨#[98, 97, 108, 97, 110, 99, 101, 100]⟩ : ByteArray)))))) = some r := H
  have A5 := Aside0.mk A50
  clear A50
  replace H := Option.bind_eq_some_iff.mp H
  obtain ⟨t256, A60, H⟩ := H
  replace H : (if t256 < (wrap64 (a1 * ((rd_T29 l0 0).f2))) then (some (⟨#[119, 101, 97, 116, 104, 101, 114]⟩ : ByteArray)) else ((spec_l00Floor.f (wrap64 ((-1000) * t254)) t255).bind fun t258 => (if t258 < (wrap64 ((wrap64 (-a2)) * ((rd_T29 l0 0).f2))) then (some (⟨#[108, 101, 101]⟩ : ByteArray)) else (some (⟨#[98, 97, 108, 97, 110, 99, 101, 100]⟩ : ByteArray))))) = some r := H
  have A6 := Aside0.mk A60
  clear A60
  by_cases c7 : t256 < (wrap64 (a1 * ((rd_T29 l0 0).f2)))
  ·rw [if_pos c7] at H
   have c7b0 : decide (t256 < (wrap64 (a1 * ((rd_T29 l0 0).f2)))) = true := decide_eq_true c7
   have c7bw := c7b0
   simp only [← i64_w] at c7bw
   clear c7
   obtain rfl := Option.some.inj H
   simp only [Option.some.injEq, Prod.mk.injEq] at H
   obtain ⟨rfl⟩ := H
   have p253 : 0 ≤ (0 : Int) := (by omega)
   have q253 : 0 < (l0.length : Int) := of_decide_eq_true (by first | (with_reducible assumption) | assumption)
   obtain ⟨ad253, A253_0, c253_0, e253, hx253_0, hx253_1, hx253_2, hl253_0, hi253_0⟩ := at_T29 HR0.out 0 p253 q253
   cases e253
   have qi253 : (0 < l0.length) = True := eq_true (by omega)
   (try rw [show ((0 : Int)).toNat = 0 from rfl] at hx253_0)
   (try rw [show 0 * 3 = 0 from rfl] at hx253_0)
   (try rw [Addr.add_zero'] at hx253_0)
   (try rw [show ((0 : Int)).toNat = 0 from rfl] at hx253_1)
   (try rw [show 0 * 3 = 0 from rfl] at hx253_1)
   (try rw [Addr.add_zero'] at hx253_1)
   (try rw [show ((0 : Int)).toNat = 0 from rfl] at hx253_2)
   (try rw [show 0 * 3 = 0 from rfl] at hx253_2)
   (try rw [Addr.add_zero'] at hx253_2)
   have HR253_0 := Aside0.mk hi253_0
   have HC253_0 := Aside0.mk hl253_0
   clear hi253_0 hl253_0
   replace p253 := eq_true p253
   replace q253 := eq_true q253
   have RX253_0 := Aside0.mk hx253_0
   clear hx253_0
   have RX253_1 := Aside0.mk hx253_1
   clear hx253_1
   have RX253_2 := Aside0.mk hx253_2
   clear hx253_2
   go_enter Try.func43, Try.ntmps43
   go_wp2_with (first | (go_at_call 40; (with_reducible refine (spec_l17Lead.calls k _ c0 l0 t254 t255 _ ?side1 ?side2 A5.out).mono ?_); (case side1 => repeat (first | exact HR0.out | (with_reducible refine Kd.C_alloc ?_ _) | (with_reducible refine Kd.C_drewN ?_ _) | (with_reducible refine Kd.C_drew ?_))); (case side2 => exact HC0.out); rintro e w8 ⟨rfl, hb⟩; have n0_ := pS HB hb; clear HB; have HB := n0_; clear n0_; (try clear hb); (try clear hb2); (try clear hk); (try clear hi)) | (go_at_call 61; (try simp only [i64_w]); (with_reducible refine (spec_l00Floor.calls (wrap64 (1000 * t254)) t255 t256 _ A6.out).mono ?_); rintro e w' ⟨rfl, ⟨nd, rfl⟩⟩; (try first | exact ⟨rfl, _, World.drewN_drewN _ _ _⟩ | exact ⟨rfl, _, Eq.trans (World.drewN_drewN _ _ _) (congrArg (World.drewN _) (Nat.add_assoc _ _ _))⟩); (try have hx257_0 := bC HB RX253_0.out); (try have hx257_1 := bC HB RX253_1.out); (try have hx257_2 := bC HB RX253_2.out)))
   repeat (go_quiet (first | (go_at_call 40; (with_reducible refine (spec_l17Lead.calls k _ c0 l0 t254 t255 _ ?side1 ?side2 A5.out).mono ?_); (case side1 => repeat (first | exact HR0.out | (with_reducible refine Kd.C_alloc ?_ _) | (with_reducible refine Kd.C_drewN ?_ _) | (with_reducible refine Kd.C_drew ?_))); (case side2 => exact HC0.out); rintro e w8 ⟨rfl, hb⟩; have n0_ := pS HB hb; clear HB; have HB := n0_; clear n0_; (try clear hb); (try clear hb2); (try clear hk); (try clear hi)) | (go_at_call 61; (try simp only [i64_w]); (with_reducible refine (spec_l00Floor.calls (wrap64 (1000 * t254)) t255 t256 _ A6.out).mono ?_); rintro e w' ⟨rfl, ⟨nd, rfl⟩⟩; (try first | exact ⟨rfl, _, World.drewN_drewN _ _ _⟩ | exact ⟨rfl, _, Eq.trans (World.drewN_drewN _ _ _) (congrArg (World.drewN _) (Nat.add_assoc _ _ _))⟩); (try have hx257_0 := bC HB RX253_0.out); (try have hx257_1 := bC HB RX253_1.out); (try have hx257_2 := bC HB RX253_2.out))); try go_wp2_with (first | (go_at_call 40; (with_reducible refine (spec_l17Lead.calls k _ c0 l0 t254 t255 _ ?side1 ?side2 A5.out).mono ?_); (case side1 => repeat (first | exact HR0.out | (with_reducible refine Kd.C_alloc ?_ _) | (with_reducible refine Kd.C_drewN ?_ _) | (with_reducible refine Kd.C_drew ?_))); (case side2 => exact HC0.out); rintro e w8 ⟨rfl, hb⟩; have n0_ := pS HB hb; clear HB; have HB := n0_; clear n0_; (try clear hb); (try clear hb2); (try clear hk); (try clear hi)) | (go_at_call 61; (try simp only [i64_w]); (with_reducible refine (spec_l00Floor.calls (wrap64 (1000 * t254)) t255 t256 _ A6.out).mono ?_); rintro e w' ⟨rfl, ⟨nd, rfl⟩⟩; (try first | exact ⟨rfl, _, World.drewN_drewN _ _ _⟩ | exact ⟨rfl, _, Eq.trans (World.drewN_drewN _ _ _) (congrArg (World.drewN _) (Nat.add_assoc _ _ _))⟩); (try have hx257_0 := bC HB RX253_0.out); (try have hx257_1 := bC HB RX253_1.out); (try have hx257_2 := bC HB RX253_2.out))))
   go_ret
   exact ⟨by first | rfl | (simp [errW_none, errW_some] <;> rfl) | (simp [*, errW_none, errW_some] <;> rfl), pR HB⟩
  ·rw [if_neg c7] at H
   have c7b0 : decide (t256 < (wrap64 (a1 * ((rd_T29 l0 0).f2)))) = false := decide_eq_false c7
   have c7bw := c7b0
   simp only [← i64_w] at c7bw
   clear c7
   replace H := Option.bind_eq_some_iff.mp H
   obtain ⟨t258, A90, H⟩ := H
   replace H : (if t258 < (wrap64 ((wrap64 (-a2)) * ((rd_T29 l0 0).f2))) then (some (⟨#[108, 101, 101]⟩ : ByteArray)) else (some (⟨#[98, 97, 108, 97, 110, 99, 101, 100]⟩ : ByteArray))) = some r := H
   have A9 := Aside0.mk A90
   clear A90
   by_cases c10 : t258 < (wrap64 ((wrap64 (-a2)) * ((rd_T29 l0 0).f2)))
   ·rw [if_pos c10] at H
    have c10b0 : decide (t258 < (wrap64 ((wrap64 (-a2)) * ((rd_T29 l0 0).f2)))) = true := decide_eq_true c10
    have c10bw := c10b0
    simp only [← i64_w] at c10bw
    clear c10
    obtain rfl := Option.some.inj H
    simp only [Option.some.injEq, Prod.mk.injEq] at H
    obtain ⟨rfl⟩ := H
    have p253 : 0 ≤ (0 : Int) := (by omega)
    have q253 : 0 < (l0.length : Int) := of_decide_eq_true (by first | (with_reducible assumption) | assumption)
    obtain ⟨ad253, A253_0, c253_0, e253, hx253_0, hx253_1, hx253_2, hl253_0, hi253_0⟩ := at_T29 HR0.out 0 p253 q253
    cases e253
    have qi253 : (0 < l0.length) = True := eq_true (by omega)
    (try rw [show ((0 : Int)).toNat = 0 from rfl] at hx253_0)
    (try rw [show 0 * 3 = 0 from rfl] at hx253_0)
    (try rw [Addr.add_zero'] at hx253_0)
    (try rw [show ((0 : Int)).toNat = 0 from rfl] at hx253_1)
    (try rw [show 0 * 3 = 0 from rfl] at hx253_1)
    (try rw [Addr.add_zero'] at hx253_1)
    (try rw [show ((0 : Int)).toNat = 0 from rfl] at hx253_2)
    (try rw [show 0 * 3 = 0 from rfl] at hx253_2)
    (try rw [Addr.add_zero'] at hx253_2)
    have HR253_0 := Aside0.mk hi253_0
    have HC253_0 := Aside0.mk hl253_0
    clear hi253_0 hl253_0
    replace p253 := eq_true p253
    replace q253 := eq_true q253
    have RX253_0 := Aside0.mk hx253_0
    clear hx253_0
    have RX253_1 := Aside0.mk hx253_1
    clear hx253_1
    have RX253_2 := Aside0.mk hx253_2
    clear hx253_2
    go_enter Try.func43, Try.ntmps43
    go_wp2_with (first | (go_at_call 40; (with_reducible refine (spec_l17Lead.calls k _ c0 l0 t254 t255 _ ?side1 ?side2 A5.out).mono ?_); (case side1 => repeat (first | exact HR0.out | (with_reducible refine Kd.C_alloc ?_ _) | (with_reducible refine Kd.C_drewN ?_ _) | (with_reducible refine Kd.C_drew ?_))); (case side2 => exact HC0.out); rintro e w11 ⟨rfl, hb⟩; have n0_ := pS HB hb; clear HB; have HB := n0_; clear n0_; (try clear hb); (try clear hb2); (try clear hk); (try clear hi)) | (go_at_call 61; (try simp only [i64_w]); (with_reducible refine (spec_l00Floor.calls (wrap64 (1000 * t254)) t255 t256 _ A6.out).mono ?_); rintro e w' ⟨rfl, ⟨nd, rfl⟩⟩; (try first | exact ⟨rfl, _, World.drewN_drewN _ _ _⟩ | exact ⟨rfl, _, Eq.trans (World.drewN_drewN _ _ _) (congrArg (World.drewN _) (Nat.add_assoc _ _ _))⟩); (try have hx257_0 := bC HB RX253_0.out); (try have hx257_1 := bC HB RX253_1.out); (try have hx257_2 := bC HB RX253_2.out)) | (go_at_call 61; (try simp only [i64_w]); (with_reducible refine (spec_l00Floor.calls (wrap64 ((-1000) * t254)) t255 t258 _ A9.out).mono ?_); rintro e w' ⟨rfl, ⟨nd, rfl⟩⟩; (try first | exact ⟨rfl, _, World.drewN_drewN _ _ _⟩ | exact ⟨rfl, _, Eq.trans (World.drewN_drewN _ _ _) (congrArg (World.drewN _) (Nat.add_assoc _ _ _))⟩); (try have hx259_0 := bC HB RX253_0.out); (try have hx259_1 := bC HB RX253_1.out); (try have hx259_2 := bC HB RX253_2.out)))
    repeat (go_quiet (first | (go_at_call 40; (with_reducible refine (spec_l17Lead.calls k _ c0 l0 t254 t255 _ ?side1 ?side2 A5.out).mono ?_); (case side1 => repeat (first | exact HR0.out | (with_reducible refine Kd.C_alloc ?_ _) | (with_reducible refine Kd.C_drewN ?_ _) | (with_reducible refine Kd.C_drew ?_))); (case side2 => exact HC0.out); rintro e w11 ⟨rfl, hb⟩; have n0_ := pS HB hb; clear HB; have HB := n0_; clear n0_; (try clear hb); (try clear hb2); (try clear hk); (try clear hi)) | (go_at_call 61; (try simp only [i64_w]); (with_reducible refine (spec_l00Floor.calls (wrap64 (1000 * t254)) t255 t256 _ A6.out).mono ?_); rintro e w' ⟨rfl, ⟨nd, rfl⟩⟩; (try first | exact ⟨rfl, _, World.drewN_drewN _ _ _⟩ | exact ⟨rfl, _, Eq.trans (World.drewN_drewN _ _ _) (congrArg (World.drewN _) (Nat.add_assoc _ _ _))⟩); (try have hx257_0 := bC HB RX253_0.out); (try have hx257_1 := bC HB RX253_1.out); (try have hx257_2 := bC HB RX253_2.out)) | (go_at_call 61; (try simp only [i64_w]); (with_reducible refine (spec_l00Floor.calls (wrap64 ((-1000) * t254)) t255 t258 _ A9.out).mono ?_); rintro e w' ⟨rfl, ⟨nd, rfl⟩⟩; (try first | exact ⟨rfl, _, World.drewN_drewN _ _ _⟩ | exact ⟨rfl, _, Eq.trans (World.drewN_drewN _ _ _) (congrArg (World.drewN _) (Nat.add_assoc _ _ _))⟩); (try have hx259_0 := bC HB RX253_0.out); (try have hx259_1 := bC HB RX253_1.out); (try have hx259_2 := bC HB RX253_2.out))); try go_wp2_with (first | (go_at_call 40; (with_reducible refine (spec_l17Lead.calls k _ c0 l0 t254 t255 _ ?side1 ?side2 A5.out).mono ?_); (case side1 => repeat (first | exact HR0.out | (with_reducible refine Kd.C_alloc ?_ _) | (with_reducible refine Kd.C_drewN ?_ _) | (with_reducible refine Kd.C_drew ?_))); (case side2 => exact HC0.out); rintro e w11 ⟨rfl, hb⟩; have n0_ := pS HB hb; clear HB; have HB := n0_; clear n0_; (try clear hb); (try clear hb2); (try clear hk); (try clear hi)) | (go_at_call 61; (try simp only [i64_w]); (with_reducible refine (spec_l00Floor.calls (wrap64 (1000 * t254)) t255 t256 _ A6.out).mono ?_); rintro e w' ⟨rfl, ⟨nd, rfl⟩⟩; (try first | exact ⟨rfl, _, World.drewN_drewN _ _ _⟩ | exact ⟨rfl, _, Eq.trans (World.drewN_drewN _ _ _) (congrArg (World.drewN _) (Nat.add_assoc _ _ _))⟩); (try have hx257_0 := bC HB RX253_0.out); (try have hx257_1 := bC HB RX253_1.out); (try have hx257_2 := bC HB RX253_2.out)) | (go_at_call 61; (try simp only [i64_w]); (with_reducible refine (spec_l00Floor.calls (wrap64 ((-1000) * t254)) t255 t258 _ A9.out).mono ?_); rintro e w' ⟨rfl, ⟨nd, rfl⟩⟩; (try first | exact ⟨rfl, _, World.drewN_drewN _ _ _⟩ | exact ⟨rfl, _, Eq.trans (World.drewN_drewN _ _ _) (congrArg (World.drewN _) (Nat.add_assoc _ _ _))⟩); (try have hx259_0 := bC HB RX253_0.out); (try have hx259_1 := bC HB RX253_1.out); (try have hx259_2 := bC HB RX253_2.out))))
    go_ret
    exact ⟨by first | rfl | (simp [errW_none, errW_some] <;> rfl) | (simp [*, errW_none, errW_some] <;> rfl), pR HB⟩
   ·rw [if_neg c10] at H
    have c10b0 : decide (t258 < (wrap64 ((wrap64 (-a2)) * ((rd_T29 l0 0).f2)))) = false := decide_eq_false c10
    have c10bw := c10b0
    simp only [← i64_w] at c10bw
    clear c10
    obtain rfl := Option.some.inj H
    simp only [Option.some.injEq, Prod.mk.injEq] at H
    obtain ⟨rfl⟩ := H
    have p253 : 0 ≤ (0 : Int) := (by omega)
    have q253 : 0 < (l0.length : Int) := of_decide_eq_true (by first | (with_reducible assumption) | assumption)
    obtain ⟨ad253, A253_0, c253_0, e253, hx253_0, hx253_1, hx253_2, hl253_0, hi253_0⟩ := at_T29 HR0.out 0 p253 q253
    cases e253
    have qi253 : (0 < l0.length) = True := eq_true (by omega)
    (try rw [show ((0 : Int)).toNat = 0 from rfl] at hx253_0)
    (try rw [show 0 * 3 = 0 from rfl] at hx253_0)
    (try rw [Addr.add_zero'] at hx253_0)
    (try rw [show ((0 : Int)).toNat = 0 from rfl] at hx253_1)
    (try rw [show 0 * 3 = 0 from rfl] at hx253_1)
    (try rw [Addr.add_zero'] at hx253_1)
    (try rw [show ((0 : Int)).toNat = 0 from rfl] at hx253_2)
    (try rw [show 0 * 3 = 0 from rfl] at hx253_2)
    (try rw [Addr.add_zero'] at hx253_2)
    have HR253_0 := Aside0.mk hi253_0
    have HC253_0 := Aside0.mk hl253_0
    clear hi253_0 hl253_0
    replace p253 := eq_true p253
    replace q253 := eq_true q253
    have RX253_0 := Aside0.mk hx253_0
    clear hx253_0
    have RX253_1 := Aside0.mk hx253_1
    clear hx253_1
    have RX253_2 := Aside0.mk hx253_2
    clear hx253_2
    go_enter Try.func43, Try.ntmps43
    go_wp2_with (first | (go_at_call 40; (with_reducible refine (spec_l17Lead.calls k _ c0 l0 t254 t255 _ ?side1 ?side2 A5.out).mono ?_); (case side1 => repeat (first | exact HR0.out | (with_reducible refine Kd.C_alloc ?_ _) | (with_reducible refine Kd.C_drewN ?_ _) | (with_reducible refine Kd.C_drew ?_))); (case side2 => exact HC0.out); rintro e w12 ⟨rfl, hb⟩; have n0_ := pS HB hb; clear HB; have HB := n0_; clear n0_; (try clear hb); (try clear hb2); (try clear hk); (try clear hi)) | (go_at_call 61; (try simp only [i64_w]); (with_reducible refine (spec_l00Floor.calls (wrap64 (1000 * t254)) t255 t256 _ A6.out).mono ?_); rintro e w' ⟨rfl, ⟨nd, rfl⟩⟩; (try first | exact ⟨rfl, _, World.drewN_drewN _ _ _⟩ | exact ⟨rfl, _, Eq.trans (World.drewN_drewN _ _ _) (congrArg (World.drewN _) (Nat.add_assoc _ _ _))⟩); (try have hx257_0 := bC HB RX253_0.out); (try have hx257_1 := bC HB RX253_1.out); (try have hx257_2 := bC HB RX253_2.out)) | (go_at_call 61; (try simp only [i64_w]); (with_reducible refine (spec_l00Floor.calls (wrap64 ((-1000) * t254)) t255 t258 _ A9.out).mono ?_); rintro e w' ⟨rfl, ⟨nd, rfl⟩⟩; (try first | exact ⟨rfl, _, World.drewN_drewN _ _ _⟩ | exact ⟨rfl, _, Eq.trans (World.drewN_drewN _ _ _) (congrArg (World.drewN _) (Nat.add_assoc _ _ _))⟩); (try have hx259_0 := bC HB RX253_0.out); (try have hx259_1 := bC HB RX253_1.out); (try have hx259_2 := bC HB RX253_2.out)))
    repeat (go_quiet (first | (go_at_call 40; (with_reducible refine (spec_l17Lead.calls k _ c0 l0 t254 t255 _ ?side1 ?side2 A5.out).mono ?_); (case side1 => repeat (first | exact HR0.out | (with_reducible refine Kd.C_alloc ?_ _) | (with_reducible refine Kd.C_drewN ?_ _) | (with_reducible refine Kd.C_drew ?_))); (case side2 => exact HC0.out); rintro e w12 ⟨rfl, hb⟩; have n0_ := pS HB hb; clear HB; have HB := n0_; clear n0_; (try clear hb); (try clear hb2); (try clear hk); (try clear hi)) | (go_at_call 61; (try simp only [i64_w]); (with_reducible refine (spec_l00Floor.calls (wrap64 (1000 * t254)) t255 t256 _ A6.out).mono ?_); rintro e w' ⟨rfl, ⟨nd, rfl⟩⟩; (try first | exact ⟨rfl, _, World.drewN_drewN _ _ _⟩ | exact ⟨rfl, _, Eq.trans (World.drewN_drewN _ _ _) (congrArg (World.drewN _) (Nat.add_assoc _ _ _))⟩); (try have hx257_0 := bC HB RX253_0.out); (try have hx257_1 := bC HB RX253_1.out); (try have hx257_2 := bC HB RX253_2.out)) | (go_at_call 61; (try simp only [i64_w]); (with_reducible refine (spec_l00Floor.calls (wrap64 ((-1000) * t254)) t255 t258 _ A9.out).mono ?_); rintro e w' ⟨rfl, ⟨nd, rfl⟩⟩; (try first | exact ⟨rfl, _, World.drewN_drewN _ _ _⟩ | exact ⟨rfl, _, Eq.trans (World.drewN_drewN _ _ _) (congrArg (World.drewN _) (Nat.add_assoc _ _ _))⟩); (try have hx259_0 := bC HB RX253_0.out); (try have hx259_1 := bC HB RX253_1.out); (try have hx259_2 := bC HB RX253_2.out))); try go_wp2_with (first | (go_at_call 40; (with_reducible refine (spec_l17Lead.calls k _ c0 l0 t254 t255 _ ?side1 ?side2 A5.out).mono ?_); (case side1 => repeat (first | exact HR0.out | (with_reducible refine Kd.C_alloc ?_ _) | (with_reducible refine Kd.C_drewN ?_ _) | (with_reducible refine Kd.C_drew ?_))); (case side2 => exact HC0.out); rintro e w12 ⟨rfl, hb⟩; have n0_ := pS HB hb; clear HB; have HB := n0_; clear n0_; (try clear hb); (try clear hb2); (try clear hk); (try clear hi)) | (go_at_call 61; (try simp only [i64_w]); (with_reducible refine (spec_l00Floor.calls (wrap64 (1000 * t254)) t255 t256 _ A6.out).mono ?_); rintro e w' ⟨rfl, ⟨nd, rfl⟩⟩; (try first | exact ⟨rfl, _, World.drewN_drewN _ _ _⟩ | exact ⟨rfl, _, Eq.trans (World.drewN_drewN _ _ _) (congrArg (World.drewN _) (Nat.add_assoc _ _ _))⟩); (try have hx257_0 := bC HB RX253_0.out); (try have hx257_1 := bC HB RX253_1.out); (try have hx257_2 := bC HB RX253_2.out)) | (go_at_call 61; (try simp only [i64_w]); (with_reducible refine (spec_l00Floor.calls (wrap64 ((-1000) * t254)) t255 t258 _ A9.out).mono ?_); rintro e w' ⟨rfl, ⟨nd, rfl⟩⟩; (try first | exact ⟨rfl, _, World.drewN_drewN _ _ _⟩ | exact ⟨rfl, _, Eq.trans (World.drewN_drewN _ _ _) (congrArg (World.drewN _) (Nat.add_assoc _ _ _))⟩); (try have hx259_0 := bC HB RX253_0.out); (try have hx259_1 := bC HB RX253_1.out); (try have hx259_2 := bC HB RX253_2.out))))
    go_ret
    exact ⟨by first | rfl | (simp [errW_none, errW_some] <;> rfl) | (simp [*, errW_none, errW_some] <;> rfl), pR HB⟩
 ·rw [if_neg c4] at H
  exact absurd H (by simp)

/-! ### spec_HelmOf: function 23 -/
def spec_HelmOf.f (k : Nat) (l0_0 : List (S54)) (a0_1 : Int) (a0_2 : Int) (a1 : Int) (a2 : Int) : Option (ByteArray × Int) := (spec_l17Code.f k [(⟨l0_0, a0_1, a0_2⟩ : S29)]).bind fun t262 => (if t262 = 1 then (some ((⟨#[]⟩ : ByteArray), t262)) else ((spec_l17Range.f a1 a2).bind fun t263 => (if t263 = true then (if t262 = 0 then ((spec_l17Helm.f k [(⟨l0_0, a0_1, a0_2⟩ : S29)] a1 a2).bind fun t265 => (some (t265, 0))) else (some ((⟨#[]⟩ : ByteArray), t262))) else (some ((⟨#[]⟩ : ByteArray), 2)))))
theorem spec_HelmOf.mono : ∀ a0 a1 a2 a3 a4 k, LeO (spec_HelmOf.f k a0 a1 a2 a3 a4) (spec_HelmOf.f (k + 1) a0 a1 a2 a3 a4) := by
 intro a0 a1 a2 a3 a4 k
 unfold spec_HelmOf.f
 repeat' first
   | (with_reducible exact spec_l17Code.mono _ _)
   | (with_reducible exact spec_l17Helm.mono _ _ _ _)
   | (with_reducible exact LeO.refl _)
   | (with_reducible exact LeO.none _)
   | (with_reducible refine LeO.ite ?_ ?_)
   | (with_reducible refine LeO.bind ?_ (fun _ => ?_))
   | exact spec_l17Code.mono _ _
   | exact spec_l17Helm.mono _ _ _ _
   | exact LeO.none _
   | refine LeO.ite ?_ ?_
   | refine LeO.bind ?_ (fun _ => ?_)
set_option maxHeartbeats 8000000 in
set_option maxRecDepth 100000 in
theorem spec_HelmOf.calls (k : Nat) (A0_0 : Option Addr) (c0_0 : Nat) (l0_0 : List (S54)) (a0_1 : Int) (a0_2 : Int) (a1 : Int) (a2 : Int) (r1 : ByteArray) (r2 : Int) (w : World) (hr0_0 : Kd.C k54 w A0_0 l0_0.length l0_0) (hc0_0 : l0_0.length ≤ c0_0) (h : spec_HelmOf.f k l0_0 a0_1 a0_2 a1 a2 = some (r1, r2)) :
  Calls Try.prog 23 #[.agg #[.slice A0_0 l0_0.length c0_0, .int .i64 a0_1, .int .i64 a0_2], .int .i64 a1, .int .i64 a2] w fun e w' => e = .returned (.tuple #[.string r1, .int .i64 r2]) ∧ Below w.heap.size w w' := by
 have hu29 := Try.underlying29
 have HR0_0 := Aside0.mk hr0_0
 have HC0_0 := Aside0.mk hc0_0
 clear hr0_0 hc0_0
 have HB := Aside0.mk (Below.refl w.heap.size w)
 have H : ((spec_l17Code.f k [(⟨l0_0, a0_1, a0_2⟩ : S29)]).bind fun t262 => (if t262 = 1 then (some ((⟨#[]⟩ : ByteArray), t262)) else ((spec_l17Range.f a1 a2).bind fun t263 => (if t263 = true then (if t262 = 0 then ((spec_l17Helm.f k [(⟨l0_0, a0_1, a0_2⟩ : S29)] a1 a2).bind fun t265 => (some (t265, 0))) else (some ((⟨#[]⟩ : ByteArray), t262))) else (some ((⟨#[]⟩ : ByteArray), 2)))))) = some (r1, r2) := h
 clear h
 replace H := Option.bind_eq_some_iff.mp H
 obtain ⟨t262, A40, H⟩ := H
 replace H : (if t262 = 1 then (some ((⟨#[]⟩ : ByteArray), t262)) else ((spec_l17Range.f a1 a2).bind fun t263 => (if t263 = true then (if t262 = 0 then ((spec_l17Helm.f k [(⟨l0_0, a0_1, a0_2⟩ : S29)] a1 a2).bind fun t265 => (some (t265, 0))) else (some ((⟨#[]⟩ : ByteArray), t262))) else (some ((⟨#[]⟩ : ByteArray), 2))))) = some (r1, r2) := H
 have A4 := Aside0.mk A40
 clear A40
 have HF_ := Aside0.mk H
 clear H
 go_enter Try.func23, Try.ntmps23
 go_upto_if 11 with (first | ((with_reducible refine gate_dst (N := 3) rfl ?_); refine box_event ?hg (N := 3) ?hd (cs := #[.slice A0_0 l0_0.length c0_0, .int .i64 a0_1, .int .i64 a0_2]) (t := 29) ?hr ?_; (case hd => rfl); (case hg => rfl); (case hr => first | (go_simp; done) | (go_simp; rfl)); intro gb260 hg w5 hbox hb; have n0_ := pS HB hb; have n1_ := Aside0.mk (hbox); have n2_ := pG HB hg; have n3_ := pG HB hg; clear HB; have HB := n0_; have BK260 := n1_; have GW260 := n2_; have GE260 := n3_; clear n0_ n1_ n2_ n3_; clear hb hbox hg) | ((with_reducible refine gate_callee (f := 39) rfl ?_); refine goesL_ (some 9) rfl rfl Try.func39 (by kernel_rfl) rfl #[.pointer (some ⟨gb260, 0, none⟩)] rfl (by (try simp only [List.map_toArray, List.map_cons, List.map_nil]); first | done | rfl | (simp only [List.length_drop, List.length_take]; rfl)) ?_; (with_reducible refine (spec_l17Code.calls k _ 1 [(⟨l0_0, a0_1, a0_2⟩ : S29)] t262 _ ?side1 ?side2 A4.out).mono ?_); (case side1 => exact ro_box (t := 29) (cs := [.slice A0_0 l0_0.length c0_0, .int .i64 a0_1, .int .i64 a0_2]) (by (with_reducible repeat (first | refine blk_drewN ?_ _ | refine blk_drew ?_ | refine blk_alloc ?_ _)); exact BK260.out) (k29_mk _ ((⟨l0_0, a0_1, a0_2⟩ : S29)) (by exact HC0_0.out) (by repeat (first | exact (Kd.C_below HR0_0.out HB.out) | (with_reducible refine Kd.C_alloc ?_ _) | (with_reducible refine Kd.C_drewN ?_ _) | (with_reducible refine Kd.C_drew ?_)))) rfl); (case side2 => exact Nat.le_refl _); rintro e w6 ⟨rfl, hb⟩; refine ⟨_, rfl, ?_⟩; have n0_ := pB BK260 hb; have n1_ := pS HB hb; clear BK260 HB; have BK260 := n0_; have HB := n1_; clear n0_ n1_; (try clear hb); (try clear hb2); (try clear hk); (try clear hi)))
 (try simp only [Act.put, List.setIfInBounds_toArray, List.set_cons_zero, List.set_cons_succ])
 have H := HF_.out
 clear HF_
 by_cases c7 : t262 = 1
 ·rw [if_pos c7] at H
  have c7b0 : (t262 == 1) = true := beq_iff_eq.mpr c7
  have c7b1 : (t262 != 1) = false := bne_eq_false_iff_eq.mpr c7
  clear c7
  (first | rw [c7b0] | (simp only [i64_w, i32_w]; rw [c7b0]) | skip)
  simp only [Option.some.injEq, Prod.mk.injEq] at H
  obtain ⟨rfl, rfl⟩ := H
  go_wp2
  go_ret2
  exact ⟨by first | rfl | (simp [errW_none, errW_some] <;> rfl) | (simp [*, errW_none, errW_some] <;> rfl), pR HB⟩
 ·rw [if_neg c7] at H
  have c7b0 : (t262 == 1) = false := beq_eq_false_iff_ne.mpr c7
  have c7b1 : (t262 != 1) = true := bne_iff_ne.mpr c7
  (first | rw [c7b0] | (simp only [i64_w, i32_w]; rw [c7b0]) | skip)
  replace H := Option.bind_eq_some_iff.mp H
  obtain ⟨t263, A80, H⟩ := H
  replace H : (if t263 = true then (if t262 = 0 then ((spec_l17Helm.f k [(⟨l0_0, a0_1, a0_2⟩ : S29)] a1 a2).bind fun t265 => (some (t265, 0))) else (some ((⟨#[]⟩ : ByteArray), t262))) else (some ((⟨#[]⟩ : ByteArray), 2))) = some (r1, r2) := H
  have A8 := Aside0.mk A80
  clear A80
  by_cases c9 : t263 = true
  ·subst c9
   have H1 : (if t262 = 0 then ((spec_l17Helm.f k [(⟨l0_0, a0_1, a0_2⟩ : S29)] a1 a2).bind fun t265 => (some (t265, 0))) else (some ((⟨#[]⟩ : ByteArray), t262))) = some (r1, r2) := by rw [if_pos rfl] at H; exact H
   clear H
   have H := H1
   clear H1
   by_cases c10 : t262 = 0
   ·rw [if_pos c10] at H
    have c10b0 : (t262 == 0) = true := beq_iff_eq.mpr c10
    have c10b1 : (t262 != 0) = false := bne_eq_false_iff_eq.mpr c10
    clear c10
    replace H := Option.bind_eq_some_iff.mp H
    obtain ⟨t265, A110, H⟩ := H
    replace H : (some (t265, 0)) = some (r1, r2) := H
    have A11 := Aside0.mk A110
    clear A110
    simp only [Option.some.injEq, Prod.mk.injEq] at H
    obtain ⟨rfl, rfl⟩ := H
    go_wp2_with (first | ((with_reducible refine gate_callee (f := 42) rfl ?_); refine goesL_ (some 15) rfl rfl Try.func42 (by kernel_rfl) rfl #[.int .i64 a1, .int .i64 a2] rfl (by (try simp only [List.map_toArray, List.map_cons, List.map_nil]); first | done | rfl | (simp only [List.length_drop, List.length_take]; rfl)) ?_; (with_reducible refine (spec_l17Range.calls a1 a2 true _ A8.out).mono ?_); rintro e w' ⟨rfl, ⟨nd, rfl⟩⟩; refine ⟨_, rfl, ?_⟩) | ((with_reducible refine gate_callee (f := 43) rfl ?_); refine goesL_ (some 22) rfl rfl Try.func43 (by kernel_rfl) rfl #[.pointer (some ⟨gb260, 0, none⟩), .int .i64 a1, .int .i64 a2] rfl (by (try simp only [List.map_toArray, List.map_cons, List.map_nil]); first | done | rfl | (simp only [List.length_drop, List.length_take]; rfl)) ?_; (with_reducible refine (spec_l17Helm.calls k _ 1 [(⟨l0_0, a0_1, a0_2⟩ : S29)] a1 a2 t265 _ ?side1 ?side2 A11.out).mono ?_); (case side1 => exact ro_box (t := 29) (cs := [.slice A0_0 l0_0.length c0_0, .int .i64 a0_1, .int .i64 a0_2]) (by (with_reducible repeat (first | refine blk_drewN ?_ _ | refine blk_drew ?_ | refine blk_alloc ?_ _)); exact BK260.out) (k29_mk _ ((⟨l0_0, a0_1, a0_2⟩ : S29)) (by exact HC0_0.out) (by repeat (first | exact (Kd.C_below HR0_0.out (by repeat (first | (with_reducible first | exact HB.out | apply below_alloc | apply pw_below_drewN | apply below_drew1 | refine below_set ?_ GE260.out) | exact HB.out))) | (with_reducible refine Kd.C_alloc ?_ _) | (with_reducible refine Kd.C_drewN ?_ _) | (with_reducible refine Kd.C_drew ?_)))) rfl); (case side2 => exact Nat.le_refl _); rintro e w12 ⟨rfl, hb⟩; refine ⟨_, rfl, ?_⟩; have n0_ := pB BK260 hb; have n1_ := pS HB hb; clear BK260 HB; have BK260 := n0_; have HB := n1_; clear n0_ n1_; (try clear hb); (try clear hb2); (try clear hk); (try clear hi)))
    go_ret2
    exact ⟨by first | rfl | (simp [errW_none, errW_some] <;> rfl) | (simp [*, errW_none, errW_some] <;> rfl), pR HB⟩
   ·rw [if_neg c10] at H
    have c10b0 : (t262 == 0) = false := beq_eq_false_iff_ne.mpr c10
    have c10b1 : (t262 != 0) = true := bne_iff_ne.mpr c10
    simp only [Option.some.injEq, Prod.mk.injEq] at H
    obtain ⟨rfl, rfl⟩ := H
    go_wp2_with (first | ((with_reducible refine gate_callee (f := 42) rfl ?_); refine goesL_ (some 15) rfl rfl Try.func42 (by kernel_rfl) rfl #[.int .i64 a1, .int .i64 a2] rfl (by (try simp only [List.map_toArray, List.map_cons, List.map_nil]); first | done | rfl | (simp only [List.length_drop, List.length_take]; rfl)) ?_; (with_reducible refine (spec_l17Range.calls a1 a2 true _ A8.out).mono ?_); rintro e w' ⟨rfl, ⟨nd, rfl⟩⟩; refine ⟨_, rfl, ?_⟩))
    go_ret2
    exact ⟨by first | rfl | (simp [errW_none, errW_some] <;> rfl) | (simp [*, errW_none, errW_some] <;> rfl), pR HB⟩
  ·replace c9 := Bool.eq_false_iff.mpr c9
   subst c9
   have H1 : (some ((⟨#[]⟩ : ByteArray), 2)) = some (r1, r2) := by rw [if_neg (show ¬ (false = true) by decide)] at H; exact H
   clear H
   have H := H1
   clear H1
   simp only [Option.some.injEq, Prod.mk.injEq] at H
   obtain ⟨rfl, rfl⟩ := H
   go_wp2_with (first | ((with_reducible refine gate_callee (f := 42) rfl ?_); refine goesL_ (some 15) rfl rfl Try.func42 (by kernel_rfl) rfl #[.int .i64 a1, .int .i64 a2] rfl (by (try simp only [List.map_toArray, List.map_cons, List.map_nil]); first | done | rfl | (simp only [List.length_drop, List.length_take]; rfl)) ?_; (with_reducible refine (spec_l17Range.calls a1 a2 false _ A8.out).mono ?_); rintro e w' ⟨rfl, ⟨nd, rfl⟩⟩; refine ⟨_, rfl, ?_⟩))
   go_ret2
   exact ⟨by first | rfl | (simp [errW_none, errW_some] <;> rfl) | (simp [*, errW_none, errW_some] <;> rfl), pR HB⟩

/-! ### impl_within: function 28 -/
def impl_within.f (a0 : Int) (a1 : Int) (a2 : Int) : Option (Bool) := if a0 ≥ a1 then (some (decide (a0 ≤ a2))) else (some false)
set_option maxHeartbeats 8000000 in
set_option maxRecDepth 100000 in
theorem impl_within.calls (a0 : Int) (a1 : Int) (a2 : Int) (r : Bool) (w : World) (h : impl_within.f a0 a1 a2 = some r) :
  Calls Try.prog 28 #[.int .i64 a0, .int .i64 a1, .int .i64 a2] w fun e w' => e = .returned (.bool r) ∧ Drawn0 w w' := by
 have H : (if a0 ≥ a1 then (some (decide (a0 ≤ a2))) else (some false)) = some r := h
 clear h
 by_cases c4 : a0 ≥ a1
 ·rw [if_pos c4] at H
  have c4b0 : decide (a1 ≤ a0) = true := decide_eq_true c4
  clear c4
  obtain rfl := Option.some.inj H
  simp only [Option.some.injEq, Prod.mk.injEq] at H
  obtain ⟨rfl⟩ := H
  go_enter Try.func28, Try.ntmps28
  go_wp2
  go_ret
  exact ⟨by first | rfl | (simp; done) | (simp [*]; done), by repeat (first | exact Drawn0.refl _ | apply Drawn0.step)⟩
 ·rw [if_neg c4] at H
  have c4b0 : decide (a1 ≤ a0) = false := decide_eq_false c4
  clear c4
  obtain rfl := Option.some.inj H
  simp only [Option.some.injEq, Prod.mk.injEq] at H
  obtain ⟨rfl⟩ := H
  go_enter Try.func28, Try.ntmps28
  go_wp2
  go_ret
  exact ⟨by first | rfl | (simp; done) | (simp [*]; done), by repeat (first | exact Drawn0.refl _ | apply Drawn0.step)⟩

end Go.Proofs.Ytnfgijackilcjaa.PFnExactHelmOf
