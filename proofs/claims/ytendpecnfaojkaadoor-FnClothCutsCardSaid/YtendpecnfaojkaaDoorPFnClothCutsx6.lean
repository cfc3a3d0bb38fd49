-- Written by a program of this session (wip/tools/pp.sh).
import Derived.Test.YtendpecnfaojkaaDoorPFnClothCutsx0
import Derived.Test.YtendpecnfaojkaaDoorPFnClothCutsx1
import Derived.Test.YtendpecnfaojkaaDoorPFnClothCutsx2
namespace Go.Proofs.YtendpecnfaojkaaDoor.PFnClothCuts
open Go.RowKit Go.Proofs.YtendpecnfaojkaaDoorW.PrintWords Go.Proofs.YtendpecnfaojkaaDoorW.PrintLast Go.Proofs.YtendpecnfaojkaaDoorW.PrintMore Go.Proofs.YtendpecnfaojkaaDoor.Small
open Bool renaming true → T, false → F
attribute [local go_sem] max2_int min2_int max_two min_two max_three min_three max_four min_four   -- for this text's walks alone
set_option linter.unusedVariables false
set_option linter.unusedSimpArgs false

/-! ### impl_placesCode: function 45 -/
def impl_placesCode.l0 : Nat → List (S50) → List (S60) → Int → Int → Option (Int)
 | 0, _, _, _, _ => none
 | k + 1, x0, x21, x22, x23 => if x23 < x22 then (if 0 ≤ x23 then (if x23 < (x21.length : Int) then ((impl_within.f ((rd_T60 x21 x23).f0) 0 (wrap64 ((x0.length : Int) - 1))).bind fun t221 => (if t221 = true then (impl_placesCode.l0 k x0 x21 x22 (wrap64 (x23 + 1))) else (some 2))) else (none)) else (none)) else (some 0)
def impl_placesCode.f (k : Nat) (l0 : List (S50)) (l1 : List Int) (l2 : List (S60)) : Option (Int) := (impl_panelsCode.f k l0 l1).bind fun t218 => (if t218 = 0 then (if (l2.length : Int) = (l1.length : Int) then (impl_placesCode.l0 k l0 l2 (l2.length : Int) 0) else (some 2)) else (some t218))
theorem impl_placesCode.mono_l : ∀ k, (∀ y0 y1 y2 y3, LeO (impl_placesCode.l0 k y0 y1 y2 y3) (impl_placesCode.l0 (k + 1) y0 y1 y2 y3))
 | 0 => fun _ _ _ _ r h => by simp [impl_placesCode.l0] at h
 | k + 1 => by
  have ih0 := impl_placesCode.mono_l k
  ·intro y0 y1 y2 y3
   unfold impl_placesCode.l0
   repeat' with_reducible first | exact ih0 _ _ _ _ | exact impl_panelsCode.mono _ _ _ | exact LeO.refl _ | exact LeO.none _ | refine LeO.ite ?_ ?_ | refine LeO.bind ?_ (fun _ => ?_)
theorem impl_placesCode.mono : ∀ a0 a1 a2 k, LeO (impl_placesCode.f k a0 a1 a2) (impl_placesCode.f (k + 1) a0 a1 a2) := by
 intro a0 a1 a2 k; have ih0 := impl_placesCode.mono_l k; unfold impl_placesCode.f; repeat' with_reducible first | exact ih0 _ _ _ _ | exact impl_panelsCode.mono _ _ _ | exact LeO.refl _ | exact LeO.none _ | refine LeO.ite ?_ ?_ | refine LeO.bind ?_ (fun _ => ?_)
set_option maxHeartbeats 8000000 in
set_option maxRecDepth 100000 in
theorem impl_placesCode.calls (k : Nat) (A0 : Option Addr) (c0 : Nat) (l0 : List (S50)) (A1 : Option Addr) (c1 : Nat) (l1 : List Int) (A2 : Option Addr) (c2 : Nat) (l2 : List (S60)) (r : Int) (w : World) (hr0 : Kd.C k50 w A0 l0.length l0) (hc0 : l0.length ≤ c0) (hr1 : Kd.C (Kd.int .i64) w A1 l1.length l1) (hc1 : l1.length ≤ c1) (hr2 : Kd.C k60 w A2 l2.length l2) (hc2 : l2.length ≤ c2) (h : impl_placesCode.f k l0 l1 l2 = some r) :
  Calls Tryd.prog 45 #[.slice A0 l0.length c0, .slice A1 l1.length c1, .slice A2 l2.length c2] w fun e w' => e = .returned (.int .i64 r) ∧ Below w.heap.size w w' := by
 have hu60 := Tryd.underlying60; have HR0 := Aside0.mk hr0; have HC0 := Aside0.mk hc0; clear hr0 hc0; have HR1 := Aside0.mk hr1; have HC1 := Aside0.mk hc1; clear hr1 hc1; have HR2 := Aside0.mk hr2; have HC2 := Aside0.mk hc2; clear hr2 hc2; have HB := Aside0.mk (Below.refl w.heap.size w); have H : ((impl_panelsCode.f k l0 l1).bind fun t218 => (if t218 = 0 then (if (l2.length : Int) = (l1.length : Int) then (impl_placesCode.l0 k l0 l2 (l2.length : Int) 0) else (some 2)) else (some t218))) = some r := h; clear h; replace H := Option.bind_eq_some_iff.mp H; obtain ⟨t218, A40, H⟩ := H; (try dsimp only at H); have A4 := Aside0.mk A40; clear A40; by_cases c5 : t218 = 0
 ·rw [if_pos c5] at H; have c5b0 : (t218 == 0) = true := beq_iff_eq.mpr c5; have c5b1 : (t218 != 0) = false := bne_eq_false_iff_eq.mpr c5; clear c5; by_cases c6 : (l2.length : Int) = (l1.length : Int)
  ·rw [if_pos c6] at H; have c6b0 : ((l2.length : Int) == (l1.length : Int)) = true := beq_iff_eq.mpr c6; have c6b1 : ((l2.length : Int) != (l1.length : Int)) = false := bne_eq_false_iff_eq.mpr c6; (have c6b2 : (l2.length == l1.length) = true := by first | simpa using c6 | (simp at c6 ⊢; omega)); clear c6; have H' := Aside0.mk H; clear H; (go_enter Tryd.func45, Tryd.ntmps45); (go_wp2_with (first | ((with_reducible refine gate_callee (f := 24) rfl ?_); refine goesL_ (some 12) rfl rfl Tryd.func24 (by kernel_rfl) rfl #[.slice A0 l0.length c0, .slice A1 l1.length c1] rfl zM ?_; (with_reducible refine (impl_panelsCode.calls k _ _ l0 _ _ l1 t218 _ ?side1 ?side2 ?side3 ?side4 A4.out).mono ?_); (case side1 => (refine zC ?_; exact HR0.out)); (case side2 => exact HC0.out); (case side3 => (refine zC ?_; exact HR1.out)); (case side4 => exact HC1.out); rintro e w7 ⟨rfl, hb⟩; refine ⟨_, rfl, ?_⟩; replace HB := pS HB hb; (try clear hb)))); go_loopg [23] k (fun kq v23 w' => ∃ (x23_1 : Int), v23 = .int .i64 x23_1 ∧ Aside0 (impl_placesCode.l0 kq l0 l2 (l2.length : Int) x23_1 = some r) ∧ Aside0 (kq ≤ k) ∧ Aside0 (Below w.heap.size w w'))
   case atStart => exact ⟨(0), zF, H', ⟨Nat.le_refl _⟩, ⟨pR HB⟩⟩
   case round =>
    clear H'; (try clear c1); (try clear c2); (try clear p2); (try clear c4); (try clear c5); (try clear c5b0); (try clear c5b1); (try clear c6); (try clear c6b0); (try clear c6b1); (try clear c6b2); obtain ⟨x23_1, rfl, HA, HK1, HB⟩ := hrel
    cases gk with
    | zero => exact absurd HA.out (by simp [impl_placesCode.l0])
    | succ k1 =>
     have H := HA.out; clear HA; simp only [impl_placesCode.l0] at H; by_cases c8 : x23_1 < (l2.length : Int)
     ·rw [if_pos c8] at H; have c8b0 : decide (x23_1 < (l2.length : Int)) = true := decide_eq_true c8; clear c8; by_cases c9 : 0 ≤ x23_1
      ·rw [if_pos c9] at H; have c9b0 : decide (0 ≤ x23_1) = true := decide_eq_true c9; clear c9; by_cases c10 : x23_1 < (l2.length : Int)
       ·rw [if_pos c10] at H; have c10b0 : decide (x23_1 < (l2.length : Int)) = true := decide_eq_true c10; clear c10; replace H := Option.bind_eq_some_iff.mp H; obtain ⟨t221, A110, H⟩ := H; (try dsimp only at H); have A11 := Aside0.mk A110; clear A110; have HF_ := Aside0.mk H; clear H; have p219 : 0 ≤ (x23_1 : Int) := of_decide_eq_true (by first | (with_reducible assumption) | assumption); have q219 : x23_1 < (l2.length : Int) := of_decide_eq_true (by first | (with_reducible assumption) | assumption); obtain ⟨ad219, e219, hx219_0, hx219_1⟩ := at_T60 HR2.out x23_1 p219 q219
        cases e219
        replace hx219_0 := bC HB hx219_0; replace hx219_1 := bC HB hx219_1; replace p219 := eq_true p219; replace q219 := eq_true q219; (go_upto_if 33 with (first | ((with_reducible refine gate_dst (N := 9) rfl ?_); refine box_event ?hg (N := 9) ?hd (cs := #[.int .i64 0, .int .i64 0]) (t := 60) ?hr ?_; (case hd => rfl); (case hg => rfl); (case hr => first | (go_simp; done) | (go_simp; rfl)); intro gb220 hg w12 hbox hb; have BK220 := Aside0.mk (hbox); have GW220 := pG HB hg; have GE220 := pG HB hg; replace HB := pS HB hb; clear hb hbox hg; obtain ⟨hcz13_0, hcz13_1, hfz13_0, hfz13_1⟩ := cz2 BK220) | ((with_reducible refine gate_callee (f := 52) rfl ?_); refine goesL_ (some 32) rfl rfl Tryd.func52 (by kernel_rfl) rfl #[.int .i64 ((rd_T60 l2 x23_1).f0), .int .i64 0, .int .i64 (wrap64 ((l0.length : Int) - 1))] rfl zM ?_; (with_reducible refine (impl_within.calls ((rd_T60 l2 x23_1).f0) 0 (wrap64 ((l0.length : Int) - 1)) t221 _ A11.out).mono ?_); rintro e w' ⟨rfl, ⟨nd, rfl⟩⟩; refine ⟨_, rfl, ?_⟩))); (try simp only [Act.put, List.setIfInBounds_toArray, List.set_cons_zero, List.set_cons_succ]); have H := HF_.out; clear HF_; by_cases c14 : t221 = true
        ·subst c14; (have H1 : (impl_placesCode.l0 k1 l0 l2 (l2.length : Int) (wrap64 (x23_1 + 1))) = some r := by rw [if_pos rfl] at H; exact H); clear H; have H := H1; clear H1; have H' := Aside0.mk H; clear H; (go_wp2); go_roundg k1
         case measure => have := HK1.out; omega
         case rel => exact ⟨(wrap64 (x23_1 + 1)), zF, H', ⟨by have := HK1.out; omega⟩, ⟨pR HB⟩⟩
        ·replace c14 := Bool.eq_false_iff.mpr c14; subst c14; (have H1 : (some 2) = some r := by rw [if_neg (show ¬ (false = true) by decide)] at H; exact H); clear H; have H := H1; clear H1; obtain rfl := Option.some.inj H; simp only [Option.some.injEq, Prod.mk.injEq] at H; obtain ⟨rfl⟩ := H; (go_wp2); (go_ret); exact ⟨zE, pR HB⟩
       ·rw [if_neg c10] at H; exact absurd H (by simp)
      ·rw [if_neg c9] at H; exact absurd H (by simp)
     ·rw [if_neg c8] at H; have c8b0 : decide (x23_1 < (l2.length : Int)) = false := decide_eq_false c8; clear c8; obtain rfl := Option.some.inj H; simp only [Option.some.injEq, Prod.mk.injEq] at H; obtain ⟨rfl⟩ := H; (go_wp2); (go_ret); exact ⟨zE, pR HB⟩
  ·rw [if_neg c6] at H; have c6b0 : ((l2.length : Int) == (l1.length : Int)) = false := beq_eq_false_iff_ne.mpr c6; have c6b1 : ((l2.length : Int) != (l1.length : Int)) = true := bne_iff_ne.mpr c6; (have c6b2 : (l2.length == l1.length) = false := by first | simpa using c6 | (simp at c6 ⊢; omega)); obtain rfl := Option.some.inj H; simp only [Option.some.injEq, Prod.mk.injEq] at H; obtain ⟨rfl⟩ := H; (go_enter Tryd.func45, Tryd.ntmps45); (go_wp2_with (first | ((with_reducible refine gate_callee (f := 24) rfl ?_); refine goesL_ (some 12) rfl rfl Tryd.func24 (by kernel_rfl) rfl #[.slice A0 l0.length c0, .slice A1 l1.length c1] rfl zM ?_; (with_reducible refine (impl_panelsCode.calls k _ _ l0 _ _ l1 t218 _ ?side1 ?side2 ?side3 ?side4 A4.out).mono ?_); (case side1 => (refine zC ?_; exact HR0.out)); (case side2 => exact HC0.out); (case side3 => (refine zC ?_; exact HR1.out)); (case side4 => exact HC1.out); rintro e w15 ⟨rfl, hb⟩; refine ⟨_, rfl, ?_⟩; replace HB := pS HB hb; (try clear hb)))); (go_ret); exact ⟨zE, pR HB⟩
 ·rw [if_neg c5] at H; have c5b0 : (t218 == 0) = false := beq_eq_false_iff_ne.mpr c5; have c5b1 : (t218 != 0) = true := bne_iff_ne.mpr c5; obtain rfl := Option.some.inj H; simp only [Option.some.injEq, Prod.mk.injEq] at H; obtain ⟨rfl⟩ := H; (go_enter Tryd.func45, Tryd.ntmps45); (go_wp2_with (first | ((with_reducible refine gate_callee (f := 24) rfl ?_); refine goesL_ (some 12) rfl rfl Tryd.func24 (by kernel_rfl) rfl #[.slice A0 l0.length c0, .slice A1 l1.length c1] rfl zM ?_; (with_reducible refine (impl_panelsCode.calls k _ _ l0 _ _ l1 t218 _ ?side1 ?side2 ?side3 ?side4 A4.out).mono ?_); (case side1 => (refine zC ?_; exact HR0.out)); (case side2 => exact HC0.out); (case side3 => (refine zC ?_; exact HR1.out)); (case side4 => exact HC1.out); rintro e w16 ⟨rfl, hb⟩; refine ⟨_, rfl, ?_⟩; replace HB := pS HB hb; (try clear hb)))); (go_ret); exact ⟨zE, pR HB⟩

end Go.Proofs.YtendpecnfaojkaaDoor.PFnClothCuts
