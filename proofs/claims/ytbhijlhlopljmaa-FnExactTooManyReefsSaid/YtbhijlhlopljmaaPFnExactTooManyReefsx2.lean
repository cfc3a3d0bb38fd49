-- Written by a program of this session (wip/tools/pp.sh).
import Derived.Test.YtbhijlhlopljmaaPFnExactTooManyReefsx0
import Derived.Test.YtbhijlhlopljmaaPFnExactTooManyReefsx1
namespace Go.Proofs.Ytbhijlhlopljmaa.PFnExactTooManyReefs
open Go.RowKit Go.Proofs.YtbhijlhlopljmaaW.PrintWords Go.Proofs.YtbhijlhlopljmaaW.PrintLast Go.Proofs.YtbhijlhlopljmaaW.PrintMore
attribute [local go_sem] max2_int min2_int max_two min_two max_three min_three max_four min_four   -- for this text's walks alone
set_option linter.unusedVariables false
set_option linter.unusedSimpArgs false

/-! ### spec_l18Code: function 64 -/
def spec_l18Code.f (k : Nat) (l0 : List (S28)) (a1 : Int) (l2 : List Int) : Option (Int) := if 0 < (l0.length : Int) then ((spec_l18Ok.f k l0).bind fun t123 => (if t123 = true then ((spec_l00In.f a1 0 (((rd_T28 l0 0).f0).length : Int)).bind fun t125 => (if t125 = true then ((spec_l18Winds.f k l2).bind fun t126 => (if t126 = true then (some 0) else (some 2))) else (some 2))) else (some 1))) else (none)
theorem spec_l18Code.mono : ∀ a0 a1 a2 k, LeO (spec_l18Code.f k a0 a1 a2) (spec_l18Code.f (k + 1) a0 a1 a2) := by
 intro a0 a1 a2 k
 unfold spec_l18Code.f
 repeat' first
   | (with_reducible exact spec_l18Ok.mono _ _)
   | (with_reducible exact spec_l18Winds.mono _ _)
   | (with_reducible exact LeO.refl _)
   | (with_reducible exact LeO.none _)
   | (with_reducible refine LeO.ite ?_ ?_)
   | (with_reducible refine LeO.bind ?_ (fun _ => ?_))
   | exact spec_l18Ok.mono _ _
   | exact spec_l18Winds.mono _ _
   | exact LeO.none _
   | refine LeO.ite ?_ ?_
   | refine LeO.bind ?_ (fun _ => ?_)
set_option maxHeartbeats 8000000 in
set_option maxRecDepth 100000 in
theorem spec_l18Code.calls (k : Nat) (A0 : Option Addr) (c0 : Nat) (l0 : List (S28)) (a1 : Int) (A2 : Option Addr) (c2 : Nat) (l2 : List Int) (r : Int) (w : World) (hr0 : Kd.C k28 w A0 l0.length l0) (hc0 : l0.length ≤ c0) (hr2 : Kd.C (Kd.int .i64) w A2 l2.length l2) (hc2 : l2.length ≤ c2) (h : spec_l18Code.f k l0 a1 l2 = some r) :
  Calls Try.prog 64 #[.pointer A0, .int .i64 a1, .slice A2 l2.length c2] w fun e w' => e = .returned (.int .i64 r) ∧ Drawn0 w w' := by
 have HR0 := Aside0.mk hr0
 have HC0 := Aside0.mk hc0
 clear hr0 hc0
 have HR2 := Aside0.mk hr2
 have HC2 := Aside0.mk hc2
 clear hr2 hc2
 have H : (if 0 < (l0.length : Int) then ((spec_l18Ok.f k l0).bind fun t123 => (if t123 = true then ((spec_l00In.f a1 0 (((rd_T28 l0 0).f0).length : Int)).bind fun t125 => (if t125 = true then ((spec_l18Winds.f k l2).bind fun t126 => (if t126 = true then (some 0) else (some 2))) else (some 2))) else (some 1))) else (none)) = some r := h
 clear h
 by_cases c4 : 0 < (l0.length : Int)
 ·rw [if_pos c4] at H
  have c4b0 : decide (0 < (l0.length : Int)) = true := decide_eq_true c4
  have c4b1 : decide (0 < l0.length) = true := decide_eq_true (by omega)
  clear c4
  replace H := Option.bind_eq_some_iff.mp H
  obtain ⟨t123, A50, H⟩ := H
  replace H : (if t123 = true then ((spec_l00In.f a1 0 (((rd_T28 l0 0).f0).length : Int)).bind fun t125 => (if t125 = true then ((spec_l18Winds.f k l2).bind fun t126 => (if t126 = true then (some 0) else (some 2))) else (some 2))) else (some 1)) = some r := H
  have A5 := Aside0.mk A50
  clear A50
  by_cases c6 : t123 = true
  ·subst c6
   have H1 : ((spec_l00In.f a1 0 (((rd_T28 l0 0).f0).length : Int)).bind fun t125 => (if t125 = true then ((spec_l18Winds.f k l2).bind fun t126 => (if t126 = true then (some 0) else (some 2))) else (some 2))) = some r := by rw [if_pos rfl] at H; exact H
   clear H
   have H := H1
   clear H1
   replace H := Option.bind_eq_some_iff.mp H
   obtain ⟨t125, A70, H⟩ := H
   replace H : (if t125 = true then ((spec_l18Winds.f k l2).bind fun t126 => (if t126 = true then (some 0) else (some 2))) else (some 2)) = some r := H
   have A7 := Aside0.mk A70
   clear A70
   by_cases c8 : t125 = true
   ·subst c8
    have H1 : ((spec_l18Winds.f k l2).bind fun t126 => (if t126 = true then (some 0) else (some 2))) = some r := by rw [if_pos rfl] at H; exact H
    clear H
    have H := H1
    clear H1
    replace H := Option.bind_eq_some_iff.mp H
    obtain ⟨t126, A90, H⟩ := H
    replace H : (if t126 = true then (some 0) else (some 2)) = some r := H
    have A9 := Aside0.mk A90
    clear A90
    by_cases c10 : t126 = true
    ·subst c10
     have H1 : (some 0) = some r := by rw [if_pos rfl] at H; exact H
     clear H
     have H := H1
     clear H1
     obtain rfl := Option.some.inj H
     simp only [Option.some.injEq, Prod.mk.injEq] at H
     obtain ⟨rfl⟩ := H
     have p122 : 0 ≤ (0 : Int) := (by omega)
     have q122 : 0 < (l0.length : Int) := of_decide_eq_true (by first | (with_reducible assumption) | assumption)
     obtain ⟨ad122, A122_0, c122_0, A122_1, c122_1, e122, hx122_0, hx122_1, hl122_0, hi122_0, hl122_1, hi122_1⟩ := at_T28 HR0.out 0 p122 q122
     cases e122
     have qi122 : (0 < l0.length) = True := eq_true (by omega)
     (try rw [show ((0 : Int)).toNat = 0 from rfl] at hx122_0)
     (try rw [show 0 * 2 = 0 from rfl] at hx122_0)
     (try rw [Addr.add_zero'] at hx122_0)
     (try rw [show ((0 : Int)).toNat = 0 from rfl] at hx122_1)
     (try rw [show 0 * 2 = 0 from rfl] at hx122_1)
     (try rw [Addr.add_zero'] at hx122_1)
     have HR122_0 := Aside0.mk hi122_0
     have HC122_0 := Aside0.mk hl122_0
     clear hi122_0 hl122_0
     have HR122_1 := Aside0.mk hi122_1
     have HC122_1 := Aside0.mk hl122_1
     clear hi122_1 hl122_1
     replace p122 := eq_true p122
     replace q122 := eq_true q122
     have RX122_0 := Aside0.mk hx122_0
     clear hx122_0
     have RX122_1 := Aside0.mk hx122_1
     clear hx122_1
     go_enter Try.func64, Try.ntmps64
     go_wp2_with (first | ((with_reducible refine gate_callee (f := 118) rfl ?_); refine goesL_ (some 8) rfl rfl Try.func118 (by kernel_rfl) rfl #[.pointer (some ad122)] rfl (by (try simp only [List.map_toArray, List.map_cons, List.map_nil]); first | done | rfl | (simp only [List.length_drop, List.length_take]; rfl)) ?_; (with_reducible refine (spec_l18Ok.calls k _ c0 l0 true _ ?side1 ?side2 A5.out).mono ?_); (case side1 => repeat (first | exact HR0.out | (with_reducible refine Kd.C_alloc ?_ _) | (with_reducible refine Kd.C_drewN ?_ _) | (with_reducible refine Kd.C_drew ?_))); (case side2 => exact HC0.out); rintro e w' ⟨rfl, ⟨nd, rfl⟩⟩; refine ⟨_, rfl, ?_⟩; (try have hx124_0 := RX122_0.out); (try have hx124_1 := RX122_1.out)) | ((with_reducible refine gate_callee (f := 107) rfl ?_); refine goesL_ (some 16) rfl rfl Try.func107 (by kernel_rfl) rfl #[.int .i64 a1, .int .i64 0, .int .i64 (((rd_T28 l0 0).f0).length : Int)] rfl (by (try simp only [List.map_toArray, List.map_cons, List.map_nil]); first | done | rfl | (simp only [List.length_drop, List.length_take]; rfl)) ?_; (with_reducible refine (spec_l00In.calls a1 0 (((rd_T28 l0 0).f0).length : Int) true _ A7.out).mono ?_); rintro e w' ⟨rfl, ⟨nd, rfl⟩⟩; refine ⟨_, rfl, ?_⟩) | (go_at_call 119; (with_reducible refine (spec_l18Winds.calls k _ _ l2 true _ ?side1 ?side2 A9.out).mono ?_); (case side1 => repeat (first | exact HR2.out | (with_reducible refine Kd.C_alloc ?_ _) | (with_reducible refine Kd.C_drewN ?_ _) | (with_reducible refine Kd.C_drew ?_))); (case side2 => exact HC2.out); rintro e w' ⟨rfl, ⟨nd, rfl⟩⟩))
     go_ret
     exact ⟨by first | rfl | (simp; done) | (simp [*]; done), by repeat (first | exact Drawn0.refl _ | apply Drawn0.step)⟩
    ·replace c10 := Bool.eq_false_iff.mpr c10
     subst c10
     have H1 : (some 2) = some r := by rw [if_neg (show ¬ (false = true) by decide)] at H; exact H
     clear H
     have H := H1
     clear H1
     obtain rfl := Option.some.inj H
     simp only [Option.some.injEq, Prod.mk.injEq] at H
     obtain ⟨rfl⟩ := H
     have p122 : 0 ≤ (0 : Int) := (by omega)
     have q122 : 0 < (l0.length : Int) := of_decide_eq_true (by first | (with_reducible assumption) | assumption)
     obtain ⟨ad122, A122_0, c122_0, A122_1, c122_1, e122, hx122_0, hx122_1, hl122_0, hi122_0, hl122_1, hi122_1⟩ := at_T28 HR0.out 0 p122 q122
     cases e122
     have qi122 : (0 < l0.length) = True := eq_true (by omega)
     (try rw [show ((0 : Int)).toNat = 0 from rfl] at hx122_0)
     (try rw [show 0 * 2 = 0 from rfl] at hx122_0)
     (try rw [Addr.add_zero'] at hx122_0)
     (try rw [show ((0 : Int)).toNat = 0 from rfl] at hx122_1)
     (try rw [show 0 * 2 = 0 from rfl] at hx122_1)
     (try rw [Addr.add_zero'] at hx122_1)
     have HR122_0 := Aside0.mk hi122_0
     have HC122_0 := Aside0.mk hl122_0
     clear hi122_0 hl122_0
     have HR122_1 := Aside0.mk hi122_1
     have HC122_1 := Aside0.mk hl122_1
     clear hi122_1 hl122_1
     replace p122 := eq_true p122
     replace q122 := eq_true q122
     have RX122_0 := Aside0.mk hx122_0
     clear hx122_0
     have RX122_1 := Aside0.mk hx122_1
     clear hx122_1
     go_enter Try.func64, Try.ntmps64
     go_wp2_with (first | ((with_reducible refine gate_callee (f := 118) rfl ?_); refine goesL_ (some 8) rfl rfl Try.func118 (by kernel_rfl) rfl #[.pointer (some ad122)] rfl (by (try simp only [List.map_toArray, List.map_cons, List.map_nil]); first | done | rfl | (simp only [List.length_drop, List.length_take]; rfl)) ?_; (with_reducible refine (spec_l18Ok.calls k _ c0 l0 true _ ?side1 ?side2 A5.out).mono ?_); (case side1 => repeat (first | exact HR0.out | (with_reducible refine Kd.C_alloc ?_ _) | (with_reducible refine Kd.C_drewN ?_ _) | (with_reducible refine Kd.C_drew ?_))); (case side2 => exact HC0.out); rintro e w' ⟨rfl, ⟨nd, rfl⟩⟩; refine ⟨_, rfl, ?_⟩; (try have hx124_0 := RX122_0.out); (try have hx124_1 := RX122_1.out)) | ((with_reducible refine gate_callee (f := 107) rfl ?_); refine goesL_ (some 16) rfl rfl Try.func107 (by kernel_rfl) rfl #[.int .i64 a1, .int .i64 0, .int .i64 (((rd_T28 l0 0).f0).length : Int)] rfl (by (try simp only [List.map_toArray, List.map_cons, List.map_nil]); first | done | rfl | (simp only [List.length_drop, List.length_take]; rfl)) ?_; (with_reducible refine (spec_l00In.calls a1 0 (((rd_T28 l0 0).f0).length : Int) true _ A7.out).mono ?_); rintro e w' ⟨rfl, ⟨nd, rfl⟩⟩; refine ⟨_, rfl, ?_⟩) | (go_at_call 119; (with_reducible refine (spec_l18Winds.calls k _ _ l2 false _ ?side1 ?side2 A9.out).mono ?_); (case side1 => repeat (first | exact HR2.out | (with_reducible refine Kd.C_alloc ?_ _) | (with_reducible refine Kd.C_drewN ?_ _) | (with_reducible refine Kd.C_drew ?_))); (case side2 => exact HC2.out); rintro e w' ⟨rfl, ⟨nd, rfl⟩⟩))
     go_ret
     exact ⟨by first | rfl | (simp; done) | (simp [*]; done), by repeat (first | exact Drawn0.refl _ | apply Drawn0.step)⟩
   ·replace c8 := Bool.eq_false_iff.mpr c8
    subst c8
    have H1 : (some 2) = some r := by rw [if_neg (show ¬ (false = true) by decide)] at H; exact H
    clear H
    have H := H1
    clear H1
    obtain rfl := Option.some.inj H
    simp only [Option.some.injEq, Prod.mk.injEq] at H
    obtain ⟨rfl⟩ := H
    have p122 : 0 ≤ (0 : Int) := (by omega)
    have q122 : 0 < (l0.length : Int) := of_decide_eq_true (by first | (with_reducible assumption) | assumption)
    obtain ⟨ad122, A122_0, c122_0, A122_1, c122_1, e122, hx122_0, hx122_1, hl122_0, hi122_0, hl122_1, hi122_1⟩ := at_T28 HR0.out 0 p122 q122
    cases e122
    have qi122 : (0 < l0.length) = True := eq_true (by omega)
    (try rw [show ((0 : Int)).toNat = 0 from rfl] at hx122_0)
    (try rw [show 0 * 2 = 0 from rfl] at hx122_0)
    (try rw [Addr.add_zero'] at hx122_0)
    (try rw [show ((0 : Int)).toNat = 0 from rfl] at hx122_1)
    (try rw [show 0 * 2 = 0 from rfl] at hx122_1)
    (try rw [Addr.add_zero'] at hx122_1)
    have HR122_0 := Aside0.mk hi122_0
    have HC122_0 := Aside0.mk hl122_0
    clear hi122_0 hl122_0
    have HR122_1 := Aside0.mk hi122_1
    have HC122_1 := Aside0.mk hl122_1
    clear hi122_1 hl122_1
    replace p122 := eq_true p122
    replace q122 := eq_true q122
    have RX122_0 := Aside0.mk hx122_0
    clear hx122_0
    have RX122_1 := Aside0.mk hx122_1
    clear hx122_1
    go_enter Try.func64, Try.ntmps64
    go_wp2_with (first | ((with_reducible refine gate_callee (f := 118) rfl ?_); refine goesL_ (some 8) rfl rfl Try.func118 (by kernel_rfl) rfl #[.pointer (some ad122)] rfl (by (try simp only [List.map_toArray, List.map_cons, List.map_nil]); first | done | rfl | (simp only [List.length_drop, List.length_take]; rfl)) ?_; (with_reducible refine (spec_l18Ok.calls k _ c0 l0 true _ ?side1 ?side2 A5.out).mono ?_); (case side1 => repeat (first | exact HR0.out | (with_reducible refine Kd.C_alloc ?_ _) | (with_reducible refine Kd.C_drewN ?_ _) | (with_reducible refine Kd.C_drew ?_))); (case side2 => exact HC0.out); rintro e w' ⟨rfl, ⟨nd, rfl⟩⟩; refine ⟨_, rfl, ?_⟩; (try have hx124_0 := RX122_0.out); (try have hx124_1 := RX122_1.out)) | ((with_reducible refine gate_callee (f := 107) rfl ?_); refine goesL_ (some 16) rfl rfl Try.func107 (by kernel_rfl) rfl #[.int .i64 a1, .int .i64 0, .int .i64 (((rd_T28 l0 0).f0).length : Int)] rfl (by (try simp only [List.map_toArray, List.map_cons, List.map_nil]); first | done | rfl | (simp only [List.length_drop, List.length_take]; rfl)) ?_; (with_reducible refine (spec_l00In.calls a1 0 (((rd_T28 l0 0).f0).length : Int) false _ A7.out).mono ?_); rintro e w' ⟨rfl, ⟨nd, rfl⟩⟩; refine ⟨_, rfl, ?_⟩))
    go_ret
    exact ⟨by first | rfl | (simp; done) | (simp [*]; done), by repeat (first | exact Drawn0.refl _ | apply Drawn0.step)⟩
  ·replace c6 := Bool.eq_false_iff.mpr c6
   subst c6
   have H1 : (some 1) = some r := by rw [if_neg (show ¬ (false = true) by decide)] at H; exact H
   clear H
   have H := H1
   clear H1
   obtain rfl := Option.some.inj H
   simp only [Option.some.injEq, Prod.mk.injEq] at H
   obtain ⟨rfl⟩ := H
   have p122 : 0 ≤ (0 : Int) := (by omega)
   have q122 : 0 < (l0.length : Int) := of_decide_eq_true (by first | (with_reducible assumption) | assumption)
   obtain ⟨ad122, A122_0, c122_0, A122_1, c122_1, e122, hx122_0, hx122_1, hl122_0, hi122_0, hl122_1, hi122_1⟩ := at_T28 HR0.out 0 p122 q122
   cases e122
   have qi122 : (0 < l0.length) = True := eq_true (by omega)
   (try rw [show ((0 : Int)).toNat = 0 from rfl] at hx122_0)
   (try rw [show 0 * 2 = 0 from rfl] at hx122_0)
   (try rw [Addr.add_zero'] at hx122_0)
   (try rw [show ((0 : Int)).toNat = 0 from rfl] at hx122_1)
   (try rw [show 0 * 2 = 0 from rfl] at hx122_1)
   (try rw [Addr.add_zero'] at hx122_1)
   have HR122_0 := Aside0.mk hi122_0
   have HC122_0 := Aside0.mk hl122_0
   clear hi122_0 hl122_0
   have HR122_1 := Aside0.mk hi122_1
   have HC122_1 := Aside0.mk hl122_1
   clear hi122_1 hl122_1
   replace p122 := eq_true p122
   replace q122 := eq_true q122
   have RX122_0 := Aside0.mk hx122_0
   clear hx122_0
   have RX122_1 := Aside0.mk hx122_1
   clear hx122_1
   go_enter Try.func64, Try.ntmps64
   go_wp2_with (first | ((with_reducible refine gate_callee (f := 118) rfl ?_); refine goesL_ (some 8) rfl rfl Try.func118 (by kernel_rfl) rfl #[.pointer (some ad122)] rfl (by (try simp only [List.map_toArray, List.map_cons, List.map_nil]); first | done | rfl | (simp only [List.length_drop, List.length_take]; rfl)) ?_; (with_reducible refine (spec_l18Ok.calls k _ c0 l0 false _ ?side1 ?side2 A5.out).mono ?_); (case side1 => repeat (first | exact HR0.out | (with_reducible refine Kd.C_alloc ?_ _) | (with_reducible refine Kd.C_drewN ?_ _) | (with_reducible refine Kd.C_drew ?_))); (case side2 => exact HC0.out); rintro e w' ⟨rfl, ⟨nd, rfl⟩⟩; refine ⟨_, rfl, ?_⟩))
   go_ret
   exact ⟨by first | rfl | (simp; done) | (simp [*]; done), by repeat (first | exact Drawn0.refl _ | apply Drawn0.step)⟩
 ·rw [if_neg c4] at H
  exact absurd H (by simp)

/-! ### spec_l18Next: function 120 -/
mutual
def spec_l18Next.j1 : Nat → List (S28) → Int → Int → Option (Int)
 | 0, _, _, _ => none
 | k + 1, x0, x1, x2 => spec_l18Next.l1 k x0 x1 x2
def spec_l18Next.l1 : Nat → List (S28) → Int → Int → Option (Int)
 | 0, _, _, _ => none
 | k + 1, x0, x1, x2 => if x1 > 0 then (if 0 ≤ (wrap64 (x1 - 1)) then (if (wrap64 (x1 - 1)) < (((rd_T28 x0 0).f1).length : Int) then (if x2 < (rd ((rd_T28 x0 0).f1) (wrap64 (x1 - 1))) then (spec_l18Next.l1 k x0 (wrap64 (x1 - 1)) x2) else (some x1)) else (none)) else (none)) else (some x1)
def spec_l18Next.l0 : Nat → List (S28) → Int → Int → Option (Int)
 | 0, _, _, _ => none
 | k + 1, x0, x1, x2 => if x1 < (((rd_T28 x0 0).f0).length : Int) then (if 0 ≤ x1 then (if x2 ≥ (rd ((rd_T28 x0 0).f0) x1) then (spec_l18Next.l0 k x0 (wrap64 (x1 + 1)) x2) else (spec_l18Next.j1 k x0 x1 x2)) else (none)) else (spec_l18Next.j1 k x0 x1 x2)
end
def spec_l18Next.f (k : Nat) (l0 : List (S28)) (a1 : Int) (a2 : Int) : Option (Int) := if 0 < (l0.length : Int) then (spec_l18Next.l0 k l0 a1 a2) else (none)
theorem spec_l18Next.mono_l : ∀ k, (∀ y0 y1 y2, LeO (spec_l18Next.j1 k y0 y1 y2) (spec_l18Next.j1 (k + 1) y0 y1 y2)) ∧ (∀ y0 y1 y2, LeO (spec_l18Next.l1 k y0 y1 y2) (spec_l18Next.l1 (k + 1) y0 y1 y2)) ∧ (∀ y0 y1 y2, LeO (spec_l18Next.l0 k y0 y1 y2) (spec_l18Next.l0 (k + 1) y0 y1 y2))
 | 0 => ⟨fun _ _ _ r h => by simp [spec_l18Next.j1] at h, fun _ _ _ r h => by simp [spec_l18Next.l1] at h, fun _ _ _ r h => by simp [spec_l18Next.l0] at h⟩
 | k + 1 => by
  obtain ⟨ih0, ih1, ih2⟩ := spec_l18Next.mono_l k
  refine ⟨?_, ?_, ?_⟩
  ·intro y0 y1 y2
   unfold spec_l18Next.j1
   repeat' first
   | (with_reducible exact ih0 _ _ _)
   | (with_reducible exact ih1 _ _ _)
   | (with_reducible exact ih2 _ _ _)
   | (with_reducible exact LeO.refl _)
   | (with_reducible exact LeO.none _)
   | (with_reducible refine LeO.ite ?_ ?_)
   | (with_reducible refine LeO.bind ?_ (fun _ => ?_))
   | exact ih0 _ _ _
   | exact ih1 _ _ _
   | exact ih2 _ _ _
   | exact LeO.none _
   | refine LeO.ite ?_ ?_
   | refine LeO.bind ?_ (fun _ => ?_)
  ·intro y0 y1 y2
   unfold spec_l18Next.l1
   repeat' first
   | (with_reducible exact ih0 _ _ _)
   | (with_reducible exact ih1 _ _ _)
   | (with_reducible exact ih2 _ _ _)
   | (with_reducible exact LeO.refl _)
   | (with_reducible exact LeO.none _)
   | (with_reducible refine LeO.ite ?_ ?_)
   | (with_reducible refine LeO.bind ?_ (fun _ => ?_))
   | exact ih0 _ _ _
   | exact ih1 _ _ _
   | exact ih2 _ _ _
   | exact LeO.none _
   | refine LeO.ite ?_ ?_
   | refine LeO.bind ?_ (fun _ => ?_)
  ·intro y0 y1 y2
   unfold spec_l18Next.l0
   repeat' first
   | (with_reducible exact ih0 _ _ _)
   | (with_reducible exact ih1 _ _ _)
   | (with_reducible exact ih2 _ _ _)
   | (with_reducible exact LeO.refl _)
   | (with_reducible exact LeO.none _)
   | (with_reducible refine LeO.ite ?_ ?_)
   | (with_reducible refine LeO.bind ?_ (fun _ => ?_))
   | exact ih0 _ _ _
   | exact ih1 _ _ _
   | exact ih2 _ _ _
   | exact LeO.none _
   | refine LeO.ite ?_ ?_
   | refine LeO.bind ?_ (fun _ => ?_)
theorem spec_l18Next.mono : ∀ a0 a1 a2 k, LeO (spec_l18Next.f k a0 a1 a2) (spec_l18Next.f (k + 1) a0 a1 a2) := by
 intro a0 a1 a2 k
 obtain ⟨ih0, ih1, ih2⟩ := spec_l18Next.mono_l k
 unfold spec_l18Next.f
 repeat' first
   | (with_reducible exact ih0 _ _ _)
   | (with_reducible exact ih1 _ _ _)
   | (with_reducible exact ih2 _ _ _)
   | (with_reducible exact LeO.refl _)
   | (with_reducible exact LeO.none _)
   | (with_reducible refine LeO.ite ?_ ?_)
   | (with_reducible refine LeO.bind ?_ (fun _ => ?_))
   | exact ih0 _ _ _
   | exact ih1 _ _ _
   | exact ih2 _ _ _
   | exact LeO.none _
   | refine LeO.ite ?_ ?_
   | refine LeO.bind ?_ (fun _ => ?_)
set_option maxHeartbeats 8000000 in
set_option maxRecDepth 100000 in
theorem spec_l18Next.calls (k : Nat) (A0 : Option Addr) (c0 : Nat) (l0 : List (S28)) (a1 : Int) (a2 : Int) (r : Int) (w : World) (hr0 : Kd.C k28 w A0 l0.length l0) (hc0 : l0.length ≤ c0) (h : spec_l18Next.f k l0 a1 a2 = some r) :
  Calls Try.prog 120 #[.pointer A0, .int .i64 a1, .int .i64 a2] w fun e w' => e = .returned (.int .i64 r) ∧ Drawn0 w w' := by
 have HR0 := Aside0.mk hr0
 have HC0 := Aside0.mk hc0
 clear hr0 hc0
 have H : (if 0 < (l0.length : Int) then (spec_l18Next.l0 k l0 a1 a2) else (none)) = some r := h
 clear h
 by_cases c4 : 0 < (l0.length : Int)
 ·rw [if_pos c4] at H
  have c4b0 : decide (0 < (l0.length : Int)) = true := decide_eq_true c4
  have c4b1 : decide (0 < l0.length) = true := decide_eq_true (by omega)
  clear c4
  have HC5 := Aside0.mk H
  clear H
  have p127 : 0 ≤ (0 : Int) := (by omega)
  have q127 : 0 < (l0.length : Int) := of_decide_eq_true (by first | (with_reducible assumption) | assumption)
  obtain ⟨ad127, A127_0, c127_0, A127_1, c127_1, e127, hx127_0, hx127_1, hl127_0, hi127_0, hl127_1, hi127_1⟩ := at_T28 HR0.out 0 p127 q127
  cases e127
  have qi127 : (0 < l0.length) = True := eq_true (by omega)
  (try rw [show ((0 : Int)).toNat = 0 from rfl] at hx127_0)
  (try rw [show 0 * 2 = 0 from rfl] at hx127_0)
  (try rw [Addr.add_zero'] at hx127_0)
  (try rw [show ((0 : Int)).toNat = 0 from rfl] at hx127_1)
  (try rw [show 0 * 2 = 0 from rfl] at hx127_1)
  (try rw [Addr.add_zero'] at hx127_1)
  have HR127_0 := Aside0.mk hi127_0
  have HC127_0 := Aside0.mk hl127_0
  clear hi127_0 hl127_0
  have HR127_1 := Aside0.mk hi127_1
  have HC127_1 := Aside0.mk hl127_1
  clear hi127_1 hl127_1
  replace p127 := eq_true p127
  replace q127 := eq_true q127
  have RX127_0 := Aside0.mk hx127_0
  clear hx127_0
  have RX127_1 := Aside0.mk hx127_1
  clear hx127_1
  go_enter Try.func120, Try.ntmps120
  go_upto_block 0 with (fail)
  go_cut [1] (fun v1 wc => ∃ (kq : Nat) (x1_4 : Int), v1 = .int .i64 x1_4 ∧ Aside0 (spec_l18Next.j1 kq l0 x1_4 a2 = some r) ∧ Aside0 (kq ≤ k) ∧ Drawn0 w wc)
  case first =>
   have H := HC5.out
   clear HC5
   have H' := Aside0.mk H
   clear H
   go_wp2
   go_loopg [1] k (fun kq v1 w' => ∃ (x1_1 : Int), v1 = .int .i64 x1_1 ∧ Aside0 (spec_l18Next.l0 kq l0 x1_1 a2 = some r) ∧ Aside0 (kq ≤ k) ∧ Drawn0 w w')
   case atStart => exact ⟨(a1), (by first | rfl | (simp; done) | (simp [*]; done)), H', ⟨Nat.le_refl _⟩, by repeat (first | exact Drawn0.refl _ | apply Drawn0.step)⟩
   case round =>
    clear H'
    try clear c1
    try clear p1
    try clear q1
    try clear hx1
    try clear qi1
    try clear p2
    try clear c4
    try clear c4b0
    try clear c4b1
    try clear hx127_0
    try clear hx127_1
    try clear p127
    try clear q127
    obtain ⟨x1_1, rfl, HA, HK1, ⟨m1, rfl⟩⟩ := hrel
    cases gk with
    | zero => exact absurd HA.out (by simp [spec_l18Next.l0])
    | succ k1 =>
     have H := HA.out
     clear HA
     simp only [spec_l18Next.l0] at H
     by_cases c6 : x1_1 < (((rd_T28 l0 0).f0).length : Int)
     ·rw [if_pos c6] at H
      have c6b0 : decide (x1_1 < (((rd_T28 l0 0).f0).length : Int)) = true := decide_eq_true c6
      clear c6
      (first | rw [c6b0] | (simp only [i64_w, i32_w]; rw [c6b0]) | skip)
      by_cases c7 : 0 ≤ x1_1
      ·rw [if_pos c7] at H
       have c7b0 : decide (0 ≤ x1_1) = true := decide_eq_true c7
       clear c7
       by_cases c8 : a2 ≥ (rd ((rd_T28 l0 0).f0) x1_1)
       ·rw [if_pos c8] at H
        have c8b0 : decide ((rd ((rd_T28 l0 0).f0) x1_1) ≤ a2) = true := decide_eq_true c8
        clear c8
        have H' := Aside0.mk H
        clear H
        (try have hx128_0 := RX127_0.out)
        (try have hx128_1 := RX127_1.out)
        (try have hx129_0 := RX127_0.out)
        (try have hx129_1 := RX127_1.out)
        have p130 : 0 ≤ (x1_1 : Int) := of_decide_eq_true (by first | (with_reducible assumption) | assumption)
        have q130 : x1_1 < (((rd_T28 l0 0).f0).length : Int) := of_decide_eq_true (by first | (with_reducible assumption) | assumption)
        obtain ⟨ad130, e130, hx130_0⟩ := Kd.at_int HR127_0.out x1_1 p130 q130
        cases e130
        replace p130 := eq_true p130
        replace q130 := eq_true q130
        go_wp2
        go_roundg k1
        case measure => have := HK1.out; omega
        case rel => exact ⟨(wrap64 (x1_1 + 1)), (by first | rfl | (simp; done) | (simp [*]; done)), H', ⟨by have := HK1.out; omega⟩, by repeat (first | exact Drawn0.refl _ | apply Drawn0.step)⟩
       ·rw [if_neg c8] at H
        have c8b0 : decide ((rd ((rd_T28 l0 0).f0) x1_1) ≤ a2) = false := decide_eq_false c8
        clear c8
        have H' := Aside0.mk H
        clear H
        (try have hx128_0 := RX127_0.out)
        (try have hx128_1 := RX127_1.out)
        (try have hx129_0 := RX127_0.out)
        (try have hx129_1 := RX127_1.out)
        have p130 : 0 ≤ (x1_1 : Int) := of_decide_eq_true (by first | (with_reducible assumption) | assumption)
        have q130 : x1_1 < (((rd_T28 l0 0).f0).length : Int) := of_decide_eq_true (by first | (with_reducible assumption) | assumption)
        obtain ⟨ad130, e130, hx130_0⟩ := Kd.at_int HR127_0.out x1_1 p130 q130
        cases e130
        replace p130 := eq_true p130
        replace q130 := eq_true q130
        go_wp2
        go_meet
        case rel => exact ⟨_, (x1_1), (by first | rfl | (simp; done) | (simp [*]; done)), H', ⟨by have := HK1.out; first | omega | exact Nat.le_refl _⟩, by repeat (first | exact Drawn0.refl _ | apply Drawn0.step)⟩
      ·rw [if_neg c7] at H
       exact absurd H (by simp)
     ·rw [if_neg c6] at H
      have c6b0 : decide (x1_1 < (((rd_T28 l0 0).f0).length : Int)) = false := decide_eq_false c6
      clear c6
      (first | rw [c6b0] | (simp only [i64_w, i32_w]; rw [c6b0]) | skip)
      have H' := Aside0.mk H
      clear H
      (try have hx128_0 := RX127_0.out)
      (try have hx128_1 := RX127_1.out)
      go_wp2
      go_meet
      case rel => exact ⟨_, (x1_1), (by first | rfl | (simp; done) | (simp [*]; done)), H', ⟨by have := HK1.out; first | omega | exact Nat.le_refl _⟩, by repeat (first | exact Drawn0.refl _ | apply Drawn0.step)⟩
  case rest =>
   clear HC5
   try clear c1
   try clear p1
   try clear q1
   try clear hx1
   try clear qi1
   try clear p2
   try clear c4
   try clear c4b0
   try clear c4b1
   try clear c6
   try clear c6b0
   try clear p6
   try clear c7
   try clear c7b0
   try clear c8
   try clear c8b0
   try clear hx127_0
   try clear hx127_1
   try clear hx128_0
   try clear hx128_1
   try clear hx129_0
   try clear hx129_1
   try clear hx130_0
   try clear p1
   try clear p127
   try clear p130
   try clear p2
   try clear q1
   try clear q127
   try clear q130
   obtain ⟨kq, x1_4, rfl, HA, HJ4, ⟨mc4, rfl⟩⟩ := hcut
   cases kq with
   | zero => exact absurd HA.out (by simp [spec_l18Next.j1])
   | succ kj4 =>
    have H := HA.out
    clear HA
    simp only [spec_l18Next.j1] at H
    have H' := Aside0.mk H
    clear H
    go_wp2
    go_loopg [1] kj4 (fun kq v1 w' => ∃ (x1_2 : Int), v1 = .int .i64 x1_2 ∧ Aside0 (spec_l18Next.l1 kq l0 x1_2 a2 = some r) ∧ Aside0 (kq ≤ kj4) ∧ Drawn0 w w')
    case atStart => exact ⟨(x1_4), (by first | rfl | (simp; done) | (simp [*]; done)), H', ⟨Nat.le_refl _⟩, by repeat (first | exact Drawn0.refl _ | apply Drawn0.step)⟩
    case round =>
     clear H'
     try clear c1
     try clear p1
     try clear q1
     try clear hx1
     try clear qi1
     try clear p2
     try clear c4
     try clear c4b0
     try clear c4b1
     try clear c6
     try clear c6b0
     try clear p6
     try clear c7
     try clear c7b0
     try clear c8
     try clear c8b0
     try clear hx127_0
     try clear hx127_1
     try clear hx128_0
     try clear hx128_1
     try clear hx129_0
     try clear hx129_1
     try clear hx130_0
     try clear p1
     try clear p127
     try clear p130
     try clear p2
     try clear p6
     try clear q1
     try clear q127
     try clear q130
     obtain ⟨x1_2, rfl, HA, HK2, ⟨m2, rfl⟩⟩ := hrel
     cases gk with
     | zero => exact absurd HA.out (by simp [spec_l18Next.l1])
     | succ k2 =>
      have H := HA.out
      clear HA
      simp only [spec_l18Next.l1] at H
      by_cases c9 : x1_2 > 0
      ·rw [if_pos c9] at H
       have c9b0 : decide (0 < x1_2) = true := decide_eq_true c9
       clear c9
       obtain ⟨ji10, hji10⟩ : ∃ j_ : Int, (wrap64 (x1_2 - 1)) = j_ := ⟨_, rfl⟩
       replace H : (if 0 ≤ (ji10) then (if (ji10) < (((rd_T28 l0 0).f1).length : Int) then (if a2 < (rd ((rd_T28 l0 0).f1) (ji10)) then (spec_l18Next.l1 k2 l0 ji10 a2) else (some x1_2)) else (none)) else (none)) = some r := by first | (rw [hji10] at H; exact H) | (simp only [hji10] at H ⊢; exact H)
       have hji10w : (IntKind.i64.wrap (x1_2 - 1)) = ji10 := (i64_w _).trans hji10
       by_cases c11 : 0 ≤ (ji10)
       ·rw [if_pos c11] at H
        have c11b0 : decide (0 ≤ (ji10)) = true := decide_eq_true c11
        clear c11
        by_cases c12 : (ji10) < (((rd_T28 l0 0).f1).length : Int)
        ·rw [if_pos c12] at H
         have c12b0 : decide ((ji10) < (((rd_T28 l0 0).f1).length : Int)) = true := decide_eq_true c12
         clear c12
         by_cases c13 : a2 < (rd ((rd_T28 l0 0).f1) (ji10))
         ·rw [if_pos c13] at H
          have c13b0 : decide (a2 < (rd ((rd_T28 l0 0).f1) (ji10))) = true := decide_eq_true c13
          clear c13
          have H' := Aside0.mk H
          clear H
          (try have hx131_0 := RX127_0.out)
          (try have hx131_1 := RX127_1.out)
          have p132 : 0 ≤ ((ji10) : Int) := of_decide_eq_true (by first | (with_reducible assumption) | assumption)
          have q132 : (ji10) < (((rd_T28 l0 0).f1).length : Int) := of_decide_eq_true (by first | (with_reducible assumption) | assumption)
          obtain ⟨ad132, e132, hx132_0⟩ := Kd.at_int HR127_1.out (ji10) p132 q132
          cases e132
          replace p132 := eq_true p132
          replace q132 := eq_true q132
          go_wp2
          go_roundg k2
          case measure => have := HJ4.out; have := HK2.out; omega
          case rel => exact ⟨(ji10), (by first | rfl | (simp; done) | (simp only [← hji10] <;> (first | rfl | simp)) | (simp [*]; done)), H', ⟨by have := HJ4.out; have := HK2.out; omega⟩, by repeat (first | exact Drawn0.refl _ | apply Drawn0.step)⟩
         ·rw [if_neg c13] at H
          have c13b0 : decide (a2 < (rd ((rd_T28 l0 0).f1) (ji10))) = false := decide_eq_false c13
          clear c13
          obtain rfl := Option.some.inj H
          simp only [Option.some.injEq, Prod.mk.injEq] at H
          obtain ⟨rfl⟩ := H
          (try have hx131_0 := RX127_0.out)
          (try have hx131_1 := RX127_1.out)
          have p132 : 0 ≤ ((ji10) : Int) := of_decide_eq_true (by first | (with_reducible assumption) | assumption)
          have q132 : (ji10) < (((rd_T28 l0 0).f1).length : Int) := of_decide_eq_true (by first | (with_reducible assumption) | assumption)
          obtain ⟨ad132, e132, hx132_0⟩ := Kd.at_int HR127_1.out (ji10) p132 q132
          cases e132
          replace p132 := eq_true p132
          replace q132 := eq_true q132
          go_wp2
          go_ret
          exact ⟨by first | rfl | (simp; done) | (simp only [← hji10] <;> (first | rfl | simp)) | (simp [*]; done), by repeat (first | exact Drawn0.refl _ | apply Drawn0.step)⟩
        ·rw [if_neg c12] at H
         exact absurd H (by simp)
       ·rw [if_neg c11] at H
        exact absurd H (by simp)
      ·rw [if_neg c9] at H
       have c9b0 : decide (0 < x1_2) = false := decide_eq_false c9
       clear c9
       obtain rfl := Option.some.inj H
       simp only [Option.some.injEq, Prod.mk.injEq] at H
       obtain ⟨rfl⟩ := H
       go_wp2
       go_ret
       exact ⟨by first | rfl | (simp; done) | (simp [*]; done), by repeat (first | exact Drawn0.refl _ | apply Drawn0.step)⟩
 ·rw [if_neg c4] at H
  exact absurd H (by simp)

/-! ### spec_l18Run: function 65 -/
def spec_l18Run.l0 : Nat → List (S28) → Int → List Int → List Int → Int → Option (List Int)
 | 0, _, _, _, _, _ => none
 | k + 1, x0, x1, x2, x7, x8 => if x8 < (x2.length : Int) then (if 0 ≤ x8 then ((spec_l18Next.f k x0 x1 (rd x2 x8)).bind fun t138 => (if x7.length < 17592186044416 then (spec_l18Run.l0 k x0 t138 x2 (x7 ++ [t138]) (wrap64 (x8 + 1))) else (none))) else (none)) else (some x7)
def spec_l18Run.f (k : Nat) (l0 : List (S28)) (a1 : Int) (l2 : List Int) : Option (List Int) := if 0 < (l0.length : Int) then (spec_l18Run.l0 k l0 a1 l2 (([] : List Int)) 0) else (none)
theorem spec_l18Run.mono_l : ∀ k, (∀ y0 y1 y2 y3 y4, LeO (spec_l18Run.l0 k y0 y1 y2 y3 y4) (spec_l18Run.l0 (k + 1) y0 y1 y2 y3 y4))
 | 0 => fun _ _ _ _ _ r h => by simp [spec_l18Run.l0] at h
 | k + 1 => by
  have ih0 := spec_l18Run.mono_l k
  ·intro y0 y1 y2 y3 y4
   unfold spec_l18Run.l0
   repeat' first
   | (with_reducible exact ih0 _ _ _ _ _)
   | (with_reducible exact spec_l18Next.mono _ _ _ _)
   | (with_reducible exact LeO.refl _)
   | (with_reducible exact LeO.none _)
   | (with_reducible refine LeO.ite ?_ ?_)
   | (with_reducible refine LeO.bind ?_ (fun _ => ?_))
   | exact ih0 _ _ _ _ _
   | exact spec_l18Next.mono _ _ _ _
   | exact LeO.none _
   | refine LeO.ite ?_ ?_
   | refine LeO.bind ?_ (fun _ => ?_)
theorem spec_l18Run.mono : ∀ a0 a1 a2 k, LeO (spec_l18Run.f k a0 a1 a2) (spec_l18Run.f (k + 1) a0 a1 a2) := by
 intro a0 a1 a2 k
 have ih0 := spec_l18Run.mono_l k
 unfold spec_l18Run.f
 repeat' first
   | (with_reducible exact ih0 _ _ _ _ _)
   | (with_reducible exact spec_l18Next.mono _ _ _ _)
   | (with_reducible exact LeO.refl _)
   | (with_reducible exact LeO.none _)
   | (with_reducible refine LeO.ite ?_ ?_)
   | (with_reducible refine LeO.bind ?_ (fun _ => ?_))
   | exact ih0 _ _ _ _ _
   | exact spec_l18Next.mono _ _ _ _
   | exact LeO.none _
   | refine LeO.ite ?_ ?_
   | refine LeO.bind ?_ (fun _ => ?_)
set_option maxHeartbeats 8000000 in
set_option maxRecDepth 100000 in
theorem spec_l18Run.calls (k : Nat) (A0 : Option Addr) (c0 : Nat) (l0 : List (S28)) (a1 : Int) (A2 : Option Addr) (c2 : Nat) (l2 : List Int) (r : List Int) (w : World) (hr0 : Kd.C k28 w A0 l0.length l0) (hc0 : l0.length ≤ c0) (hr2 : Kd.C (Kd.int .i64) w A2 l2.length l2) (hc2 : l2.length ≤ c2) (h : spec_l18Run.f k l0 a1 l2 = some r) :
  Calls Try.prog 65 #[.pointer A0, .int .i64 a1, .slice A2 l2.length c2] w fun e w' => ∃ v0_ : Value, e = .returned (v0_) ∧ Kd.R (Kd.int .i64) 2 w' w.heap.size (fun _ => True) v0_ r ∧ Below w.heap.size w w' := by
 have HR0 := Aside0.mk hr0
 have HC0 := Aside0.mk hc0
 clear hr0 hc0
 have HR2 := Aside0.mk hr2
 have HC2 := Aside0.mk hc2
 clear hr2 hc2
 have HB := Aside0.mk (Below.refl w.heap.size w)
 have H : (if 0 < (l0.length : Int) then (spec_l18Run.l0 k l0 a1 l2 (([] : List Int)) 0) else (none)) = some r := h
 clear h
 by_cases c4 : 0 < (l0.length : Int)
 ·rw [if_pos c4] at H
  have c4b0 : decide (0 < (l0.length : Int)) = true := decide_eq_true c4
  have c4b1 : decide (0 < l0.length) = true := decide_eq_true (by omega)
  clear c4
  obtain ⟨y134, hy134⟩ : ∃ y_ : List Int, y_ = (([] : List Int)) := ⟨_, rfl⟩
  replace H : (spec_l18Run.l0 k l0 a1 l2 y134 0) = some r := by first | (rw [hy134]; with_reducible exact H) | (have H2_ := (Option.bind_some _ _).symm.trans H; rw [hy134]; with_reducible exact H2_) | (have H2_ := (Option.bind_some _ _).symm.trans H; with_reducible exact H2_) | with_reducible exact H | (rw [hy134]; exact H) | exact H
  have Ny134 := Aside0.mk hy134
  clear hy134
  have H' := Aside0.mk H
  clear H
  have p133 : 0 ≤ (0 : Int) := (by omega)
  have q133 : 0 < (l0.length : Int) := of_decide_eq_true (by first | (with_reducible assumption) | assumption)
  obtain ⟨ad133, A133_0, c133_0, A133_1, c133_1, e133, hx133_0, hx133_1, hl133_0, hi133_0, hl133_1, hi133_1⟩ := at_T28 HR0.out 0 p133 q133
  cases e133
  have qi133 : (0 < l0.length) = True := eq_true (by omega)
  (try rw [show ((0 : Int)).toNat = 0 from rfl] at hx133_0)
  (try rw [show 0 * 2 = 0 from rfl] at hx133_0)
  (try rw [Addr.add_zero'] at hx133_0)
  (try rw [show ((0 : Int)).toNat = 0 from rfl] at hx133_1)
  (try rw [show 0 * 2 = 0 from rfl] at hx133_1)
  (try rw [Addr.add_zero'] at hx133_1)
  have HR133_0 := Aside0.mk hi133_0
  have HC133_0 := Aside0.mk hl133_0
  clear hi133_0 hl133_0
  have HR133_1 := Aside0.mk hi133_1
  have HC133_1 := Aside0.mk hl133_1
  clear hi133_1 hl133_1
  replace p133 := eq_true p133
  replace q133 := eq_true q133
  have RX133_0 := Aside0.mk hx133_0
  clear hx133_0
  have RX133_1 := Aside0.mk hx133_1
  clear hx133_1
  go_enter Try.func65, Try.ntmps65
  go_wp2_with (first | ((with_reducible refine gate_dst (N := 9) rfl ?_); refine Kd.R_lit (Kd.int .i64) _ 2 ?hg (N := 9) ?hd (xs := ([] : List Int)) (inner := []) (ok := fun _ => True) (okp := fun _ => True) ?hr ?hp (fun _ hk => hk) trivial (Below.refl _ _) (Nat.le_refl _) (by simp) ?_; (case hd => rfl); (case hg => rfl); (case hr => first | (go_simp; done) | (go_simp; rfl)); (case hp => exact (Reps.none _ _)); intro v135 w5 ho6 hb hg_ hnew_; clear hg_ hnew_; (first | rw [← Ny134.out] at ho6 | (simp only [Int.reduceToNat] at ho6; rw [← Ny134.out] at ho6)); have n0_ := Aside0.mk (Kd.R_lower ho6 (below_size (by repeat (first | (with_reducible first | exact HB.out | apply below_alloc | apply pw_below_drewN | apply below_drew1) | exact HB.out)))); have n1_ := Aside0.mk (below_step (by repeat (first | (with_reducible first | exact HB.out | apply below_alloc | apply pw_below_drewN | apply below_drew1) | exact HB.out)) hb); clear HB; have HO136 := n0_; have HB := n1_; clear n0_ n1_; clear hb ho6))
  go_loopg [1, 7, 8] k (fun kq v1 v7 v8 w' => ∃ (x1_1 : Int) (x7_1 : List Int) (x8_1 : Int), v1 = .int .i64 x1_1 ∧ v8 = .int .i64 x8_1 ∧ Aside0 (spec_l18Run.l0 kq l0 x1_1 l2 x7_1 x8_1 = some r) ∧ Aside0 (kq ≤ k) ∧ Aside0 (Kd.R (Kd.int .i64) 2 w' w.heap.size (fun _ => True) v7 x7_1) ∧ Aside0 (Below w.heap.size w w'))
  case atStart => exact ⟨(a1), (y134), (0), (by first | rfl | (simp; done) | (simp [*]; done)), (by first | rfl | (simp; done) | (simp [*]; done)), H', ⟨Nat.le_refl _⟩, ⟨by (with_reducible repeat (first | apply Kd.R_alloc | apply Kd.R_drewN | apply Kd.R_drew)); exact HO136.out⟩, ⟨by repeat (first | (with_reducible first | exact HB.out | apply below_alloc | apply pw_below_drewN | apply below_drew1) | exact HB.out)⟩⟩
  case round =>
   clear H'
   try clear c1
   try clear p1
   try clear q1
   try clear hx1
   try clear qi1
   try clear c2
   try clear p2
   try clear c4
   try clear c4b0
   try clear c4b1
   try clear c6
   try clear hx133_0
   try clear hx133_1
   try clear p133
   try clear q133
   obtain ⟨x1_1, x7_1, x8_1, rfl, rfl, HA, HK1, HO_7, HB⟩ := hrel
   cases gk with
   | zero => exact absurd HA.out (by simp [spec_l18Run.l0])
   | succ k1 =>
    have H := HA.out
    clear HA
    simp only [spec_l18Run.l0] at H
    by_cases c7 : x8_1 < (l2.length : Int)
    ·rw [if_pos c7] at H
     have c7b0 : decide (x8_1 < (l2.length : Int)) = true := decide_eq_true c7
     clear c7
     by_cases c8 : 0 ≤ x8_1
     ·rw [if_pos c8] at H
      have c8b0 : decide (0 ≤ x8_1) = true := decide_eq_true c8
      clear c8
      replace H := Option.bind_eq_some_iff.mp H
      obtain ⟨t138, A90, H⟩ := H
      replace H : (if x7_1.length < 17592186044416 then (spec_l18Run.l0 k1 l0 t138 l2 (x7_1 ++ [t138]) (wrap64 (x8_1 + 1))) else (none)) = some r := H
      have A9 := Aside0.mk A90
      clear A90
      by_cases c10 : x7_1.length < 17592186044416
      ·rw [if_pos c10] at H
       have LMc10 := Aside0.mk c10
       clear c10
       obtain ⟨y139, hy139⟩ : ∃ y_ : List Int, y_ = (x7_1 ++ [t138]) := ⟨_, rfl⟩
       replace H : (spec_l18Run.l0 k1 l0 t138 l2 y139 (wrap64 (x8_1 + 1))) = some r := by first | (rw [hy139]; with_reducible exact H) | (have H2_ := (Option.bind_some _ _).symm.trans H; rw [hy139]; with_reducible exact H2_) | (have H2_ := (Option.bind_some _ _).symm.trans H; with_reducible exact H2_) | with_reducible exact H | (rw [hy139]; exact H) | exact H
       have Ny139 := Aside0.mk hy139
       clear hy139
       have H' := Aside0.mk H
       clear H
       have p137 : 0 ≤ (x8_1 : Int) := of_decide_eq_true (by first | (with_reducible assumption) | assumption)
       have q137 : x8_1 < (l2.length : Int) := of_decide_eq_true (by first | (with_reducible assumption) | assumption)
       obtain ⟨ad137, e137, hx137_0⟩ := Kd.at_int HR2.out x8_1 p137 q137
       cases e137
       replace hx137_0 := (HB.out.cell (World.block_lt_of_cell? w _ hx137_0)).trans hx137_0
       replace p137 := eq_true p137
       replace q137 := eq_true q137
       go_wp2_with (first | ((with_reducible refine gate_callee (f := 120) rfl ?_); refine goesL_ (some 22) rfl rfl Try.func120 (by kernel_rfl) rfl #[.pointer (some ad133), .int .i64 x1_1, .int .i64 (rd l2 x8_1)] rfl (by (try simp only [List.map_toArray, List.map_cons, List.map_nil]); first | done | rfl | (simp only [List.length_drop, List.length_take]; rfl)) ?_; (with_reducible refine (spec_l18Next.calls k1 _ c0 l0 x1_1 (rd l2 x8_1) t138 _ ?side1 ?side2 A9.out).mono ?_); (case side1 => repeat (first | exact (Kd.C_below HR0.out HB.out) | (with_reducible refine Kd.C_alloc ?_ _) | (with_reducible refine Kd.C_drewN ?_ _) | (with_reducible refine Kd.C_drew ?_))); (case side2 => exact HC0.out); rintro e w' ⟨rfl, ⟨nd, rfl⟩⟩; refine ⟨_, rfl, ?_⟩) | ((with_reducible refine gate_builtin (b := .append) (xs := #[.tmp 23, .tmp 25]) rfl ?_); at_builtin; refine Kd.R_append (Kd.int .i64) (w0 := w) w.heap.size rfl (.tmp 23) (.tmp 25) 22 2 (.int .i64 0) 8 rfl Try.underlying22 info2 rfl (by decide) (by omega) u7 x7_1 t138 [.int .i64 t138] (fun _ => True) (fun _ => False) rfl rfl ?aP (fun _ hk => hk.elim) ?aF ?aO ?aB ?aS ?aL ?_; (case aP => exact rfl); (case aB => exact (by repeat (first | (with_reducible first | exact HB.out | apply below_alloc | apply pw_below_drewN | apply below_drew1) | exact HB.out))); (case aF => exact (fun _ _ => trivial)); (case aO => exact (by (with_reducible repeat (first | apply Kd.R_alloc | apply Kd.R_drewN | apply Kd.R_drew)); exact HO_7.out)); (case aS => exact (below_size (by repeat (first | (with_reducible first | exact HB.out | apply below_alloc | apply pw_below_drewN | apply below_drew1) | exact HB.out)))); (case aL => have := LMc10.out; omega); intro v140 w11 ho hb hg hat; rw [← Ny139.out] at ho; have n0_ := Aside0.mk (hb); have n1_ := Aside0.mk (ho); clear HB; clear HO_7; have HB := n0_; have HO141 := n1_; clear n0_ n1_; clear ho hb hg hat))
       go_roundg k1
       case measure => have := HK1.out; omega
       case rel => exact ⟨(t138), (y139), (wrap64 (x8_1 + 1)), (by first | rfl | (simp; done) | (simp [*]; done)), (by first | rfl | (simp; done) | (simp [*]; done)), H', ⟨by have := HK1.out; omega⟩, ⟨by (with_reducible repeat (first | apply Kd.R_alloc | apply Kd.R_drewN | apply Kd.R_drew)); exact HO141.out⟩, ⟨by repeat (first | (with_reducible first | exact HB.out | apply below_alloc | apply pw_below_drewN | apply below_drew1) | exact HB.out)⟩⟩
      ·rw [if_neg c10] at H
       exact absurd H (by simp)
     ·rw [if_neg c8] at H
      exact absurd H (by simp)
    ·rw [if_neg c7] at H
     have c7b0 : decide (x8_1 < (l2.length : Int)) = false := decide_eq_false c7
     clear c7
     obtain rfl := Option.some.inj H
     simp only [Option.some.injEq, Prod.mk.injEq] at H
     obtain ⟨rfl⟩ := H
     go_wp2
     go_ret
     exact ⟨_, by first | rfl | (simp [errW_none, errW_some] <;> rfl) | (simp [*, errW_none, errW_some] <;> rfl), by (with_reducible repeat (first | apply Kd.R_alloc | apply Kd.R_drewN | apply Kd.R_drew)); exact HO_7.out, by repeat (first | (with_reducible first | exact HB.out | apply below_alloc | apply pw_below_drewN | apply below_drew1) | exact HB.out)⟩
 ·rw [if_neg c4] at H
  exact absurd H (by simp)

/-! ### spec_l18Needs: function 66 -/
def spec_l18Needs.l0 : Nat → List (S28) → Int → Int → Int → Option (Int)
 | 0, _, _, _, _ => none
 | k + 1, x0, x1, x5, x6 => if x6 < (((rd_T28 x0 0).f0).length : Int) then (if 0 ≤ x6 then (if (rd ((rd_T28 x0 0).f0) x6) ≤ x1 then (spec_l18Needs.l0 k x0 x1 (wrap64 (x5 + 1)) (wrap64 (x6 + 1))) else (spec_l18Needs.l0 k x0 x1 x5 (wrap64 (x6 + 1)))) else (none)) else (some x5)
def spec_l18Needs.f (k : Nat) (l0 : List (S28)) (a1 : Int) : Option (Int) := if 0 < (l0.length : Int) then (spec_l18Needs.l0 k l0 a1 0 0) else (none)
theorem spec_l18Needs.mono_l : ∀ k, (∀ y0 y1 y2 y3, LeO (spec_l18Needs.l0 k y0 y1 y2 y3) (spec_l18Needs.l0 (k + 1) y0 y1 y2 y3))
 | 0 => fun _ _ _ _ r h => by simp [spec_l18Needs.l0] at h
 | k + 1 => by
  have ih0 := spec_l18Needs.mono_l k
  ·intro y0 y1 y2 y3
   unfold spec_l18Needs.l0
   repeat' first
   | (with_reducible exact ih0 _ _ _ _)
   | (with_reducible exact LeO.refl _)
   | (with_reducible exact LeO.none _)
   | (with_reducible refine LeO.ite ?_ ?_)
   | (with_reducible refine LeO.bind ?_ (fun _ => ?_))
   | exact ih0 _ _ _ _
   | exact LeO.none _
   | refine LeO.ite ?_ ?_
   | refine LeO.bind ?_ (fun _ => ?_)
theorem spec_l18Needs.mono : ∀ a0 a1 k, LeO (spec_l18Needs.f k a0 a1) (spec_l18Needs.f (k + 1) a0 a1) := by
 intro a0 a1 k
 have ih0 := spec_l18Needs.mono_l k
 unfold spec_l18Needs.f
 repeat' first
   | (with_reducible exact ih0 _ _ _ _)
   | (with_reducible exact LeO.refl _)
   | (with_reducible exact LeO.none _)
   | (with_reducible refine LeO.ite ?_ ?_)
   | (with_reducible refine LeO.bind ?_ (fun _ => ?_))
   | exact ih0 _ _ _ _
   | exact LeO.none _
   | refine LeO.ite ?_ ?_
   | refine LeO.bind ?_ (fun _ => ?_)
set_option maxHeartbeats 8000000 in
set_option maxRecDepth 100000 in
theorem spec_l18Needs.calls (k : Nat) (A0 : Option Addr) (c0 : Nat) (l0 : List (S28)) (a1 : Int) (r : Int) (w : World) (hr0 : Kd.C k28 w A0 l0.length l0) (hc0 : l0.length ≤ c0) (h : spec_l18Needs.f k l0 a1 = some r) :
  Calls Try.prog 66 #[.pointer A0, .int .i64 a1] w fun e w' => e = .returned (.int .i64 r) ∧ Drawn0 w w' := by
 have HR0 := Aside0.mk hr0
 have HC0 := Aside0.mk hc0
 clear hr0 hc0
 have H : (if 0 < (l0.length : Int) then (spec_l18Needs.l0 k l0 a1 0 0) else (none)) = some r := h
 clear h
 by_cases c3 : 0 < (l0.length : Int)
 ·rw [if_pos c3] at H
  have c3b0 : decide (0 < (l0.length : Int)) = true := decide_eq_true c3
  have c3b1 : decide (0 < l0.length) = true := decide_eq_true (by omega)
  clear c3
  have H' := Aside0.mk H
  clear H
  have p142 : 0 ≤ (0 : Int) := (by omega)
  have q142 : 0 < (l0.length : Int) := of_decide_eq_true (by first | (with_reducible assumption) | assumption)
  obtain ⟨ad142, A142_0, c142_0, A142_1, c142_1, e142, hx142_0, hx142_1, hl142_0, hi142_0, hl142_1, hi142_1⟩ := at_T28 HR0.out 0 p142 q142
  cases e142
  have qi142 : (0 < l0.length) = True := eq_true (by omega)
  (try rw [show ((0 : Int)).toNat = 0 from rfl] at hx142_0)
  (try rw [show 0 * 2 = 0 from rfl] at hx142_0)
  (try rw [Addr.add_zero'] at hx142_0)
  (try rw [show ((0 : Int)).toNat = 0 from rfl] at hx142_1)
  (try rw [show 0 * 2 = 0 from rfl] at hx142_1)
  (try rw [Addr.add_zero'] at hx142_1)
  have HR142_0 := Aside0.mk hi142_0
  have HC142_0 := Aside0.mk hl142_0
  clear hi142_0 hl142_0
  have HR142_1 := Aside0.mk hi142_1
  have HC142_1 := Aside0.mk hl142_1
  clear hi142_1 hl142_1
  replace p142 := eq_true p142
  replace q142 := eq_true q142
  have RX142_0 := Aside0.mk hx142_0
  clear hx142_0
  have RX142_1 := Aside0.mk hx142_1
  clear hx142_1
  go_enter Try.func66, Try.ntmps66
  go_wp2
  go_loopg [5, 6] k (fun kq v5 v6 w' => ∃ (x5_1 : Int) (x6_1 : Int), v5 = .int .i64 x5_1 ∧ v6 = .int .i64 x6_1 ∧ Aside0 (spec_l18Needs.l0 kq l0 a1 x5_1 x6_1 = some r) ∧ Aside0 (kq ≤ k) ∧ Drawn0 w w')
  case atStart => exact ⟨(0), (0), (by first | rfl | (simp; done) | (simp [*]; done)), (by first | rfl | (simp; done) | (simp [*]; done)), H', ⟨Nat.le_refl _⟩, by repeat (first | exact Drawn0.refl _ | apply Drawn0.step)⟩
  case round =>
   clear H'
   try clear c1
   try clear p1
   try clear q1
   try clear hx1
   try clear qi1
   try clear p2
   try clear c3
   try clear c3b0
   try clear c3b1
   try clear hx142_0
   try clear hx142_1
   try clear p142
   try clear q142
   obtain ⟨x5_1, x6_1, rfl, rfl, HA, HK1, ⟨m1, rfl⟩⟩ := hrel
   cases gk with
   | zero => exact absurd HA.out (by simp [spec_l18Needs.l0])
   | succ k1 =>
    have H := HA.out
    clear HA
    simp only [spec_l18Needs.l0] at H
    by_cases c4 : x6_1 < (((rd_T28 l0 0).f0).length : Int)
    ·rw [if_pos c4] at H
     have c4b0 : decide (x6_1 < (((rd_T28 l0 0).f0).length : Int)) = true := decide_eq_true c4
     clear c4
     by_cases c5 : 0 ≤ x6_1
     ·rw [if_pos c5] at H
      have c5b0 : decide (0 ≤ x6_1) = true := decide_eq_true c5
      clear c5
      by_cases c6 : (rd ((rd_T28 l0 0).f0) x6_1) ≤ a1
      ·rw [if_pos c6] at H
       have c6b0 : decide ((rd ((rd_T28 l0 0).f0) x6_1) ≤ a1) = true := decide_eq_true c6
       clear c6
       have H' := Aside0.mk H
       clear H
       (try have hx143_0 := RX142_0.out)
       (try have hx143_1 := RX142_1.out)
       (try have hx144_0 := RX142_0.out)
       (try have hx144_1 := RX142_1.out)
       have p145 : 0 ≤ (x6_1 : Int) := of_decide_eq_true (by first | (with_reducible assumption) | assumption)
       have q145 : x6_1 < (((rd_T28 l0 0).f0).length : Int) := of_decide_eq_true (by first | (with_reducible assumption) | assumption)
       obtain ⟨ad145, e145, hx145_0⟩ := Kd.at_int HR142_0.out x6_1 p145 q145
       cases e145
       replace p145 := eq_true p145
       replace q145 := eq_true q145
       go_wp2
       go_roundg k1
       case measure => have := HK1.out; omega
       case rel => exact ⟨(wrap64 (x5_1 + 1)), (wrap64 (x6_1 + 1)), (by first | rfl | (simp; done) | (simp [*]; done)), (by first | rfl | (simp; done) | (simp [*]; done)), H', ⟨by have := HK1.out; omega⟩, by repeat (first | exact Drawn0.refl _ | apply Drawn0.step)⟩
      ·rw [if_neg c6] at H
       have c6b0 : decide ((rd ((rd_T28 l0 0).f0) x6_1) ≤ a1) = false := decide_eq_false c6
       clear c6
       have H' := Aside0.mk H
       clear H
       (try have hx143_0 := RX142_0.out)
       (try have hx143_1 := RX142_1.out)
       (try have hx144_0 := RX142_0.out)
       (try have hx144_1 := RX142_1.out)
       have p145 : 0 ≤ (x6_1 : Int) := of_decide_eq_true (by first | (with_reducible assumption) | assumption)
       have q145 : x6_1 < (((rd_T28 l0 0).f0).length : Int) := of_decide_eq_true (by first | (with_reducible assumption) | assumption)
       obtain ⟨ad145, e145, hx145_0⟩ := Kd.at_int HR142_0.out x6_1 p145 q145
       cases e145
       replace p145 := eq_true p145
       replace q145 := eq_true q145
       go_wp2
       go_roundg k1
       case measure => have := HK1.out; omega
       case rel => exact ⟨(x5_1), (wrap64 (x6_1 + 1)), (by first | rfl | (simp; done) | (simp [*]; done)), (by first | rfl | (simp; done) | (simp [*]; done)), H', ⟨by have := HK1.out; omega⟩, by repeat (first | exact Drawn0.refl _ | apply Drawn0.step)⟩
     ·rw [if_neg c5] at H
      exact absurd H (by simp)
    ·rw [if_neg c4] at H
     have c4b0 : decide (x6_1 < (((rd_T28 l0 0).f0).length : Int)) = false := decide_eq_false c4
     clear c4
     obtain rfl := Option.some.inj H
     simp only [Option.some.injEq, Prod.mk.injEq] at H
     obtain ⟨rfl⟩ := H
     (try have hx143_0 := RX142_0.out)
     (try have hx143_1 := RX142_1.out)
     go_wp2
     go_ret
     exact ⟨by first | rfl | (simp; done) | (simp [*]; done), by repeat (first | exact Drawn0.refl _ | apply Drawn0.step)⟩
 ·rw [if_neg c3] at H
  exact absurd H (by simp)

end Go.Proofs.Ytbhijlhlopljmaa.PFnExactTooManyReefs
