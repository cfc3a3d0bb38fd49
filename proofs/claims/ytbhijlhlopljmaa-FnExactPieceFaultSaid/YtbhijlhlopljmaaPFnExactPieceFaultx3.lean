-- Written by a program of this session (wip/tools/pp.sh).
import Derived.Test.YtbhijlhlopljmaaPFnExactPieceFaultx0
import Derived.Test.YtbhijlhlopljmaaPFnExactPieceFaultx1
import Derived.Test.YtbhijlhlopljmaaPFnExactPieceFaultx2
namespace Go.Proofs.Ytbhijlhlopljmaa.PFnExactPieceFault
open Go.RowKit Go.Proofs.YtbhijlhlopljmaaW.PrintWords Go.Proofs.YtbhijlhlopljmaaW.PrintLast Go.Proofs.YtbhijlhlopljmaaW.PrintMore
attribute [local go_sem] max2_int min2_int max_two min_two max_three min_three max_four min_four   -- for this text's walks alone
set_option linter.unusedVariables false
set_option linter.unusedSimpArgs false

/-! ### spec_l16Sound: function 133 -/
def spec_l16Sound.l0 : Nat → Int → Int → List (List Int) → Int → Option (Bool)
 | 0, _, _, _, _ => none
 | k + 1, x1, x2, x7, x8 => if x8 < (x7.length : Int) then (if 0 ≤ x8 then (if 0 < ((rd_L1 x7 x8).length : Int) then (if 1 < ((rd_L1 x7 x8).length : Int) then ((spec_l00In.f x1 (rd (rd_L1 x7 x8) 0) (wrap64 ((rd (rd_L1 x7 x8) 1) - x2))).bind fun t162 => (if t162 = true then (some true) else (spec_l16Sound.l0 k x1 x2 x7 (wrap64 (x8 + 1))))) else (none)) else (none)) else (none)) else (some false)
def spec_l16Sound.f (k : Nat) (l0 : List (S79)) (a1 : Int) (a2 : Int) : Option (Bool) := if 0 < (l0.length : Int) then ((spec_l16Parts.f k l0).bind fun t155 => (spec_l16Sound.l0 k a1 a2 t155 0)) else (none)
theorem spec_l16Sound.mono_l : ∀ k, (∀ y0 y1 y2 y3, LeO (spec_l16Sound.l0 k y0 y1 y2 y3) (spec_l16Sound.l0 (k + 1) y0 y1 y2 y3))
 | 0 => fun _ _ _ _ r h => by simp [spec_l16Sound.l0] at h
 | k + 1 => by
  have ih0 := spec_l16Sound.mono_l k
  ·intro y0 y1 y2 y3
   unfold spec_l16Sound.l0
   repeat' first
   | (with_reducible exact ih0 _ _ _ _)
   | (with_reducible exact spec_l16Parts.mono _ _)
   | (with_reducible exact LeO.refl _)
   | (with_reducible exact LeO.none _)
   | (with_reducible refine LeO.ite ?_ ?_)
   | (with_reducible refine LeO.bind ?_ (fun _ => ?_))
   | exact ih0 _ _ _ _
   | exact spec_l16Parts.mono _ _
   | exact LeO.none _
   | refine LeO.ite ?_ ?_
   | refine LeO.bind ?_ (fun _ => ?_)
theorem spec_l16Sound.mono : ∀ a0 a1 a2 k, LeO (spec_l16Sound.f k a0 a1 a2) (spec_l16Sound.f (k + 1) a0 a1 a2) := by
 intro a0 a1 a2 k
 have ih0 := spec_l16Sound.mono_l k
 unfold spec_l16Sound.f
 repeat' first
   | (with_reducible exact ih0 _ _ _ _)
   | (with_reducible exact spec_l16Parts.mono _ _)
   | (with_reducible exact LeO.refl _)
   | (with_reducible exact LeO.none _)
   | (with_reducible refine LeO.ite ?_ ?_)
   | (with_reducible refine LeO.bind ?_ (fun _ => ?_))
   | exact ih0 _ _ _ _
   | exact spec_l16Parts.mono _ _
   | exact LeO.none _
   | refine LeO.ite ?_ ?_
   | refine LeO.bind ?_ (fun _ => ?_)
set_option maxHeartbeats 8000000 in
set_option maxRecDepth 100000 in
theorem spec_l16Sound.calls (k : Nat) (A0 : Option Addr) (c0 : Nat) (l0 : List (S79)) (a1 : Int) (a2 : Int) (r : Bool) (w : World) (hr0 : Kd.C k79 w A0 l0.length l0) (hc0 : l0.length ≤ c0) (h : spec_l16Sound.f k l0 a1 a2 = some r) :
  Calls Try.prog 133 #[.pointer A0, .int .i64 a1, .int .i64 a2] w fun e w' => e = .returned (.bool r) ∧ Below w.heap.size w w' := by
 have HR0 := Aside0.mk hr0
 have HC0 := Aside0.mk hc0
 clear hr0 hc0
 have HB := Aside0.mk (Below.refl w.heap.size w)
 have H : (if 0 < (l0.length : Int) then ((spec_l16Parts.f k l0).bind fun t155 => (spec_l16Sound.l0 k a1 a2 t155 0)) else (none)) = some r := h
 clear h
 by_cases c4 : 0 < (l0.length : Int)
 ·rw [if_pos c4] at H
  have c4b0 : decide (0 < (l0.length : Int)) = true := decide_eq_true c4
  have c4b1 : decide (0 < l0.length) = true := decide_eq_true (by omega)
  clear c4
  replace H := Option.bind_eq_some_iff.mp H
  obtain ⟨t155, A50, H⟩ := H
  replace H : (spec_l16Sound.l0 k a1 a2 t155 0) = some r := H
  have A5 := Aside0.mk A50
  clear A50
  have H' := Aside0.mk H
  clear H
  have p154 : 0 ≤ (0 : Int) := (by omega)
  have q154 : 0 < (l0.length : Int) := of_decide_eq_true (by first | (with_reducible assumption) | assumption)
  obtain ⟨ad154, A154_1, c154_1, e154, hx154_0, hx154_1, hl154_1, hi154_1⟩ := at_T79 HR0.out 0 p154 q154
  cases e154
  have qi154 : (0 < l0.length) = True := eq_true (by omega)
  (try rw [show ((0 : Int)).toNat = 0 from rfl] at hx154_0)
  (try rw [show 0 * 2 = 0 from rfl] at hx154_0)
  (try rw [Addr.add_zero'] at hx154_0)
  (try rw [show ((0 : Int)).toNat = 0 from rfl] at hx154_1)
  (try rw [show 0 * 2 = 0 from rfl] at hx154_1)
  (try rw [Addr.add_zero'] at hx154_1)
  have HR154_1 := Aside0.mk hi154_1
  have HC154_1 := Aside0.mk hl154_1
  clear hi154_1 hl154_1
  replace p154 := eq_true p154
  replace q154 := eq_true q154
  have RX154_0 := Aside0.mk hx154_0
  clear hx154_0
  have RX154_1 := Aside0.mk hx154_1
  clear hx154_1
  go_enter Try.func133, Try.ntmps133
  go_wp2_with (first | (go_at_call 134; (with_reducible refine (spec_l16Parts.calls k _ c0 l0 t155 _ ?side1 ?side2 A5.out).mono ?_); (case side1 => repeat (first | exact HR0.out | (with_reducible refine Kd.C_alloc ?_ _) | (with_reducible refine Kd.C_drewN ?_ _) | (with_reducible refine Kd.C_drew ?_))); (case side2 => exact HC0.out); rintro e w6 ⟨v156, rfl, ho0, hb⟩; have n0_ := Aside0.mk (Kd.S_lower ho0 (below_size (by repeat (first | (with_reducible first | exact HB.out | apply below_alloc | apply pw_below_drewN | apply below_drew1) | exact HB.out)))); have n1_ := Aside0.mk (below_step (by repeat (first | (with_reducible first | exact HB.out | apply below_alloc | apply pw_below_drewN | apply below_drew1) | exact HB.out)) hb); clear HB; have HO157 := n0_; have HB := n1_; clear n0_ n1_; (try clear hb); (try clear hb2); (try clear hk); (try clear hi); (try clear ho0)))
  repeat (go_quiet (first | (go_at_call 134; (with_reducible refine (spec_l16Parts.calls k _ c0 l0 t155 _ ?side1 ?side2 A5.out).mono ?_); (case side1 => repeat (first | exact HR0.out | (with_reducible refine Kd.C_alloc ?_ _) | (with_reducible refine Kd.C_drewN ?_ _) | (with_reducible refine Kd.C_drew ?_))); (case side2 => exact HC0.out); rintro e w6 ⟨v156, rfl, ho0, hb⟩; have n0_ := Aside0.mk (Kd.S_lower ho0 (below_size (by repeat (first | (with_reducible first | exact HB.out | apply below_alloc | apply pw_below_drewN | apply below_drew1) | exact HB.out)))); have n1_ := Aside0.mk (below_step (by repeat (first | (with_reducible first | exact HB.out | apply below_alloc | apply pw_below_drewN | apply below_drew1) | exact HB.out)) hb); clear HB; have HO157 := n0_; have HB := n1_; clear n0_ n1_; (try clear hb); (try clear hb2); (try clear hk); (try clear hi); (try clear ho0))); try go_wp2_with (first | (go_at_call 134; (with_reducible refine (spec_l16Parts.calls k _ c0 l0 t155 _ ?side1 ?side2 A5.out).mono ?_); (case side1 => repeat (first | exact HR0.out | (with_reducible refine Kd.C_alloc ?_ _) | (with_reducible refine Kd.C_drewN ?_ _) | (with_reducible refine Kd.C_drew ?_))); (case side2 => exact HC0.out); rintro e w6 ⟨v156, rfl, ho0, hb⟩; have n0_ := Aside0.mk (Kd.S_lower ho0 (below_size (by repeat (first | (with_reducible first | exact HB.out | apply below_alloc | apply pw_below_drewN | apply below_drew1) | exact HB.out)))); have n1_ := Aside0.mk (below_step (by repeat (first | (with_reducible first | exact HB.out | apply below_alloc | apply pw_below_drewN | apply below_drew1) | exact HB.out)) hb); clear HB; have HO157 := n0_; have HB := n1_; clear n0_ n1_; (try clear hb); (try clear hb2); (try clear hk); (try clear hi); (try clear ho0))))
  go_loopg [8] k (fun kq v8 w' => ∃ (x8_1 : Int), v8 = .int .i64 x8_1 ∧ Aside0 (spec_l16Sound.l0 kq a1 a2 t155 x8_1 = some r) ∧ Aside0 (kq ≤ k) ∧ Aside0 (Kd.S (Kd.slice 2 (Kd.int .i64)) 22 w' w.heap.size (fun _ => True) v156 t155) ∧ Aside0 (Below w.heap.size w w'))
  case atStart => exact ⟨(0), (by first | rfl | (simp; done) | (simp [*]; done)), H', ⟨Nat.le_refl _⟩, ⟨by (with_reducible repeat (first | apply Kd.S_alloc | apply Kd.S_drewN | apply Kd.S_drew)); exact HO157.out⟩, ⟨by repeat (first | (with_reducible first | exact HB.out | apply below_alloc | apply pw_below_drewN | apply below_drew1) | exact HB.out)⟩⟩
  case round =>
   clear H'
   try clear c1
   try clear p1
   try clear q1
   try clear hx1
   try clear qi1
   try clear p2
   try clear c4
   try clear c4b0
   try clear c4b1
   try clear hx154_0
   try clear hx154_1
   try clear p154
   try clear q154
   obtain ⟨x8_1, rfl, HA, HK1, HO_7, HB⟩ := hrel
   cases gk with
   | zero => exact absurd HA.out (by simp [spec_l16Sound.l0])
   | succ k1 =>
    have H := HA.out
    clear HA
    simp only [spec_l16Sound.l0] at H
    by_cases c7 : x8_1 < (t155.length : Int)
    ·rw [if_pos c7] at H
     have c7b0 : decide (x8_1 < (t155.length : Int)) = true := decide_eq_true c7
     clear c7
     by_cases c8 : 0 ≤ x8_1
     ·rw [if_pos c8] at H
      have c8b0 : decide (0 ≤ x8_1) = true := decide_eq_true c8
      clear c8
      by_cases c9 : 0 < ((rd_L1 t155 x8_1).length : Int)
      ·rw [if_pos c9] at H
       have c9b0 : decide (0 < ((rd_L1 t155 x8_1).length : Int)) = true := decide_eq_true c9
       have c9b1 : decide (0 < (rd_L1 t155 x8_1).length) = true := decide_eq_true (by omega)
       clear c9
       by_cases c10 : 1 < ((rd_L1 t155 x8_1).length : Int)
       ·rw [if_pos c10] at H
        have c10b0 : decide (1 < ((rd_L1 t155 x8_1).length : Int)) = true := decide_eq_true c10
        have c10b1 : decide (1 < (rd_L1 t155 x8_1).length) = true := decide_eq_true (by omega)
        clear c10
        replace H := Option.bind_eq_some_iff.mp H
        obtain ⟨t162, A110, H⟩ := H
        replace H : (if t162 = true then (some true) else (spec_l16Sound.l0 k1 a1 a2 t155 (wrap64 (x8_1 + 1)))) = some r := H
        have A11 := Aside0.mk A110
        clear A110
        by_cases c12 : t162 = true
        ·subst c12
         have H1 : (some true) = some r := by rw [if_pos rfl] at H; exact H
         clear H
         have H := H1
         clear H1
         obtain rfl := Option.some.inj H
         simp only [Option.some.injEq, Prod.mk.injEq] at H
         obtain ⟨rfl⟩ := H
         obtain ⟨Ao13, co13, eo13⟩ := Kd.S_slice HO_7.out
         subst eo13
         have p158 : 0 ≤ (x8_1 : Int) := of_decide_eq_true (by first | (with_reducible assumption) | assumption)
         have q158 : x8_1 < (t155.length : Int) := of_decide_eq_true (by first | (with_reducible assumption) | assumption)
         obtain ⟨ad158, A158_0, c158_0, e158, hx158_0, hl158_0, hi158_0⟩ := at_L1 (Kd.S_reads' HO_7.out).2.2 x8_1 p158 q158
         cases e158
         obtain ⟨ce158, hce158, hMe158, hcc158⟩ := Kd.S_get HO_7.out [] x8_1 p158 (by first | exact q158 | exact of_decide_eq_true (by first | (with_reducible assumption) | assumption) | (have e_ := (Kd.S_reads' HO_7.out).1; omega))
         obtain ⟨ve158_0, rfl, ge158_0⟩ := hMe158
         have hv158_0 := hcc158 0 _ rfl
         rw [Nat.add_zero, show ((Kd.slice 2 (Kd.int .i64))).sz = 1 from rfl, Nat.mul_one] at hv158_0
         replace hv158_0 := Option.some.inj (hv158_0.symm.trans hx158_0)
         rw [hv158_0] at ge158_0
         have HL158_0 := Aside0.mk (show Kd.R (Kd.int .i64) 2 _ _ _ _ (rd_L1 t155 x8_1) from ge158_0)
         clear hv158_0 ge158_0
         clear hcc158 hce158
         have HR158_0 := Aside0.mk hi158_0
         have HC158_0 := Aside0.mk hl158_0
         clear hi158_0 hl158_0
         replace p158 := eq_true p158
         replace q158 := eq_true q158
         have p159 : 0 ≤ (0 : Int) := (by omega)
         have q159 : 0 < ((rd_L1 t155 x8_1).length : Int) := of_decide_eq_true (by first | (with_reducible assumption) | assumption)
         obtain ⟨ad159, e159, hx159_0⟩ := Kd.at_int (by repeat (first | (with_reducible exact HR158_0.out) | (with_reducible refine Kd.C_alloc ?_ _) | (with_reducible refine Kd.C_drewN ?_ _) | (with_reducible refine Kd.C_drew ?_) | exact HR158_0.out)) 0 p159 q159
         cases e159
         have qi159 : (0 < (rd_L1 t155 x8_1).length) = True := eq_true (by omega)
         (try rw [show ((0 : Int)).toNat = 0 from rfl] at hx159_0)
         (try rw [Addr.add_zero'] at hx159_0)
         replace p159 := eq_true p159
         replace q159 := eq_true q159
         have p160 : 0 ≤ (x8_1 : Int) := of_decide_eq_true (by first | (with_reducible assumption) | assumption)
         have q160 : x8_1 < (t155.length : Int) := of_decide_eq_true (by first | (with_reducible assumption) | assumption)
         obtain ⟨ad160, A160_0, c160_0, e160, hx160_0, hl160_0, hi160_0⟩ := at_L1 (Kd.S_reads' HO_7.out).2.2 x8_1 p160 q160
         obtain rfl : ad158 = ad160 := (by injection e160)
         obtain ⟨ce160, hce160, hMe160, hcc160⟩ := Kd.S_get HO_7.out [] x8_1 p160 (by first | exact q160 | exact of_decide_eq_true (by first | (with_reducible assumption) | assumption) | (have e_ := (Kd.S_reads' HO_7.out).1; omega))
         obtain ⟨ve160_0, rfl, ge160_0⟩ := hMe160
         have hv160_0 := hcc160 0 _ rfl
         rw [Nat.add_zero, show ((Kd.slice 2 (Kd.int .i64))).sz = 1 from rfl, Nat.mul_one] at hv160_0
         replace hv160_0 := Option.some.inj (hv160_0.symm.trans hx160_0)
         rw [hv160_0] at ge160_0
         have HL160_0 := Aside0.mk (show Kd.R (Kd.int .i64) 2 _ _ _ _ (rd_L1 t155 x8_1) from ge160_0)
         clear hv160_0 ge160_0
         clear hcc160 hce160
         have HR160_0 := Aside0.mk hi160_0
         have HC160_0 := Aside0.mk hl160_0
         clear hi160_0 hl160_0
         replace p160 := eq_true p160
         replace q160 := eq_true q160
         have ea_ := Option.some.inj (hx158_0.symm.trans hx160_0)
         injection ea_ with ea_ en_ ec_
         subst ea_
         subst ec_
         clear en_
         have p161 : 0 ≤ (1 : Int) := (by omega)
         have q161 : 1 < ((rd_L1 t155 x8_1).length : Int) := of_decide_eq_true (by first | (with_reducible assumption) | assumption)
         obtain ⟨ad161, e161, hx161_0⟩ := Kd.at_int (by repeat (first | (with_reducible exact HR160_0.out) | (with_reducible refine Kd.C_alloc ?_ _) | (with_reducible refine Kd.C_drewN ?_ _) | (with_reducible refine Kd.C_drew ?_) | exact HR160_0.out)) 1 p161 q161
         cases e161
         (try simp only [show (1 : Int).toNat = 1 from rfl, Nat.reduceMul, Nat.reduceEqDiff, Go.Addr.add, ↓reduceIte] at hx161_0)
         have qi161 : (1 < (rd_L1 t155 x8_1).length) = True := eq_true (by omega)
         (try rw [show ((1 : Int)).toNat = 1 from rfl] at hx161_0)
         replace p161 := eq_true p161
         replace q161 := eq_true q161
         go_wp2_with (first | (go_at_call 107; (try simp only [i64_w]); (with_reducible refine (spec_l00In.calls a1 (rd (rd_L1 t155 x8_1) 0) (wrap64 ((rd (rd_L1 t155 x8_1) 1) - a2)) true _ A11.out).mono ?_); rintro e w' ⟨rfl, ⟨nd, rfl⟩⟩; (try first | exact ⟨rfl, _, World.drewN_drewN _ _ _⟩ | exact ⟨rfl, _, Eq.trans (World.drewN_drewN _ _ _) (congrArg (World.drewN _) (Nat.add_assoc _ _ _))⟩)))
         repeat (go_quiet (first | (go_at_call 107; (try simp only [i64_w]); (with_reducible refine (spec_l00In.calls a1 (rd (rd_L1 t155 x8_1) 0) (wrap64 ((rd (rd_L1 t155 x8_1) 1) - a2)) true _ A11.out).mono ?_); rintro e w' ⟨rfl, ⟨nd, rfl⟩⟩; (try first | exact ⟨rfl, _, World.drewN_drewN _ _ _⟩ | exact ⟨rfl, _, Eq.trans (World.drewN_drewN _ _ _) (congrArg (World.drewN _) (Nat.add_assoc _ _ _))⟩))); try go_wp2_with (first | (go_at_call 107; (try simp only [i64_w]); (with_reducible refine (spec_l00In.calls a1 (rd (rd_L1 t155 x8_1) 0) (wrap64 ((rd (rd_L1 t155 x8_1) 1) - a2)) true _ A11.out).mono ?_); rintro e w' ⟨rfl, ⟨nd, rfl⟩⟩; (try first | exact ⟨rfl, _, World.drewN_drewN _ _ _⟩ | exact ⟨rfl, _, Eq.trans (World.drewN_drewN _ _ _) (congrArg (World.drewN _) (Nat.add_assoc _ _ _))⟩))))
         go_ret
         exact ⟨by first | rfl | (simp [errW_none, errW_some] <;> rfl) | (simp [*, errW_none, errW_some] <;> rfl), by repeat (first | (with_reducible first | exact HB.out | apply below_alloc | apply pw_below_drewN | apply below_drew1) | exact HB.out)⟩
        ·replace c12 := Bool.eq_false_iff.mpr c12
         subst c12
         have H1 : (spec_l16Sound.l0 k1 a1 a2 t155 (wrap64 (x8_1 + 1))) = some r := by rw [if_neg (show ¬ (false = true) by decide)] at H; exact H
         clear H
         have H := H1
         clear H1
         have H' := Aside0.mk H
         clear H
         obtain ⟨Ao14, co14, eo14⟩ := Kd.S_slice HO_7.out
         subst eo14
         have p158 : 0 ≤ (x8_1 : Int) := of_decide_eq_true (by first | (with_reducible assumption) | assumption)
         have q158 : x8_1 < (t155.length : Int) := of_decide_eq_true (by first | (with_reducible assumption) | assumption)
         obtain ⟨ad158, A158_0, c158_0, e158, hx158_0, hl158_0, hi158_0⟩ := at_L1 (Kd.S_reads' HO_7.out).2.2 x8_1 p158 q158
         cases e158
         obtain ⟨ce158, hce158, hMe158, hcc158⟩ := Kd.S_get HO_7.out [] x8_1 p158 (by first | exact q158 | exact of_decide_eq_true (by first | (with_reducible assumption) | assumption) | (have e_ := (Kd.S_reads' HO_7.out).1; omega))
         obtain ⟨ve158_0, rfl, ge158_0⟩ := hMe158
         have hv158_0 := hcc158 0 _ rfl
         rw [Nat.add_zero, show ((Kd.slice 2 (Kd.int .i64))).sz = 1 from rfl, Nat.mul_one] at hv158_0
         replace hv158_0 := Option.some.inj (hv158_0.symm.trans hx158_0)
         rw [hv158_0] at ge158_0
         have HL158_0 := Aside0.mk (show Kd.R (Kd.int .i64) 2 _ _ _ _ (rd_L1 t155 x8_1) from ge158_0)
         clear hv158_0 ge158_0
         clear hcc158 hce158
         have HR158_0 := Aside0.mk hi158_0
         have HC158_0 := Aside0.mk hl158_0
         clear hi158_0 hl158_0
         replace p158 := eq_true p158
         replace q158 := eq_true q158
         have p159 : 0 ≤ (0 : Int) := (by omega)
         have q159 : 0 < ((rd_L1 t155 x8_1).length : Int) := of_decide_eq_true (by first | (with_reducible assumption) | assumption)
         obtain ⟨ad159, e159, hx159_0⟩ := Kd.at_int (by repeat (first | (with_reducible exact HR158_0.out) | (with_reducible refine Kd.C_alloc ?_ _) | (with_reducible refine Kd.C_drewN ?_ _) | (with_reducible refine Kd.C_drew ?_) | exact HR158_0.out)) 0 p159 q159
         cases e159
         have qi159 : (0 < (rd_L1 t155 x8_1).length) = True := eq_true (by omega)
         (try rw [show ((0 : Int)).toNat = 0 from rfl] at hx159_0)
         (try rw [Addr.add_zero'] at hx159_0)
         replace p159 := eq_true p159
         replace q159 := eq_true q159
         have p160 : 0 ≤ (x8_1 : Int) := of_decide_eq_true (by first | (with_reducible assumption) | assumption)
         have q160 : x8_1 < (t155.length : Int) := of_decide_eq_true (by first | (with_reducible assumption) | assumption)
         obtain ⟨ad160, A160_0, c160_0, e160, hx160_0, hl160_0, hi160_0⟩ := at_L1 (Kd.S_reads' HO_7.out).2.2 x8_1 p160 q160
         obtain rfl : ad158 = ad160 := (by injection e160)
         obtain ⟨ce160, hce160, hMe160, hcc160⟩ := Kd.S_get HO_7.out [] x8_1 p160 (by first | exact q160 | exact of_decide_eq_true (by first | (with_reducible assumption) | assumption) | (have e_ := (Kd.S_reads' HO_7.out).1; omega))
         obtain ⟨ve160_0, rfl, ge160_0⟩ := hMe160
         have hv160_0 := hcc160 0 _ rfl
         rw [Nat.add_zero, show ((Kd.slice 2 (Kd.int .i64))).sz = 1 from rfl, Nat.mul_one] at hv160_0
         replace hv160_0 := Option.some.inj (hv160_0.symm.trans hx160_0)
         rw [hv160_0] at ge160_0
         have HL160_0 := Aside0.mk (show Kd.R (Kd.int .i64) 2 _ _ _ _ (rd_L1 t155 x8_1) from ge160_0)
         clear hv160_0 ge160_0
         clear hcc160 hce160
         have HR160_0 := Aside0.mk hi160_0
         have HC160_0 := Aside0.mk hl160_0
         clear hi160_0 hl160_0
         replace p160 := eq_true p160
         replace q160 := eq_true q160
         have ea_ := Option.some.inj (hx158_0.symm.trans hx160_0)
         injection ea_ with ea_ en_ ec_
         subst ea_
         subst ec_
         clear en_
         have p161 : 0 ≤ (1 : Int) := (by omega)
         have q161 : 1 < ((rd_L1 t155 x8_1).length : Int) := of_decide_eq_true (by first | (with_reducible assumption) | assumption)
         obtain ⟨ad161, e161, hx161_0⟩ := Kd.at_int (by repeat (first | (with_reducible exact HR160_0.out) | (with_reducible refine Kd.C_alloc ?_ _) | (with_reducible refine Kd.C_drewN ?_ _) | (with_reducible refine Kd.C_drew ?_) | exact HR160_0.out)) 1 p161 q161
         cases e161
         (try simp only [show (1 : Int).toNat = 1 from rfl, Nat.reduceMul, Nat.reduceEqDiff, Go.Addr.add, ↓reduceIte] at hx161_0)
         have qi161 : (1 < (rd_L1 t155 x8_1).length) = True := eq_true (by omega)
         (try rw [show ((1 : Int)).toNat = 1 from rfl] at hx161_0)
         replace p161 := eq_true p161
         replace q161 := eq_true q161
         go_wp2_with (first | (go_at_call 107; (try simp only [i64_w]); (with_reducible refine (spec_l00In.calls a1 (rd (rd_L1 t155 x8_1) 0) (wrap64 ((rd (rd_L1 t155 x8_1) 1) - a2)) false _ A11.out).mono ?_); rintro e w' ⟨rfl, ⟨nd, rfl⟩⟩; (try first | exact ⟨rfl, _, World.drewN_drewN _ _ _⟩ | exact ⟨rfl, _, Eq.trans (World.drewN_drewN _ _ _) (congrArg (World.drewN _) (Nat.add_assoc _ _ _))⟩)))
         repeat (go_quiet (first | (go_at_call 107; (try simp only [i64_w]); (with_reducible refine (spec_l00In.calls a1 (rd (rd_L1 t155 x8_1) 0) (wrap64 ((rd (rd_L1 t155 x8_1) 1) - a2)) false _ A11.out).mono ?_); rintro e w' ⟨rfl, ⟨nd, rfl⟩⟩; (try first | exact ⟨rfl, _, World.drewN_drewN _ _ _⟩ | exact ⟨rfl, _, Eq.trans (World.drewN_drewN _ _ _) (congrArg (World.drewN _) (Nat.add_assoc _ _ _))⟩))); try go_wp2_with (first | (go_at_call 107; (try simp only [i64_w]); (with_reducible refine (spec_l00In.calls a1 (rd (rd_L1 t155 x8_1) 0) (wrap64 ((rd (rd_L1 t155 x8_1) 1) - a2)) false _ A11.out).mono ?_); rintro e w' ⟨rfl, ⟨nd, rfl⟩⟩; (try first | exact ⟨rfl, _, World.drewN_drewN _ _ _⟩ | exact ⟨rfl, _, Eq.trans (World.drewN_drewN _ _ _) (congrArg (World.drewN _) (Nat.add_assoc _ _ _))⟩))))
         go_roundg k1
         case measure => have := HK1.out; omega
         case rel => exact ⟨(wrap64 (x8_1 + 1)), (by first | rfl | (simp; done) | (simp [*]; done)), H', ⟨by have := HK1.out; omega⟩, ⟨by (with_reducible repeat (first | apply Kd.S_alloc | apply Kd.S_drewN | apply Kd.S_drew)); exact HO_7.out⟩, ⟨by repeat (first | (with_reducible first | exact HB.out | apply below_alloc | apply pw_below_drewN | apply below_drew1) | exact HB.out)⟩⟩
       ·rw [if_neg c10] at H
        exact absurd H (by simp)
      ·rw [if_neg c9] at H
       exact absurd H (by simp)
     ·rw [if_neg c8] at H
      exact absurd H (by simp)
    ·rw [if_neg c7] at H
     have c7b0 : decide (x8_1 < (t155.length : Int)) = false := decide_eq_false c7
     clear c7
     obtain rfl := Option.some.inj H
     simp only [Option.some.injEq, Prod.mk.injEq] at H
     obtain ⟨rfl⟩ := H
     obtain ⟨Ao15, co15, eo15⟩ := Kd.S_slice HO_7.out
     subst eo15
     go_wp2
     repeat (go_quiet (fail); try go_wp2)
     go_ret
     exact ⟨by first | rfl | (simp [errW_none, errW_some] <;> rfl) | (simp [*, errW_none, errW_some] <;> rfl), by repeat (first | (with_reducible first | exact HB.out | apply below_alloc | apply pw_below_drewN | apply below_drew1) | exact HB.out)⟩
 ·rw [if_neg c4] at H
  exact absurd H (by simp)

end Go.Proofs.Ytbhijlhlopljmaa.PFnExactPieceFault
