-- Written by a program of this session (wip/tools/pp.sh).
import Derived.Test.YtnfgijackilcjaaPFnExactHeelOfx0
import Derived.Test.YtnfgijackilcjaaPFnExactHeelOfx2
import Derived.Test.YtnfgijackilcjaaPFnExactHeelOfx3
import Derived.Test.YtnfgijackilcjaaPFnExactHeelOfx6
namespace Go.Proofs.Ytnfgijackilcjaa.PFnExactHeelOf
open Go.RowKit Go.Proofs.YtnfgijackilcjaaW.PrintWords Go.Proofs.YtnfgijackilcjaaW.PrintLast Go.Proofs.YtnfgijackilcjaaW.PrintMore Go.Proofs.Ytnfgijackilcjaa.Small
open Bool renaming true → T, false → F
attribute [local go_sem] max2_int min2_int max_two min_two max_three min_three max_four min_four   -- for this text's walks alone
set_option linter.unusedVariables false
set_option linter.unusedSimpArgs false

/-! ### spec_l17Ok: function 26 -/
def spec_l17Ok.l0 : Nat → List (S29) → Int → Option (Bool)
 | 0, _, _ => none
 | k + 1, x0, x3 => if x3 < (((rd_T29 x0 0).f0).length : Int) then (if 0 ≤ x3 then ((spec_IsName.f k ((rd_T54 ((rd_T29 x0 0).f0) x3).f0)).bind fun t221 => (if t221 = true then ((spec_l17Find.f k x0 ((rd_T54 ((rd_T29 x0 0).f0) x3).f0)).bind fun t222 => (if t222 = x3 then ((spec_l13Ok.f k ((rd_T54 ((rd_T29 x0 0).f0) x3).f1)).bind fun t223 => (if t223 = true then (spec_l17Ok.l0 k x0 (wrap64 (x3 + 1))) else (some false))) else (some false))) else (some false))) else (none)) else (if (((rd_T29 x0 0).f0).length : Int) ≤ 8 then ((spec_l00In.f ((rd_T29 x0 0).f2) 1 5000).bind fun t215 => (if t215 = true then ((spec_l00In.f ((rd_T29 x0 0).f1) 0 ((rd_T29 x0 0).f2)).bind fun t218 => (some t218)) else (some false))) else (some false))
def spec_l17Ok.f (k : Nat) (l0 : List (S29)) : Option (Bool) := if 0 < (l0.length : Int) then (spec_l17Ok.l0 k l0 0) else (none)
theorem spec_l17Ok.mono_l : ∀ k, (∀ y0 y1, LeO (spec_l17Ok.l0 k y0 y1) (spec_l17Ok.l0 (k + 1) y0 y1))
 | 0 => fun _ _ r h => by simp [spec_l17Ok.l0] at h
 | k + 1 => by
  have ih0 := spec_l17Ok.mono_l k
  ·intro y0 y1
   unfold spec_l17Ok.l0
   repeat' first
   | (with_reducible exact ih0 _ _)
   | (with_reducible exact spec_IsName.mono _ _)
   | (with_reducible exact spec_l13Ok.mono _ _)
   | (with_reducible exact spec_l17Find.mono _ _ _)
   | (with_reducible exact LeO.refl _)
   | (with_reducible exact LeO.none _)
   | (with_reducible refine LeO.ite ?_ ?_)
   | (with_reducible refine LeO.bind ?_ (fun _ => ?_))
   | exact ih0 _ _
   | exact spec_IsName.mono _ _
   | exact spec_l13Ok.mono _ _
   | exact spec_l17Find.mono _ _ _
   | exact LeO.none _
   | refine LeO.ite ?_ ?_
   | refine LeO.bind ?_ (fun _ => ?_)
theorem spec_l17Ok.mono : ∀ a0 k, LeO (spec_l17Ok.f k a0) (spec_l17Ok.f (k + 1) a0) := by
 intro a0 k
 have ih0 := spec_l17Ok.mono_l k
 unfold spec_l17Ok.f
 repeat' first
   | (with_reducible exact ih0 _ _)
   | (with_reducible exact spec_IsName.mono _ _)
   | (with_reducible exact spec_l13Ok.mono _ _)
   | (with_reducible exact spec_l17Find.mono _ _ _)
   | (with_reducible exact LeO.refl _)
   | (with_reducible exact LeO.none _)
   | (with_reducible refine LeO.ite ?_ ?_)
   | (with_reducible refine LeO.bind ?_ (fun _ => ?_))
   | exact ih0 _ _
   | exact spec_IsName.mono _ _
   | exact spec_l13Ok.mono _ _
   | exact spec_l17Find.mono _ _ _
   | exact LeO.none _
   | refine LeO.ite ?_ ?_
   | refine LeO.bind ?_ (fun _ => ?_)
set_option maxHeartbeats 8000000 in
set_option maxRecDepth 100000 in
theorem spec_l17Ok.calls (k : Nat) (A0 : Option Addr) (c0 : Nat) (l0 : List (S29)) (r : Bool) (w : World) (hr0 : Kd.C k29 w A0 l0.length l0) (hc0 : l0.length ≤ c0) (h : spec_l17Ok.f k l0 = some r) :
  Calls Try.prog 26 #[.pointer A0] w fun e w' => e = .returned (.bool r) ∧ Below w.heap.size w w' := by
 have HR0 := Aside0.mk hr0
 have HC0 := Aside0.mk hc0
 clear hr0 hc0
 have HB := Aside0.mk (Below.refl w.heap.size w)
 have H : (if 0 < (l0.length : Int) then (spec_l17Ok.l0 k l0 0) else (none)) = some r := h
 clear h
 by_cases c2 : 0 < (l0.length : Int)
 ·rw [if_pos c2] at H
  have c2b0 : decide (0 < (l0.length : Int)) = true := decide_eq_true c2
  have c2b1 : decide (0 < l0.length) = true := decide_eq_true (by omega)
  clear c2
  have H' := Aside0.mk H
  clear H
  have p211 : 0 ≤ (0 : Int) := (by omega)
  have q211 : 0 < (l0.length : Int) := of_decide_eq_true (by first | (with_reducible assumption) | assumption)
  obtain ⟨ad211, A211_0, c211_0, e211, hx211_0, hx211_1, hx211_2, hl211_0, hi211_0⟩ := at_T29 HR0.out 0 p211 q211
  cases e211
  have qi211 : (0 < l0.length) = True := eq_true (by omega)
  (try rw [show ((0 : Int)).toNat = 0 from rfl] at hx211_0)
  (try rw [show 0 * 3 = 0 from rfl] at hx211_0)
  (try rw [Addr.add_zero'] at hx211_0)
  (try rw [show ((0 : Int)).toNat = 0 from rfl] at hx211_1)
  (try rw [show 0 * 3 = 0 from rfl] at hx211_1)
  (try rw [Addr.add_zero'] at hx211_1)
  (try rw [show ((0 : Int)).toNat = 0 from rfl] at hx211_2)
  (try rw [show 0 * 3 = 0 from rfl] at hx211_2)
  (try rw [Addr.add_zero'] at hx211_2)
  have HR211_0 := Aside0.mk hi211_0
  have HC211_0 := Aside0.mk hl211_0
  clear hi211_0 hl211_0
  replace p211 := eq_true p211
  replace q211 := eq_true q211
  have RX211_0 := Aside0.mk hx211_0
  clear hx211_0
  have RX211_1 := Aside0.mk hx211_1
  clear hx211_1
  have RX211_2 := Aside0.mk hx211_2
  clear hx211_2
  go_enter Try.func26, Try.ntmps26
  go_wp2
  repeat (go_quiet (fail); try go_wp2)
  go_loopg [3] k (fun kq v3 w' => ∃ (x3_1 : Int), v3 = .int .i64 x3_1 ∧ Aside0 (spec_l17Ok.l0 kq l0 x3_1 = some r) ∧ Aside0 (kq ≤ k) ∧ Aside0 (Below w.heap.size w w'))
  case atStart => exact ⟨(0), (by first | rfl | (simp; done) | (simp [*]; done)), H', ⟨Nat.le_refl _⟩, ⟨by repeat (first | (with_reducible first | exact HB.out | apply below_alloc | apply pw_below_drewN | apply below_drew1) | exact HB.out)⟩⟩
  case round =>
   clear H'
   try clear c2
   try clear c2b0
   try clear c2b1
   try clear p2
   try clear q2
   try clear hx2
   try clear qi2
   try clear hx211_0
   try clear hx211_1
   try clear hx211_2
   try clear p211
   try clear q211
   obtain ⟨x3_1, rfl, HA, HK1, HB⟩ := hrel
   cases gk with
   | zero => exact absurd HA.out (by simp [spec_l17Ok.l0])
   | succ k1 =>
    have H := HA.out
    clear HA
    simp only [spec_l17Ok.l0] at H
    by_cases c3 : x3_1 < (((rd_T29 l0 0).f0).length : Int)
    ·rw [if_pos c3] at H
     have c3b0 : decide (x3_1 < (((rd_T29 l0 0).f0).length : Int)) = true := decide_eq_true c3
     clear c3
     by_cases c4 : 0 ≤ x3_1
     ·rw [if_pos c4] at H
      have c4b0 : decide (0 ≤ x3_1) = true := decide_eq_true c4
      clear c4
      replace H := Option.bind_eq_some_iff.mp H
      obtain ⟨t221, A50, H⟩ := H
      replace H : (if t221 = true then ((spec_l17Find.f k1 l0 ((rd_T54 ((rd_T29 l0 0).f0) x3_1).f0)).bind fun t222 => (if t222 = x3_1 then ((spec_l13Ok.f k1 ((rd_T54 ((rd_T29 l0 0).f0) x3_1).f1)).bind fun t223 => (if t223 = true then (spec_l17Ok.l0 k1 l0 (wrap64 (x3_1 + 1))) else (some false))) else (some false))) else (some false)) = some r := H
      have A5 := Aside0.mk A50
      clear A50
      by_cases c6 : t221 = true
      ·subst c6
       have H1 : ((spec_l17Find.f k1 l0 ((rd_T54 ((rd_T29 l0 0).f0) x3_1).f0)).bind fun t222 => (if t222 = x3_1 then ((spec_l13Ok.f k1 ((rd_T54 ((rd_T29 l0 0).f0) x3_1).f1)).bind fun t223 => (if t223 = true then (spec_l17Ok.l0 k1 l0 (wrap64 (x3_1 + 1))) else (some false))) else (some false))) = some r := by rw [if_pos rfl] at H; exact H
       clear H
       have H := H1
       clear H1
       replace H := Option.bind_eq_some_iff.mp H
       obtain ⟨t222, A70, H⟩ := H
       replace H : (if t222 = x3_1 then ((spec_l13Ok.f k1 ((rd_T54 ((rd_T29 l0 0).f0) x3_1).f1)).bind fun t223 => (if t223 = true then (spec_l17Ok.l0 k1 l0 (wrap64 (x3_1 + 1))) else (some false))) else (some false)) = some r := H
       have A7 := Aside0.mk A70
       clear A70
       by_cases c8 : t222 = x3_1
       ·rw [if_pos c8] at H
        have c8b0 : (t222 == x3_1) = true := beq_iff_eq.mpr c8
        have c8b1 : (t222 != x3_1) = false := bne_eq_false_iff_eq.mpr c8
        clear c8
        replace H := Option.bind_eq_some_iff.mp H
        obtain ⟨t223, A90, H⟩ := H
        replace H : (if t223 = true then (spec_l17Ok.l0 k1 l0 (wrap64 (x3_1 + 1))) else (some false)) = some r := H
        have A9 := Aside0.mk A90
        clear A90
        have HF_ := Aside0.mk H
        clear H
        (try have hx212_0 := bC HB RX211_0.out)
        (try have hx212_1 := bC HB RX211_1.out)
        (try have hx212_2 := bC HB RX211_2.out)
        (try have hx219_0 := bC HB RX211_0.out)
        (try have hx219_1 := bC HB RX211_1.out)
        (try have hx219_2 := bC HB RX211_2.out)
        have p220 : 0 ≤ (x3_1 : Int) := of_decide_eq_true (by first | (with_reducible assumption) | assumption)
        have q220 : x3_1 < (((rd_T29 l0 0).f0).length : Int) := of_decide_eq_true (by first | (with_reducible assumption) | assumption)
        obtain ⟨ad220, A220_1, c220_1, e220, hx220_0, hx220_1, hx220_2, hl220_1, hi220_1⟩ := at_T54 HR211_0.out x3_1 p220 q220
        cases e220
        replace hx220_0 := bC HB hx220_0
        replace hx220_1 := bC HB hx220_1
        replace hx220_2 := bC HB hx220_2
        have HR220_1 := Aside0.mk hi220_1
        have HC220_1 := Aside0.mk hl220_1
        clear hi220_1 hl220_1
        replace p220 := eq_true p220
        replace q220 := eq_true q220
        go_upto_if 43 with (first | (go_at_call 46; (with_reducible refine (spec_IsName.calls k1 ((rd_T54 ((rd_T29 l0 0).f0) x3_1).f0) true _ A5.out).mono ?_); rintro e w' ⟨rfl, ⟨nd, rfl⟩⟩; (try first | exact ⟨rfl, _, World.drewN_drewN _ _ _⟩ | exact ⟨rfl, _, Eq.trans (World.drewN_drewN _ _ _) (congrArg (World.drewN _) (Nat.add_assoc _ _ _))⟩)) | (go_at_call 47; (with_reducible refine (spec_l17Find.calls k1 _ c0 l0 ((rd_T54 ((rd_T29 l0 0).f0) x3_1).f0) t222 _ ?side1 ?side2 A7.out).mono ?_); (case side1 => repeat (first | exact (Kd.C_below HR0.out (by repeat (first | (with_reducible first | exact HB.out | apply below_alloc | apply pw_below_drewN | apply below_drew1) | exact HB.out))) | (with_reducible refine Kd.C_alloc ?_ _) | (with_reducible refine Kd.C_drewN ?_ _) | (with_reducible refine Kd.C_drew ?_))); (case side2 => exact HC0.out); rintro e w' ⟨rfl, ⟨nd, rfl⟩⟩; (try first | exact ⟨rfl, _, World.drewN_drewN _ _ _⟩ | exact ⟨rfl, _, Eq.trans (World.drewN_drewN _ _ _) (congrArg (World.drewN _) (Nat.add_assoc _ _ _))⟩)) | (go_at_call 48; (with_reducible refine (spec_l13Ok.calls k1 _ _ ((rd_T54 ((rd_T29 l0 0).f0) x3_1).f1) t223 _ ?side1 ?side2 A9.out).mono ?_); (case side1 => repeat (first | exact (Kd.C_below HR220_1.out (by repeat (first | (with_reducible first | exact HB.out | apply below_alloc | apply pw_below_drewN | apply below_drew1) | exact HB.out))) | (with_reducible refine Kd.C_alloc ?_ _) | (with_reducible refine Kd.C_drewN ?_ _) | (with_reducible refine Kd.C_drew ?_))); (case side2 => exact HC220_1.out); rintro e w10 ⟨rfl, hb⟩; have n0_ := pS HB hb; clear HB; have HB := n0_; clear n0_; (try clear hb); (try clear hb2); (try clear hk); (try clear hi)))
        repeat (go_quiet (first | (go_at_call 46; (with_reducible refine (spec_IsName.calls k1 ((rd_T54 ((rd_T29 l0 0).f0) x3_1).f0) true _ A5.out).mono ?_); rintro e w' ⟨rfl, ⟨nd, rfl⟩⟩; (try first | exact ⟨rfl, _, World.drewN_drewN _ _ _⟩ | exact ⟨rfl, _, Eq.trans (World.drewN_drewN _ _ _) (congrArg (World.drewN _) (Nat.add_assoc _ _ _))⟩)) | (go_at_call 47; (with_reducible refine (spec_l17Find.calls k1 _ c0 l0 ((rd_T54 ((rd_T29 l0 0).f0) x3_1).f0) t222 _ ?side1 ?side2 A7.out).mono ?_); (case side1 => repeat (first | exact (Kd.C_below HR0.out (by repeat (first | (with_reducible first | exact HB.out | apply below_alloc | apply pw_below_drewN | apply below_drew1) | exact HB.out))) | (with_reducible refine Kd.C_alloc ?_ _) | (with_reducible refine Kd.C_drewN ?_ _) | (with_reducible refine Kd.C_drew ?_))); (case side2 => exact HC0.out); rintro e w' ⟨rfl, ⟨nd, rfl⟩⟩; (try first | exact ⟨rfl, _, World.drewN_drewN _ _ _⟩ | exact ⟨rfl, _, Eq.trans (World.drewN_drewN _ _ _) (congrArg (World.drewN _) (Nat.add_assoc _ _ _))⟩)) | (go_at_call 48; (with_reducible refine (spec_l13Ok.calls k1 _ _ ((rd_T54 ((rd_T29 l0 0).f0) x3_1).f1) t223 _ ?side1 ?side2 A9.out).mono ?_); (case side1 => repeat (first | exact (Kd.C_below HR220_1.out (by repeat (first | (with_reducible first | exact HB.out | apply below_alloc | apply pw_below_drewN | apply below_drew1) | exact HB.out))) | (with_reducible refine Kd.C_alloc ?_ _) | (with_reducible refine Kd.C_drewN ?_ _) | (with_reducible refine Kd.C_drew ?_))); (case side2 => exact HC220_1.out); rintro e w10 ⟨rfl, hb⟩; have n0_ := pS HB hb; clear HB; have HB := n0_; clear n0_; (try clear hb); (try clear hb2); (try clear hk); (try clear hi))); go_upto_if 43 with (first | (go_at_call 46; (with_reducible refine (spec_IsName.calls k1 ((rd_T54 ((rd_T29 l0 0).f0) x3_1).f0) true _ A5.out).mono ?_); rintro e w' ⟨rfl, ⟨nd, rfl⟩⟩; (try first | exact ⟨rfl, _, World.drewN_drewN _ _ _⟩ | exact ⟨rfl, _, Eq.trans (World.drewN_drewN _ _ _) (congrArg (World.drewN _) (Nat.add_assoc _ _ _))⟩)) | (go_at_call 47; (with_reducible refine (spec_l17Find.calls k1 _ c0 l0 ((rd_T54 ((rd_T29 l0 0).f0) x3_1).f0) t222 _ ?side1 ?side2 A7.out).mono ?_); (case side1 => repeat (first | exact (Kd.C_below HR0.out (by repeat (first | (with_reducible first | exact HB.out | apply below_alloc | apply pw_below_drewN | apply below_drew1) | exact HB.out))) | (with_reducible refine Kd.C_alloc ?_ _) | (with_reducible refine Kd.C_drewN ?_ _) | (with_reducible refine Kd.C_drew ?_))); (case side2 => exact HC0.out); rintro e w' ⟨rfl, ⟨nd, rfl⟩⟩; (try first | exact ⟨rfl, _, World.drewN_drewN _ _ _⟩ | exact ⟨rfl, _, Eq.trans (World.drewN_drewN _ _ _) (congrArg (World.drewN _) (Nat.add_assoc _ _ _))⟩)) | (go_at_call 48; (with_reducible refine (spec_l13Ok.calls k1 _ _ ((rd_T54 ((rd_T29 l0 0).f0) x3_1).f1) t223 _ ?side1 ?side2 A9.out).mono ?_); (case side1 => repeat (first | exact (Kd.C_below HR220_1.out (by repeat (first | (with_reducible first | exact HB.out | apply below_alloc | apply pw_below_drewN | apply below_drew1) | exact HB.out))) | (with_reducible refine Kd.C_alloc ?_ _) | (with_reducible refine Kd.C_drewN ?_ _) | (with_reducible refine Kd.C_drew ?_))); (case side2 => exact HC220_1.out); rintro e w10 ⟨rfl, hb⟩; have n0_ := pS HB hb; clear HB; have HB := n0_; clear n0_; (try clear hb); (try clear hb2); (try clear hk); (try clear hi))))
        (try simp only [Act.put, List.setIfInBounds_toArray, List.set_cons_zero, List.set_cons_succ])
        have H := HF_.out
        clear HF_
        by_cases c11 : t223 = true
        ·subst c11
         have H1 : (spec_l17Ok.l0 k1 l0 (wrap64 (x3_1 + 1))) = some r := by rw [if_pos rfl] at H; exact H
         clear H
         have H := H1
         clear H1
         have H' := Aside0.mk H
         clear H
         go_wp2
         repeat (go_quiet (fail); try go_wp2)
         go_roundg k1
         case measure => have := HK1.out; omega
         case rel => exact ⟨(wrap64 (x3_1 + 1)), (by first | rfl | (simp; done) | (simp [*]; done)), H', ⟨by have := HK1.out; omega⟩, ⟨by repeat (first | (with_reducible first | exact HB.out | apply below_alloc | apply pw_below_drewN | apply below_drew1) | exact HB.out)⟩⟩
        ·replace c11 := Bool.eq_false_iff.mpr c11
         subst c11
         have H1 : (some false) = some r := by rw [if_neg (show ¬ (false = true) by decide)] at H; exact H
         clear H
         have H := H1
         clear H1
         obtain rfl := Option.some.inj H
         simp only [Option.some.injEq, Prod.mk.injEq] at H
         obtain ⟨rfl⟩ := H
         go_wp2
         repeat (go_quiet (fail); try go_wp2)
         go_ret
         exact ⟨by first | rfl | (simp [errW_none, errW_some] <;> rfl) | (simp [*, errW_none, errW_some] <;> rfl), pR HB⟩
       ·rw [if_neg c8] at H
        have c8b0 : (t222 == x3_1) = false := beq_eq_false_iff_ne.mpr c8
        have c8b1 : (t222 != x3_1) = true := bne_iff_ne.mpr c8
        obtain rfl := Option.some.inj H
        simp only [Option.some.injEq, Prod.mk.injEq] at H
        obtain ⟨rfl⟩ := H
        (try have hx212_0 := bC HB RX211_0.out)
        (try have hx212_1 := bC HB RX211_1.out)
        (try have hx212_2 := bC HB RX211_2.out)
        (try have hx219_0 := bC HB RX211_0.out)
        (try have hx219_1 := bC HB RX211_1.out)
        (try have hx219_2 := bC HB RX211_2.out)
        have p220 : 0 ≤ (x3_1 : Int) := of_decide_eq_true (by first | (with_reducible assumption) | assumption)
        have q220 : x3_1 < (((rd_T29 l0 0).f0).length : Int) := of_decide_eq_true (by first | (with_reducible assumption) | assumption)
        obtain ⟨ad220, A220_1, c220_1, e220, hx220_0, hx220_1, hx220_2, hl220_1, hi220_1⟩ := at_T54 HR211_0.out x3_1 p220 q220
        cases e220
        replace hx220_0 := bC HB hx220_0
        replace hx220_1 := bC HB hx220_1
        replace hx220_2 := bC HB hx220_2
        have HR220_1 := Aside0.mk hi220_1
        have HC220_1 := Aside0.mk hl220_1
        clear hi220_1 hl220_1
        replace p220 := eq_true p220
        replace q220 := eq_true q220
        go_wp2_with (first | (go_at_call 46; (with_reducible refine (spec_IsName.calls k1 ((rd_T54 ((rd_T29 l0 0).f0) x3_1).f0) true _ A5.out).mono ?_); rintro e w' ⟨rfl, ⟨nd, rfl⟩⟩; (try first | exact ⟨rfl, _, World.drewN_drewN _ _ _⟩ | exact ⟨rfl, _, Eq.trans (World.drewN_drewN _ _ _) (congrArg (World.drewN _) (Nat.add_assoc _ _ _))⟩)) | (go_at_call 47; (with_reducible refine (spec_l17Find.calls k1 _ c0 l0 ((rd_T54 ((rd_T29 l0 0).f0) x3_1).f0) t222 _ ?side1 ?side2 A7.out).mono ?_); (case side1 => repeat (first | exact (Kd.C_below HR0.out (by repeat (first | (with_reducible first | exact HB.out | apply below_alloc | apply pw_below_drewN | apply below_drew1) | exact HB.out))) | (with_reducible refine Kd.C_alloc ?_ _) | (with_reducible refine Kd.C_drewN ?_ _) | (with_reducible refine Kd.C_drew ?_))); (case side2 => exact HC0.out); rintro e w' ⟨rfl, ⟨nd, rfl⟩⟩; (try first | exact ⟨rfl, _, World.drewN_drewN _ _ _⟩ | exact ⟨rfl, _, Eq.trans (World.drewN_drewN _ _ _) (congrArg (World.drewN _) (Nat.add_assoc _ _ _))⟩)))
        repeat (go_quiet (first | (go_at_call 46; (with_reducible refine (spec_IsName.calls k1 ((rd_T54 ((rd_T29 l0 0).f0) x3_1).f0) true _ A5.out).mono ?_); rintro e w' ⟨rfl, ⟨nd, rfl⟩⟩; (try first | exact ⟨rfl, _, World.drewN_drewN _ _ _⟩ | exact ⟨rfl, _, Eq.trans (World.drewN_drewN _ _ _) (congrArg (World.drewN _) (Nat.add_assoc _ _ _))⟩)) | (go_at_call 47; (with_reducible refine (spec_l17Find.calls k1 _ c0 l0 ((rd_T54 ((rd_T29 l0 0).f0) x3_1).f0) t222 _ ?side1 ?side2 A7.out).mono ?_); (case side1 => repeat (first | exact (Kd.C_below HR0.out (by repeat (first | (with_reducible first | exact HB.out | apply below_alloc | apply pw_below_drewN | apply below_drew1) | exact HB.out))) | (with_reducible refine Kd.C_alloc ?_ _) | (with_reducible refine Kd.C_drewN ?_ _) | (with_reducible refine Kd.C_drew ?_))); (case side2 => exact HC0.out); rintro e w' ⟨rfl, ⟨nd, rfl⟩⟩; (try first | exact ⟨rfl, _, World.drewN_drewN _ _ _⟩ | exact ⟨rfl, _, Eq.trans (World.drewN_drewN _ _ _) (congrArg (World.drewN _) (Nat.add_assoc _ _ _))⟩))); try go_wp2_with (first | (go_at_call 46; (with_reducible refine (spec_IsName.calls k1 ((rd_T54 ((rd_T29 l0 0).f0) x3_1).f0) true _ A5.out).mono ?_); rintro e w' ⟨rfl, ⟨nd, rfl⟩⟩; (try first | exact ⟨rfl, _, World.drewN_drewN _ _ _⟩ | exact ⟨rfl, _, Eq.trans (World.drewN_drewN _ _ _) (congrArg (World.drewN _) (Nat.add_assoc _ _ _))⟩)) | (go_at_call 47; (with_reducible refine (spec_l17Find.calls k1 _ c0 l0 ((rd_T54 ((rd_T29 l0 0).f0) x3_1).f0) t222 _ ?side1 ?side2 A7.out).mono ?_); (case side1 => repeat (first | exact (Kd.C_below HR0.out (by repeat (first | (with_reducible first | exact HB.out | apply below_alloc | apply pw_below_drewN | apply below_drew1) | exact HB.out))) | (with_reducible refine Kd.C_alloc ?_ _) | (with_reducible refine Kd.C_drewN ?_ _) | (with_reducible refine Kd.C_drew ?_))); (case side2 => exact HC0.out); rintro e w' ⟨rfl, ⟨nd, rfl⟩⟩; (try first | exact ⟨rfl, _, World.drewN_drewN _ _ _⟩ | exact ⟨rfl, _, Eq.trans (World.drewN_drewN _ _ _) (congrArg (World.drewN _) (Nat.add_assoc _ _ _))⟩))))
        go_ret
        exact ⟨by first | rfl | (simp [errW_none, errW_some] <;> rfl) | (simp [*, errW_none, errW_some] <;> rfl), pR HB⟩
      ·replace c6 := Bool.eq_false_iff.mpr c6
       subst c6
       have H1 : (some false) = some r := by rw [if_neg (show ¬ (false = true) by decide)] at H; exact H
       clear H
       have H := H1
       clear H1
       obtain rfl := Option.some.inj H
       simp only [Option.some.injEq, Prod.mk.injEq] at H
       obtain ⟨rfl⟩ := H
       (try have hx212_0 := bC HB RX211_0.out)
       (try have hx212_1 := bC HB RX211_1.out)
       (try have hx212_2 := bC HB RX211_2.out)
       (try have hx219_0 := bC HB RX211_0.out)
       (try have hx219_1 := bC HB RX211_1.out)
       (try have hx219_2 := bC HB RX211_2.out)
       have p220 : 0 ≤ (x3_1 : Int) := of_decide_eq_true (by first | (with_reducible assumption) | assumption)
       have q220 : x3_1 < (((rd_T29 l0 0).f0).length : Int) := of_decide_eq_true (by first | (with_reducible assumption) | assumption)
       obtain ⟨ad220, A220_1, c220_1, e220, hx220_0, hx220_1, hx220_2, hl220_1, hi220_1⟩ := at_T54 HR211_0.out x3_1 p220 q220
       cases e220
       replace hx220_0 := bC HB hx220_0
       replace hx220_1 := bC HB hx220_1
       replace hx220_2 := bC HB hx220_2
       have HR220_1 := Aside0.mk hi220_1
       have HC220_1 := Aside0.mk hl220_1
       clear hi220_1 hl220_1
       replace p220 := eq_true p220
       replace q220 := eq_true q220
       go_wp2_with (first | (go_at_call 46; (with_reducible refine (spec_IsName.calls k1 ((rd_T54 ((rd_T29 l0 0).f0) x3_1).f0) false _ A5.out).mono ?_); rintro e w' ⟨rfl, ⟨nd, rfl⟩⟩; (try first | exact ⟨rfl, _, World.drewN_drewN _ _ _⟩ | exact ⟨rfl, _, Eq.trans (World.drewN_drewN _ _ _) (congrArg (World.drewN _) (Nat.add_assoc _ _ _))⟩)))
       repeat (go_quiet (first | (go_at_call 46; (with_reducible refine (spec_IsName.calls k1 ((rd_T54 ((rd_T29 l0 0).f0) x3_1).f0) false _ A5.out).mono ?_); rintro e w' ⟨rfl, ⟨nd, rfl⟩⟩; (try first | exact ⟨rfl, _, World.drewN_drewN _ _ _⟩ | exact ⟨rfl, _, Eq.trans (World.drewN_drewN _ _ _) (congrArg (World.drewN _) (Nat.add_assoc _ _ _))⟩))); try go_wp2_with (first | (go_at_call 46; (with_reducible refine (spec_IsName.calls k1 ((rd_T54 ((rd_T29 l0 0).f0) x3_1).f0) false _ A5.out).mono ?_); rintro e w' ⟨rfl, ⟨nd, rfl⟩⟩; (try first | exact ⟨rfl, _, World.drewN_drewN _ _ _⟩ | exact ⟨rfl, _, Eq.trans (World.drewN_drewN _ _ _) (congrArg (World.drewN _) (Nat.add_assoc _ _ _))⟩))))
       go_ret
       exact ⟨by first | rfl | (simp [errW_none, errW_some] <;> rfl) | (simp [*, errW_none, errW_some] <;> rfl), pR HB⟩
     ·rw [if_neg c4] at H
      exact absurd H (by simp)
    ·rw [if_neg c3] at H
     have c3b0 : decide (x3_1 < (((rd_T29 l0 0).f0).length : Int)) = false := decide_eq_false c3
     clear c3
     by_cases c12 : (((rd_T29 l0 0).f0).length : Int) ≤ 8
     ·rw [if_pos c12] at H
      have c12b0 : decide ((((rd_T29 l0 0).f0).length : Int) ≤ 8) = true := decide_eq_true c12
      have c12b1 : decide (((rd_T29 l0 0).f0).length ≤ 8) = true := decide_eq_true (by omega)
      clear c12
      replace H := Option.bind_eq_some_iff.mp H
      obtain ⟨t215, A130, H⟩ := H
      replace H : (if t215 = true then ((spec_l00In.f ((rd_T29 l0 0).f1) 0 ((rd_T29 l0 0).f2)).bind fun t218 => (some t218)) else (some false)) = some r := H
      have A13 := Aside0.mk A130
      clear A130
      by_cases c14 : t215 = true
      ·subst c14
       have H1 : ((spec_l00In.f ((rd_T29 l0 0).f1) 0 ((rd_T29 l0 0).f2)).bind fun t218 => (some t218)) = some r := by rw [if_pos rfl] at H; exact H
       clear H
       have H := H1
       clear H1
       replace H := Option.bind_eq_some_iff.mp H
       obtain ⟨t218, A150, H⟩ := H
       replace H : (some t218) = some r := H
       have A15 := Aside0.mk A150
       clear A150
       obtain rfl := Option.some.inj H
       simp only [Option.some.injEq, Prod.mk.injEq] at H
       obtain ⟨rfl⟩ := H
       (try have hx212_0 := bC HB RX211_0.out)
       (try have hx212_1 := bC HB RX211_1.out)
       (try have hx212_2 := bC HB RX211_2.out)
       (try have hx213_0 := bC HB RX211_0.out)
       (try have hx213_1 := bC HB RX211_1.out)
       (try have hx213_2 := bC HB RX211_2.out)
       (try have hx214_0 := bC HB RX211_0.out)
       (try have hx214_1 := bC HB RX211_1.out)
       (try have hx214_2 := bC HB RX211_2.out)
       go_wp2_with (first | (go_at_call 35; (with_reducible refine (spec_l00In.calls ((rd_T29 l0 0).f2) 1 5000 true _ A13.out).mono ?_); rintro e w' ⟨rfl, ⟨nd, rfl⟩⟩; (try first | exact ⟨rfl, _, World.drewN_drewN _ _ _⟩ | exact ⟨rfl, _, Eq.trans (World.drewN_drewN _ _ _) (congrArg (World.drewN _) (Nat.add_assoc _ _ _))⟩); (try have hx216_0 := bC HB RX211_0.out); (try have hx216_1 := bC HB RX211_1.out); (try have hx216_2 := bC HB RX211_2.out); (try have hx217_0 := bC HB RX211_0.out); (try have hx217_1 := bC HB RX211_1.out); (try have hx217_2 := bC HB RX211_2.out)) | (go_at_call 35; (with_reducible refine (spec_l00In.calls ((rd_T29 l0 0).f1) 0 ((rd_T29 l0 0).f2) t218 _ A15.out).mono ?_); rintro e w' ⟨rfl, ⟨nd, rfl⟩⟩; (try first | exact ⟨rfl, _, World.drewN_drewN _ _ _⟩ | exact ⟨rfl, _, Eq.trans (World.drewN_drewN _ _ _) (congrArg (World.drewN _) (Nat.add_assoc _ _ _))⟩)))
       repeat (go_quiet (first | (go_at_call 35; (with_reducible refine (spec_l00In.calls ((rd_T29 l0 0).f2) 1 5000 true _ A13.out).mono ?_); rintro e w' ⟨rfl, ⟨nd, rfl⟩⟩; (try first | exact ⟨rfl, _, World.drewN_drewN _ _ _⟩ | exact ⟨rfl, _, Eq.trans (World.drewN_drewN _ _ _) (congrArg (World.drewN _) (Nat.add_assoc _ _ _))⟩); (try have hx216_0 := bC HB RX211_0.out); (try have hx216_1 := bC HB RX211_1.out); (try have hx216_2 := bC HB RX211_2.out); (try have hx217_0 := bC HB RX211_0.out); (try have hx217_1 := bC HB RX211_1.out); (try have hx217_2 := bC HB RX211_2.out)) | (go_at_call 35; (with_reducible refine (spec_l00In.calls ((rd_T29 l0 0).f1) 0 ((rd_T29 l0 0).f2) t218 _ A15.out).mono ?_); rintro e w' ⟨rfl, ⟨nd, rfl⟩⟩; (try first | exact ⟨rfl, _, World.drewN_drewN _ _ _⟩ | exact ⟨rfl, _, Eq.trans (World.drewN_drewN _ _ _) (congrArg (World.drewN _) (Nat.add_assoc _ _ _))⟩))); try go_wp2_with (first | (go_at_call 35; (with_reducible refine (spec_l00In.calls ((rd_T29 l0 0).f2) 1 5000 true _ A13.out).mono ?_); rintro e w' ⟨rfl, ⟨nd, rfl⟩⟩; (try first | exact ⟨rfl, _, World.drewN_drewN _ _ _⟩ | exact ⟨rfl, _, Eq.trans (World.drewN_drewN _ _ _) (congrArg (World.drewN _) (Nat.add_assoc _ _ _))⟩); (try have hx216_0 := bC HB RX211_0.out); (try have hx216_1 := bC HB RX211_1.out); (try have hx216_2 := bC HB RX211_2.out); (try have hx217_0 := bC HB RX211_0.out); (try have hx217_1 := bC HB RX211_1.out); (try have hx217_2 := bC HB RX211_2.out)) | (go_at_call 35; (with_reducible refine (spec_l00In.calls ((rd_T29 l0 0).f1) 0 ((rd_T29 l0 0).f2) t218 _ A15.out).mono ?_); rintro e w' ⟨rfl, ⟨nd, rfl⟩⟩; (try first | exact ⟨rfl, _, World.drewN_drewN _ _ _⟩ | exact ⟨rfl, _, Eq.trans (World.drewN_drewN _ _ _) (congrArg (World.drewN _) (Nat.add_assoc _ _ _))⟩))))
       go_ret
       exact ⟨by first | rfl | (simp [errW_none, errW_some] <;> rfl) | (simp [*, errW_none, errW_some] <;> rfl), pR HB⟩
      ·replace c14 := Bool.eq_false_iff.mpr c14
       subst c14
       have H1 : (some false) = some r := by rw [if_neg (show ¬ (false = true) by decide)] at H; exact H
       clear H
       have H := H1
       clear H1
       obtain rfl := Option.some.inj H
       simp only [Option.some.injEq, Prod.mk.injEq] at H
       obtain ⟨rfl⟩ := H
       (try have hx212_0 := bC HB RX211_0.out)
       (try have hx212_1 := bC HB RX211_1.out)
       (try have hx212_2 := bC HB RX211_2.out)
       (try have hx213_0 := bC HB RX211_0.out)
       (try have hx213_1 := bC HB RX211_1.out)
       (try have hx213_2 := bC HB RX211_2.out)
       (try have hx214_0 := bC HB RX211_0.out)
       (try have hx214_1 := bC HB RX211_1.out)
       (try have hx214_2 := bC HB RX211_2.out)
       go_wp2_with (first | (go_at_call 35; (with_reducible refine (spec_l00In.calls ((rd_T29 l0 0).f2) 1 5000 false _ A13.out).mono ?_); rintro e w' ⟨rfl, ⟨nd, rfl⟩⟩; (try first | exact ⟨rfl, _, World.drewN_drewN _ _ _⟩ | exact ⟨rfl, _, Eq.trans (World.drewN_drewN _ _ _) (congrArg (World.drewN _) (Nat.add_assoc _ _ _))⟩)))
       repeat (go_quiet (first | (go_at_call 35; (with_reducible refine (spec_l00In.calls ((rd_T29 l0 0).f2) 1 5000 false _ A13.out).mono ?_); rintro e w' ⟨rfl, ⟨nd, rfl⟩⟩; (try first | exact ⟨rfl, _, World.drewN_drewN _ _ _⟩ | exact ⟨rfl, _, Eq.trans (World.drewN_drewN _ _ _) (congrArg (World.drewN _) (Nat.add_assoc _ _ _))⟩))); try go_wp2_with (first | (go_at_call 35; (with_reducible refine (spec_l00In.calls ((rd_T29 l0 0).f2) 1 5000 false _ A13.out).mono ?_); rintro e w' ⟨rfl, ⟨nd, rfl⟩⟩; (try first | exact ⟨rfl, _, World.drewN_drewN _ _ _⟩ | exact ⟨rfl, _, Eq.trans (World.drewN_drewN _ _ _) (congrArg (World.drewN _) (Nat.add_assoc _ _ _))⟩))))
       go_ret
       exact ⟨by first | rfl | (simp [errW_none, errW_some] <;> rfl) | (simp [*, errW_none, errW_some] <;> rfl), pR HB⟩
     ·rw [if_neg c12] at H
      have c12b0 : decide ((((rd_T29 l0 0).f0).length : Int) ≤ 8) = false := decide_eq_false c12
      have c12b1 : decide (((rd_T29 l0 0).f0).length ≤ 8) = false := decide_eq_false (by omega)
      clear c12
      obtain rfl := Option.some.inj H
      simp only [Option.some.injEq, Prod.mk.injEq] at H
      obtain ⟨rfl⟩ := H
      (try have hx212_0 := bC HB RX211_0.out)
      (try have hx212_1 := bC HB RX211_1.out)
      (try have hx212_2 := bC HB RX211_2.out)
      (try have hx213_0 := bC HB RX211_0.out)
      (try have hx213_1 := bC HB RX211_1.out)
      (try have hx213_2 := bC HB RX211_2.out)
      go_wp2
      repeat (go_quiet (fail); try go_wp2)
      go_ret
      exact ⟨by first | rfl | (simp [errW_none, errW_some] <;> rfl) | (simp [*, errW_none, errW_some] <;> rfl), pR HB⟩
 ·rw [if_neg c2] at H
  exact absurd H (by simp)

/-! ### spec_l13Moments: function 57 -/
def spec_l13Moments.l0 : Nat → List (S77) → Int → Int → Int → Option (Int × Int)
 | 0, _, _, _, _ => none
 | k + 1, x0, x4, x5, x6 => if x6 < (x0.length : Int) then (if 0 ≤ x6 then (if (x0.length : Int) = 0 then (none) else (if 0 ≤ (Int.tmod (wrap64 (x6 + 1)) (x0.length : Int)) then (if (Int.tmod (wrap64 (x6 + 1)) (x0.length : Int)) < (x0.length : Int) then (spec_l13Moments.l0 k x0 (wrap64 (x4 + (wrap64 ((wrap64 (((rd_T77 x0 x6).f0) + ((rd_T77 x0 (Int.tmod (wrap64 (x6 + 1)) (x0.length : Int))).f0))) * (wrap64 ((wrap64 (((rd_T77 x0 x6).f0) * ((rd_T77 x0 (Int.tmod (wrap64 (x6 + 1)) (x0.length : Int))).f1))) - (wrap64 (((rd_T77 x0 (Int.tmod (wrap64 (x6 + 1)) (x0.length : Int))).f0) * ((rd_T77 x0 x6).f1))))))))) (wrap64 (x5 + (wrap64 ((wrap64 (((rd_T77 x0 x6).f1) + ((rd_T77 x0 (Int.tmod (wrap64 (x6 + 1)) (x0.length : Int))).f1))) * (wrap64 ((wrap64 (((rd_T77 x0 x6).f0) * ((rd_T77 x0 (Int.tmod (wrap64 (x6 + 1)) (x0.length : Int))).f1))) - (wrap64 (((rd_T77 x0 (Int.tmod (wrap64 (x6 + 1)) (x0.length : Int))).f0) * ((rd_T77 x0 x6).f1))))))))) (wrap64 (x6 + 1))) else (none)) else (none))) else (none)) else (some (x4, x5))
def spec_l13Moments.f (k : Nat) (l0 : List (S77)) : Option (Int × Int) := spec_l13Moments.l0 k l0 0 0 0
theorem spec_l13Moments.mono_l : ∀ k, (∀ y0 y1 y2 y3, LeO (spec_l13Moments.l0 k y0 y1 y2 y3) (spec_l13Moments.l0 (k + 1) y0 y1 y2 y3))
 | 0 => fun _ _ _ _ r h => by simp [spec_l13Moments.l0] at h
 | k + 1 => by
  have ih0 := spec_l13Moments.mono_l k
  ·intro y0 y1 y2 y3
   unfold spec_l13Moments.l0
   repeat' first
   | (with_reducible exact ih0 _ _ _ _)
   | (with_reducible exact LeO.refl _)
   | (with_reducible exact LeO.none _)
   | (with_reducible refine LeO.ite ?_ ?_)
   | (with_reducible refine LeO.bind ?_ (fun _ => ?_))
   | exact ih0 _ _ _ _
   | exact LeO.none _
   | refine LeO.ite ?_ ?_
   | refine LeO.bind ?_ (fun _ => ?_)
theorem spec_l13Moments.mono : ∀ a0 k, LeO (spec_l13Moments.f k a0) (spec_l13Moments.f (k + 1) a0) := by
 intro a0 k
 have ih0 := spec_l13Moments.mono_l k
 unfold spec_l13Moments.f
 repeat' first
   | (with_reducible exact ih0 _ _ _ _)
   | (with_reducible exact LeO.refl _)
   | (with_reducible exact LeO.none _)
   | (with_reducible refine LeO.ite ?_ ?_)
   | (with_reducible refine LeO.bind ?_ (fun _ => ?_))
   | exact ih0 _ _ _ _
   | exact LeO.none _
   | refine LeO.ite ?_ ?_
   | refine LeO.bind ?_ (fun _ => ?_)
set_option maxHeartbeats 8000000 in
set_option maxRecDepth 100000 in
theorem spec_l13Moments.calls (k : Nat) (A0 : Option Addr) (c0 : Nat) (l0 : List (S77)) (r1 : Int) (r2 : Int) (w : World) (hr0 : Kd.C k77 w A0 l0.length l0) (hc0 : l0.length ≤ c0) (h : spec_l13Moments.f k l0 = some (r1, r2)) :
  Calls Try.prog 57 #[.slice A0 l0.length c0] w fun e w' => e = .returned (.tuple #[.int .i64 r1, .int .i64 r2]) ∧ Below w.heap.size w w' := by
 have hu77 := Try.underlying77
 have HR0 := Aside0.mk hr0
 have HC0 := Aside0.mk hc0
 clear hr0 hc0
 have HB := Aside0.mk (Below.refl w.heap.size w)
 have H : (spec_l13Moments.l0 k l0 0 0 0) = some (r1, r2) := h
 clear h
 have H' := Aside0.mk H
 clear H
 go_enter Try.func57, Try.ntmps57
 go_wp2
 go_loopg [4, 5, 6] k (fun kq v4 v5 v6 w' => ∃ (x4_1 : Int) (x5_1 : Int) (x6_1 : Int), v4 = .int .i64 x4_1 ∧ v5 = .int .i64 x5_1 ∧ v6 = .int .i64 x6_1 ∧ Aside0 (spec_l13Moments.l0 kq l0 x4_1 x5_1 x6_1 = some (r1, r2)) ∧ Aside0 (kq ≤ k) ∧ Aside0 (Below w.heap.size w w'))
 case atStart => exact ⟨(0), (0), (0), (by first | rfl | (simp; done) | (simp [*]; done)), (by first | rfl | (simp; done) | (simp [*]; done)), (by first | rfl | (simp; done) | (simp [*]; done)), H', ⟨Nat.le_refl _⟩, ⟨by repeat (first | (with_reducible first | exact HB.out | apply below_alloc | apply pw_below_drewN | apply below_drew1) | exact HB.out)⟩⟩
 case round =>
  clear H'
  obtain ⟨x4_1, x5_1, x6_1, rfl, rfl, rfl, HA, HK1, HB⟩ := hrel
  cases gk with
  | zero => exact absurd HA.out (by simp [spec_l13Moments.l0])
  | succ k1 =>
   have H := HA.out
   clear HA
   simp only [spec_l13Moments.l0] at H
   by_cases c2 : x6_1 < (l0.length : Int)
   ·rw [if_pos c2] at H
    have c2b0 : decide (x6_1 < (l0.length : Int)) = true := decide_eq_true c2
    clear c2
    by_cases c3 : 0 ≤ x6_1
    ·rw [if_pos c3] at H
     have c3b0 : decide (0 ≤ x6_1) = true := decide_eq_true c3
     clear c3
     by_cases c4 : (l0.length : Int) = 0
     ·rw [if_pos c4] at H
      exact absurd H (by simp)
     ·rw [if_neg c4] at H
      have c4b0 : ((l0.length : Int) == 0) = false := beq_eq_false_iff_ne.mpr c4
      have c4b1 : ((l0.length : Int) != 0) = true := bne_iff_ne.mpr c4
      have c4b2 : ¬ (l0 = []) := fun h_ => c4 (by rw [h_]; rfl)
      obtain ⟨ji5, hji5⟩ : ∃ j_ : Int, (Int.tmod (wrap64 (x6_1 + 1)) (l0.length : Int)) = j_ := ⟨_, rfl⟩
      replace H : (if 0 ≤ (ji5) then (if (ji5) < (l0.length : Int) then (spec_l13Moments.l0 k1 l0 (wrap64 (x4_1 + (wrap64 ((wrap64 (((rd_T77 l0 x6_1).f0) + ((rd_T77 l0 (ji5)).f0))) * (wrap64 ((wrap64 (((rd_T77 l0 x6_1).f0) * ((rd_T77 l0 (ji5)).f1))) - (wrap64 (((rd_T77 l0 (ji5)).f0) * ((rd_T77 l0 x6_1).f1))))))))) (wrap64 (x5_1 + (wrap64 ((wrap64 (((rd_T77 l0 x6_1).f1) + ((rd_T77 l0 (ji5)).f1))) * (wrap64 ((wrap64 (((rd_T77 l0 x6_1).f0) * ((rd_T77 l0 (ji5)).f1))) - (wrap64 (((rd_T77 l0 (ji5)).f0) * ((rd_T77 l0 x6_1).f1))))))))) (wrap64 (x6_1 + 1))) else (none)) else (none)) = some (r1, r2) := by first | (rw [hji5] at H; exact H) | (simp only [hji5] at H ⊢; exact H)
      by_cases c6 : 0 ≤ (ji5)
      ·rw [if_pos c6] at H
       have c6b0 : decide (0 ≤ (ji5)) = true := decide_eq_true c6
       clear c6
       by_cases c7 : (ji5) < (l0.length : Int)
       ·rw [if_pos c7] at H
        have c7b0 : decide ((ji5) < (l0.length : Int)) = true := decide_eq_true c7
        clear c7
        have H' := Aside0.mk H
        clear H
        have p224 : 0 ≤ (x6_1 : Int) := of_decide_eq_true (by first | (with_reducible assumption) | assumption)
        have q224 : x6_1 < (l0.length : Int) := of_decide_eq_true (by first | (with_reducible assumption) | assumption)
        obtain ⟨ad224, e224, hx224_0, hx224_1⟩ := at_T77 HR0.out x6_1 p224 q224
        cases e224
        replace hx224_0 := bC HB hx224_0
        replace hx224_1 := bC HB hx224_1
        replace p224 := eq_true p224
        replace q224 := eq_true q224
        go_wp2_with (first | ((with_reducible refine gate_dst (N := 7) rfl ?_); refine box_event ?hg (N := 7) ?hd (cs := #[.int .i64 0, .int .i64 0]) (t := 77) ?hr ?_; (case hd => rfl); (case hg => rfl); (case hr => first | (go_simp; done) | (go_simp; rfl)); intro gb225 hg w8 hbox hb; have n0_ := pS HB hb; have n1_ := Aside0.mk (hbox); have n2_ := pG HB hg; have n3_ := pG HB hg; clear HB; have HB := n0_; have BK225 := n1_; have GW225 := n2_; have GE225 := n3_; clear n0_ n1_ n2_ n3_; clear hb hbox hg; obtain ⟨hcz9_0, hcz9_1, hfz9_0, hfz9_1⟩ := cz2 BK225; have p226 : 0 ≤ ((ji5) : Int) := of_decide_eq_true (by first | (with_reducible assumption) | assumption); have q226 : (ji5) < (l0.length : Int) := of_decide_eq_true (by first | (with_reducible assumption) | assumption); obtain ⟨ad226, e226, hx226_0, hx226_1⟩ := at_T77 HR0.out (ji5) p226 q226; obtain rfl : ad224 = ad226 := (by injection e226); have hn226_0 : ad224.block ≠ gb225 := Nat.ne_of_lt (Nat.lt_of_lt_of_le (by have := World.block_lt_of_cell? _ _ hx226_0; first | rwa [add_block] at this | exact this) GW225.out); have hn226_1 : ad224.block ≠ gb225 := Nat.ne_of_lt (Nat.lt_of_lt_of_le (by have := World.block_lt_of_cell? _ _ hx226_0; first | rwa [add_block] at this | exact this) GW225.out); replace hx226_0 := bC HB hx226_0; replace hx226_1 := bC HB hx226_1; replace hx226_0 := (cell_far (p := ⟨gb225, 0, none⟩) (by first | (rw [add_block]; exact hn226_0) | (show (Addr.add _ _).block ≠ _; rw [add_block]; exact hn226_0) | exact hn226_0) (.int .i64 ((rd_T77 l0 x6_1).f0))).trans hx226_0; replace hx226_1 := (cell_far (p := ⟨gb225, 0, none⟩) (by first | (rw [add_block]; exact hn226_0) | (show (Addr.add _ _).block ≠ _; rw [add_block]; exact hn226_0) | exact hn226_0) (.int .i64 ((rd_T77 l0 x6_1).f0))).trans hx226_1; replace hx226_0 := (cell_far (p := ⟨gb225, 1, none⟩) (by first | (rw [add_block]; exact hn226_1) | (show (Addr.add _ _).block ≠ _; rw [add_block]; exact hn226_1) | exact hn226_1) (.int .i64 ((rd_T77 l0 x6_1).f1))).trans hx226_0; replace hx226_1 := (cell_far (p := ⟨gb225, 1, none⟩) (by first | (rw [add_block]; exact hn226_1) | (show (Addr.add _ _).block ≠ _; rw [add_block]; exact hn226_1) | exact hn226_1) (.int .i64 ((rd_T77 l0 x6_1).f1))).trans hx226_1; clear hn226_0 hn226_1; replace p226 := eq_true p226; replace q226 := eq_true q226) | ((with_reducible refine gate_dst (N := 8) rfl ?_); refine box_event ?hg (N := 8) ?hd (cs := #[.int .i64 0, .int .i64 0]) (t := 77) ?hr ?_; (case hd => rfl); (case hg => rfl); (case hr => first | (go_simp; done) | (go_simp; rfl)); intro gb227 hg w10 hbox hb; have n0_ := Aside0.mk (blk_below (g := gb225) (o := .cells #[.int .i64 ((rd_T77 l0 x6_1).f0), .int .i64 ((rd_T77 l0 x6_1).f1)] 77 (0, 0)) (by (with_reducible repeat (first | refine blk_drewN ?_ _ | refine blk_drew ?_ | refine blk_alloc ?_ _)); refine blk_put (cs := #[.int .i64 ((rd_T77 l0 x6_1).f0), .int .i64 0]) ?_ 1 _ rfl; (with_reducible repeat (first | refine blk_drewN ?_ _ | refine blk_drew ?_ | refine blk_alloc ?_ _)); refine blk_put (cs := #[.int .i64 0, .int .i64 0]) ?_ 0 _ rfl; (with_reducible repeat (first | refine blk_drewN ?_ _ | refine blk_drew ?_ | refine blk_alloc ?_ _)); exact BK225.out) hb); have n1_ := pS HB hb; have n2_ := Aside0.mk (hbox); have n3_ := pG HB hg; have n4_ := pG HB hg; have n5_ := Aside0.mk ((by rw [hg]; exact Nat.ne_of_lt (blk_lt (g := gb225) (o := .cells #[.int .i64 ((rd_T77 l0 x6_1).f0), .int .i64 ((rd_T77 l0 x6_1).f1)] 77 (0, 0)) (by (with_reducible repeat (first | refine blk_drewN ?_ _ | refine blk_drew ?_ | refine blk_alloc ?_ _)); refine blk_put (cs := #[.int .i64 ((rd_T77 l0 x6_1).f0), .int .i64 0]) ?_ 1 _ rfl; (with_reducible repeat (first | refine blk_drewN ?_ _ | refine blk_drew ?_ | refine blk_alloc ?_ _)); refine blk_put (cs := #[.int .i64 0, .int .i64 0]) ?_ 0 _ rfl; (with_reducible repeat (first | refine blk_drewN ?_ _ | refine blk_drew ?_ | refine blk_alloc ?_ _)); exact BK225.out)) : gb225 ≠ gb227)); have n6_ := Aside0.mk ((by rw [hg]; exact Nat.ne_of_gt (blk_lt (g := gb225) (o := .cells #[.int .i64 ((rd_T77 l0 x6_1).f0), .int .i64 ((rd_T77 l0 x6_1).f1)] 77 (0, 0)) (by (with_reducible repeat (first | refine blk_drewN ?_ _ | refine blk_drew ?_ | refine blk_alloc ?_ _)); refine blk_put (cs := #[.int .i64 ((rd_T77 l0 x6_1).f0), .int .i64 0]) ?_ 1 _ rfl; (with_reducible repeat (first | refine blk_drewN ?_ _ | refine blk_drew ?_ | refine blk_alloc ?_ _)); refine blk_put (cs := #[.int .i64 0, .int .i64 0]) ?_ 0 _ rfl; (with_reducible repeat (first | refine blk_drewN ?_ _ | refine blk_drew ?_ | refine blk_alloc ?_ _)); exact BK225.out)) : gb227 ≠ gb225)); clear BK225 HB; have BK225 := n0_; have HB := n1_; have BK227 := n2_; have GW227 := n3_; have GE227 := n4_; have NB225_227 := n5_; have NB227_225 := n6_; clear n0_ n1_ n2_ n3_ n4_ n5_ n6_; clear hb hbox hg; have hnb11 := NB227_225.out; have hnc11 := NB225_227.out; obtain ⟨hcz12_0, hcz12_1, hfz12_0, hfz12_1⟩ := cz2 BK227; obtain ⟨hcz13_0, hcz13_1, hfz13_0, hfz13_1⟩ := cz2 BK225))
        go_roundg k1
        case measure => have := HK1.out; omega
        case rel => exact ⟨(wrap64 (x4_1 + (wrap64 ((wrap64 (((rd_T77 l0 x6_1).f0) + ((rd_T77 l0 (ji5)).f0))) * (wrap64 ((wrap64 (((rd_T77 l0 x6_1).f0) * ((rd_T77 l0 (ji5)).f1))) - (wrap64 (((rd_T77 l0 (ji5)).f0) * ((rd_T77 l0 x6_1).f1))))))))), (wrap64 (x5_1 + (wrap64 ((wrap64 (((rd_T77 l0 x6_1).f1) + ((rd_T77 l0 (ji5)).f1))) * (wrap64 ((wrap64 (((rd_T77 l0 x6_1).f0) * ((rd_T77 l0 (ji5)).f1))) - (wrap64 (((rd_T77 l0 (ji5)).f0) * ((rd_T77 l0 x6_1).f1))))))))), (wrap64 (x6_1 + 1)), (by first | rfl | (simp; done) | (simp only [← hji5] <;> (first | rfl | simp)) | (simp [*]; done)), (by first | rfl | (simp; done) | (simp only [← hji5] <;> (first | rfl | simp)) | (simp [*]; done)), (by first | rfl | (simp; done) | (simp [*]; done)), H', ⟨by have := HK1.out; omega⟩, ⟨by repeat (first | (with_reducible first | exact HB.out | apply below_alloc | apply pw_below_drewN | apply below_drew1 | refine below_set ?_ GE225.out | refine below_set ?_ GE227.out) | exact HB.out)⟩⟩
       ·rw [if_neg c7] at H
        exact absurd H (by simp)
      ·rw [if_neg c6] at H
       exact absurd H (by simp)
    ·rw [if_neg c3] at H
     exact absurd H (by simp)
   ·rw [if_neg c2] at H
    have c2b0 : decide (x6_1 < (l0.length : Int)) = false := decide_eq_false c2
    clear c2
    simp only [Option.some.injEq, Prod.mk.injEq] at H
    obtain ⟨rfl, rfl⟩ := H
    go_wp2
    go_ret2
    exact ⟨by first | rfl | (simp [errW_none, errW_some] <;> rfl) | (simp [*, errW_none, errW_some] <;> rfl), pR HB⟩

/-! ### spec_l17Moments: function 36 -/
def spec_l17Moments.l0 : Nat → List (S29) → Int → Int → Int → Option (Int × Int)
 | 0, _, _, _, _ => none
 | k + 1, x0, x4, x5, x6 => if x6 < (((rd_T29 x0 0).f0).length : Int) then (if 0 ≤ x6 then (if (rd_T54 ((rd_T29 x0 0).f0) x6).f2 = true then ((spec_l13Moments.f k ((rd_T54 ((rd_T29 x0 0).f0) x6).f1)).bind fun bt234 => (spec_l17Moments.l0 k x0 (wrap64 (x4 + bt234.1)) (wrap64 (x5 + bt234.2)) (wrap64 (x6 + 1)))) else (spec_l17Moments.l0 k x0 x4 x5 (wrap64 (x6 + 1)))) else (none)) else (some (x4, x5))
def spec_l17Moments.f (k : Nat) (l0 : List (S29)) : Option (Int × Int) := if 0 < (l0.length : Int) then (spec_l17Moments.l0 k l0 0 0 0) else (none)
theorem spec_l17Moments.mono_l : ∀ k, (∀ y0 y1 y2 y3, LeO (spec_l17Moments.l0 k y0 y1 y2 y3) (spec_l17Moments.l0 (k + 1) y0 y1 y2 y3))
 | 0 => fun _ _ _ _ r h => by simp [spec_l17Moments.l0] at h
 | k + 1 => by
  have ih0 := spec_l17Moments.mono_l k
  ·intro y0 y1 y2 y3
   unfold spec_l17Moments.l0
   repeat' first
   | (with_reducible exact ih0 _ _ _ _)
   | (with_reducible exact spec_l13Moments.mono _ _)
   | (with_reducible exact LeO.refl _)
   | (with_reducible exact LeO.none _)
   | (with_reducible refine LeO.ite ?_ ?_)
   | (with_reducible refine LeO.bind ?_ (fun _ => ?_))
   | exact ih0 _ _ _ _
   | exact spec_l13Moments.mono _ _
   | exact LeO.none _
   | refine LeO.ite ?_ ?_
   | refine LeO.bind ?_ (fun _ => ?_)
theorem spec_l17Moments.mono : ∀ a0 k, LeO (spec_l17Moments.f k a0) (spec_l17Moments.f (k + 1) a0) := by
 intro a0 k
 have ih0 := spec_l17Moments.mono_l k
 unfold spec_l17Moments.f
 repeat' first
   | (with_reducible exact ih0 _ _ _ _)
   | (with_reducible exact spec_l13Moments.mono _ _)
   | (with_reducible exact LeO.refl _)
   | (with_reducible exact LeO.none _)
   | (with_reducible refine LeO.ite ?_ ?_)
   | (with_reducible refine LeO.bind ?_ (fun _ => ?_))
   | exact ih0 _ _ _ _
   | exact spec_l13Moments.mono _ _
   | exact LeO.none _
   | refine LeO.ite ?_ ?_
   | refine LeO.bind ?_ (fun _ => ?_)
set_option maxHeartbeats 8000000 in
set_option maxRecDepth 100000 in
theorem spec_l17Moments.calls (k : Nat) (A0 : Option Addr) (c0 : Nat) (l0 : List (S29)) (r1 : Int) (r2 : Int) (w : World) (hr0 : Kd.C k29 w A0 l0.length l0) (hc0 : l0.length ≤ c0) (h : spec_l17Moments.f k l0 = some (r1, r2)) :
  Calls Try.prog 36 #[.pointer A0] w fun e w' => e = .returned (.tuple #[.int .i64 r1, .int .i64 r2]) ∧ Below w.heap.size w w' := by
 have HR0 := Aside0.mk hr0
 have HC0 := Aside0.mk hc0
 clear hr0 hc0
 have HB := Aside0.mk (Below.refl w.heap.size w)
 have H : (if 0 < (l0.length : Int) then (spec_l17Moments.l0 k l0 0 0 0) else (none)) = some (r1, r2) := h
 clear h
 by_cases c2 : 0 < (l0.length : Int)
 ·rw [if_pos c2] at H
  have c2b0 : decide (0 < (l0.length : Int)) = true := decide_eq_true c2
  have c2b1 : decide (0 < l0.length) = true := decide_eq_true (by omega)
  clear c2
  have H' := Aside0.mk H
  clear H
  have p228 : 0 ≤ (0 : Int) := (by omega)
  have q228 : 0 < (l0.length : Int) := of_decide_eq_true (by first | (with_reducible assumption) | assumption)
  obtain ⟨ad228, A228_0, c228_0, e228, hx228_0, hx228_1, hx228_2, hl228_0, hi228_0⟩ := at_T29 HR0.out 0 p228 q228
  cases e228
  have qi228 : (0 < l0.length) = True := eq_true (by omega)
  (try rw [show ((0 : Int)).toNat = 0 from rfl] at hx228_0)
  (try rw [show 0 * 3 = 0 from rfl] at hx228_0)
  (try rw [Addr.add_zero'] at hx228_0)
  (try rw [show ((0 : Int)).toNat = 0 from rfl] at hx228_1)
  (try rw [show 0 * 3 = 0 from rfl] at hx228_1)
  (try rw [Addr.add_zero'] at hx228_1)
  (try rw [show ((0 : Int)).toNat = 0 from rfl] at hx228_2)
  (try rw [show 0 * 3 = 0 from rfl] at hx228_2)
  (try rw [Addr.add_zero'] at hx228_2)
  have HR228_0 := Aside0.mk hi228_0
  have HC228_0 := Aside0.mk hl228_0
  clear hi228_0 hl228_0
  replace p228 := eq_true p228
  replace q228 := eq_true q228
  have RX228_0 := Aside0.mk hx228_0
  clear hx228_0
  have RX228_1 := Aside0.mk hx228_1
  clear hx228_1
  have RX228_2 := Aside0.mk hx228_2
  clear hx228_2
  go_enter Try.func36, Try.ntmps36
  go_wp2
  go_loopg [4, 5, 6] k (fun kq v4 v5 v6 w' => ∃ (x4_1 : Int) (x5_1 : Int) (x6_1 : Int), v4 = .int .i64 x4_1 ∧ v5 = .int .i64 x5_1 ∧ v6 = .int .i64 x6_1 ∧ Aside0 (spec_l17Moments.l0 kq l0 x4_1 x5_1 x6_1 = some (r1, r2)) ∧ Aside0 (kq ≤ k) ∧ Aside0 (Below w.heap.size w w'))
  case atStart => exact ⟨(0), (0), (0), (by first | rfl | (simp; done) | (simp [*]; done)), (by first | rfl | (simp; done) | (simp [*]; done)), (by first | rfl | (simp; done) | (simp [*]; done)), H', ⟨Nat.le_refl _⟩, ⟨by repeat (first | (with_reducible first | exact HB.out | apply below_alloc | apply pw_below_drewN | apply below_drew1) | exact HB.out)⟩⟩
  case round =>
   clear H'
   try clear c2
   try clear c2b0
   try clear c2b1
   try clear p2
   try clear q2
   try clear hx2
   try clear qi2
   try clear hx228_0
   try clear hx228_1
   try clear hx228_2
   try clear p228
   try clear q228
   obtain ⟨x4_1, x5_1, x6_1, rfl, rfl, rfl, HA, HK1, HB⟩ := hrel
   cases gk with
   | zero => exact absurd HA.out (by simp [spec_l17Moments.l0])
   | succ k1 =>
    have H := HA.out
    clear HA
    simp only [spec_l17Moments.l0] at H
    by_cases c3 : x6_1 < (((rd_T29 l0 0).f0).length : Int)
    ·rw [if_pos c3] at H
     have c3b0 : decide (x6_1 < (((rd_T29 l0 0).f0).length : Int)) = true := decide_eq_true c3
     clear c3
     by_cases c4 : 0 ≤ x6_1
     ·rw [if_pos c4] at H
      have c4b0 : decide (0 ≤ x6_1) = true := decide_eq_true c4
      clear c4
      obtain ⟨bq5, hbq5⟩ : ∃ b_ : Bool, b_ = ((rd_T54 ((rd_T29 l0 0).f0) x6_1).f2) := ⟨_, rfl⟩
      replace H : (if bq5 = true then ((spec_l13Moments.f k1 ((rd_T54 ((rd_T29 l0 0).f0) x6_1).f1)).bind fun bt234 => (spec_l17Moments.l0 k1 l0 (wrap64 (x4_1 + bt234.1)) (wrap64 (x5_1 + bt234.2)) (wrap64 (x6_1 + 1)))) else (spec_l17Moments.l0 k1 l0 x4_1 x5_1 (wrap64 (x6_1 + 1)))) = some (r1, r2) := by rw [← hbq5] at H; exact H
      have Nbq5 := Aside0.mk hbq5
      clear hbq5
      by_cases c6 : bq5 = true
      ·subst c6
       have H1 : ((spec_l13Moments.f k1 ((rd_T54 ((rd_T29 l0 0).f0) x6_1).f1)).bind fun bt234 => (spec_l17Moments.l0 k1 l0 (wrap64 (x4_1 + bt234.1)) (wrap64 (x5_1 + bt234.2)) (wrap64 (x6_1 + 1)))) = some (r1, r2) := by rw [if_pos rfl] at H; exact H
       clear H
       have H := H1
       clear H1
       replace H := Option.bind_eq_some_iff.mp H
       obtain ⟨⟨t234, t235⟩, A70, H⟩ := H
       replace H : (spec_l17Moments.l0 k1 l0 (wrap64 (x4_1 + t234)) (wrap64 (x5_1 + t235)) (wrap64 (x6_1 + 1))) = some (r1, r2) := H
       have A7 := Aside0.mk A70
       clear A70
       have H' := Aside0.mk H
       clear H
       (try have hx229_0 := bC HB RX228_0.out)
       (try have hx229_1 := bC HB RX228_1.out)
       (try have hx229_2 := bC HB RX228_2.out)
       (try have hx230_0 := bC HB RX228_0.out)
       (try have hx230_1 := bC HB RX228_1.out)
       (try have hx230_2 := bC HB RX228_2.out)
       have p231 : 0 ≤ (x6_1 : Int) := of_decide_eq_true (by first | (with_reducible assumption) | assumption)
       have q231 : x6_1 < (((rd_T29 l0 0).f0).length : Int) := of_decide_eq_true (by first | (with_reducible assumption) | assumption)
       obtain ⟨ad231, A231_1, c231_1, e231, hx231_0, hx231_1, hx231_2, hl231_1, hi231_1⟩ := at_T54 HR228_0.out x6_1 p231 q231
       (try rw [← Nbq5.out] at hx231_2)
       cases e231
       replace hx231_0 := bC HB hx231_0
       replace hx231_1 := bC HB hx231_1
       replace hx231_2 := bC HB hx231_2
       have HR231_1 := Aside0.mk hi231_1
       have HC231_1 := Aside0.mk hl231_1
       clear hi231_1 hl231_1
       replace p231 := eq_true p231
       replace q231 := eq_true q231
       (try have hx232_0 := bC HB RX228_0.out)
       (try have hx232_1 := bC HB RX228_1.out)
       (try have hx232_2 := bC HB RX228_2.out)
       have p233 : 0 ≤ (x6_1 : Int) := of_decide_eq_true (by first | (with_reducible assumption) | assumption)
       have q233 : x6_1 < (((rd_T29 l0 0).f0).length : Int) := of_decide_eq_true (by first | (with_reducible assumption) | assumption)
       obtain ⟨ad233, A233_1, c233_1, e233, hx233_0, hx233_1, hx233_2, hl233_1, hi233_1⟩ := at_T54 HR228_0.out x6_1 p233 q233
       (try rw [← Nbq5.out] at hx233_2)
       obtain rfl : ad231 = ad233 := (by injection e233)
       replace hx233_0 := bC HB hx233_0
       replace hx233_1 := bC HB hx233_1
       replace hx233_2 := bC HB hx233_2
       have HR233_1 := Aside0.mk hi233_1
       have HC233_1 := Aside0.mk hl233_1
       clear hi233_1 hl233_1
       replace p233 := eq_true p233
       replace q233 := eq_true q233
       have ea_ := Option.some.inj (hx231_1.symm.trans hx233_1)
       injection ea_ with ea_ en_ ec_
       subst ea_
       subst ec_
       clear en_
       go_wp2_with (first | ((with_reducible refine gate_callee (f := 57) rfl ?_); refine goesL_ (some 35) rfl rfl Try.func57 (by kernel_rfl) rfl #[.slice A231_1 ((rd_T54 ((rd_T29 l0 0).f0) x6_1).f1).length c231_1] rfl (by (try simp only [List.map_toArray, List.map_cons, List.map_nil]); first | done | rfl | (simp only [List.length_drop, List.length_take]; rfl)) ?_; (with_reducible refine (spec_l13Moments.calls k1 _ _ ((rd_T54 ((rd_T29 l0 0).f0) x6_1).f1) t234 t235 _ ?side1 ?side2 A7.out).mono ?_); (case side1 => repeat (first | exact (Kd.C_below HR233_1.out HB.out) | (with_reducible refine Kd.C_alloc ?_ _) | (with_reducible refine Kd.C_drewN ?_ _) | (with_reducible refine Kd.C_drew ?_))); (case side2 => exact HC233_1.out); rintro e w8 ⟨rfl, hb⟩; refine ⟨_, rfl, ?_⟩; have n0_ := pS HB hb; clear HB; have HB := n0_; clear n0_; (try clear hb); (try clear hb2); (try clear hk); (try clear hi)))
       go_roundg k1
       case measure => have := HK1.out; omega
       case rel => exact ⟨(wrap64 (x4_1 + t234)), (wrap64 (x5_1 + t235)), (wrap64 (x6_1 + 1)), (by first | rfl | (simp; done) | (simp [*]; done)), (by first | rfl | (simp; done) | (simp [*]; done)), (by first | rfl | (simp; done) | (simp [*]; done)), H', ⟨by have := HK1.out; omega⟩, ⟨by repeat (first | (with_reducible first | exact HB.out | apply below_alloc | apply pw_below_drewN | apply below_drew1) | exact HB.out)⟩⟩
      ·replace c6 := Bool.eq_false_iff.mpr c6
       subst c6
       have H1 : (spec_l17Moments.l0 k1 l0 x4_1 x5_1 (wrap64 (x6_1 + 1))) = some (r1, r2) := by rw [if_neg (show ¬ (false = true) by decide)] at H; exact H
       clear H
       have H := H1
       clear H1
       have H' := Aside0.mk H
       clear H
       (try have hx229_0 := bC HB RX228_0.out)
       (try have hx229_1 := bC HB RX228_1.out)
       (try have hx229_2 := bC HB RX228_2.out)
       (try have hx230_0 := bC HB RX228_0.out)
       (try have hx230_1 := bC HB RX228_1.out)
       (try have hx230_2 := bC HB RX228_2.out)
       have p231 : 0 ≤ (x6_1 : Int) := of_decide_eq_true (by first | (with_reducible assumption) | assumption)
       have q231 : x6_1 < (((rd_T29 l0 0).f0).length : Int) := of_decide_eq_true (by first | (with_reducible assumption) | assumption)
       obtain ⟨ad231, A231_1, c231_1, e231, hx231_0, hx231_1, hx231_2, hl231_1, hi231_1⟩ := at_T54 HR228_0.out x6_1 p231 q231
       (try rw [← Nbq5.out] at hx231_2)
       cases e231
       replace hx231_0 := bC HB hx231_0
       replace hx231_1 := bC HB hx231_1
       replace hx231_2 := bC HB hx231_2
       have HR231_1 := Aside0.mk hi231_1
       have HC231_1 := Aside0.mk hl231_1
       clear hi231_1 hl231_1
       replace p231 := eq_true p231
       replace q231 := eq_true q231
       go_wp2
       go_roundg k1
       case measure => have := HK1.out; omega
       case rel => exact ⟨(x4_1), (x5_1), (wrap64 (x6_1 + 1)), (by first | rfl | (simp; done) | (simp [*]; done)), (by first | rfl | (simp; done) | (simp [*]; done)), (by first | rfl | (simp; done) | (simp [*]; done)), H', ⟨by have := HK1.out; omega⟩, ⟨by repeat (first | (with_reducible first | exact HB.out | apply below_alloc | apply pw_below_drewN | apply below_drew1) | exact HB.out)⟩⟩
     ·rw [if_neg c4] at H
      exact absurd H (by simp)
    ·rw [if_neg c3] at H
     have c3b0 : decide (x6_1 < (((rd_T29 l0 0).f0).length : Int)) = false := decide_eq_false c3
     clear c3
     simp only [Option.some.injEq, Prod.mk.injEq] at H
     obtain ⟨rfl, rfl⟩ := H
     (try have hx229_0 := bC HB RX228_0.out)
     (try have hx229_1 := bC HB RX228_1.out)
     (try have hx229_2 := bC HB RX228_2.out)
     go_wp2
     go_ret2
     exact ⟨by first | rfl | (simp [errW_none, errW_some] <;> rfl) | (simp [*, errW_none, errW_some] <;> rfl), pR HB⟩
 ·rw [if_neg c2] at H
  exact absurd H (by simp)

/-! ### spec_l00Gcd: function 58 -/
def spec_l00Gcd.l0 : Nat → Int → Int → Option (Int)
 | 0, _, _ => none
 | k + 1, x0, x1 => if x1 = 0 then (some x0) else (spec_l00Gcd.l0 k x1 (Int.tmod x0 x1))
def spec_l00Gcd.f (k : Nat) (a0 : Int) (a1 : Int) : Option (Int) := spec_l00Gcd.l0 k a0 a1
theorem spec_l00Gcd.mono_l : ∀ k, (∀ y0 y1, LeO (spec_l00Gcd.l0 k y0 y1) (spec_l00Gcd.l0 (k + 1) y0 y1))
 | 0 => fun _ _ r h => by simp [spec_l00Gcd.l0] at h
 | k + 1 => by
  have ih0 := spec_l00Gcd.mono_l k
  ·intro y0 y1
   unfold spec_l00Gcd.l0
   repeat' first
   | (with_reducible exact ih0 _ _)
   | (with_reducible exact LeO.refl _)
   | (with_reducible exact LeO.none _)
   | (with_reducible refine LeO.ite ?_ ?_)
   | (with_reducible refine LeO.bind ?_ (fun _ => ?_))
   | exact ih0 _ _
   | exact LeO.none _
   | refine LeO.ite ?_ ?_
   | refine LeO.bind ?_ (fun _ => ?_)
theorem spec_l00Gcd.mono : ∀ a0 a1 k, LeO (spec_l00Gcd.f k a0 a1) (spec_l00Gcd.f (k + 1) a0 a1) := by
 intro a0 a1 k
 have ih0 := spec_l00Gcd.mono_l k
 unfold spec_l00Gcd.f
 repeat' first
   | (with_reducible exact ih0 _ _)
   | (with_reducible exact LeO.refl _)
   | (with_reducible exact LeO.none _)
   | (with_reducible refine LeO.ite ?_ ?_)
   | (with_reducible refine LeO.bind ?_ (fun _ => ?_))
   | exact ih0 _ _
   | exact LeO.none _
   | refine LeO.ite ?_ ?_
   | refine LeO.bind ?_ (fun _ => ?_)
set_option maxHeartbeats 8000000 in
set_option maxRecDepth 100000 in
theorem spec_l00Gcd.calls (k : Nat) (a0 : Int) (a1 : Int) (r : Int) (w : World) (h : spec_l00Gcd.f k a0 a1 = some r) :
  Calls Try.prog 58 #[.int .i64 a0, .int .i64 a1] w fun e w' => e = .returned (.int .i64 r) ∧ Drawn0 w w' := by
 have H : (spec_l00Gcd.l0 k a0 a1) = some r := h
 clear h
 have H' := Aside0.mk H
 clear H
 go_enter Try.func58, Try.ntmps58
 go_wp2
 go_loopg [0, 1] k (fun kq v0 v1 w' => ∃ (x0_1 : Int) (x1_1 : Int), v0 = .int .i64 x0_1 ∧ v1 = .int .i64 x1_1 ∧ Aside0 (spec_l00Gcd.l0 kq x0_1 x1_1 = some r) ∧ Aside0 (kq ≤ k) ∧ Drawn0 w w')
 case atStart => exact ⟨(a0), (a1), (by first | rfl | (simp; done) | (simp [*]; done)), (by first | rfl | (simp; done) | (simp [*]; done)), H', ⟨Nat.le_refl _⟩, by repeat (first | exact Drawn0.refl _ | apply Drawn0.step)⟩
 case round =>
  clear H'
  try clear p2
  obtain ⟨x0_1, x1_1, rfl, rfl, HA, HK1, ⟨m1, rfl⟩⟩ := hrel
  cases gk with
  | zero => exact absurd HA.out (by simp [spec_l00Gcd.l0])
  | succ k1 =>
   have H := HA.out
   clear HA
   simp only [spec_l00Gcd.l0] at H
   by_cases c3 : x1_1 = 0
   ·rw [if_pos c3] at H
    have c3b0 : (x1_1 == 0) = true := beq_iff_eq.mpr c3
    have c3b1 : (x1_1 != 0) = false := bne_eq_false_iff_eq.mpr c3
    clear c3
    obtain rfl := Option.some.inj H
    simp only [Option.some.injEq, Prod.mk.injEq] at H
    obtain ⟨rfl⟩ := H
    go_wp2
    go_ret
    exact ⟨by first | rfl | (simp; done) | (simp [*]; done), by repeat (first | exact Drawn0.refl _ | apply Drawn0.step)⟩
   ·rw [if_neg c3] at H
    have c3b0 : (x1_1 == 0) = false := beq_eq_false_iff_ne.mpr c3
    have c3b1 : (x1_1 != 0) = true := bne_iff_ne.mpr c3
    have H' := Aside0.mk H
    clear H
    go_wp2
    go_roundg k1
    case measure => have := HK1.out; omega
    case rel => exact ⟨(x1_1), (Int.tmod x0_1 x1_1), (by first | rfl | (simp; done) | (simp [*]; done)), (by first | rfl | (simp; done) | (simp [*]; done)), H', ⟨by have := HK1.out; omega⟩, by repeat (first | exact Drawn0.refl _ | apply Drawn0.step)⟩

/-! ### spec_l00Size: function 59 -/
def spec_l00Size.f (a0 : Int) : Option (Int) := if a0 < 0 then (some (wrap64 (-a0))) else (some a0)
set_option maxHeartbeats 8000000 in
set_option maxRecDepth 100000 in
theorem spec_l00Size.calls (a0 : Int) (r : Int) (w : World) (h : spec_l00Size.f a0 = some r) :
  Calls Try.prog 59 #[.int .i64 a0] w fun e w' => e = .returned (.int .i64 r) ∧ Drawn0 w w' := by
 have H : (if a0 < 0 then (some (wrap64 (-a0))) else (some a0)) = some r := h
 clear h
 by_cases c2 : a0 < 0
 ·rw [if_pos c2] at H
  have c2b0 : decide (a0 < 0) = true := decide_eq_true c2
  clear c2
  obtain rfl := Option.some.inj H
  simp only [Option.some.injEq, Prod.mk.injEq] at H
  obtain ⟨rfl⟩ := H
  go_enter Try.func59, Try.ntmps59
  go_wp2
  go_ret
  exact ⟨by first | rfl | (simp; done) | (simp [*]; done), by repeat (first | exact Drawn0.refl _ | apply Drawn0.step)⟩
 ·rw [if_neg c2] at H
  have c2b0 : decide (a0 < 0) = false := decide_eq_false c2
  clear c2
  obtain rfl := Option.some.inj H
  simp only [Option.some.injEq, Prod.mk.injEq] at H
  obtain ⟨rfl⟩ := H
  go_enter Try.func59, Try.ntmps59
  go_wp2
  go_ret
  exact ⟨by first | rfl | (simp; done) | (simp [*]; done), by repeat (first | exact Drawn0.refl _ | apply Drawn0.step)⟩

end Go.Proofs.Ytnfgijackilcjaa.PFnExactHeelOf
