-- Written by a program of this session (wip/tools/pp.sh).
import Derived.Test.YtnfgijackilcjaaPFnExactLeadOfx0
import Derived.Test.YtnfgijackilcjaaPFnExactLeadOfx3
import Derived.Test.YtnfgijackilcjaaPFnExactLeadOfx8
namespace Go.Proofs.Ytnfgijackilcjaa.PFnExactLeadOf
open Go.RowKit Go.Proofs.YtnfgijackilcjaaW.PrintWords Go.Proofs.YtnfgijackilcjaaW.PrintLast Go.Proofs.YtnfgijackilcjaaW.PrintMore Go.Proofs.Ytnfgijackilcjaa.Small
open Bool renaming true → T, false → F
attribute [local go_sem] max2_int min2_int max_two min_two max_three min_three max_four min_four   -- for this text's walks alone
set_option linter.unusedVariables false
set_option linter.unusedSimpArgs false

/-! ### spec_l17Moments: function 36 -/
def spec_l17Moments.l0 : Nat → List (S29) → Int → Int → Int → Option (Int × Int)
 | 0, _, _, _, _ => none
 | k + 1, x0, x4, x5, x6 => if x6 < (((rd_T29 x0 0).f0).length : Int) then (if 0 ≤ x6 then (if (rd_T54 ((rd_T29 x0 0).f0) x6).f2 = true then ((spec_l13Moments.f k ((rd_T54 ((rd_T29 x0 0).f0) x6).f1)).bind fun bt249 => (spec_l17Moments.l0 k x0 (wrap64 (x4 + bt249.1)) (wrap64 (x5 + bt249.2)) (wrap64 (x6 + 1)))) else (spec_l17Moments.l0 k x0 x4 x5 (wrap64 (x6 + 1)))) else (none)) else (some (x4, x5))
def spec_l17Moments.f (k : Nat) (l0 : List (S29)) : Option (Int × Int) := if 0 < (l0.length : Int) then (spec_l17Moments.l0 k l0 0 0 0) else (none)
theorem spec_l17Moments.mono_l : ∀ k, (∀ y0 y1 y2 y3, LeO (spec_l17Moments.l0 k y0 y1 y2 y3) (spec_l17Moments.l0 (k + 1) y0 y1 y2 y3))
 | 0 => fun _ _ _ _ r h => by simp [spec_l17Moments.l0] at h
 | k + 1 => by
  have ih0 := spec_l17Moments.mono_l k
  ·intro y0 y1 y2 y3
   unfold spec_l17Moments.l0
   repeat' first
   | (with_reducible exact ih0 _ _ _ _)
   | (with_reducible exact spec_l13Moments.mono _ _)
   | (with_reducible exact LeO.refl _)
   | (with_reducible exact LeO.none _)
   | (with_reducible refine LeO.ite ?_ ?_)
   | (with_reducible refine LeO.bind ?_ (fun _ => ?_))
   | exact ih0 _ _ _ _
   | exact spec_l13Moments.mono _ _
   | exact LeO.none _
   | refine LeO.ite ?_ ?_
   | refine LeO.bind ?_ (fun _ => ?_)
theorem spec_l17Moments.mono : ∀ a0 k, LeO (spec_l17Moments.f k a0) (spec_l17Moments.f (k + 1) a0) := by
 intro a0 k
 have ih0 := spec_l17Moments.mono_l k
 unfold spec_l17Moments.f
 repeat' first
   | (with_reducible exact ih0 _ _ _ _)
   | (with_reducible exact spec_l13Moments.mono _ _)
   | (with_reducible exact LeO.refl _)
   | (with_reducible exact LeO.none _)
   | (with_reducible refine LeO.ite ?_ ?_)
   | (with_reducible refine LeO.bind ?_ (fun _ => ?_))
   | exact ih0 _ _ _ _
   | exact spec_l13Moments.mono _ _
   | exact LeO.none _
   | refine LeO.ite ?_ ?_
   | refine LeO.bind ?_ (fun _ => ?_)
set_option maxHeartbeats 8000000 in
set_option maxRecDepth 100000 in
theorem spec_l17Moments.calls (k : Nat) (A0 : Option Addr) (c0 : Nat) (l0 : List (S29)) (r1 : Int) (r2 : Int) (w : World) (hr0 : Kd.C k29 w A0 l0.length l0) (hc0 : l0.length ≤ c0) (h : spec_l17Moments.f k l0 = some (r1, r2)) :
  Calls Try.prog 36 #[.pointer A0] w fun e w' => e = .returned (.tuple #[.int .i64 r1, .int .i64 r2]) ∧ Below w.heap.size w w' := by
 have HR0 := Aside0.mk hr0
 have HC0 := Aside0.mk hc0
 clear hr0 hc0
 have HB := Aside0.mk (Below.refl w.heap.size w)
 have H : (if 0 < (l0.length : Int) then (spec_l17Moments.l0 k l0 0 0 0) else (none)) = some (r1, r2) := h
 clear h
 by_cases c2 : 0 < (l0.length : Int)
 ·rw [if_pos c2] at H
  have c2b0 : decide (0 < (l0.length : Int)) = true := decide_eq_true c2
  have c2b1 : decide (0 < l0.length) = true := decide_eq_true (by omega)
  clear c2
  have H' := Aside0.mk H
  clear H
  have p243 : 0 ≤ (0 : Int) := (by omega)
  have q243 : 0 < (l0.length : Int) := of_decide_eq_true (by first | (with_reducible assumption) | assumption)
  obtain ⟨ad243, A243_0, c243_0, e243, hx243_0, hx243_1, hx243_2, hl243_0, hi243_0⟩ := at_T29 HR0.out 0 p243 q243
  cases e243
  have qi243 : (0 < l0.length) = True := eq_true (by omega)
  (try rw [show ((0 : Int)).toNat = 0 from rfl] at hx243_0)
  (try rw [show 0 * 3 = 0 from rfl] at hx243_0)
  (try rw [Addr.add_zero'] at hx243_0)
  (try rw [show ((0 : Int)).toNat = 0 from rfl] at hx243_1)
  (try rw [show 0 * 3 = 0 from rfl] at hx243_1)
  (try rw [Addr.add_zero'] at hx243_1)
  (try rw [show ((0 : Int)).toNat = 0 from rfl] at hx243_2)
  (try rw [show 0 * 3 = 0 from rfl] at hx243_2)
  (try rw [Addr.add_zero'] at hx243_2)
  have HR243_0 := Aside0.mk hi243_0
  have HC243_0 := Aside0.mk hl243_0
  clear hi243_0 hl243_0
  replace p243 := eq_true p243
  replace q243 := eq_true q243
  have RX243_0 := Aside0.mk hx243_0
  clear hx243_0
  have RX243_1 := Aside0.mk hx243_1
  clear hx243_1
  have RX243_2 := Aside0.mk hx243_2
  clear hx243_2
  go_enter Try.func36, Try.ntmps36
  go_wp2
  go_loopg [4, 5, 6] k (fun kq v4 v5 v6 w' => ∃ (x4_1 : Int) (x5_1 : Int) (x6_1 : Int), v4 = .int .i64 x4_1 ∧ v5 = .int .i64 x5_1 ∧ v6 = .int .i64 x6_1 ∧ Aside0 (spec_l17Moments.l0 kq l0 x4_1 x5_1 x6_1 = some (r1, r2)) ∧ Aside0 (kq ≤ k) ∧ Aside0 (Below w.heap.size w w'))
  case atStart => exact ⟨(0), (0), (0), (by first | rfl | (simp; done) | (simp [*]; done)), (by first | rfl | (simp; done) | (simp [*]; done)), (by first | rfl | (simp; done) | (simp [*]; done)), H', ⟨Nat.le_refl _⟩, ⟨by repeat (first | (with_reducible first | exact HB.out | apply below_alloc | apply pw_below_drewN | apply below_drew1) | exact HB.out)⟩⟩
  case round =>
   clear H'
   try clear c2
   try clear c2b0
   try clear c2b1
   try clear p2
   try clear q2
   try clear hx2
   try clear qi2
   try clear hx243_0
   try clear hx243_1
   try clear hx243_2
   try clear p243
   try clear q243
   obtain ⟨x4_1, x5_1, x6_1, rfl, rfl, rfl, HA, HK1, HB⟩ := hrel
   cases gk with
   | zero => exact absurd HA.out (by simp [spec_l17Moments.l0])
   | succ k1 =>
    have H := HA.out
    clear HA
    simp only [spec_l17Moments.l0] at H
    by_cases c3 : x6_1 < (((rd_T29 l0 0).f0).length : Int)
    ·rw [if_pos c3] at H
     have c3b0 : decide (x6_1 < (((rd_T29 l0 0).f0).length : Int)) = true := decide_eq_true c3
     clear c3
     by_cases c4 : 0 ≤ x6_1
     ·rw [if_pos c4] at H
      have c4b0 : decide (0 ≤ x6_1) = true := decide_eq_true c4
      clear c4
      obtain ⟨bq5, hbq5⟩ : ∃ b_ : Bool, b_ = ((rd_T54 ((rd_T29 l0 0).f0) x6_1).f2) := ⟨_, rfl⟩
      replace H : (if bq5 = true then ((spec_l13Moments.f k1 ((rd_T54 ((rd_T29 l0 0).f0) x6_1).f1)).bind fun bt249 => (spec_l17Moments.l0 k1 l0 (wrap64 (x4_1 + bt249.1)) (wrap64 (x5_1 + bt249.2)) (wrap64 (x6_1 + 1)))) else (spec_l17Moments.l0 k1 l0 x4_1 x5_1 (wrap64 (x6_1 + 1)))) = some (r1, r2) := by rw [← hbq5] at H; exact H
      have Nbq5 := Aside0.mk hbq5
      clear hbq5
      by_cases c6 : bq5 = true
      ·subst c6
       have H1 : ((spec_l13Moments.f k1 ((rd_T54 ((rd_T29 l0 0).f0) x6_1).f1)).bind fun bt249 => (spec_l17Moments.l0 k1 l0 (wrap64 (x4_1 + bt249.1)) (wrap64 (x5_1 + bt249.2)) (wrap64 (x6_1 + 1)))) = some (r1, r2) := by rw [if_pos rfl] at H; exact H
       clear H
       have H := H1
       clear H1
       replace H := Option.bind_eq_some_iff.mp H
       obtain ⟨⟨t249, t250⟩, A70, H⟩ := H
       replace H : (spec_l17Moments.l0 k1 l0 (wrap64 (x4_1 + t249)) (wrap64 (x5_1 + t250)) (wrap64 (x6_1 + 1))) = some (r1, r2) := H
       have A7 := Aside0.mk A70
       clear A70
       have H' := Aside0.mk H
       clear H
       (try have hx244_0 := bC HB RX243_0.out)
       (try have hx244_1 := bC HB RX243_1.out)
       (try have hx244_2 := bC HB RX243_2.out)
       (try have hx245_0 := bC HB RX243_0.out)
       (try have hx245_1 := bC HB RX243_1.out)
       (try have hx245_2 := bC HB RX243_2.out)
       have p246 : 0 ≤ (x6_1 : Int) := of_decide_eq_true (by first | (with_reducible assumption) | assumption)
       have q246 : x6_1 < (((rd_T29 l0 0).f0).length : Int) := of_decide_eq_true (by first | (with_reducible assumption) | assumption)
       obtain ⟨ad246, A246_1, c246_1, e246, hx246_0, hx246_1, hx246_2, hl246_1, hi246_1⟩ := at_T54 HR243_0.out x6_1 p246 q246
       (try rw [← Nbq5.out] at hx246_2)
       cases e246
       replace hx246_0 := bC HB hx246_0
       replace hx246_1 := bC HB hx246_1
       replace hx246_2 := bC HB hx246_2
       have HR246_1 := Aside0.mk hi246_1
       have HC246_1 := Aside0.mk hl246_1
       clear hi246_1 hl246_1
       replace p246 := eq_true p246
       replace q246 := eq_true q246
       (try have hx247_0 := bC HB RX243_0.out)
       (try have hx247_1 := bC HB RX243_1.out)
       (try have hx247_2 := bC HB RX243_2.out)
       have p248 : 0 ≤ (x6_1 : Int) := of_decide_eq_true (by first | (with_reducible assumption) | assumption)
       have q248 : x6_1 < (((rd_T29 l0 0).f0).length : Int) := of_decide_eq_true (by first | (with_reducible assumption) | assumption)
       obtain ⟨ad248, A248_1, c248_1, e248, hx248_0, hx248_1, hx248_2, hl248_1, hi248_1⟩ := at_T54 HR243_0.out x6_1 p248 q248
       (try rw [← Nbq5.out] at hx248_2)
       obtain rfl : ad246 = ad248 := (by injection e248)
       replace hx248_0 := bC HB hx248_0
       replace hx248_1 := bC HB hx248_1
       replace hx248_2 := bC HB hx248_2
       have HR248_1 := Aside0.mk hi248_1
       have HC248_1 := Aside0.mk hl248_1
       clear hi248_1 hl248_1
       replace p248 := eq_true p248
       replace q248 := eq_true q248
       have ea_ := Option.some.inj (hx246_1.symm.trans hx248_1)
       injection ea_ with ea_ en_ ec_
       subst ea_
       subst ec_
       clear en_
       go_wp2_with (first | ((with_reducible refine gate_callee (f := 57) rfl ?_); refine goesL_ (some 35) rfl rfl Try.func57 (by kernel_rfl) rfl #[.slice A246_1 ((rd_T54 ((rd_T29 l0 0).f0) x6_1).f1).length c246_1] rfl (by (try simp only [List.map_toArray, List.map_cons, List.map_nil]); first | done | rfl | (simp only [List.length_drop, List.length_take]; rfl)) ?_; (with_reducible refine (spec_l13Moments.calls k1 _ _ ((rd_T54 ((rd_T29 l0 0).f0) x6_1).f1) t249 t250 _ ?side1 ?side2 A7.out).mono ?_); (case side1 => repeat (first | exact (Kd.C_below HR248_1.out HB.out) | (with_reducible refine Kd.C_alloc ?_ _) | (with_reducible refine Kd.C_drewN ?_ _) | (with_reducible refine Kd.C_drew ?_))); (case side2 => exact HC248_1.out); rintro e w8 ⟨rfl, hb⟩; refine ⟨_, rfl, ?_⟩; have n0_ := pS HB hb; clear HB; have HB := n0_; clear n0_; (try clear hb); (try clear hb2); (try clear hk); (try clear hi)))
       go_roundg k1
       case measure => have := HK1.out; omega
       case rel => exact ⟨(wrap64 (x4_1 + t249)), (wrap64 (x5_1 + t250)), (wrap64 (x6_1 + 1)), (by first | rfl | (simp; done) | (simp [*]; done)), (by first | rfl | (simp; done) | (simp [*]; done)), (by first | rfl | (simp; done) | (simp [*]; done)), H', ⟨by have := HK1.out; omega⟩, ⟨by repeat (first | (with_reducible first | exact HB.out | apply below_alloc | apply pw_below_drewN | apply below_drew1) | exact HB.out)⟩⟩
      ·replace c6 := Bool.eq_false_iff.mpr c6
       subst c6
       have H1 : (spec_l17Moments.l0 k1 l0 x4_1 x5_1 (wrap64 (x6_1 + 1))) = some (r1, r2) := by rw [if_neg (show ¬ (false = true) by decide)] at H; exact H
       clear H
       have H := H1
       clear H1
       have H' := Aside0.mk H
       clear H
       (try have hx244_0 := bC HB RX243_0.out)
       (try have hx244_1 := bC HB RX243_1.out)
       (try have hx244_2 := bC HB RX243_2.out)
       (try have hx245_0 := bC HB RX243_0.out)
       (try have hx245_1 := bC HB RX243_1.out)
       (try have hx245_2 := bC HB RX243_2.out)
       have p246 : 0 ≤ (x6_1 : Int) := of_decide_eq_true (by first | (with_reducible assumption) | assumption)
       have q246 : x6_1 < (((rd_T29 l0 0).f0).length : Int) := of_decide_eq_true (by first | (with_reducible assumption) | assumption)
       obtain ⟨ad246, A246_1, c246_1, e246, hx246_0, hx246_1, hx246_2, hl246_1, hi246_1⟩ := at_T54 HR243_0.out x6_1 p246 q246
       (try rw [← Nbq5.out] at hx246_2)
       cases e246
       replace hx246_0 := bC HB hx246_0
       replace hx246_1 := bC HB hx246_1
       replace hx246_2 := bC HB hx246_2
       have HR246_1 := Aside0.mk hi246_1
       have HC246_1 := Aside0.mk hl246_1
       clear hi246_1 hl246_1
       replace p246 := eq_true p246
       replace q246 := eq_true q246
       go_wp2
       go_roundg k1
       case measure => have := HK1.out; omega
       case rel => exact ⟨(x4_1), (x5_1), (wrap64 (x6_1 + 1)), (by first | rfl | (simp; done) | (simp [*]; done)), (by first | rfl | (simp; done) | (simp [*]; done)), (by first | rfl | (simp; done) | (simp [*]; done)), H', ⟨by have := HK1.out; omega⟩, ⟨by repeat (first | (with_reducible first | exact HB.out | apply below_alloc | apply pw_below_drewN | apply below_drew1) | exact HB.out)⟩⟩
     ·rw [if_neg c4] at H
      exact absurd H (by simp)
    ·rw [if_neg c3] at H
     have c3b0 : decide (x6_1 < (((rd_T29 l0 0).f0).length : Int)) = false := decide_eq_false c3
     clear c3
     simp only [Option.some.injEq, Prod.mk.injEq] at H
     obtain ⟨rfl, rfl⟩ := H
     (try have hx244_0 := bC HB RX243_0.out)
     (try have hx244_1 := bC HB RX243_1.out)
     (try have hx244_2 := bC HB RX243_2.out)
     go_wp2
     go_ret2
     exact ⟨by first | rfl | (simp [errW_none, errW_some] <;> rfl) | (simp [*, errW_none, errW_some] <;> rfl), pR HB⟩
 ·rw [if_neg c2] at H
  exact absurd H (by simp)

/-! ### spec_l17Lead: function 40 -/
def spec_l17Lead.f (k : Nat) (l0 : List (S29)) : Option (Int × Int) := if 0 < (l0.length : Int) then ((spec_l17Moments.f k l0).bind fun bt252 => ((spec_l17Area.f k l0).bind fun t254 => (some (wrap64 (bt252.1 - (wrap64 (((rd_T29 l0 0).f1) * (wrap64 (3 * t254))))), wrap64 (3 * t254))))) else (none)
theorem spec_l17Lead.mono : ∀ a0 k, LeO (spec_l17Lead.f k a0) (spec_l17Lead.f (k + 1) a0) := by
 intro a0 k
 unfold spec_l17Lead.f
 repeat' first
   | (with_reducible exact spec_l17Area.mono _ _)
   | (with_reducible exact spec_l17Moments.mono _ _)
   | (with_reducible exact LeO.refl _)
   | (with_reducible exact LeO.none _)
   | (with_reducible refine LeO.ite ?_ ?_)
   | (with_reducible refine LeO.bind ?_ (fun _ => ?_))
   | exact spec_l17Area.mono _ _
   | exact spec_l17Moments.mono _ _
   | exact LeO.none _
   | refine LeO.ite ?_ ?_
   | refine LeO.bind ?_ (fun _ => ?_)
set_option maxHeartbeats 8000000 in
set_option maxRecDepth 100000 in
theorem spec_l17Lead.calls (k : Nat) (A0 : Option Addr) (c0 : Nat) (l0 : List (S29)) (r1 : Int) (r2 : Int) (w : World) (hr0 : Kd.C k29 w A0 l0.length l0) (hc0 : l0.length ≤ c0) (h : spec_l17Lead.f k l0 = some (r1, r2)) :
  Calls Try.prog 40 #[.pointer A0] w fun e w' => e = .returned (.tuple #[.int .i64 r1, .int .i64 r2]) ∧ Below w.heap.size w w' := by
 have HR0 := Aside0.mk hr0
 have HC0 := Aside0.mk hc0
 clear hr0 hc0
 have HB := Aside0.mk (Below.refl w.heap.size w)
 have H : (if 0 < (l0.length : Int) then ((spec_l17Moments.f k l0).bind fun bt252 => ((spec_l17Area.f k l0).bind fun t254 => (some (wrap64 (bt252.1 - (wrap64 (((rd_T29 l0 0).f1) * (wrap64 (3 * t254))))), wrap64 (3 * t254))))) else (none)) = some (r1, r2) := h
 clear h
 by_cases c2 : 0 < (l0.length : Int)
 ·rw [if_pos c2] at H
  have c2b0 : decide (0 < (l0.length : Int)) = true := decide_eq_true c2
  have c2b1 : decide (0 < l0.length) = true := decide_eq_true (by omega)
  clear c2
  replace H := Option.bind_eq_some_iff.mp H
  obtain ⟨⟨t252, t253⟩, A30, H⟩ := H
  replace H : ((spec_l17Area.f k l0).bind fun t254 => (some (wrap64 (t252 - (wrap64 (((rd_T29 l0 0).f1) * (wrap64 (3 * t254))))), wrap64 (3 * t254)))) = some (r1, r2) := H
  have A3 := Aside0.mk A30
  clear A30
  replace H := Option.bind_eq_some_iff.mp H
  obtain ⟨t254, A40, H⟩ := H
  replace H : (some (wrap64 (t252 - (wrap64 (((rd_T29 l0 0).f1) * (wrap64 (3 * t254))))), wrap64 (3 * t254))) = some (r1, r2) := H
  have A4 := Aside0.mk A40
  clear A40
  simp only [Option.some.injEq, Prod.mk.injEq] at H
  obtain ⟨rfl, rfl⟩ := H
  have p251 : 0 ≤ (0 : Int) := (by omega)
  have q251 : 0 < (l0.length : Int) := of_decide_eq_true (by first | (with_reducible assumption) | assumption)
  obtain ⟨ad251, A251_0, c251_0, e251, hx251_0, hx251_1, hx251_2, hl251_0, hi251_0⟩ := at_T29 HR0.out 0 p251 q251
  cases e251
  have qi251 : (0 < l0.length) = True := eq_true (by omega)
  (try rw [show ((0 : Int)).toNat = 0 from rfl] at hx251_0)
  (try rw [show 0 * 3 = 0 from rfl] at hx251_0)
  (try rw [Addr.add_zero'] at hx251_0)
  (try rw [show ((0 : Int)).toNat = 0 from rfl] at hx251_1)
  (try rw [show 0 * 3 = 0 from rfl] at hx251_1)
  (try rw [Addr.add_zero'] at hx251_1)
  (try rw [show ((0 : Int)).toNat = 0 from rfl] at hx251_2)
  (try rw [show 0 * 3 = 0 from rfl] at hx251_2)
  (try rw [Addr.add_zero'] at hx251_2)
  have HR251_0 := Aside0.mk hi251_0
  have HC251_0 := Aside0.mk hl251_0
  clear hi251_0 hl251_0
  replace p251 := eq_true p251
  replace q251 := eq_true q251
  have RX251_0 := Aside0.mk hx251_0
  clear hx251_0
  have RX251_1 := Aside0.mk hx251_1
  clear hx251_1
  have RX251_2 := Aside0.mk hx251_2
  clear hx251_2
  go_enter Try.func40, Try.ntmps40
  go_wp2_with (first | ((with_reducible refine gate_callee (f := 36) rfl ?_); refine goesL_ (some 9) rfl rfl Try.func36 (by kernel_rfl) rfl #[.pointer (some ad251)] rfl (by (try simp only [List.map_toArray, List.map_cons, List.map_nil]); first | done | rfl | (simp only [List.length_drop, List.length_take]; rfl)) ?_; (with_reducible refine (spec_l17Moments.calls k _ c0 l0 t252 t253 _ ?side1 ?side2 A3.out).mono ?_); (case side1 => repeat (first | exact HR0.out | (with_reducible refine Kd.C_alloc ?_ _) | (with_reducible refine Kd.C_drewN ?_ _) | (with_reducible refine Kd.C_drew ?_))); (case side2 => exact HC0.out); rintro e w5 ⟨rfl, hb⟩; refine ⟨_, rfl, ?_⟩; have n0_ := pS HB hb; clear HB; have HB := n0_; clear n0_; (try clear hb); (try clear hb2); (try clear hk); (try clear hi)) | ((with_reducible refine gate_callee (f := 33) rfl ?_); refine goesL_ (some 13) rfl rfl Try.func33 (by kernel_rfl) rfl #[.pointer (some ad251)] rfl (by (try simp only [List.map_toArray, List.map_cons, List.map_nil]); first | done | rfl | (simp only [List.length_drop, List.length_take]; rfl)) ?_; (with_reducible refine (spec_l17Area.calls k _ c0 l0 t254 _ ?side1 ?side2 A4.out).mono ?_); (case side1 => repeat (first | exact (Kd.C_below HR0.out HB.out) | (with_reducible refine Kd.C_alloc ?_ _) | (with_reducible refine Kd.C_drewN ?_ _) | (with_reducible refine Kd.C_drew ?_))); (case side2 => exact HC0.out); rintro e w6 ⟨rfl, hb⟩; refine ⟨_, rfl, ?_⟩; have n0_ := pS HB hb; clear HB; have HB := n0_; clear n0_; (try clear hb); (try clear hb2); (try clear hk); (try clear hi); (try have hx255_0 := bC HB RX251_0.out); (try have hx255_1 := bC HB RX251_1.out); (try have hx255_2 := bC HB RX251_2.out)))
  go_ret2
  exact ⟨by first | rfl | (simp [errW_none, errW_some] <;> rfl) | (simp [*, errW_none, errW_some] <;> rfl), pR HB⟩
 ·rw [if_neg c2] at H
  exact absurd H (by simp)

/-! ### spec_LeadOf: function 21 -/
def spec_LeadOf.f (k : Nat) (l0_0 : List (S54)) (a0_1 : Int) (a0_2 : Int) : Option (Int × Int × Int) := (spec_l17Code.f k [(⟨l0_0, a0_1, a0_2⟩ : S29)]).bind fun t259 => (if t259 = 0 then ((spec_l17Lead.f k [(⟨l0_0, a0_1, a0_2⟩ : S29)]).bind fun bt261 => ((spec_l01Make.f k bt261.1 bt261.2).bind fun bt263 => (some (bt263.1, bt263.2, 0)))) else (some (0, 0, t259)))
theorem spec_LeadOf.mono : ∀ a0 a1 a2 k, LeO (spec_LeadOf.f k a0 a1 a2) (spec_LeadOf.f (k + 1) a0 a1 a2) := by
 intro a0 a1 a2 k
 unfold spec_LeadOf.f
 repeat' first
   | (with_reducible exact spec_l01Make.mono _ _ _)
   | (with_reducible exact spec_l17Code.mono _ _)
   | (with_reducible exact spec_l17Lead.mono _ _)
   | (with_reducible exact LeO.refl _)
   | (with_reducible exact LeO.none _)
   | (with_reducible refine LeO.ite ?_ ?_)
   | (with_reducible refine LeO.bind ?_ (fun _ => ?_))
   | exact spec_l01Make.mono _ _ _
   | exact spec_l17Code.mono _ _
   | exact spec_l17Lead.mono _ _
   | exact LeO.none _
   | refine LeO.ite ?_ ?_
   | refine LeO.bind ?_ (fun _ => ?_)
set_option maxHeartbeats 8000000 in
set_option maxRecDepth 100000 in
theorem spec_LeadOf.calls (k : Nat) (A0_0 : Option Addr) (c0_0 : Nat) (l0_0 : List (S54)) (a0_1 : Int) (a0_2 : Int) (r1 : Int) (r2 : Int) (r3 : Int) (w : World) (hr0_0 : Kd.C k54 w A0_0 l0_0.length l0_0) (hc0_0 : l0_0.length ≤ c0_0) (h : spec_LeadOf.f k l0_0 a0_1 a0_2 = some (r1, r2, r3)) :
  Calls Try.prog 21 #[.agg #[.slice A0_0 l0_0.length c0_0, .int .i64 a0_1, .int .i64 a0_2]] w fun e w' => e = .returned (.tuple #[.agg #[.int .i64 r1, .int .i64 r2], .int .i64 r3]) ∧ Below w.heap.size w w' := by
 have hu29 := Try.underlying29
 have hu36 := Try.underlying36
 have HR0_0 := Aside0.mk hr0_0
 have HC0_0 := Aside0.mk hc0_0
 clear hr0_0 hc0_0
 have HB := Aside0.mk (Below.refl w.heap.size w)
 have H : ((spec_l17Code.f k [(⟨l0_0, a0_1, a0_2⟩ : S29)]).bind fun t259 => (if t259 = 0 then ((spec_l17Lead.f k [(⟨l0_0, a0_1, a0_2⟩ : S29)]).bind fun bt261 => ((spec_l01Make.f k bt261.1 bt261.2).bind fun bt263 => (some (bt263.1, bt263.2, 0)))) else (some (0, 0, t259)))) = some (r1, r2, r3) := h
 clear h
 replace H := Option.bind_eq_some_iff.mp H
 obtain ⟨t259, A20, H⟩ := H
 replace H : (if t259 = 0 then ((spec_l17Lead.f k [(⟨l0_0, a0_1, a0_2⟩ : S29)]).bind fun bt261 => ((spec_l01Make.f k bt261.1 bt261.2).bind fun bt263 => (some (bt263.1, bt263.2, 0)))) else (some (0, 0, t259))) = some (r1, r2, r3) := H
 have A2 := Aside0.mk A20
 clear A20
 have HF_ := Aside0.mk H
 clear H
 go_enter Try.func21, Try.ntmps21
 go_upto_if 9 with (first | ((with_reducible refine gate_dst (N := 1) rfl ?_); refine box_event ?hg (N := 1) ?hd (cs := #[.slice A0_0 l0_0.length c0_0, .int .i64 a0_1, .int .i64 a0_2]) (t := 29) ?hr ?_; (case hd => rfl); (case hg => rfl); (case hr => first | (go_simp; done) | (go_simp; rfl)); intro gb256 hg w3 hbox hb; have n0_ := pS HB hb; have n1_ := Aside0.mk (hbox); have n2_ := pG HB hg; have n3_ := pG HB hg; clear HB; have HB := n0_; have BK256 := n1_; have GW256 := n2_; have GE256 := n3_; clear n0_ n1_ n2_ n3_; clear hb hbox hg) | ((with_reducible refine gate_dst (N := 2) rfl ?_); refine box_event ?hg (N := 2) ?hd (cs := #[.int .i64 0, .int .i64 0]) (t := 36) ?hr ?_; (case hd => rfl); (case hg => rfl); (case hr => first | (go_simp; done) | (go_simp; rfl)); intro gb257 hg w4 hbox hb; have n0_ := pB BK256 hb; have n1_ := pS HB hb; have n2_ := Aside0.mk (hbox); have n3_ := pG HB hg; have n4_ := pG HB hg; have n5_ := pN BK256 hg; have n6_ := pM BK256 hg; clear BK256 HB; have BK256 := n0_; have HB := n1_; have BK257 := n2_; have GW257 := n3_; have GE257 := n4_; have NB256_257 := n5_; have NB257_256 := n6_; clear n0_ n1_ n2_ n3_ n4_ n5_ n6_; clear hb hbox hg) | ((with_reducible refine gate_callee (f := 39) rfl ?_); refine goesL_ (some 7) rfl rfl Try.func39 (by kernel_rfl) rfl #[.pointer (some ⟨gb256, 0, none⟩)] rfl (by (try simp only [List.map_toArray, List.map_cons, List.map_nil]); first | done | rfl | (simp only [List.length_drop, List.length_take]; rfl)) ?_; (with_reducible refine (spec_l17Code.calls k _ 1 [(⟨l0_0, a0_1, a0_2⟩ : S29)] t259 _ ?side1 ?side2 A2.out).mono ?_); (case side1 => exact ro_box (t := 29) (cs := [.slice A0_0 l0_0.length c0_0, .int .i64 a0_1, .int .i64 a0_2]) (by (with_reducible repeat (first | refine blk_drewN ?_ _ | refine blk_drew ?_ | refine blk_alloc ?_ _)); exact BK256.out) (k29_mk _ ((⟨l0_0, a0_1, a0_2⟩ : S29)) (by exact HC0_0.out) (by repeat (first | exact (Kd.C_below HR0_0.out HB.out) | (with_reducible refine Kd.C_alloc ?_ _) | (with_reducible refine Kd.C_drewN ?_ _) | (with_reducible refine Kd.C_drew ?_)))) rfl); (case side2 => exact Nat.le_refl _); rintro e w5 ⟨rfl, hb⟩; refine ⟨_, rfl, ?_⟩; have n0_ := pB BK256 hb; have n1_ := pB BK257 hb; have n2_ := pS HB hb; clear BK256 BK257 HB; have BK256 := n0_; have BK257 := n1_; have HB := n2_; clear n0_ n1_ n2_; (try clear hb); (try clear hb2); (try clear hk); (try clear hi)))
 (try simp only [Act.put, List.setIfInBounds_toArray, List.set_cons_zero, List.set_cons_succ])
 have H := HF_.out
 clear HF_
 by_cases c6 : t259 = 0
 ·rw [if_pos c6] at H
  have c6b0 : (t259 == 0) = true := beq_iff_eq.mpr c6
  have c6b1 : (t259 != 0) = false := bne_eq_false_iff_eq.mpr c6
  clear c6
  (first | rw [c6b0] | (simp only [i64_w, i32_w]; rw [c6b0]) | skip)
  replace H := Option.bind_eq_some_iff.mp H
  obtain ⟨⟨t261, t262⟩, A70, H⟩ := H
  replace H : ((spec_l01Make.f k t261 t262).bind fun bt263 => (some (bt263.1, bt263.2, 0))) = some (r1, r2, r3) := H
  have A7 := Aside0.mk A70
  clear A70
  replace H := Option.bind_eq_some_iff.mp H
  obtain ⟨⟨t263, t264⟩, A80, H⟩ := H
  replace H : (some (t263, t264, 0)) = some (r1, r2, r3) := H
  have A8 := Aside0.mk A80
  clear A80
  simp only [Option.some.injEq, Prod.mk.injEq] at H
  obtain ⟨rfl, rfl, rfl⟩ := H
  go_wp2_with (first | ((with_reducible refine gate_callee (f := 40) rfl ?_); refine goesL_ (some 13) rfl rfl Try.func40 (by kernel_rfl) rfl #[.pointer (some ⟨gb256, 0, none⟩)] rfl (by (try simp only [List.map_toArray, List.map_cons, List.map_nil]); first | done | rfl | (simp only [List.length_drop, List.length_take]; rfl)) ?_; (with_reducible refine (spec_l17Lead.calls k _ 1 [(⟨l0_0, a0_1, a0_2⟩ : S29)] t261 t262 _ ?side1 ?side2 A7.out).mono ?_); (case side1 => exact ro_box (t := 29) (cs := [.slice A0_0 l0_0.length c0_0, .int .i64 a0_1, .int .i64 a0_2]) (by (with_reducible repeat (first | refine blk_drewN ?_ _ | refine blk_drew ?_ | refine blk_alloc ?_ _)); exact BK256.out) (k29_mk _ ((⟨l0_0, a0_1, a0_2⟩ : S29)) (by exact HC0_0.out) (by repeat (first | exact (Kd.C_below HR0_0.out HB.out) | (with_reducible refine Kd.C_alloc ?_ _) | (with_reducible refine Kd.C_drewN ?_ _) | (with_reducible refine Kd.C_drew ?_)))) rfl); (case side2 => exact Nat.le_refl _); rintro e w9 ⟨rfl, hb⟩; refine ⟨_, rfl, ?_⟩; have n0_ := pB BK256 hb; have n1_ := pB BK257 hb; have n2_ := pS HB hb; clear BK256 BK257 HB; have BK256 := n0_; have BK257 := n1_; have HB := n2_; clear n0_ n1_ n2_; (try clear hb); (try clear hb2); (try clear hk); (try clear hi)) | ((with_reducible refine gate_callee (f := 37) rfl ?_); refine goesL_ (some 18) rfl rfl Try.func37 (by kernel_rfl) rfl #[.int .i64 t261, .int .i64 t262] rfl (by (try simp only [List.map_toArray, List.map_cons, List.map_nil]); first | done | rfl | (simp only [List.length_drop, List.length_take]; rfl)) ?_; (with_reducible refine (spec_l01Make.calls k t261 t262 t263 t264 _ A8.out).mono ?_); rintro e w10 ⟨rfl, hb⟩; refine ⟨_, rfl, ?_⟩; have n0_ := pB BK256 hb; have n1_ := pB BK257 hb; have n2_ := pS HB hb; clear BK256 BK257 HB; have BK256 := n0_; have BK257 := n1_; have HB := n2_; clear n0_ n1_ n2_; (try clear hb); (try clear hb2); (try clear hk); (try clear hi); have hnb11 := NB257_256.out; have hnc11 := NB256_257.out; obtain ⟨hcz12_0, hcz12_1, hfz12_0, hfz12_1⟩ := cz2 BK257))
  refine bodyPost_ret (results_ct rfl _ _ gb257 36 #[.int .i64 t263, .int .i64 t264] (0, 0) _ rfl (by (with_reducible repeat (first | refine blk_drewN ?_ _ | refine blk_drew ?_ | refine blk_alloc ?_ _)); refine blk_put (cs := #[.int .i64 t263, .int .i64 0]) ?_ 1 _ rfl; (with_reducible repeat (first | refine blk_drewN ?_ _ | refine blk_drew ?_ | refine blk_alloc ?_ _)); refine blk_put (cs := #[.int .i64 0, .int .i64 0]) ?_ 0 _ rfl; (with_reducible repeat (first | refine blk_drewN ?_ _ | refine blk_drew ?_ | refine blk_alloc ?_ _)); exact BK257.out) Try.underlying36 rfl (by kernel_rfl)) rfl ?_
  exact ⟨by first | rfl | (simp [errW_none, errW_some] <;> rfl) | (simp [*, errW_none, errW_some] <;> rfl), pR HB⟩
 ·rw [if_neg c6] at H
  have c6b0 : (t259 == 0) = false := beq_eq_false_iff_ne.mpr c6
  have c6b1 : (t259 != 0) = true := bne_iff_ne.mpr c6
  (first | rw [c6b0] | (simp only [i64_w, i32_w]; rw [c6b0]) | skip)
  simp only [Option.some.injEq, Prod.mk.injEq] at H
  obtain ⟨rfl, rfl, rfl⟩ := H
  have hnb13 := NB257_256.out
  have hnc13 := NB256_257.out
  obtain ⟨hcz14_0, hcz14_1, hfz14_0, hfz14_1⟩ := cz2 BK257
  go_wp2
  refine bodyPost_ret (results_ct rfl _ _ gb257 36 #[.int .i64 0, .int .i64 0] (0, 0) _ rfl (by (with_reducible repeat (first | refine blk_drewN ?_ _ | refine blk_drew ?_ | refine blk_alloc ?_ _)); refine blk_put (cs := #[.int .i64 0, .int .i64 0]) ?_ 1 _ rfl; (with_reducible repeat (first | refine blk_drewN ?_ _ | refine blk_drew ?_ | refine blk_alloc ?_ _)); refine blk_put (cs := #[.int .i64 0, .int .i64 0]) ?_ 0 _ rfl; (with_reducible repeat (first | refine blk_drewN ?_ _ | refine blk_drew ?_ | refine blk_alloc ?_ _)); exact BK257.out) Try.underlying36 rfl (by kernel_rfl)) rfl ?_
  exact ⟨by first | rfl | (simp [errW_none, errW_some] <;> rfl) | (simp [*, errW_none, errW_some] <;> rfl), pR HB⟩

/-! ### impl_within: function 28 -/
def impl_within.f (a0 : Int) (a1 : Int) (a2 : Int) : Option (Bool) := if a0 ≥ a1 then (some (decide (a0 ≤ a2))) else (some false)
set_option maxHeartbeats 8000000 in
set_option maxRecDepth 100000 in
theorem impl_within.calls (a0 : Int) (a1 : Int) (a2 : Int) (r : Bool) (w : World) (h : impl_within.f a0 a1 a2 = some r) :
  Calls Try.prog 28 #[.int .i64 a0, .int .i64 a1, .int .i64 a2] w fun e w' => e = .returned (.bool r) ∧ Drawn0 w w' := by
 have H : (if a0 ≥ a1 then (some (decide (a0 ≤ a2))) else (some false)) = some r := h
 clear h
 by_cases c4 : a0 ≥ a1
 ·rw [if_pos c4] at H
  have c4b0 : decide (a1 ≤ a0) = true := decide_eq_true c4
  clear c4
  obtain rfl := Option.some.inj H
  simp only [Option.some.injEq, Prod.mk.injEq] at H
  obtain ⟨rfl⟩ := H
  go_enter Try.func28, Try.ntmps28
  go_wp2
  go_ret
  exact ⟨by first | rfl | (simp; done) | (simp [*]; done), by repeat (first | exact Drawn0.refl _ | apply Drawn0.step)⟩
 ·rw [if_neg c4] at H
  have c4b0 : decide (a1 ≤ a0) = false := decide_eq_false c4
  clear c4
  obtain rfl := Option.some.inj H
  simp only [Option.some.injEq, Prod.mk.injEq] at H
  obtain ⟨rfl⟩ := H
  go_enter Try.func28, Try.ntmps28
  go_wp2
  go_ret
  exact ⟨by first | rfl | (simp; done) | (simp [*]; done), by repeat (first | exact Drawn0.refl _ | apply Drawn0.step)⟩

end Go.Proofs.Ytnfgijackilcjaa.PFnExactLeadOf
