-- Written by a program of this session (wip/tools/pp.sh).
import Derived.Test.YtlphfgbeeckjnaaPFnExactBestSailsx0
import Derived.Test.YtlphfgbeeckjnaaPFnExactBestSailsx11
import Derived.Test.YtlphfgbeeckjnaaPFnExactBestSailsx16
import Derived.Test.YtlphfgbeeckjnaaPFnExactBestSailsx17
import Derived.Test.YtlphfgbeeckjnaaPFnExactBestSailsx18
namespace Go.Proofs.Ytlphfgbeeckjnaa.PFnExactBestSails
open Go.RowKit Go.Proofs.YtlphfgbeeckjnaaW.PrintWords Go.Proofs.YtlphfgbeeckjnaaW.PrintLast Go.Proofs.YtlphfgbeeckjnaaW.PrintMore Go.Proofs.Ytlphfgbeeckjnaa.Small
open Bool renaming true → T, false → F
attribute [local go_sem] max2_int min2_int max_two min_two max_three min_three max_four min_four   -- for this text's walks alone
set_option linter.unusedVariables false
set_option linter.unusedSimpArgs false

/-! ### impl_BestSails: function 53 -/
mutual
def impl_BestSails.j0 : Nat → Int → Int → Int → Bool → List (S79) → Int → Int → Option (List ByteArray × Int)
 | 0, _, _, _, _, _, _, _ => none
 | k + 1, x1, x2, x3, x38, x383000, x383001, x383002 => if x38 = true then (some (([] : List ByteArray), 2)) else (impl_BestSails.l0 k x1 x2 x3 (-1) 0 0 x383000 x383001 x383002)
def impl_BestSails.l0 : Nat → Int → Int → Int → Int → Int → Int → List (S79) → Int → Int → Option (List ByteArray × Int)
 | 0, _, _, _, _, _, _, _, _, _ => none
 | k + 1, x1, x2, x3, x10, x11, x12, x383000, x383001, x383002 => if x12 < (shl .i64 1 (x383000.length : Int)) then ((impl_withSet.f k x383000 x383001 x383002 x12).bind fun bt385 => ((impl_planSums.f k bt385.1 bt385.2.1 bt385.2.2).bind fun bt391 => (if bt391.1 ≤ x1 then ((impl_helmOf.f k bt385.1 bt385.2.1 bt385.2.2 x2 x3).bind fun t394 => (if t394.toList = ([98, 97, 108, 97, 110, 99, 101, 100] : List UInt8) then (if x10 < 0 then (impl_BestSails.l0 k x1 x2 x3 x12 bt391.1 (wrap64 (x12 + 1)) x383000 x383001 x383002) else (if bt391.1 > x11 then (impl_BestSails.l0 k x1 x2 x3 x12 bt391.1 (wrap64 (x12 + 1)) x383000 x383001 x383002) else (impl_BestSails.l0 k x1 x2 x3 x10 x11 (wrap64 (x12 + 1)) x383000 x383001 x383002))) else (impl_BestSails.l0 k x1 x2 x3 x10 x11 (wrap64 (x12 + 1)) x383000 x383001 x383002))) else (impl_BestSails.l0 k x1 x2 x3 x10 x11 (wrap64 (x12 + 1)) x383000 x383001 x383002)))) else (if x10 < 0 then (some (([] : List ByteArray), 3)) else (impl_BestSails.l1 k x10 (([] : List ByteArray)) x383000 (x383000.length : Int) 0))
def impl_BestSails.l1 : Nat → Int → List ByteArray → List (S79) → Int → Int → Option (List ByteArray × Int)
 | 0, _, _, _, _, _ => none
 | k + 1, x10, x17, x81, x82, x83 => if x83 < x82 then (if 0 ≤ x83 then (if x83 < (x81.length : Int) then (if (Go.bits .and .i64 (shr .i64 x10 x83) 1) = 1 then (if x17.length < 8796093022208 then (impl_BestSails.l1 k x10 (x17 ++ [(rd_T79 x81 x83).f0]) x81 x82 (wrap64 (x83 + 1))) else (none)) else (impl_BestSails.l1 k x10 x17 x81 x82 (wrap64 (x83 + 1)))) else (none)) else (none)) else (some (x17, 0))
end
def impl_BestSails.f (k : Nat) (l0_0 : List (S79)) (a0_1 : Int) (a0_2 : Int) (a1 : Int) (a2 : Int) (a3 : Int) : Option (List ByteArray × Int) := (impl_ValidPlan.f k l0_0 a0_1 a0_2).bind fun t383 => (if t383 = true then (if a2 < (-1000) then (impl_BestSails.j0 k a1 a2 a3 true l0_0 a0_1 a0_2) else (if a2 > a3 then (impl_BestSails.j0 k a1 a2 a3 true l0_0 a0_1 a0_2) else (if a3 > 1000 then (impl_BestSails.j0 k a1 a2 a3 true l0_0 a0_1 a0_2) else ((impl_within.f a1 0 100000000).bind fun t384 => (impl_BestSails.j0 k a1 a2 a3 (!t384) l0_0 a0_1 a0_2))))) else (some (([] : List ByteArray), 1)))
theorem impl_BestSails.mono_l : ∀ k, (∀ y0 y1 y2 y3 y4 y5 y6, LeO (impl_BestSails.j0 k y0 y1 y2 y3 y4 y5 y6) (impl_BestSails.j0 (k + 1) y0 y1 y2 y3 y4 y5 y6)) ∧ (∀ y0 y1 y2 y3 y4 y5 y6 y7 y8, LeO (impl_BestSails.l0 k y0 y1 y2 y3 y4 y5 y6 y7 y8) (impl_BestSails.l0 (k + 1) y0 y1 y2 y3 y4 y5 y6 y7 y8)) ∧ (∀ y0 y1 y2 y3 y4, LeO (impl_BestSails.l1 k y0 y1 y2 y3 y4) (impl_BestSails.l1 (k + 1) y0 y1 y2 y3 y4))
 | 0 => ⟨fun _ _ _ _ _ _ _ r h => by simp [impl_BestSails.j0] at h, fun _ _ _ _ _ _ _ _ _ r h => by simp [impl_BestSails.l0] at h, fun _ _ _ _ _ r h => by simp [impl_BestSails.l1] at h⟩
 | k + 1 => by
  obtain ⟨ih0, ih1, ih2⟩ := impl_BestSails.mono_l k
  refine ⟨?_, ?_, ?_⟩
  ·intro y0 y1 y2 y3 y4 y5 y6
   unfold impl_BestSails.j0
   repeat' first
   | (with_reducible exact ih0 _ _ _ _ _ _ _)
   | (with_reducible exact ih1 _ _ _ _ _ _ _ _ _)
   | (with_reducible exact ih2 _ _ _ _ _)
   | (with_reducible exact impl_ValidPlan.mono _ _ _ _)
   | (with_reducible exact impl_helmOf.mono _ _ _ _ _ _)
   | (with_reducible exact impl_planSums.mono _ _ _ _)
   | (with_reducible exact impl_withSet.mono _ _ _ _ _)
   | (with_reducible exact LeO.refl _)
   | (with_reducible exact LeO.none _)
   | (with_reducible refine LeO.ite ?_ ?_)
   | (with_reducible refine LeO.bind ?_ (fun _ => ?_))
   | exact ih0 _ _ _ _ _ _ _
   | exact ih1 _ _ _ _ _ _ _ _ _
   | exact ih2 _ _ _ _ _
   | exact impl_ValidPlan.mono _ _ _ _
   | exact impl_helmOf.mono _ _ _ _ _ _
   | exact impl_planSums.mono _ _ _ _
   | exact impl_withSet.mono _ _ _ _ _
   | exact LeO.none _
   | refine LeO.ite ?_ ?_
   | refine LeO.bind ?_ (fun _ => ?_)
  ·intro y0 y1 y2 y3 y4 y5 y6 y7 y8
   unfold impl_BestSails.l0
   repeat' first
   | (with_reducible exact ih0 _ _ _ _ _ _ _)
   | (with_reducible exact ih1 _ _ _ _ _ _ _ _ _)
   | (with_reducible exact ih2 _ _ _ _ _)
   | (with_reducible exact impl_ValidPlan.mono _ _ _ _)
   | (with_reducible exact impl_helmOf.mono _ _ _ _ _ _)
   | (with_reducible exact impl_planSums.mono _ _ _ _)
   | (with_reducible exact impl_withSet.mono _ _ _ _ _)
   | (with_reducible exact LeO.refl _)
   | (with_reducible exact LeO.none _)
   | (with_reducible refine LeO.ite ?_ ?_)
   | (with_reducible refine LeO.bind ?_ (fun _ => ?_))
   | exact ih0 _ _ _ _ _ _ _
   | exact ih1 _ _ _ _ _ _ _ _ _
   | exact ih2 _ _ _ _ _
   | exact impl_ValidPlan.mono _ _ _ _
   | exact impl_helmOf.mono _ _ _ _ _ _
   | exact impl_planSums.mono _ _ _ _
   | exact impl_withSet.mono _ _ _ _ _
   | exact LeO.none _
   | refine LeO.ite ?_ ?_
   | refine LeO.bind ?_ (fun _ => ?_)
  ·intro y0 y1 y2 y3 y4
   unfold impl_BestSails.l1
   repeat' first
   | (with_reducible exact ih0 _ _ _ _ _ _ _)
   | (with_reducible exact ih1 _ _ _ _ _ _ _ _ _)
   | (with_reducible exact ih2 _ _ _ _ _)
   | (with_reducible exact impl_ValidPlan.mono _ _ _ _)
   | (with_reducible exact impl_helmOf.mono _ _ _ _ _ _)
   | (with_reducible exact impl_planSums.mono _ _ _ _)
   | (with_reducible exact impl_withSet.mono _ _ _ _ _)
   | (with_reducible exact LeO.refl _)
   | (with_reducible exact LeO.none _)
   | (with_reducible refine LeO.ite ?_ ?_)
   | (with_reducible refine LeO.bind ?_ (fun _ => ?_))
   | exact ih0 _ _ _ _ _ _ _
   | exact ih1 _ _ _ _ _ _ _ _ _
   | exact ih2 _ _ _ _ _
   | exact impl_ValidPlan.mono _ _ _ _
   | exact impl_helmOf.mono _ _ _ _ _ _
   | exact impl_planSums.mono _ _ _ _
   | exact impl_withSet.mono _ _ _ _ _
   | exact LeO.none _
   | refine LeO.ite ?_ ?_
   | refine LeO.bind ?_ (fun _ => ?_)
theorem impl_BestSails.mono : ∀ a0 a1 a2 a3 a4 a5 k, LeO (impl_BestSails.f k a0 a1 a2 a3 a4 a5) (impl_BestSails.f (k + 1) a0 a1 a2 a3 a4 a5) := by
 intro a0 a1 a2 a3 a4 a5 k; obtain ⟨ih0, ih1, ih2⟩ := impl_BestSails.mono_l k; unfold impl_BestSails.f
 repeat' first
   | (with_reducible exact ih0 _ _ _ _ _ _ _)
   | (with_reducible exact ih1 _ _ _ _ _ _ _ _ _)
   | (with_reducible exact ih2 _ _ _ _ _)
   | (with_reducible exact impl_ValidPlan.mono _ _ _ _)
   | (with_reducible exact impl_helmOf.mono _ _ _ _ _ _)
   | (with_reducible exact impl_planSums.mono _ _ _ _)
   | (with_reducible exact impl_withSet.mono _ _ _ _ _)
   | (with_reducible exact LeO.refl _)
   | (with_reducible exact LeO.none _)
   | (with_reducible refine LeO.ite ?_ ?_)
   | (with_reducible refine LeO.bind ?_ (fun _ => ?_))
   | exact ih0 _ _ _ _ _ _ _
   | exact ih1 _ _ _ _ _ _ _ _ _
   | exact ih2 _ _ _ _ _
   | exact impl_ValidPlan.mono _ _ _ _
   | exact impl_helmOf.mono _ _ _ _ _ _
   | exact impl_planSums.mono _ _ _ _
   | exact impl_withSet.mono _ _ _ _ _
   | exact LeO.none _
   | refine LeO.ite ?_ ?_
   | refine LeO.bind ?_ (fun _ => ?_)
set_option maxHeartbeats 8000000 in
set_option maxRecDepth 100000 in
theorem impl_BestSails.calls (k : Nat) (A0_0 : Option Addr) (c0_0 : Nat) (l0_0 : List (S79)) (a0_1 : Int) (a0_2 : Int) (a1 : Int) (a2 : Int) (a3 : Int) (r1 : List ByteArray) (r2 : Int) (w : World) (hr0_0 : Kd.C k79 w A0_0 l0_0.length l0_0) (hc0_0 : l0_0.length ≤ c0_0) (h : impl_BestSails.f k l0_0 a0_1 a0_2 a1 a2 a3 = some (r1, r2)) :
  Calls Try.prog 53 #[.agg #[.slice A0_0 l0_0.length c0_0, .int .i64 a0_1, .int .i64 a0_2], .int .i64 a1, .int .i64 a2, .int .i64 a3] w fun e w' => ∃ v0_ : Value, e = .returned (.tuple #[v0_, .int .i64 r2]) ∧ Kd.R Kd.string 9 w' w.heap.size (fun _ => True) v0_ r1 ∧ Below w.heap.size w w' := by
 have hu64 := Try.underlying64; have hu79 := Try.underlying79; have HR0_0 := Aside0.mk hr0_0; have HC0_0 := Aside0.mk hc0_0; clear hr0_0 hc0_0; have HB := Aside0.mk (Below.refl w.heap.size w); have H : ((impl_ValidPlan.f k l0_0 a0_1 a0_2).bind fun t383 => (if t383 = true then (if a2 < (-1000) then (impl_BestSails.j0 k a1 a2 a3 true l0_0 a0_1 a0_2) else (if a2 > a3 then (impl_BestSails.j0 k a1 a2 a3 true l0_0 a0_1 a0_2) else (if a3 > 1000 then (impl_BestSails.j0 k a1 a2 a3 true l0_0 a0_1 a0_2) else ((impl_within.f a1 0 100000000).bind fun t384 => (impl_BestSails.j0 k a1 a2 a3 (!t384) l0_0 a0_1 a0_2))))) else (some (([] : List ByteArray), 1)))) = some (r1, r2) := h; clear h; replace H := Option.bind_eq_some_iff.mp H; obtain ⟨t383, A50, H⟩ := H; (try dsimp only at H); have A5 := Aside0.mk A50; clear A50; have HF_ := Aside0.mk H; clear H; (go_enter Try.func53, Try.ntmps53); (go_upto_if 22 with (first | ((with_reducible refine gate_dst (N := 4) rfl ?_); refine box_event ?hg (N := 4) ?hd (cs := #[.slice A0_0 l0_0.length c0_0, .int .i64 a0_1, .int .i64 a0_2]) (t := 64) ?hr ?_; (case hd => rfl); (case hg => rfl); (case hr => first | (go_simp; done) | (go_simp; rfl)); intro gb382 hg w6 hbox hb; have BK382 := Aside0.mk (hbox); have GW382 := pG HB hg; have GE382 := pG HB hg; replace HB := pS HB hb; clear hb hbox hg; obtain ⟨hcz7_0, hcz7_1, hcz7_2, hfz7_0, hfz7_1, hfz7_2⟩ := cz3 BK382) | ((with_reducible refine gate_callee (f := 86) rfl ?_); refine goesL_ (some 21) rfl rfl Try.func86 (by kernel_rfl) rfl #[.agg #[.slice A0_0 l0_0.length c0_0, .int .i64 a0_1, .int .i64 a0_2]] rfl zM ?_; (with_reducible refine (impl_ValidPlan.calls k _ _ l0_0 a0_1 a0_2 t383 _ ?side1 ?side2 A5.out).mono ?_); (case side1 => (refine zC ?_; exact (Kd.C_below HR0_0.out HB.out))); (case side2 => exact HC0_0.out); rintro e w8 ⟨rfl, hb⟩; refine ⟨_, rfl, ?_⟩; replace BK382 := pB BK382 hb; replace HB := pS HB hb; (try clear hb)))); (try simp only [Act.put, List.setIfInBounds_toArray, List.set_cons_zero, List.set_cons_succ]); have H := HF_.out; clear HF_; by_cases c9 : t383 = true
 ·subst c9; (have H1 : (if a2 < (-1000) then (impl_BestSails.j0 k a1 a2 a3 true l0_0 a0_1 a0_2) else (if a2 > a3 then (impl_BestSails.j0 k a1 a2 a3 true l0_0 a0_1 a0_2) else (if a3 > 1000 then (impl_BestSails.j0 k a1 a2 a3 true l0_0 a0_1 a0_2) else ((impl_within.f a1 0 100000000).bind fun t384 => (impl_BestSails.j0 k a1 a2 a3 (!t384) l0_0 a0_1 a0_2))))) = some (r1, r2) := by rw [if_pos rfl] at H; exact H); clear H; have H := H1; clear H1; have HC10 := Aside0.mk H; clear H; (go_upto_region 3 with (fail)); go_cut [38] (fun v38 wc => ∃ (kq : Nat) (x38_9 : Bool), v38 = .bool x38_9 ∧ Aside0 (impl_BestSails.j0 kq a1 a2 a3 x38_9 l0_0 a0_1 a0_2 = some (r1, r2)) ∧ Aside0 (kq ≤ k) ∧ Aside0 (wc.heap[gb382]? = some (.cells #[(.slice A0_0 l0_0.length c0_0), .int .i64 a0_1, .int .i64 a0_2] 64 (0, 0))) ∧ Aside0 (Below w.heap.size w wc))
  case first =>
   have H := HC10.out; clear HC10; by_cases c11 : a2 < (-1000)
   ·rw [if_pos c11] at H; have c11b0 : decide (a2 < (-1000)) = true := decide_eq_true c11; clear c11; (first | rw [c11b0] | (simp only [i64_w, i32_w]; rw [c11b0]) | skip); have H' := Aside0.mk H; clear H; (go_wp2); go_meet
    case rel => exact ⟨_, (true), zF, H', ⟨by first | omega | exact Nat.le_refl _⟩, ⟨by refine zB ?_; exact BK382.out⟩, ⟨pR HB⟩⟩
   ·rw [if_neg c11] at H; have c11b0 : decide (a2 < (-1000)) = false := decide_eq_false c11; clear c11; (first | rw [c11b0] | (simp only [i64_w, i32_w]; rw [c11b0]) | skip); by_cases c12 : a2 > a3
    ·rw [if_pos c12] at H; have c12b0 : decide (a3 < a2) = true := decide_eq_true c12; clear c12; have H' := Aside0.mk H; clear H; (go_wp2); go_meet
     case rel => exact ⟨_, (true), zF, H', ⟨by first | omega | exact Nat.le_refl _⟩, ⟨by refine zB ?_; exact BK382.out⟩, ⟨pR HB⟩⟩
    ·rw [if_neg c12] at H; have c12b0 : decide (a3 < a2) = false := decide_eq_false c12; clear c12; by_cases c13 : a3 > 1000
     ·rw [if_pos c13] at H; have c13b0 : decide (1000 < a3) = true := decide_eq_true c13; clear c13; have H' := Aside0.mk H; clear H; (go_wp2); go_meet
      case rel => exact ⟨_, (true), zF, H', ⟨by first | omega | exact Nat.le_refl _⟩, ⟨by refine zB ?_; exact BK382.out⟩, ⟨pR HB⟩⟩
     ·rw [if_neg c13] at H; have c13b0 : decide (1000 < a3) = false := decide_eq_false c13; clear c13; replace H := Option.bind_eq_some_iff.mp H; obtain ⟨t384, A140, H⟩ := H; (try dsimp only at H); have A14 := Aside0.mk A140; clear A140; have H' := Aside0.mk H; clear H; (go_wp2_with (first | (go_at_call 107; (with_reducible refine (impl_within.calls a1 0 100000000 t384 _ A14.out).mono ?_); rintro e w' ⟨rfl, ⟨nd, rfl⟩⟩))); go_meet
      case rel => exact ⟨_, (!t384), zF, H', ⟨by first | omega | exact Nat.le_refl _⟩, ⟨by refine zB ?_; exact BK382.out⟩, ⟨pR HB⟩⟩
  case rest =>
   clear HC10; (try clear c1); (try clear p2); (try clear c5); (try clear c8); (try clear c9); (try clear c11); (try clear c11b0); (try clear c12); (try clear c12b0); (try clear c13); (try clear c13b0); (try clear hcz7_0); (try clear hcz7_1); (try clear hcz7_2); (try clear hfz7_0); (try clear hfz7_1); (try clear hfz7_2); obtain ⟨kq, x38_9, rfl, HA, HJ9, BK382, HB⟩ := hcut
   cases kq with
   | zero => exact absurd HA.out (by simp [impl_BestSails.j0])
   | succ kj9 =>
    have H := HA.out; clear HA; simp only [impl_BestSails.j0] at H; by_cases c15 : x38_9 = true
    ·subst c15; (have H1 : (some (([] : List ByteArray), 2)) = some (r1, r2) := by rw [if_pos rfl] at H; exact H); clear H; have H := H1; clear H1; simp only [Option.some.injEq, Prod.mk.injEq] at H; obtain ⟨rfl, rfl⟩ := H; (go_wp2); (go_ret2); exact ⟨_, zE, by first | exact Kd.R_nil _ _ _ _ _ | exact Kd.N_nil _ _ _ _ _ | exact Kd.V_nil _ _ _ _ _ | exact Kd.Q_nil _ _ _ _ _ | exact Kd.S_nil _ _ _ _ _, pR HB⟩
    ·replace c15 := Bool.eq_false_iff.mpr c15; subst c15; (have H1 : (impl_BestSails.l0 kj9 a1 a2 a3 (-1) 0 0 l0_0 a0_1 a0_2) = some (r1, r2) := by rw [if_neg (show ¬ (false = true) by decide)] at H; exact H); clear H; have H := H1; clear H1; have H' := Aside0.mk H; clear H; (go_wp2); go_loopg [10, 11, 12] kj9 (fun kq v10 v11 v12 w' => ∃ (x10_2 : Int) (x11_2 : Int) (x12_2 : Int), v10 = .int .i64 x10_2 ∧ v11 = .int .i64 x11_2 ∧ v12 = .int .i64 x12_2 ∧ Aside0 (impl_BestSails.l0 kq a1 a2 a3 x10_2 x11_2 x12_2 l0_0 a0_1 a0_2 = some (r1, r2)) ∧ Aside0 (kq ≤ kj9) ∧ Aside0 (w'.heap[gb382]? = some (.cells #[(.slice A0_0 l0_0.length c0_0), .int .i64 a0_1, .int .i64 a0_2] 64 (0, 0))) ∧ Aside0 (Below w.heap.size w w'))
     case atStart => exact ⟨((-1)), (0), (0), zF, zF, zF, H', ⟨Nat.le_refl _⟩, ⟨by refine zB ?_; exact BK382.out⟩, ⟨pR HB⟩⟩
     case round =>
      clear H'; (try clear c1); (try clear p2); (try clear c5); (try clear c8); (try clear c9); (try clear c11); (try clear c11b0); (try clear c12); (try clear c12b0); (try clear c13); (try clear c13b0); (try clear c15); (try clear hcz7_0); (try clear hcz7_1); (try clear hcz7_2); (try clear hfz7_0); (try clear hfz7_1); (try clear hfz7_2); (try clear p2); obtain ⟨x10_2, x11_2, x12_2, rfl, rfl, rfl, HA, HK2, BK382, HB⟩ := hrel
      cases gk with
      | zero => exact absurd HA.out (by simp [impl_BestSails.l0])
      | succ k2 =>
       have H := HA.out; clear HA; simp only [impl_BestSails.l0] at H; obtain ⟨ji16, hji16⟩ : ∃ j_ : Int, (shl .i64 1 (l0_0.length : Int)) = j_ := ⟨_, rfl⟩; (replace H : (if x12_2 < (ji16) then ((impl_withSet.f k2 l0_0 a0_1 a0_2 x12_2).bind fun bt385 => ((impl_planSums.f k2 bt385.1 bt385.2.1 bt385.2.2).bind fun bt391 => (if bt391.1 ≤ a1 then ((impl_helmOf.f k2 bt385.1 bt385.2.1 bt385.2.2 a2 a3).bind fun t394 => (if t394.toList = ([98, 97, 108, 97, 110, 99, 101, 100] : List UInt8) then (if x10_2 < 0 then (impl_BestSails.l0 k2 a1 a2 a3 x12_2 bt391.1 (wrap64 (x12_2 + 1)) l0_0 a0_1 a0_2) else (if bt391.1 > x11_2 then (impl_BestSails.l0 k2 a1 a2 a3 x12_2 bt391.1 (wrap64 (x12_2 + 1)) l0_0 a0_1 a0_2) else (impl_BestSails.l0 k2 a1 a2 a3 x10_2 x11_2 (wrap64 (x12_2 + 1)) l0_0 a0_1 a0_2))) else (impl_BestSails.l0 k2 a1 a2 a3 x10_2 x11_2 (wrap64 (x12_2 + 1)) l0_0 a0_1 a0_2))) else (impl_BestSails.l0 k2 a1 a2 a3 x10_2 x11_2 (wrap64 (x12_2 + 1)) l0_0 a0_1 a0_2)))) else (if x10_2 < 0 then (some (([] : List ByteArray), 3)) else (impl_BestSails.l1 k2 x10_2 (([] : List ByteArray)) l0_0 (l0_0.length : Int) 0))) = some (r1, r2) := by first | (rw [hji16] at H; exact H) | (simp only [hji16] at H ⊢; exact H)); have hji16_ : (IntKind.i64.wrap (1 * 2 ^ min (l0_0.length : Int).toNat 64)) = ji16 := hji16; have hji16z : (l0_0.length : Int) ≤ 64 → (IntKind.i64.wrap (1 * 2 ^ (l0_0.length : Int).toNat)) = ji16 := shl_small hji16; have hji16p : (IntKind.i64.wrap (1 * 2 ^ min l0_0.length 64)) = ji16 := hji16_; have hji16q : (l0_0.length : Int) ≤ 64 → (IntKind.i64.wrap (1 * 2 ^ l0_0.length)) = ji16 := hji16z; (have hji16r : (IntKind.i64.wrap (2 ^ min l0_0.length 64)) = ji16 := by have h_ := hji16p; rw [Int.one_mul] at h_; exact h_); (have hji16s : (l0_0.length : Int) ≤ 64 → (IntKind.i64.wrap (2 ^ l0_0.length)) = ji16 := fun hle_ => by have h_ := hji16q hle_; rw [Int.one_mul] at h_; exact h_); (have hji16u : (IntKind.i64.wrap (2 ^ min (l0_0.length : Int).toNat 64)) = ji16 := by have h_ := hji16_; rw [Int.one_mul] at h_; exact h_); (have hji16v : (l0_0.length : Int) ≤ 64 → (IntKind.i64.wrap (2 ^ (l0_0.length : Int).toNat)) = ji16 := fun hle_ => by have h_ := hji16z hle_; rw [Int.one_mul] at h_; exact h_); have hji16y : (wrap64 (1 * 2 ^ min (l0_0.length : Int).toNat 64)) = ji16 := (i64_w _).symm.trans hji16_; (have hji16x : (l0_0.length : Int) ≤ 64 → (wrap64 (1 * 2 ^ (l0_0.length : Int).toNat)) = ji16 := fun h_ => (i64_w _).symm.trans (hji16z h_)); by_cases c17 : x12_2 < (ji16)
       ·rw [if_pos c17] at H; have c17b0 : decide (x12_2 < (ji16)) = true := decide_eq_true c17; clear c17; replace H := Option.bind_eq_some_iff.mp H; obtain ⟨⟨t385, t388, t389⟩, A180, H⟩ := H; (try dsimp only at H); have A18 := Aside0.mk A180; clear A180; replace H := Option.bind_eq_some_iff.mp H; obtain ⟨⟨t391, t392, t393⟩, A190, H⟩ := H; (try dsimp only at H); have A19 := Aside0.mk A190; clear A190; have HF_ := Aside0.mk H; clear H; obtain ⟨hcz20_0, hcz20_1, hcz20_2, hfz20_0, hfz20_1, hfz20_2⟩ := cz3 BK382; (go_upto_region 11 with (first | ((with_reducible refine gate_callee (f := 108) rfl ?_); refine goesL_ (some 49) rfl rfl Try.func108 (by kernel_rfl) rfl #[.agg #[.slice A0_0 l0_0.length c0_0, .int .i64 a0_1, .int .i64 a0_2], .int .i64 x12_2] rfl zM ?_; (with_reducible refine (impl_withSet.calls k2 (fun k_ => k_ < w.heap.size) _ _ l0_0 a0_1 a0_2 x12_2 t385 t388 t389 _ ?side1 A18.out).mono ?_); (case side1 => exact Kd.V_mk HC0_0.out (Kd.F_below (Kd.C_F k79_heap HR0_0.out) (pR HB))); rintro e w21 ⟨v386, rfl, ho0, hb⟩; refine ⟨_, rfl, ?_⟩; have HO387 := Aside0.mk (Kd.N_lower (Kd.N_mono (ok' := fun k_ => k_ ≠ gb382) ho0 (fun k_ hk_ => Or.elim hk_ (fun hs_ => fun e_ => Nat.not_le.2 hs_ (by rw [e_]; exact GW382.out)) (fun hn_ => (Kd.freshB (g := gb382) (o := .cells #[.slice A0_0 l0_0.length c0_0, .int .i64 a0_1, .int .i64 a0_2] 64 (0, 0)) (by refine zB ?_; exact BK382.out) k_ hn_)))) (below_size (pR HB))); replace BK382 := pB BK382 hb; replace HB := pS HB hb; (try clear hb ho0)) | ((with_reducible refine gate_dst (N := 13) rfl ?_); refine box_event ?hg (N := 13) ?hd (cs := #[.slice none 0 0, .int .i64 0, .int .i64 0]) (t := 64) ?hr ?_; (case hd => rfl); (case hg => rfl); (case hr => first | (go_simp; done) | (go_simp; rfl)); intro gb390 hg w22 hbox hb; replace HO387 := Aside0.mk (Kd.N_below (Kd.N_elderB (by (with_reducible repeat (first | apply Kd.N_alloc | apply Kd.N_drewN | apply Kd.N_drew)); exact HO387.out) gb390 (Nat.le_of_eq hg.symm)) hb); have BK390 := Aside0.mk (hbox); have GW390 := pG HB hg; have GE390 := pG HB hg; replace HB := pS HB hb; have NB382_390 := pN BK382 hg; have NB390_382 := pM BK382 hg; replace BK382 := pB BK382 hb; clear hb hbox hg; obtain ⟨Ao23, co23, eo23⟩ := Kd.N_slice HO387.out; subst eo23; have hnb24 := NB390_382.out; have hnc24 := NB382_390.out; obtain ⟨hcz25_0, hcz25_1, hcz25_2, hfz25_0, hfz25_1, hfz25_2⟩ := cz3 BK390) | ((with_reducible refine gate_callee (f := 109) rfl ?_); refine goesL_ (some 52) rfl rfl Try.func109 (by kernel_rfl) rfl #[.agg #[.slice Ao23 t385.length co23, .int .i64 t388, .int .i64 t389]] rfl zM ?_; (with_reducible refine (impl_planSums.calls k2 _ _ t385 t388 t389 t391 t392 t393 _ ?side1 ?side2 A19.out).mono ?_); (case side1 => refine (Kd.N_reads' (e := 79) (base := w.heap.size) (ok := fun k_ => (k_ ≠ gb382 ∧ k_ ≠ gb390)) (n := t385.length) (c := co23) ?_).2.2; exact (by (with_reducible repeat (first | apply Kd.N_alloc | apply Kd.N_drewN | apply Kd.N_drew)); exact (Kd.N_mono (Kd.N_far (p := ⟨gb390, 2, none⟩) (Kd.N_far (p := ⟨gb390, 1, none⟩) (Kd.N_far (p := ⟨gb390, 0, none⟩) (Kd.N_mono HO387.out (fun k_ hk => (⟨hk, hk.2⟩ : _ ∧ k_ ≠ gb390))) (fun _ hk => hk.2) (.slice Ao23 t385.length co23)) (fun _ hk => hk.2) (.int .i64 t388)) (fun _ hk => hk.2) (.int .i64 t389)) (fun _ h_ => h_.1)))); (case side2 => exact (Kd.N_reads' HO387.out).2.1); rintro e w26 ⟨rfl, hb⟩; refine ⟨_, rfl, ?_⟩; replace HO387 := Aside0.mk (Kd.N_below (by (with_reducible repeat (first | apply Kd.N_alloc | apply Kd.N_drewN | apply Kd.N_drew)); exact (Kd.N_mono (Kd.N_far (p := ⟨gb390, 2, none⟩) (Kd.N_far (p := ⟨gb390, 1, none⟩) (Kd.N_far (p := ⟨gb390, 0, none⟩) (Kd.N_mono HO387.out (fun k_ hk => (⟨hk, hk.2⟩ : _ ∧ k_ ≠ gb390))) (fun _ hk => hk.2) (.slice Ao23 t385.length co23)) (fun _ hk => hk.2) (.int .i64 t388)) (fun _ hk => hk.2) (.int .i64 t389)) (fun _ h_ => h_.1))) hb); replace BK382 := Aside0.mk (blk_below (g := gb382) (o := .cells #[.slice A0_0 l0_0.length c0_0, .int .i64 a0_1, .int .i64 a0_2] 64 (0, 0)) (by refine zB ?_; refine blk_far ?_ NB382_390.out _; refine zB ?_; refine blk_far ?_ NB382_390.out _; refine zB ?_; refine blk_far ?_ NB382_390.out _; refine zB ?_; exact BK382.out) hb); replace BK390 := Aside0.mk (blk_below (g := gb390) (o := .cells #[.slice Ao23 t385.length co23, .int .i64 t388, .int .i64 t389] 64 (0, 0)) (by refine zB ?_; refine blk_put (cs := #[.slice Ao23 t385.length co23, .int .i64 t388, .int .i64 0]) ?_ 2 _ rfl; refine zB ?_; refine blk_put (cs := #[.slice Ao23 t385.length co23, .int .i64 0, .int .i64 0]) ?_ 1 _ rfl; refine zB ?_; refine blk_put (cs := #[.slice none 0 0, .int .i64 0, .int .i64 0]) ?_ 0 _ rfl; refine zB ?_; exact BK390.out) hb); replace HB := pS HB hb; (try clear hb)))); (try simp only [Act.put, List.setIfInBounds_toArray, List.set_cons_zero, List.set_cons_succ]); have H := HF_.out; clear HF_; by_cases c27 : t391 ≤ a1
        ·rw [if_pos c27] at H; have c27b0 : decide (t391 ≤ a1) = true := decide_eq_true c27; clear c27; (first | rw [c27b0] | (simp only [i64_w, i32_w]; rw [c27b0]) | skip); replace H := Option.bind_eq_some_iff.mp H; obtain ⟨t394, A280, H⟩ := H; (try dsimp only at H); have A28 := Aside0.mk A280; clear A280; by_cases c29 : t394.toList = ([98, 97, 108, 97, 110, 99, 101, 100] : List UInt8)
         ·rw [if_pos c29] at H; have c29b0 : (t394.toList == ([98, 97, 108, 97, 110, 99, 101, 100] : List UInt8)) = true := beq_iff_eq.mpr c29; have c29b1 : (t394.toList != ([98, 97, 108, 97, 110, 99, 101, 100] : List UInt8)) = false := bne_eq_false_iff_eq.mpr c29; clear c29; by_cases c30 : x10_2 < 0
          ·rw [if_pos c30] at H; have c30b0 : decide (x10_2 < 0) = true := decide_eq_true c30; clear c30; have H' := Aside0.mk H; clear H; have hnb31 := NB390_382.out; have hnc31 := NB382_390.out; obtain ⟨hcz32_0, hcz32_1, hcz32_2, hfz32_0, hfz32_1, hfz32_2⟩ := cz3 BK390; (go_wp2_with (first | (go_at_call 110; (with_reducible refine (impl_helmOf.calls k2 _ _ t385 t388 t389 a2 a3 t394 _ ?side1 ?side2 A28.out).mono ?_); (case side1 => repeat (first | exact (Kd.N_reads' HO387.out).2.2 | (with_reducible refine Kd.C_alloc ?_ _) | (with_reducible refine Kd.C_drewN ?_ _) | (with_reducible refine Kd.C_drew ?_))); (case side2 => exact (Kd.N_reads' HO387.out).2.1); rintro e w33 ⟨rfl, hb⟩; replace HO387 := Aside0.mk (Kd.N_below (by (with_reducible repeat (first | apply Kd.N_alloc | apply Kd.N_drewN | apply Kd.N_drew)); exact HO387.out) hb); replace BK382 := pB BK382 hb; replace BK390 := pB BK390 hb; replace HB := pS HB hb; (try clear hb)))); go_roundg k2
           case measure => have := HJ9.out; have := HK2.out; omega
           case rel => exact ⟨(x12_2), (t391), (wrap64 (x12_2 + 1)), zF, zF, zF, H', ⟨by have := HJ9.out; have := HK2.out; omega⟩, ⟨by refine zB ?_; exact BK382.out⟩, ⟨pR HB⟩⟩
          ·rw [if_neg c30] at H; have c30b0 : decide (x10_2 < 0) = false := decide_eq_false c30; clear c30; by_cases c34 : t391 > x11_2
           ·rw [if_pos c34] at H; have c34b0 : decide (x11_2 < t391) = true := decide_eq_true c34; clear c34; have H' := Aside0.mk H; clear H; have hnb35 := NB390_382.out; have hnc35 := NB382_390.out; obtain ⟨hcz36_0, hcz36_1, hcz36_2, hfz36_0, hfz36_1, hfz36_2⟩ := cz3 BK390; (go_wp2_with (first | (go_at_call 110; (with_reducible refine (impl_helmOf.calls k2 _ _ t385 t388 t389 a2 a3 t394 _ ?side1 ?side2 A28.out).mono ?_); (case side1 => repeat (first | exact (Kd.N_reads' HO387.out).2.2 | (with_reducible refine Kd.C_alloc ?_ _) | (with_reducible refine Kd.C_drewN ?_ _) | (with_reducible refine Kd.C_drew ?_))); (case side2 => exact (Kd.N_reads' HO387.out).2.1); rintro e w37 ⟨rfl, hb⟩; replace HO387 := Aside0.mk (Kd.N_below (by (with_reducible repeat (first | apply Kd.N_alloc | apply Kd.N_drewN | apply Kd.N_drew)); exact HO387.out) hb); replace BK382 := pB BK382 hb; replace BK390 := pB BK390 hb; replace HB := pS HB hb; (try clear hb)))); go_roundg k2
            case measure => have := HJ9.out; have := HK2.out; omega
            case rel => exact ⟨(x12_2), (t391), (wrap64 (x12_2 + 1)), zF, zF, zF, H', ⟨by have := HJ9.out; have := HK2.out; omega⟩, ⟨by refine zB ?_; exact BK382.out⟩, ⟨pR HB⟩⟩
           ·rw [if_neg c34] at H; have c34b0 : decide (x11_2 < t391) = false := decide_eq_false c34; clear c34; have H' := Aside0.mk H; clear H; have hnb38 := NB390_382.out; have hnc38 := NB382_390.out; obtain ⟨hcz39_0, hcz39_1, hcz39_2, hfz39_0, hfz39_1, hfz39_2⟩ := cz3 BK390; (go_wp2_with (first | (go_at_call 110; (with_reducible refine (impl_helmOf.calls k2 _ _ t385 t388 t389 a2 a3 t394 _ ?side1 ?side2 A28.out).mono ?_); (case side1 => repeat (first | exact (Kd.N_reads' HO387.out).2.2 | (with_reducible refine Kd.C_alloc ?_ _) | (with_reducible refine Kd.C_drewN ?_ _) | (with_reducible refine Kd.C_drew ?_))); (case side2 => exact (Kd.N_reads' HO387.out).2.1); rintro e w40 ⟨rfl, hb⟩; replace HO387 := Aside0.mk (Kd.N_below (by (with_reducible repeat (first | apply Kd.N_alloc | apply Kd.N_drewN | apply Kd.N_drew)); exact HO387.out) hb); replace BK382 := pB BK382 hb; replace BK390 := pB BK390 hb; replace HB := pS HB hb; (try clear hb)))); go_roundg k2
            case measure => have := HJ9.out; have := HK2.out; omega
            case rel => exact ⟨(x10_2), (x11_2), (wrap64 (x12_2 + 1)), zF, zF, zF, H', ⟨by have := HJ9.out; have := HK2.out; omega⟩, ⟨by refine zB ?_; exact BK382.out⟩, ⟨pR HB⟩⟩
         ·rw [if_neg c29] at H; have c29b0 : (t394.toList == ([98, 97, 108, 97, 110, 99, 101, 100] : List UInt8)) = false := beq_eq_false_iff_ne.mpr c29; have c29b1 : (t394.toList != ([98, 97, 108, 97, 110, 99, 101, 100] : List UInt8)) = true := bne_iff_ne.mpr c29; have H' := Aside0.mk H; clear H; have hnb41 := NB390_382.out; have hnc41 := NB382_390.out; obtain ⟨hcz42_0, hcz42_1, hcz42_2, hfz42_0, hfz42_1, hfz42_2⟩ := cz3 BK390; (go_wp2_with (first | (go_at_call 110; (with_reducible refine (impl_helmOf.calls k2 _ _ t385 t388 t389 a2 a3 t394 _ ?side1 ?side2 A28.out).mono ?_); (case side1 => repeat (first | exact (Kd.N_reads' HO387.out).2.2 | (with_reducible refine Kd.C_alloc ?_ _) | (with_reducible refine Kd.C_drewN ?_ _) | (with_reducible refine Kd.C_drew ?_))); (case side2 => exact (Kd.N_reads' HO387.out).2.1); rintro e w43 ⟨rfl, hb⟩; replace HO387 := Aside0.mk (Kd.N_below (by (with_reducible repeat (first | apply Kd.N_alloc | apply Kd.N_drewN | apply Kd.N_drew)); exact HO387.out) hb); replace BK382 := pB BK382 hb; replace BK390 := pB BK390 hb; replace HB := pS HB hb; (try clear hb)))); go_roundg k2
          case measure => have := HJ9.out; have := HK2.out; omega
          case rel => exact ⟨(x10_2), (x11_2), (wrap64 (x12_2 + 1)), zF, zF, zF, H', ⟨by have := HJ9.out; have := HK2.out; omega⟩, ⟨by refine zB ?_; exact BK382.out⟩, ⟨pR HB⟩⟩
        ·rw [if_neg c27] at H; have c27b0 : decide (t391 ≤ a1) = false := decide_eq_false c27; clear c27; (first | rw [c27b0] | (simp only [i64_w, i32_w]; rw [c27b0]) | skip); have H' := Aside0.mk H; clear H; (go_wp2); go_roundg k2
         case measure => have := HJ9.out; have := HK2.out; omega
         case rel => exact ⟨(x10_2), (x11_2), (wrap64 (x12_2 + 1)), zF, zF, zF, H', ⟨by have := HJ9.out; have := HK2.out; omega⟩, ⟨by refine zB ?_; exact BK382.out⟩, ⟨pR HB⟩⟩
       ·rw [if_neg c17] at H; have c17b0 : decide (x12_2 < (ji16)) = false := decide_eq_false c17; clear c17; by_cases c44 : x10_2 < 0
        ·rw [if_pos c44] at H; have c44b0 : decide (x10_2 < 0) = true := decide_eq_true c44; clear c44; simp only [Option.some.injEq, Prod.mk.injEq] at H; obtain ⟨rfl, rfl⟩ := H; obtain ⟨hcz45_0, hcz45_1, hcz45_2, hfz45_0, hfz45_1, hfz45_2⟩ := cz3 BK382; (go_wp2); (go_ret2); exact ⟨_, by first | rfl | (simp [errW_none, errW_some] <;> rfl) | (simp only [← hji16]; first | rfl | (simp [errW_none, errW_some] <;> rfl)) | (simp [*, errW_none, errW_some] <;> rfl), by first | exact Kd.R_nil _ _ _ _ _ | exact Kd.N_nil _ _ _ _ _ | exact Kd.V_nil _ _ _ _ _ | exact Kd.Q_nil _ _ _ _ _ | exact Kd.S_nil _ _ _ _ _, pR HB⟩
        ·rw [if_neg c44] at H; have c44b0 : decide (x10_2 < 0) = false := decide_eq_false c44; clear c44; obtain ⟨y395, hy395⟩ : ∃ y_ : List ByteArray, y_ = (([] : List ByteArray)) := ⟨_, rfl⟩; (replace H : (impl_BestSails.l1 k2 x10_2 y395 l0_0 (l0_0.length : Int) 0) = some (r1, r2) := by first | (rw [hy395]; with_reducible exact H) | (have H2_ := (Option.bind_some _ _).symm.trans H; rw [hy395]; with_reducible exact H2_) | (have H2_ := (Option.bind_some _ _).symm.trans H; with_reducible exact H2_) | with_reducible exact H | (rw [hy395]; exact H) | exact H); have Ny395 := Aside0.mk hy395; clear hy395; have H' := Aside0.mk H; clear H; obtain ⟨hcz46_0, hcz46_1, hcz46_2, hfz46_0, hfz46_1, hfz46_2⟩ := cz3 BK382; (go_wp2_with (first | ((with_reducible refine gate_dst (N := 79) rfl ?_); refine Kd.R_lit Kd.string _ 9 ?hg (N := 79) ?hd (xs := ([] : List ByteArray)) (inner := []) (ok := fun _ => True) (okp := fun _ => True) ?hr ?hp (fun _ hk => hk) trivial (Below.refl _ _) (Nat.le_refl _) (by simp) ?_; (case hd => rfl); (case hg => rfl); (case hr => first | (go_simp; done) | (go_simp; rfl)); (case hp => exact (Reps.none _ _)); intro v396 w47 ho48 hb hg_ hnew_; clear hg_ hnew_; (first | rw [← Ny395.out] at ho48 | (simp only [Int.reduceToNat] at ho48; rw [← Ny395.out] at ho48)); have HO397 := Aside0.mk (Kd.R_lower ho48 (below_size (pR HB))); replace BK382 := pB BK382 hb; replace HB := pS HB hb; clear hb ho48; obtain ⟨hcz49_0, hcz49_1, hcz49_2, hfz49_0, hfz49_1, hfz49_2⟩ := cz3 BK382))); go_loopg [17, 83] k2 (fun kq v17 v83 w' => ∃ (x17_3 : List ByteArray) (x83_3 : Int), v83 = .int .i64 x83_3 ∧ Aside0 (impl_BestSails.l1 kq x10_2 x17_3 l0_0 (l0_0.length : Int) x83_3 = some (r1, r2)) ∧ Aside0 (kq ≤ k2) ∧ Aside0 (Kd.R Kd.string 9 w' w.heap.size (fun _ => True) v17 x17_3) ∧ Aside0 (w'.heap[gb382]? = some (.cells #[(.slice A0_0 l0_0.length c0_0), .int .i64 a0_1, .int .i64 a0_2] 64 (0, 0))) ∧ Aside0 (Below w.heap.size w w'))
         case atStart => exact ⟨(y395), (0), zF, H', ⟨Nat.le_refl _⟩, ⟨by refine zR ?_; exact HO397.out⟩, ⟨by refine zB ?_; exact BK382.out⟩, ⟨pR HB⟩⟩
         case round =>
          clear H'; (try clear c1); (try clear c2); (try clear p2); (try clear c3); (try clear c4); (try clear c5); (try clear p6); (try clear c8); (try clear c9); (try clear c10); (try clear c11); (try clear c11b0); (try clear c12); (try clear c12b0); (try clear c13); (try clear c13b0); (try clear c15); (try clear c17); (try clear c17b0); (try clear c24); (try clear c27); (try clear c27b0); (try clear c29); (try clear c29b0); (try clear c29b1); (try clear c30); (try clear c30b0); (try clear c31); (try clear c34); (try clear c34b0); (try clear c35); (try clear c38); (try clear c41); (try clear c44); (try clear c44b0); (try clear hcz20_0); (try clear hcz20_1); (try clear hcz20_2); (try clear hcz25_0); (try clear hcz25_1); (try clear hcz25_2); (try clear hcz32_0); (try clear hcz32_1); (try clear hcz32_2); (try clear hcz36_0); (try clear hcz36_1); (try clear hcz36_2); (try clear hcz39_0); (try clear hcz39_1); (try clear hcz39_2); (try clear hcz42_0); (try clear hcz42_1); (try clear hcz42_2); (try clear hcz45_0); (try clear hcz45_1); (try clear hcz45_2); (try clear hcz46_0); (try clear hcz46_1); (try clear hcz46_2); (try clear hcz49_0); (try clear hcz49_1); (try clear hcz49_2); (try clear hcz7_0); (try clear hcz7_1); (try clear hcz7_2); (try clear hfz20_0); (try clear hfz20_1); (try clear hfz20_2); (try clear hfz25_0); (try clear hfz25_1); (try clear hfz25_2); (try clear hfz32_0); (try clear hfz32_1); (try clear hfz32_2); (try clear hfz36_0); (try clear hfz36_1); (try clear hfz36_2); (try clear hfz39_0); (try clear hfz39_1); (try clear hfz39_2); (try clear hfz42_0); (try clear hfz42_1); (try clear hfz42_2); (try clear hfz45_0); (try clear hfz45_1); (try clear hfz45_2); (try clear hfz46_0); (try clear hfz46_1); (try clear hfz46_2); (try clear hfz49_0); (try clear hfz49_1); (try clear hfz49_2); (try clear hfz7_0); (try clear hfz7_1); (try clear hfz7_2); (try clear p2); obtain ⟨x17_3, x83_3, rfl, HA, HK3, HO_17, BK382, HB⟩ := hrel
          cases gk with
          | zero => exact absurd HA.out (by simp [impl_BestSails.l1])
          | succ k3 =>
           have H := HA.out; clear HA; simp only [impl_BestSails.l1] at H; by_cases c50 : x83_3 < (l0_0.length : Int)
           ·rw [if_pos c50] at H; have c50b0 : decide (x83_3 < (l0_0.length : Int)) = true := decide_eq_true c50; clear c50; by_cases c51 : 0 ≤ x83_3
            ·rw [if_pos c51] at H; have c51b0 : decide (0 ≤ x83_3) = true := decide_eq_true c51; clear c51; by_cases c52 : x83_3 < (l0_0.length : Int)
             ·rw [if_pos c52] at H; have c52b0 : decide (x83_3 < (l0_0.length : Int)) = true := decide_eq_true c52; clear c52; have c53b0 := eq_true (of_decide_eq_true (by first | (with_reducible assumption) | assumption) : 0 ≤ x83_3); obtain ⟨ji54, hji54⟩ : ∃ j_ : Int, (shr .i64 x10_2 x83_3) = j_ := ⟨_, rfl⟩; (replace H : (if (Go.bits .and .i64 (ji54) 1) = 1 then (if x17_3.length < 8796093022208 then (impl_BestSails.l1 k3 x10_2 (x17_3 ++ [(rd_T79 l0_0 x83_3).f0]) l0_0 (l0_0.length : Int) (wrap64 (x83_3 + 1))) else (none)) else (impl_BestSails.l1 k3 x10_2 x17_3 l0_0 (l0_0.length : Int) (wrap64 (x83_3 + 1)))) = some (r1, r2) := by first | (rw [hji54] at H; exact H) | (simp only [hji54] at H ⊢; exact H)); have hji54_ : (x10_2 / 2 ^ min x83_3.toNat 64) = ji54 := hji54; have hji54z : x83_3 ≤ 64 → (x10_2 / 2 ^ x83_3.toNat) = ji54 := shr_small hji54; have HF_ := Aside0.mk H; clear H; have p398 : 0 ≤ (x83_3 : Int) := of_decide_eq_true (by first | (with_reducible assumption) | assumption); have q398 : x83_3 < (l0_0.length : Int) := of_decide_eq_true (by first | (with_reducible assumption) | assumption); obtain ⟨ad398, A398_1, c398_1, e398, hx398_0, hx398_1, hx398_2, hl398_1, hi398_1⟩ := at_T79 HR0_0.out x83_3 p398 q398
              cases e398
              replace hx398_0 := bC HB hx398_0; replace hx398_1 := bC HB hx398_1; replace hx398_2 := bC HB hx398_2; have HR398_1 := Aside0.mk hi398_1; have HC398_1 := Aside0.mk hl398_1; clear hi398_1 hl398_1; replace p398 := eq_true p398; replace q398 := eq_true q398; (go_upto_if 92 with (first | ((with_reducible refine gate_dst (N := 19) rfl ?_); refine box_event ?hg (N := 19) ?hd (cs := #[.string (⟨#[]⟩ : ByteArray), .slice none 0 0, .bool false]) (t := 79) ?hr ?_; (case hd => rfl); (case hg => rfl); (case hr => first | (go_simp; done) | (go_simp; rfl)); intro gb399 hg w55 hbox hb; replace HO_17 := Aside0.mk (Kd.R_below (by refine zR ?_; exact HO_17.out) hb); have BK399 := Aside0.mk (hbox); have GW399 := pG HB hg; have GE399 := pG HB hg; replace HB := pS HB hb; have NB382_399 := pN BK382 hg; have NB399_382 := pM BK382 hg; replace BK382 := pB BK382 hb; clear hb hbox hg; have hnb56 := NB399_382.out; have hnc56 := NB382_399.out; obtain ⟨hcz57_0, hcz57_1, hcz57_2, hfz57_0, hfz57_1, hfz57_2⟩ := cz3 BK399))); (try simp only [Act.put, List.setIfInBounds_toArray, List.set_cons_zero, List.set_cons_succ]); have H := HF_.out; clear HF_; by_cases c58 : (Go.bits .and .i64 (ji54) 1) = 1
              ·rw [if_pos c58] at H; have c58b0 : ((Go.bits .and .i64 (ji54) 1) == 1) = true := beq_iff_eq.mpr c58; have c58b1 : ((Go.bits .and .i64 (ji54) 1) != 1) = false := bne_eq_false_iff_eq.mpr c58; clear c58; (first | rw [c58b0] | (simp only [i64_w, i32_w]; rw [c58b0]) | skip); by_cases c59 : x17_3.length < 8796093022208
               ·rw [if_pos c59] at H; have LMc59 := Aside0.mk c59; clear c59; obtain ⟨y400, hy400⟩ : ∃ y_ : List ByteArray, y_ = (x17_3 ++ [(rd_T79 l0_0 x83_3).f0]) := ⟨_, rfl⟩; (replace H : (impl_BestSails.l1 k3 x10_2 y400 l0_0 (l0_0.length : Int) (wrap64 (x83_3 + 1))) = some (r1, r2) := by first | (rw [hy400]; with_reducible exact H) | (have H2_ := (Option.bind_some _ _).symm.trans H; rw [hy400]; with_reducible exact H2_) | (have H2_ := (Option.bind_some _ _).symm.trans H; with_reducible exact H2_) | with_reducible exact H | (rw [hy400]; exact H) | exact H); have Ny400 := Aside0.mk hy400; clear hy400; have H' := Aside0.mk H; clear H; have hnb60 := NB399_382.out; have hnc60 := NB382_399.out; obtain ⟨hcz61_0, hcz61_1, hcz61_2, hfz61_0, hfz61_1, hfz61_2⟩ := cz3 BK399; (go_wp2_with (first | ((with_reducible refine gate_builtin (b := .append) (xs := #[.tmp 93, .tmp 96]) rfl ?_); at_builtin; refine Kd.R_append Kd.string (w0 := w) w.heap.size rfl (.tmp 93) (.tmp 96) 84 9 (.string ⟨#[]⟩) 16 rfl Try.underlying84 info9 rfl (by decide) (by omega) u17 x17_3 ((rd_T79 l0_0 x83_3).f0) [.string ((rd_T79 l0_0 x83_3).f0)] (fun _ => True) (fun _ => False) rfl (by first | (go_simp; done) | (go_simp; rfl)) ?aP (fun _ hk => hk.elim) ?aF ?aO ?aB ?aS ?aL ?_; (case aP => exact rfl); (case aB => exact (pR HB)); (case aF => exact (fun _ _ => trivial)); (case aO => exact (by refine zR ?_; exact Kd.R_mono (Kd.R_far (p := ⟨gb399, 2, none⟩) (Kd.R_far (p := ⟨gb399, 1, none⟩) (Kd.R_far (p := ⟨gb399, 0, none⟩) (Kd.R_types HO_17.out BK399.out (by decide)) (fun _ hk => hk.2) (.string ((rd_T79 l0_0 x83_3).f0))) (fun _ hk => hk.2) (.slice A398_1 ((rd_T79 l0_0 x83_3).f1).length c398_1)) (fun _ hk => hk.2) (.bool ((rd_T79 l0_0 x83_3).f2))) (fun _ hk => trivial))); (case aS => exact (below_size (pR HB))); (case aL => have := LMc59.out; omega); intro v401 w62 ho hb hg hat; rw [← Ny400.out] at ho; replace BK382 := Aside0.mk (blk_grown (g := gb382) (o := .cells #[.slice (some ad398) l0_0.length c0_0, .int .i64 a0_1, .int .i64 a0_2] 64 (0, 0)) (by refine zB ?_; refine blk_far ?_ NB382_399.out _; refine zB ?_; refine blk_far ?_ NB382_399.out _; refine zB ?_; refine blk_far ?_ NB382_399.out _; refine zB ?_; exact BK382.out) hg (Kd.R_ne HO_17.out BK382.out (by decide))); replace BK399 := Aside0.mk (blk_grown (g := gb399) (o := .cells #[.string ((rd_T79 l0_0 x83_3).f0), .slice A398_1 ((rd_T79 l0_0 x83_3).f1).length c398_1, .bool ((rd_T79 l0_0 x83_3).f2)] 79 (0, 0)) (by refine zB ?_; refine blk_put (cs := #[.string ((rd_T79 l0_0 x83_3).f0), .slice A398_1 ((rd_T79 l0_0 x83_3).f1).length c398_1, .bool false]) ?_ 2 _ rfl; refine zB ?_; refine blk_put (cs := #[.string ((rd_T79 l0_0 x83_3).f0), .slice none 0 0, .bool false]) ?_ 1 _ rfl; refine zB ?_; refine blk_put (cs := #[.string (⟨#[]⟩ : ByteArray), .slice none 0 0, .bool false]) ?_ 0 _ rfl; refine zB ?_; exact BK399.out) hg (Kd.R_ne HO_17.out BK399.out (by decide))); replace HB := Aside0.mk (hb); have HO402 := Aside0.mk (ho); clear HO_17; clear ho hb hg hat))); go_roundg k3
                case measure => have := HJ9.out; have := HK2.out; have := HK3.out; omega
                case rel => exact ⟨(y400), (wrap64 (x83_3 + 1)), zF, H', ⟨by have := HJ9.out; have := HK2.out; have := HK3.out; omega⟩, ⟨by refine zR ?_; exact HO402.out⟩, ⟨by refine zB ?_; exact BK382.out⟩, ⟨pR HB⟩⟩
               ·rw [if_neg c59] at H; exact absurd H (by simp)
              ·rw [if_neg c58] at H; have c58b0 : ((Go.bits .and .i64 (ji54) 1) == 1) = false := beq_eq_false_iff_ne.mpr c58; have c58b1 : ((Go.bits .and .i64 (ji54) 1) != 1) = true := bne_iff_ne.mpr c58; (first | rw [c58b0] | (simp only [i64_w, i32_w]; rw [c58b0]) | skip); have H' := Aside0.mk H; clear H; (go_wp2); go_roundg k3
               case measure => have := HJ9.out; have := HK2.out; have := HK3.out; omega
               case rel => exact ⟨(x17_3), (wrap64 (x83_3 + 1)), zF, H', ⟨by have := HJ9.out; have := HK2.out; have := HK3.out; omega⟩, ⟨by refine zR ?_; exact Kd.R_mono (Kd.R_far (p := ⟨gb399, 2, none⟩) (Kd.R_far (p := ⟨gb399, 1, none⟩) (Kd.R_far (p := ⟨gb399, 0, none⟩) (Kd.R_types HO_17.out BK399.out (by decide)) (fun _ hk => hk.2) (.string ((rd_T79 l0_0 x83_3).f0))) (fun _ hk => hk.2) (.slice A398_1 ((rd_T79 l0_0 x83_3).f1).length c398_1)) (fun _ hk => hk.2) (.bool ((rd_T79 l0_0 x83_3).f2))) (fun _ hk => trivial)⟩, ⟨by refine zB ?_; refine blk_far ?_ NB382_399.out _; refine zB ?_; refine blk_far ?_ NB382_399.out _; refine zB ?_; refine blk_far ?_ NB382_399.out _; refine zB ?_; exact BK382.out⟩, ⟨pR HB⟩⟩
             ·rw [if_neg c52] at H; exact absurd H (by simp)
            ·rw [if_neg c51] at H; exact absurd H (by simp)
           ·rw [if_neg c50] at H; have c50b0 : decide (x83_3 < (l0_0.length : Int)) = false := decide_eq_false c50; clear c50; simp only [Option.some.injEq, Prod.mk.injEq] at H; obtain ⟨rfl, rfl⟩ := H; (go_wp2); (go_ret2); exact ⟨_, by first | rfl | (simp [errW_none, errW_some] <;> rfl) | (simp only [← hji16]; first | rfl | (simp [errW_none, errW_some] <;> rfl)) | (simp [*, errW_none, errW_some] <;> rfl), by refine zR ?_; exact HO_17.out, pR HB⟩
 ·replace c9 := Bool.eq_false_iff.mpr c9; subst c9; (have H1 : (some (([] : List ByteArray), 1)) = some (r1, r2) := by rw [if_neg (show ¬ (false = true) by decide)] at H; exact H); clear H; have H := H1; clear H1; simp only [Option.some.injEq, Prod.mk.injEq] at H; obtain ⟨rfl, rfl⟩ := H; (go_wp2); (go_ret2); exact ⟨_, zE, by first | exact Kd.R_nil _ _ _ _ _ | exact Kd.N_nil _ _ _ _ _ | exact Kd.V_nil _ _ _ _ _ | exact Kd.Q_nil _ _ _ _ _ | exact Kd.S_nil _ _ _ _ _, pR HB⟩

/-! ### laws_eqStringS: function 54 -/
def laws_eqStringS.l0 : Nat → List ByteArray → List ByteArray → Int → Option (Bool)
 | 0, _, _, _ => none
 | k + 1, x0, x1, x5 => if x5 < (x0.length : Int) then (if 0 ≤ x5 then (if x5 < (x1.length : Int) then (if (rdOf ByteArray.empty x0 x5).toList = (rdOf ByteArray.empty x1 x5).toList then (laws_eqStringS.l0 k x0 x1 (wrap64 (x5 + 1))) else (some false)) else (none)) else (none)) else (some true)
def laws_eqStringS.f (k : Nat) (l0 : List ByteArray) (l1 : List ByteArray) : Option (Bool) := if (l0.length : Int) = (l1.length : Int) then (laws_eqStringS.l0 k l0 l1 0) else (some false)
theorem laws_eqStringS.mono_l : ∀ k, (∀ y0 y1 y2, LeO (laws_eqStringS.l0 k y0 y1 y2) (laws_eqStringS.l0 (k + 1) y0 y1 y2))
 | 0 => fun _ _ _ r h => by simp [laws_eqStringS.l0] at h
 | k + 1 => by
  have ih0 := laws_eqStringS.mono_l k
  ·intro y0 y1 y2
   unfold laws_eqStringS.l0
   repeat' first
   | (with_reducible exact ih0 _ _ _)
   | (with_reducible exact LeO.refl _)
   | (with_reducible exact LeO.none _)
   | (with_reducible refine LeO.ite ?_ ?_)
   | (with_reducible refine LeO.bind ?_ (fun _ => ?_))
   | exact ih0 _ _ _
   | exact LeO.none _
   | refine LeO.ite ?_ ?_
   | refine LeO.bind ?_ (fun _ => ?_)
theorem laws_eqStringS.mono : ∀ a0 a1 k, LeO (laws_eqStringS.f k a0 a1) (laws_eqStringS.f (k + 1) a0 a1) := by
 intro a0 a1 k; have ih0 := laws_eqStringS.mono_l k; unfold laws_eqStringS.f
 repeat' first
   | (with_reducible exact ih0 _ _ _)
   | (with_reducible exact LeO.refl _)
   | (with_reducible exact LeO.none _)
   | (with_reducible refine LeO.ite ?_ ?_)
   | (with_reducible refine LeO.bind ?_ (fun _ => ?_))
   | exact ih0 _ _ _
   | exact LeO.none _
   | refine LeO.ite ?_ ?_
   | refine LeO.bind ?_ (fun _ => ?_)
set_option maxHeartbeats 8000000 in
set_option maxRecDepth 100000 in
theorem laws_eqStringS.calls (k : Nat) (A0 : Option Addr) (c0 : Nat) (l0 : List ByteArray) (A1 : Option Addr) (c1 : Nat) (l1 : List ByteArray) (r : Bool) (w : World) (hr0 : Kd.C Kd.string w A0 l0.length l0) (hc0 : l0.length ≤ c0) (hr1 : Kd.C Kd.string w A1 l1.length l1) (hc1 : l1.length ≤ c1) (h : laws_eqStringS.f k l0 l1 = some r) :
  Calls Try.prog 54 #[.slice A0 l0.length c0, .slice A1 l1.length c1] w fun e w' => e = .returned (.bool r) ∧ Drawn0 w w' := by
 have HR0 := Aside0.mk hr0; have HC0 := Aside0.mk hc0; clear hr0 hc0; have HR1 := Aside0.mk hr1; have HC1 := Aside0.mk hc1; clear hr1 hc1; have H : (if (l0.length : Int) = (l1.length : Int) then (laws_eqStringS.l0 k l0 l1 0) else (some false)) = some r := h; clear h; by_cases c3 : (l0.length : Int) = (l1.length : Int)
 ·rw [if_pos c3] at H; have c3b0 : ((l0.length : Int) == (l1.length : Int)) = true := beq_iff_eq.mpr c3; have c3b1 : ((l0.length : Int) != (l1.length : Int)) = false := bne_eq_false_iff_eq.mpr c3; (have c3b2 : (l0.length == l1.length) = true := by first | simpa using c3 | (simp at c3 ⊢; omega)); clear c3; have H' := Aside0.mk H; clear H; (go_enter Try.func54, Try.ntmps54); (go_wp2); (repeat (go_quiet (fail); try go_wp2)); go_loopg [5] k (fun kq v5 w' => ∃ (x5_1 : Int), v5 = .int .i64 x5_1 ∧ Aside0 (laws_eqStringS.l0 kq l0 l1 x5_1 = some r) ∧ Aside0 (kq ≤ k) ∧ Drawn0 w w')
  case atStart => exact ⟨(0), zF, H', ⟨Nat.le_refl _⟩, zD⟩
  case round =>
   clear H'; (try clear c1); (try clear p2); (try clear c3); (try clear c3b0); (try clear c3b1); (try clear c3b2); obtain ⟨x5_1, rfl, HA, HK1, ⟨m1, rfl⟩⟩ := hrel
   cases gk with
   | zero => exact absurd HA.out (by simp [laws_eqStringS.l0])
   | succ k1 =>
    have H := HA.out; clear HA; simp only [laws_eqStringS.l0] at H; by_cases c4 : x5_1 < (l0.length : Int)
    ·rw [if_pos c4] at H; have c4b0 : decide (x5_1 < (l0.length : Int)) = true := decide_eq_true c4; clear c4; by_cases c5 : 0 ≤ x5_1
     ·rw [if_pos c5] at H; have c5b0 : decide (0 ≤ x5_1) = true := decide_eq_true c5; clear c5; by_cases c6 : x5_1 < (l1.length : Int)
      ·rw [if_pos c6] at H; have c6b0 : decide (x5_1 < (l1.length : Int)) = true := decide_eq_true c6; clear c6; by_cases c7 : (rdOf ByteArray.empty l0 x5_1).toList = (rdOf ByteArray.empty l1 x5_1).toList
       ·rw [if_pos c7] at H; have c7b0 : ((rdOf ByteArray.empty l0 x5_1).toList == (rdOf ByteArray.empty l1 x5_1).toList) = true := beq_iff_eq.mpr c7; have c7b1 : ((rdOf ByteArray.empty l0 x5_1).toList != (rdOf ByteArray.empty l1 x5_1).toList) = false := bne_eq_false_iff_eq.mpr c7; clear c7; have H' := Aside0.mk H; clear H; have p403 : 0 ≤ (x5_1 : Int) := of_decide_eq_true (by first | (with_reducible assumption) | assumption); have q403 : x5_1 < (l0.length : Int) := of_decide_eq_true (by first | (with_reducible assumption) | assumption); obtain ⟨ad403, e403, hx403_0⟩ := Kd.at_string HR0.out x5_1 p403 q403
        cases e403
        replace p403 := eq_true p403; replace q403 := eq_true q403; have p404 : 0 ≤ (x5_1 : Int) := of_decide_eq_true (by first | (with_reducible assumption) | assumption); have q404 : x5_1 < (l1.length : Int) := of_decide_eq_true (by first | (with_reducible assumption) | assumption); obtain ⟨ad404, e404, hx404_0⟩ := Kd.at_string HR1.out x5_1 p404 q404
        cases e404
        replace p404 := eq_true p404; replace q404 := eq_true q404; (go_wp2); (repeat (go_quiet (fail); try go_wp2)); go_roundg k1
        case measure => have := HK1.out; omega
        case rel => exact ⟨(wrap64 (x5_1 + 1)), zF, H', ⟨by have := HK1.out; omega⟩, zD⟩
       ·rw [if_neg c7] at H; have c7b0 : ((rdOf ByteArray.empty l0 x5_1).toList == (rdOf ByteArray.empty l1 x5_1).toList) = false := beq_eq_false_iff_ne.mpr c7; have c7b1 : ((rdOf ByteArray.empty l0 x5_1).toList != (rdOf ByteArray.empty l1 x5_1).toList) = true := bne_iff_ne.mpr c7; obtain rfl := Option.some.inj H; simp only [Option.some.injEq, Prod.mk.injEq] at H; obtain ⟨rfl⟩ := H; have p403 : 0 ≤ (x5_1 : Int) := of_decide_eq_true (by first | (with_reducible assumption) | assumption); have q403 : x5_1 < (l0.length : Int) := of_decide_eq_true (by first | (with_reducible assumption) | assumption); obtain ⟨ad403, e403, hx403_0⟩ := Kd.at_string HR0.out x5_1 p403 q403
        cases e403
        replace p403 := eq_true p403; replace q403 := eq_true q403; have p404 : 0 ≤ (x5_1 : Int) := of_decide_eq_true (by first | (with_reducible assumption) | assumption); have q404 : x5_1 < (l1.length : Int) := of_decide_eq_true (by first | (with_reducible assumption) | assumption); obtain ⟨ad404, e404, hx404_0⟩ := Kd.at_string HR1.out x5_1 p404 q404
        cases e404
        replace p404 := eq_true p404; replace q404 := eq_true q404; (go_wp2); (repeat (go_quiet (fail); try go_wp2)); (go_ret); exact ⟨zF, zD⟩
      ·rw [if_neg c6] at H; exact absurd H (by simp)
     ·rw [if_neg c5] at H; exact absurd H (by simp)
    ·rw [if_neg c4] at H; have c4b0 : decide (x5_1 < (l0.length : Int)) = false := decide_eq_false c4; clear c4; obtain rfl := Option.some.inj H; simp only [Option.some.injEq, Prod.mk.injEq] at H; obtain ⟨rfl⟩ := H; (go_wp2); (repeat (go_quiet (fail); try go_wp2)); (go_ret); exact ⟨zF, zD⟩
 ·rw [if_neg c3] at H; have c3b0 : ((l0.length : Int) == (l1.length : Int)) = false := beq_eq_false_iff_ne.mpr c3; have c3b1 : ((l0.length : Int) != (l1.length : Int)) = true := bne_iff_ne.mpr c3; (have c3b2 : (l0.length == l1.length) = false := by first | simpa using c3 | (simp at c3 ⊢; omega)); obtain rfl := Option.some.inj H; simp only [Option.some.injEq, Prod.mk.injEq] at H; obtain ⟨rfl⟩ := H; (go_enter Try.func54, Try.ntmps54); (go_wp2); (repeat (go_quiet (fail); try go_wp2)); (go_ret); exact ⟨zF, zD⟩

end Go.Proofs.Ytlphfgbeeckjnaa.PFnExactBestSails
