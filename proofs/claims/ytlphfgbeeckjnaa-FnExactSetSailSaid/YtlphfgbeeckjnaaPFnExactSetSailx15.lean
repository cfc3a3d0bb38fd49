-- Written by a program of this session (wip/tools/pp.sh).
import Derived.Test.YtlphfgbeeckjnaaPFnExactSetSailx0
import Derived.Test.YtlphfgbeeckjnaaPFnExactSetSailx10
import Derived.Test.YtlphfgbeeckjnaaPFnExactSetSailx14
namespace Go.Proofs.Ytlphfgbeeckjnaa.PFnExactSetSail
open Go.RowKit Go.Proofs.YtlphfgbeeckjnaaW.PrintWords Go.Proofs.YtlphfgbeeckjnaaW.PrintLast Go.Proofs.YtlphfgbeeckjnaaW.PrintMore Go.Proofs.Ytlphfgbeeckjnaa.Small
open Bool renaming true → T, false → F
attribute [local go_sem] max2_int min2_int max_two min_two max_three min_three max_four min_four   -- for this text's walks alone
set_option linter.unusedVariables false
set_option linter.unusedSimpArgs false

/-! ### impl_ValidPlan: function 86 -/
mutual
def impl_ValidPlan.j0 : Nat → Bool → List (S79) → Int → Int → Option (Bool)
 | 0, _, _, _, _ => none
 | k + 1, x22, x319000, x319001, x319002 => if x22 = true then (some false) else (impl_ValidPlan.l0 k x319000 (x319000.length : Int) 0 x319000 x319001 x319002)
def impl_ValidPlan.l0 : Nat → List (S79) → Int → Int → List (S79) → Int → Int → Option (Bool)
 | 0, _, _, _, _, _, _ => none
 | k + 1, x24, x25, x26, x319000, x319001, x319002 => if x26 < x25 then (if 0 ≤ x26 then (if x26 < (x24.length : Int) then ((impl_IsName.f k ((rd_T79 x24 x26).f0)).bind fun t323 => (if t323 = true then ((impl_ValidSail.f k ((rd_T79 x24 x26).f1)).bind fun t324 => (if t324 = true then (if x26 ≤ (x319000.length : Int) then ((impl_sailNamed.f (x319000.take (x26 : Int).toNat) ((rd_T79 x24 x26).f0)).bind fun t329 => (if t329 ≥ 0 then (some false) else (impl_ValidPlan.l0 k x24 x25 (wrap64 (x26 + 1)) x319000 x319001 x319002))) else (none)) else (some false))) else (some false))) else (none)) else (none)) else (some true)
end
def impl_ValidPlan.f (k : Nat) (l0_0 : List (S79)) (a0_1 : Int) (a0_2 : Int) : Option (Bool) := if (l0_0.length : Int) > 8 then (impl_ValidPlan.j0 k true l0_0 a0_1 a0_2) else ((impl_within.f a0_2 1 5000).bind fun t319 => (if t319 = true then ((impl_within.f a0_1 0 a0_2).bind fun t320 => (impl_ValidPlan.j0 k (!t320) l0_0 a0_1 a0_2)) else (impl_ValidPlan.j0 k true l0_0 a0_1 a0_2)))
theorem impl_ValidPlan.mono_l : ∀ k, (∀ y0 y1 y2 y3, LeO (impl_ValidPlan.j0 k y0 y1 y2 y3) (impl_ValidPlan.j0 (k + 1) y0 y1 y2 y3)) ∧ (∀ y0 y1 y2 y3 y4 y5, LeO (impl_ValidPlan.l0 k y0 y1 y2 y3 y4 y5) (impl_ValidPlan.l0 (k + 1) y0 y1 y2 y3 y4 y5))
 | 0 => ⟨fun _ _ _ _ r h => by simp [impl_ValidPlan.j0] at h, fun _ _ _ _ _ _ r h => by simp [impl_ValidPlan.l0] at h⟩
 | k + 1 => by
  obtain ⟨ih0, ih1⟩ := impl_ValidPlan.mono_l k
  refine ⟨?_, ?_⟩
  ·intro y0 y1 y2 y3
   unfold impl_ValidPlan.j0
   repeat' first
   | (with_reducible exact ih0 _ _ _ _)
   | (with_reducible exact ih1 _ _ _ _ _ _)
   | (with_reducible exact impl_IsName.mono _ _)
   | (with_reducible exact impl_ValidSail.mono _ _)
   | (with_reducible exact LeO.refl _)
   | (with_reducible exact LeO.none _)
   | (with_reducible refine LeO.ite ?_ ?_)
   | (with_reducible refine LeO.bind ?_ (fun _ => ?_))
   | exact ih0 _ _ _ _
   | exact ih1 _ _ _ _ _ _
   | exact impl_IsName.mono _ _
   | exact impl_ValidSail.mono _ _
   | exact LeO.none _
   | refine LeO.ite ?_ ?_
   | refine LeO.bind ?_ (fun _ => ?_)
  ·intro y0 y1 y2 y3 y4 y5
   unfold impl_ValidPlan.l0
   repeat' first
   | (with_reducible exact ih0 _ _ _ _)
   | (with_reducible exact ih1 _ _ _ _ _ _)
   | (with_reducible exact impl_IsName.mono _ _)
   | (with_reducible exact impl_ValidSail.mono _ _)
   | (with_reducible exact LeO.refl _)
   | (with_reducible exact LeO.none _)
   | (with_reducible refine LeO.ite ?_ ?_)
   | (with_reducible refine LeO.bind ?_ (fun _ => ?_))
   | exact ih0 _ _ _ _
   | exact ih1 _ _ _ _ _ _
   | exact impl_IsName.mono _ _
   | exact impl_ValidSail.mono _ _
   | exact LeO.none _
   | refine LeO.ite ?_ ?_
   | refine LeO.bind ?_ (fun _ => ?_)
theorem impl_ValidPlan.mono : ∀ a0 a1 a2 k, LeO (impl_ValidPlan.f k a0 a1 a2) (impl_ValidPlan.f (k + 1) a0 a1 a2) := by
 intro a0 a1 a2 k; obtain ⟨ih0, ih1⟩ := impl_ValidPlan.mono_l k; unfold impl_ValidPlan.f
 repeat' first
   | (with_reducible exact ih0 _ _ _ _)
   | (with_reducible exact ih1 _ _ _ _ _ _)
   | (with_reducible exact impl_IsName.mono _ _)
   | (with_reducible exact impl_ValidSail.mono _ _)
   | (with_reducible exact LeO.refl _)
   | (with_reducible exact LeO.none _)
   | (with_reducible refine LeO.ite ?_ ?_)
   | (with_reducible refine LeO.bind ?_ (fun _ => ?_))
   | exact ih0 _ _ _ _
   | exact ih1 _ _ _ _ _ _
   | exact impl_IsName.mono _ _
   | exact impl_ValidSail.mono _ _
   | exact LeO.none _
   | refine LeO.ite ?_ ?_
   | refine LeO.bind ?_ (fun _ => ?_)
def impl_ValidPlan.T6 : Bool × List (List Nat × List Nat) := (true, [([], []), ([0], [0]), ([1], [1]), ([2], [2]), ([3, 2], [3]), ([4], [4]), ([5, 4], [4, 5]), ([6, 4, 4], [4, 6]), ([7, 4], [4, 7]), ([4, 8], [4, 8]), ([9, 7], [9]), ([10], [10]), ([11, 10], [10, 11]), ([10], [10]), ([12, 13, 10], [10, 12, 13]), ([10], [10]), ([15, 10], [10, 15]), ([14, 16, 10, 10], [10, 14, 16]), ([17, 10], [10, 17]), ([10, 18], [10, 18])])
def impl_ValidPlan.B6 : List Nat := [0, 1, 3, 7, 15, 31, 63, 127, 255, 511, 1023, 2047, 4095, 2047, 16383, 2047, 34815, 131071, 262143, 524287]
theorem impl_ValidPlan.tab6 : rtab .any (opsOf Try.f86 6) = impl_ValidPlan.T6 := by kernel_rfl
theorem impl_ValidPlan.bits6 : waitsOk impl_ValidPlan.T6.2 impl_ValidPlan.B6 = true := by kernel_rfl
set_option maxHeartbeats 8000000 in
set_option maxRecDepth 100000 in
theorem impl_ValidPlan.calls (k : Nat) (A0_0 : Option Addr) (c0_0 : Nat) (l0_0 : List (S79)) (a0_1 : Int) (a0_2 : Int) (r : Bool) (w : World) (hr0_0 : Kd.C k79 w A0_0 l0_0.length l0_0) (hc0_0 : l0_0.length ≤ c0_0) (h : impl_ValidPlan.f k l0_0 a0_1 a0_2 = some r) :
  Calls Try.prog 86 #[.agg #[.slice A0_0 l0_0.length c0_0, .int .i64 a0_1, .int .i64 a0_2]] w fun e w' => e = .returned (.bool r) ∧ Below w.heap.size w w' := by
 have hu64 := Try.underlying64; have hu79 := Try.underlying79; have HR0_0 := Aside0.mk hr0_0; have HC0_0 := Aside0.mk hc0_0; clear hr0_0 hc0_0; have HB := Aside0.mk (Below.refl w.heap.size w); have H : (if (l0_0.length : Int) > 8 then (impl_ValidPlan.j0 k true l0_0 a0_1 a0_2) else ((impl_within.f a0_2 1 5000).bind fun t319 => (if t319 = true then ((impl_within.f a0_1 0 a0_2).bind fun t320 => (impl_ValidPlan.j0 k (!t320) l0_0 a0_1 a0_2)) else (impl_ValidPlan.j0 k true l0_0 a0_1 a0_2)))) = some r := h; clear h; have HC2 := Aside0.mk H; clear H; (go_enter Try.func86, Try.ntmps86); (go_upto_region 1 with (first | ((with_reducible refine gate_dst (N := 1) rfl ?_); refine box_event ?hg (N := 1) ?hd (cs := #[.slice A0_0 l0_0.length c0_0, .int .i64 a0_1, .int .i64 a0_2]) (t := 64) ?hr ?_; (case hd => rfl); (case hg => rfl); (case hr => first | (go_simp; done) | (go_simp; rfl)); intro gb318 hg w3 hbox hb; have n0_ := pS HB hb; have n1_ := Aside0.mk (hbox); have n2_ := pG HB hg; have n3_ := pG HB hg; clear HB; have HB := n0_; have BK318 := n1_; have GW318 := n2_; have GE318 := n3_; clear n0_ n1_ n2_ n3_; clear hb hbox hg))); (try simp only [Act.put, List.setIfInBounds_toArray, List.set_cons_zero, List.set_cons_succ]); go_cut [22] (fun v22 wc => ∃ (kq : Nat) (x22_1 : Bool), v22 = .bool x22_1 ∧ Aside0 (impl_ValidPlan.j0 kq x22_1 l0_0 a0_1 a0_2 = some r) ∧ Aside0 (kq ≤ k) ∧ Aside0 (wc.heap[gb318]? = some (.cells #[(.slice A0_0 l0_0.length c0_0), .int .i64 a0_1, .int .i64 a0_2] 64 (0, 0))) ∧ Aside0 (Below w.heap.size w wc))
 case first =>
  have H := HC2.out; clear HC2; by_cases c4 : (l0_0.length : Int) > 8
  ·rw [if_pos c4] at H; have c4b0 : decide (8 < (l0_0.length : Int)) = true := decide_eq_true c4; have c4b1 : decide (8 < l0_0.length) = true := decide_eq_true (by omega); clear c4; (first | rw [c4b0] | (simp only [i64_w, i32_w]; rw [c4b0]) | skip); have H' := Aside0.mk H; clear H; obtain ⟨hcz5_0, hcz5_1, hcz5_2, hfz5_0, hfz5_1, hfz5_2⟩ := cz3 BK318; (go_wp2); go_meet
   case rel => exact ⟨_, (true), zF, H', ⟨by first | omega | exact Nat.le_refl _⟩, ⟨by refine zB ?_; exact BK318.out⟩, ⟨pR HB⟩⟩
  ·rw [if_neg c4] at H; have c4b0 : decide (8 < (l0_0.length : Int)) = false := decide_eq_false c4; have c4b1 : decide (8 < l0_0.length) = false := decide_eq_false (by omega); clear c4; (first | rw [c4b0] | (simp only [i64_w, i32_w]; rw [c4b0]) | skip); replace H := Option.bind_eq_some_iff.mp H; obtain ⟨t319, A60, H⟩ := H; replace H : (if t319 = true then ((impl_within.f a0_1 0 a0_2).bind fun t320 => (impl_ValidPlan.j0 k (!t320) l0_0 a0_1 a0_2)) else (impl_ValidPlan.j0 k true l0_0 a0_1 a0_2)) = some r := H; have A6 := Aside0.mk A60; clear A60; by_cases c7 : t319 = true
   ·subst c7; (have H1 : ((impl_within.f a0_1 0 a0_2).bind fun t320 => (impl_ValidPlan.j0 k (!t320) l0_0 a0_1 a0_2)) = some r := by rw [if_pos rfl] at H; exact H); clear H; have H := H1; clear H1; replace H := Option.bind_eq_some_iff.mp H; obtain ⟨t320, A80, H⟩ := H; replace H : (impl_ValidPlan.j0 k (!t320) l0_0 a0_1 a0_2) = some r := H; have A8 := Aside0.mk A80; clear A80; have H' := Aside0.mk H; clear H; obtain ⟨hcz9_0, hcz9_1, hcz9_2, hfz9_0, hfz9_1, hfz9_2⟩ := cz3 BK318; (go_wp2_with (first | (go_at_call 107; (with_reducible refine (impl_within.calls a0_2 1 5000 true _ A6.out).mono ?_); rintro e w' ⟨rfl, ⟨nd, rfl⟩⟩) | (go_at_call 107; (with_reducible refine (impl_within.calls a0_1 0 a0_2 t320 _ A8.out).mono ?_); rintro e w' ⟨rfl, ⟨nd, rfl⟩⟩))); go_meet
    case rel => exact ⟨_, (!t320), zF, H', ⟨by first | omega | exact Nat.le_refl _⟩, ⟨by refine zB ?_; exact BK318.out⟩, ⟨pR HB⟩⟩
   ·replace c7 := Bool.eq_false_iff.mpr c7; subst c7; (have H1 : (impl_ValidPlan.j0 k true l0_0 a0_1 a0_2) = some r := by rw [if_neg (show ¬ (false = true) by decide)] at H; exact H); clear H; have H := H1; clear H1; have H' := Aside0.mk H; clear H; obtain ⟨hcz10_0, hcz10_1, hcz10_2, hfz10_0, hfz10_1, hfz10_2⟩ := cz3 BK318; (go_wp2_with (first | (go_at_call 107; (with_reducible refine (impl_within.calls a0_2 1 5000 false _ A6.out).mono ?_); rintro e w' ⟨rfl, ⟨nd, rfl⟩⟩))); go_meet
    case rel => exact ⟨_, (true), zF, H', ⟨by first | omega | exact Nat.le_refl _⟩, ⟨by refine zB ?_; exact BK318.out⟩, ⟨pR HB⟩⟩
 case rest =>
  clear HC2; (try clear p2); (try clear c4); (try clear c4b0); (try clear c4b1); (try clear c7); (try clear c8); (try clear hcz10_0); (try clear hcz10_1); (try clear hcz10_2); (try clear hcz5_0); (try clear hcz5_1); (try clear hcz5_2); (try clear hcz9_0); (try clear hcz9_1); (try clear hcz9_2); (try clear hfz10_0); (try clear hfz10_1); (try clear hfz10_2); (try clear hfz5_0); (try clear hfz5_1); (try clear hfz5_2); (try clear hfz9_0); (try clear hfz9_1); (try clear hfz9_2); obtain ⟨kq, x22_1, rfl, HA, HJ1, BK318, HB⟩ := hcut
  cases kq with
  | zero => exact absurd HA.out (by simp [impl_ValidPlan.j0])
  | succ kj1 =>
   have H := HA.out; clear HA; simp only [impl_ValidPlan.j0] at H; by_cases c11 : x22_1 = true
   ·subst c11; (have H1 : (some false) = some r := by rw [if_pos rfl] at H; exact H); clear H; have H := H1; clear H1; obtain rfl := Option.some.inj H; simp only [Option.some.injEq, Prod.mk.injEq] at H; obtain ⟨rfl⟩ := H; (go_wp2); (go_ret); exact ⟨zE, pR HB⟩
   ·replace c11 := Bool.eq_false_iff.mpr c11; subst c11; (have H1 : (impl_ValidPlan.l0 kj1 l0_0 (l0_0.length : Int) 0 l0_0 a0_1 a0_2) = some r := by rw [if_neg (show ¬ (false = true) by decide)] at H; exact H); clear H; have H := H1; clear H1; have H' := Aside0.mk H; clear H; obtain ⟨hcz12_0, hcz12_1, hcz12_2, hfz12_0, hfz12_1, hfz12_2⟩ := cz3 BK318; (go_wp2); go_loopg [26] kj1 (fun kq v26 w' => ∃ (x26_2 : Int), v26 = .int .i64 x26_2 ∧ Aside0 (impl_ValidPlan.l0 kq l0_0 (l0_0.length : Int) x26_2 l0_0 a0_1 a0_2 = some r) ∧ Aside0 (kq ≤ kj1) ∧ Aside0 (w'.heap[gb318]? = some (.cells #[(.slice A0_0 l0_0.length c0_0), .int .i64 a0_1, .int .i64 a0_2] 64 (0, 0))) ∧ Aside0 (Below w.heap.size w w'))
    case atStart => exact ⟨(0), zF, H', ⟨Nat.le_refl _⟩, ⟨by refine zB ?_; exact BK318.out⟩, ⟨pR HB⟩⟩
    case round =>
     clear H'; (try clear c1); (try clear p2); (try clear c4); (try clear c4b0); (try clear c4b1); (try clear c7); (try clear c8); (try clear c11); (try clear hcz10_0); (try clear hcz10_1); (try clear hcz10_2); (try clear hcz12_0); (try clear hcz12_1); (try clear hcz12_2); (try clear hcz5_0); (try clear hcz5_1); (try clear hcz5_2); (try clear hcz9_0); (try clear hcz9_1); (try clear hcz9_2); (try clear hfz10_0); (try clear hfz10_1); (try clear hfz10_2); (try clear hfz12_0); (try clear hfz12_1); (try clear hfz12_2); (try clear hfz5_0); (try clear hfz5_1); (try clear hfz5_2); (try clear hfz9_0); (try clear hfz9_1); (try clear hfz9_2); (try clear p2); obtain ⟨x26_2, rfl, HA, HK2, BK318, HB⟩ := hrel
     cases gk with
     | zero => exact absurd HA.out (by simp [impl_ValidPlan.l0])
     | succ k2 =>
      have H := HA.out; clear HA; simp only [impl_ValidPlan.l0] at H; by_cases c13 : x26_2 < (l0_0.length : Int)
      ·rw [if_pos c13] at H; have c13b0 : decide (x26_2 < (l0_0.length : Int)) = true := decide_eq_true c13; clear c13; by_cases c14 : 0 ≤ x26_2
       ·rw [if_pos c14] at H; have c14b0 : decide (0 ≤ x26_2) = true := decide_eq_true c14; clear c14; by_cases c15 : x26_2 < (l0_0.length : Int)
        ·rw [if_pos c15] at H; have c15b0 : decide (x26_2 < (l0_0.length : Int)) = true := decide_eq_true c15; clear c15; have HF_ := Aside0.mk H; clear H; have p321 : 0 ≤ (x26_2 : Int) := of_decide_eq_true (by first | (with_reducible assumption) | assumption); have q321 : x26_2 < (l0_0.length : Int) := of_decide_eq_true (by first | (with_reducible assumption) | assumption); obtain ⟨ad321, A321_1, c321_1, e321, hx321_0, hx321_1, hx321_2, hl321_1, hi321_1⟩ := at_T79 HR0_0.out x26_2 p321 q321
         cases e321
         replace hx321_0 := bC HB hx321_0; replace hx321_1 := bC HB hx321_1; replace hx321_2 := bC HB hx321_2; have HR321_1 := Aside0.mk hi321_1; have HC321_1 := Aside0.mk hl321_1; clear hi321_1 hl321_1; replace p321 := eq_true p321; replace q321 := eq_true q321; (go_upto_region 6 with (first | ((with_reducible refine gate_dst (N := 4) rfl ?_); refine box_event ?hg (N := 4) ?hd (cs := #[.string (⟨#[]⟩ : ByteArray), .slice none 0 0, .bool false]) (t := 79) ?hr ?_; (case hd => rfl); (case hg => rfl); (case hr => first | (go_simp; done) | (go_simp; rfl)); intro gb322 hg w16 hbox hb; have n0_ := pB BK318 hb; have n1_ := pS HB hb; have n2_ := Aside0.mk (hbox); have n3_ := pG HB hg; have n4_ := pG HB hg; have n5_ := pN BK318 hg; have n6_ := pM BK318 hg; clear BK318 HB; have BK318 := n0_; have HB := n1_; have BK322 := n2_; have GW322 := n3_; have GE322 := n4_; have NB318_322 := n5_; have NB322_318 := n6_; clear n0_ n1_ n2_ n3_ n4_ n5_ n6_; clear hb hbox hg; have hnb17 := NB322_318.out; have hnc17 := NB318_322.out; obtain ⟨hcz18_0, hcz18_1, hcz18_2, hfz18_0, hfz18_1, hfz18_2⟩ := cz3 BK322))); (try simp only [Act.put, List.setIfInBounds_toArray, List.set_cons_zero, List.set_cons_succ]); have H := HF_.out; clear HF_; replace H := Option.bind_eq_some_iff.mp H; obtain ⟨t323, A190, H⟩ := H; replace H : (if t323 = true then ((impl_ValidSail.f k2 ((rd_T79 l0_0 x26_2).f1)).bind fun t324 => (if t324 = true then (if x26_2 ≤ (l0_0.length : Int) then ((impl_sailNamed.f (l0_0.take (x26_2 : Int).toNat) ((rd_T79 l0_0 x26_2).f0)).bind fun t329 => (if t329 ≥ 0 then (some false) else (impl_ValidPlan.l0 k2 l0_0 (l0_0.length : Int) (wrap64 (x26_2 + 1)) l0_0 a0_1 a0_2))) else (none)) else (some false))) else (some false)) = some r := H; have A19 := Aside0.mk A190; clear A190; by_cases c20 : t323 = true
         ·subst c20; (have H1 : ((impl_ValidSail.f k2 ((rd_T79 l0_0 x26_2).f1)).bind fun t324 => (if t324 = true then (if x26_2 ≤ (l0_0.length : Int) then ((impl_sailNamed.f (l0_0.take (x26_2 : Int).toNat) ((rd_T79 l0_0 x26_2).f0)).bind fun t329 => (if t329 ≥ 0 then (some false) else (impl_ValidPlan.l0 k2 l0_0 (l0_0.length : Int) (wrap64 (x26_2 + 1)) l0_0 a0_1 a0_2))) else (none)) else (some false))) = some r := by rw [if_pos rfl] at H; exact H); clear H; have H := H1; clear H1; replace H := Option.bind_eq_some_iff.mp H; obtain ⟨t324, A210, H⟩ := H; replace H : (if t324 = true then (if x26_2 ≤ (l0_0.length : Int) then ((impl_sailNamed.f (l0_0.take (x26_2 : Int).toNat) ((rd_T79 l0_0 x26_2).f0)).bind fun t329 => (if t329 ≥ 0 then (some false) else (impl_ValidPlan.l0 k2 l0_0 (l0_0.length : Int) (wrap64 (x26_2 + 1)) l0_0 a0_1 a0_2))) else (none)) else (some false)) = some r := H; have A21 := Aside0.mk A210; clear A210; by_cases c22 : t324 = true
          ·subst c22; (have H1 : (if x26_2 ≤ (l0_0.length : Int) then ((impl_sailNamed.f (l0_0.take (x26_2 : Int).toNat) ((rd_T79 l0_0 x26_2).f0)).bind fun t329 => (if t329 ≥ 0 then (some false) else (impl_ValidPlan.l0 k2 l0_0 (l0_0.length : Int) (wrap64 (x26_2 + 1)) l0_0 a0_1 a0_2))) else (none)) = some r := by rw [if_pos rfl] at H; exact H); clear H; have H := H1; clear H1; have c23b0 := eq_true (of_decide_eq_true (by first | (with_reducible assumption) | assumption) : 0 ≤ x26_2); by_cases c24 : x26_2 ≤ (l0_0.length : Int)
           ·rw [if_pos c24] at H; have c24b0 := eq_true c24; have c24b1 : decide (x26_2 ≤ (l0_0.length : Int)) = true := decide_eq_true c24; clear c24; obtain ⟨y325, hy325⟩ : ∃ y_ : List (S79), y_ = (l0_0.take (x26_2 : Int).toNat) := ⟨_, rfl⟩; (replace H : ((impl_sailNamed.f y325 ((rd_T79 l0_0 x26_2).f0)).bind fun t329 => (if t329 ≥ 0 then (some false) else (impl_ValidPlan.l0 k2 l0_0 (l0_0.length : Int) (wrap64 (x26_2 + 1)) l0_0 a0_1 a0_2))) = some r := by first | (rw [hy325]; with_reducible exact H) | (have H2_ := (Option.bind_some _ _).symm.trans H; rw [hy325]; with_reducible exact H2_) | (have H2_ := (Option.bind_some _ _).symm.trans H; with_reducible exact H2_) | with_reducible exact H | (rw [hy325]; exact H) | exact H); have Ny325 := Aside0.mk hy325; clear hy325; replace H := Option.bind_eq_some_iff.mp H; obtain ⟨t329, A250, H⟩ := H; replace H : (if t329 ≥ 0 then (some false) else (impl_ValidPlan.l0 k2 l0_0 (l0_0.length : Int) (wrap64 (x26_2 + 1)) l0_0 a0_1 a0_2)) = some r := H; have A25 := Aside0.mk A250; clear A250; have HF_ := Aside0.mk H; clear H; (try go_wp2); have n0_ : Aside0 ((((w16.setCell ⟨gb322, 0, none⟩ (.string ((rd_T79 l0_0 x26_2).f0))).setCell ⟨gb322, 1, none⟩ (.slice A321_1 ((rd_T79 l0_0 x26_2).f1).length c321_1)).setCell ⟨gb322, 2, none⟩ (.bool ((rd_T79 l0_0 x26_2).f2))).heap[gb318]? = some (.cells #[.slice (some ad321) l0_0.length c0_0, .int .i64 a0_1, .int .i64 a0_2] 64 (0, 0))) := ⟨by refine zB ?_; refine blk_far ?_ NB318_322.out _; refine zB ?_; refine blk_far ?_ NB318_322.out _; refine zB ?_; refine blk_far ?_ NB318_322.out _; refine zB ?_; exact BK318.out⟩; have n1_ : Aside0 ((((w16.setCell ⟨gb322, 0, none⟩ (.string ((rd_T79 l0_0 x26_2).f0))).setCell ⟨gb322, 1, none⟩ (.slice A321_1 ((rd_T79 l0_0 x26_2).f1).length c321_1)).setCell ⟨gb322, 2, none⟩ (.bool ((rd_T79 l0_0 x26_2).f2))).heap[gb322]? = some (.cells #[.string ((rd_T79 l0_0 x26_2).f0), .slice A321_1 ((rd_T79 l0_0 x26_2).f1).length c321_1, .bool ((rd_T79 l0_0 x26_2).f2)] 79 (0, 0))) := ⟨by refine zB ?_; refine blk_put (cs := #[.string ((rd_T79 l0_0 x26_2).f0), .slice A321_1 ((rd_T79 l0_0 x26_2).f1).length c321_1, .bool false]) ?_ 2 _ rfl; refine zB ?_; refine blk_put (cs := #[.string ((rd_T79 l0_0 x26_2).f0), .slice none 0 0, .bool false]) ?_ 1 _ rfl; refine zB ?_; refine blk_put (cs := #[.string (⟨#[]⟩ : ByteArray), .slice none 0 0, .bool false]) ?_ 0 _ rfl; refine zB ?_; exact BK322.out⟩; have n2_ : Aside0 (Below w.heap.size w (((w16.setCell ⟨gb322, 0, none⟩ (.string ((rd_T79 l0_0 x26_2).f0))).setCell ⟨gb322, 1, none⟩ (.slice A321_1 ((rd_T79 l0_0 x26_2).f1).length c321_1)).setCell ⟨gb322, 2, none⟩ (.bool ((rd_T79 l0_0 x26_2).f2)))) := ⟨pR HB⟩; (try clear BK318); (try clear BK322); (try clear HB); generalize (((w16.setCell ⟨gb322, 0, none⟩ (.string ((rd_T79 l0_0 x26_2).f0))).setCell ⟨gb322, 1, none⟩ (.slice A321_1 ((rd_T79 l0_0 x26_2).f1).length c321_1)).setCell ⟨gb322, 2, none⟩ (.bool ((rd_T79 l0_0 x26_2).f2))) = w26 at n0_ n1_ n2_ ⊢; have BK318 := n0_; have BK322 := n1_; have HB := n2_; clear n0_ n1_ n2_; have n0_ := Aside0.mk (blk_drew BK318.out); have n1_ := Aside0.mk (blk_drew BK322.out); have n2_ := Aside0.mk (below_drew1 HB.out); clear BK318; clear BK322; clear HB; have BK318 := n0_; have BK322 := n1_; have HB := n2_; clear n0_ n1_ n2_; refine start_ (n := 20) (S := fun w' => w'.cell? ⟨gb322, 0, none⟩ = some (.string ((rd_T79 l0_0 x26_2).f0)) ∧ w'.cell? ⟨gb322, 1, none⟩ = some (.slice A321_1 ((rd_T79 l0_0 x26_2).f1).length c321_1) ∧ w'.cell? ⟨gb322, 2, none⟩ = some (.bool ((rd_T79 l0_0 x26_2).f2)) ∧ w'.cell? ⟨gb318, 0, none⟩ = some (.slice (some ad321) l0_0.length c0_0) ∧ w'.cell? ⟨gb318, 1, none⟩ = some (.int .i64 a0_1) ∧ w'.cell? ⟨gb318, 2, none⟩ = some (.int .i64 a0_2)) (ds := []) #[F,F,F,F,F,F,F,F,F,F,F,F,F,F,F,F,F,F,F,F] (by kernel_rfl) rfl rfl ⟨(blk_cell BK322.out 0).trans rfl, (blk_cell BK322.out 1).trans rfl, (blk_cell BK322.out 2).trans rfl, (blk_cell BK318.out 0).trans rfl, (blk_cell BK318.out 1).trans rfl, (blk_cell BK318.out 2).trans rfl⟩ (fun hHeld => ?_); refine with_tabW impl_ValidPlan.tab6 impl_ValidPlan.bits6 (fun HT_ HW_ => ?_); generalize w26.drew = w27 at BK318 BK322 HB hHeld ⊢; refine pure_ (i := 0) (N := some 31) (v := ?_) (a' := ?_) #[T,F,F,F,F,F,F,F,F,F,F,F,F,F,F,F,F,F,F,F] rfl rfl (any_of HT_.out (by kernel_rfl)) (fun _ _ _ h => h) (Or.inl ⟨by rfl, ?_⟩) ?_ ?_; rotate_left
            ·intro w'; (go_simp); with_reducible rfl
            rotate_left
            ·simp only [NS]; rfl
            refine take_ (i := 1) (N := some 32) (v := ?_) (a' := ?_) #[T,T,F,F,F,F,F,F,F,F,F,F,F,F,F,F,F,F,F,F] rfl rfl (take_ofW HT_.out HW_.out (by kernel_rfl)) (fun _ _ _ h => h) (Or.inl ⟨by rfl, ?_⟩) hHeld ?_ ?_; rotate_left
            ·rintro w' ⟨s0, s1, s2, s3, s4, s5⟩; (go_simp); with_reducible rfl
            rotate_left
            ·simp only [NS]; rfl
            refine one_ (i := 2) (N := some 33) #[T,T,T,F,F,F,F,F,F,F,F,F,F,F,F,F,F,F,F,F] rfl rfl (one_of HT_.out (by kernel_rfl)) (by decide) (fun K hK => ?_); refine goes_ Try.func99 (by kernel_rfl) rfl #[.string ((rd_T79 l0_0 x26_2).f0)] (by rfl) rfl rfl zM ?_; (with_reducible refine (impl_IsName.calls k2 ((rd_T79 l0_0 x26_2).f0) true _ A19.out).mono ?_); rintro e w' ⟨rfl, ⟨nd, rfl⟩⟩; refine ⟨_, rfl, ?_⟩; refine hK.out _ _ ⟨(blk_cell BK322.out 0).trans rfl, (blk_cell BK322.out 1).trans rfl, (blk_cell BK322.out 2).trans rfl, (blk_cell BK318.out 0).trans rfl, (blk_cell BK318.out 1).trans rfl, (blk_cell BK318.out 2).trans rfl⟩ (fun hHeld => ?_); clear hK K; refine norm_ (a' := ?_) ?_ ?_; rotate_left
            ·(show Act.put _ (some 33) _ = _); simp only [NS]; rfl
            refine pure_ (i := 3) (N := some 34) (v := ?_) (a' := ?_) #[T,T,T,T,F,F,F,F,F,F,F,F,F,F,F,F,F,F,F,F] rfl rfl (any_of HT_.out (by kernel_rfl)) (fun _ _ _ h => h) (Or.inl ⟨by rfl, ?_⟩) ?_ ?_; rotate_left
            ·intro w'; (go_simp); with_reducible rfl
            rotate_left
            ·simp only [NS]; rfl
            refine pure_ (i := 4) (N := some 35) (v := ?_) (a' := ?_) #[T,T,T,T,T,F,F,F,F,F,F,F,F,F,F,F,F,F,F,F] rfl rfl (any_of HT_.out (by kernel_rfl)) (fun _ _ _ h => h) (Or.inl ⟨by rfl, ?_⟩) ?_ ?_; rotate_left
            ·intro w'; (go_simp); with_reducible rfl
            rotate_left
            ·simp only [NS]; rfl
            refine pure_ (i := 5) (N := some 36) (v := ?_) (a' := ?_) #[T,T,T,T,T,T,F,F,F,F,F,F,F,F,F,F,F,F,F,F] rfl rfl (any_of HT_.out (by kernel_rfl)) (fun _ _ _ h => h) (Or.inl ⟨by rfl, ?_⟩) ?_ ?_; rotate_left
            ·intro w'; (go_simp); with_reducible rfl
            rotate_left
            ·simp only [NS]; rfl
            refine take_ (i := 6) (N := some 37) (v := ?_) (a' := ?_) #[T,T,T,T,T,T,T,F,F,F,F,F,F,F,F,F,F,F,F,F] rfl rfl (take_ofW HT_.out HW_.out (by kernel_rfl)) (fun _ _ _ h => h) (Or.inl ⟨by rfl, ?_⟩) hHeld ?_ ?_; rotate_left
            ·rintro w' ⟨s0, s1, s2, s3, s4, s5⟩; (go_simp); with_reducible rfl
            rotate_left
            ·simp only [NS]; rfl
            refine one_ (i := 7) (N := some 38) #[T,T,T,T,T,T,T,T,F,F,F,F,F,F,F,F,F,F,F,F] rfl rfl (one_of HT_.out (by kernel_rfl)) (by decide) (fun K hK => ?_); refine goes_ Try.func100 (by kernel_rfl) rfl #[.slice A321_1 ((rd_T79 l0_0 x26_2).f1).length c321_1] (by rfl) rfl rfl zM ?_; (with_reducible refine (impl_ValidSail.calls k2 _ _ ((rd_T79 l0_0 x26_2).f1) true _ ?side1 ?side2 A21.out).mono ?_); (case side1 => (refine zC ?_; exact (Kd.C_below HR321_1.out (pR HB)))); (case side2 => exact HC321_1.out); rintro e w28 ⟨rfl, hb⟩; refine ⟨_, rfl, ?_⟩; have n0_ := pB BK318 hb; have n1_ := pB BK322 hb; have n2_ := pS HB hb; clear BK318; clear BK322; clear HB; have BK318 := n0_; have BK322 := n1_; have HB := n2_; clear n0_ n1_ n2_; (try clear hb); (try clear hb2); (try clear hk); (try clear hi); have q29 : (x26_2 : Int) ≤ ((l0_0.length : Int) : Int) := of_decide_eq_true (by first | (with_reducible assumption) | assumption); obtain ⟨i029, hi029, _, hsz29, _⟩ := info_parts info79; have hroom29 : l0_0.length ≤ c0_0 := HC0_0.out; have hC29 : Kd.C k79 _ (some ad321) l0_0.length l0_0 := HR0_0.out; have hcut29 := cut_to (P := Try.prog) 62 79 .i64 Try.underlying62 hi029 (some ad321) l0_0.length c0_0 x26_2 (of_decide_eq_true (by first | (with_reducible assumption) | assumption)) q29 hroom29; have hr29 := Kd.C_take (m := (x26_2 : Int).toNat) hC29 (by omega); have hy29 : y325.length = (x26_2 : Int).toNat := (by rw [Ny325.out, List.length_take]; omega); rw [← Ny325.out] at hr29; rw [← hy29] at hcut29; have HR328 := Aside0.mk hr29; have HC328 := Aside0.mk (show y325.length ≤ c0_0 from by omega); clear hr29 hC29 hroom29 hi029 hsz29; have KY29 := Aside0.mk hy29; clear hy29; replace q29 := eq_true q29; refine hK.out _ _ ⟨(blk_cell BK322.out 0).trans rfl, (blk_cell BK322.out 1).trans rfl, (blk_cell BK322.out 2).trans rfl, (blk_cell BK318.out 0).trans rfl, (blk_cell BK318.out 1).trans rfl, (blk_cell BK318.out 2).trans rfl⟩ (fun hHeld => ?_); clear hK K; refine norm_ (a' := ?_) ?_ ?_; rotate_left
            ·(show Act.put _ (some 38) _ = _); simp only [NS]; rfl
            refine pure_ (i := 8) (N := some 39) (v := ?_) (a' := ?_) #[T,T,T,T,T,T,T,T,T,F,F,F,F,F,F,F,F,F,F,F] rfl rfl (any_of HT_.out (by kernel_rfl)) (fun _ _ _ h => h) (Or.inl ⟨by rfl, ?_⟩) ?_ ?_; rotate_left
            ·intro w'; (go_simp); with_reducible rfl
            rotate_left
            ·simp only [NS]; rfl
            refine pure_ (i := 9) (N := some 40) (v := ?_) (a' := ?_) #[T,T,T,T,T,T,T,T,T,T,F,F,F,F,F,F,F,F,F,F] rfl rfl (any_of HT_.out (by kernel_rfl)) (fun _ _ _ h => h) (Or.inl ⟨by rfl, ?_⟩) ?_ ?_; rotate_left
            ·intro w'; (go_simp); with_reducible rfl
            rotate_left
            ·simp only [NS]; rfl
            refine pure_ (i := 10) (N := some 41) (v := ?_) (a' := ?_) #[T,T,T,T,T,T,T,T,T,T,T,F,F,F,F,F,F,F,F,F] rfl rfl (any_of HT_.out (by kernel_rfl)) (fun _ _ _ h => h) (Or.inl ⟨by rfl, ?_⟩) ?_ ?_; rotate_left
            ·intro w'; (go_simp); with_reducible rfl
            rotate_left
            ·simp only [NS]; rfl
            refine pure_ (i := 11) (N := some 42) (v := ?_) (a' := ?_) #[T,T,T,T,T,T,T,T,T,T,T,T,F,F,F,F,F,F,F,F] rfl rfl (any_of HT_.out (by kernel_rfl)) (fun _ _ _ h => h) (Or.inl ⟨by rfl, ?_⟩) ?_ ?_; rotate_left
            ·intro w'; (go_simp); with_reducible rfl
            rotate_left
            ·simp only [NS]; rfl
            refine pure_ (i := 13) (N := some 44) (v := ?_) (a' := ?_) #[T,T,T,T,T,T,T,T,T,T,T,T,F,T,F,F,F,F,F,F] rfl rfl (any_of HT_.out (by kernel_rfl)) (fun _ _ _ h => h) (Or.inl ⟨by rfl, ?_⟩) ?_ ?_; rotate_left
            ·intro w'; (go_simp); with_reducible rfl
            rotate_left
            ·simp only [NS]; rfl
            refine pure_ (i := 15) (N := some 46) (v := ?_) (a' := ?_) #[T,T,T,T,T,T,T,T,T,T,T,T,F,T,F,T,F,F,F,F] rfl rfl (any_of HT_.out (by kernel_rfl)) (fun _ _ _ h => h) (Or.inl ⟨by rfl, ?_⟩) ?_ ?_; rotate_left
            ·intro w'; (go_simp); with_reducible rfl
            rotate_left
            ·simp only [NS]; rfl
            refine take_ (i := 12) (N := some 43) (v := ?_) (a' := ?_) #[T,T,T,T,T,T,T,T,T,T,T,T,T,T,F,T,F,F,F,F] rfl rfl (take_ofW HT_.out HW_.out (by kernel_rfl)) (fun _ _ _ h => h) (Or.inl ⟨by rfl, ?_⟩) hHeld ?_ ?_; rotate_left
            ·rintro w' ⟨s0, s1, s2, s3, s4, s5⟩; (go_simp); with_reducible rfl
            rotate_left
            ·simp only [NS]; rfl
            refine pure_ (i := 14) (N := some 45) (v := ?_) (a' := ?_) #[T,T,T,T,T,T,T,T,T,T,T,T,T,T,T,T,F,F,F,F] rfl rfl (any_of HT_.out (by kernel_rfl)) (fun _ _ _ h => h) (Or.inl ⟨by rfl, ?_⟩) ?_ ?_; rotate_left
            ·intro w'; (go_simp); with_reducible rfl
            rotate_left
            ·simp only [NS]; rfl
            refine take_ (i := 16) (N := some 47) (v := ?_) (a' := ?_) #[T,T,T,T,T,T,T,T,T,T,T,T,T,T,T,T,T,F,F,F] rfl rfl (take_ofW HT_.out HW_.out (by kernel_rfl)) (fun _ _ _ h => h) (Or.inl ⟨by rfl, ?_⟩) hHeld ?_ ?_; rotate_left
            ·rintro w' ⟨s0, s1, s2, s3, s4, s5⟩; (go_simp); with_reducible rfl
            rotate_left
            ·simp only [NS]; rfl
            refine one_ (i := 17) (N := some 48) #[T,T,T,T,T,T,T,T,T,T,T,T,T,T,T,T,T,T,F,F] rfl rfl (one_of HT_.out (by kernel_rfl)) (by decide) (fun K hK => ?_); refine goes_ Try.func92 (by kernel_rfl) rfl #[.slice (some ad321) y325.length c0_0, .string ((rd_T79 l0_0 x26_2).f0)] (by rfl) rfl rfl zM ?_; (with_reducible refine (impl_sailNamed.calls _ _ y325 ((rd_T79 l0_0 x26_2).f0) t329 _ ?side1 ?side2 A25.out).mono ?_); (case side1 => (refine zC ?_; exact (Kd.C_below HR328.out HB.out))); (case side2 => exact HC328.out); rintro e w30 ⟨rfl, hb⟩; refine ⟨_, rfl, ?_⟩; have n0_ := pB BK318 hb; have n1_ := pB BK322 hb; have n2_ := pS HB hb; clear BK318; clear BK322; clear HB; have BK318 := n0_; have BK322 := n1_; have HB := n2_; clear n0_ n1_ n2_; (try clear hb); (try clear hb2); (try clear hk); (try clear hi); refine hK.out _ _ ⟨(blk_cell BK322.out 0).trans rfl, (blk_cell BK322.out 1).trans rfl, (blk_cell BK322.out 2).trans rfl, (blk_cell BK318.out 0).trans rfl, (blk_cell BK318.out 1).trans rfl, (blk_cell BK318.out 2).trans rfl⟩ (fun hHeld => ?_); clear hK K; refine norm_ (a' := ?_) ?_ ?_; rotate_left
            ·(show Act.put _ (some 48) _ = _); simp only [NS]; rfl
            refine pure_ (i := 18) (N := some 49) (v := ?_) (a' := ?_) #[T,T,T,T,T,T,T,T,T,T,T,T,T,T,T,T,T,T,T,F] rfl rfl (any_of HT_.out (by kernel_rfl)) (fun _ _ _ h => h) (Or.inl ⟨by rfl, ?_⟩) ?_ ?_; rotate_left
            ·intro w'; (go_simp); with_reducible rfl
            rotate_left
            ·simp only [NS]; rfl
            refine pure_ (i := 19) (N := some 50) (v := ?_) (a' := ?_) #[T,T,T,T,T,T,T,T,T,T,T,T,T,T,T,T,T,T,T,T] rfl rfl (any_of HT_.out (by kernel_rfl)) (fun _ _ _ h => h) (Or.inl ⟨by rfl, ?_⟩) ?_ ?_; rotate_left
            ·intro w'; (go_simp); with_reducible rfl
            rotate_left
            ·simp only [NS]; rfl
            refine done_ (done_of HT_.out (by kernel_rfl)) ?_; (go_upto_if 50 with (fail)); have H := HF_.out; clear HF_; by_cases c31 : t329 ≥ 0
            ·rw [if_pos c31] at H; have c31b0 : decide (0 ≤ t329) = true := decide_eq_true c31; clear c31; (first | rw [c31b0] | (simp only [i64_w, i32_w]; rw [c31b0]) | skip); obtain rfl := Option.some.inj H; simp only [Option.some.injEq, Prod.mk.injEq] at H; obtain ⟨rfl⟩ := H; (go_wp2); (go_ret); exact ⟨zE, pR HB⟩
            ·rw [if_neg c31] at H; have c31b0 : decide (0 ≤ t329) = false := decide_eq_false c31; clear c31; (first | rw [c31b0] | (simp only [i64_w, i32_w]; rw [c31b0]) | skip); have H' := Aside0.mk H; clear H; (go_wp2); go_roundg k2
             case measure => have := HJ1.out; have := HK2.out; omega
             case rel => exact ⟨(wrap64 (x26_2 + 1)), zF, H', ⟨by have := HJ1.out; have := HK2.out; omega⟩, ⟨by refine zB ?_; exact BK318.out⟩, ⟨pR HB⟩⟩
           ·rw [if_neg c24] at H; exact absurd H (by simp)
          ·replace c22 := Bool.eq_false_iff.mpr c22; subst c22; (have H1 : (some false) = some r := by rw [if_neg (show ¬ (false = true) by decide)] at H; exact H); clear H; have H := H1; clear H1; obtain rfl := Option.some.inj H; simp only [Option.some.injEq, Prod.mk.injEq] at H; obtain ⟨rfl⟩ := H; (try go_wp2); have n0_ : Aside0 ((((w16.setCell ⟨gb322, 0, none⟩ (.string ((rd_T79 l0_0 x26_2).f0))).setCell ⟨gb322, 1, none⟩ (.slice A321_1 ((rd_T79 l0_0 x26_2).f1).length c321_1)).setCell ⟨gb322, 2, none⟩ (.bool ((rd_T79 l0_0 x26_2).f2))).heap[gb318]? = some (.cells #[.slice (some ad321) l0_0.length c0_0, .int .i64 a0_1, .int .i64 a0_2] 64 (0, 0))) := ⟨by refine zB ?_; refine blk_far ?_ NB318_322.out _; refine zB ?_; refine blk_far ?_ NB318_322.out _; refine zB ?_; refine blk_far ?_ NB318_322.out _; refine zB ?_; exact BK318.out⟩; have n1_ : Aside0 ((((w16.setCell ⟨gb322, 0, none⟩ (.string ((rd_T79 l0_0 x26_2).f0))).setCell ⟨gb322, 1, none⟩ (.slice A321_1 ((rd_T79 l0_0 x26_2).f1).length c321_1)).setCell ⟨gb322, 2, none⟩ (.bool ((rd_T79 l0_0 x26_2).f2))).heap[gb322]? = some (.cells #[.string ((rd_T79 l0_0 x26_2).f0), .slice A321_1 ((rd_T79 l0_0 x26_2).f1).length c321_1, .bool ((rd_T79 l0_0 x26_2).f2)] 79 (0, 0))) := ⟨by refine zB ?_; refine blk_put (cs := #[.string ((rd_T79 l0_0 x26_2).f0), .slice A321_1 ((rd_T79 l0_0 x26_2).f1).length c321_1, .bool false]) ?_ 2 _ rfl; refine zB ?_; refine blk_put (cs := #[.string ((rd_T79 l0_0 x26_2).f0), .slice none 0 0, .bool false]) ?_ 1 _ rfl; refine zB ?_; refine blk_put (cs := #[.string (⟨#[]⟩ : ByteArray), .slice none 0 0, .bool false]) ?_ 0 _ rfl; refine zB ?_; exact BK322.out⟩; have n2_ : Aside0 (Below w.heap.size w (((w16.setCell ⟨gb322, 0, none⟩ (.string ((rd_T79 l0_0 x26_2).f0))).setCell ⟨gb322, 1, none⟩ (.slice A321_1 ((rd_T79 l0_0 x26_2).f1).length c321_1)).setCell ⟨gb322, 2, none⟩ (.bool ((rd_T79 l0_0 x26_2).f2)))) := ⟨pR HB⟩; (try clear BK318); (try clear BK322); (try clear HB); generalize (((w16.setCell ⟨gb322, 0, none⟩ (.string ((rd_T79 l0_0 x26_2).f0))).setCell ⟨gb322, 1, none⟩ (.slice A321_1 ((rd_T79 l0_0 x26_2).f1).length c321_1)).setCell ⟨gb322, 2, none⟩ (.bool ((rd_T79 l0_0 x26_2).f2))) = w32 at n0_ n1_ n2_ ⊢; have BK318 := n0_; have BK322 := n1_; have HB := n2_; clear n0_ n1_ n2_; have n0_ := Aside0.mk (blk_drew BK318.out); have n1_ := Aside0.mk (blk_drew BK322.out); have n2_ := Aside0.mk (below_drew1 HB.out); clear BK318; clear BK322; clear HB; have BK318 := n0_; have BK322 := n1_; have HB := n2_; clear n0_ n1_ n2_; refine start_ (n := 20) (S := fun w' => w'.cell? ⟨gb322, 0, none⟩ = some (.string ((rd_T79 l0_0 x26_2).f0)) ∧ w'.cell? ⟨gb322, 1, none⟩ = some (.slice A321_1 ((rd_T79 l0_0 x26_2).f1).length c321_1) ∧ w'.cell? ⟨gb322, 2, none⟩ = some (.bool ((rd_T79 l0_0 x26_2).f2))) (ds := []) #[F,F,F,F,F,F,F,F,F,F,F,F,F,F,F,F,F,F,F,F] (by kernel_rfl) rfl rfl ⟨(blk_cell BK322.out 0).trans rfl, (blk_cell BK322.out 1).trans rfl, (blk_cell BK322.out 2).trans rfl⟩ (fun hHeld => ?_); refine with_tabW impl_ValidPlan.tab6 impl_ValidPlan.bits6 (fun HT_ HW_ => ?_); generalize w32.drew = w33 at BK318 BK322 HB hHeld ⊢; refine pure_ (i := 0) (N := some 31) (v := ?_) (a' := ?_) #[T,F,F,F,F,F,F,F,F,F,F,F,F,F,F,F,F,F,F,F] rfl rfl (any_of HT_.out (by kernel_rfl)) (fun _ _ _ h => h) (Or.inl ⟨by rfl, ?_⟩) ?_ ?_; rotate_left
           ·intro w'; (go_simp); with_reducible rfl
           rotate_left
           ·simp only [NS]; rfl
           refine take_ (i := 1) (N := some 32) (v := ?_) (a' := ?_) #[T,T,F,F,F,F,F,F,F,F,F,F,F,F,F,F,F,F,F,F] rfl rfl (take_ofW HT_.out HW_.out (by kernel_rfl)) (fun _ _ _ h => h) (Or.inl ⟨by rfl, ?_⟩) hHeld ?_ ?_; rotate_left
           ·rintro w' ⟨s0, s1, s2⟩; (go_simp); with_reducible rfl
           rotate_left
           ·simp only [NS]; rfl
           refine one_ (i := 2) (N := some 33) #[T,T,T,F,F,F,F,F,F,F,F,F,F,F,F,F,F,F,F,F] rfl rfl (one_of HT_.out (by kernel_rfl)) (by decide) (fun K hK => ?_); refine goes_ Try.func99 (by kernel_rfl) rfl #[.string ((rd_T79 l0_0 x26_2).f0)] (by rfl) rfl rfl zM ?_; (with_reducible refine (impl_IsName.calls k2 ((rd_T79 l0_0 x26_2).f0) true _ A19.out).mono ?_); rintro e w' ⟨rfl, ⟨nd, rfl⟩⟩; refine ⟨_, rfl, ?_⟩; refine hK.out _ _ ⟨(blk_cell BK322.out 0).trans rfl, (blk_cell BK322.out 1).trans rfl, (blk_cell BK322.out 2).trans rfl⟩ (fun hHeld => ?_); clear hK K; refine norm_ (a' := ?_) ?_ ?_; rotate_left
           ·(show Act.put _ (some 33) _ = _); simp only [NS]; rfl
           refine pure_ (i := 3) (N := some 34) (v := ?_) (a' := ?_) #[T,T,T,T,F,F,F,F,F,F,F,F,F,F,F,F,F,F,F,F] rfl rfl (any_of HT_.out (by kernel_rfl)) (fun _ _ _ h => h) (Or.inl ⟨by rfl, ?_⟩) ?_ ?_; rotate_left
           ·intro w'; (go_simp); with_reducible rfl
           rotate_left
           ·simp only [NS]; rfl
           refine pure_ (i := 4) (N := some 35) (v := ?_) (a' := ?_) #[T,T,T,T,T,F,F,F,F,F,F,F,F,F,F,F,F,F,F,F] rfl rfl (any_of HT_.out (by kernel_rfl)) (fun _ _ _ h => h) (Or.inl ⟨by rfl, ?_⟩) ?_ ?_; rotate_left
           ·intro w'; (go_simp); with_reducible rfl
           rotate_left
           ·simp only [NS]; rfl
           refine pure_ (i := 5) (N := some 36) (v := ?_) (a' := ?_) #[T,T,T,T,T,T,F,F,F,F,F,F,F,F,F,F,F,F,F,F] rfl rfl (any_of HT_.out (by kernel_rfl)) (fun _ _ _ h => h) (Or.inl ⟨by rfl, ?_⟩) ?_ ?_; rotate_left
           ·intro w'; (go_simp); with_reducible rfl
           rotate_left
           ·simp only [NS]; rfl
           refine take_ (i := 6) (N := some 37) (v := ?_) (a' := ?_) #[T,T,T,T,T,T,T,F,F,F,F,F,F,F,F,F,F,F,F,F] rfl rfl (take_ofW HT_.out HW_.out (by kernel_rfl)) (fun _ _ _ h => h) (Or.inl ⟨by rfl, ?_⟩) hHeld ?_ ?_; rotate_left
           ·rintro w' ⟨s0, s1, s2⟩; (go_simp); with_reducible rfl
           rotate_left
           ·simp only [NS]; rfl
           refine one_ (i := 7) (N := some 38) #[T,T,T,T,T,T,T,T,F,F,F,F,F,F,F,F,F,F,F,F] rfl rfl (one_of HT_.out (by kernel_rfl)) (by decide) (fun K hK => ?_); refine goes_ Try.func100 (by kernel_rfl) rfl #[.slice A321_1 ((rd_T79 l0_0 x26_2).f1).length c321_1] (by rfl) rfl rfl zM ?_; (with_reducible refine (impl_ValidSail.calls k2 _ _ ((rd_T79 l0_0 x26_2).f1) false _ ?side1 ?side2 A21.out).mono ?_); (case side1 => (refine zC ?_; exact (Kd.C_below HR321_1.out (pR HB)))); (case side2 => exact HC321_1.out); rintro e w34 ⟨rfl, hb⟩; refine ⟨_, rfl, ?_⟩; have n0_ := pB BK318 hb; have n1_ := pB BK322 hb; have n2_ := pS HB hb; clear BK318; clear BK322; clear HB; have BK318 := n0_; have BK322 := n1_; have HB := n2_; clear n0_ n1_ n2_; (try clear hb); (try clear hb2); (try clear hk); (try clear hi); refine hK.out _ _ ⟨(blk_cell BK322.out 0).trans rfl, (blk_cell BK322.out 1).trans rfl, (blk_cell BK322.out 2).trans rfl⟩ (fun hHeld => ?_); clear hK K; refine norm_ (a' := ?_) ?_ ?_; rotate_left
           ·(show Act.put _ (some 38) _ = _); simp only [NS]; rfl
           refine pure_ (i := 8) (N := some 39) (v := ?_) (a' := ?_) #[T,T,T,T,T,T,T,T,T,F,F,F,F,F,F,F,F,F,F,F] rfl rfl (any_of HT_.out (by kernel_rfl)) (fun _ _ _ h => h) (Or.inl ⟨by rfl, ?_⟩) ?_ ?_; rotate_left
           ·intro w'; (go_simp); with_reducible rfl
           rotate_left
           ·simp only [NS]; rfl
           refine pure_ (i := 9) (N := some 40) (v := ?_) (a' := ?_) #[T,T,T,T,T,T,T,T,T,T,F,F,F,F,F,F,F,F,F,F] rfl rfl (any_of HT_.out (by kernel_rfl)) (fun _ _ _ h => h) (Or.inl ⟨by rfl, ?_⟩) ?_ ?_; rotate_left
           ·intro w'; (go_simp); with_reducible rfl
           rotate_left
           ·simp only [NS]; rfl
           refine pure_ (i := 10) (N := some 41) (v := ?_) (a' := ?_) #[T,T,T,T,T,T,T,T,T,T,T,F,F,F,F,F,F,F,F,F] rfl rfl (any_of HT_.out (by kernel_rfl)) (fun _ _ _ h => h) (Or.inl ⟨by rfl, ?_⟩) ?_ ?_; rotate_left
           ·intro w'; (go_simp); with_reducible rfl
           rotate_left
           ·simp only [NS]; rfl
           refine pure_ (i := 11) (N := some 42) (v := undef) (a' := ?_) #[T,T,T,T,T,T,T,T,T,T,T,T,F,F,F,F,F,F,F,F] rfl rfl (any_of HT_.out (by kernel_rfl)) (fun _ _ _ h => h) (Or.inr ⟨by rfl, rfl⟩) ?_ ?_; rotate_left
           ·simp only [NS]; rfl
           refine pure_ (i := 12) (N := some 43) (v := undef) (a' := ?_) #[T,T,T,T,T,T,T,T,T,T,T,T,T,F,F,F,F,F,F,F] rfl rfl (any_of HT_.out (by kernel_rfl)) (fun _ _ _ h => h) (Or.inr ⟨by rfl, rfl⟩) ?_ ?_; rotate_left
           ·simp only [NS]; rfl
           refine pure_ (i := 13) (N := some 44) (v := undef) (a' := ?_) #[T,T,T,T,T,T,T,T,T,T,T,T,T,T,F,F,F,F,F,F] rfl rfl (any_of HT_.out (by kernel_rfl)) (fun _ _ _ h => h) (Or.inr ⟨by rfl, rfl⟩) ?_ ?_; rotate_left
           ·simp only [NS]; rfl
           refine pure_ (i := 14) (N := some 45) (v := undef) (a' := ?_) #[T,T,T,T,T,T,T,T,T,T,T,T,T,T,T,F,F,F,F,F] rfl rfl (any_of HT_.out (by kernel_rfl)) (fun _ _ _ h => h) (Or.inr ⟨by rfl, rfl⟩) ?_ ?_; rotate_left
           ·simp only [NS]; rfl
           refine pure_ (i := 15) (N := some 46) (v := undef) (a' := ?_) #[T,T,T,T,T,T,T,T,T,T,T,T,T,T,T,T,F,F,F,F] rfl rfl (any_of HT_.out (by kernel_rfl)) (fun _ _ _ h => h) (Or.inr ⟨by rfl, rfl⟩) ?_ ?_; rotate_left
           ·simp only [NS]; rfl
           refine pure_ (i := 16) (N := some 47) (v := undef) (a' := ?_) #[T,T,T,T,T,T,T,T,T,T,T,T,T,T,T,T,T,F,F,F] rfl rfl (any_of HT_.out (by kernel_rfl)) (fun _ _ _ h => h) (Or.inr ⟨by rfl, rfl⟩) ?_ ?_; rotate_left
           ·simp only [NS]; rfl
           refine pure_ (i := 17) (N := some 48) (v := undef) (a' := ?_) #[T,T,T,T,T,T,T,T,T,T,T,T,T,T,T,T,T,T,F,F] rfl rfl (any_of HT_.out (by kernel_rfl)) (fun _ _ _ h => h) (Or.inr ⟨by rfl, rfl⟩) ?_ ?_; rotate_left
           ·simp only [NS]; rfl
           refine pure_ (i := 18) (N := some 49) (v := undef) (a' := ?_) #[T,T,T,T,T,T,T,T,T,T,T,T,T,T,T,T,T,T,T,F] rfl rfl (any_of HT_.out (by kernel_rfl)) (fun _ _ _ h => h) (Or.inr ⟨by rfl, rfl⟩) ?_ ?_; rotate_left
           ·simp only [NS]; rfl
           refine pure_ (i := 19) (N := some 50) (v := ?_) (a' := ?_) #[T,T,T,T,T,T,T,T,T,T,T,T,T,T,T,T,T,T,T,T] rfl rfl (any_of HT_.out (by kernel_rfl)) (fun _ _ _ h => h) (Or.inl ⟨by rfl, ?_⟩) ?_ ?_; rotate_left
           ·intro w'; (go_simp); with_reducible rfl
           rotate_left
           ·simp only [NS]; rfl
           refine done_ (done_of HT_.out (by kernel_rfl)) ?_; (try go_wp2); (go_ret); exact ⟨zE, pR HB⟩
         ·replace c20 := Bool.eq_false_iff.mpr c20; subst c20; (have H1 : (some false) = some r := by rw [if_neg (show ¬ (false = true) by decide)] at H; exact H); clear H; have H := H1; clear H1; obtain rfl := Option.some.inj H; simp only [Option.some.injEq, Prod.mk.injEq] at H; obtain ⟨rfl⟩ := H; (try go_wp2); have n0_ : Aside0 ((((w16.setCell ⟨gb322, 0, none⟩ (.string ((rd_T79 l0_0 x26_2).f0))).setCell ⟨gb322, 1, none⟩ (.slice A321_1 ((rd_T79 l0_0 x26_2).f1).length c321_1)).setCell ⟨gb322, 2, none⟩ (.bool ((rd_T79 l0_0 x26_2).f2))).heap[gb318]? = some (.cells #[.slice (some ad321) l0_0.length c0_0, .int .i64 a0_1, .int .i64 a0_2] 64 (0, 0))) := ⟨by refine zB ?_; refine blk_far ?_ NB318_322.out _; refine zB ?_; refine blk_far ?_ NB318_322.out _; refine zB ?_; refine blk_far ?_ NB318_322.out _; refine zB ?_; exact BK318.out⟩; have n1_ : Aside0 ((((w16.setCell ⟨gb322, 0, none⟩ (.string ((rd_T79 l0_0 x26_2).f0))).setCell ⟨gb322, 1, none⟩ (.slice A321_1 ((rd_T79 l0_0 x26_2).f1).length c321_1)).setCell ⟨gb322, 2, none⟩ (.bool ((rd_T79 l0_0 x26_2).f2))).heap[gb322]? = some (.cells #[.string ((rd_T79 l0_0 x26_2).f0), .slice A321_1 ((rd_T79 l0_0 x26_2).f1).length c321_1, .bool ((rd_T79 l0_0 x26_2).f2)] 79 (0, 0))) := ⟨by refine zB ?_; refine blk_put (cs := #[.string ((rd_T79 l0_0 x26_2).f0), .slice A321_1 ((rd_T79 l0_0 x26_2).f1).length c321_1, .bool false]) ?_ 2 _ rfl; refine zB ?_; refine blk_put (cs := #[.string ((rd_T79 l0_0 x26_2).f0), .slice none 0 0, .bool false]) ?_ 1 _ rfl; refine zB ?_; refine blk_put (cs := #[.string (⟨#[]⟩ : ByteArray), .slice none 0 0, .bool false]) ?_ 0 _ rfl; refine zB ?_; exact BK322.out⟩; have n2_ : Aside0 (Below w.heap.size w (((w16.setCell ⟨gb322, 0, none⟩ (.string ((rd_T79 l0_0 x26_2).f0))).setCell ⟨gb322, 1, none⟩ (.slice A321_1 ((rd_T79 l0_0 x26_2).f1).length c321_1)).setCell ⟨gb322, 2, none⟩ (.bool ((rd_T79 l0_0 x26_2).f2)))) := ⟨pR HB⟩; (try clear BK318); (try clear BK322); (try clear HB); generalize (((w16.setCell ⟨gb322, 0, none⟩ (.string ((rd_T79 l0_0 x26_2).f0))).setCell ⟨gb322, 1, none⟩ (.slice A321_1 ((rd_T79 l0_0 x26_2).f1).length c321_1)).setCell ⟨gb322, 2, none⟩ (.bool ((rd_T79 l0_0 x26_2).f2))) = w35 at n0_ n1_ n2_ ⊢; have BK318 := n0_; have BK322 := n1_; have HB := n2_; clear n0_ n1_ n2_; have n0_ := Aside0.mk (blk_drew BK318.out); have n1_ := Aside0.mk (blk_drew BK322.out); have n2_ := Aside0.mk (below_drew1 HB.out); clear BK318; clear BK322; clear HB; have BK318 := n0_; have BK322 := n1_; have HB := n2_; clear n0_ n1_ n2_; refine start_ (n := 20) (S := fun w' => w'.cell? ⟨gb322, 0, none⟩ = some (.string ((rd_T79 l0_0 x26_2).f0)) ∧ w'.cell? ⟨gb322, 1, none⟩ = some (.slice A321_1 ((rd_T79 l0_0 x26_2).f1).length c321_1) ∧ w'.cell? ⟨gb322, 2, none⟩ = some (.bool ((rd_T79 l0_0 x26_2).f2))) (ds := []) #[F,F,F,F,F,F,F,F,F,F,F,F,F,F,F,F,F,F,F,F] (by kernel_rfl) rfl rfl ⟨(blk_cell BK322.out 0).trans rfl, (blk_cell BK322.out 1).trans rfl, (blk_cell BK322.out 2).trans rfl⟩ (fun hHeld => ?_); refine with_tabW impl_ValidPlan.tab6 impl_ValidPlan.bits6 (fun HT_ HW_ => ?_); generalize w35.drew = w36 at BK318 BK322 HB hHeld ⊢; refine pure_ (i := 0) (N := some 31) (v := ?_) (a' := ?_) #[T,F,F,F,F,F,F,F,F,F,F,F,F,F,F,F,F,F,F,F] rfl rfl (any_of HT_.out (by kernel_rfl)) (fun _ _ _ h => h) (Or.inl ⟨by rfl, ?_⟩) ?_ ?_; rotate_left
          ·intro w'; (go_simp); with_reducible rfl
          rotate_left
          ·simp only [NS]; rfl
          refine take_ (i := 1) (N := some 32) (v := ?_) (a' := ?_) #[T,T,F,F,F,F,F,F,F,F,F,F,F,F,F,F,F,F,F,F] rfl rfl (take_ofW HT_.out HW_.out (by kernel_rfl)) (fun _ _ _ h => h) (Or.inl ⟨by rfl, ?_⟩) hHeld ?_ ?_; rotate_left
          ·rintro w' ⟨s0, s1, s2⟩; (go_simp); with_reducible rfl
          rotate_left
          ·simp only [NS]; rfl
          refine one_ (i := 2) (N := some 33) #[T,T,T,F,F,F,F,F,F,F,F,F,F,F,F,F,F,F,F,F] rfl rfl (one_of HT_.out (by kernel_rfl)) (by decide) (fun K hK => ?_); refine goes_ Try.func99 (by kernel_rfl) rfl #[.string ((rd_T79 l0_0 x26_2).f0)] (by rfl) rfl rfl zM ?_; (with_reducible refine (impl_IsName.calls k2 ((rd_T79 l0_0 x26_2).f0) false _ A19.out).mono ?_); rintro e w' ⟨rfl, ⟨nd, rfl⟩⟩; refine ⟨_, rfl, ?_⟩; refine hK.out _ _ ⟨(blk_cell BK322.out 0).trans rfl, (blk_cell BK322.out 1).trans rfl, (blk_cell BK322.out 2).trans rfl⟩ (fun hHeld => ?_); clear hK K; refine norm_ (a' := ?_) ?_ ?_; rotate_left
          ·(show Act.put _ (some 33) _ = _); simp only [NS]; rfl
          refine pure_ (i := 3) (N := some 34) (v := ?_) (a' := ?_) #[T,T,T,T,F,F,F,F,F,F,F,F,F,F,F,F,F,F,F,F] rfl rfl (any_of HT_.out (by kernel_rfl)) (fun _ _ _ h => h) (Or.inl ⟨by rfl, ?_⟩) ?_ ?_; rotate_left
          ·intro w'; (go_simp); with_reducible rfl
          rotate_left
          ·simp only [NS]; rfl
          refine pure_ (i := 4) (N := some 35) (v := ?_) (a' := ?_) #[T,T,T,T,T,F,F,F,F,F,F,F,F,F,F,F,F,F,F,F] rfl rfl (any_of HT_.out (by kernel_rfl)) (fun _ _ _ h => h) (Or.inl ⟨by rfl, ?_⟩) ?_ ?_; rotate_left
          ·intro w'; (go_simp); with_reducible rfl
          rotate_left
          ·simp only [NS]; rfl
          refine pure_ (i := 5) (N := some 36) (v := undef) (a' := ?_) #[T,T,T,T,T,T,F,F,F,F,F,F,F,F,F,F,F,F,F,F] rfl rfl (any_of HT_.out (by kernel_rfl)) (fun _ _ _ h => h) (Or.inr ⟨by rfl, rfl⟩) ?_ ?_; rotate_left
          ·simp only [NS]; rfl
          refine pure_ (i := 6) (N := some 37) (v := undef) (a' := ?_) #[T,T,T,T,T,T,T,F,F,F,F,F,F,F,F,F,F,F,F,F] rfl rfl (any_of HT_.out (by kernel_rfl)) (fun _ _ _ h => h) (Or.inr ⟨by rfl, rfl⟩) ?_ ?_; rotate_left
          ·simp only [NS]; rfl
          refine pure_ (i := 7) (N := some 38) (v := undef) (a' := ?_) #[T,T,T,T,T,T,T,T,F,F,F,F,F,F,F,F,F,F,F,F] rfl rfl (any_of HT_.out (by kernel_rfl)) (fun _ _ _ h => h) (Or.inr ⟨by rfl, rfl⟩) ?_ ?_; rotate_left
          ·simp only [NS]; rfl
          refine pure_ (i := 8) (N := some 39) (v := undef) (a' := ?_) #[T,T,T,T,T,T,T,T,T,F,F,F,F,F,F,F,F,F,F,F] rfl rfl (any_of HT_.out (by kernel_rfl)) (fun _ _ _ h => h) (Or.inr ⟨by rfl, rfl⟩) ?_ ?_; rotate_left
          ·simp only [NS]; rfl
          refine pure_ (i := 9) (N := some 40) (v := ?_) (a' := ?_) #[T,T,T,T,T,T,T,T,T,T,F,F,F,F,F,F,F,F,F,F] rfl rfl (any_of HT_.out (by kernel_rfl)) (fun _ _ _ h => h) (Or.inl ⟨by rfl, ?_⟩) ?_ ?_; rotate_left
          ·intro w'; (go_simp); with_reducible rfl
          rotate_left
          ·simp only [NS]; rfl
          refine pure_ (i := 10) (N := some 41) (v := ?_) (a' := ?_) #[T,T,T,T,T,T,T,T,T,T,T,F,F,F,F,F,F,F,F,F] rfl rfl (any_of HT_.out (by kernel_rfl)) (fun _ _ _ h => h) (Or.inl ⟨by rfl, ?_⟩) ?_ ?_; rotate_left
          ·intro w'; (go_simp); with_reducible rfl
          rotate_left
          ·simp only [NS]; rfl
          refine pure_ (i := 11) (N := some 42) (v := undef) (a' := ?_) #[T,T,T,T,T,T,T,T,T,T,T,T,F,F,F,F,F,F,F,F] rfl rfl (any_of HT_.out (by kernel_rfl)) (fun _ _ _ h => h) (Or.inr ⟨by rfl, rfl⟩) ?_ ?_; rotate_left
          ·simp only [NS]; rfl
          refine pure_ (i := 12) (N := some 43) (v := undef) (a' := ?_) #[T,T,T,T,T,T,T,T,T,T,T,T,T,F,F,F,F,F,F,F] rfl rfl (any_of HT_.out (by kernel_rfl)) (fun _ _ _ h => h) (Or.inr ⟨by rfl, rfl⟩) ?_ ?_; rotate_left
          ·simp only [NS]; rfl
          refine pure_ (i := 13) (N := some 44) (v := undef) (a' := ?_) #[T,T,T,T,T,T,T,T,T,T,T,T,T,T,F,F,F,F,F,F] rfl rfl (any_of HT_.out (by kernel_rfl)) (fun _ _ _ h => h) (Or.inr ⟨by rfl, rfl⟩) ?_ ?_; rotate_left
          ·simp only [NS]; rfl
          refine pure_ (i := 14) (N := some 45) (v := undef) (a' := ?_) #[T,T,T,T,T,T,T,T,T,T,T,T,T,T,T,F,F,F,F,F] rfl rfl (any_of HT_.out (by kernel_rfl)) (fun _ _ _ h => h) (Or.inr ⟨by rfl, rfl⟩) ?_ ?_; rotate_left
          ·simp only [NS]; rfl
          refine pure_ (i := 15) (N := some 46) (v := undef) (a' := ?_) #[T,T,T,T,T,T,T,T,T,T,T,T,T,T,T,T,F,F,F,F] rfl rfl (any_of HT_.out (by kernel_rfl)) (fun _ _ _ h => h) (Or.inr ⟨by rfl, rfl⟩) ?_ ?_; rotate_left
          ·simp only [NS]; rfl
          refine pure_ (i := 16) (N := some 47) (v := undef) (a' := ?_) #[T,T,T,T,T,T,T,T,T,T,T,T,T,T,T,T,T,F,F,F] rfl rfl (any_of HT_.out (by kernel_rfl)) (fun _ _ _ h => h) (Or.inr ⟨by rfl, rfl⟩) ?_ ?_; rotate_left
          ·simp only [NS]; rfl
          refine pure_ (i := 17) (N := some 48) (v := undef) (a' := ?_) #[T,T,T,T,T,T,T,T,T,T,T,T,T,T,T,T,T,T,F,F] rfl rfl (any_of HT_.out (by kernel_rfl)) (fun _ _ _ h => h) (Or.inr ⟨by rfl, rfl⟩) ?_ ?_; rotate_left
          ·simp only [NS]; rfl
          refine pure_ (i := 18) (N := some 49) (v := undef) (a' := ?_) #[T,T,T,T,T,T,T,T,T,T,T,T,T,T,T,T,T,T,T,F] rfl rfl (any_of HT_.out (by kernel_rfl)) (fun _ _ _ h => h) (Or.inr ⟨by rfl, rfl⟩) ?_ ?_; rotate_left
          ·simp only [NS]; rfl
          refine pure_ (i := 19) (N := some 50) (v := ?_) (a' := ?_) #[T,T,T,T,T,T,T,T,T,T,T,T,T,T,T,T,T,T,T,T] rfl rfl (any_of HT_.out (by kernel_rfl)) (fun _ _ _ h => h) (Or.inl ⟨by rfl, ?_⟩) ?_ ?_; rotate_left
          ·intro w'; (go_simp); with_reducible rfl
          rotate_left
          ·simp only [NS]; rfl
          refine done_ (done_of HT_.out (by kernel_rfl)) ?_; (try go_wp2); (go_ret); exact ⟨zE, pR HB⟩
        ·rw [if_neg c15] at H; exact absurd H (by simp)
       ·rw [if_neg c14] at H; exact absurd H (by simp)
      ·rw [if_neg c13] at H; have c13b0 : decide (x26_2 < (l0_0.length : Int)) = false := decide_eq_false c13; clear c13; obtain rfl := Option.some.inj H; simp only [Option.some.injEq, Prod.mk.injEq] at H; obtain ⟨rfl⟩ := H; (go_wp2); (go_ret); exact ⟨zE, pR HB⟩

end Go.Proofs.Ytlphfgbeeckjnaa.PFnExactSetSail
