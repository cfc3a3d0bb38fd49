-- Written by a program of this session (wip/tools/pp.sh).
import Derived.Test.YtlphfgbeeckjnaaPFnExactOverlapsOfx0
import Derived.Test.YtlphfgbeeckjnaaPFnExactOverlapsOfx17
namespace Go.Proofs.Ytlphfgbeeckjnaa.PFnExactOverlapsOf
open Go.RowKit Go.Proofs.YtlphfgbeeckjnaaW.PrintWords Go.Proofs.YtlphfgbeeckjnaaW.PrintLast Go.Proofs.YtlphfgbeeckjnaaW.PrintMore Go.Proofs.Ytlphfgbeeckjnaa.Small
open Bool renaming true → T, false → F
attribute [local go_sem] max2_int min2_int max_two min_two max_three min_three max_four min_four   -- for this text's walks alone
set_option linter.unusedVariables false
set_option linter.unusedSimpArgs false

/-! ### laws_eqPlan: function 41 -/
def laws_eqPlan.f (k : Nat) (l0_0 : List (S79)) (a0_1 : Int) (a0_2 : Int) (l1_0 : List (S79)) (a1_1 : Int) (a1_2 : Int) : Option (Bool) := (laws_eqHungS.f k l0_0 l1_0).bind fun t355 => (if t355 = true then (if a0_1 = a1_1 then (if a0_2 = a1_2 then (some true) else (some false)) else (some false)) else (some false))
theorem laws_eqPlan.mono : ∀ a0 a1 a2 a3 a4 a5 k, LeO (laws_eqPlan.f k a0 a1 a2 a3 a4 a5) (laws_eqPlan.f (k + 1) a0 a1 a2 a3 a4 a5) := by
 intro a0 a1 a2 a3 a4 a5 k; unfold laws_eqPlan.f
 repeat' first
   | (with_reducible exact laws_eqHungS.mono _ _ _)
   | (with_reducible exact LeO.refl _)
   | (with_reducible exact LeO.none _)
   | (with_reducible refine LeO.ite ?_ ?_)
   | (with_reducible refine LeO.bind ?_ (fun _ => ?_))
   | exact laws_eqHungS.mono _ _ _
   | exact LeO.none _
   | refine LeO.ite ?_ ?_
   | refine LeO.bind ?_ (fun _ => ?_)
set_option maxHeartbeats 8000000 in
set_option maxRecDepth 100000 in
theorem laws_eqPlan.calls (k : Nat) (A0_0 : Option Addr) (c0_0 : Nat) (l0_0 : List (S79)) (a0_1 : Int) (a0_2 : Int) (A1_0 : Option Addr) (c1_0 : Nat) (l1_0 : List (S79)) (a1_1 : Int) (a1_2 : Int) (r : Bool) (w : World) (hr0_0 : Kd.C k79 w A0_0 l0_0.length l0_0) (hc0_0 : l0_0.length ≤ c0_0) (hr1_0 : Kd.C k79 w A1_0 l1_0.length l1_0) (hc1_0 : l1_0.length ≤ c1_0) (h : laws_eqPlan.f k l0_0 a0_1 a0_2 l1_0 a1_1 a1_2 = some r) :
  Calls Try.prog 41 #[.agg #[.slice A0_0 l0_0.length c0_0, .int .i64 a0_1, .int .i64 a0_2], .agg #[.slice A1_0 l1_0.length c1_0, .int .i64 a1_1, .int .i64 a1_2]] w fun e w' => e = .returned (.bool r) ∧ Below w.heap.size w w' := by
 have hu64 := Try.underlying64; have HR0_0 := Aside0.mk hr0_0; have HC0_0 := Aside0.mk hc0_0; clear hr0_0 hc0_0; have HR1_0 := Aside0.mk hr1_0; have HC1_0 := Aside0.mk hc1_0; clear hr1_0 hc1_0; have HB := Aside0.mk (Below.refl w.heap.size w); have H : ((laws_eqHungS.f k l0_0 l1_0).bind fun t355 => (if t355 = true then (if a0_1 = a1_1 then (if a0_2 = a1_2 then (some true) else (some false)) else (some false)) else (some false))) = some r := h; clear h; replace H := Option.bind_eq_some_iff.mp H; obtain ⟨t355, A30, H⟩ := H; (try dsimp only at H); have A3 := Aside0.mk A30; clear A30; have HF_ := Aside0.mk H; clear H; (go_enter Try.func41, Try.ntmps41); (go_upto_if 10 with (first | ((with_reducible refine gate_dst (N := 2) rfl ?_); refine box_event ?hg (N := 2) ?hd (cs := #[.slice A0_0 l0_0.length c0_0, .int .i64 a0_1, .int .i64 a0_2]) (t := 64) ?hr ?_; (case hd => rfl); (case hg => rfl); (case hr => first | (go_simp; done) | (go_simp; rfl)); intro gb353 hg w4 hbox hb; have BK353 := Aside0.mk (hbox); have GW353 := pG HB hg; have GE353 := pG HB hg; replace HB := pS HB hb; clear hb hbox hg) | ((with_reducible refine gate_dst (N := 3) rfl ?_); refine box_event ?hg (N := 3) ?hd (cs := #[.slice A1_0 l1_0.length c1_0, .int .i64 a1_1, .int .i64 a1_2]) (t := 64) ?hr ?_; (case hd => rfl); (case hg => rfl); (case hr => first | (go_simp; done) | (go_simp; rfl)); intro gb354 hg w5 hbox hb; have BK354 := Aside0.mk (hbox); have GW354 := pG HB hg; have GE354 := pG HB hg; replace HB := pS HB hb; have NB353_354 := pN BK353 hg; have NB354_353 := pM BK353 hg; replace BK353 := pB BK353 hb; clear hb hbox hg; have hnb6 := NB353_354.out; have hnc6 := NB354_353.out; obtain ⟨hcz7_0, hcz7_1, hcz7_2, hfz7_0, hfz7_1, hfz7_2⟩ := cz3 BK353; obtain ⟨hcz8_0, hcz8_1, hcz8_2, hfz8_0, hfz8_1, hfz8_2⟩ := cz3 BK354) | ((with_reducible refine gate_callee (f := 88) rfl ?_); refine goesL_ (some 9) rfl rfl Try.func88 (by kernel_rfl) rfl #[.slice A0_0 l0_0.length c0_0, .slice A1_0 l1_0.length c1_0] rfl zM ?_; (with_reducible refine (laws_eqHungS.calls k _ _ l0_0 _ _ l1_0 t355 _ ?side1 ?side2 ?side3 ?side4 A3.out).mono ?_); (case side1 => (refine zC ?_; exact (Kd.C_below HR0_0.out HB.out))); (case side2 => exact HC0_0.out); (case side3 => (refine zC ?_; exact (Kd.C_below HR1_0.out HB.out))); (case side4 => exact HC1_0.out); rintro e w9 ⟨rfl, hb⟩; refine ⟨_, rfl, ?_⟩; replace BK353 := pB BK353 hb; replace BK354 := pB BK354 hb; replace HB := pS HB hb; (try clear hb)))); (try simp only [Act.put, List.setIfInBounds_toArray, List.set_cons_zero, List.set_cons_succ]); have H := HF_.out; clear HF_; by_cases c10 : t355 = true
 ·subst c10; (have H1 : (if a0_1 = a1_1 then (if a0_2 = a1_2 then (some true) else (some false)) else (some false)) = some r := by rw [if_pos rfl] at H; exact H); clear H; have H := H1; clear H1; by_cases c11 : a0_1 = a1_1
  ·rw [if_pos c11] at H; have c11b0 : (a0_1 == a1_1) = true := beq_iff_eq.mpr c11; have c11b1 : (a0_1 != a1_1) = false := bne_eq_false_iff_eq.mpr c11; clear c11; (first | rw [c11b0] | (simp only [i64_w, i32_w]; rw [c11b0]) | skip); by_cases c12 : a0_2 = a1_2
   ·rw [if_pos c12] at H; have c12b0 : (a0_2 == a1_2) = true := beq_iff_eq.mpr c12; have c12b1 : (a0_2 != a1_2) = false := bne_eq_false_iff_eq.mpr c12; clear c12; obtain rfl := Option.some.inj H; simp only [Option.some.injEq, Prod.mk.injEq] at H; obtain ⟨rfl⟩ := H; have hnb13 := NB353_354.out; have hnc13 := NB354_353.out; obtain ⟨hcz14_0, hcz14_1, hcz14_2, hfz14_0, hfz14_1, hfz14_2⟩ := cz3 BK353; obtain ⟨hcz15_0, hcz15_1, hcz15_2, hfz15_0, hfz15_1, hfz15_2⟩ := cz3 BK354; (go_wp2); (go_ret); exact ⟨zE, pR HB⟩
   ·rw [if_neg c12] at H; have c12b0 : (a0_2 == a1_2) = false := beq_eq_false_iff_ne.mpr c12; have c12b1 : (a0_2 != a1_2) = true := bne_iff_ne.mpr c12; obtain rfl := Option.some.inj H; simp only [Option.some.injEq, Prod.mk.injEq] at H; obtain ⟨rfl⟩ := H; have hnb16 := NB353_354.out; have hnc16 := NB354_353.out; obtain ⟨hcz17_0, hcz17_1, hcz17_2, hfz17_0, hfz17_1, hfz17_2⟩ := cz3 BK353; obtain ⟨hcz18_0, hcz18_1, hcz18_2, hfz18_0, hfz18_1, hfz18_2⟩ := cz3 BK354; (go_wp2); (go_ret); exact ⟨zE, pR HB⟩
  ·rw [if_neg c11] at H; have c11b0 : (a0_1 == a1_1) = false := beq_eq_false_iff_ne.mpr c11; have c11b1 : (a0_1 != a1_1) = true := bne_iff_ne.mpr c11; (first | rw [c11b0] | (simp only [i64_w, i32_w]; rw [c11b0]) | skip); obtain rfl := Option.some.inj H; simp only [Option.some.injEq, Prod.mk.injEq] at H; obtain ⟨rfl⟩ := H; have hnb19 := NB353_354.out; have hnc19 := NB354_353.out; obtain ⟨hcz20_0, hcz20_1, hcz20_2, hfz20_0, hfz20_1, hfz20_2⟩ := cz3 BK353; obtain ⟨hcz21_0, hcz21_1, hcz21_2, hfz21_0, hfz21_1, hfz21_2⟩ := cz3 BK354; (go_wp2); (go_ret); exact ⟨zE, pR HB⟩
 ·replace c10 := Bool.eq_false_iff.mpr c10; subst c10; (have H1 : (some false) = some r := by rw [if_neg (show ¬ (false = true) by decide)] at H; exact H); clear H; have H := H1; clear H1; obtain rfl := Option.some.inj H; simp only [Option.some.injEq, Prod.mk.injEq] at H; obtain ⟨rfl⟩ := H; (go_wp2); (go_ret); exact ⟨zE, pR HB⟩

/-! ### laws_markSpotS: function 102 -/
def laws_markSpotS.l0 : Nat → List (S129) → Int → Int → Option (Int × (List (S129)))
 | 0, _, _, _ => none
 | k + 1, x0, x1, x5 => if x5 < (x0.length : Int) then (if 0 ≤ x5 then ((some (x0.set (x5 : Int).toNat (⟨x1, (rd_T129 x0 x5).f1⟩ : S129) : List (S129))).bind fun y356 => (laws_markSpotS.l0 k (y356.set (x5 : Int).toNat (⟨(rd_T129 y356 x5).f0, wrap64 (x1 + 1)⟩ : S129)) (wrap64 ((wrap64 (x1 + 1)) + 1)) (wrap64 (x5 + 1)))) else (none)) else (some (x1, x0))
def laws_markSpotS.f (k : Nat) (l0 : List (S129)) (a1 : Int) : Option (Int × (List (S129))) := laws_markSpotS.l0 k l0 a1 0
theorem laws_markSpotS.mono_l : ∀ k, (∀ y0 y1 y2, LeO (laws_markSpotS.l0 k y0 y1 y2) (laws_markSpotS.l0 (k + 1) y0 y1 y2))
 | 0 => fun _ _ _ r h => by simp [laws_markSpotS.l0] at h
 | k + 1 => by
  have ih0 := laws_markSpotS.mono_l k
  ·intro y0 y1 y2
   unfold laws_markSpotS.l0
   repeat' first
   | (with_reducible exact ih0 _ _ _)
   | (with_reducible exact LeO.refl _)
   | (with_reducible exact LeO.none _)
   | (with_reducible refine LeO.ite ?_ ?_)
   | (with_reducible refine LeO.bind ?_ (fun _ => ?_))
   | exact ih0 _ _ _
   | exact LeO.none _
   | refine LeO.ite ?_ ?_
   | refine LeO.bind ?_ (fun _ => ?_)
theorem laws_markSpotS.mono : ∀ a0 a1 k, LeO (laws_markSpotS.f k a0 a1) (laws_markSpotS.f (k + 1) a0 a1) := by
 intro a0 a1 k; have ih0 := laws_markSpotS.mono_l k; unfold laws_markSpotS.f
 repeat' first
   | (with_reducible exact ih0 _ _ _)
   | (with_reducible exact LeO.refl _)
   | (with_reducible exact LeO.none _)
   | (with_reducible refine LeO.ite ?_ ?_)
   | (with_reducible refine LeO.bind ?_ (fun _ => ?_))
   | exact ih0 _ _ _
   | exact LeO.none _
   | refine LeO.ite ?_ ?_
   | refine LeO.bind ?_ (fun _ => ?_)
set_option maxHeartbeats 8000000 in
set_option maxRecDepth 100000 in
theorem laws_markSpotS.calls (k : Nat) (P0_ : Nat → Prop) (u9000_ : Value) (l0 : List (S129)) (a1 : Int) (r1 : Int) (r2 : List (S129)) (w0 w : World) (hB : Below w0.heap.size w0 w) (ho0 : Kd.R k129 129 w w0.heap.size P0_ u9000_ l0) (h : laws_markSpotS.f k l0 a1 = some (r1, r2)) :
  Calls Try.prog 102 #[u9000_, .int .i64 a1] w fun e w' => e = .returned (.int .i64 r1) ∧ Kd.R k129 129 w' w0.heap.size (fun k_ => (P0_ k_ ∨ w.heap.size ≤ k_)) u9000_ r2 ∧ Below w0.heap.size w0 w' ∧ Kept w w' (fun k_ => P0_ k_) := by
 have HO0 := Aside0.mk (show Kd.R k129 129 w w0.heap.size (fun k_ => (P0_ k_ ∨ w.heap.size ≤ k_)) u9000_ l0 from Kd.R_mono ho0 (fun k_ hk => (.inl hk))); have HK := Aside0.mk (Kept.refl w (fun k_ => P0_ k_)); have HW0 := Aside0.mk hB.size; have HB := Aside0.mk hB; clear hB; have H : (laws_markSpotS.l0 k l0 a1 0) = some (r1, r2) := h; clear h; have H' := Aside0.mk H; clear H; (go_enter Try.func102, Try.ntmps102); (go_wp2); go_loopg [1, 5] k (fun kq v1 v5 w' => ∃ (x0_1 : List (S129)) (x1_1 : Int) (x5_1 : Int), v1 = .int .i64 x1_1 ∧ v5 = .int .i64 x5_1 ∧ Aside0 (laws_markSpotS.l0 kq x0_1 x1_1 x5_1 = some (r1, r2)) ∧ Aside0 (kq ≤ k) ∧ Aside0 (Kd.R k129 129 w' w0.heap.size (fun k_ => (P0_ k_ ∨ w.heap.size ≤ k_)) u9000_ x0_1) ∧ Aside0 (Kept w w' (fun k_ => P0_ k_)) ∧ Aside0 (Below w0.heap.size w0 w'))
 case atStart => exact ⟨(l0), (a1), (0), zF, zF, H', ⟨Nat.le_refl _⟩, ⟨by refine zR ?_; exact HO0.out⟩, ⟨by repeat (first | (with_reducible first | exact HK.out | apply Kept.alloc | apply Kept.drewN | apply Kept.drew) | exact HK.out)⟩, ⟨pR HB⟩⟩
 case round =>
  clear H'; (try clear c1); (try clear p2); obtain ⟨x0_1, x1_1, x5_1, rfl, rfl, HA, HK1, HO_0, HK, HB⟩ := hrel
  cases gk with
  | zero => exact absurd HA.out (by simp [laws_markSpotS.l0])
  | succ k1 =>
   have H := HA.out; clear HA; simp only [laws_markSpotS.l0] at H; by_cases c3 : x5_1 < (x0_1.length : Int)
   ·rw [if_pos c3] at H; have c3b0 : decide (x5_1 < (x0_1.length : Int)) = true := decide_eq_true c3; clear c3; by_cases c4 : 0 ≤ x5_1
    ·rw [if_pos c4] at H; have c4b0 : decide (0 ≤ x5_1) = true := decide_eq_true c4; clear c4; obtain ⟨y356, hy356⟩ : ∃ y_ : List (S129), y_ = (x0_1.set (x5_1 : Int).toNat (⟨x1_1, (rd_T129 x0_1 x5_1).f1⟩ : S129)) := ⟨_, rfl⟩; (replace H : (laws_markSpotS.l0 k1 (y356.set (x5_1 : Int).toNat (⟨(rd_T129 y356 x5_1).f0, wrap64 (x1_1 + 1)⟩ : S129)) (wrap64 ((wrap64 (x1_1 + 1)) + 1)) (wrap64 (x5_1 + 1))) = some (r1, r2) := by first | (rw [hy356]; with_reducible exact H) | (have H2_ := (Option.bind_some _ _).symm.trans H; rw [hy356]; with_reducible exact H2_) | (have H2_ := (Option.bind_some _ _).symm.trans H; with_reducible exact H2_) | with_reducible exact H | (rw [hy356]; exact H) | exact H); have Ny356 := Aside0.mk hy356; clear hy356; obtain ⟨y357, hy357⟩ : ∃ y_ : List (S129), y_ = (y356.set (x5_1 : Int).toNat (⟨(rd_T129 y356 x5_1).f0, wrap64 (x1_1 + 1)⟩ : S129)) := ⟨_, rfl⟩; (replace H : (laws_markSpotS.l0 k1 y357 (wrap64 ((wrap64 (x1_1 + 1)) + 1)) (wrap64 (x5_1 + 1))) = some (r1, r2) := by first | (rw [hy357]; with_reducible exact H) | (have H2_ := (Option.bind_some _ _).symm.trans H; rw [hy357]; with_reducible exact H2_) | (have H2_ := (Option.bind_some _ _).symm.trans H; with_reducible exact H2_) | with_reducible exact H | (rw [hy357]; exact H) | exact H); have Ny357 := Aside0.mk hy357; clear hy357; have H' := Aside0.mk H; clear H; obtain ⟨Ao7, co7, eo7⟩ := Kd.R_slice HO_0.out; subst eo7; have p5 : 0 ≤ (x5_1 : Int) := of_decide_eq_true (by first | (with_reducible assumption) | assumption); have q5 : (x5_1 : Int) < ((x0_1.length : Int) : Int) := of_decide_eq_true (by first | (with_reducible assumption) | assumption); obtain ⟨go5, co5, eo5, gb5, gl5, cl5, HG5⟩ := Kd.R_form HO_0.out (by omega); (first | cases eo5 | (injection eo5 with ea_ en_ ec_; (first | subst ea_ | (injection ea_ with ea_; subst ea_)); subst ec_; clear en_)); have GB5 := Aside0.mk gb5; have GG5 := Aside0.mk HG5; clear gb5 gl5 HG5; have HMgo5 := Aside0.mk (show (P0_ go5 ∨ w.heap.size ≤ go5) from (HO_0.out.1 _ rfl)); obtain ⟨ce5, hcl5, hM5, hcc5, hfr5⟩ := Kd.R_elem HO_0.out z129 (x5_1 : Int) p5 q5; obtain rfl := k129_openM hM5; have hx5_0 : wr.cell? ⟨go5, (x5_1 : Int).toNat * 2, none⟩ = some (.int .i64 ((rd_T129 x0_1 x5_1).f0)) := hcc5 0 _ rfl; have hx5_1 : wr.cell? ⟨go5, (x5_1 : Int).toNat * 2 + 1, none⟩ = some (.int .i64 ((rd_T129 x0_1 x5_1).f1)) := hcc5 1 _ rfl; have hf5_0 : wr.frozen? ⟨go5, (x5_1 : Int).toNat * 2, none⟩ = false := hfr5 0; have hf5_1 : wr.frozen? ⟨go5, (x5_1 : Int).toNat * 2 + 1, none⟩ = false := hfr5 1; clear hcl5 hcc5 hfr5 hM5; replace p5 := eq_true p5; replace q5 := eq_true q5; have HX8 := Aside0.mk (show Kd.R k129 129 wr w0.heap.size (fun k_ => (P0_ k_ ∨ w.heap.size ≤ k_)) (.slice (some ⟨go5, 0, none⟩) x0_1.length co7) x0_1 from (by refine zR ?_; exact HO_0.out)); obtain ⟨ce8, hcl8, hM8, hcc8, hfr8⟩ := Kd.R_elem HX8.out z129 (x5_1 : Int) (of_decide_eq_true (by first | (with_reducible assumption) | assumption)) (by have h_ : (x5_1 : Int) < ((x0_1.length : Int) : Int) := of_decide_eq_true (by first | (with_reducible assumption) | assumption); first | exact h_ | (have e_ := (Kd.R_reads' HO_0.out).1; omega) | simpa using h_); obtain rfl := k129_openM hM8; have HP8 := Kd.R_seg HX8.out (x5_1 : Int) (of_decide_eq_true (by first | (with_reducible assumption) | assumption)) (by have h_ : (x5_1 : Int) < ((x0_1.length : Int) : Int) := of_decide_eq_true (by first | (with_reducible assumption) | assumption); first | exact h_ | (have e_ := (Kd.R_reads' HO_0.out).1; omega) | simpa using h_) (seg := [.int .i64 x1_1]) (j := 0) hcl8 hcc8 (show 1 ≤ 2 from by decide) (x' := (⟨x1_1, (rd_T129 x0_1 x5_1).f1⟩ : S129)) (k129_mkM _ _ _ (⟨x1_1, (rd_T129 x0_1 x5_1).f1⟩ : S129) ) (fun _ hk => hk); have hx8_0 := hcc8 0 _ rfl; (try simp only [show (k129).sz = 2 from rfl, Nat.mul_one, Nat.add_zero] at hx8_0); have hf8_0 := hfr8 0; (try simp only [show (k129).sz = 2 from rfl, Nat.mul_one, Nat.add_zero] at hf8_0); clear hcl8 hcc8 hfr8 hM8; (go_wp2_with (first | ((with_reducible refine gate_store (t := 2) (p := 16) rfl ?_); refine store_event (t := 2) (p := 16) (v := ?vo_w9) (w1 := (wr.setCell ⟨go5, (x5_1 : Int).toNat * 2, none⟩ (.int .i64 x1_1))) ?hg ?ho ?hn ?hr ?_; (case ho => rfl); (case hg => rfl); (case hn => rfl); (case hr => first | (go_simp; done) | (go_simp; rfl)); intro w9 hw; have hg : wr.grownBy w9 (some go5) := (by rw [hw]; exact HP8.2); have hp_ : Kd.R k129 129 w9 w0.heap.size (fun k_ => (P0_ k_ ∨ w.heap.size ≤ k_)) (.slice (some ⟨go5, 0, none⟩) x0_1.length co7) y356 := (by rw [hw, Ny356.out]; exact HP8.1); clear HP8; replace HB := Aside0.mk ((by rw [hw]; exact below_set (HB.out) GB5.out : Below w0.heap.size w0 w9)); replace HK := Aside0.mk (Kept.of_grown (S := (fun k_ => P0_ k_)) hg (by repeat (first | (with_reducible first | exact HK.out | apply Kept.alloc | apply Kept.drewN | apply Kept.drew) | exact HK.out)) (fun k_ e_ => (HO_0.out.1 k_ e_))); replace HO_0 := Aside0.mk (hp_); clear hg hw hp_; have p6 : 0 ≤ (x5_1 : Int) := of_decide_eq_true (by first | (with_reducible assumption) | assumption); have q6 : (x5_1 : Int) < ((x0_1.length : Int) : Int) := of_decide_eq_true (by first | (with_reducible assumption) | assumption); obtain ⟨ce6, hcl6, hM6, hcc6, hfr6⟩ := Kd.R_elem HO_0.out z129 (x5_1 : Int) p6 q6; obtain rfl := k129_openM hM6; have hx6_0 : w9.cell? ⟨go5, (x5_1 : Int).toNat * 2, none⟩ = some (.int .i64 ((rd_T129 y356 x5_1).f0)) := hcc6 0 _ rfl; have hx6_1 : w9.cell? ⟨go5, (x5_1 : Int).toNat * 2 + 1, none⟩ = some (.int .i64 ((rd_T129 y356 x5_1).f1)) := hcc6 1 _ rfl; have hf6_0 : w9.frozen? ⟨go5, (x5_1 : Int).toNat * 2, none⟩ = false := hfr6 0; have hf6_1 : w9.frozen? ⟨go5, (x5_1 : Int).toNat * 2 + 1, none⟩ = false := hfr6 1; clear hcl6 hcc6 hfr6 hM6; replace p6 := eq_true p6; replace q6 := eq_true q6; have HX10 := Aside0.mk (show Kd.R k129 129 w9 w0.heap.size (fun k_ => (P0_ k_ ∨ w.heap.size ≤ k_)) (.slice (some ⟨go5, 0, none⟩) x0_1.length co7) y356 from (by refine zR ?_; exact HO_0.out)); obtain ⟨ce10, hcl10, hM10, hcc10, hfr10⟩ := Kd.R_elem HX10.out z129 (x5_1 : Int) (of_decide_eq_true (by first | (with_reducible assumption) | assumption)) (by have h_ : (x5_1 : Int) < ((x0_1.length : Int) : Int) := of_decide_eq_true (by first | (with_reducible assumption) | assumption); first | exact h_ | (have e_ := (Kd.R_reads' HO_0.out).1; omega) | simpa using h_); obtain rfl := k129_openM hM10; have HP10 := Kd.R_seg HX10.out (x5_1 : Int) (of_decide_eq_true (by first | (with_reducible assumption) | assumption)) (by have h_ : (x5_1 : Int) < ((x0_1.length : Int) : Int) := of_decide_eq_true (by first | (with_reducible assumption) | assumption); first | exact h_ | (have e_ := (Kd.R_reads' HO_0.out).1; omega) | simpa using h_) (seg := [.int .i64 (wrap64 (x1_1 + 1))]) (j := 1) hcl10 hcc10 (show 2 ≤ 2 from by decide) (x' := (⟨(rd_T129 y356 x5_1).f0, wrap64 (x1_1 + 1)⟩ : S129)) (k129_mkM _ _ _ (⟨(rd_T129 y356 x5_1).f0, wrap64 (x1_1 + 1)⟩ : S129) ) (fun _ hk => hk); have hx10_1 := hcc10 1 _ rfl; (try simp only [show (k129).sz = 2 from rfl, Nat.mul_one, Nat.add_zero] at hx10_1); have hf10_1 := hfr10 1; (try simp only [show (k129).sz = 2 from rfl, Nat.mul_one, Nat.add_zero] at hf10_1); clear hcl10 hcc10 hfr10 hM10) | ((with_reducible refine gate_store (t := 2) (p := 23) rfl ?_); refine store_event (t := 2) (p := 23) (v := ?vo_w11) (w1 := (w9.setCell ⟨go5, (x5_1 : Int).toNat * 2 + 1, none⟩ (.int .i64 (wrap64 (x1_1 + 1))))) ?hg ?ho ?hn ?hr ?_; (case ho => rfl); (case hg => rfl); (case hn => rfl); (case hr => first | (go_simp; done) | (go_simp; rfl)); intro w11 hw; have hg : w9.grownBy w11 (some go5) := (by rw [hw]; exact HP10.2); have hp_ : Kd.R k129 129 w11 w0.heap.size (fun k_ => (P0_ k_ ∨ w.heap.size ≤ k_)) (.slice (some ⟨go5, 0, none⟩) x0_1.length co7) y357 := (by rw [hw, Ny357.out]; exact HP10.1); clear HP10; replace HB := Aside0.mk ((by rw [hw]; exact below_set (HB.out) GB5.out : Below w0.heap.size w0 w11)); replace HK := Aside0.mk (Kept.of_grown (S := (fun k_ => P0_ k_)) hg (by repeat (first | (with_reducible first | exact HK.out | apply Kept.alloc | apply Kept.drewN | apply Kept.drew) | exact HK.out)) (fun k_ e_ => (HO_0.out.1 k_ e_))); replace HO_0 := Aside0.mk (hp_); clear hg hw hp_))); go_roundg k1
     case measure => have := HK1.out; omega
     case rel => exact ⟨(y357), (wrap64 ((wrap64 (x1_1 + 1)) + 1)), (wrap64 (x5_1 + 1)), zF, zF, H', ⟨by have := HK1.out; omega⟩, ⟨by refine zR ?_; exact HO_0.out⟩, ⟨by repeat (first | (with_reducible first | exact HK.out | apply Kept.alloc | apply Kept.drewN | apply Kept.drew) | exact HK.out)⟩, ⟨pR HB⟩⟩
    ·rw [if_neg c4] at H; exact absurd H (by simp)
   ·rw [if_neg c3] at H; have c3b0 : decide (x5_1 < (x0_1.length : Int)) = false := decide_eq_false c3; clear c3; simp only [Option.some.injEq, Prod.mk.injEq] at H; obtain ⟨rfl, rfl⟩ := H; obtain ⟨Ao12, co12, eo12⟩ := Kd.R_slice HO_0.out; subst eo12; (go_wp2); (go_ret); exact ⟨zE, by refine zR ?_; exact HO_0.out, pR HB, by repeat (first | (with_reducible first | exact HK.out | apply Kept.alloc | apply Kept.drewN | apply Kept.drew) | exact HK.out)⟩

/-! ### laws_markText: function 111 -/
def laws_markText.l0 : Nat → Int → ByteArray → Option (ByteArray)
 | 0, _, _ => none
 | k + 1, x0, x3 => if x0 > 0 then ((some (([(wrap64 (48 + (Int.tmod x0 10))) % 256] : List Int) : List Int)).bind fun y358 => (if (strOfNums y358).size + x3.size ≤ 9223372036854775807 then (laws_markText.l0 k (wrap64 (Int.tdiv x0 10)) ((strOfNums y358) ++ x3)) else (none))) else (if 1 + x3.size ≤ 9223372036854775807 then (some ((⟨#[109]⟩ : ByteArray) ++ x3)) else (none))
def laws_markText.f (k : Nat) (a0 : Int) : Option (ByteArray) := if a0 ≤ 0 then (some (⟨#[109, 48]⟩ : ByteArray)) else (laws_markText.l0 k a0 (⟨#[]⟩ : ByteArray))
theorem laws_markText.mono_l : ∀ k, (∀ y0 y1, LeO (laws_markText.l0 k y0 y1) (laws_markText.l0 (k + 1) y0 y1))
 | 0 => fun _ _ r h => by simp [laws_markText.l0] at h
 | k + 1 => by
  have ih0 := laws_markText.mono_l k
  ·intro y0 y1
   unfold laws_markText.l0
   repeat' first
   | (with_reducible exact ih0 _ _)
   | (with_reducible exact LeO.refl _)
   | (with_reducible exact LeO.none _)
   | (with_reducible refine LeO.ite ?_ ?_)
   | (with_reducible refine LeO.bind ?_ (fun _ => ?_))
   | exact ih0 _ _
   | exact LeO.none _
   | refine LeO.ite ?_ ?_
   | refine LeO.bind ?_ (fun _ => ?_)
theorem laws_markText.mono : ∀ a0 k, LeO (laws_markText.f k a0) (laws_markText.f (k + 1) a0) := by
 intro a0 k; have ih0 := laws_markText.mono_l k; unfold laws_markText.f
 repeat' first
   | (with_reducible exact ih0 _ _)
   | (with_reducible exact LeO.refl _)
   | (with_reducible exact LeO.none _)
   | (with_reducible refine LeO.ite ?_ ?_)
   | (with_reducible refine LeO.bind ?_ (fun _ => ?_))
   | exact ih0 _ _
   | exact LeO.none _
   | refine LeO.ite ?_ ?_
   | refine LeO.bind ?_ (fun _ => ?_)
set_option maxHeartbeats 8000000 in
set_option maxRecDepth 100000 in
theorem laws_markText.calls (k : Nat) (a0 : Int) (r : ByteArray) (w : World) (h : laws_markText.f k a0 = some r) :
  Calls Try.prog 111 #[.int .i64 a0] w fun e w' => e = .returned (.string r) ∧ Below w.heap.size w w' := by
 have HB := Aside0.mk (Below.refl w.heap.size w); have H : (if a0 ≤ 0 then (some (⟨#[109, 48]⟩ : ByteArray)) else (laws_markText.l0 k a0 (⟨#[]⟩ : ByteArray))) = some r := h; clear h; by_cases c2 : a0 ≤ 0
 ·rw [if_pos c2] at H; have c2b0 : decide (a0 ≤ 0) = true := decide_eq_true c2; clear c2; obtain rfl := Option.some.inj H; simp only [Option.some.injEq, Prod.mk.injEq] at H; obtain ⟨rfl⟩ := H; (go_enter Try.func111, Try.ntmps111); (go_wp2); (go_ret); exact ⟨zE, pR HB⟩
 ·rw [if_neg c2] at H; have c2b0 : decide (a0 ≤ 0) = false := decide_eq_false c2; clear c2; have H' := Aside0.mk H; clear H; (go_enter Try.func111, Try.ntmps111); (go_wp2); go_loopg [0, 3] k (fun kq v0 v3 w' => ∃ (x0_1 : Int) (x3_1 : ByteArray), v0 = .int .i64 x0_1 ∧ v3 = .string x3_1 ∧ Aside0 (laws_markText.l0 kq x0_1 x3_1 = some r) ∧ Aside0 (kq ≤ k) ∧ Aside0 (Below w.heap.size w w'))
  case atStart => exact ⟨(a0), ((⟨#[]⟩ : ByteArray)), zF, zF, H', ⟨Nat.le_refl _⟩, ⟨pR HB⟩⟩
  case round =>
   clear H'; (try clear c1); (try clear c2); (try clear c2b0); (try clear p2); obtain ⟨x0_1, x3_1, rfl, rfl, HA, HK1, HB⟩ := hrel
   cases gk with
   | zero => exact absurd HA.out (by simp [laws_markText.l0])
   | succ k1 =>
    have H := HA.out; clear HA; simp only [laws_markText.l0] at H; by_cases c3 : x0_1 > 0
    ·rw [if_pos c3] at H; have c3b0 : decide (0 < x0_1) = true := decide_eq_true c3; clear c3; obtain ⟨y358, hy358⟩ : ∃ y_ : List Int, y_ = (([(wrap64 (48 + (Int.tmod x0_1 10))) % 256] : List Int)) := ⟨_, rfl⟩; (replace H : (if (strOfNums y358).size + x3_1.size ≤ 9223372036854775807 then (laws_markText.l0 k1 (wrap64 (Int.tdiv x0_1 10)) ((strOfNums y358) ++ x3_1)) else (none)) = some r := by first | (rw [hy358]; with_reducible exact H) | (have H2_ := (Option.bind_some _ _).symm.trans H; rw [hy358]; with_reducible exact H2_) | (have H2_ := (Option.bind_some _ _).symm.trans H; with_reducible exact H2_) | with_reducible exact H | (rw [hy358]; exact H) | exact H); have Ny358 := Aside0.mk hy358; clear hy358; by_cases c4 : (strOfNums y358).size + x3_1.size ≤ 9223372036854775807
     ·rw [if_pos c4] at H; have c4b0 := eq_true c4; have c4b1 : decide ((strOfNums y358).size + x3_1.size ≤ 9223372036854775807) = true := decide_eq_true c4; (try have c4b2 : (9223372036854775807 < (strOfNums y358).size + x3_1.size) = False := eq_false (Nat.not_lt.2 c4)); have H' := Aside0.mk H; clear H; (go_wp2_with (first | ((with_reducible refine gate_dst (N := 12) rfl ?_); refine Kd.R_lit (Kd.int .u8) _ 5 ?hg (N := 12) ?hd (xs := ([(wrap64 (48 + (Int.tmod x0_1 10))) % 256] : List Int)) (inner := [.int .u8 ((wrap64 (48 + (Int.tmod x0_1 10))) % 256)]) (ok := fun _ => True) (okp := fun _ => True) ?hr ?hp (fun _ hk => hk) trivial (Below.refl _ _) (Nat.le_refl _) (by simp) ?_; (case hd => rfl); (case hg => rfl); (case hr => first | (go_simp; done) | (go_simp; rfl)); (case hp => exact (Reps.one (show Kd.M (Kd.int .u8) _ _ _ ((wrap64 (48 + (Int.tmod x0_1 10))) % 256) [.int .u8 ((wrap64 (48 + (Int.tmod x0_1 10))) % 256)] from rfl) (Reps.none _ _))); intro v359 w5 ho6 hb hg_ hnew_; clear hg_ hnew_; (first | rw [← Ny358.out] at ho6 | (simp only [Int.reduceToNat] at ho6; rw [← Ny358.out] at ho6)); have HO360 := Aside0.mk (Kd.R_lower ho6 (below_size (pR HB))); replace HB := pS HB hb; clear hb ho6; have hcv7 := own_string (P := Try.prog) Try.underlying90 Try.underlying5 Try.underlying9 (Kd.own_of_R HO360.out)))); go_roundg k1
      case measure => have := HK1.out; omega
      case rel => exact ⟨(wrap64 (Int.tdiv x0_1 10)), ((strOfNums y358) ++ x3_1), zF, zF, H', ⟨by have := HK1.out; omega⟩, ⟨pR HB⟩⟩
     ·rw [if_neg c4] at H; exact absurd H (by simp)
    ·rw [if_neg c3] at H; have c3b0 : decide (0 < x0_1) = false := decide_eq_false c3; clear c3; by_cases c8 : 1 + x3_1.size ≤ 9223372036854775807
     ·rw [if_pos c8] at H; have c8b0 := eq_true c8; have c8b1 : decide (1 + x3_1.size ≤ 9223372036854775807) = true := decide_eq_true c8; (try have c8b2 : (9223372036854775807 < 1 + x3_1.size) = False := eq_false (Nat.not_lt.2 c8)); obtain rfl := Option.some.inj H; simp only [Option.some.injEq, Prod.mk.injEq] at H; obtain ⟨rfl⟩ := H; (go_wp2); (go_ret); exact ⟨zE, pR HB⟩
     ·rw [if_neg c8] at H; exact absurd H (by simp)

/-! ### laws_markHungS: function 89, by hand -/
def laws_markHungS.l0 : Nat → List (S79) → Int → Int → Option (Int × (List (S79)))
 | 0, _, _, _ => none
 | k + 1, x0, x1, x2 => if x2 < (x0.length : Int) then (if 0 ≤ x2 then ((laws_markText.f k x1).bind fun t1 => ((laws_markSpotS.f k ((rd_T79 x0 x2).f1) (wrap64 (x1 + 1))).bind fun bt1 => (laws_markHungS.l0 k (x0.set (x2 : Int).toNat (⟨t1, bt1.2, (Int.tmod bt1.1 3) == 0⟩ : S79)) (wrap64 (bt1.1 + 1)) (wrap64 (x2 + 1))))) else (none)) else (some (x1, x0))
def laws_markHungS.f (k : Nat) (l0 : List (S79)) (a1 : Int) : Option (Int × (List (S79))) := laws_markHungS.l0 k l0 a1 0
theorem laws_markHungS.mono_l : ∀ k, (∀ y0 y1 y2, LeO (laws_markHungS.l0 k y0 y1 y2) (laws_markHungS.l0 (k + 1) y0 y1 y2))
 | 0 => fun _ _ _ r h => by simp [laws_markHungS.l0] at h
 | k + 1 => by
  have ih0 := laws_markHungS.mono_l k
  intro y0 y1 y2
  unfold laws_markHungS.l0
  repeat' first
   | (with_reducible exact ih0 _ _ _)
   | (with_reducible exact laws_markText.mono _ _)
   | (with_reducible exact laws_markSpotS.mono _ _ _)
   | (with_reducible exact LeO.refl _)
   | (with_reducible exact LeO.none _)
   | (with_reducible refine LeO.ite ?_ ?_)
   | (with_reducible refine LeO.bind ?_ (fun _ => ?_))
theorem laws_markHungS.mono : ∀ a0 a1 k, LeO (laws_markHungS.f k a0 a1) (laws_markHungS.f (k + 1) a0 a1) := fun a0 a1 k => laws_markHungS.mono_l k a0 a1 0
set_option maxHeartbeats 8000000 in
set_option maxRecDepth 100000 in
theorem laws_markHungS.calls (k : Nat) (P0_ : Nat → Prop) (u9000_ : Value) (l0 : List (S79)) (a1 : Int) (r1 : Int) (r2 : List (S79)) (w0 w : World) (hB : Below w0.heap.size w0 w) (ho0 : Kd.S k79 79 w w0.heap.size P0_ u9000_ l0) (h : laws_markHungS.f k l0 a1 = some (r1, r2)) :
 Calls Try.prog 89 #[u9000_, .int .i64 a1] w fun e w' => e = .returned (.int .i64 r1) ∧ Kd.S k79 79 w' w0.heap.size (fun k_ => P0_ k_) u9000_ r2 ∧ Below w0.heap.size w0 w' ∧ Kept w w' (fun k_ => P0_ k_) := by
 have H' := Aside0.mk (show laws_markHungS.l0 k l0 a1 0 = some (r1, r2) from h); clear h; obtain ⟨A, c, rfl⟩ := Kd.S_slice ho0; have HO := Aside0.mk ho0; have HB := Aside0.mk hB; have HK := Aside0.mk (Kept.refl w (fun k_ => P0_ k_)); clear ho0 hB; generalize hn : l0.length = n; rw [hn] at HO; have HX := Aside0.mk hn; clear hn; (go_enter Try.func89, Try.ntmps89); (go_wp2); go_loopg [1, 5] k (fun kq v1 v5 w' => ∃ (x0 : List (S79)) (x1 x2 : Int), v1 = .int .i64 x1 ∧ v5 = .int .i64 x2 ∧ Aside0 (x0.length = n) ∧ Aside0 (laws_markHungS.l0 kq x0 x1 x2 = some (r1, r2)) ∧ Aside0 (kq ≤ k) ∧ Aside0 (Kd.S k79 79 w' w0.heap.size (fun k_ => P0_ k_) (.slice A n c) x0) ∧ Aside0 (Below w0.heap.size w0 w') ∧ Aside0 (Kept w w' (fun k_ => P0_ k_)))
 case atStart => exact ⟨l0, a1, 0, rfl, rfl, HX, H', ⟨Nat.le_refl _⟩, HO, HB, HK⟩
 case round =>
  clear H' HX HO HB HK; obtain ⟨x0, x1, x2, rfl, rfl, HX, HA, HK1, HO, HB, HK⟩ := hrel
  cases gk with
  | zero => exact absurd HA.out (by simp [laws_markHungS.l0])
  | succ k1 =>
   have H := HA.out; clear HA; simp only [laws_markHungS.l0] at H; by_cases c1 : x2 < (x0.length : Int)
   ·rw [if_pos c1] at H; by_cases c2 : 0 ≤ x2
    ·rw [if_pos c2] at H; (have c3 : x2 < (n : Int) := by have := HX.out; omega); (have c4 : 0 < x0.length := by omega); obtain ⟨g, cap, eu, hbg, _⟩ := Kd.S_form HO.out c4; injection eu with e1 e2 e3; subst e1; subst e3; clear e2 c4; obtain ⟨t1, A0, H⟩ := Option.bind_eq_some_iff.mp H; obtain ⟨⟨b1, b2⟩, A1, H⟩ := Option.bind_eq_some_iff.mp H; replace H : laws_markHungS.l0 k1 (x0.set x2.toNat (⟨t1, b2, (Int.tmod b1 3) == 0⟩ : S79)) (wrap64 (b1 + 1)) (wrap64 (x2 + 1)) = some (r1, r2) := H; have HT := Aside0.mk A0; have HA := Aside0.mk (show laws_markSpotS.f k1 ((x0.getD x2.toNat z79).f1) (wrap64 (x1 + 1)) = some (b1, b2) from A1); have H' := Aside0.mk H; have HG := Aside0.mk hbg; have HC := Aside0.mk c2; have HC3 := Aside0.mk c3; clear H A0 A1 c1 hbg; have hb0 : decide (x2 < (n : Int)) = true := decide_eq_true c3; have p1 : (0 ≤ x2) = True := eq_true c2; have q1 : (x2 < (n : Int)) = True := eq_true c3; generalize hy : x0.getD x2.toNat z79 = y at HA; have HY := Aside0.mk hy; clear hy c2 c3; (go_wp2_with (first | (go_at_call 111; (with_reducible refine (laws_markText.calls k1 x1 t1 _ HT.out).mono ?_); rintro e w2 ⟨rfl, hb⟩; replace HO := Aside0.mk (Kd.S_below HO.out hb); replace HB := Aside0.mk (below_then HB.out HB.out.size hb); replace HK := Aside0.mk (Kept.below HK.out hb); clear hb; obtain ⟨oki, cs, hcl, hM, hcc, hfr, hoki, hH⟩ := Kd.S_elem HO.out z79 x2 HC.out HC3.out; rw [HY.out] at hM; obtain ⟨v, rfl, hR⟩ := k79_openM hM; have hx0 : w2.cell? ⟨g, x2.toNat * 3, none⟩ = some (.string y.f0) := hcc 0 _ rfl; have hx1 : w2.cell? ⟨g, x2.toNat * 3 + 1, none⟩ = some v := hcc 1 _ rfl; have hf0 : w2.frozen? ⟨g, x2.toNat * 3, none⟩ = false := hfr 0; obtain ⟨B, d, rfl⟩ := Kd.R_slice hR; have hseg := Kd.H_seg hH HC.out HC3.out (seg := [.string t1]) (j := 0) (show 0 + 1 ≤ 3 by omega) (by simp [Value.oneCell']); have HH := Aside0.mk (show Kd.H k79 79 (w2.setCell ⟨g, x2.toNat * 3, none⟩ (.string t1)) _ _ _ _ _ _ [.string t1, .slice B y.f1.length d, .bool y.f2] from hseg.1); have HR := Aside0.mk (Kd.R_far (p := ⟨g, x2.toNat * 3, none⟩) hR (fun k hk => (hoki k hk).2) (.string t1)); have HOK := Aside0.mk hoki; have HB1 := Aside0.mk (HB.out.setCell (p := ⟨g, x2.toNat * 3, none⟩) HG.out (.string t1)); have HK2 := Aside0.mk (Kept.setCell (p := ⟨g, x2.toNat * 3, none⟩) HK.out (.inl ((Kd.S_R HO.out).1 g rfl)) (.string t1)); have HP := Aside0.mk ((Kd.S_R HO.out).1 g rfl); clear hM hcl hcc hfr hoki hR hH hseg) | (go_at_call 102; (try simp only [i64_w]); (with_reducible refine (laws_markSpotS.calls k1 oki _ y.f1 (wrap64 (x1 + 1)) b1 b2 w0 _ HB1.out HR.out HA.out).mono ?_); rintro e w3 ⟨rfl, hy, hb, hkp⟩; have n0_ := Aside0.mk (Kd.H_kept HH.out hkp (fun k _ hn hs => hn hs)); have n3_ := Aside0.mk (Kd.R_reok (ok := oki) rfl hy (fun k hk => HR.out.1 k hk)); have n1_ := Aside0.mk hb; have n2_ := Aside0.mk (Kept.then_ HK2.out hkp (fun k hk => Or.inl (HOK.out k hk).1)); clear HO HB HK HB1 HK2 hy hb hkp hx0 hx1 hf0 HH HR; have HH := n0_; have HB := n1_; have HK := n2_; have HR := n3_; clear n0_ n1_ n2_ n3_; have hx2 := (Kd.H_at HH.out HC.out HC3.out).1 2 _ rfl; have hf2 := (Kd.H_at HH.out HC.out HC3.out).2 2; rw [show x2.toNat * k79.sz + 2 = x2.toNat * 3 + 2 from rfl] at hx2 hf2))); have HO := Aside0.mk (Kd.H_back (show Kd.H k79 79 (w3.setCell ⟨g, x2.toNat * 3 + 2, none⟩ (.bool ((Int.tmod b1 3) == 0))) _ _ _ _ _ _ [.string t1, .slice B y.f1.length d, .bool ((Int.tmod b1 3) == 0)] from (Kd.H_seg HH.out HC.out HC3.out (seg := [.bool ((Int.tmod b1 3) == 0)]) (j := 2) (show 2 + 1 ≤ 3 by omega) (by simp [Value.oneCell'])).1) (k79_mkM _ _ oki ⟨t1, b2, (Int.tmod b1 3) == 0⟩ (Kd.R_far (p := ⟨g, x2.toNat * 3 + 2, none⟩) HR.out (fun k hk => (HOK.out k hk).2) (.bool ((Int.tmod b1 3) == 0)))) (fun _ hk => hk)); have HB1 := Aside0.mk (HB.out.setCell (p := ⟨g, x2.toNat * 3 + 2, none⟩) HG.out (.bool ((Int.tmod b1 3) == 0))); have HK2 := Aside0.mk (Kept.setCell (p := ⟨g, x2.toNat * 3 + 2, none⟩) HK.out (.inl HP.out) (.bool ((Int.tmod b1 3) == 0))); clear HB HK; have HB := HB1; have HK := HK2; have HX2 : Aside0 ((x0.set x2.toNat (⟨t1, b2, (Int.tmod b1 3) == 0⟩ : S79)).length = n) := ⟨by rw [List.length_set]; exact HX.out⟩; go_roundg k1
     case measure => have := HK1.out; omega
     case rel => exact ⟨_, _, _, rfl, rfl, HX2, H', ⟨by have := HK1.out; omega⟩, HO, HB, HK⟩
    ·rw [if_neg c2] at H
     cases H
   ·rw [if_neg c1] at H; have hb0 : decide (x2 < (n : Int)) = false := decide_eq_false (by have := HX.out; omega); clear c1; obtain ⟨rfl, rfl⟩ := Prod.mk.inj (Option.some.inj H); (go_wp2); (go_ret); exact ⟨rfl, HO.out, HB.out, HK.out⟩

/-! ### laws_markPlan: function 42, by hand -/
def laws_markPlan.f (k : Nat) (l0_0 : List (S79)) (a0_1 : Int) (a0_2 : Int) (a1 : Int) : Option (Int × (List (S79))) := laws_markHungS.f k l0_0 a1
theorem laws_markPlan.mono : ∀ a0 a1 a2 a3 k, LeO (laws_markPlan.f k a0 a1 a2 a3) (laws_markPlan.f (k + 1) a0 a1 a2 a3) := fun a0 _ _ a3 k => laws_markHungS.mono a0 a3 k
set_option maxHeartbeats 8000000 in
set_option maxRecDepth 100000 in
theorem laws_markPlan.calls (k : Nat) (P0_0_ : Nat → Prop) (u9000_ : Value) (l0_0 : List (S79)) (a0_1 : Int) (a0_2 : Int) (a1 : Int) (r1 : Int) (r2 : List (S79)) (w0 w : World) (hB : Below w0.heap.size w0 w) (ho0 : Kd.S k79 79 w w0.heap.size P0_0_ u9000_ l0_0) (h : laws_markPlan.f k l0_0 a0_1 a0_2 a1 = some (r1, r2)) :
 Calls Try.prog 42 #[.agg #[u9000_, .int .i64 a0_1, .int .i64 a0_2], .int .i64 a1] w fun e w' => e = .returned (.int .i64 r1) ∧ Kd.S k79 79 w' w0.heap.size (fun k_ => P0_0_ k_) u9000_ r2 ∧ Below w0.heap.size w0 w' ∧ Kept w w' (fun k_ => P0_0_ k_) := by
 have HA := Aside0.mk (show laws_markHungS.f k l0_0 a1 = some (r1, r2) from h); obtain ⟨A, c, rfl⟩ := Kd.S_slice ho0; have HO := Aside0.mk ho0; have HB := Aside0.mk hB; have HK := Aside0.mk (Kept.refl w (fun k_ => P0_0_ k_)); clear ho0 hB h; (go_enter Try.func42, Try.ntmps42); (go_wp2_with (first | ((with_reducible refine gate_dst (N := 2) rfl ?_); refine box_event ?hg (N := 2) ?hd (cs := #[.slice A l0_0.length c, .int .i64 a0_1, .int .i64 a0_2]) (t := 64) ?hr ?_; (case hd => rfl); (case hg => rfl); (case hr => first | (go_simp; done) | (go_simp; rfl)); intro gb hg w2 hbox hb; have n0_ := Aside0.mk (Kd.S_below HO.out hb); have n1_ := Aside0.mk (below_then HB.out HB.out.size hb); have n2_ := Aside0.mk (Kept.below HK.out hb); have BX := Aside0.mk hbox; clear HO HB HK hb hbox hg; have HO := n0_; have HB := n1_; have HK := n2_; clear n0_ n1_ n2_; obtain ⟨hx0, hx1, hx2, hy0, hy1, hy2⟩ := cz3 BX) | (go_at_call 89; (with_reducible refine (laws_markHungS.calls k P0_0_ _ l0_0 a1 r1 r2 w0 _ HB.out HO.out HA.out).mono ?_); rintro e w3 ⟨rfl, ho, hb, hkp⟩; replace HO := Aside0.mk ho; replace HB := Aside0.mk hb; replace HK := Aside0.mk (Kept.then_ HK.out hkp (fun k hk => Or.inl hk)); clear ho hb hkp hx0 hx1 hx2 hy0 hy1 hy2))); (go_ret); exact ⟨rfl, HO.out, HB.out, HK.out⟩

end Go.Proofs.Ytlphfgbeeckjnaa.PFnExactOverlapsOf
