-- Written by a program of this session (wip/tools/pp.sh).
import Derived.Test.YtlphfgbeeckjnaaPFnExactBestSailsx0
import Derived.Test.YtlphfgbeeckjnaaPFnExactBestSailsx1
namespace Go.Proofs.Ytlphfgbeeckjnaa.PFnExactBestSails
open Go.RowKit Go.Proofs.YtlphfgbeeckjnaaW.PrintWords Go.Proofs.YtlphfgbeeckjnaaW.PrintLast Go.Proofs.YtlphfgbeeckjnaaW.PrintMore Go.Proofs.Ytlphfgbeeckjnaa.Small
open Bool renaming true → T, false → F
attribute [local go_sem] max2_int min2_int max_two min_two max_three min_three max_four min_four   -- for this text's walks alone
set_option linter.unusedVariables false
set_option linter.unusedSimpArgs false

/-! ### laws_eqSpotS: function 101 -/
def laws_eqSpotS.l0 : Nat → List (S129) → List (S129) → Int → Option (Bool)
 | 0, _, _, _ => none
 | k + 1, x0, x1, x5 => if x5 < (x0.length : Int) then (if 0 ≤ x5 then (if x5 < (x1.length : Int) then ((laws_eqSpot.f ((rd_T129 x0 x5).f0) ((rd_T129 x0 x5).f1) ((rd_T129 x1 x5).f0) ((rd_T129 x1 x5).f1)).bind fun t143 => (if t143 = true then (laws_eqSpotS.l0 k x0 x1 (wrap64 (x5 + 1))) else (some false))) else (none)) else (none)) else (some true)
def laws_eqSpotS.f (k : Nat) (l0 : List (S129)) (l1 : List (S129)) : Option (Bool) := if (l0.length : Int) = (l1.length : Int) then (laws_eqSpotS.l0 k l0 l1 0) else (some false)
theorem laws_eqSpotS.mono_l : ∀ k, (∀ y0 y1 y2, LeO (laws_eqSpotS.l0 k y0 y1 y2) (laws_eqSpotS.l0 (k + 1) y0 y1 y2))
 | 0 => fun _ _ _ r h => by simp [laws_eqSpotS.l0] at h
 | k + 1 => by
  have ih0 := laws_eqSpotS.mono_l k
  ·intro y0 y1 y2
   unfold laws_eqSpotS.l0
   repeat' first
   | (with_reducible exact ih0 _ _ _)
   | (with_reducible exact LeO.refl _)
   | (with_reducible exact LeO.none _)
   | (with_reducible refine LeO.ite ?_ ?_)
   | (with_reducible refine LeO.bind ?_ (fun _ => ?_))
   | exact ih0 _ _ _
   | exact LeO.none _
   | refine LeO.ite ?_ ?_
   | refine LeO.bind ?_ (fun _ => ?_)
theorem laws_eqSpotS.mono : ∀ a0 a1 k, LeO (laws_eqSpotS.f k a0 a1) (laws_eqSpotS.f (k + 1) a0 a1) := by
 intro a0 a1 k; have ih0 := laws_eqSpotS.mono_l k; unfold laws_eqSpotS.f
 repeat' first
   | (with_reducible exact ih0 _ _ _)
   | (with_reducible exact LeO.refl _)
   | (with_reducible exact LeO.none _)
   | (with_reducible refine LeO.ite ?_ ?_)
   | (with_reducible refine LeO.bind ?_ (fun _ => ?_))
   | exact ih0 _ _ _
   | exact LeO.none _
   | refine LeO.ite ?_ ?_
   | refine LeO.bind ?_ (fun _ => ?_)
def laws_eqSpotS.T6 : Bool × List (List Nat × List Nat) := (true, [([], []), ([], []), ([0, 1], [0, 1]), ([2], [2]), ([], []), ([], []), ([4, 5], [4, 5]), ([6], [6]), ([3, 7], [3, 7]), ([8], [8])])
def laws_eqSpotS.B6 : List Nat := [0, 0, 3, 7, 0, 0, 48, 112, 255, 511]
theorem laws_eqSpotS.tab6 : rtab .any (opsOf Try.f101 6) = laws_eqSpotS.T6 := by kernel_rfl
theorem laws_eqSpotS.bits6 : waitsOk laws_eqSpotS.T6.2 laws_eqSpotS.B6 = true := by kernel_rfl
set_option maxHeartbeats 8000000 in
set_option maxRecDepth 100000 in
theorem laws_eqSpotS.calls (k : Nat) (A0 : Option Addr) (c0 : Nat) (l0 : List (S129)) (A1 : Option Addr) (c1 : Nat) (l1 : List (S129)) (r : Bool) (w : World) (hr0 : Kd.C k129 w A0 l0.length l0) (hc0 : l0.length ≤ c0) (hr1 : Kd.C k129 w A1 l1.length l1) (hc1 : l1.length ≤ c1) (h : laws_eqSpotS.f k l0 l1 = some r) :
  Calls Try.prog 101 #[.slice A0 l0.length c0, .slice A1 l1.length c1] w fun e w' => e = .returned (.bool r) ∧ Below w.heap.size w w' := by
 have hu129 := Try.underlying129; have HR0 := Aside0.mk hr0; have HC0 := Aside0.mk hc0; clear hr0 hc0; have HR1 := Aside0.mk hr1; have HC1 := Aside0.mk hc1; clear hr1 hc1; have HB := Aside0.mk (Below.refl w.heap.size w); have H : (if (l0.length : Int) = (l1.length : Int) then (laws_eqSpotS.l0 k l0 l1 0) else (some false)) = some r := h; clear h; by_cases c3 : (l0.length : Int) = (l1.length : Int)
 ·rw [if_pos c3] at H; have c3b0 : ((l0.length : Int) == (l1.length : Int)) = true := beq_iff_eq.mpr c3; have c3b1 : ((l0.length : Int) != (l1.length : Int)) = false := bne_eq_false_iff_eq.mpr c3; (have c3b2 : (l0.length == l1.length) = true := by first | simpa using c3 | (simp at c3 ⊢; omega)); clear c3; have H' := Aside0.mk H; clear H; (go_enter Try.func101, Try.ntmps101); (go_wp2); go_loopg [5] k (fun kq v5 w' => ∃ (x5_1 : Int), v5 = .int .i64 x5_1 ∧ Aside0 (laws_eqSpotS.l0 kq l0 l1 x5_1 = some r) ∧ Aside0 (kq ≤ k) ∧ Aside0 (Below w.heap.size w w'))
  case atStart => exact ⟨(0), zF, H', ⟨Nat.le_refl _⟩, ⟨pR HB⟩⟩
  case round =>
   clear H'; (try clear c1); (try clear p2); (try clear c3); (try clear c3b0); (try clear c3b1); (try clear c3b2); obtain ⟨x5_1, rfl, HA, HK1, HB⟩ := hrel
   cases gk with
   | zero => exact absurd HA.out (by simp [laws_eqSpotS.l0])
   | succ k1 =>
    have H := HA.out; clear HA; simp only [laws_eqSpotS.l0] at H; by_cases c4 : x5_1 < (l0.length : Int)
    ·rw [if_pos c4] at H; have c4b0 : decide (x5_1 < (l0.length : Int)) = true := decide_eq_true c4; clear c4; by_cases c5 : 0 ≤ x5_1
     ·rw [if_pos c5] at H; have c5b0 : decide (0 ≤ x5_1) = true := decide_eq_true c5; clear c5; by_cases c6 : x5_1 < (l1.length : Int)
      ·rw [if_pos c6] at H; have c6b0 : decide (x5_1 < (l1.length : Int)) = true := decide_eq_true c6; clear c6; replace H := Option.bind_eq_some_iff.mp H; obtain ⟨t143, A70, H⟩ := H; (try dsimp only at H); have A7 := Aside0.mk A70; clear A70; have HF_ := Aside0.mk H; clear H; (try go_wp2); replace HB := Aside0.mk (below_drew1 HB.out); have p141 : 0 ≤ (x5_1 : Int) := of_decide_eq_true (by first | (with_reducible assumption) | assumption); have q141 : x5_1 < (l0.length : Int) := of_decide_eq_true (by first | (with_reducible assumption) | assumption); obtain ⟨ad141, e141, hx141_0, hx141_1⟩ := at_T129 HR0.out x5_1 p141 q141; have hw141_1 := hx141_1; have hw141_0 := hx141_0
       cases e141
       replace hx141_0 := bC HB hx141_0; replace hx141_1 := bC HB hx141_1; replace p141 := eq_true p141; replace q141 := eq_true q141; have p142 : 0 ≤ (x5_1 : Int) := of_decide_eq_true (by first | (with_reducible assumption) | assumption); have q142 : x5_1 < (l1.length : Int) := of_decide_eq_true (by first | (with_reducible assumption) | assumption); obtain ⟨ad142, e142, hx142_0, hx142_1⟩ := at_T129 HR1.out x5_1 p142 q142; have hw142_1 := hx142_1; have hw142_0 := hx142_0
       cases e142
       replace hx142_0 := bC HB hx142_0; replace hx142_1 := bC HB hx142_1; replace p142 := eq_true p142; replace q142 := eq_true q142; refine start_ (n := 10) (S := fun w' => w'.cell? (ad141.add ((x5_1).toNat * 2)) = some (.int .i64 ((rd_T129 l0 x5_1).f0)) ∧ w'.cell? ⟨(ad141.add ((x5_1).toNat * 2)).block, (ad141.add ((x5_1).toNat * 2)).off + 1, none⟩ = some (.int .i64 ((rd_T129 l0 x5_1).f1)) ∧ w'.cell? (ad142.add ((x5_1).toNat * 2)) = some (.int .i64 ((rd_T129 l1 x5_1).f0)) ∧ w'.cell? ⟨(ad142.add ((x5_1).toNat * 2)).block, (ad142.add ((x5_1).toNat * 2)).off + 1, none⟩ = some (.int .i64 ((rd_T129 l1 x5_1).f1))) (ds := []) #[F,F,F,F,F,F,F,F,F,F] (by kernel_rfl) rfl rfl ⟨((HB.out.cell (World.block_lt_of_cell? w _ hw141_0)).trans hw141_0), ((HB.out.cell (World.block_lt_of_cell? w _ hw141_1)).trans hw141_1), ((HB.out.cell (World.block_lt_of_cell? w _ hw142_0)).trans hw142_0), ((HB.out.cell (World.block_lt_of_cell? w _ hw142_1)).trans hw142_1)⟩ (fun hHeld => ?_); refine with_tabW laws_eqSpotS.tab6 laws_eqSpotS.bits6 (fun HT_ HW_ => ?_); generalize wr.drew = w8 at HB hx141_0 hx141_1 hx142_0 hx142_1 hHeld ⊢; refine pV (i := 0) (N := some 17) #[T,F,F,F,F,F,F,F,F,F] HT_ ?_; refine pV (i := 1) (N := some 18) #[T,T,F,F,F,F,F,F,F,F] HT_ ?_; refine pV (i := 2) (N := some 19) #[T,T,T,F,F,F,F,F,F,F] HT_ ?_; refine pV (i := 4) (N := some 21) #[T,T,T,F,T,F,F,F,F,F] HT_ ?_; refine pV (i := 5) (N := some 22) #[T,T,T,F,T,T,F,F,F,F] HT_ ?_; refine pV (i := 6) (N := some 23) #[T,T,T,F,T,T,T,F,F,F] HT_ ?_; refine tV (i := 3) (N := some 20) #[T,T,T,T,T,T,T,F,F,F] rfl rfl HT_ HW_ hHeld (by rintro w' ⟨s0, s1, s2, s3⟩; go_simp; with_reducible rfl) ?_; refine tV (i := 7) (N := some 24) #[T,T,T,T,T,T,T,T,F,F] rfl rfl HT_ HW_ hHeld (by rintro w' ⟨s0, s1, s2, s3⟩; go_simp; with_reducible rfl) ?_; refine one_ (i := 8) (N := some 25) #[T,T,T,T,T,T,T,T,T,F] rfl rfl (one_of HT_.out (by kernel_rfl)) (by decide) (fun K hK => ?_); refine goes_ Try.func141 (by kernel_rfl) rfl #[.agg #[.int .i64 ((rd_T129 l0 x5_1).f0), .int .i64 ((rd_T129 l0 x5_1).f1)], .agg #[.int .i64 ((rd_T129 l1 x5_1).f0), .int .i64 ((rd_T129 l1 x5_1).f1)]] (by rfl) rfl rfl zM ?_; (with_reducible refine (laws_eqSpot.calls ((rd_T129 l0 x5_1).f0) ((rd_T129 l0 x5_1).f1) ((rd_T129 l1 x5_1).f0) ((rd_T129 l1 x5_1).f1) t143 _ A7.out).mono ?_); rintro e w9 ⟨rfl, hb⟩; refine ⟨_, rfl, ?_⟩; replace HB := pS HB hb; (try clear hb); refine hK.out _ _ ⟨((HB.out.cell (World.block_lt_of_cell? w _ hw141_0)).trans hw141_0), ((HB.out.cell (World.block_lt_of_cell? w _ hw141_1)).trans hw141_1), ((HB.out.cell (World.block_lt_of_cell? w _ hw142_0)).trans hw142_0), ((HB.out.cell (World.block_lt_of_cell? w _ hw142_1)).trans hw142_1)⟩ (fun hHeld => ?_); clear hK K; refine norm_ (a' := ?_) ?_ ?_; rotate_left
       ·(show Act.put _ (some 25) _ = _); simp only [NS]; rfl
       refine pV (i := 9) (N := some 26) #[T,T,T,T,T,T,T,T,T,T] HT_ ?_; refine done_ (done_of HT_.out (by kernel_rfl)) ?_; (go_upto_if 26 with (fail)); have H := HF_.out; clear HF_; by_cases c10 : t143 = true
       ·subst c10; (have H1 : (laws_eqSpotS.l0 k1 l0 l1 (wrap64 (x5_1 + 1))) = some r := by rw [if_pos rfl] at H; exact H); clear H; have H := H1; clear H1; have H' := Aside0.mk H; clear H; (go_wp2); go_roundg k1
        case measure => have := HK1.out; omega
        case rel => exact ⟨(wrap64 (x5_1 + 1)), zF, H', ⟨by have := HK1.out; omega⟩, ⟨pR HB⟩⟩
       ·replace c10 := Bool.eq_false_iff.mpr c10; subst c10; (have H1 : (some false) = some r := by rw [if_neg (show ¬ (false = true) by decide)] at H; exact H); clear H; have H := H1; clear H1; obtain rfl := Option.some.inj H; simp only [Option.some.injEq, Prod.mk.injEq] at H; obtain ⟨rfl⟩ := H; (go_wp2); (go_ret); exact ⟨zE, pR HB⟩
      ·rw [if_neg c6] at H; exact absurd H (by simp)
     ·rw [if_neg c5] at H; exact absurd H (by simp)
    ·rw [if_neg c4] at H; have c4b0 : decide (x5_1 < (l0.length : Int)) = false := decide_eq_false c4; clear c4; obtain rfl := Option.some.inj H; simp only [Option.some.injEq, Prod.mk.injEq] at H; obtain ⟨rfl⟩ := H; (go_wp2); (go_ret); exact ⟨zE, pR HB⟩
 ·rw [if_neg c3] at H; have c3b0 : ((l0.length : Int) == (l1.length : Int)) = false := beq_eq_false_iff_ne.mpr c3; have c3b1 : ((l0.length : Int) != (l1.length : Int)) = true := bne_iff_ne.mpr c3; (have c3b2 : (l0.length == l1.length) = false := by first | simpa using c3 | (simp at c3 ⊢; omega)); obtain rfl := Option.some.inj H; simp only [Option.some.injEq, Prod.mk.injEq] at H; obtain ⟨rfl⟩ := H; (go_enter Try.func101, Try.ntmps101); (go_wp2); (go_ret); exact ⟨zE, pR HB⟩

/-! ### laws_eqHung: function 50 -/
def laws_eqHung.f (k : Nat) (a0_0 : ByteArray) (l0_1 : List (S129)) (a0_2 : Bool) (a1_0 : ByteArray) (l1_1 : List (S129)) (a1_2 : Bool) : Option (Bool) := if a0_0.toList = a1_0.toList then ((laws_eqSpotS.f k l0_1 l1_1).bind fun t146 => (if t146 = true then (if (a0_2 != a1_2) = true then (some false) else (some true)) else (some false))) else (some false)
theorem laws_eqHung.mono : ∀ a0 a1 a2 a3 a4 a5 k, LeO (laws_eqHung.f k a0 a1 a2 a3 a4 a5) (laws_eqHung.f (k + 1) a0 a1 a2 a3 a4 a5) := by
 intro a0 a1 a2 a3 a4 a5 k; unfold laws_eqHung.f
 repeat' first
   | (with_reducible exact laws_eqSpotS.mono _ _ _)
   | (with_reducible exact LeO.refl _)
   | (with_reducible exact LeO.none _)
   | (with_reducible refine LeO.ite ?_ ?_)
   | (with_reducible refine LeO.bind ?_ (fun _ => ?_))
   | exact laws_eqSpotS.mono _ _ _
   | exact LeO.none _
   | refine LeO.ite ?_ ?_
   | refine LeO.bind ?_ (fun _ => ?_)
set_option maxHeartbeats 8000000 in
set_option maxRecDepth 100000 in
theorem laws_eqHung.calls (k : Nat) (a0_0 : ByteArray) (A0_1 : Option Addr) (c0_1 : Nat) (l0_1 : List (S129)) (a0_2 : Bool) (a1_0 : ByteArray) (A1_1 : Option Addr) (c1_1 : Nat) (l1_1 : List (S129)) (a1_2 : Bool) (r : Bool) (w : World) (hr0_1 : Kd.C k129 w A0_1 l0_1.length l0_1) (hc0_1 : l0_1.length ≤ c0_1) (hr1_1 : Kd.C k129 w A1_1 l1_1.length l1_1) (hc1_1 : l1_1.length ≤ c1_1) (h : laws_eqHung.f k a0_0 l0_1 a0_2 a1_0 l1_1 a1_2 = some r) :
  Calls Try.prog 50 #[.agg #[.string a0_0, .slice A0_1 l0_1.length c0_1, .bool a0_2], .agg #[.string a1_0, .slice A1_1 l1_1.length c1_1, .bool a1_2]] w fun e w' => e = .returned (.bool r) ∧ Below w.heap.size w w' := by
 have hu79 := Try.underlying79; have HR0_1 := Aside0.mk hr0_1; have HC0_1 := Aside0.mk hc0_1; clear hr0_1 hc0_1; have HR1_1 := Aside0.mk hr1_1; have HC1_1 := Aside0.mk hc1_1; clear hr1_1 hc1_1; have HB := Aside0.mk (Below.refl w.heap.size w); have H : (if a0_0.toList = a1_0.toList then ((laws_eqSpotS.f k l0_1 l1_1).bind fun t146 => (if t146 = true then (if (a0_2 != a1_2) = true then (some false) else (some true)) else (some false))) else (some false)) = some r := h; clear h; have HF_ := Aside0.mk H; clear H; (go_enter Try.func50, Try.ntmps50); (go_upto_if 9 with (first | ((with_reducible refine gate_dst (N := 2) rfl ?_); refine box_event ?hg (N := 2) ?hd (cs := #[.string a0_0, .slice A0_1 l0_1.length c0_1, .bool a0_2]) (t := 79) ?hr ?_; (case hd => rfl); (case hg => rfl); (case hr => first | (go_simp; done) | (go_simp; rfl)); intro gb144 hg w3 hbox hb; have BK144 := Aside0.mk (hbox); have GW144 := pG HB hg; have GE144 := pG HB hg; replace HB := pS HB hb; clear hb hbox hg) | ((with_reducible refine gate_dst (N := 3) rfl ?_); refine box_event ?hg (N := 3) ?hd (cs := #[.string a1_0, .slice A1_1 l1_1.length c1_1, .bool a1_2]) (t := 79) ?hr ?_; (case hd => rfl); (case hg => rfl); (case hr => first | (go_simp; done) | (go_simp; rfl)); intro gb145 hg w4 hbox hb; have BK145 := Aside0.mk (hbox); have GW145 := pG HB hg; have GE145 := pG HB hg; replace HB := pS HB hb; have NB144_145 := pN BK144 hg; have NB145_144 := pM BK144 hg; replace BK144 := pB BK144 hb; clear hb hbox hg; have hnb5 := NB144_145.out; have hnc5 := NB145_144.out; obtain ⟨hcz6_0, hcz6_1, hcz6_2, hfz6_0, hfz6_1, hfz6_2⟩ := cz3 BK144; obtain ⟨hcz7_0, hcz7_1, hcz7_2, hfz7_0, hfz7_1, hfz7_2⟩ := cz3 BK145))); (try simp only [Act.put, List.setIfInBounds_toArray, List.set_cons_zero, List.set_cons_succ]); have H := HF_.out; clear HF_; by_cases c8 : a0_0.toList = a1_0.toList
 ·rw [if_pos c8] at H; have c8b0 : (a0_0.toList == a1_0.toList) = true := beq_iff_eq.mpr c8; have c8b1 : (a0_0.toList != a1_0.toList) = false := bne_eq_false_iff_eq.mpr c8; clear c8; (first | rw [c8b0] | (simp only [i64_w, i32_w]; rw [c8b0]) | skip); replace H := Option.bind_eq_some_iff.mp H; obtain ⟨t146, A90, H⟩ := H; (try dsimp only at H); have A9 := Aside0.mk A90; clear A90; by_cases c10 : t146 = true
  ·subst c10; (have H1 : (if (a0_2 != a1_2) = true then (some false) else (some true)) = some r := by rw [if_pos rfl] at H; exact H); clear H; have H := H1; clear H1; by_cases c11 : (a0_2 != a1_2) = true
   ·rw [if_pos c11] at H; have c11b0 : (a0_2 != a1_2) = true := c11; (try (have c11b1 : decide (a0_2 = a1_2) = false := by simpa using c11)); (try (have c11b2 : (a0_2 == a1_2) = false := by simpa using c11)); (try (have c11b3 : ¬ (a0_2 = a1_2) := by simpa using c11)); clear c11; obtain rfl := Option.some.inj H; simp only [Option.some.injEq, Prod.mk.injEq] at H; obtain ⟨rfl⟩ := H; have hnb12 := NB144_145.out; have hnc12 := NB145_144.out; obtain ⟨hcz13_0, hcz13_1, hcz13_2, hfz13_0, hfz13_1, hfz13_2⟩ := cz3 BK144; obtain ⟨hcz14_0, hcz14_1, hcz14_2, hfz14_0, hfz14_1, hfz14_2⟩ := cz3 BK145; (go_wp2_with (first | ((with_reducible refine gate_callee (f := 101) rfl ?_); refine goesL_ (some 14) rfl rfl Try.func101 (by kernel_rfl) rfl #[.slice A0_1 l0_1.length c0_1, .slice A1_1 l1_1.length c1_1] rfl zM ?_; (with_reducible refine (laws_eqSpotS.calls k _ _ l0_1 _ _ l1_1 true _ ?side1 ?side2 ?side3 ?side4 A9.out).mono ?_); (case side1 => (refine zC ?_; exact (Kd.C_below HR0_1.out HB.out))); (case side2 => exact HC0_1.out); (case side3 => (refine zC ?_; exact (Kd.C_below HR1_1.out HB.out))); (case side4 => exact HC1_1.out); rintro e w15 ⟨rfl, hb⟩; refine ⟨_, rfl, ?_⟩; replace BK144 := pB BK144 hb; replace BK145 := pB BK145 hb; replace HB := pS HB hb; (try clear hb); obtain ⟨hcz16_0, hcz16_1, hcz16_2, hfz16_0, hfz16_1, hfz16_2⟩ := cz3 BK144; obtain ⟨hcz17_0, hcz17_1, hcz17_2, hfz17_0, hfz17_1, hfz17_2⟩ := cz3 BK145))); (go_ret); exact ⟨zE, pR HB⟩
   ·rw [if_neg c11] at H; (have c11b0 : (a0_2 != a1_2) = false := by simpa using c11); (try (have c11b1 : decide (a0_2 = a1_2) = true := by simpa using c11)); (try (have c11b2 : (a0_2 == a1_2) = true := by simpa using c11)); clear c11; obtain rfl := Option.some.inj H; simp only [Option.some.injEq, Prod.mk.injEq] at H; obtain ⟨rfl⟩ := H; have hnb18 := NB144_145.out; have hnc18 := NB145_144.out; obtain ⟨hcz19_0, hcz19_1, hcz19_2, hfz19_0, hfz19_1, hfz19_2⟩ := cz3 BK144; obtain ⟨hcz20_0, hcz20_1, hcz20_2, hfz20_0, hfz20_1, hfz20_2⟩ := cz3 BK145; (go_wp2_with (first | ((with_reducible refine gate_callee (f := 101) rfl ?_); refine goesL_ (some 14) rfl rfl Try.func101 (by kernel_rfl) rfl #[.slice A0_1 l0_1.length c0_1, .slice A1_1 l1_1.length c1_1] rfl zM ?_; (with_reducible refine (laws_eqSpotS.calls k _ _ l0_1 _ _ l1_1 true _ ?side1 ?side2 ?side3 ?side4 A9.out).mono ?_); (case side1 => (refine zC ?_; exact (Kd.C_below HR0_1.out HB.out))); (case side2 => exact HC0_1.out); (case side3 => (refine zC ?_; exact (Kd.C_below HR1_1.out HB.out))); (case side4 => exact HC1_1.out); rintro e w21 ⟨rfl, hb⟩; refine ⟨_, rfl, ?_⟩; replace BK144 := pB BK144 hb; replace BK145 := pB BK145 hb; replace HB := pS HB hb; (try clear hb); obtain ⟨hcz22_0, hcz22_1, hcz22_2, hfz22_0, hfz22_1, hfz22_2⟩ := cz3 BK144; obtain ⟨hcz23_0, hcz23_1, hcz23_2, hfz23_0, hfz23_1, hfz23_2⟩ := cz3 BK145))); (go_ret); exact ⟨zE, pR HB⟩
  ·replace c10 := Bool.eq_false_iff.mpr c10; subst c10; (have H1 : (some false) = some r := by rw [if_neg (show ¬ (false = true) by decide)] at H; exact H); clear H; have H := H1; clear H1; obtain rfl := Option.some.inj H; simp only [Option.some.injEq, Prod.mk.injEq] at H; obtain ⟨rfl⟩ := H; have hnb24 := NB144_145.out; have hnc24 := NB145_144.out; obtain ⟨hcz25_0, hcz25_1, hcz25_2, hfz25_0, hfz25_1, hfz25_2⟩ := cz3 BK144; obtain ⟨hcz26_0, hcz26_1, hcz26_2, hfz26_0, hfz26_1, hfz26_2⟩ := cz3 BK145; (go_wp2_with (first | ((with_reducible refine gate_callee (f := 101) rfl ?_); refine goesL_ (some 14) rfl rfl Try.func101 (by kernel_rfl) rfl #[.slice A0_1 l0_1.length c0_1, .slice A1_1 l1_1.length c1_1] rfl zM ?_; (with_reducible refine (laws_eqSpotS.calls k _ _ l0_1 _ _ l1_1 false _ ?side1 ?side2 ?side3 ?side4 A9.out).mono ?_); (case side1 => (refine zC ?_; exact (Kd.C_below HR0_1.out HB.out))); (case side2 => exact HC0_1.out); (case side3 => (refine zC ?_; exact (Kd.C_below HR1_1.out HB.out))); (case side4 => exact HC1_1.out); rintro e w27 ⟨rfl, hb⟩; refine ⟨_, rfl, ?_⟩; replace BK144 := pB BK144 hb; replace BK145 := pB BK145 hb; replace HB := pS HB hb; (try clear hb)))); (go_ret); exact ⟨zE, pR HB⟩
 ·rw [if_neg c8] at H; have c8b0 : (a0_0.toList == a1_0.toList) = false := beq_eq_false_iff_ne.mpr c8; have c8b1 : (a0_0.toList != a1_0.toList) = true := bne_iff_ne.mpr c8; (first | rw [c8b0] | (simp only [i64_w, i32_w]; rw [c8b0]) | skip); obtain rfl := Option.some.inj H; simp only [Option.some.injEq, Prod.mk.injEq] at H; obtain ⟨rfl⟩ := H; (go_wp2); (go_ret); exact ⟨zE, pR HB⟩

/-! ### laws_eqHungS: function 88 -/
def laws_eqHungS.l0 : Nat → List (S79) → List (S79) → Int → Option (Bool)
 | 0, _, _, _ => none
 | k + 1, x0, x1, x5 => if x5 < (x0.length : Int) then (if 0 ≤ x5 then (if x5 < (x1.length : Int) then ((laws_eqHung.f k ((rd_T79 x0 x5).f0) ((rd_T79 x0 x5).f1) ((rd_T79 x0 x5).f2) ((rd_T79 x1 x5).f0) ((rd_T79 x1 x5).f1) ((rd_T79 x1 x5).f2)).bind fun t149 => (if t149 = true then (laws_eqHungS.l0 k x0 x1 (wrap64 (x5 + 1))) else (some false))) else (none)) else (none)) else (some true)
def laws_eqHungS.f (k : Nat) (l0 : List (S79)) (l1 : List (S79)) : Option (Bool) := if (l0.length : Int) = (l1.length : Int) then (laws_eqHungS.l0 k l0 l1 0) else (some false)
theorem laws_eqHungS.mono_l : ∀ k, (∀ y0 y1 y2, LeO (laws_eqHungS.l0 k y0 y1 y2) (laws_eqHungS.l0 (k + 1) y0 y1 y2))
 | 0 => fun _ _ _ r h => by simp [laws_eqHungS.l0] at h
 | k + 1 => by
  have ih0 := laws_eqHungS.mono_l k
  ·intro y0 y1 y2
   unfold laws_eqHungS.l0
   repeat' first
   | (with_reducible exact ih0 _ _ _)
   | (with_reducible exact laws_eqHung.mono _ _ _ _ _ _ _)
   | (with_reducible exact LeO.refl _)
   | (with_reducible exact LeO.none _)
   | (with_reducible refine LeO.ite ?_ ?_)
   | (with_reducible refine LeO.bind ?_ (fun _ => ?_))
   | exact ih0 _ _ _
   | exact laws_eqHung.mono _ _ _ _ _ _ _
   | exact LeO.none _
   | refine LeO.ite ?_ ?_
   | refine LeO.bind ?_ (fun _ => ?_)
theorem laws_eqHungS.mono : ∀ a0 a1 k, LeO (laws_eqHungS.f k a0 a1) (laws_eqHungS.f (k + 1) a0 a1) := by
 intro a0 a1 k; have ih0 := laws_eqHungS.mono_l k; unfold laws_eqHungS.f
 repeat' first
   | (with_reducible exact ih0 _ _ _)
   | (with_reducible exact laws_eqHung.mono _ _ _ _ _ _ _)
   | (with_reducible exact LeO.refl _)
   | (with_reducible exact LeO.none _)
   | (with_reducible refine LeO.ite ?_ ?_)
   | (with_reducible refine LeO.bind ?_ (fun _ => ?_))
   | exact ih0 _ _ _
   | exact laws_eqHung.mono _ _ _ _ _ _ _
   | exact LeO.none _
   | refine LeO.ite ?_ ?_
   | refine LeO.bind ?_ (fun _ => ?_)
def laws_eqHungS.T6 : Bool × List (List Nat × List Nat) := (true, [([], []), ([], []), ([0, 1], [0, 1]), ([2], [2]), ([], []), ([], []), ([4, 5], [4, 5]), ([6], [6]), ([3, 7], [3, 7]), ([8], [8])])
def laws_eqHungS.B6 : List Nat := [0, 0, 3, 7, 0, 0, 48, 112, 255, 511]
theorem laws_eqHungS.tab6 : rtab .any (opsOf Try.f88 6) = laws_eqHungS.T6 := by kernel_rfl
theorem laws_eqHungS.bits6 : waitsOk laws_eqHungS.T6.2 laws_eqHungS.B6 = true := by kernel_rfl
set_option maxHeartbeats 8000000 in
set_option maxRecDepth 100000 in
theorem laws_eqHungS.calls (k : Nat) (A0 : Option Addr) (c0 : Nat) (l0 : List (S79)) (A1 : Option Addr) (c1 : Nat) (l1 : List (S79)) (r : Bool) (w : World) (hr0 : Kd.C k79 w A0 l0.length l0) (hc0 : l0.length ≤ c0) (hr1 : Kd.C k79 w A1 l1.length l1) (hc1 : l1.length ≤ c1) (h : laws_eqHungS.f k l0 l1 = some r) :
  Calls Try.prog 88 #[.slice A0 l0.length c0, .slice A1 l1.length c1] w fun e w' => e = .returned (.bool r) ∧ Below w.heap.size w w' := by
 have hu79 := Try.underlying79; have HR0 := Aside0.mk hr0; have HC0 := Aside0.mk hc0; clear hr0 hc0; have HR1 := Aside0.mk hr1; have HC1 := Aside0.mk hc1; clear hr1 hc1; have HB := Aside0.mk (Below.refl w.heap.size w); have H : (if (l0.length : Int) = (l1.length : Int) then (laws_eqHungS.l0 k l0 l1 0) else (some false)) = some r := h; clear h; by_cases c3 : (l0.length : Int) = (l1.length : Int)
 ·rw [if_pos c3] at H; have c3b0 : ((l0.length : Int) == (l1.length : Int)) = true := beq_iff_eq.mpr c3; have c3b1 : ((l0.length : Int) != (l1.length : Int)) = false := bne_eq_false_iff_eq.mpr c3; (have c3b2 : (l0.length == l1.length) = true := by first | simpa using c3 | (simp at c3 ⊢; omega)); clear c3; have H' := Aside0.mk H; clear H; (go_enter Try.func88, Try.ntmps88); (go_wp2); go_loopg [5] k (fun kq v5 w' => ∃ (x5_1 : Int), v5 = .int .i64 x5_1 ∧ Aside0 (laws_eqHungS.l0 kq l0 l1 x5_1 = some r) ∧ Aside0 (kq ≤ k) ∧ Aside0 (Below w.heap.size w w'))
  case atStart => exact ⟨(0), zF, H', ⟨Nat.le_refl _⟩, ⟨pR HB⟩⟩
  case round =>
   clear H'; (try clear c1); (try clear p2); (try clear c3); (try clear c3b0); (try clear c3b1); (try clear c3b2); obtain ⟨x5_1, rfl, HA, HK1, HB⟩ := hrel
   cases gk with
   | zero => exact absurd HA.out (by simp [laws_eqHungS.l0])
   | succ k1 =>
    have H := HA.out; clear HA; simp only [laws_eqHungS.l0] at H; by_cases c4 : x5_1 < (l0.length : Int)
    ·rw [if_pos c4] at H; have c4b0 : decide (x5_1 < (l0.length : Int)) = true := decide_eq_true c4; clear c4; by_cases c5 : 0 ≤ x5_1
     ·rw [if_pos c5] at H; have c5b0 : decide (0 ≤ x5_1) = true := decide_eq_true c5; clear c5; by_cases c6 : x5_1 < (l1.length : Int)
      ·rw [if_pos c6] at H; have c6b0 : decide (x5_1 < (l1.length : Int)) = true := decide_eq_true c6; clear c6; replace H := Option.bind_eq_some_iff.mp H; obtain ⟨t149, A70, H⟩ := H; (try dsimp only at H); have A7 := Aside0.mk A70; clear A70; have HF_ := Aside0.mk H; clear H; (try go_wp2); replace HB := Aside0.mk (below_drew1 HB.out); have p147 : 0 ≤ (x5_1 : Int) := of_decide_eq_true (by first | (with_reducible assumption) | assumption); have q147 : x5_1 < (l0.length : Int) := of_decide_eq_true (by first | (with_reducible assumption) | assumption); obtain ⟨ad147, A147_1, c147_1, e147, hx147_0, hx147_1, hx147_2, hl147_1, hi147_1⟩ := at_T79 HR0.out x5_1 p147 q147; have hw147_2 := hx147_2; have hw147_1 := hx147_1; have hw147_0 := hx147_0
       cases e147
       replace hx147_0 := bC HB hx147_0; replace hx147_1 := bC HB hx147_1; replace hx147_2 := bC HB hx147_2; have HR147_1 := Aside0.mk hi147_1; have HC147_1 := Aside0.mk hl147_1; clear hi147_1 hl147_1; replace p147 := eq_true p147; replace q147 := eq_true q147; have p148 : 0 ≤ (x5_1 : Int) := of_decide_eq_true (by first | (with_reducible assumption) | assumption); have q148 : x5_1 < (l1.length : Int) := of_decide_eq_true (by first | (with_reducible assumption) | assumption); obtain ⟨ad148, A148_1, c148_1, e148, hx148_0, hx148_1, hx148_2, hl148_1, hi148_1⟩ := at_T79 HR1.out x5_1 p148 q148; have hw148_2 := hx148_2; have hw148_1 := hx148_1; have hw148_0 := hx148_0
       cases e148
       replace hx148_0 := bC HB hx148_0; replace hx148_1 := bC HB hx148_1; replace hx148_2 := bC HB hx148_2; have HR148_1 := Aside0.mk hi148_1; have HC148_1 := Aside0.mk hl148_1; clear hi148_1 hl148_1; replace p148 := eq_true p148; replace q148 := eq_true q148; refine start_ (n := 10) (S := fun w' => w'.cell? (ad147.add ((x5_1).toNat * 3)) = some (.string ((rd_T79 l0 x5_1).f0)) ∧ w'.cell? ⟨(ad147.add ((x5_1).toNat * 3)).block, (ad147.add ((x5_1).toNat * 3)).off + 1, none⟩ = some (.slice A147_1 ((rd_T79 l0 x5_1).f1).length c147_1) ∧ w'.cell? ⟨(ad147.add ((x5_1).toNat * 3)).block, (ad147.add ((x5_1).toNat * 3)).off + 2, none⟩ = some (.bool ((rd_T79 l0 x5_1).f2)) ∧ w'.cell? (ad148.add ((x5_1).toNat * 3)) = some (.string ((rd_T79 l1 x5_1).f0)) ∧ w'.cell? ⟨(ad148.add ((x5_1).toNat * 3)).block, (ad148.add ((x5_1).toNat * 3)).off + 1, none⟩ = some (.slice A148_1 ((rd_T79 l1 x5_1).f1).length c148_1) ∧ w'.cell? ⟨(ad148.add ((x5_1).toNat * 3)).block, (ad148.add ((x5_1).toNat * 3)).off + 2, none⟩ = some (.bool ((rd_T79 l1 x5_1).f2))) (ds := []) #[F,F,F,F,F,F,F,F,F,F] (by kernel_rfl) rfl rfl ⟨((HB.out.cell (World.block_lt_of_cell? w _ hw147_0)).trans hw147_0), ((HB.out.cell (World.block_lt_of_cell? w _ hw147_1)).trans hw147_1), ((HB.out.cell (World.block_lt_of_cell? w _ hw147_2)).trans hw147_2), ((HB.out.cell (World.block_lt_of_cell? w _ hw148_0)).trans hw148_0), ((HB.out.cell (World.block_lt_of_cell? w _ hw148_1)).trans hw148_1), ((HB.out.cell (World.block_lt_of_cell? w _ hw148_2)).trans hw148_2)⟩ (fun hHeld => ?_); refine with_tabW laws_eqHungS.tab6 laws_eqHungS.bits6 (fun HT_ HW_ => ?_); generalize wr.drew = w8 at HB HR147_1 HR148_1 hx147_0 hx147_1 hx147_2 hx148_0 hx148_1 hx148_2 hHeld ⊢; refine pV (i := 0) (N := some 17) #[T,F,F,F,F,F,F,F,F,F] HT_ ?_; refine pV (i := 1) (N := some 18) #[T,T,F,F,F,F,F,F,F,F] HT_ ?_; refine pV (i := 2) (N := some 19) #[T,T,T,F,F,F,F,F,F,F] HT_ ?_; refine pV (i := 4) (N := some 21) #[T,T,T,F,T,F,F,F,F,F] HT_ ?_; refine pV (i := 5) (N := some 22) #[T,T,T,F,T,T,F,F,F,F] HT_ ?_; refine pV (i := 6) (N := some 23) #[T,T,T,F,T,T,T,F,F,F] HT_ ?_; refine tV (i := 3) (N := some 20) #[T,T,T,T,T,T,T,F,F,F] rfl rfl HT_ HW_ hHeld (by rintro w' ⟨s0, s1, s2, s3, s4, s5⟩; go_simp; with_reducible rfl) ?_; refine tV (i := 7) (N := some 24) #[T,T,T,T,T,T,T,T,F,F] rfl rfl HT_ HW_ hHeld (by rintro w' ⟨s0, s1, s2, s3, s4, s5⟩; go_simp; with_reducible rfl) ?_; refine one_ (i := 8) (N := some 25) #[T,T,T,T,T,T,T,T,T,F] rfl rfl (one_of HT_.out (by kernel_rfl)) (by decide) (fun K hK => ?_); refine goes_ Try.func50 (by kernel_rfl) rfl #[.agg #[.string ((rd_T79 l0 x5_1).f0), .slice A147_1 ((rd_T79 l0 x5_1).f1).length c147_1, .bool ((rd_T79 l0 x5_1).f2)], .agg #[.string ((rd_T79 l1 x5_1).f0), .slice A148_1 ((rd_T79 l1 x5_1).f1).length c148_1, .bool ((rd_T79 l1 x5_1).f2)]] (by rfl) rfl rfl zM ?_; (with_reducible refine (laws_eqHung.calls k1 ((rd_T79 l0 x5_1).f0) _ _ ((rd_T79 l0 x5_1).f1) ((rd_T79 l0 x5_1).f2) ((rd_T79 l1 x5_1).f0) _ _ ((rd_T79 l1 x5_1).f1) ((rd_T79 l1 x5_1).f2) t149 _ ?side1 ?side2 ?side3 ?side4 A7.out).mono ?_); (case side1 => (refine zC ?_; exact (Kd.C_below HR147_1.out HB.out))); (case side2 => exact HC147_1.out); (case side3 => (refine zC ?_; exact (Kd.C_below HR148_1.out HB.out))); (case side4 => exact HC148_1.out); rintro e w9 ⟨rfl, hb⟩; refine ⟨_, rfl, ?_⟩; replace HB := pS HB hb; (try clear hb); refine hK.out _ _ ⟨((HB.out.cell (World.block_lt_of_cell? w _ hw147_0)).trans hw147_0), ((HB.out.cell (World.block_lt_of_cell? w _ hw147_1)).trans hw147_1), ((HB.out.cell (World.block_lt_of_cell? w _ hw147_2)).trans hw147_2), ((HB.out.cell (World.block_lt_of_cell? w _ hw148_0)).trans hw148_0), ((HB.out.cell (World.block_lt_of_cell? w _ hw148_1)).trans hw148_1), ((HB.out.cell (World.block_lt_of_cell? w _ hw148_2)).trans hw148_2)⟩ (fun hHeld => ?_); clear hK K; refine norm_ (a' := ?_) ?_ ?_; rotate_left
       ·(show Act.put _ (some 25) _ = _); simp only [NS]; rfl
       refine pV (i := 9) (N := some 26) #[T,T,T,T,T,T,T,T,T,T] HT_ ?_; refine done_ (done_of HT_.out (by kernel_rfl)) ?_; (go_upto_if 26 with (fail)); have H := HF_.out; clear HF_; by_cases c10 : t149 = true
       ·subst c10; (have H1 : (laws_eqHungS.l0 k1 l0 l1 (wrap64 (x5_1 + 1))) = some r := by rw [if_pos rfl] at H; exact H); clear H; have H := H1; clear H1; have H' := Aside0.mk H; clear H; (go_wp2); go_roundg k1
        case measure => have := HK1.out; omega
        case rel => exact ⟨(wrap64 (x5_1 + 1)), zF, H', ⟨by have := HK1.out; omega⟩, ⟨pR HB⟩⟩
       ·replace c10 := Bool.eq_false_iff.mpr c10; subst c10; (have H1 : (some false) = some r := by rw [if_neg (show ¬ (false = true) by decide)] at H; exact H); clear H; have H := H1; clear H1; obtain rfl := Option.some.inj H; simp only [Option.some.injEq, Prod.mk.injEq] at H; obtain ⟨rfl⟩ := H; (go_wp2); (go_ret); exact ⟨zE, pR HB⟩
      ·rw [if_neg c6] at H; exact absurd H (by simp)
     ·rw [if_neg c5] at H; exact absurd H (by simp)
    ·rw [if_neg c4] at H; have c4b0 : decide (x5_1 < (l0.length : Int)) = false := decide_eq_false c4; clear c4; obtain rfl := Option.some.inj H; simp only [Option.some.injEq, Prod.mk.injEq] at H; obtain ⟨rfl⟩ := H; (go_wp2); (go_ret); exact ⟨zE, pR HB⟩
 ·rw [if_neg c3] at H; have c3b0 : ((l0.length : Int) == (l1.length : Int)) = false := beq_eq_false_iff_ne.mpr c3; have c3b1 : ((l0.length : Int) != (l1.length : Int)) = true := bne_iff_ne.mpr c3; (have c3b2 : (l0.length == l1.length) = false := by first | simpa using c3 | (simp at c3 ⊢; omega)); obtain rfl := Option.some.inj H; simp only [Option.some.injEq, Prod.mk.injEq] at H; obtain ⟨rfl⟩ := H; (go_enter Try.func88, Try.ntmps88); (go_wp2); (go_ret); exact ⟨zE, pR HB⟩

/-! ### laws_eqPlan: function 41 -/
def laws_eqPlan.f (k : Nat) (l0_0 : List (S79)) (a0_1 : Int) (a0_2 : Int) (l1_0 : List (S79)) (a1_1 : Int) (a1_2 : Int) : Option (Bool) := (laws_eqHungS.f k l0_0 l1_0).bind fun t152 => (if t152 = true then (if a0_1 = a1_1 then (if a0_2 = a1_2 then (some true) else (some false)) else (some false)) else (some false))
theorem laws_eqPlan.mono : ∀ a0 a1 a2 a3 a4 a5 k, LeO (laws_eqPlan.f k a0 a1 a2 a3 a4 a5) (laws_eqPlan.f (k + 1) a0 a1 a2 a3 a4 a5) := by
 intro a0 a1 a2 a3 a4 a5 k; unfold laws_eqPlan.f
 repeat' first
   | (with_reducible exact laws_eqHungS.mono _ _ _)
   | (with_reducible exact LeO.refl _)
   | (with_reducible exact LeO.none _)
   | (with_reducible refine LeO.ite ?_ ?_)
   | (with_reducible refine LeO.bind ?_ (fun _ => ?_))
   | exact laws_eqHungS.mono _ _ _
   | exact LeO.none _
   | refine LeO.ite ?_ ?_
   | refine LeO.bind ?_ (fun _ => ?_)
set_option maxHeartbeats 8000000 in
set_option maxRecDepth 100000 in
theorem laws_eqPlan.calls (k : Nat) (A0_0 : Option Addr) (c0_0 : Nat) (l0_0 : List (S79)) (a0_1 : Int) (a0_2 : Int) (A1_0 : Option Addr) (c1_0 : Nat) (l1_0 : List (S79)) (a1_1 : Int) (a1_2 : Int) (r : Bool) (w : World) (hr0_0 : Kd.C k79 w A0_0 l0_0.length l0_0) (hc0_0 : l0_0.length ≤ c0_0) (hr1_0 : Kd.C k79 w A1_0 l1_0.length l1_0) (hc1_0 : l1_0.length ≤ c1_0) (h : laws_eqPlan.f k l0_0 a0_1 a0_2 l1_0 a1_1 a1_2 = some r) :
  Calls Try.prog 41 #[.agg #[.slice A0_0 l0_0.length c0_0, .int .i64 a0_1, .int .i64 a0_2], .agg #[.slice A1_0 l1_0.length c1_0, .int .i64 a1_1, .int .i64 a1_2]] w fun e w' => e = .returned (.bool r) ∧ Below w.heap.size w w' := by
 have hu64 := Try.underlying64; have HR0_0 := Aside0.mk hr0_0; have HC0_0 := Aside0.mk hc0_0; clear hr0_0 hc0_0; have HR1_0 := Aside0.mk hr1_0; have HC1_0 := Aside0.mk hc1_0; clear hr1_0 hc1_0; have HB := Aside0.mk (Below.refl w.heap.size w); have H : ((laws_eqHungS.f k l0_0 l1_0).bind fun t152 => (if t152 = true then (if a0_1 = a1_1 then (if a0_2 = a1_2 then (some true) else (some false)) else (some false)) else (some false))) = some r := h; clear h; replace H := Option.bind_eq_some_iff.mp H; obtain ⟨t152, A30, H⟩ := H; (try dsimp only at H); have A3 := Aside0.mk A30; clear A30; have HF_ := Aside0.mk H; clear H; (go_enter Try.func41, Try.ntmps41); (go_upto_if 10 with (first | ((with_reducible refine gate_dst (N := 2) rfl ?_); refine box_event ?hg (N := 2) ?hd (cs := #[.slice A0_0 l0_0.length c0_0, .int .i64 a0_1, .int .i64 a0_2]) (t := 64) ?hr ?_; (case hd => rfl); (case hg => rfl); (case hr => first | (go_simp; done) | (go_simp; rfl)); intro gb150 hg w4 hbox hb; have BK150 := Aside0.mk (hbox); have GW150 := pG HB hg; have GE150 := pG HB hg; replace HB := pS HB hb; clear hb hbox hg) | ((with_reducible refine gate_dst (N := 3) rfl ?_); refine box_event ?hg (N := 3) ?hd (cs := #[.slice A1_0 l1_0.length c1_0, .int .i64 a1_1, .int .i64 a1_2]) (t := 64) ?hr ?_; (case hd => rfl); (case hg => rfl); (case hr => first | (go_simp; done) | (go_simp; rfl)); intro gb151 hg w5 hbox hb; have BK151 := Aside0.mk (hbox); have GW151 := pG HB hg; have GE151 := pG HB hg; replace HB := pS HB hb; have NB150_151 := pN BK150 hg; have NB151_150 := pM BK150 hg; replace BK150 := pB BK150 hb; clear hb hbox hg; have hnb6 := NB150_151.out; have hnc6 := NB151_150.out; obtain ⟨hcz7_0, hcz7_1, hcz7_2, hfz7_0, hfz7_1, hfz7_2⟩ := cz3 BK150; obtain ⟨hcz8_0, hcz8_1, hcz8_2, hfz8_0, hfz8_1, hfz8_2⟩ := cz3 BK151) | ((with_reducible refine gate_callee (f := 88) rfl ?_); refine goesL_ (some 9) rfl rfl Try.func88 (by kernel_rfl) rfl #[.slice A0_0 l0_0.length c0_0, .slice A1_0 l1_0.length c1_0] rfl zM ?_; (with_reducible refine (laws_eqHungS.calls k _ _ l0_0 _ _ l1_0 t152 _ ?side1 ?side2 ?side3 ?side4 A3.out).mono ?_); (case side1 => (refine zC ?_; exact (Kd.C_below HR0_0.out HB.out))); (case side2 => exact HC0_0.out); (case side3 => (refine zC ?_; exact (Kd.C_below HR1_0.out HB.out))); (case side4 => exact HC1_0.out); rintro e w9 ⟨rfl, hb⟩; refine ⟨_, rfl, ?_⟩; replace BK150 := pB BK150 hb; replace BK151 := pB BK151 hb; replace HB := pS HB hb; (try clear hb)))); (try simp only [Act.put, List.setIfInBounds_toArray, List.set_cons_zero, List.set_cons_succ]); have H := HF_.out; clear HF_; by_cases c10 : t152 = true
 ·subst c10; (have H1 : (if a0_1 = a1_1 then (if a0_2 = a1_2 then (some true) else (some false)) else (some false)) = some r := by rw [if_pos rfl] at H; exact H); clear H; have H := H1; clear H1; by_cases c11 : a0_1 = a1_1
  ·rw [if_pos c11] at H; have c11b0 : (a0_1 == a1_1) = true := beq_iff_eq.mpr c11; have c11b1 : (a0_1 != a1_1) = false := bne_eq_false_iff_eq.mpr c11; clear c11; (first | rw [c11b0] | (simp only [i64_w, i32_w]; rw [c11b0]) | skip); by_cases c12 : a0_2 = a1_2
   ·rw [if_pos c12] at H; have c12b0 : (a0_2 == a1_2) = true := beq_iff_eq.mpr c12; have c12b1 : (a0_2 != a1_2) = false := bne_eq_false_iff_eq.mpr c12; clear c12; obtain rfl := Option.some.inj H; simp only [Option.some.injEq, Prod.mk.injEq] at H; obtain ⟨rfl⟩ := H; have hnb13 := NB150_151.out; have hnc13 := NB151_150.out; obtain ⟨hcz14_0, hcz14_1, hcz14_2, hfz14_0, hfz14_1, hfz14_2⟩ := cz3 BK150; obtain ⟨hcz15_0, hcz15_1, hcz15_2, hfz15_0, hfz15_1, hfz15_2⟩ := cz3 BK151; (go_wp2); (go_ret); exact ⟨zE, pR HB⟩
   ·rw [if_neg c12] at H; have c12b0 : (a0_2 == a1_2) = false := beq_eq_false_iff_ne.mpr c12; have c12b1 : (a0_2 != a1_2) = true := bne_iff_ne.mpr c12; obtain rfl := Option.some.inj H; simp only [Option.some.injEq, Prod.mk.injEq] at H; obtain ⟨rfl⟩ := H; have hnb16 := NB150_151.out; have hnc16 := NB151_150.out; obtain ⟨hcz17_0, hcz17_1, hcz17_2, hfz17_0, hfz17_1, hfz17_2⟩ := cz3 BK150; obtain ⟨hcz18_0, hcz18_1, hcz18_2, hfz18_0, hfz18_1, hfz18_2⟩ := cz3 BK151; (go_wp2); (go_ret); exact ⟨zE, pR HB⟩
  ·rw [if_neg c11] at H; have c11b0 : (a0_1 == a1_1) = false := beq_eq_false_iff_ne.mpr c11; have c11b1 : (a0_1 != a1_1) = true := bne_iff_ne.mpr c11; (first | rw [c11b0] | (simp only [i64_w, i32_w]; rw [c11b0]) | skip); obtain rfl := Option.some.inj H; simp only [Option.some.injEq, Prod.mk.injEq] at H; obtain ⟨rfl⟩ := H; have hnb19 := NB150_151.out; have hnc19 := NB151_150.out; obtain ⟨hcz20_0, hcz20_1, hcz20_2, hfz20_0, hfz20_1, hfz20_2⟩ := cz3 BK150; obtain ⟨hcz21_0, hcz21_1, hcz21_2, hfz21_0, hfz21_1, hfz21_2⟩ := cz3 BK151; (go_wp2); (go_ret); exact ⟨zE, pR HB⟩
 ·replace c10 := Bool.eq_false_iff.mpr c10; subst c10; (have H1 : (some false) = some r := by rw [if_neg (show ¬ (false = true) by decide)] at H; exact H); clear H; have H := H1; clear H1; obtain rfl := Option.some.inj H; simp only [Option.some.injEq, Prod.mk.injEq] at H; obtain ⟨rfl⟩ := H; (go_wp2); (go_ret); exact ⟨zE, pR HB⟩

end Go.Proofs.Ytlphfgbeeckjnaa.PFnExactBestSails
