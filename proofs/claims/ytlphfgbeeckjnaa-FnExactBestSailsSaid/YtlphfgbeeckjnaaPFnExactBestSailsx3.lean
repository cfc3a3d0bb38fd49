-- Written by a program of this session (wip/tools/pp.sh).
import Derived.Test.YtlphfgbeeckjnaaPFnExactBestSailsx0
namespace Go.Proofs.Ytlphfgbeeckjnaa.PFnExactBestSails
open Go.RowKit Go.Proofs.YtlphfgbeeckjnaaW.PrintWords Go.Proofs.YtlphfgbeeckjnaaW.PrintLast Go.Proofs.YtlphfgbeeckjnaaW.PrintMore Go.Proofs.Ytlphfgbeeckjnaa.Small
open Bool renaming true → T, false → F
attribute [local go_sem] max2_int min2_int max_two min_two max_three min_three max_four min_four   -- for this text's walks alone
set_option linter.unusedVariables false
set_option linter.unusedSimpArgs false

/-! ### laws_markSpotS: function 102 -/
def laws_markSpotS.l0 : Nat → List (S129) → Int → Int → Option (Int × (List (S129)))
 | 0, _, _, _ => none
 | k + 1, x0, x1, x5 => if x5 < (x0.length : Int) then (if 0 ≤ x5 then ((some (x0.set (x5 : Int).toNat (⟨x1, (rd_T129 x0 x5).f1⟩ : S129) : List (S129))).bind fun y153 => (laws_markSpotS.l0 k (y153.set (x5 : Int).toNat (⟨(rd_T129 y153 x5).f0, wrap64 (x1 + 1)⟩ : S129)) (wrap64 ((wrap64 (x1 + 1)) + 1)) (wrap64 (x5 + 1)))) else (none)) else (some (x1, x0))
def laws_markSpotS.f (k : Nat) (l0 : List (S129)) (a1 : Int) : Option (Int × (List (S129))) := laws_markSpotS.l0 k l0 a1 0
theorem laws_markSpotS.mono_l : ∀ k, (∀ y0 y1 y2, LeO (laws_markSpotS.l0 k y0 y1 y2) (laws_markSpotS.l0 (k + 1) y0 y1 y2))
 | 0 => fun _ _ _ r h => by simp [laws_markSpotS.l0] at h
 | k + 1 => by
  have ih0 := laws_markSpotS.mono_l k
  ·intro y0 y1 y2
   unfold laws_markSpotS.l0
   repeat' first
   | (with_reducible exact ih0 _ _ _)
   | (with_reducible exact LeO.refl _)
   | (with_reducible exact LeO.none _)
   | (with_reducible refine LeO.ite ?_ ?_)
   | (with_reducible refine LeO.bind ?_ (fun _ => ?_))
   | exact ih0 _ _ _
   | exact LeO.none _
   | refine LeO.ite ?_ ?_
   | refine LeO.bind ?_ (fun _ => ?_)
theorem laws_markSpotS.mono : ∀ a0 a1 k, LeO (laws_markSpotS.f k a0 a1) (laws_markSpotS.f (k + 1) a0 a1) := by
 intro a0 a1 k; have ih0 := laws_markSpotS.mono_l k; unfold laws_markSpotS.f
 repeat' first
   | (with_reducible exact ih0 _ _ _)
   | (with_reducible exact LeO.refl _)
   | (with_reducible exact LeO.none _)
   | (with_reducible refine LeO.ite ?_ ?_)
   | (with_reducible refine LeO.bind ?_ (fun _ => ?_))
   | exact ih0 _ _ _
   | exact LeO.none _
   | refine LeO.ite ?_ ?_
   | refine LeO.bind ?_ (fun _ => ?_)
set_option maxHeartbeats 8000000 in
set_option maxRecDepth 100000 in
theorem laws_markSpotS.calls (k : Nat) (P0_ : Nat → Prop) (u9000_ : Value) (l0 : List (S129)) (a1 : Int) (r1 : Int) (r2 : List (S129)) (w0 w : World) (hB : Below w0.heap.size w0 w) (ho0 : Kd.R k129 129 w w0.heap.size P0_ u9000_ l0) (h : laws_markSpotS.f k l0 a1 = some (r1, r2)) :
  Calls Try.prog 102 #[u9000_, .int .i64 a1] w fun e w' => e = .returned (.int .i64 r1) ∧ Kd.R k129 129 w' w0.heap.size (fun k_ => (P0_ k_ ∨ w.heap.size ≤ k_)) u9000_ r2 ∧ Below w0.heap.size w0 w' ∧ Kept w w' (fun k_ => P0_ k_) := by
 have HO0 := Aside0.mk (show Kd.R k129 129 w w0.heap.size (fun k_ => (P0_ k_ ∨ w.heap.size ≤ k_)) u9000_ l0 from Kd.R_mono ho0 (fun k_ hk => (.inl hk))); have HK := Aside0.mk (Kept.refl w (fun k_ => P0_ k_)); have HW0 := Aside0.mk hB.size; have HB := Aside0.mk hB; clear hB; have H : (laws_markSpotS.l0 k l0 a1 0) = some (r1, r2) := h; clear h; have H' := Aside0.mk H; clear H; (go_enter Try.func102, Try.ntmps102); (go_wp2); go_loopg [1, 5] k (fun kq v1 v5 w' => ∃ (x0_1 : List (S129)) (x1_1 : Int) (x5_1 : Int), v1 = .int .i64 x1_1 ∧ v5 = .int .i64 x5_1 ∧ Aside0 (laws_markSpotS.l0 kq x0_1 x1_1 x5_1 = some (r1, r2)) ∧ Aside0 (kq ≤ k) ∧ Aside0 (Kd.R k129 129 w' w0.heap.size (fun k_ => (P0_ k_ ∨ w.heap.size ≤ k_)) u9000_ x0_1) ∧ Aside0 (Kept w w' (fun k_ => P0_ k_)) ∧ Aside0 (Below w0.heap.size w0 w'))
 case atStart => exact ⟨(l0), (a1), (0), zF, zF, H', ⟨Nat.le_refl _⟩, ⟨by refine zR ?_; exact HO0.out⟩, ⟨by repeat (first | (with_reducible first | exact HK.out | apply Kept.alloc | apply Kept.drewN | apply Kept.drew) | exact HK.out)⟩, ⟨pR HB⟩⟩
 case round =>
  clear H'; (try clear c1); (try clear p2); obtain ⟨x0_1, x1_1, x5_1, rfl, rfl, HA, HK1, HO_0, HK, HB⟩ := hrel
  cases gk with
  | zero => exact absurd HA.out (by simp [laws_markSpotS.l0])
  | succ k1 =>
   have H := HA.out; clear HA; simp only [laws_markSpotS.l0] at H; by_cases c3 : x5_1 < (x0_1.length : Int)
   ·rw [if_pos c3] at H; have c3b0 : decide (x5_1 < (x0_1.length : Int)) = true := decide_eq_true c3; clear c3; by_cases c4 : 0 ≤ x5_1
    ·rw [if_pos c4] at H; have c4b0 : decide (0 ≤ x5_1) = true := decide_eq_true c4; clear c4; obtain ⟨y153, hy153⟩ : ∃ y_ : List (S129), y_ = (x0_1.set (x5_1 : Int).toNat (⟨x1_1, (rd_T129 x0_1 x5_1).f1⟩ : S129)) := ⟨_, rfl⟩; (replace H : (laws_markSpotS.l0 k1 (y153.set (x5_1 : Int).toNat (⟨(rd_T129 y153 x5_1).f0, wrap64 (x1_1 + 1)⟩ : S129)) (wrap64 ((wrap64 (x1_1 + 1)) + 1)) (wrap64 (x5_1 + 1))) = some (r1, r2) := by first | (rw [hy153]; with_reducible exact H) | (have H2_ := (Option.bind_some _ _).symm.trans H; rw [hy153]; with_reducible exact H2_) | (have H2_ := (Option.bind_some _ _).symm.trans H; with_reducible exact H2_) | with_reducible exact H | (rw [hy153]; exact H) | exact H); have Ny153 := Aside0.mk hy153; clear hy153; obtain ⟨y154, hy154⟩ : ∃ y_ : List (S129), y_ = (y153.set (x5_1 : Int).toNat (⟨(rd_T129 y153 x5_1).f0, wrap64 (x1_1 + 1)⟩ : S129)) := ⟨_, rfl⟩; (replace H : (laws_markSpotS.l0 k1 y154 (wrap64 ((wrap64 (x1_1 + 1)) + 1)) (wrap64 (x5_1 + 1))) = some (r1, r2) := by first | (rw [hy154]; with_reducible exact H) | (have H2_ := (Option.bind_some _ _).symm.trans H; rw [hy154]; with_reducible exact H2_) | (have H2_ := (Option.bind_some _ _).symm.trans H; with_reducible exact H2_) | with_reducible exact H | (rw [hy154]; exact H) | exact H); have Ny154 := Aside0.mk hy154; clear hy154; have H' := Aside0.mk H; clear H; obtain ⟨Ao7, co7, eo7⟩ := Kd.R_slice HO_0.out; subst eo7; have p5 : 0 ≤ (x5_1 : Int) := of_decide_eq_true (by first | (with_reducible assumption) | assumption); have q5 : (x5_1 : Int) < ((x0_1.length : Int) : Int) := of_decide_eq_true (by first | (with_reducible assumption) | assumption); obtain ⟨go5, co5, eo5, gb5, gl5, cl5, HG5⟩ := Kd.R_form HO_0.out (by omega); (first | cases eo5 | (injection eo5 with ea_ en_ ec_; (first | subst ea_ | (injection ea_ with ea_; subst ea_)); subst ec_; clear en_)); have GB5 := Aside0.mk gb5; have GG5 := Aside0.mk HG5; clear gb5 gl5 HG5; have HMgo5 := Aside0.mk (show (P0_ go5 ∨ w.heap.size ≤ go5) from (HO_0.out.1 _ rfl)); obtain ⟨ce5, hcl5, hM5, hcc5, hfr5⟩ := Kd.R_elem HO_0.out z129 (x5_1 : Int) p5 q5; obtain rfl := k129_openM hM5; have hx5_0 : wr.cell? ⟨go5, (x5_1 : Int).toNat * 2, none⟩ = some (.int .i64 ((rd_T129 x0_1 x5_1).f0)) := hcc5 0 _ rfl; have hx5_1 : wr.cell? ⟨go5, (x5_1 : Int).toNat * 2 + 1, none⟩ = some (.int .i64 ((rd_T129 x0_1 x5_1).f1)) := hcc5 1 _ rfl; have hf5_0 : wr.frozen? ⟨go5, (x5_1 : Int).toNat * 2, none⟩ = false := hfr5 0; have hf5_1 : wr.frozen? ⟨go5, (x5_1 : Int).toNat * 2 + 1, none⟩ = false := hfr5 1; clear hcl5 hcc5 hfr5 hM5; replace p5 := eq_true p5; replace q5 := eq_true q5; have HX8 := Aside0.mk (show Kd.R k129 129 wr w0.heap.size (fun k_ => (P0_ k_ ∨ w.heap.size ≤ k_)) (.slice (some ⟨go5, 0, none⟩) x0_1.length co7) x0_1 from (by refine zR ?_; exact HO_0.out)); obtain ⟨ce8, hcl8, hM8, hcc8, hfr8⟩ := Kd.R_elem HX8.out z129 (x5_1 : Int) (of_decide_eq_true (by first | (with_reducible assumption) | assumption)) (by have h_ : (x5_1 : Int) < ((x0_1.length : Int) : Int) := of_decide_eq_true (by first | (with_reducible assumption) | assumption); first | exact h_ | (have e_ := (Kd.R_reads' HO_0.out).1; omega) | simpa using h_); obtain rfl := k129_openM hM8; have HP8 := Kd.R_seg HX8.out (x5_1 : Int) (of_decide_eq_true (by first | (with_reducible assumption) | assumption)) (by have h_ : (x5_1 : Int) < ((x0_1.length : Int) : Int) := of_decide_eq_true (by first | (with_reducible assumption) | assumption); first | exact h_ | (have e_ := (Kd.R_reads' HO_0.out).1; omega) | simpa using h_) (seg := [.int .i64 x1_1]) (j := 0) hcl8 hcc8 (show 1 ≤ 2 from by decide) (x' := (⟨x1_1, (rd_T129 x0_1 x5_1).f1⟩ : S129)) (k129_mkM _ _ _ (⟨x1_1, (rd_T129 x0_1 x5_1).f1⟩ : S129) ) (fun _ hk => hk); have hx8_0 := hcc8 0 _ rfl; (try simp only [show (k129).sz = 2 from rfl, Nat.mul_one, Nat.add_zero] at hx8_0); have hf8_0 := hfr8 0; (try simp only [show (k129).sz = 2 from rfl, Nat.mul_one, Nat.add_zero] at hf8_0); clear hcl8 hcc8 hfr8 hM8; (go_wp2_with (first | ((with_reducible refine gate_store (t := 2) (p := 16) rfl ?_); refine store_event (t := 2) (p := 16) (v := ?vo_w9) (w1 := (wr.setCell ⟨go5, (x5_1 : Int).toNat * 2, none⟩ (.int .i64 x1_1))) ?hg ?ho ?hn ?hr ?_; (case ho => rfl); (case hg => rfl); (case hn => rfl); (case hr => first | (go_simp; done) | (go_simp; rfl)); intro w9 hw; have hg : wr.grownBy w9 (some go5) := (by rw [hw]; exact HP8.2); have hp_ : Kd.R k129 129 w9 w0.heap.size (fun k_ => (P0_ k_ ∨ w.heap.size ≤ k_)) (.slice (some ⟨go5, 0, none⟩) x0_1.length co7) y153 := (by rw [hw, Ny153.out]; exact HP8.1); clear HP8; replace HB := Aside0.mk ((by rw [hw]; exact below_set (HB.out) GB5.out : Below w0.heap.size w0 w9)); replace HK := Aside0.mk (Kept.of_grown (S := (fun k_ => P0_ k_)) hg (by repeat (first | (with_reducible first | exact HK.out | apply Kept.alloc | apply Kept.drewN | apply Kept.drew) | exact HK.out)) (fun k_ e_ => (HO_0.out.1 k_ e_))); replace HO_0 := Aside0.mk (hp_); clear hg hw hp_; have p6 : 0 ≤ (x5_1 : Int) := of_decide_eq_true (by first | (with_reducible assumption) | assumption); have q6 : (x5_1 : Int) < ((x0_1.length : Int) : Int) := of_decide_eq_true (by first | (with_reducible assumption) | assumption); obtain ⟨ce6, hcl6, hM6, hcc6, hfr6⟩ := Kd.R_elem HO_0.out z129 (x5_1 : Int) p6 q6; obtain rfl := k129_openM hM6; have hx6_0 : w9.cell? ⟨go5, (x5_1 : Int).toNat * 2, none⟩ = some (.int .i64 ((rd_T129 y153 x5_1).f0)) := hcc6 0 _ rfl; have hx6_1 : w9.cell? ⟨go5, (x5_1 : Int).toNat * 2 + 1, none⟩ = some (.int .i64 ((rd_T129 y153 x5_1).f1)) := hcc6 1 _ rfl; have hf6_0 : w9.frozen? ⟨go5, (x5_1 : Int).toNat * 2, none⟩ = false := hfr6 0; have hf6_1 : w9.frozen? ⟨go5, (x5_1 : Int).toNat * 2 + 1, none⟩ = false := hfr6 1; clear hcl6 hcc6 hfr6 hM6; replace p6 := eq_true p6; replace q6 := eq_true q6; have HX10 := Aside0.mk (show Kd.R k129 129 w9 w0.heap.size (fun k_ => (P0_ k_ ∨ w.heap.size ≤ k_)) (.slice (some ⟨go5, 0, none⟩) x0_1.length co7) y153 from (by refine zR ?_; exact HO_0.out)); obtain ⟨ce10, hcl10, hM10, hcc10, hfr10⟩ := Kd.R_elem HX10.out z129 (x5_1 : Int) (of_decide_eq_true (by first | (with_reducible assumption) | assumption)) (by have h_ : (x5_1 : Int) < ((x0_1.length : Int) : Int) := of_decide_eq_true (by first | (with_reducible assumption) | assumption); first | exact h_ | (have e_ := (Kd.R_reads' HO_0.out).1; omega) | simpa using h_); obtain rfl := k129_openM hM10; have HP10 := Kd.R_seg HX10.out (x5_1 : Int) (of_decide_eq_true (by first | (with_reducible assumption) | assumption)) (by have h_ : (x5_1 : Int) < ((x0_1.length : Int) : Int) := of_decide_eq_true (by first | (with_reducible assumption) | assumption); first | exact h_ | (have e_ := (Kd.R_reads' HO_0.out).1; omega) | simpa using h_) (seg := [.int .i64 (wrap64 (x1_1 + 1))]) (j := 1) hcl10 hcc10 (show 2 ≤ 2 from by decide) (x' := (⟨(rd_T129 y153 x5_1).f0, wrap64 (x1_1 + 1)⟩ : S129)) (k129_mkM _ _ _ (⟨(rd_T129 y153 x5_1).f0, wrap64 (x1_1 + 1)⟩ : S129) ) (fun _ hk => hk); have hx10_1 := hcc10 1 _ rfl; (try simp only [show (k129).sz = 2 from rfl, Nat.mul_one, Nat.add_zero] at hx10_1); have hf10_1 := hfr10 1; (try simp only [show (k129).sz = 2 from rfl, Nat.mul_one, Nat.add_zero] at hf10_1); clear hcl10 hcc10 hfr10 hM10) | ((with_reducible refine gate_store (t := 2) (p := 23) rfl ?_); refine store_event (t := 2) (p := 23) (v := ?vo_w11) (w1 := (w9.setCell ⟨go5, (x5_1 : Int).toNat * 2 + 1, none⟩ (.int .i64 (wrap64 (x1_1 + 1))))) ?hg ?ho ?hn ?hr ?_; (case ho => rfl); (case hg => rfl); (case hn => rfl); (case hr => first | (go_simp; done) | (go_simp; rfl)); intro w11 hw; have hg : w9.grownBy w11 (some go5) := (by rw [hw]; exact HP10.2); have hp_ : Kd.R k129 129 w11 w0.heap.size (fun k_ => (P0_ k_ ∨ w.heap.size ≤ k_)) (.slice (some ⟨go5, 0, none⟩) x0_1.length co7) y154 := (by rw [hw, Ny154.out]; exact HP10.1); clear HP10; replace HB := Aside0.mk ((by rw [hw]; exact below_set (HB.out) GB5.out : Below w0.heap.size w0 w11)); replace HK := Aside0.mk (Kept.of_grown (S := (fun k_ => P0_ k_)) hg (by repeat (first | (with_reducible first | exact HK.out | apply Kept.alloc | apply Kept.drewN | apply Kept.drew) | exact HK.out)) (fun k_ e_ => (HO_0.out.1 k_ e_))); replace HO_0 := Aside0.mk (hp_); clear hg hw hp_))); go_roundg k1
     case measure => have := HK1.out; omega
     case rel => exact ⟨(y154), (wrap64 ((wrap64 (x1_1 + 1)) + 1)), (wrap64 (x5_1 + 1)), zF, zF, H', ⟨by have := HK1.out; omega⟩, ⟨by refine zR ?_; exact HO_0.out⟩, ⟨by repeat (first | (with_reducible first | exact HK.out | apply Kept.alloc | apply Kept.drewN | apply Kept.drew) | exact HK.out)⟩, ⟨pR HB⟩⟩
    ·rw [if_neg c4] at H; exact absurd H (by simp)
   ·rw [if_neg c3] at H; have c3b0 : decide (x5_1 < (x0_1.length : Int)) = false := decide_eq_false c3; clear c3; simp only [Option.some.injEq, Prod.mk.injEq] at H; obtain ⟨rfl, rfl⟩ := H; obtain ⟨Ao12, co12, eo12⟩ := Kd.R_slice HO_0.out; subst eo12; (go_wp2); (go_ret); exact ⟨zE, by refine zR ?_; exact HO_0.out, pR HB, by repeat (first | (with_reducible first | exact HK.out | apply Kept.alloc | apply Kept.drewN | apply Kept.drew) | exact HK.out)⟩

/-! ### laws_markText: function 111 -/
def laws_markText.l0 : Nat → Int → ByteArray → Option (ByteArray)
 | 0, _, _ => none
 | k + 1, x0, x3 => if x0 > 0 then ((some (([(wrap64 (48 + (Int.tmod x0 10))) % 256] : List Int) : List Int)).bind fun y155 => (if (strOfNums y155).size + x3.size ≤ 9223372036854775807 then (laws_markText.l0 k (wrap64 (Int.tdiv x0 10)) ((strOfNums y155) ++ x3)) else (none))) else (if 1 + x3.size ≤ 9223372036854775807 then (some ((⟨#[109]⟩ : ByteArray) ++ x3)) else (none))
def laws_markText.f (k : Nat) (a0 : Int) : Option (ByteArray) := if a0 ≤ 0 then (some (⟨#[109, 48]⟩ : ByteArray)) else (laws_markText.l0 k a0 (⟨#[]⟩ : ByteArray))
theorem laws_markText.mono_l : ∀ k, (∀ y0 y1, LeO (laws_markText.l0 k y0 y1) (laws_markText.l0 (k + 1) y0 y1))
 | 0 => fun _ _ r h => by simp [laws_markText.l0] at h
 | k + 1 => by
  have ih0 := laws_markText.mono_l k
  ·intro y0 y1
   unfold laws_markText.l0
   repeat' first
   | (with_reducible exact ih0 _ _)
   | (with_reducible exact LeO.refl _)
   | (with_reducible exact LeO.none _)
   | (with_reducible refine LeO.ite ?_ ?_)
   | (with_reducible refine LeO.bind ?_ (fun _ => ?_))
   | exact ih0 _ _
   | exact LeO.none _
   | refine LeO.ite ?_ ?_
   | refine LeO.bind ?_ (fun _ => ?_)
theorem laws_markText.mono : ∀ a0 k, LeO (laws_markText.f k a0) (laws_markText.f (k + 1) a0) := by
 intro a0 k; have ih0 := laws_markText.mono_l k; unfold laws_markText.f
 repeat' first
   | (with_reducible exact ih0 _ _)
   | (with_reducible exact LeO.refl _)
   | (with_reducible exact LeO.none _)
   | (with_reducible refine LeO.ite ?_ ?_)
   | (with_reducible refine LeO.bind ?_ (fun _ => ?_))
   | exact ih0 _ _
   | exact LeO.none _
   | refine LeO.ite ?_ ?_
   | refine LeO.bind ?_ (fun _ => ?_)
set_option maxHeartbeats 8000000 in
set_option maxRecDepth 100000 in
theorem laws_markText.calls (k : Nat) (a0 : Int) (r : ByteArray) (w : World) (h : laws_markText.f k a0 = some r) :
  Calls Try.prog 111 #[.int .i64 a0] w fun e w' => e = .returned (.string r) ∧ Below w.heap.size w w' := by
 have HB := Aside0.mk (Below.refl w.heap.size w); have H : (if a0 ≤ 0 then (some (⟨#[109, 48]⟩ : ByteArray)) else (laws_markText.l0 k a0 (⟨#[]⟩ : ByteArray))) = some r := h; clear h; by_cases c2 : a0 ≤ 0
 ·rw [if_pos c2] at H; have c2b0 : decide (a0 ≤ 0) = true := decide_eq_true c2; clear c2; obtain rfl := Option.some.inj H; simp only [Option.some.injEq, Prod.mk.injEq] at H; obtain ⟨rfl⟩ := H; (go_enter Try.func111, Try.ntmps111); (go_wp2); (go_ret); exact ⟨zE, pR HB⟩
 ·rw [if_neg c2] at H; have c2b0 : decide (a0 ≤ 0) = false := decide_eq_false c2; clear c2; have H' := Aside0.mk H; clear H; (go_enter Try.func111, Try.ntmps111); (go_wp2); go_loopg [0, 3] k (fun kq v0 v3 w' => ∃ (x0_1 : Int) (x3_1 : ByteArray), v0 = .int .i64 x0_1 ∧ v3 = .string x3_1 ∧ Aside0 (laws_markText.l0 kq x0_1 x3_1 = some r) ∧ Aside0 (kq ≤ k) ∧ Aside0 (Below w.heap.size w w'))
  case atStart => exact ⟨(a0), ((⟨#[]⟩ : ByteArray)), zF, zF, H', ⟨Nat.le_refl _⟩, ⟨pR HB⟩⟩
  case round =>
   clear H'; (try clear c1); (try clear c2); (try clear c2b0); (try clear p2); obtain ⟨x0_1, x3_1, rfl, rfl, HA, HK1, HB⟩ := hrel
   cases gk with
   | zero => exact absurd HA.out (by simp [laws_markText.l0])
   | succ k1 =>
    have H := HA.out; clear HA; simp only [laws_markText.l0] at H; by_cases c3 : x0_1 > 0
    ·rw [if_pos c3] at H; have c3b0 : decide (0 < x0_1) = true := decide_eq_true c3; clear c3; obtain ⟨y155, hy155⟩ : ∃ y_ : List Int, y_ = (([(wrap64 (48 + (Int.tmod x0_1 10))) % 256] : List Int)) := ⟨_, rfl⟩; (replace H : (if (strOfNums y155).size + x3_1.size ≤ 9223372036854775807 then (laws_markText.l0 k1 (wrap64 (Int.tdiv x0_1 10)) ((strOfNums y155) ++ x3_1)) else (none)) = some r := by first | (rw [hy155]; with_reducible exact H) | (have H2_ := (Option.bind_some _ _).symm.trans H; rw [hy155]; with_reducible exact H2_) | (have H2_ := (Option.bind_some _ _).symm.trans H; with_reducible exact H2_) | with_reducible exact H | (rw [hy155]; exact H) | exact H); have Ny155 := Aside0.mk hy155; clear hy155; by_cases c4 : (strOfNums y155).size + x3_1.size ≤ 9223372036854775807
     ·rw [if_pos c4] at H; have c4b0 := eq_true c4; have c4b1 : decide ((strOfNums y155).size + x3_1.size ≤ 9223372036854775807) = true := decide_eq_true c4; (try have c4b2 : (9223372036854775807 < (strOfNums y155).size + x3_1.size) = False := eq_false (Nat.not_lt.2 c4)); have H' := Aside0.mk H; clear H; (go_wp2_with (first | ((with_reducible refine gate_dst (N := 12) rfl ?_); refine Kd.R_lit (Kd.int .u8) _ 5 ?hg (N := 12) ?hd (xs := ([(wrap64 (48 + (Int.tmod x0_1 10))) % 256] : List Int)) (inner := [.int .u8 ((wrap64 (48 + (Int.tmod x0_1 10))) % 256)]) (ok := fun _ => True) (okp := fun _ => True) ?hr ?hp (fun _ hk => hk) trivial (Below.refl _ _) (Nat.le_refl _) (by simp) ?_; (case hd => rfl); (case hg => rfl); (case hr => first | (go_simp; done) | (go_simp; rfl)); (case hp => exact (Reps.one (show Kd.M (Kd.int .u8) _ _ _ ((wrap64 (48 + (Int.tmod x0_1 10))) % 256) [.int .u8 ((wrap64 (48 + (Int.tmod x0_1 10))) % 256)] from rfl) (Reps.none _ _))); intro v156 w5 ho6 hb hg_ hnew_; clear hg_ hnew_; (first | rw [← Ny155.out] at ho6 | (simp only [Int.reduceToNat] at ho6; rw [← Ny155.out] at ho6)); have HO157 := Aside0.mk (Kd.R_lower ho6 (below_size (pR HB))); replace HB := pS HB hb; clear hb ho6; have hcv7 := own_string (P := Try.prog) Try.underlying90 Try.underlying5 Try.underlying9 (Kd.own_of_R HO157.out)))); go_roundg k1
      case measure => have := HK1.out; omega
      case rel => exact ⟨(wrap64 (Int.tdiv x0_1 10)), ((strOfNums y155) ++ x3_1), zF, zF, H', ⟨by have := HK1.out; omega⟩, ⟨pR HB⟩⟩
     ·rw [if_neg c4] at H; exact absurd H (by simp)
    ·rw [if_neg c3] at H; have c3b0 : decide (0 < x0_1) = false := decide_eq_false c3; clear c3; by_cases c8 : 1 + x3_1.size ≤ 9223372036854775807
     ·rw [if_pos c8] at H; have c8b0 := eq_true c8; have c8b1 : decide (1 + x3_1.size ≤ 9223372036854775807) = true := decide_eq_true c8; (try have c8b2 : (9223372036854775807 < 1 + x3_1.size) = False := eq_false (Nat.not_lt.2 c8)); obtain rfl := Option.some.inj H; simp only [Option.some.injEq, Prod.mk.injEq] at H; obtain ⟨rfl⟩ := H; (go_wp2); (go_ret); exact ⟨zE, pR HB⟩
     ·rw [if_neg c8] at H; exact absurd H (by simp)

/-! ### laws_markHungS: function 89, by hand -/
theorem S_hand {α : Type} {d : Kd α} {e : Nat} {w : World} {base : Nat} {ok : Nat → Prop} {v : Value} {xs : List α} (h : Kd.S d e w base ok v xs) : ∃ P : Nat → Prop, Kd.S d e w base P v xs ∧ (∀ k, P k → ok k) ∧ ∀ k, P k → base ≤ k ∧ k < w.heap.size ∧ ∃ q, q ∈ e :: d.E ∧ ∃ cells, w.heap[k]? = some (.cells cells q (0, 0)) :=
 ⟨_, Kd.S_bound h, fun k hk => hk.1, fun k hk => hk.2⟩
theorem typed_no {w : World} {k : Nat} {l l' : List Nat} (h : ∃ q, q ∈ l ∧ ∃ cells, w.heap[k]? = some (.cells cells q (0, 0))) (h' : ∃ q, q ∈ l' ∧ ∃ cells, w.heap[k]? = some (.cells cells q (0, 0))) (hd : ∀ q, q ∈ l → q ∉ l') : False := by
 obtain ⟨q, hq, c, hc⟩ := h; obtain ⟨q', hq', c', hc'⟩ := h'; rw [hc] at hc'; (have : q = q' := by injection hc' with h1; injection h1); exact hd q hq (this ▸ hq')
theorem typed_blk {w : World} {k t : Nat} {cells : Array Value} {l : List Nat} (h : ∃ q, q ∈ l ∧ ∃ cells, w.heap[k]? = some (.cells cells q (0, 0))) (h' : w.heap[k]? = some (.cells cells t (0, 0))) (hd : ∀ q, q ∈ l → q ≠ t) : False := by
 obtain ⟨q, hq, c, hc⟩ := h; rw [hc] at h'; (have : q = t := by injection h' with h1; injection h1); exact hd q hq this
theorem sz_set (w : World) (p : Addr) (u : Value) : (w.setCell p u).heap.size = w.heap.size := by simp [World.setCell]
theorem sz_drewN (w : World) (n : Nat) : (w.drewN n).heap.size = w.heap.size := rfl
theorem sz_drew (w : World) : w.drew.heap.size = w.heap.size := rfl
def ltN (N k : Nat) : Nat := if k < N then k + 1 else k
def geN (N k : Nat) : Nat := if N ≤ k then k + 1 else k
theorem gapN {N k : Nat} (h : k ≠ ltN N k) (h' : k ≠ geN N k) : False := by
 unfold ltN at h; unfold geN at h'; by_cases c : k < N
 ·rw [if_neg (by omega)] at h'; exact h' rfl
 ·rw [if_neg c] at h; exact h rfl
theorem S_ltN {α : Type} {d : Kd α} {e : Nat} {w : World} {base : Nat} {ok : Nat → Prop} {v : Value} {xs : List α} (h : Kd.S d e w base ok v xs) {N : Nat} (hN : N = w.heap.size) : Kd.S d e w base (fun k => ok k ∧ k ≠ ltN N k) v xs :=
 Kd.S_mono (Kd.S_bound h) (fun k hk => ⟨hk.1, by unfold ltN; rw [if_pos (by have := hk.2.2.1; omega)]; omega⟩)
theorem S_geN {α : Type} {d : Kd α} {e : Nat} {w : World} {base : Nat} {ok : Nat → Prop} {v : Value} {xs : List α} (h : Kd.S d e w base ok v xs) {N : Nat} (hN : N ≤ base) : Kd.S d e w base (fun k => ok k ∧ k ≠ geN N k) v xs :=
 Kd.S_mono (Kd.S_bound h) (fun k hk => ⟨hk.1, by unfold geN; rw [if_pos (by have := hk.2.1; omega)]; omega⟩)
def laws_markHungS.l0 : Nat → List (S79) → Int → Int → Option (Int × (List (S79)))
 | 0, _, _, _ => none
 | k + 1, x0, x1, x2 => if x2 < (x0.length : Int) then (if 0 ≤ x2 then ((laws_markText.f k x1).bind fun t1 => ((laws_markSpotS.f k ((rd_T79 x0 x2).f1) (wrap64 (x1 + 1))).bind fun bt1 => (laws_markHungS.l0 k (x0.set (x2 : Int).toNat (⟨t1, bt1.2, (Int.tmod bt1.1 3) == 0⟩ : S79)) (wrap64 (bt1.1 + 1)) (wrap64 (x2 + 1))))) else (none)) else (some (x1, x0))
def laws_markHungS.f (k : Nat) (l0 : List (S79)) (a1 : Int) : Option (Int × (List (S79))) := laws_markHungS.l0 k l0 a1 0
theorem laws_markHungS.mono_l : ∀ k, (∀ y0 y1 y2, LeO (laws_markHungS.l0 k y0 y1 y2) (laws_markHungS.l0 (k + 1) y0 y1 y2))
 | 0 => fun _ _ _ r h => by simp [laws_markHungS.l0] at h
 | k + 1 => by
  have ih0 := laws_markHungS.mono_l k
  intro y0 y1 y2
  unfold laws_markHungS.l0
  repeat' first
   | (with_reducible exact ih0 _ _ _)
   | (with_reducible exact laws_markText.mono _ _)
   | (with_reducible exact laws_markSpotS.mono _ _ _)
   | (with_reducible exact LeO.refl _)
   | (with_reducible exact LeO.none _)
   | (with_reducible refine LeO.ite ?_ ?_)
   | (with_reducible refine LeO.bind ?_ (fun _ => ?_))
theorem laws_markHungS.mono : ∀ a0 a1 k, LeO (laws_markHungS.f k a0 a1) (laws_markHungS.f (k + 1) a0 a1) := fun a0 a1 k => laws_markHungS.mono_l k a0 a1 0
set_option maxHeartbeats 8000000 in
set_option maxRecDepth 100000 in
theorem laws_markHungS.calls (k : Nat) (P0_ : Nat → Prop) (u9000_ : Value) (l0 : List (S79)) (a1 : Int) (r1 : Int) (r2 : List (S79)) (w0 w : World) (hB : Below w0.heap.size w0 w) (ho0 : Kd.S k79 79 w w0.heap.size P0_ u9000_ l0) (h : laws_markHungS.f k l0 a1 = some (r1, r2)) :
 Calls Try.prog 89 #[u9000_, .int .i64 a1] w fun e w' => e = .returned (.int .i64 r1) ∧ Kd.S k79 79 w' w0.heap.size (fun k_ => P0_ k_) u9000_ r2 ∧ Below w0.heap.size w0 w' ∧ Kept w w' (fun k_ => P0_ k_) := by
 have H' := Aside0.mk (show laws_markHungS.l0 k l0 a1 0 = some (r1, r2) from h); clear h; obtain ⟨A, c, rfl⟩ := Kd.S_slice ho0; have HO := Aside0.mk ho0; have HB := Aside0.mk hB; have HK := Aside0.mk (Kept.refl w (fun k_ => P0_ k_)); clear ho0 hB; generalize hn : l0.length = n; rw [hn] at HO; have HX := Aside0.mk hn; clear hn; (go_enter Try.func89, Try.ntmps89); (go_wp2); go_loopg [1, 5] k (fun kq v1 v5 w' => ∃ (x0 : List (S79)) (x1 x2 : Int), v1 = .int .i64 x1 ∧ v5 = .int .i64 x2 ∧ Aside0 (x0.length = n) ∧ Aside0 (laws_markHungS.l0 kq x0 x1 x2 = some (r1, r2)) ∧ Aside0 (kq ≤ k) ∧ Aside0 (Kd.S k79 79 w' w0.heap.size (fun k_ => P0_ k_) (.slice A n c) x0) ∧ Aside0 (Below w0.heap.size w0 w') ∧ Aside0 (Kept w w' (fun k_ => P0_ k_)))
 case atStart => exact ⟨l0, a1, 0, rfl, rfl, HX, H', ⟨Nat.le_refl _⟩, HO, HB, HK⟩
 case round =>
  clear H' HX HO HB HK; obtain ⟨x0, x1, x2, rfl, rfl, HX, HA, HK1, HO, HB, HK⟩ := hrel
  cases gk with
  | zero => exact absurd HA.out (by simp [laws_markHungS.l0])
  | succ k1 =>
   have H := HA.out; clear HA; simp only [laws_markHungS.l0] at H; by_cases c1 : x2 < (x0.length : Int)
   ·rw [if_pos c1] at H; by_cases c2 : 0 ≤ x2
    ·rw [if_pos c2] at H; (have c3 : x2 < (n : Int) := by have := HX.out; omega); (have c4 : 0 < x0.length := by omega); obtain ⟨g, cap, eu, hbg, _⟩ := Kd.S_form HO.out c4; injection eu with e1 e2 e3; subst e1; subst e3; clear e2 c4; obtain ⟨t1, A0, H⟩ := Option.bind_eq_some_iff.mp H; obtain ⟨⟨b1, b2⟩, A1, H⟩ := Option.bind_eq_some_iff.mp H; replace H : laws_markHungS.l0 k1 (x0.set x2.toNat (⟨t1, b2, (Int.tmod b1 3) == 0⟩ : S79)) (wrap64 (b1 + 1)) (wrap64 (x2 + 1)) = some (r1, r2) := H; have HT := Aside0.mk A0; have HA := Aside0.mk (show laws_markSpotS.f k1 ((x0.getD x2.toNat z79).f1) (wrap64 (x1 + 1)) = some (b1, b2) from A1); have H' := Aside0.mk H; have HG := Aside0.mk hbg; have HC := Aside0.mk c2; have HC3 := Aside0.mk c3; clear H A0 A1 c1 hbg; have hb0 : decide (x2 < (n : Int)) = true := decide_eq_true c3; have p1 : (0 ≤ x2) = True := eq_true c2; have q1 : (x2 < (n : Int)) = True := eq_true c3; generalize hy : x0.getD x2.toNat z79 = y at HA; have HY := Aside0.mk hy; clear hy c2 c3; (go_wp2_with (first | (go_at_call 111; (with_reducible refine (laws_markText.calls k1 x1 t1 _ HT.out).mono ?_); rintro e w2 ⟨rfl, hb⟩; replace HO := Aside0.mk (Kd.S_below HO.out hb); replace HB := Aside0.mk (below_then HB.out HB.out.size hb); replace HK := Aside0.mk (Kept.below HK.out hb); clear hb; obtain ⟨oki, cs, hcl, hM, hcc, hfr, hoki, hH⟩ := Kd.S_elem HO.out z79 x2 HC.out HC3.out; rw [HY.out] at hM; obtain ⟨v, rfl, hR⟩ := k79_openM hM; have hx0 : w2.cell? ⟨g, x2.toNat * 3, none⟩ = some (.string y.f0) := hcc 0 _ rfl; have hx1 : w2.cell? ⟨g, x2.toNat * 3 + 1, none⟩ = some v := hcc 1 _ rfl; have hf0 : w2.frozen? ⟨g, x2.toNat * 3, none⟩ = false := hfr 0; obtain ⟨B, d, rfl⟩ := Kd.R_slice hR; have hseg := Kd.H_seg hH HC.out HC3.out (seg := [.string t1]) (j := 0) (show 0 + 1 ≤ 3 by omega) (by simp [Value.oneCell']); have HH := Aside0.mk (show Kd.H k79 79 (w2.setCell ⟨g, x2.toNat * 3, none⟩ (.string t1)) _ _ _ _ _ _ [.string t1, .slice B y.f1.length d, .bool y.f2] from hseg.1); have HR := Aside0.mk (Kd.R_far (p := ⟨g, x2.toNat * 3, none⟩) hR (fun k hk => (hoki k hk).2) (.string t1)); have HOK := Aside0.mk hoki; have HB1 := Aside0.mk (HB.out.setCell (p := ⟨g, x2.toNat * 3, none⟩) HG.out (.string t1)); have HK2 := Aside0.mk (Kept.setCell (p := ⟨g, x2.toNat * 3, none⟩) HK.out (.inl ((Kd.S_R HO.out).1 g rfl)) (.string t1)); have HP := Aside0.mk ((Kd.S_R HO.out).1 g rfl); clear hM hcl hcc hfr hoki hR hH hseg) | (go_at_call 102; (try simp only [i64_w]); (with_reducible refine (laws_markSpotS.calls k1 oki _ y.f1 (wrap64 (x1 + 1)) b1 b2 w0 _ HB1.out HR.out HA.out).mono ?_); rintro e w3 ⟨rfl, hy, hb, hkp⟩; have n0_ := Aside0.mk (Kd.H_kept HH.out hkp (fun k _ hn hs => hn hs)); have n3_ := Aside0.mk (Kd.R_reok (ok := oki) rfl hy (fun k hk => HR.out.1 k hk)); have n1_ := Aside0.mk hb; have n2_ := Aside0.mk (Kept.then_ HK2.out hkp (fun k hk => Or.inl (HOK.out k hk).1)); clear HO HB HK HB1 HK2 hy hb hkp hx0 hx1 hf0 HH HR; have HH := n0_; have HB := n1_; have HK := n2_; have HR := n3_; clear n0_ n1_ n2_ n3_; have hx2 := (Kd.H_at HH.out HC.out HC3.out).1 2 _ rfl; have hf2 := (Kd.H_at HH.out HC.out HC3.out).2 2; rw [show x2.toNat * k79.sz + 2 = x2.toNat * 3 + 2 from rfl] at hx2 hf2))); have HO := Aside0.mk (Kd.H_back (show Kd.H k79 79 (w3.setCell ⟨g, x2.toNat * 3 + 2, none⟩ (.bool ((Int.tmod b1 3) == 0))) _ _ _ _ _ _ [.string t1, .slice B y.f1.length d, .bool ((Int.tmod b1 3) == 0)] from (Kd.H_seg HH.out HC.out HC3.out (seg := [.bool ((Int.tmod b1 3) == 0)]) (j := 2) (show 2 + 1 ≤ 3 by omega) (by simp [Value.oneCell'])).1) (k79_mkM _ _ oki ⟨t1, b2, (Int.tmod b1 3) == 0⟩ (Kd.R_far (p := ⟨g, x2.toNat * 3 + 2, none⟩) HR.out (fun k hk => (HOK.out k hk).2) (.bool ((Int.tmod b1 3) == 0)))) (fun _ hk => hk)); have HB1 := Aside0.mk (HB.out.setCell (p := ⟨g, x2.toNat * 3 + 2, none⟩) HG.out (.bool ((Int.tmod b1 3) == 0))); have HK2 := Aside0.mk (Kept.setCell (p := ⟨g, x2.toNat * 3 + 2, none⟩) HK.out (.inl HP.out) (.bool ((Int.tmod b1 3) == 0))); clear HB HK; have HB := HB1; have HK := HK2; have HX2 : Aside0 ((x0.set x2.toNat (⟨t1, b2, (Int.tmod b1 3) == 0⟩ : S79)).length = n) := ⟨by rw [List.length_set]; exact HX.out⟩; go_roundg k1
     case measure => have := HK1.out; omega
     case rel => exact ⟨_, _, _, rfl, rfl, HX2, H', ⟨by have := HK1.out; omega⟩, HO, HB, HK⟩
    ·rw [if_neg c2] at H
     cases H
   ·rw [if_neg c1] at H; have hb0 : decide (x2 < (n : Int)) = false := decide_eq_false (by have := HX.out; omega); clear c1; obtain ⟨rfl, rfl⟩ := Prod.mk.inj (Option.some.inj H); (go_wp2); (go_ret); exact ⟨rfl, HO.out, HB.out, HK.out⟩

/-! ### laws_markPlan: function 42, by hand -/
def laws_markPlan.f (k : Nat) (l0_0 : List (S79)) (a0_1 : Int) (a0_2 : Int) (a1 : Int) : Option (Int × (List (S79))) := laws_markHungS.f k l0_0 a1
theorem laws_markPlan.mono : ∀ a0 a1 a2 a3 k, LeO (laws_markPlan.f k a0 a1 a2 a3) (laws_markPlan.f (k + 1) a0 a1 a2 a3) := fun a0 _ _ a3 k => laws_markHungS.mono a0 a3 k
set_option maxHeartbeats 8000000 in
set_option maxRecDepth 100000 in
theorem laws_markPlan.calls (k : Nat) (P0_0_ : Nat → Prop) (u9000_ : Value) (l0_0 : List (S79)) (a0_1 : Int) (a0_2 : Int) (a1 : Int) (r1 : Int) (r2 : List (S79)) (w0 w : World) (hB : Below w0.heap.size w0 w) (ho0 : Kd.S k79 79 w w0.heap.size P0_0_ u9000_ l0_0) (h : laws_markPlan.f k l0_0 a0_1 a0_2 a1 = some (r1, r2)) :
 Calls Try.prog 42 #[.agg #[u9000_, .int .i64 a0_1, .int .i64 a0_2], .int .i64 a1] w fun e w' => e = .returned (.int .i64 r1) ∧ Kd.S k79 79 w' w0.heap.size (fun k_ => P0_0_ k_) u9000_ r2 ∧ Below w0.heap.size w0 w' ∧ Kept w w' (fun k_ => P0_0_ k_) := by
 have HA := Aside0.mk (show laws_markHungS.f k l0_0 a1 = some (r1, r2) from h); obtain ⟨A, c, rfl⟩ := Kd.S_slice ho0; have HO := Aside0.mk ho0; have HB := Aside0.mk hB; have HK := Aside0.mk (Kept.refl w (fun k_ => P0_0_ k_)); clear ho0 hB h; (go_enter Try.func42, Try.ntmps42); (go_wp2_with (first | ((with_reducible refine gate_dst (N := 2) rfl ?_); refine box_event ?hg (N := 2) ?hd (cs := #[.slice A l0_0.length c, .int .i64 a0_1, .int .i64 a0_2]) (t := 64) ?hr ?_; (case hd => rfl); (case hg => rfl); (case hr => first | (go_simp; done) | (go_simp; rfl)); intro gb hg w2 hbox hb; have n0_ := Aside0.mk (Kd.S_below HO.out hb); have n1_ := Aside0.mk (below_then HB.out HB.out.size hb); have n2_ := Aside0.mk (Kept.below HK.out hb); have BX := Aside0.mk hbox; clear HO HB HK hb hbox hg; have HO := n0_; have HB := n1_; have HK := n2_; clear n0_ n1_ n2_; obtain ⟨hx0, hx1, hx2, hy0, hy1, hy2⟩ := cz3 BX) | (go_at_call 89; (with_reducible refine (laws_markHungS.calls k P0_0_ _ l0_0 a1 r1 r2 w0 _ HB.out HO.out HA.out).mono ?_); rintro e w3 ⟨rfl, ho, hb, hkp⟩; replace HO := Aside0.mk ho; replace HB := Aside0.mk hb; replace HK := Aside0.mk (Kept.then_ HK.out hkp (fun k hk => Or.inl hk)); clear ho hb hkp hx0 hx1 hx2 hy0 hy1 hy2))); (go_ret); exact ⟨rfl, HO.out, HB.out, HK.out⟩

/-! ### spec_l17Find: function 90 -/
def spec_l17Find.l0 : Nat → List (S64) → ByteArray → Int → Option (Int)
 | 0, _, _, _ => none
 | k + 1, x0, x1, x5 => if x5 < (((rd_T64 x0 0).f0).length : Int) then (if 0 ≤ x5 then (if ((rd_T79 ((rd_T64 x0 0).f0) x5).f0).toList = x1.toList then (some x5) else (spec_l17Find.l0 k x0 x1 (wrap64 (x5 + 1)))) else (none)) else (some (-1))
def spec_l17Find.f (k : Nat) (l0 : List (S64)) (a1 : ByteArray) : Option (Int) := if 0 < (l0.length : Int) then (spec_l17Find.l0 k l0 a1 0) else (none)
theorem spec_l17Find.mono_l : ∀ k, (∀ y0 y1 y2, LeO (spec_l17Find.l0 k y0 y1 y2) (spec_l17Find.l0 (k + 1) y0 y1 y2))
 | 0 => fun _ _ _ r h => by simp [spec_l17Find.l0] at h
 | k + 1 => by
  have ih0 := spec_l17Find.mono_l k
  ·intro y0 y1 y2
   unfold spec_l17Find.l0
   repeat' first
   | (with_reducible exact ih0 _ _ _)
   | (with_reducible exact LeO.refl _)
   | (with_reducible exact LeO.none _)
   | (with_reducible refine LeO.ite ?_ ?_)
   | (with_reducible refine LeO.bind ?_ (fun _ => ?_))
   | exact ih0 _ _ _
   | exact LeO.none _
   | refine LeO.ite ?_ ?_
   | refine LeO.bind ?_ (fun _ => ?_)
theorem spec_l17Find.mono : ∀ a0 a1 k, LeO (spec_l17Find.f k a0 a1) (spec_l17Find.f (k + 1) a0 a1) := by
 intro a0 a1 k; have ih0 := spec_l17Find.mono_l k; unfold spec_l17Find.f
 repeat' first
   | (with_reducible exact ih0 _ _ _)
   | (with_reducible exact LeO.refl _)
   | (with_reducible exact LeO.none _)
   | (with_reducible refine LeO.ite ?_ ?_)
   | (with_reducible refine LeO.bind ?_ (fun _ => ?_))
   | exact ih0 _ _ _
   | exact LeO.none _
   | refine LeO.ite ?_ ?_
   | refine LeO.bind ?_ (fun _ => ?_)
set_option maxHeartbeats 8000000 in
set_option maxRecDepth 100000 in
theorem spec_l17Find.calls (k : Nat) (A0 : Option Addr) (c0 : Nat) (l0 : List (S64)) (a1 : ByteArray) (r : Int) (w : World) (hr0 : Kd.C k64 w A0 l0.length l0) (hc0 : l0.length ≤ c0) (h : spec_l17Find.f k l0 a1 = some r) :
  Calls Try.prog 90 #[.pointer A0, .string a1] w fun e w' => e = .returned (.int .i64 r) ∧ Drawn0 w w' := by
 have HR0 := Aside0.mk hr0; have HC0 := Aside0.mk hc0; clear hr0 hc0; have H : (if 0 < (l0.length : Int) then (spec_l17Find.l0 k l0 a1 0) else (none)) = some r := h; clear h; by_cases c3 : 0 < (l0.length : Int)
 ·rw [if_pos c3] at H; have c3b0 : decide (0 < (l0.length : Int)) = true := decide_eq_true c3; have c3b1 : decide (0 < l0.length) = true := decide_eq_true (by omega); clear c3; have H' := Aside0.mk H; clear H; have p158 : 0 ≤ (0 : Int) := (by omega); have q158 : 0 < (l0.length : Int) := of_decide_eq_true (by first | (with_reducible assumption) | assumption); obtain ⟨ad158, A158_0, c158_0, e158, hx158_0, hx158_1, hx158_2, hl158_0, hi158_0⟩ := at_T64 HR0.out 0 p158 q158
  cases e158
  have qi158 : (0 < l0.length) = True := eq_true (by omega); (try rw [show ((0 : Int)).toNat = 0 from rfl] at hx158_0); (try rw [show 0 * 3 = 0 from rfl] at hx158_0); (try rw [Addr.add_zero'] at hx158_0); (try rw [show ((0 : Int)).toNat = 0 from rfl] at hx158_1); (try rw [show 0 * 3 = 0 from rfl] at hx158_1); (try rw [Addr.add_zero'] at hx158_1); (try rw [show ((0 : Int)).toNat = 0 from rfl] at hx158_2); (try rw [show 0 * 3 = 0 from rfl] at hx158_2); (try rw [Addr.add_zero'] at hx158_2); have HR158_0 := Aside0.mk hi158_0; have HC158_0 := Aside0.mk hl158_0; clear hi158_0 hl158_0; replace p158 := eq_true p158; replace q158 := eq_true q158; have RX158_0 := Aside0.mk hx158_0; clear hx158_0; have RX158_1 := Aside0.mk hx158_1; clear hx158_1; have RX158_2 := Aside0.mk hx158_2; clear hx158_2; (go_enter Try.func90, Try.ntmps90); (go_wp2); go_loopg [5] k (fun kq v5 w' => ∃ (x5_1 : Int), v5 = .int .i64 x5_1 ∧ Aside0 (spec_l17Find.l0 kq l0 a1 x5_1 = some r) ∧ Aside0 (kq ≤ k) ∧ Drawn0 w w')
  case atStart => exact ⟨(0), zF, H', ⟨Nat.le_refl _⟩, zD⟩
  case round =>
   clear H'; (try clear c1); (try clear p1); (try clear q1); (try clear hx1); (try clear qi1); (try clear p2); (try clear c3); (try clear c3b0); (try clear c3b1); (try clear hx158_0); (try clear hx158_1); (try clear hx158_2); (try clear p158); (try clear q158); obtain ⟨x5_1, rfl, HA, HK1, ⟨m1, rfl⟩⟩ := hrel
   cases gk with
   | zero => exact absurd HA.out (by simp [spec_l17Find.l0])
   | succ k1 =>
    have H := HA.out; clear HA; simp only [spec_l17Find.l0] at H; by_cases c4 : x5_1 < (((rd_T64 l0 0).f0).length : Int)
    ·rw [if_pos c4] at H; have c4b0 : decide (x5_1 < (((rd_T64 l0 0).f0).length : Int)) = true := decide_eq_true c4; clear c4; by_cases c5 : 0 ≤ x5_1
     ·rw [if_pos c5] at H; have c5b0 : decide (0 ≤ x5_1) = true := decide_eq_true c5; clear c5; by_cases c6 : ((rd_T79 ((rd_T64 l0 0).f0) x5_1).f0).toList = a1.toList
      ·rw [if_pos c6] at H; have c6b0 : (((rd_T79 ((rd_T64 l0 0).f0) x5_1).f0).toList == a1.toList) = true := beq_iff_eq.mpr c6; have c6b1 : (((rd_T79 ((rd_T64 l0 0).f0) x5_1).f0).toList != a1.toList) = false := bne_eq_false_iff_eq.mpr c6; clear c6; obtain rfl := Option.some.inj H; simp only [Option.some.injEq, Prod.mk.injEq] at H; obtain ⟨rfl⟩ := H; (try have hx159_0 := RX158_0.out); (try have hx159_1 := RX158_1.out); (try have hx159_2 := RX158_2.out); (try have hx160_0 := RX158_0.out); (try have hx160_1 := RX158_1.out); (try have hx160_2 := RX158_2.out); have p161 : 0 ≤ (x5_1 : Int) := of_decide_eq_true (by first | (with_reducible assumption) | assumption); have q161 : x5_1 < (((rd_T64 l0 0).f0).length : Int) := of_decide_eq_true (by first | (with_reducible assumption) | assumption); obtain ⟨ad161, A161_1, c161_1, e161, hx161_0, hx161_1, hx161_2, hl161_1, hi161_1⟩ := at_T79 HR158_0.out x5_1 p161 q161
       cases e161
       have HR161_1 := Aside0.mk hi161_1; have HC161_1 := Aside0.mk hl161_1; clear hi161_1 hl161_1; replace p161 := eq_true p161; replace q161 := eq_true q161; (go_wp2); (go_ret); exact ⟨zF, zD⟩
      ·rw [if_neg c6] at H; have c6b0 : (((rd_T79 ((rd_T64 l0 0).f0) x5_1).f0).toList == a1.toList) = false := beq_eq_false_iff_ne.mpr c6; have c6b1 : (((rd_T79 ((rd_T64 l0 0).f0) x5_1).f0).toList != a1.toList) = true := bne_iff_ne.mpr c6; have H' := Aside0.mk H; clear H; (try have hx159_0 := RX158_0.out); (try have hx159_1 := RX158_1.out); (try have hx159_2 := RX158_2.out); (try have hx160_0 := RX158_0.out); (try have hx160_1 := RX158_1.out); (try have hx160_2 := RX158_2.out); have p161 : 0 ≤ (x5_1 : Int) := of_decide_eq_true (by first | (with_reducible assumption) | assumption); have q161 : x5_1 < (((rd_T64 l0 0).f0).length : Int) := of_decide_eq_true (by first | (with_reducible assumption) | assumption); obtain ⟨ad161, A161_1, c161_1, e161, hx161_0, hx161_1, hx161_2, hl161_1, hi161_1⟩ := at_T79 HR158_0.out x5_1 p161 q161
       cases e161
       have HR161_1 := Aside0.mk hi161_1; have HC161_1 := Aside0.mk hl161_1; clear hi161_1 hl161_1; replace p161 := eq_true p161; replace q161 := eq_true q161; (go_wp2); go_roundg k1
       case measure => have := HK1.out; omega
       case rel => exact ⟨(wrap64 (x5_1 + 1)), zF, H', ⟨by have := HK1.out; omega⟩, zD⟩
     ·rw [if_neg c5] at H; exact absurd H (by simp)
    ·rw [if_neg c4] at H; have c4b0 : decide (x5_1 < (((rd_T64 l0 0).f0).length : Int)) = false := decide_eq_false c4; clear c4; obtain rfl := Option.some.inj H; simp only [Option.some.injEq, Prod.mk.injEq] at H; obtain ⟨rfl⟩ := H; (try have hx159_0 := RX158_0.out); (try have hx159_1 := RX158_1.out); (try have hx159_2 := RX158_2.out); (go_wp2); (go_ret); exact ⟨zF, zD⟩
 ·rw [if_neg c3] at H; exact absurd H (by simp)

/-! ### spec_l01Small: function 132 -/
def spec_l01Small.f (a0 : Int) : Option (Bool) := if a0 ≥ 97 then (some (decide (a0 ≤ 122))) else (some false)
set_option maxHeartbeats 8000000 in
set_option maxRecDepth 100000 in
theorem spec_l01Small.calls (a0 : Int) (r : Bool) (w : World) (h : spec_l01Small.f a0 = some r) :
  Calls Try.prog 132 #[.int .u8 a0] w fun e w' => e = .returned (.bool r) ∧ Drawn0 w w' := by
 have H : (if a0 ≥ 97 then (some (decide (a0 ≤ 122))) else (some false)) = some r := h; clear h; by_cases c2 : a0 ≥ 97
 ·rw [if_pos c2] at H; have c2b0 : decide (97 ≤ a0) = true := decide_eq_true c2; clear c2; obtain rfl := Option.some.inj H; simp only [Option.some.injEq, Prod.mk.injEq] at H; obtain ⟨rfl⟩ := H; (go_enter Try.func132, Try.ntmps132); (go_wp2); (go_ret); exact ⟨zF, zD⟩
 ·rw [if_neg c2] at H; have c2b0 : decide (97 ≤ a0) = false := decide_eq_false c2; clear c2; obtain rfl := Option.some.inj H; simp only [Option.some.injEq, Prod.mk.injEq] at H; obtain ⟨rfl⟩ := H; (go_enter Try.func132, Try.ntmps132); (go_wp2); (go_ret); exact ⟨zF, zD⟩

/-! ### spec_l01Digit: function 133 -/
def spec_l01Digit.f (a0 : Int) : Option (Bool) := if a0 ≥ 48 then (some (decide (a0 ≤ 57))) else (some false)
set_option maxHeartbeats 8000000 in
set_option maxRecDepth 100000 in
theorem spec_l01Digit.calls (a0 : Int) (r : Bool) (w : World) (h : spec_l01Digit.f a0 = some r) :
  Calls Try.prog 133 #[.int .u8 a0] w fun e w' => e = .returned (.bool r) ∧ Drawn0 w w' := by
 have H : (if a0 ≥ 48 then (some (decide (a0 ≤ 57))) else (some false)) = some r := h; clear h; by_cases c2 : a0 ≥ 48
 ·rw [if_pos c2] at H; have c2b0 : decide (48 ≤ a0) = true := decide_eq_true c2; clear c2; obtain rfl := Option.some.inj H; simp only [Option.some.injEq, Prod.mk.injEq] at H; obtain ⟨rfl⟩ := H; (go_enter Try.func133, Try.ntmps133); (go_wp2); (go_ret); exact ⟨zF, zD⟩
 ·rw [if_neg c2] at H; have c2b0 : decide (48 ≤ a0) = false := decide_eq_false c2; clear c2; obtain rfl := Option.some.inj H; simp only [Option.some.injEq, Prod.mk.injEq] at H; obtain ⟨rfl⟩ := H; (go_enter Try.func133, Try.ntmps133); (go_wp2); (go_ret); exact ⟨zF, zD⟩

end Go.Proofs.Ytlphfgbeeckjnaa.PFnExactBestSails
