-- Written by a program of this session (wip/tools/pp.sh).
import Derived.Test.YtendpecnfaojkaaDoorPFnExactFewestBoltsx0
import Derived.Test.YtendpecnfaojkaaDoorPFnExactFewestBoltsx1
namespace Go.Proofs.YtendpecnfaojkaaDoor.PFnExactFewestBolts
open Go.RowKit Go.Proofs.YtendpecnfaojkaaDoorW.PrintWords Go.Proofs.YtendpecnfaojkaaDoorW.PrintLast Go.Proofs.YtendpecnfaojkaaDoorW.PrintMore Go.Proofs.YtendpecnfaojkaaDoor.Small
open Bool renaming true → T, false → F
attribute [local go_sem] max2_int min2_int max_two min_two max_three min_three max_four min_four   -- for this text's walks alone
set_option linter.unusedVariables false
set_option linter.unusedSimpArgs false

/-! ### impl_partsOfBolts: function 25 -/
mutual
def impl_partsOfBolts.l0 : Nat → List (S57) → List (S50) → Int → Int → Option ((List (S57)))
 | 0, _, _, _, _ => none
 | k + 1, x3, x9, x10, x11 => if x11 < x10 then (if 0 ≤ x11 then (if x11 < (x9.length : Int) then ((impl_soundParts.f k ((rd_T50 x9 x11).f0) ((rd_T50 x9 x11).f1)).bind fun t135 => (impl_partsOfBolts.l1 k x3 x11 x9 x10 x11 t135 (t135.length : Int) 0)) else (none)) else (none)) else (some x3)
def impl_partsOfBolts.l1 : Nat → List (S57) → Int → List (S50) → Int → Int → List (List Int) → Int → Int → Option ((List (S57)))
 | 0, _, _, _, _, _, _, _, _ => none
 | k + 1, x3, x4, x9, x10, x11, x17, x18, x19 => if x19 < x18 then (if 0 ≤ x19 then (if x19 < (x17.length : Int) then (if 0 < ((rd_L1 x17 x19).length : Int) then (if 1 < ((rd_L1 x17 x19).length : Int) then (if x3.length < 5864062014805 then (impl_partsOfBolts.l1 k (x3 ++ [(⟨x4, rd (rd_L1 x17 x19) 0, rd (rd_L1 x17 x19) 1⟩ : S57)]) x4 x9 x10 x11 x17 x18 (wrap64 (x19 + 1))) else (none)) else (none)) else (none)) else (none)) else (none)) else (impl_partsOfBolts.l0 k x3 x9 x10 (wrap64 (x11 + 1)))
end
def impl_partsOfBolts.f (k : Nat) (l0 : List (S50)) : Option ((List (S57))) := impl_partsOfBolts.l0 k (([] : List (S57))) l0 (l0.length : Int) 0
theorem impl_partsOfBolts.mono_l : ∀ k, (∀ y0 y1 y2 y3, LeO (impl_partsOfBolts.l0 k y0 y1 y2 y3) (impl_partsOfBolts.l0 (k + 1) y0 y1 y2 y3)) ∧ (∀ y0 y1 y2 y3 y4 y5 y6 y7, LeO (impl_partsOfBolts.l1 k y0 y1 y2 y3 y4 y5 y6 y7) (impl_partsOfBolts.l1 (k + 1) y0 y1 y2 y3 y4 y5 y6 y7))
 | 0 => ⟨fun _ _ _ _ r h => by simp [impl_partsOfBolts.l0] at h, fun _ _ _ _ _ _ _ _ r h => by simp [impl_partsOfBolts.l1] at h⟩
 | k + 1 => by
  obtain ⟨ih0, ih1⟩ := impl_partsOfBolts.mono_l k
  refine ⟨?_, ?_⟩
  ·intro y0 y1 y2 y3
   unfold impl_partsOfBolts.l0
   repeat' with_reducible first | exact ih0 _ _ _ _ | exact ih1 _ _ _ _ _ _ _ _ | exact impl_soundParts.mono _ _ _ | exact LeO.refl _ | exact LeO.none _ | refine LeO.ite ?_ ?_ | refine LeO.bind ?_ (fun _ => ?_)
  ·intro y0 y1 y2 y3 y4 y5 y6 y7
   unfold impl_partsOfBolts.l1
   repeat' with_reducible first | exact ih0 _ _ _ _ | exact ih1 _ _ _ _ _ _ _ _ | exact impl_soundParts.mono _ _ _ | exact LeO.refl _ | exact LeO.none _ | refine LeO.ite ?_ ?_ | refine LeO.bind ?_ (fun _ => ?_)
theorem impl_partsOfBolts.mono : ∀ a0 k, LeO (impl_partsOfBolts.f k a0) (impl_partsOfBolts.f (k + 1) a0) := by
 intro a0 k; obtain ⟨ih0, ih1⟩ := impl_partsOfBolts.mono_l k; unfold impl_partsOfBolts.f; repeat' with_reducible first | exact ih0 _ _ _ _ | exact ih1 _ _ _ _ _ _ _ _ | exact impl_soundParts.mono _ _ _ | exact LeO.refl _ | exact LeO.none _ | refine LeO.ite ?_ ?_ | refine LeO.bind ?_ (fun _ => ?_)
def impl_partsOfBolts.T8 : Bool × List (List Nat × List Nat) := (true, [([], []), ([], []), ([], []), ([2], [2]), ([3], [3]), ([], []), ([5], [5]), ([6], [6]), ([1, 4, 7], [1, 4, 7]), ([8], [8]), ([0, 9], [0, 9]), ([10, 10, 0, 1, 2, 3, 4, 5, 6, 7, 8, 9, 10], [0, 10])])
def impl_partsOfBolts.B8 : List Nat := [0, 0, 0, 4, 12, 0, 32, 96, 254, 510, 1023, 2047]
theorem impl_partsOfBolts.tab8 : rtab .any (opsOf Tryd.f25 8) = impl_partsOfBolts.T8 := by kernel_rfl
theorem impl_partsOfBolts.bits8 : waitsOk impl_partsOfBolts.T8.2 impl_partsOfBolts.B8 = true := by kernel_rfl
set_option maxHeartbeats 8000000 in
set_option maxRecDepth 100000 in
theorem impl_partsOfBolts.calls (k : Nat) (A0 : Option Addr) (c0 : Nat) (l0 : List (S50)) (r : List (S57)) (w : World) (hr0 : Kd.C k50 w A0 l0.length l0) (hc0 : l0.length ≤ c0) (h : impl_partsOfBolts.f k l0 = some r) :
  Calls Tryd.prog 25 #[.slice A0 l0.length c0] w fun e w' => ∃ v0_ : Value, e = .returned (v0_) ∧ Kd.R k57 57 w' w.heap.size (fun _ => True) v0_ r ∧ Below w.heap.size w w' := by
 have hu50 := Tryd.underlying50; have hu57 := Tryd.underlying57; have HR0 := Aside0.mk hr0; have HC0 := Aside0.mk hc0; clear hr0 hc0; have HB := Aside0.mk (Below.refl w.heap.size w); have H : (impl_partsOfBolts.l0 k (([] : List (S57))) l0 (l0.length : Int) 0) = some r := h; clear h; obtain ⟨y130, hy130⟩ : ∃ y_ : List (S57), y_ = (([] : List (S57))) := ⟨_, rfl⟩; (replace H : (impl_partsOfBolts.l0 k y130 l0 (l0.length : Int) 0) = some r := by first | (rw [hy130]; with_reducible exact H) | (have H2_ := (Option.bind_some _ _).symm.trans H; rw [hy130]; with_reducible exact H2_) | (have H2_ := (Option.bind_some _ _).symm.trans H; with_reducible exact H2_) | with_reducible exact H | (rw [hy130]; exact H) | exact H); have Ny130 := Aside0.mk hy130; clear hy130; have H' := Aside0.mk H; clear H; (go_enter Tryd.func25, Tryd.ntmps25); (go_wp2_with (first | ((with_reducible refine gate_dst (N := 8) rfl ?_); refine Kd.R_lit k57 _ 57 ?hg (N := 8) ?hd (xs := ([] : List (S57))) (inner := []) (ok := fun _ => True) (okp := fun _ => True) ?hr ?hp (fun _ hk => hk) trivial (Below.refl _ _) (Nat.le_refl _) (by simp) ?_; (case hd => rfl); (case hg => rfl); (case hr => first | (go_simp; done) | (go_simp; rfl)); (case hp => exact (Reps.none _ _)); intro v131 w2 ho3 hb hg_ hnew_; clear hg_ hnew_; (first | rw [← Ny130.out] at ho3 | (simp only [Int.reduceToNat] at ho3; rw [← Ny130.out] at ho3)); have HO132 := Aside0.mk (Kd.R_lower ho3 (below_size (pR HB))); replace HB := pS HB hb; clear hb ho3))); go_loopg [3, 11] k (fun kq v3 v11 w' => ∃ (x3_1 : List (S57)) (x11_1 : Int), v11 = .int .i64 x11_1 ∧ Aside0 (impl_partsOfBolts.l0 kq x3_1 l0 (l0.length : Int) x11_1 = some r) ∧ Aside0 (kq ≤ k) ∧ Aside0 (Kd.R k57 57 w' w.heap.size (fun _ => True) v3 x3_1) ∧ Aside0 (Below w.heap.size w w'))
 case atStart => exact ⟨(y130), (0), zF, H', ⟨Nat.le_refl _⟩, ⟨by refine zR ?_; exact HO132.out⟩, ⟨pR HB⟩⟩
 case round =>
  clear H'; (try clear c2); (try clear p2); obtain ⟨x3_1, x11_1, rfl, HA, HK1, HO_3, HB⟩ := hrel
  cases gk with
  | zero => exact absurd HA.out (by simp [impl_partsOfBolts.l0])
  | succ k1 =>
   have H := HA.out; clear HA; simp only [impl_partsOfBolts.l0] at H; by_cases c4 : x11_1 < (l0.length : Int)
   ·rw [if_pos c4] at H; have c4b0 : decide (x11_1 < (l0.length : Int)) = true := decide_eq_true c4; clear c4; by_cases c5 : 0 ≤ x11_1
    ·rw [if_pos c5] at H; have c5b0 : decide (0 ≤ x11_1) = true := decide_eq_true c5; clear c5; by_cases c6 : x11_1 < (l0.length : Int)
     ·rw [if_pos c6] at H; have c6b0 : decide (x11_1 < (l0.length : Int)) = true := decide_eq_true c6; clear c6; replace H := Option.bind_eq_some_iff.mp H; obtain ⟨t135, A70, H⟩ := H; (try dsimp only at H); have A7 := Aside0.mk A70; clear A70; have H' := Aside0.mk H; clear H; have p133 : 0 ≤ (x11_1 : Int) := of_decide_eq_true (by first | (with_reducible assumption) | assumption); have q133 : x11_1 < (l0.length : Int) := of_decide_eq_true (by first | (with_reducible assumption) | assumption); obtain ⟨ad133, A133_1, c133_1, e133, hx133_0, hx133_1, hl133_1, hi133_1⟩ := at_T50 HR0.out x11_1 p133 q133
      cases e133
      replace hx133_0 := bC HB hx133_0; replace hx133_1 := bC HB hx133_1; have HR133_1 := Aside0.mk hi133_1; have HC133_1 := Aside0.mk hl133_1; clear hi133_1 hl133_1; replace p133 := eq_true p133; replace q133 := eq_true q133; (go_wp2_with (first | ((with_reducible refine gate_dst (N := 5) rfl ?_); refine box_event ?hg (N := 5) ?hd (cs := #[.int .i64 0, .slice none 0 0]) (t := 50) ?hr ?_; (case hd => rfl); (case hg => rfl); (case hr => first | (go_simp; done) | (go_simp; rfl)); intro gb134 hg w8 hbox hb; replace HO_3 := zLR HO_3 hb; have BK134 := Aside0.mk (hbox); have GW134 := pG HB hg; have GE134 := pG HB hg; replace HB := pS HB hb; clear hb hbox hg; obtain ⟨hcz9_0, hcz9_1, hfz9_0, hfz9_1⟩ := cz2 BK134) | ((with_reducible refine gate_callee (f := 43) rfl ?_); refine goesL_ (some 17) rfl rfl Tryd.func43 (by kernel_rfl) rfl #[.agg #[.int .i64 ((rd_T50 l0 x11_1).f0), .slice A133_1 ((rd_T50 l0 x11_1).f1).length c133_1]] rfl zM ?_; (with_reducible refine (impl_soundParts.calls k1 ((rd_T50 l0 x11_1).f0) _ _ ((rd_T50 l0 x11_1).f1) t135 _ ?side1 ?side2 A7.out).mono ?_); (case side1 => exact Kd.C_below HR133_1.out (pR HB)); (case side2 => exact HC133_1.out); rintro e w10 ⟨v136, rfl, ho0, hb⟩; refine ⟨_, rfl, ?_⟩; replace HO_3 := Aside0.mk (Kd.R_below (by refine zR ?_; exact (Kd.R_mono (Kd.R_far (p := ⟨gb134, 1, none⟩) (Kd.R_far (p := ⟨gb134, 0, none⟩) (Kd.R_types HO_3.out BK134.out (by decide)) (fun _ hk => hk.2) (.int .i64 ((rd_T50 l0 x11_1).f0))) (fun _ hk => hk.2) (.slice A133_1 ((rd_T50 l0 x11_1).f1).length c133_1)) (fun _ h_ => h_.1))) hb); have HO137 := Aside0.mk (Kd.S_lower ho0 (below_size (pR HB))); replace BK134 := Aside0.mk (blk_below (g := gb134) (o := .cells #[.int .i64 ((rd_T50 l0 x11_1).f0), .slice A133_1 ((rd_T50 l0 x11_1).f1).length c133_1] 50 (0, 0)) (by refine zB ?_; refine blk_put (cs := #[.int .i64 ((rd_T50 l0 x11_1).f0), .slice none 0 0]) ?_ 1 _ rfl; refine zB ?_; refine blk_put (cs := #[.int .i64 0, .slice none 0 0]) ?_ 0 _ rfl; refine zB ?_; exact BK134.out) hb); replace HB := pS HB hb; (try clear hb ho0); obtain ⟨Ao11, co11, eo11⟩ := Kd.S_slice HO137.out; subst eo11))); go_loopg [3, 19] k1 (fun kq v3 v19 w' => ∃ (x3_2 : List (S57)) (x19_2 : Int), v19 = .int .i64 x19_2 ∧ Aside0 (impl_partsOfBolts.l1 kq x3_2 x11_1 l0 (l0.length : Int) x11_1 t135 (t135.length : Int) x19_2 = some r) ∧ Aside0 (kq ≤ k1) ∧ Aside0 (Kd.R k57 57 w' w.heap.size (fun _ => True) v3 x3_2) ∧ Aside0 (Kd.S (Kd.slice 2 (Kd.int .i64)) 25 w' w.heap.size (fun _ => True) (.slice Ao11 t135.length co11) t135) ∧ Aside0 (w'.heap[gb134]? = some (.cells #[.int .i64 ((rd_T50 l0 x11_1).f0), (.slice A133_1 ((rd_T50 l0 x11_1).f1).length c133_1)] 50 (0, 0))) ∧ Aside0 (Below w.heap.size w w'))
      case atStart => exact ⟨(x3_1), (0), zF, H', ⟨Nat.le_refl _⟩, ⟨by refine zR ?_; exact HO_3.out⟩, ⟨by refine zS ?_; exact HO137.out⟩, ⟨by refine zB ?_; exact BK134.out⟩, ⟨pR HB⟩⟩
      case round =>
       clear H'; (try clear c1); (try clear p1); (try clear q1); (try clear hx1); (try clear c2); (try clear p2); (try clear c4); (try clear c4b0); (try clear c5); (try clear c5b0); (try clear c6); (try clear c6b0); (try clear hcz9_0); (try clear hcz9_1); (try clear hfz9_0); (try clear hfz9_1); (try clear hx133_0); (try clear hx133_1); (try clear p133); (try clear p2); (try clear q133); obtain ⟨x3_2, x19_2, rfl, HA, HK2, HO_3, HO_17, BK134, HB⟩ := hrel
       cases gk with
       | zero => exact absurd HA.out (by simp [impl_partsOfBolts.l1])
       | succ k2 =>
        have H := HA.out; clear HA; simp only [impl_partsOfBolts.l1] at H; by_cases c12 : x19_2 < (t135.length : Int)
        ·rw [if_pos c12] at H; have c12b0 : decide (x19_2 < (t135.length : Int)) = true := decide_eq_true c12; clear c12; by_cases c13 : 0 ≤ x19_2
         ·rw [if_pos c13] at H; have c13b0 : decide (0 ≤ x19_2) = true := decide_eq_true c13; clear c13; by_cases c14 : x19_2 < (t135.length : Int)
          ·rw [if_pos c14] at H; have c14b0 : decide (x19_2 < (t135.length : Int)) = true := decide_eq_true c14; clear c14; by_cases c15 : 0 < ((rd_L1 t135 x19_2).length : Int)
           ·rw [if_pos c15] at H; have c15b0 : decide (0 < ((rd_L1 t135 x19_2).length : Int)) = true := decide_eq_true c15; have c15b1 : decide (0 < (rd_L1 t135 x19_2).length) = true := decide_eq_true (by omega); clear c15; by_cases c16 : 1 < ((rd_L1 t135 x19_2).length : Int)
            ·rw [if_pos c16] at H; have c16b0 : decide (1 < ((rd_L1 t135 x19_2).length : Int)) = true := decide_eq_true c16; have c16b1 : decide (1 < (rd_L1 t135 x19_2).length) = true := decide_eq_true (by omega); clear c16; by_cases c17 : x3_2.length < 5864062014805
             ·rw [if_pos c17] at H; have LMc17 := Aside0.mk c17; clear c17; obtain ⟨y141, hy141⟩ : ∃ y_ : List (S57), y_ = (x3_2 ++ [(⟨x11_1, rd (rd_L1 t135 x19_2) 0, rd (rd_L1 t135 x19_2) 1⟩ : S57)]) := ⟨_, rfl⟩; (replace H : (impl_partsOfBolts.l1 k2 y141 x11_1 l0 (l0.length : Int) x11_1 t135 (t135.length : Int) (wrap64 (x19_2 + 1))) = some r := by first | (rw [hy141]; with_reducible exact H) | (have H2_ := (Option.bind_some _ _).symm.trans H; rw [hy141]; with_reducible exact H2_) | (have H2_ := (Option.bind_some _ _).symm.trans H; with_reducible exact H2_) | with_reducible exact H | (rw [hy141]; exact H) | exact H); have Ny141 := Aside0.mk hy141; clear hy141; have H' := Aside0.mk H; clear H; have p138 : 0 ≤ (x19_2 : Int) := of_decide_eq_true (by first | (with_reducible assumption) | assumption); have q138 : x19_2 < (t135.length : Int) := of_decide_eq_true (by first | (with_reducible assumption) | assumption); obtain ⟨ad138, A138_0, c138_0, e138, hx138_0, hl138_0, hi138_0⟩ := at_L1 (Kd.S_reads' HO_17.out).2.2 x19_2 p138 q138
              cases e138
              obtain ⟨ce138, hce138, hMe138, hcc138⟩ := Kd.S_get HO_17.out [] x19_2 p138 (by first | exact q138 | exact of_decide_eq_true (by first | (with_reducible assumption) | assumption) | (have e_ := (Kd.S_reads' HO_17.out).1; omega)); obtain ⟨ve138_0, rfl, ge138_0⟩ := hMe138; have hv138_0 := hcc138 0 _ rfl; rw [Nat.add_zero, show ((Kd.slice 2 (Kd.int .i64))).sz = 1 from rfl, Nat.mul_one] at hv138_0; replace hv138_0 := Option.some.inj (hv138_0.symm.trans hx138_0); rw [hv138_0] at ge138_0; have HL138_0 := Aside0.mk (show Kd.R (Kd.int .i64) 2 _ _ _ _ (rd_L1 t135 x19_2) from ge138_0); clear hv138_0 ge138_0; clear hcc138 hce138; have HR138_0 := Aside0.mk hi138_0; have HC138_0 := Aside0.mk hl138_0; clear hi138_0 hl138_0; replace p138 := eq_true p138; replace q138 := eq_true q138; (try go_wp2); replace HO_3 := Aside0.mk (Kd.R_drew HO_3.out); replace HO_17 := Aside0.mk (Kd.S_drew HO_17.out); replace HL138_0 := Aside0.mk (Kd.R_drew HL138_0.out); replace BK134 := Aside0.mk (blk_drew BK134.out); replace HR138_0 := Aside0.mk (Kd.C_drew HR138_0.out); replace HB := Aside0.mk (below_drew1 HB.out); have p139 : 0 ≤ (0 : Int) := (by omega); have q139 : 0 < ((rd_L1 t135 x19_2).length : Int) := of_decide_eq_true (by first | (with_reducible assumption) | assumption); obtain ⟨ad139, e139, hx139_0⟩ := Kd.at_int (by repeat (first | (with_reducible exact HR138_0.out) | (with_reducible refine Kd.C_alloc ?_ _) | (with_reducible refine Kd.C_drewN ?_ _) | (with_reducible refine Kd.C_drew ?_) | exact HR138_0.out)) 0 p139 q139
              cases e139
              have qi139 : (0 < (rd_L1 t135 x19_2).length) = True := eq_true (by omega); (try rw [show ((0 : Int)).toNat = 0 from rfl] at hx139_0); (try rw [Addr.add_zero'] at hx139_0); replace p139 := eq_true p139; replace q139 := eq_true q139; have p140 : 0 ≤ (1 : Int) := (by omega); have q140 : 1 < ((rd_L1 t135 x19_2).length : Int) := of_decide_eq_true (by first | (with_reducible assumption) | assumption); obtain ⟨ad140, e140, hx140_0⟩ := Kd.at_int (by repeat (first | (with_reducible exact HR138_0.out) | (with_reducible refine Kd.C_alloc ?_ _) | (with_reducible refine Kd.C_drewN ?_ _) | (with_reducible refine Kd.C_drew ?_) | exact HR138_0.out)) 1 p140 q140; obtain rfl : ad139 = ad140 := (by injection e140); (try simp only [show (1 : Int).toNat = 1 from rfl, Nat.reduceMul, Nat.reduceEqDiff, Go.Addr.add, ↓reduceIte] at hx140_0); have qi140 : (1 < (rd_L1 t135 x19_2).length) = True := eq_true (by omega); (try rw [show ((1 : Int)).toNat = 1 from rfl] at hx140_0); replace p140 := eq_true p140; replace q140 := eq_true q140; refine start_ (n := 12) (S := fun w' => w'.cell? ad139 = some (.int .i64 (rd (rd_L1 t135 x19_2) 0)) ∧ w'.cell? ⟨ad139.block, ad139.off + 1, none⟩ = some (.int .i64 (rd (rd_L1 t135 x19_2) 1))) (ds := [9, 10]) #[F,F,F,F,F,F,F,F,F,F,F,F] (by kernel_rfl) rfl rfl ⟨hx139_0, hx140_0⟩ (fun hHeld => ?_); refine with_tabW impl_partsOfBolts.tab8 impl_partsOfBolts.bits8 (fun HT_ HW_ => ?_); generalize wr.drew = w18 at HO_3 HO_17 HL138_0 BK134 HR138_0 HB hx139_0 hx140_0 hHeld ⊢; refine pV (i := 0) (N := some 23) #[T,F,F,F,F,F,F,F,F,F,F,F] HT_ ?_; refine pV (i := 1) (N := some 24) #[T,T,F,F,F,F,F,F,F,F,F,F] HT_ ?_; refine pV (i := 2) (N := some 25) #[T,T,T,F,F,F,F,F,F,F,F,F] HT_ ?_; refine pV (i := 3) (N := some 26) #[T,T,T,T,F,F,F,F,F,F,F,F] HT_ ?_; refine pV (i := 5) (N := some 28) #[T,T,T,T,F,T,F,F,F,F,F,F] HT_ ?_; refine pV (i := 6) (N := some 29) #[T,T,T,T,F,T,T,F,F,F,F,F] HT_ ?_; refine tV (i := 4) (N := some 27) #[T,T,T,T,T,T,T,F,F,F,F,F] rfl rfl HT_ HW_ hHeld (by rintro w' ⟨s0, s1⟩; go_simp; with_reducible rfl) ?_; refine tV (i := 7) (N := some 30) #[T,T,T,T,T,T,T,T,F,F,F,F] rfl rfl HT_ HW_ hHeld (by rintro w' ⟨s0, s1⟩; go_simp; with_reducible rfl) ?_; refine pV (i := 8) (N := some 31) #[T,T,T,T,T,T,T,T,T,F,F,F] HT_ ?_; refine last_ (i := 9) (N := some 32) #[T,T,T,T,T,T,T,T,T,T,F,F] rfl rfl (one_of HT_.out (by kernel_rfl)) (by decide) (fun K hK => ?_); refine value_ (w1 := ?_) (v := ?_) (by rfl) rfl ?_ ?_; rotate_left 2
              ·(go_simp); constructor
               ·rfl
               ·rfl
              refine hK.out _ _ ?_; clear hK K; refine norm_ (a' := ?_) ?_ ?_; rotate_left
              ·(show Act.put _ (some 32) _ = _); simp only [NS]; rfl
              refine last_ (i := 10) (N := some 33) #[T,T,T,T,T,T,T,T,T,T,T,F] rfl rfl (one_of HT_.out (by kernel_rfl)) (by decide) (fun K hK => ?_); refine Kd.R_append_step k57 (w0 := w) w.heap.size (by rfl) (.tmp 23) (.tmp 32) 53 57 (.agg #[(.int .i64 0), (.int .i64 0), (.int .i64 0)]) 24 rfl Tryd.underlying53 info57 rfl (by decide) (by omega) u3 x3_2 (⟨x11_1, rd (rd_L1 t135 x19_2) 0, rd (rd_L1 t135 x19_2) 1⟩ : S57) [.int .i64 x11_1, .int .i64 (rd (rd_L1 t135 x19_2) 0), .int .i64 (rd (rd_L1 t135 x19_2) 1)] (fun _ => True) (fun _ => False) rfl rfl ?aP (fun _ hk => hk.elim) ?aF ?aO ?aB ?aS ?aL ?_; (case aP => exact k57_mkM _ _ _ (⟨x11_1, rd (rd_L1 t135 x19_2) 0, rd (rd_L1 t135 x19_2) 1⟩ : S57)); (case aB => exact (pR HB)); (case aF => exact (fun _ _ => trivial)); (case aO => exact (by refine zR ?_; exact HO_3.out)); (case aS => exact (below_size (pR HB))); (case aL => have := LMc17.out; omega); intro v142 w19 ho hb hg hat; rw [← Ny141.out] at ho; replace HO_17 := Aside0.mk (Kd.S_over' (by refine zS ?_; exact HO_17.out) (Kd.R_typed (by refine zR ?_; exact HO_3.out)) (by decide) hg); replace BK134 := Aside0.mk (blk_grown (g := gb134) (o := .cells #[.int .i64 ((rd_T50 l0 x11_1).f0), .slice A133_1 ((rd_T50 l0 x11_1).f1).length c133_1] 50 (0, 0)) (by refine zB ?_; exact BK134.out) hg (Kd.R_ne HO_3.out BK134.out (by decide))); replace HL138_0 := Aside0.mk (Kd.R_over' (by refine zR ?_; exact HL138_0.out) (Kd.R_typed (by refine zR ?_; exact HO_3.out)) (by decide) hg); replace HB := Aside0.mk (hb); have HO143 := Aside0.mk (ho); clear HO_3; clear ho hb hg hat; refine hK.out _ _ ?_; clear hK K; refine norm_ (a' := ?_) ?_ ?_; rotate_left
              ·(show Act.put _ (some 33) _ = _); simp only [NS]; rfl
              refine pV (i := 11) (N := some 3) #[T,T,T,T,T,T,T,T,T,T,T,T] HT_ ?_; refine done_ (done_of HT_.out (by kernel_rfl)) ?_; (try go_wp2); go_roundg k2
              case measure => have := HK1.out; have := HK2.out; omega
              case rel => exact ⟨(y141), (wrap64 (x19_2 + 1)), zF, H', ⟨by have := HK1.out; have := HK2.out; omega⟩, ⟨by refine zR ?_; exact HO143.out⟩, ⟨by refine zS ?_; exact HO_17.out⟩, ⟨by refine zB ?_; exact BK134.out⟩, ⟨pR HB⟩⟩
             ·rw [if_neg c17] at H; exact absurd H (by simp)
            ·rw [if_neg c16] at H; exact absurd H (by simp)
           ·rw [if_neg c15] at H; exact absurd H (by simp)
          ·rw [if_neg c14] at H; exact absurd H (by simp)
         ·rw [if_neg c13] at H; exact absurd H (by simp)
        ·rw [if_neg c12] at H; have c12b0 : decide (x19_2 < (t135.length : Int)) = false := decide_eq_false c12; clear c12; have H' := Aside0.mk H; clear H; (go_wp2); go_roundg k2
         case measure => have := HK1.out; have := HK2.out; omega
         case rel => exact ⟨(x3_2), (wrap64 (x11_1 + 1)), zF, H', ⟨by have := HK1.out; have := HK2.out; omega⟩, ⟨by refine zR ?_; exact HO_3.out⟩, ⟨pR HB⟩⟩
     ·rw [if_neg c6] at H; exact absurd H (by simp)
    ·rw [if_neg c5] at H; exact absurd H (by simp)
   ·rw [if_neg c4] at H; have c4b0 : decide (x11_1 < (l0.length : Int)) = false := decide_eq_false c4; clear c4; obtain rfl := Option.some.inj H; simp only [Option.some.injEq, Prod.mk.injEq] at H; obtain ⟨rfl⟩ := H; (go_wp2); (go_ret); exact ⟨_, zE, by refine zR ?_; exact HO_3.out, pR HB⟩

-- NOT PRINTED: function 29 (impl_boltSearch_count)

/-! ### strconv_Itoa: function 53, by the kit's shelf -/
def Tab (w : World) : Prop := Lib.TabIs Tryd.prog w "internal/strconv.uint64pow10" .u64 Lib.pow10Tab
theorem tabB {w w' : World} (h : Tab w) (hb : Below w.heap.size w w') : Tab w' := by
 unfold Tab Lib.TabIs World.var? at h ⊢; obtain ⟨g, hg, h1⟩ := Option.bind_eq_some_iff.1 h; rw [hg, Option.bind_some, hb.block g (Nat.lt_of_not_le fun hn => by rw [Array.getElem?_eq_none hn] at h1; cases h1)]; exact h1
theorem tab_pow {w : World} (h : Tab w) : Lib.TabIs Tryd.prog w "internal/strconv.uint64pow10" .u64 Lib.pow10Tab := h
def strconv_Itoa.f (a0 : Int) : Option (ByteArray) := if -9223372036854775808 ≤ a0 ∧ a0 ≤ 9223372036854775807 then some ⟨(Lib.itoa a0).toArray⟩ else none
theorem strconv_Itoa.calls (a0 : Int) (r : ByteArray) (w : World) (ht : Tab w) (h : strconv_Itoa.f a0 = some r) :
 Calls Tryd.prog 53 #[.int .i64 a0] w fun e w' => e = .returned (.string r) ∧ Below w.heap.size w w' := by
 unfold strconv_Itoa.f at h; split at h
 ·rename_i hc; obtain ⟨h0, h1⟩ := hc; obtain rfl := Option.some.inj h; refine (Tryd.strconv_Itoa a0 h0 h1 w (tab_pow ht)).mono ?_; rintro e w' ⟨rfl, k, os, rfl⟩; exact ⟨rfl, ⟨rfl, rfl, rfl, by simp [Sort.grow], fun i hi => by simp [Sort.grow, Array.getElem?_append, hi]⟩⟩
 ·cases h

/-! ### strconv_FormatInt: function 58, by the kit's shelf -/
def strconv_FormatInt.f (a0 : Int) (a1 : Int) : Option (ByteArray) := if a1 = 10 ∧ -9223372036854775808 ≤ a0 ∧ a0 ≤ 9223372036854775807 then some ⟨(Lib.itoa a0).toArray⟩ else none
theorem strconv_FormatInt.calls (a0 : Int) (a1 : Int) (r : ByteArray) (w : World) (ht : Tab w) (h : strconv_FormatInt.f a0 a1 = some r) :
 Calls Tryd.prog 58 #[.int .i64 a0, .int .i64 a1] w fun e w' => e = .returned (.string r) ∧ Below w.heap.size w w' := by
 unfold strconv_FormatInt.f at h; split at h
 ·rename_i hc; obtain ⟨rfl, h0, h1⟩ := hc; obtain rfl := Option.some.inj h; refine (Tryd.strconv_FormatInt_10 a0 h0 h1 w (tab_pow ht)).mono ?_; rintro e w' ⟨rfl, k, os, rfl⟩; exact ⟨rfl, ⟨rfl, rfl, rfl, by simp [Sort.grow], fun i hi => by simp [Sort.grow, Array.getElem?_append, hi]⟩⟩
 ·cases h

/-! ### impl_Decimal: function 54 -/
def impl_Decimal.f (a0 : Int) : Option (ByteArray) := (strconv_FormatInt.f a0 10).bind fun t144 => (some t144)
set_option maxHeartbeats 8000000 in
set_option maxRecDepth 100000 in
theorem impl_Decimal.calls (a0 : Int) (r : ByteArray) (w : World) (ht : Tab w) (h : impl_Decimal.f a0 = some r) :
  Calls Tryd.prog 54 #[.int .i64 a0] w fun e w' => e = .returned (.string r) ∧ Below w.heap.size w w' := by
 have HTAB := Aside0.mk ht; clear ht; have HB := Aside0.mk (Below.refl w.heap.size w); have H : ((strconv_FormatInt.f a0 10).bind fun t144 => (some t144)) = some r := h; clear h; replace H := Option.bind_eq_some_iff.mp H; obtain ⟨t144, A20, H⟩ := H; (try dsimp only at H); have A2 := Aside0.mk A20; clear A20; obtain rfl := Option.some.inj H; simp only [Option.some.injEq, Prod.mk.injEq] at H; obtain ⟨rfl⟩ := H; (go_enter Tryd.func54, Tryd.ntmps54); (go_wp2_with (first | ((with_reducible refine gate_callee (f := 58) rfl ?_); refine goesL_ (some 4) rfl rfl Tryd.func58 (by kernel_rfl) rfl #[.int .i64 a0, .int .i64 10] rfl zM ?_; (with_reducible refine (strconv_FormatInt.calls a0 10 t144 _ ?side1 A2.out).mono ?_); (case side1 => exact tabB HTAB.out (pR HB)); rintro e w3 ⟨rfl, hb⟩; refine ⟨_, rfl, ?_⟩; replace HB := pS HB hb; (try clear hb)))); (go_ret); exact ⟨zE, pR HB⟩

-- NOT PRINTED: function 44 (impl_boltSearch_key)

-- NOT PRINTED: function 28 (impl_boltSearch_place)

end Go.Proofs.YtendpecnfaojkaaDoor.PFnExactFewestBolts
