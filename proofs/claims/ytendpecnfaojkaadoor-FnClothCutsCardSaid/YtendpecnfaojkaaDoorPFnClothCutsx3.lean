-- Written by a program of this session (wip/tools/pp.sh).
import Derived.Test.YtendpecnfaojkaaDoorPFnClothCutsx0
import Derived.Test.YtendpecnfaojkaaDoorPFnClothCutsx2
namespace Go.Proofs.YtendpecnfaojkaaDoor.PFnClothCuts
open Go.RowKit Go.Proofs.YtendpecnfaojkaaDoorW.PrintWords Go.Proofs.YtendpecnfaojkaaDoorW.PrintLast Go.Proofs.YtendpecnfaojkaaDoorW.PrintMore Go.Proofs.YtendpecnfaojkaaDoor.Small
open Bool renaming true → T, false → F
attribute [local go_sem] max2_int min2_int max_two min_two max_three min_three max_four min_four   -- for this text's walks alone
set_option linter.unusedVariables false
set_option linter.unusedSimpArgs false

/-! ### impl_partsOfBolts: function 25 -/
mutual
def impl_partsOfBolts.l0 : Nat → List (S57) → List (S50) → Int → Int → Option ((List (S57)))
 | 0, _, _, _, _ => none
 | k + 1, x3, x9, x10, x11 => if x11 < x10 then (if 0 ≤ x11 then (if x11 < (x9.length : Int) then ((impl_soundParts.f k ((rd_T50 x9 x11).f0) ((rd_T50 x9 x11).f1)).bind fun t191 => (impl_partsOfBolts.l1 k x3 x11 x9 x10 x11 t191 (t191.length : Int) 0)) else (none)) else (none)) else (some x3)
def impl_partsOfBolts.l1 : Nat → List (S57) → Int → List (S50) → Int → Int → List (List Int) → Int → Int → Option ((List (S57)))
 | 0, _, _, _, _, _, _, _, _ => none
 | k + 1, x3, x4, x9, x10, x11, x17, x18, x19 => if x19 < x18 then (if 0 ≤ x19 then (if x19 < (x17.length : Int) then (if 0 < ((rd_L2 x17 x19).length : Int) then (if 1 < ((rd_L2 x17 x19).length : Int) then (if x3.length < 5864062014805 then (impl_partsOfBolts.l1 k (x3 ++ [(⟨x4, rd (rd_L2 x17 x19) 0, rd (rd_L2 x17 x19) 1⟩ : S57)]) x4 x9 x10 x11 x17 x18 (wrap64 (x19 + 1))) else (none)) else (none)) else (none)) else (none)) else (none)) else (impl_partsOfBolts.l0 k x3 x9 x10 (wrap64 (x11 + 1)))
end
def impl_partsOfBolts.f (k : Nat) (l0 : List (S50)) : Option ((List (S57))) := impl_partsOfBolts.l0 k (([] : List (S57))) l0 (l0.length : Int) 0
theorem impl_partsOfBolts.mono_l : ∀ k, (∀ y0 y1 y2 y3, LeO (impl_partsOfBolts.l0 k y0 y1 y2 y3) (impl_partsOfBolts.l0 (k + 1) y0 y1 y2 y3)) ∧ (∀ y0 y1 y2 y3 y4 y5 y6 y7, LeO (impl_partsOfBolts.l1 k y0 y1 y2 y3 y4 y5 y6 y7) (impl_partsOfBolts.l1 (k + 1) y0 y1 y2 y3 y4 y5 y6 y7))
 | 0 => ⟨fun _ _ _ _ r h => by simp [impl_partsOfBolts.l0] at h, fun _ _ _ _ _ _ _ _ r h => by simp [impl_partsOfBolts.l1] at h⟩
 | k + 1 => by
  obtain ⟨ih0, ih1⟩ := impl_partsOfBolts.mono_l k
  refine ⟨?_, ?_⟩
  ·intro y0 y1 y2 y3
   unfold impl_partsOfBolts.l0
   repeat' with_reducible first | exact ih0 _ _ _ _ | exact ih1 _ _ _ _ _ _ _ _ | exact impl_soundParts.mono _ _ _ | exact LeO.refl _ | exact LeO.none _ | refine LeO.ite ?_ ?_ | refine LeO.bind ?_ (fun _ => ?_)
  ·intro y0 y1 y2 y3 y4 y5 y6 y7
   unfold impl_partsOfBolts.l1
   repeat' with_reducible first | exact ih0 _ _ _ _ | exact ih1 _ _ _ _ _ _ _ _ | exact impl_soundParts.mono _ _ _ | exact LeO.refl _ | exact LeO.none _ | refine LeO.ite ?_ ?_ | refine LeO.bind ?_ (fun _ => ?_)
theorem impl_partsOfBolts.mono : ∀ a0 k, LeO (impl_partsOfBolts.f k a0) (impl_partsOfBolts.f (k + 1) a0) := by
 intro a0 k; obtain ⟨ih0, ih1⟩ := impl_partsOfBolts.mono_l k; unfold impl_partsOfBolts.f; repeat' with_reducible first | exact ih0 _ _ _ _ | exact ih1 _ _ _ _ _ _ _ _ | exact impl_soundParts.mono _ _ _ | exact LeO.refl _ | exact LeO.none _ | refine LeO.ite ?_ ?_ | refine LeO.bind ?_ (fun _ => ?_)
def impl_partsOfBolts.T8 : Bool × List (List Nat × List Nat) := (true, [([], []), ([], []), ([], []), ([2], [2]), ([3], [3]), ([], []), ([5], [5]), ([6], [6]), ([1, 4, 7], [1, 4, 7]), ([8], [8]), ([0, 9], [0, 9]), ([10, 10, 0, 1, 2, 3, 4, 5, 6, 7, 8, 9, 10], [0, 10])])
def impl_partsOfBolts.B8 : List Nat := [0, 0, 0, 4, 12, 0, 32, 96, 254, 510, 1023, 2047]
theorem impl_partsOfBolts.tab8 : rtab .any (opsOf Tryd.f25 8) = impl_partsOfBolts.T8 := by kernel_rfl
theorem impl_partsOfBolts.bits8 : waitsOk impl_partsOfBolts.T8.2 impl_partsOfBolts.B8 = true := by kernel_rfl
set_option maxHeartbeats 8000000 in
set_option maxRecDepth 100000 in
theorem impl_partsOfBolts.calls (k : Nat) (A0 : Option Addr) (c0 : Nat) (l0 : List (S50)) (r : List (S57)) (w : World) (hr0 : Kd.C k50 w A0 l0.length l0) (hc0 : l0.length ≤ c0) (h : impl_partsOfBolts.f k l0 = some r) :
  Calls Tryd.prog 25 #[.slice A0 l0.length c0] w fun e w' => ∃ v0_ : Value, e = .returned (v0_) ∧ Kd.R k57 57 w' w.heap.size (fun _ => True) v0_ r ∧ Below w.heap.size w w' := by
 have hu50 := Tryd.underlying50; have hu57 := Tryd.underlying57; have HR0 := Aside0.mk hr0; have HC0 := Aside0.mk hc0; clear hr0 hc0; have HB := Aside0.mk (Below.refl w.heap.size w); have H : (impl_partsOfBolts.l0 k (([] : List (S57))) l0 (l0.length : Int) 0) = some r := h; clear h; obtain ⟨y186, hy186⟩ : ∃ y_ : List (S57), y_ = (([] : List (S57))) := ⟨_, rfl⟩; (replace H : (impl_partsOfBolts.l0 k y186 l0 (l0.length : Int) 0) = some r := by first | (rw [hy186]; with_reducible exact H) | (have H2_ := (Option.bind_some _ _).symm.trans H; rw [hy186]; with_reducible exact H2_) | (have H2_ := (Option.bind_some _ _).symm.trans H; with_reducible exact H2_) | with_reducible exact H | (rw [hy186]; exact H) | exact H); have Ny186 := Aside0.mk hy186; clear hy186; have H' := Aside0.mk H; clear H; (go_enter Tryd.func25, Tryd.ntmps25); (go_wp2_with (first | ((with_reducible refine gate_dst (N := 8) rfl ?_); refine Kd.R_lit k57 _ 57 ?hg (N := 8) ?hd (xs := ([] : List (S57))) (inner := []) (ok := fun _ => True) (okp := fun _ => True) ?hr ?hp (fun _ hk => hk) trivial (Below.refl _ _) (Nat.le_refl _) (by simp) ?_; (case hd => rfl); (case hg => rfl); (case hr => first | (go_simp; done) | (go_simp; rfl)); (case hp => exact (Reps.none _ _)); intro v187 w2 ho3 hb hg_ hnew_; clear hg_ hnew_; (first | rw [← Ny186.out] at ho3 | (simp only [Int.reduceToNat] at ho3; rw [← Ny186.out] at ho3)); have HO188 := Aside0.mk (Kd.R_lower ho3 (below_size (pR HB))); replace HB := pS HB hb; clear hb ho3))); go_loopg [3, 11] k (fun kq v3 v11 w' => ∃ (x3_1 : List (S57)) (x11_1 : Int), v11 = .int .i64 x11_1 ∧ Aside0 (impl_partsOfBolts.l0 kq x3_1 l0 (l0.length : Int) x11_1 = some r) ∧ Aside0 (kq ≤ k) ∧ Aside0 (Kd.R k57 57 w' w.heap.size (fun _ => True) v3 x3_1) ∧ Aside0 (Below w.heap.size w w'))
 case atStart => exact ⟨(y186), (0), zF, H', ⟨Nat.le_refl _⟩, ⟨by refine zR ?_; exact HO188.out⟩, ⟨pR HB⟩⟩
 case round =>
  clear H'; (try clear c2); (try clear p2); obtain ⟨x3_1, x11_1, rfl, HA, HK1, HO_3, HB⟩ := hrel
  cases gk with
  | zero => exact absurd HA.out (by simp [impl_partsOfBolts.l0])
  | succ k1 =>
   have H := HA.out; clear HA; simp only [impl_partsOfBolts.l0] at H; by_cases c4 : x11_1 < (l0.length : Int)
   ·rw [if_pos c4] at H; have c4b0 : decide (x11_1 < (l0.length : Int)) = true := decide_eq_true c4; clear c4; by_cases c5 : 0 ≤ x11_1
    ·rw [if_pos c5] at H; have c5b0 : decide (0 ≤ x11_1) = true := decide_eq_true c5; clear c5; by_cases c6 : x11_1 < (l0.length : Int)
     ·rw [if_pos c6] at H; have c6b0 : decide (x11_1 < (l0.length : Int)) = true := decide_eq_true c6; clear c6; replace H := Option.bind_eq_some_iff.mp H; obtain ⟨t191, A70, H⟩ := H; (try dsimp only at H); have A7 := Aside0.mk A70; clear A70; have H' := Aside0.mk H; clear H; have p189 : 0 ≤ (x11_1 : Int) := of_decide_eq_true (by first | (with_reducible assumption) | assumption); have q189 : x11_1 < (l0.length : Int) := of_decide_eq_true (by first | (with_reducible assumption) | assumption); obtain ⟨ad189, A189_1, c189_1, e189, hx189_0, hx189_1, hl189_1, hi189_1⟩ := at_T50 HR0.out x11_1 p189 q189
      cases e189
      replace hx189_0 := bC HB hx189_0; replace hx189_1 := bC HB hx189_1; have HR189_1 := Aside0.mk hi189_1; have HC189_1 := Aside0.mk hl189_1; clear hi189_1 hl189_1; replace p189 := eq_true p189; replace q189 := eq_true q189; (go_wp2_with (first | ((with_reducible refine gate_dst (N := 5) rfl ?_); refine box_event ?hg (N := 5) ?hd (cs := #[.int .i64 0, .slice none 0 0]) (t := 50) ?hr ?_; (case hd => rfl); (case hg => rfl); (case hr => first | (go_simp; done) | (go_simp; rfl)); intro gb190 hg w8 hbox hb; replace HO_3 := zLR HO_3 hb; have BK190 := Aside0.mk (hbox); have GW190 := pG HB hg; have GE190 := pG HB hg; replace HB := pS HB hb; clear hb hbox hg; obtain ⟨hcz9_0, hcz9_1, hfz9_0, hfz9_1⟩ := cz2 BK190) | ((with_reducible refine gate_callee (f := 43) rfl ?_); refine goesL_ (some 17) rfl rfl Tryd.func43 (by kernel_rfl) rfl #[.agg #[.int .i64 ((rd_T50 l0 x11_1).f0), .slice A189_1 ((rd_T50 l0 x11_1).f1).length c189_1]] rfl zM ?_; (with_reducible refine (impl_soundParts.calls k1 ((rd_T50 l0 x11_1).f0) _ _ ((rd_T50 l0 x11_1).f1) t191 _ ?side1 ?side2 A7.out).mono ?_); (case side1 => exact Kd.C_below HR189_1.out (pR HB)); (case side2 => exact HC189_1.out); rintro e w10 ⟨v192, rfl, ho0, hb⟩; refine ⟨_, rfl, ?_⟩; replace HO_3 := Aside0.mk (Kd.R_below (by refine zR ?_; exact (Kd.R_mono (Kd.R_far (p := ⟨gb190, 1, none⟩) (Kd.R_far (p := ⟨gb190, 0, none⟩) (Kd.R_types HO_3.out BK190.out (by decide)) (fun _ hk => hk.2) (.int .i64 ((rd_T50 l0 x11_1).f0))) (fun _ hk => hk.2) (.slice A189_1 ((rd_T50 l0 x11_1).f1).length c189_1)) (fun _ h_ => h_.1))) hb); have HO193 := Aside0.mk (Kd.S_lower ho0 (below_size (pR HB))); replace BK190 := Aside0.mk (blk_below (g := gb190) (o := .cells #[.int .i64 ((rd_T50 l0 x11_1).f0), .slice A189_1 ((rd_T50 l0 x11_1).f1).length c189_1] 50 (0, 0)) (by refine zB ?_; refine blk_put (cs := #[.int .i64 ((rd_T50 l0 x11_1).f0), .slice none 0 0]) ?_ 1 _ rfl; refine zB ?_; refine blk_put (cs := #[.int .i64 0, .slice none 0 0]) ?_ 0 _ rfl; refine zB ?_; exact BK190.out) hb); replace HB := pS HB hb; (try clear hb ho0); obtain ⟨Ao11, co11, eo11⟩ := Kd.S_slice HO193.out; subst eo11))); go_loopg [3, 19] k1 (fun kq v3 v19 w' => ∃ (x3_2 : List (S57)) (x19_2 : Int), v19 = .int .i64 x19_2 ∧ Aside0 (impl_partsOfBolts.l1 kq x3_2 x11_1 l0 (l0.length : Int) x11_1 t191 (t191.length : Int) x19_2 = some r) ∧ Aside0 (kq ≤ k1) ∧ Aside0 (Kd.R k57 57 w' w.heap.size (fun _ => True) v3 x3_2) ∧ Aside0 (Kd.S (Kd.slice 2 (Kd.int .i64)) 25 w' w.heap.size (fun _ => True) (.slice Ao11 t191.length co11) t191) ∧ Aside0 (w'.heap[gb190]? = some (.cells #[.int .i64 ((rd_T50 l0 x11_1).f0), (.slice A189_1 ((rd_T50 l0 x11_1).f1).length c189_1)] 50 (0, 0))) ∧ Aside0 (Below w.heap.size w w'))
      case atStart => exact ⟨(x3_1), (0), zF, H', ⟨Nat.le_refl _⟩, ⟨by refine zR ?_; exact HO_3.out⟩, ⟨by refine zS ?_; exact HO193.out⟩, ⟨by refine zB ?_; exact BK190.out⟩, ⟨pR HB⟩⟩
      case round =>
       clear H'; (try clear c1); (try clear p1); (try clear q1); (try clear hx1); (try clear c2); (try clear p2); (try clear c4); (try clear c4b0); (try clear c5); (try clear c5b0); (try clear c6); (try clear c6b0); (try clear hcz9_0); (try clear hcz9_1); (try clear hfz9_0); (try clear hfz9_1); (try clear hx189_0); (try clear hx189_1); (try clear p189); (try clear p2); (try clear q189); obtain ⟨x3_2, x19_2, rfl, HA, HK2, HO_3, HO_17, BK190, HB⟩ := hrel
       cases gk with
       | zero => exact absurd HA.out (by simp [impl_partsOfBolts.l1])
       | succ k2 =>
        have H := HA.out; clear HA; simp only [impl_partsOfBolts.l1] at H; by_cases c12 : x19_2 < (t191.length : Int)
        ·rw [if_pos c12] at H; have c12b0 : decide (x19_2 < (t191.length : Int)) = true := decide_eq_true c12; clear c12; by_cases c13 : 0 ≤ x19_2
         ·rw [if_pos c13] at H; have c13b0 : decide (0 ≤ x19_2) = true := decide_eq_true c13; clear c13; by_cases c14 : x19_2 < (t191.length : Int)
          ·rw [if_pos c14] at H; have c14b0 : decide (x19_2 < (t191.length : Int)) = true := decide_eq_true c14; clear c14; by_cases c15 : 0 < ((rd_L2 t191 x19_2).length : Int)
           ·rw [if_pos c15] at H; have c15b0 : decide (0 < ((rd_L2 t191 x19_2).length : Int)) = true := decide_eq_true c15; have c15b1 : decide (0 < (rd_L2 t191 x19_2).length) = true := decide_eq_true (by omega); clear c15; by_cases c16 : 1 < ((rd_L2 t191 x19_2).length : Int)
            ·rw [if_pos c16] at H; have c16b0 : decide (1 < ((rd_L2 t191 x19_2).length : Int)) = true := decide_eq_true c16; have c16b1 : decide (1 < (rd_L2 t191 x19_2).length) = true := decide_eq_true (by omega); clear c16; by_cases c17 : x3_2.length < 5864062014805
             ·rw [if_pos c17] at H; have LMc17 := Aside0.mk c17; clear c17; obtain ⟨y197, hy197⟩ : ∃ y_ : List (S57), y_ = (x3_2 ++ [(⟨x11_1, rd (rd_L2 t191 x19_2) 0, rd (rd_L2 t191 x19_2) 1⟩ : S57)]) := ⟨_, rfl⟩; (replace H : (impl_partsOfBolts.l1 k2 y197 x11_1 l0 (l0.length : Int) x11_1 t191 (t191.length : Int) (wrap64 (x19_2 + 1))) = some r := by first | (rw [hy197]; with_reducible exact H) | (have H2_ := (Option.bind_some _ _).symm.trans H; rw [hy197]; with_reducible exact H2_) | (have H2_ := (Option.bind_some _ _).symm.trans H; with_reducible exact H2_) | with_reducible exact H | (rw [hy197]; exact H) | exact H); have Ny197 := Aside0.mk hy197; clear hy197; have H' := Aside0.mk H; clear H; have p194 : 0 ≤ (x19_2 : Int) := of_decide_eq_true (by first | (with_reducible assumption) | assumption); have q194 : x19_2 < (t191.length : Int) := of_decide_eq_true (by first | (with_reducible assumption) | assumption); obtain ⟨ad194, A194_0, c194_0, e194, hx194_0, hl194_0, hi194_0⟩ := at_L2 (Kd.S_reads' HO_17.out).2.2 x19_2 p194 q194
              cases e194
              obtain ⟨ce194, hce194, hMe194, hcc194⟩ := Kd.S_get HO_17.out [] x19_2 p194 (by first | exact q194 | exact of_decide_eq_true (by first | (with_reducible assumption) | assumption) | (have e_ := (Kd.S_reads' HO_17.out).1; omega)); obtain ⟨ve194_0, rfl, ge194_0⟩ := hMe194; have hv194_0 := hcc194 0 _ rfl; rw [Nat.add_zero, show ((Kd.slice 2 (Kd.int .i64))).sz = 1 from rfl, Nat.mul_one] at hv194_0; replace hv194_0 := Option.some.inj (hv194_0.symm.trans hx194_0); rw [hv194_0] at ge194_0; have HL194_0 := Aside0.mk (show Kd.R (Kd.int .i64) 2 _ _ _ _ (rd_L2 t191 x19_2) from ge194_0); clear hv194_0 ge194_0; clear hcc194 hce194; have HR194_0 := Aside0.mk hi194_0; have HC194_0 := Aside0.mk hl194_0; clear hi194_0 hl194_0; replace p194 := eq_true p194; replace q194 := eq_true q194; (try go_wp2); replace HO_3 := Aside0.mk (Kd.R_drew HO_3.out); replace HO_17 := Aside0.mk (Kd.S_drew HO_17.out); replace HL194_0 := Aside0.mk (Kd.R_drew HL194_0.out); replace BK190 := Aside0.mk (blk_drew BK190.out); replace HR194_0 := Aside0.mk (Kd.C_drew HR194_0.out); replace HB := Aside0.mk (below_drew1 HB.out); have p195 : 0 ≤ (0 : Int) := (by omega); have q195 : 0 < ((rd_L2 t191 x19_2).length : Int) := of_decide_eq_true (by first | (with_reducible assumption) | assumption); obtain ⟨ad195, e195, hx195_0⟩ := Kd.at_int (by repeat (first | (with_reducible exact HR194_0.out) | (with_reducible refine Kd.C_alloc ?_ _) | (with_reducible refine Kd.C_drewN ?_ _) | (with_reducible refine Kd.C_drew ?_) | exact HR194_0.out)) 0 p195 q195
              cases e195
              have qi195 : (0 < (rd_L2 t191 x19_2).length) = True := eq_true (by omega); (try rw [show ((0 : Int)).toNat = 0 from rfl] at hx195_0); (try rw [Addr.add_zero'] at hx195_0); replace p195 := eq_true p195; replace q195 := eq_true q195; have p196 : 0 ≤ (1 : Int) := (by omega); have q196 : 1 < ((rd_L2 t191 x19_2).length : Int) := of_decide_eq_true (by first | (with_reducible assumption) | assumption); obtain ⟨ad196, e196, hx196_0⟩ := Kd.at_int (by repeat (first | (with_reducible exact HR194_0.out) | (with_reducible refine Kd.C_alloc ?_ _) | (with_reducible refine Kd.C_drewN ?_ _) | (with_reducible refine Kd.C_drew ?_) | exact HR194_0.out)) 1 p196 q196; obtain rfl : ad195 = ad196 := (by injection e196); (try simp only [show (1 : Int).toNat = 1 from rfl, Nat.reduceMul, Nat.reduceEqDiff, Go.Addr.add, ↓reduceIte] at hx196_0); have qi196 : (1 < (rd_L2 t191 x19_2).length) = True := eq_true (by omega); (try rw [show ((1 : Int)).toNat = 1 from rfl] at hx196_0); replace p196 := eq_true p196; replace q196 := eq_true q196; refine start_ (n := 12) (S := fun w' => w'.cell? ad195 = some (.int .i64 (rd (rd_L2 t191 x19_2) 0)) ∧ w'.cell? ⟨ad195.block, ad195.off + 1, none⟩ = some (.int .i64 (rd (rd_L2 t191 x19_2) 1))) (ds := [9, 10]) #[F,F,F,F,F,F,F,F,F,F,F,F] (by kernel_rfl) rfl rfl ⟨hx195_0, hx196_0⟩ (fun hHeld => ?_); refine with_tabW impl_partsOfBolts.tab8 impl_partsOfBolts.bits8 (fun HT_ HW_ => ?_); generalize wr.drew = w18 at HO_3 HO_17 HL194_0 BK190 HR194_0 HB hx195_0 hx196_0 hHeld ⊢; refine pV (i := 0) (N := some 23) #[T,F,F,F,F,F,F,F,F,F,F,F] HT_ ?_; refine pV (i := 1) (N := some 24) #[T,T,F,F,F,F,F,F,F,F,F,F] HT_ ?_; refine pV (i := 2) (N := some 25) #[T,T,T,F,F,F,F,F,F,F,F,F] HT_ ?_; refine pV (i := 3) (N := some 26) #[T,T,T,T,F,F,F,F,F,F,F,F] HT_ ?_; refine pV (i := 5) (N := some 28) #[T,T,T,T,F,T,F,F,F,F,F,F] HT_ ?_; refine pV (i := 6) (N := some 29) #[T,T,T,T,F,T,T,F,F,F,F,F] HT_ ?_; refine tV (i := 4) (N := some 27) #[T,T,T,T,T,T,T,F,F,F,F,F] rfl rfl HT_ HW_ hHeld (by rintro w' ⟨s0, s1⟩; go_simp; with_reducible rfl) ?_; refine tV (i := 7) (N := some 30) #[T,T,T,T,T,T,T,T,F,F,F,F] rfl rfl HT_ HW_ hHeld (by rintro w' ⟨s0, s1⟩; go_simp; with_reducible rfl) ?_; refine pV (i := 8) (N := some 31) #[T,T,T,T,T,T,T,T,T,F,F,F] HT_ ?_; refine last_ (i := 9) (N := some 32) #[T,T,T,T,T,T,T,T,T,T,F,F] rfl rfl (one_of HT_.out (by kernel_rfl)) (by decide) (fun K hK => ?_); refine value_ (w1 := ?_) (v := ?_) (by rfl) rfl ?_ ?_; rotate_left 2
              ·(go_simp); constructor
               ·rfl
               ·rfl
              refine hK.out _ _ ?_; clear hK K; refine norm_ (a' := ?_) ?_ ?_; rotate_left
              ·(show Act.put _ (some 32) _ = _); simp only [NS]; rfl
              refine last_ (i := 10) (N := some 33) #[T,T,T,T,T,T,T,T,T,T,T,F] rfl rfl (one_of HT_.out (by kernel_rfl)) (by decide) (fun K hK => ?_); refine Kd.R_append_step k57 (w0 := w) w.heap.size (by rfl) (.tmp 23) (.tmp 32) 53 57 (.agg #[(.int .i64 0), (.int .i64 0), (.int .i64 0)]) 24 rfl Tryd.underlying53 info57 rfl (by decide) (by omega) u3 x3_2 (⟨x11_1, rd (rd_L2 t191 x19_2) 0, rd (rd_L2 t191 x19_2) 1⟩ : S57) [.int .i64 x11_1, .int .i64 (rd (rd_L2 t191 x19_2) 0), .int .i64 (rd (rd_L2 t191 x19_2) 1)] (fun _ => True) (fun _ => False) rfl rfl ?aP (fun _ hk => hk.elim) ?aF ?aO ?aB ?aS ?aL ?_; (case aP => exact k57_mkM _ _ _ (⟨x11_1, rd (rd_L2 t191 x19_2) 0, rd (rd_L2 t191 x19_2) 1⟩ : S57)); (case aB => exact (pR HB)); (case aF => exact (fun _ _ => trivial)); (case aO => exact (by refine zR ?_; exact HO_3.out)); (case aS => exact (below_size (pR HB))); (case aL => have := LMc17.out; omega); intro v198 w19 ho hb hg hat; rw [← Ny197.out] at ho; replace HO_17 := Aside0.mk (Kd.S_over' (by refine zS ?_; exact HO_17.out) (Kd.R_typed (by refine zR ?_; exact HO_3.out)) (by decide) hg); replace BK190 := Aside0.mk (blk_grown (g := gb190) (o := .cells #[.int .i64 ((rd_T50 l0 x11_1).f0), .slice A189_1 ((rd_T50 l0 x11_1).f1).length c189_1] 50 (0, 0)) (by refine zB ?_; exact BK190.out) hg (Kd.R_ne HO_3.out BK190.out (by decide))); replace HL194_0 := Aside0.mk (Kd.R_over' (by refine zR ?_; exact HL194_0.out) (Kd.R_typed (by refine zR ?_; exact HO_3.out)) (by decide) hg); replace HB := Aside0.mk (hb); have HO199 := Aside0.mk (ho); clear HO_3; clear ho hb hg hat; refine hK.out _ _ ?_; clear hK K; refine norm_ (a' := ?_) ?_ ?_; rotate_left
              ·(show Act.put _ (some 33) _ = _); simp only [NS]; rfl
              refine pV (i := 11) (N := some 3) #[T,T,T,T,T,T,T,T,T,T,T,T] HT_ ?_; refine done_ (done_of HT_.out (by kernel_rfl)) ?_; (try go_wp2); go_roundg k2
              case measure => have := HK1.out; have := HK2.out; omega
              case rel => exact ⟨(y197), (wrap64 (x19_2 + 1)), zF, H', ⟨by have := HK1.out; have := HK2.out; omega⟩, ⟨by refine zR ?_; exact HO199.out⟩, ⟨by refine zS ?_; exact HO_17.out⟩, ⟨by refine zB ?_; exact BK190.out⟩, ⟨pR HB⟩⟩
             ·rw [if_neg c17] at H; exact absurd H (by simp)
            ·rw [if_neg c16] at H; exact absurd H (by simp)
           ·rw [if_neg c15] at H; exact absurd H (by simp)
          ·rw [if_neg c14] at H; exact absurd H (by simp)
         ·rw [if_neg c13] at H; exact absurd H (by simp)
        ·rw [if_neg c12] at H; have c12b0 : decide (x19_2 < (t191.length : Int)) = false := decide_eq_false c12; clear c12; have H' := Aside0.mk H; clear H; (go_wp2); go_roundg k2
         case measure => have := HK1.out; have := HK2.out; omega
         case rel => exact ⟨(x3_2), (wrap64 (x11_1 + 1)), zF, H', ⟨by have := HK1.out; have := HK2.out; omega⟩, ⟨by refine zR ?_; exact HO_3.out⟩, ⟨pR HB⟩⟩
     ·rw [if_neg c6] at H; exact absurd H (by simp)
    ·rw [if_neg c5] at H; exact absurd H (by simp)
   ·rw [if_neg c4] at H; have c4b0 : decide (x11_1 < (l0.length : Int)) = false := decide_eq_false c4; clear c4; obtain rfl := Option.some.inj H; simp only [Option.some.injEq, Prod.mk.injEq] at H; obtain ⟨rfl⟩ := H; (go_wp2); (go_ret); exact ⟨_, zE, by refine zR ?_; exact HO_3.out, pR HB⟩

-- NOT PRINTED: function 27 (impl_FirstPlaces_1)

/-! ### impl_clothPart: function 26, by hand -/
def idxF {α : Type} (p : α → Bool) (l : List α) : Int := match l.findIdx? p with | some i => (i : Int) | none => -1
theorem idxF_hit {α : Type} (p : α → Bool) (l : List α) (k : Nat) (hk : k < l.length) (h : p l[k] = true) (ha : ∀ j (hj : j < k), p (l[j]'(by omega)) = false) : idxF p l = (k : Int) := by
 have : l.findIdx? p = some k := by
  rw [List.findIdx?_eq_some_iff_getElem]; exact ⟨hk, h, fun j hj => by rw [ha j hj]; decide⟩
 unfold idxF; rw [this]
theorem idxF_miss {α : Type} (p : α → Bool) (l : List α) (ha : ∀ j (hj : j < l.length), p l[j] = false) : idxF p l = -1 := by
 have : l.findIdx? p = none := by
  rw [List.findIdx?_eq_none_iff]; intro x hx; obtain ⟨j, hj, rfl⟩ := List.getElem_of_mem hx; exact ha j hj
 unfold idxF; rw [this]
set_option maxHeartbeats 8000000 in
set_option maxRecDepth 100000 in
theorem gen26 (g : Nat) (lb : Array Value) (p : S57 → Bool) (A0 : Option Addr) (c0 : Nat) (l0 : List S57) (w : World) (eg : ∀ args w, (callFunc g args).run Tryd.prog w = .ok (.enter g args) w) (hr0 : Kd.C k57 w A0 l0.length l0) (hn : l0.length < 4611686018427387904)
 (hp : ∀ (W : World) (x : S57) , Below w.heap.size w W → Calls Tryd.prog g (#[.agg #[.int .i64 x.f0, .int .i64 x.f1, .int .i64 x.f2]] ++ lb) W fun e w' => e = .returned (.bool (p x)) ∧ Below w.heap.size w w') :
 Calls Tryd.prog 26 #[.slice A0 l0.length c0, .func (.func g) #[] lb] w fun e w' => e = .returned (.int .i64 (idxF p l0)) ∧ Below w.heap.size w w' := by
 have HR := Aside0.mk hr0; clear hr0; generalize hL : l0.length = n at hn HR; have HN := Aside0.mk hL; clear hL; (go_enter Tryd.func26, Tryd.ntmps26); (go_wp2); go_loopg [5, 8] n (fun gg _ s8 wr => ∃ kk : Nat, kk ≤ n ∧ n - kk ≤ gg ∧ s8 = .int .i64 kk ∧ Aside0 (Below w.heap.size w wr) ∧ Aside0 (∀ j (hj : j < kk) (hl : j < l0.length), p l0[j] = false))
 case atStart => exact ⟨0, Nat.zero_le _, by omega, rfl, ⟨Below.refl _ w⟩, ⟨fun j hj => absurd hj (Nat.not_lt_zero _)⟩⟩
 case round =>
  obtain ⟨kk, hkk, hg, rfl, BW, A⟩ := hrel; by_cases hlt : kk < n
  ·(have hltz : (kk : Int) < (n : Int) := by omega); have hb0 : decide ((kk : Int) < (n : Int)) = true := decide_eq_true hltz; have hb2 : decide (kk < n) = true := decide_eq_true hlt; (have hkl : kk < l0.length := by rw [HN.out]; exact hlt); obtain ⟨ad, e0, hx0, hx1, hx2⟩ := at_T57 HR.out (kk : Int) (by omega) (by omega)
   cases e0
   (have ex : rd_T57 l0 (kk : Int) = l0[kk] := by simp [rd_T57, hkl]); rw [ex] at hx0 hx1 hx2; rw [Int.toNat_natCast] at hx0 hx1 hx2; replace hx0 := (BW.out.cell (World.block_lt_of_cell? w _ hx0)).trans hx0; replace hx1 := (BW.out.cell (World.block_lt_of_cell? w _ hx1)).trans hx1; replace hx2 := (BW.out.cell (World.block_lt_of_cell? w _ hx2)).trans hx2; have hcall := hp wr l0[kk] BW.out; generalize hy : l0[kk] = y at hx0 hx1 hx2 hcall; have B := Aside0.mk hy; clear hy ex; have HP := Aside0.mk hp; clear hp
   cases hq : p y with
   | true =>
    rw [hq] at hcall; have HQ := Aside0.mk hq; clear hq; (go_wp2_with (fail)); refine hcall.mono ?_; rintro e w' ⟨rfl, hb'⟩; clear hcall hx0 hx1 hx2; have HB' := Aside0.mk hb'; clear hb'; (go_wp2); (go_ret); refine ⟨?_, HB'.out⟩; rw [idxF_hit p l0 kk hkl (by rw [B.out]; exact HQ.out) (fun j hj => A.out j hj (by omega))]; rfl
   | false =>
    rw [hq] at hcall; have HQ := Aside0.mk hq; clear hq; (go_wp2_with (fail)); refine hcall.mono ?_; rintro e w' ⟨rfl, hb'⟩; clear hcall hx0 hx1 hx2; have HB' := Aside0.mk hb'; clear hb'; (go_wp2); go_roundg (n - (kk + 1))
    case measure => omega
    case rel =>
     refine ⟨kk + 1, by omega, by omega, by go_num, HB', ⟨fun j hj hl => ?_⟩⟩; by_cases e : j = kk
     ·subst e; rw [B.out]; exact HQ.out
     ·exact A.out j (by omega) hl
  ·(have hltz : ¬ (kk : Int) < (n : Int) := by omega); have hb0 : decide ((kk : Int) < (n : Int)) = false := decide_eq_false hltz; have hb2 : decide (kk < n) = false := decide_eq_false hlt; (have hkn : kk = n := by omega); have HKN := Aside0.mk hkn; clear hkn; (go_wp2); (go_ret); refine ⟨?_, BW.out⟩; rw [idxF_miss p l0 (fun j hj => A.out j (by rw [HKN.out, ← HN.out]; exact hj) hj)]; rfl
set_option maxHeartbeats 8000000 in
set_option maxRecDepth 100000 in
theorem pred27 (g : Nat) (v : Int) (w : World) (x : S57) (BK : w.heap[g]? = some (.cells #[.int .i64 v] 2 (0, 0))) :
 Calls Tryd.prog 27 #[.agg #[.int .i64 x.f0, .int .i64 x.f1, .int .i64 x.f2], .pointer (some ⟨g, 0, none⟩)] w fun e w' => e = .returned (.bool (decide (wrap64 (x.f2 - x.f1) ≥ v))) ∧ Below w.heap.size w w' := by
 have B1 := Aside0.mk BK; clear BK; have HB := Aside0.mk (Below.refl w.heap.size w); (go_enter Tryd.func27, Tryd.ntmps27); (go_wp2_with (first | ((with_reducible refine gate_dst (N := 2) rfl ?_); refine box_event ?hg (N := 2) ?hd (cs := #[.int .i64 x.f0, .int .i64 x.f1, .int .i64 x.f2]) (t := 57) ?hr ?_; (case hd => rfl); (case hg => rfl); (case hr => first | (go_simp; done) | (go_simp; rfl)); intro gb hg w4 hbox hb; replace HB := pS HB hb; have BK := Aside0.mk hbox; replace B1 := pB B1 hb; clear hbox hb hg; obtain ⟨hc0, hc1, hc2, hf0, hf1, hf2⟩ := cz3 BK; obtain ⟨hd0, hg0⟩ := cz1 B1))); (go_ret); refine ⟨?_, pR HB⟩; rfl
def impl_clothPart.f (l0 : List (S57)) (v : Int) : Option (Int) := if l0.length < 4611686018427387904 then some (idxF (fun x : S57 => decide (wrap64 (x.f2 - x.f1) ≥ v)) l0) else none
set_option maxHeartbeats 8000000 in
set_option maxRecDepth 100000 in
theorem impl_clothPart.calls (A0 : Option Addr) (c0 : Nat) (l0 : List (S57)) (v : Int) (g : Nat) (r : Int) (w : World) (hr0 : Kd.C k57 w A0 l0.length l0) (hc0 : l0.length ≤ c0) (BK : w.heap[g]? = some (.cells #[.int .i64 v] 2 (0, 0))) (h : impl_clothPart.f l0 v = some r) :
 Calls Tryd.prog 26 #[.slice A0 l0.length c0, .func (.func 27) #[] #[.pointer (some ⟨g, 0, none⟩)]] w fun e w' => e = .returned (.int .i64 r) ∧ Below w.heap.size w w' := by
 unfold impl_clothPart.f at h; split at h
 ·rename_i hn; obtain rfl := Option.some.inj h; exact gen26 27 #[.pointer (some ⟨g, 0, none⟩)] (fun x : S57 => decide (wrap64 (x.f2 - x.f1) ≥ v)) A0 c0 l0 w (fun _ _ => rfl) hr0 hn (fun W x hb => (pred27 g v W x (blk_below BK hb)).mono (fun _ _ h => ⟨h.1, below_step hb h.2⟩))
 ·cases h

end Go.Proofs.YtendpecnfaojkaaDoor.PFnClothCuts
