-- Written by a program of this session (wip/tools/pp.sh).
import Derived.Test.YtmljmfepnlpgfaaPFnExactBestClothx0
import Derived.Test.YtmljmfepnlpgfaaPFnExactBestClothx17
namespace Go.Proofs.Ytmljmfepnlpgfaa.PFnExactBestCloth
open Go.RowKit Go.Proofs.YtmljmfepnlpgfaaW.PrintWords Go.Proofs.YtmljmfepnlpgfaaW.PrintLast Go.Proofs.YtmljmfepnlpgfaaW.PrintMore Go.Proofs.Ytmljmfepnlpgfaa.Small
open Bool renaming true → T, false → F
attribute [local go_sem] max2_int min2_int max_two min_two max_three min_three max_four min_four   -- for this text's walks alone
set_option linter.unusedVariables false
set_option linter.unusedSimpArgs false

/-! ### impl_Fraction_68: function 68, by hand -/
def gen68.T7 : Bool × List (List Nat × List Nat) := (true, [([], []), ([], []), ([], []), ([1, 2], [1, 2]), ([3], [3]), ([], []), ([0, 4, 5], [0, 4, 5]), ([6], [6])])
def gen68.B7 : List Nat := [0, 0, 0, 6, 14, 0, 63, 127]
theorem gen68.tab7 : rtab .any (opsOf Try.f68 7) = gen68.T7 := by kernel_rfl
theorem gen68.bits7 : waitsOk gen68.T7.2 gen68.B7 = true := by kernel_rfl
set_option maxHeartbeats 8000000 in
set_option maxRecDepth 100000 in
theorem gen68 (g : Nat) (p : S67 → S67 → Int) (A0 : Option Addr) (c0 : Nat) (l0 : List S67) (w : World) (eg : ∀ args w, (callFunc g args).run Try.prog w = .ok (.enter g args) w) (hr0 : Kd.C k67 w A0 l0.length l0) (hn : l0.length < 4611686018427387904) (h1 : 0 < l0.length)
 (hp : ∀ (W : World) (x y : S67), Calls Try.prog g #[.agg #[.int .i64 x.f0, .int .i64 x.f1], .agg #[.int .i64 y.f0, .int .i64 y.f1]] W fun e w' => e = .returned (.int .i64 (p x y)) ∧ Below W.heap.size W w') :
 Calls Try.prog 68 #[.slice A0 l0.length c0, .func (.func g) #[] #[]] w fun e w' => e = .returned (.agg #[.int .i64 (bestF (fun x y => decide (p x y > 0)) l0[0] l0 l0.length).f0, .int .i64 (bestF (fun x y => decide (p x y > 0)) l0[0] l0 l0.length).f1]) ∧ Below w.heap.size w w' := by
 have HR := Aside0.mk hr0; clear hr0; have HB := Aside0.mk (Below.refl w.heap.size w); generalize hB : (fun x y : S67 => decide (p x y > 0)) = bt; have HBT := Aside0.mk hB; clear hB; (have hz : (0 : Int) < (l0.length : Int) := by omega); obtain ⟨ad, e0, hx0, hx1⟩ := at_T67 HR.out (0 : Int) (by omega) hz
 cases e0
 rw [show (0 : Int).toNat = 0 from rfl, show 0 * 2 = 0 from rfl, Addr.add_zero'] at hx0 hx1; (have ex : rd_T67 l0 0 = l0[0] := by simp [rd_T67, h1]); rw [ex] at hx0 hx1; have hd : decide ((l0.length : Int) < 1) = false := decide_eq_false (by omega); have hd2 : (0 < l0.length) = True := eq_true h1; have HP := Aside0.mk hp; clear hp ex; generalize hm : l0[0] = z0 at hx0 hx1 ⊢; have HM := Aside0.mk hm; clear hm; (go_enter Try.func68, Try.ntmps68); (go_wp2_with (first | ((with_reducible refine gate_dst (N := 4) rfl ?_); refine box_event ?hg (N := 4) ?hd (cs := #[.int .i64 0, .int .i64 0]) (t := 67) ?hr ?_; (case hd => rfl); (case hg => rfl); (case hr => first | (go_simp; done) | (go_simp; rfl)); intro gb4 hg w4 hbox hb; have BK4 := Aside0.mk (hbox); have GE4 := pG HB hg; replace HB := pS HB hb; clear hb hbox hg; replace hx0 := bC HB hx0; replace hx1 := bC HB hx1; obtain ⟨hcz4_0, hcz4_1, hfz4_0, hfz4_1⟩ := cz2 BK4) | ((with_reducible refine gate_dst (N := 5) rfl ?_); refine box_event ?hg (N := 5) ?hd (cs := #[.int .i64 0, .int .i64 0]) (t := 67) ?hr ?_; (case hd => rfl); (case hg => rfl); (case hr => first | (go_simp; done) | (go_simp; rfl)); intro gb5 hg w5 hbox hb; have BK5 := Aside0.mk (hbox); have GE5 := pG HB hg; replace HB := pS HB hb; have NB4_5 := pN BK4 hg; have NB5_4 := pM BK4 hg; replace BK4 := pB BK4 hb; clear hb hbox hg; clear hcz4_0 hcz4_1 hfz4_0 hfz4_1; have hnb := NB5_4.out; have hnc := NB4_5.out; obtain ⟨hcz5_0, hcz5_1, hfz5_0, hfz5_1⟩ := cz2 BK5))); go_loopg [6] l0.length (fun gg v6 wr => ∃ kk : Nat, 1 ≤ kk ∧ kk ≤ l0.length ∧ l0.length - kk ≤ gg ∧ v6 = .int .i64 kk ∧ Aside0 (wr.heap[gb4]? = some (.cells #[.int .i64 0, .int .i64 0] 67 (0, 0))) ∧ Aside0 (wr.heap[gb5]? = some (.cells #[.int .i64 (bestF bt z0 l0 kk).f0, .int .i64 (bestF bt z0 l0 kk).f1] 67 (0, 0))) ∧ Aside0 (Below w.heap.size w wr))
 case atStart =>
  refine ⟨1, Nat.le_refl _, h1, by omega, rfl, ⟨by refine zB ?_; refine blk_far ?_ NB4_5.out _; refine zB ?_; refine blk_far ?_ NB4_5.out _; refine zB ?_; exact BK4.out⟩, ⟨?_⟩, ⟨pR HB⟩⟩; rw [show bestF bt z0 l0 1 = z0 from by rw [← HM.out]; exact bestF_one bt l0 h1]; refine zB ?_; refine blk_put (cs := #[.int .i64 z0.f0, .int .i64 0]) ?_ 1 _ rfl; refine zB ?_; refine blk_put (cs := #[.int .i64 0, .int .i64 0]) ?_ 0 _ rfl; refine zB ?_; exact BK5.out
 case round =>
  clear BK5 hcz5_0 hcz5_1 hfz5_0 hfz5_1 hx0 hx1; (try clear BK4); (try clear HB); obtain ⟨kk, hk1, hkk, hg, rfl, BK4, BK5, HB⟩ := hrel; by_cases hlt : kk < l0.length
  ·(have hltz : (kk : Int) < (l0.length : Int) := by omega); have hb0 : decide ((kk : Int) < (l0.length : Int)) = true := decide_eq_true hltz; have hb2 : decide (kk < l0.length) = true := decide_eq_true hlt; obtain ⟨ad2, e2, hx0, hx1⟩ := at_T67 HR.out (kk : Int) (by omega) hltz
   cases e2
   (have ex : rd_T67 l0 (kk : Int) = l0[kk] := by simp [rd_T67, hlt]); rw [ex] at hx0 hx1; rw [Int.toNat_natCast] at hx0 hx1; clear ex; have hstep := bestF_step bt z0 l0 kk hlt; generalize hy : l0[kk] = y at hx0 hx1 hstep; clear hy; generalize hmk : bestF bt z0 l0 kk = mk at hstep BK5; clear hmk; (have hcall := fun W => HP.out W y mk); have HS := Aside0.mk hstep; have q1 : ((kk : Int) < (l0.length : Int)) = True := eq_true hltz; have q2 : (kk < l0.length) = True := eq_true hlt; clear hstep; (go_wp2_with (fail)); replace BK4 := Aside0.mk (blk_drew BK4.out); replace BK5 := Aside0.mk (blk_drew BK5.out); replace HB := Aside0.mk (below_drew1 HB.out); refine start_ (n := 8) (S := fun w' => w'.cell? (ad.add (kk * 2)) = some (.int .i64 y.f0) ∧ w'.cell? ⟨(ad.add (kk * 2)).block, (ad.add (kk * 2)).off + 1, none⟩ = some (.int .i64 y.f1) ∧ w'.cell? ⟨gb5, 0, none⟩ = some (.int .i64 mk.f0) ∧ w'.cell? ⟨gb5, 1, none⟩ = some (.int .i64 mk.f1)) (ds := []) #[F,F,F,F,F,F,F,F] (by kernel_rfl) rfl rfl ⟨bC HB hx0, bC HB hx1, bk BK5 0, bk BK5 1⟩ (fun hHeld => ?_); refine with_tabW gen68.tab7 gen68.bits7 (fun HT_ HW_ => ?_); generalize wr.drew = w6 at HB BK4 BK5 hHeld ⊢; refine pV (i := 0) (N := some 20) #[T,F,F,F,F,F,F,F] HT_ ?_; refine pV (i := 1) (N := some 21) #[T,T,F,F,F,F,F,F] HT_ ?_; refine pV (i := 2) (N := some 22) #[T,T,T,F,F,F,F,F] HT_ ?_; refine pV (i := 3) (N := some 23) #[T,T,T,T,F,F,F,F] HT_ ?_; refine tV (i := 4) (N := some 24) #[T,T,T,T,T,F,F,F] rfl rfl HT_ HW_ hHeld (by rintro w' ⟨s0, s1, s2, s3⟩; go_simp; with_reducible rfl) ?_; refine tV (i := 5) (N := some 25) #[T,T,T,T,T,T,F,F] rfl rfl HT_ HW_ hHeld (by rintro w' ⟨s0, s1, s2, s3⟩; go_simp; with_reducible rfl) ?_; refine one_ (i := 6) (N := some 26) #[T,T,T,T,T,T,T,F] rfl rfl (one_of HT_.out (by kernel_rfl)) (by decide) (fun K hK => ?_); refine call_ g #[.agg #[.int .i64 y.f0, .int .i64 y.f1], .agg #[.int .i64 mk.f0, .int .i64 mk.f1]] (by rfl) rfl ?he ?_
   case he => first | (go_simp; exact eg _ _) | exact eg _ _ | (unfold execOp; simp [resolve, Deferred.ofValue, invoke, Act.eval, eg]; done)
   refine (hcall _).mono ?_; rintro e w' ⟨rfl, hb⟩; refine ⟨_, rfl, ?_⟩; replace BK4 := pB BK4 hb; replace BK5 := pB BK5 hb; replace HB := pS HB hb; refine hK.out _ _ ⟨bC HB hx0, bC HB hx1, bk BK5 0, bk BK5 1⟩ (fun hHeld => ?_); clear hK K hb; refine norm_ (a' := ?_) ?_ ?_; rotate_left
   ·(show Act.put _ (some 26) _ = _); simp only [NS]; rfl
   refine pV (i := 7) (N := some 27) #[T,T,T,T,T,T,T,T] HT_ ?_; refine done_ (done_of HT_.out (by kernel_rfl)) ?_; replace hx0 := bC HB hx0; replace hx1 := bC HB hx1; obtain ⟨hcz5_0, hcz5_1, hfz5_0, hfz5_1⟩ := cz2 BK5
   cases hq : bt y mk with
   | true =>
    (have hpt : decide (p y mk > 0) = true := by have h_ := congrFun (congrFun HBT.out y) mk; exact h_.trans hq); replace HS := Aside0.mk (HS.out.trans (if_pos hq)); rw [hpt]; (go_wp2); go_roundg (l0.length - (kk + 1))
    case measure => omega
    case rel =>
     refine ⟨kk + 1, by omega, by omega, by omega, by go_num, ⟨?_⟩, ⟨?_⟩, ⟨?_⟩⟩
     ·refine zB ?_; refine blk_far ?_ NB4_5.out _; refine zB ?_; refine blk_far ?_ NB4_5.out _; refine zB ?_; exact BK4.out
     ·rw [HS.out]; refine zB ?_; refine blk_put (cs := #[.int .i64 y.f0, .int .i64 mk.f1]) ?_ 1 _ rfl; refine zB ?_; refine blk_put (cs := #[.int .i64 mk.f0, .int .i64 mk.f1]) ?_ 0 _ rfl; refine zB ?_; exact BK5.out
     ·exact pR HB
   | false =>
    (have hpt : decide (p y mk > 0) = false := by have h_ := congrFun (congrFun HBT.out y) mk; exact h_.trans hq); replace HS := Aside0.mk (HS.out.trans (if_neg (by rw [hq]; decide))); rw [hpt]; (go_wp2); go_roundg (l0.length - (kk + 1))
    case measure => omega
    case rel =>
     refine ⟨kk + 1, by omega, by omega, by omega, by go_num, ⟨?_⟩, ⟨?_⟩, ⟨?_⟩⟩
     ·refine zB ?_; exact BK4.out
     ·rw [HS.out]; refine zB ?_; exact BK5.out
     ·exact pR HB
  ·(have hltz : ¬ (kk : Int) < (l0.length : Int) := by omega); have hb0 : decide ((kk : Int) < (l0.length : Int)) = false := decide_eq_false hltz; have hb2 : decide (kk < l0.length) = false := decide_eq_false hlt; (have hkn : kk = l0.length := by omega); have HKN := Aside0.mk hkn; clear hkn; obtain ⟨hcz5_0, hcz5_1, hfz5_0, hfz5_1⟩ := cz2 BK5; obtain ⟨hcz4_0, hcz4_1, hfz4_0, hfz4_1⟩ := cz2 BK4; (go_wp2); refine bodyPost_ret (results_cell_row rfl _ _ gb4 67 #[.int .i64 (bestF bt z0 l0 kk).f0, .int .i64 (bestF bt z0 l0 kk).f1] (0, 0) _ rfl (by refine zB ?_; refine blk_put (cs := #[.int .i64 (bestF bt z0 l0 kk).f0, .int .i64 0]) ?_ 1 _ rfl; refine zB ?_; refine blk_put (cs := #[.int .i64 0, .int .i64 0]) ?_ 0 _ rfl; refine zB ?_; exact BK4.out) Try.underlying67 rfl (by kernel_rfl)) rfl ?_; exact ⟨by rw [HKN.out], pR HB⟩
def impl_Fraction_68.f (l0 : List (S67)) : Option (Int × Int) := if h0 : 0 < l0.length then (if l0.length < 4611686018427387904 then some ((maxP fcmp l0 h0).f0, (maxP fcmp l0 h0).f1) else none) else none
theorem impl_Fraction_68.calls (A0 : Option Addr) (c0 : Nat) (l0 : List (S67)) (r1 : Int) (r2 : Int) (w : World) (hr0 : Kd.C k67 w A0 l0.length l0) (hc0 : l0.length ≤ c0) (h : impl_Fraction_68.f l0 = some (r1, r2)) :
 Calls Try.prog 68 #[.slice A0 l0.length c0, .func (.func 55) #[] #[]] w fun e w' => e = .returned (.agg #[.int .i64 r1, .int .i64 r2]) ∧ Below w.heap.size w w' := by
 unfold impl_Fraction_68.f at h; split at h
 ·rename_i h0; split at h
  ·rename_i hn; obtain ⟨rfl, rfl⟩ := Prod.mk.inj (Option.some.inj h); exact gen68 55 fcmp A0 c0 l0 w (fun _ _ => rfl) hr0 hn h0 fcmp_calls
  ·cases h
 ·cases h

end Go.Proofs.Ytmljmfepnlpgfaa.PFnExactBestCloth
