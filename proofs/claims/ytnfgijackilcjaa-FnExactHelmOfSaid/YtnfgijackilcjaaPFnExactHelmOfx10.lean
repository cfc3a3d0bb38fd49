-- Written by a program of this session (wip/tools/pp.sh).
import Derived.Test.YtnfgijackilcjaaPFnExactHelmOfx0
import Derived.Test.YtnfgijackilcjaaPFnExactHelmOfx9
namespace Go.Proofs.Ytnfgijackilcjaa.PFnExactHelmOf
open Go.RowKit Go.Proofs.YtnfgijackilcjaaW.PrintWords Go.Proofs.YtnfgijackilcjaaW.PrintLast Go.Proofs.YtnfgijackilcjaaW.PrintMore Go.Proofs.Ytnfgijackilcjaa.Small
open Bool renaming true → T, false → F
attribute [local go_sem] max2_int min2_int max_two min_two max_three min_three max_four min_four   -- for this text's walks alone
set_option linter.unusedVariables false
set_option linter.unusedSimpArgs false

/-! ### impl_edgesMeet: function 51 -/
def impl_edgesMeet.j0 : Nat → Int → Int → Int → Int → Bool → Int → Int → Int → Int → Int → Int → Int → Int → Option (Bool)
 | 0, _, _, _, _, _, _, _, _, _, _, _, _, _ => none
 | k + 1, x9, x10, x11, x12, x42, x275000, x275001, x276000, x276001, x277000, x277001, x278000, x278001 => if x42 = true then (some true) else (if x9 = 0 then ((impl_between.f x275000 x275001 x276000 x276001 x277000 x277001).bind fun t286 => (if t286 = true then (some true) else (if x10 = 0 then ((impl_between.f x275000 x275001 x276000 x276001 x278000 x278001).bind fun t287 => (if t287 = true then (some true) else (if x11 = 0 then ((impl_between.f x277000 x277001 x278000 x278001 x275000 x275001).bind fun t288 => (if t288 = true then (some true) else (if x12 = 0 then ((impl_between.f x277000 x277001 x278000 x278001 x276000 x276001).bind fun t289 => (some t289)) else (some false)))) else (if x12 = 0 then ((impl_between.f x277000 x277001 x278000 x278001 x276000 x276001).bind fun t290 => (some t290)) else (some false))))) else (if x11 = 0 then ((impl_between.f x277000 x277001 x278000 x278001 x275000 x275001).bind fun t291 => (if t291 = true then (some true) else (if x12 = 0 then ((impl_between.f x277000 x277001 x278000 x278001 x276000 x276001).bind fun t292 => (some t292)) else (some false)))) else (if x12 = 0 then ((impl_between.f x277000 x277001 x278000 x278001 x276000 x276001).bind fun t293 => (some t293)) else (some false)))))) else (if x10 = 0 then ((impl_between.f x275000 x275001 x276000 x276001 x278000 x278001).bind fun t294 => (if t294 = true then (some true) else (if x11 = 0 then ((impl_between.f x277000 x277001 x278000 x278001 x275000 x275001).bind fun t295 => (if t295 = true then (some true) else (if x12 = 0 then ((impl_between.f x277000 x277001 x278000 x278001 x276000 x276001).bind fun t296 => (some t296)) else (some false)))) else (if x12 = 0 then ((impl_between.f x277000 x277001 x278000 x278001 x276000 x276001).bind fun t297 => (some t297)) else (some false))))) else (if x11 = 0 then ((impl_between.f x277000 x277001 x278000 x278001 x275000 x275001).bind fun t298 => (if t298 = true then (some true) else (if x12 = 0 then ((impl_between.f x277000 x277001 x278000 x278001 x276000 x276001).bind fun t299 => (some t299)) else (some false)))) else (if x12 = 0 then ((impl_between.f x277000 x277001 x278000 x278001 x276000 x276001).bind fun t300 => (some t300)) else (some false)))))
def impl_edgesMeet.f (k : Nat) (a0_0 : Int) (a0_1 : Int) (a1_0 : Int) (a1_1 : Int) (a2_0 : Int) (a2_1 : Int) (a3_0 : Int) (a3_1 : Int) : Option (Bool) := (impl_turnAt.f a0_0 a0_1 a1_0 a1_1 a2_0 a2_1).bind fun t278 => ((impl_turnAt.f a0_0 a0_1 a1_0 a1_1 a3_0 a3_1).bind fun t279 => ((impl_turnAt.f a2_0 a2_1 a3_0 a3_1 a0_0 a0_1).bind fun t280 => ((impl_turnAt.f a2_0 a2_1 a3_0 a3_1 a1_0 a1_1).bind fun t281 => ((impl_sign.f t278).bind fun t282 => ((impl_sign.f t279).bind fun t283 => (if (wrap64 (t282 * t283)) < 0 then ((impl_sign.f t280).bind fun t284 => ((impl_sign.f t281).bind fun t285 => (impl_edgesMeet.j0 k t278 t279 t280 t281 (decide ((wrap64 (t284 * t285)) < 0)) a0_0 a0_1 a1_0 a1_1 a2_0 a2_1 a3_0 a3_1))) else (impl_edgesMeet.j0 k t278 t279 t280 t281 false a0_0 a0_1 a1_0 a1_1 a2_0 a2_1 a3_0 a3_1)))))))
theorem impl_edgesMeet.mono_l : ∀ k, (∀ y0 y1 y2 y3 y4 y5 y6 y7 y8 y9 y10 y11 y12, LeO (impl_edgesMeet.j0 k y0 y1 y2 y3 y4 y5 y6 y7 y8 y9 y10 y11 y12) (impl_edgesMeet.j0 (k + 1) y0 y1 y2 y3 y4 y5 y6 y7 y8 y9 y10 y11 y12))
 | 0 => fun _ _ _ _ _ _ _ _ _ _ _ _ _ r h => by simp [impl_edgesMeet.j0] at h
 | k + 1 => by
  have ih0 := impl_edgesMeet.mono_l k
  ·intro y0 y1 y2 y3 y4 y5 y6 y7 y8 y9 y10 y11 y12
   unfold impl_edgesMeet.j0
   repeat' first
   | (with_reducible exact ih0 _ _ _ _ _ _ _ _ _ _ _ _ _)
   | (with_reducible exact LeO.refl _)
   | (with_reducible exact LeO.none _)
   | (with_reducible refine LeO.ite ?_ ?_)
   | (with_reducible refine LeO.bind ?_ (fun _ => ?_))
   | exact ih0 _ _ _ _ _ _ _ _ _ _ _ _ _
   | exact LeO.none _
   | refine LeO.ite ?_ ?_
   | refine LeO.bind ?_ (fun _ => ?_)
theorem impl_edgesMeet.mono : ∀ a0 a1 a2 a3 a4 a5 a6 a7 k, LeO (impl_edgesMeet.f k a0 a1 a2 a3 a4 a5 a6 a7) (impl_edgesMeet.f (k + 1) a0 a1 a2 a3 a4 a5 a6 a7) := by
 intro a0 a1 a2 a3 a4 a5 a6 a7 k
 have ih0 := impl_edgesMeet.mono_l k
 unfold impl_edgesMeet.f
 repeat' first
   | (with_reducible exact ih0 _ _ _ _ _ _ _ _ _ _ _ _ _)
   | (with_reducible exact LeO.refl _)
   | (with_reducible exact LeO.none _)
   | (with_reducible refine LeO.ite ?_ ?_)
   | (with_reducible refine LeO.bind ?_ (fun _ => ?_))
   | exact ih0 _ _ _ _ _ _ _ _ _ _ _ _ _
   | exact LeO.none _
   | refine LeO.ite ?_ ?_
   | refine LeO.bind ?_ (fun _ => ?_)
def impl_edgesMeet.T1 : Bool × List (List Nat × List Nat) := (true, [([], []), ([], []), ([], []), ([0, 1, 2], [0, 1, 2]), ([], []), ([], []), ([], []), ([4, 5, 6, 3], [4, 5, 6]), ([3, 7, 0, 1, 2, 3], [3]), ([7, 8, 0, 1, 2, 3, 4, 5, 6, 7, 8], [7])])
def impl_edgesMeet.B1 : List Nat := [0, 0, 0, 7, 0, 0, 0, 127, 255, 511]
theorem impl_edgesMeet.tab1 : rtab .any (opsOf Try.f51 1) = impl_edgesMeet.T1 := by kernel_rfl
theorem impl_edgesMeet.bits1 : waitsOk impl_edgesMeet.T1.2 impl_edgesMeet.B1 = true := by kernel_rfl
def impl_edgesMeet.T2 : Bool × List (List Nat × List Nat) := (true, [([], []), ([], []), ([], []), ([0, 1, 2], [0, 1, 2]), ([], []), ([], []), ([], []), ([4, 5, 6, 3], [4, 5, 6]), ([3, 7, 0, 1, 2, 3], [3]), ([7, 8, 0, 1, 2, 3, 4, 5, 6, 7, 8], [7])])
def impl_edgesMeet.B2 : List Nat := [0, 0, 0, 7, 0, 0, 0, 127, 255, 511]
theorem impl_edgesMeet.tab2 : rtab .any (opsOf Try.f51 2) = impl_edgesMeet.T2 := by kernel_rfl
theorem impl_edgesMeet.bits2 : waitsOk impl_edgesMeet.T2.2 impl_edgesMeet.B2 = true := by kernel_rfl
set_option maxHeartbeats 8000000 in
set_option maxRecDepth 100000 in
theorem impl_edgesMeet.calls (k : Nat) (a0_0 : Int) (a0_1 : Int) (a1_0 : Int) (a1_1 : Int) (a2_0 : Int) (a2_1 : Int) (a3_0 : Int) (a3_1 : Int) (r : Bool) (w : World) (h : impl_edgesMeet.f k a0_0 a0_1 a1_0 a1_1 a2_0 a2_1 a3_0 a3_1 = some r) :
  Calls Try.prog 51 #[.agg #[.int .i64 a0_0, .int .i64 a0_1], .agg #[.int .i64 a1_0, .int .i64 a1_1], .agg #[.int .i64 a2_0, .int .i64 a2_1], .agg #[.int .i64 a3_0, .int .i64 a3_1]] w fun e w' => e = .returned (.bool r) ∧ Below w.heap.size w w' := by
 have hu77 := Try.underlying77
 have HB := Aside0.mk (Below.refl w.heap.size w)
 have H : ((impl_turnAt.f a0_0 a0_1 a1_0 a1_1 a2_0 a2_1).bind fun t278 => ((impl_turnAt.f a0_0 a0_1 a1_0 a1_1 a3_0 a3_1).bind fun t279 => ((impl_turnAt.f a2_0 a2_1 a3_0 a3_1 a0_0 a0_1).bind fun t280 => ((impl_turnAt.f a2_0 a2_1 a3_0 a3_1 a1_0 a1_1).bind fun t281 => ((impl_sign.f t278).bind fun t282 => ((impl_sign.f t279).bind fun t283 => (if (wrap64 (t282 * t283)) < 0 then ((impl_sign.f t280).bind fun t284 => ((impl_sign.f t281).bind fun t285 => (impl_edgesMeet.j0 k t278 t279 t280 t281 (decide ((wrap64 (t284 * t285)) < 0)) a0_0 a0_1 a1_0 a1_1 a2_0 a2_1 a3_0 a3_1))) else (impl_edgesMeet.j0 k t278 t279 t280 t281 false a0_0 a0_1 a1_0 a1_1 a2_0 a2_1 a3_0 a3_1)))))))) = some r := h
 clear h
 replace H := Option.bind_eq_some_iff.mp H
 obtain ⟨t278, A50, H⟩ := H
 replace H : ((impl_turnAt.f a0_0 a0_1 a1_0 a1_1 a3_0 a3_1).bind fun t279 => ((impl_turnAt.f a2_0 a2_1 a3_0 a3_1 a0_0 a0_1).bind fun t280 => ((impl_turnAt.f a2_0 a2_1 a3_0 a3_1 a1_0 a1_1).bind fun t281 => ((impl_sign.f t278).bind fun t282 => ((impl_sign.f t279).bind fun t283 => (if (wrap64 (t282 * t283)) < 0 then ((impl_sign.f t280).bind fun t284 => ((impl_sign.f t281).bind fun t285 => (impl_edgesMeet.j0 k t278 t279 t280 t281 (decide ((wrap64 (t284 * t285)) < 0)) a0_0 a0_1 a1_0 a1_1 a2_0 a2_1 a3_0 a3_1))) else (impl_edgesMeet.j0 k t278 t279 t280 t281 false a0_0 a0_1 a1_0 a1_1 a2_0 a2_1 a3_0 a3_1))))))) = some r := H
 have A5 := Aside0.mk A50
 clear A50
 replace H := Option.bind_eq_some_iff.mp H
 obtain ⟨t279, A60, H⟩ := H
 replace H : ((impl_turnAt.f a2_0 a2_1 a3_0 a3_1 a0_0 a0_1).bind fun t280 => ((impl_turnAt.f a2_0 a2_1 a3_0 a3_1 a1_0 a1_1).bind fun t281 => ((impl_sign.f t278).bind fun t282 => ((impl_sign.f t279).bind fun t283 => (if (wrap64 (t282 * t283)) < 0 then ((impl_sign.f t280).bind fun t284 => ((impl_sign.f t281).bind fun t285 => (impl_edgesMeet.j0 k t278 t279 t280 t281 (decide ((wrap64 (t284 * t285)) < 0)) a0_0 a0_1 a1_0 a1_1 a2_0 a2_1 a3_0 a3_1))) else (impl_edgesMeet.j0 k t278 t279 t280 t281 false a0_0 a0_1 a1_0 a1_1 a2_0 a2_1 a3_0 a3_1)))))) = some r := H
 have A6 := Aside0.mk A60
 clear A60
 replace H := Option.bind_eq_some_iff.mp H
 obtain ⟨t280, A70, H⟩ := H
 replace H : ((impl_turnAt.f a2_0 a2_1 a3_0 a3_1 a1_0 a1_1).bind fun t281 => ((impl_sign.f t278).bind fun t282 => ((impl_sign.f t279).bind fun t283 => (if (wrap64 (t282 * t283)) < 0 then ((impl_sign.f t280).bind fun t284 => ((impl_sign.f t281).bind fun t285 => (impl_edgesMeet.j0 k t278 t279 t280 t281 (decide ((wrap64 (t284 * t285)) < 0)) a0_0 a0_1 a1_0 a1_1 a2_0 a2_1 a3_0 a3_1))) else (impl_edgesMeet.j0 k t278 t279 t280 t281 false a0_0 a0_1 a1_0 a1_1 a2_0 a2_1 a3_0 a3_1))))) = some r := H
 have A7 := Aside0.mk A70
 clear A70
 replace H := Option.bind_eq_some_iff.mp H
 obtain ⟨t281, A80, H⟩ := H
 replace H : ((impl_sign.f t278).bind fun t282 => ((impl_sign.f t279).bind fun t283 => (if (wrap64 (t282 * t283)) < 0 then ((impl_sign.f t280).bind fun t284 => ((impl_sign.f t281).bind fun t285 => (impl_edgesMeet.j0 k t278 t279 t280 t281 (decide ((wrap64 (t284 * t285)) < 0)) a0_0 a0_1 a1_0 a1_1 a2_0 a2_1 a3_0 a3_1))) else (impl_edgesMeet.j0 k t278 t279 t280 t281 false a0_0 a0_1 a1_0 a1_1 a2_0 a2_1 a3_0 a3_1)))) = some r := H
 have A8 := Aside0.mk A80
 clear A80
 have HC9 := Aside0.mk H
 clear H
 go_enter Try.func51, Try.ntmps51
 try go_wp2_with (first | ((with_reducible refine gate_dst (N := 4) rfl ?_); refine box_event ?hg (N := 4) ?hd (cs := #[.int .i64 a0_0, .int .i64 a0_1]) (t := 77) ?hr ?_; (case hd => rfl); (case hg => rfl); (case hr => first | (go_simp; done) | (go_simp; rfl)); intro gb274 hg w10 hbox hb; have n0_ := pS HB hb; have n1_ := Aside0.mk (hbox); have n2_ := pG HB hg; have n3_ := pG HB hg; clear HB; have HB := n0_; have BK274 := n1_; have GW274 := n2_; have GE274 := n3_; clear n0_ n1_ n2_ n3_; clear hb hbox hg) | ((with_reducible refine gate_dst (N := 5) rfl ?_); refine box_event ?hg (N := 5) ?hd (cs := #[.int .i64 a1_0, .int .i64 a1_1]) (t := 77) ?hr ?_; (case hd => rfl); (case hg => rfl); (case hr => first | (go_simp; done) | (go_simp; rfl)); intro gb275 hg w11 hbox hb; have n0_ := pB BK274 hb; have n1_ := pS HB hb; have n2_ := Aside0.mk (hbox); have n3_ := pG HB hg; have n4_ := pG HB hg; have n5_ := pN BK274 hg; have n6_ := pM BK274 hg; clear BK274 HB; have BK274 := n0_; have HB := n1_; have BK275 := n2_; have GW275 := n3_; have GE275 := n4_; have NB274_275 := n5_; have NB275_274 := n6_; clear n0_ n1_ n2_ n3_ n4_ n5_ n6_; clear hb hbox hg) | ((with_reducible refine gate_dst (N := 6) rfl ?_); refine box_event ?hg (N := 6) ?hd (cs := #[.int .i64 a2_0, .int .i64 a2_1]) (t := 77) ?hr ?_; (case hd => rfl); (case hg => rfl); (case hr => first | (go_simp; done) | (go_simp; rfl)); intro gb276 hg w12 hbox hb; have n0_ := pB BK274 hb; have n1_ := pB BK275 hb; have n2_ := pS HB hb; have n3_ := Aside0.mk (hbox); have n4_ := pG HB hg; have n5_ := pG HB hg; have n6_ := pN BK274 hg; have n7_ := pM BK274 hg; have n8_ := pN BK275 hg; have n9_ := pM BK275 hg; clear BK274 BK275 HB; have BK274 := n0_; have BK275 := n1_; have HB := n2_; have BK276 := n3_; have GW276 := n4_; have GE276 := n5_; have NB274_276 := n6_; have NB276_274 := n7_; have NB275_276 := n8_; have NB276_275 := n9_; clear n0_ n1_ n2_ n3_ n4_ n5_ n6_ n7_ n8_ n9_; clear hb hbox hg) | ((with_reducible refine gate_dst (N := 7) rfl ?_); refine box_event ?hg (N := 7) ?hd (cs := #[.int .i64 a3_0, .int .i64 a3_1]) (t := 77) ?hr ?_; (case hd => rfl); (case hg => rfl); (case hr => first | (go_simp; done) | (go_simp; rfl)); intro gb277 hg w13 hbox hb; have n0_ := pB BK274 hb; have n1_ := pB BK275 hb; have n2_ := pB BK276 hb; have n3_ := pS HB hb; have n4_ := Aside0.mk (hbox); have n5_ := pG HB hg; have n6_ := pG HB hg; have n7_ := pN BK274 hg; have n8_ := pM BK274 hg; have n9_ := pN BK275 hg; have n10_ := pM BK275 hg; have n11_ := pN BK276 hg; have n12_ := pM BK276 hg; clear BK274 BK275; clear BK276 HB; have BK274 := n0_; have BK275 := n1_; have BK276 := n2_; have HB := n3_; have BK277 := n4_; have GW277 := n5_; have GE277 := n6_; have NB274_277 := n7_; have NB277_274 := n8_; have NB275_277 := n9_; have NB277_275 := n10_; have NB276_277 := n11_; have NB277_276 := n12_; clear n0_ n1_ n2_ n3_ n4_ n5_ n6_ n7_ n8_ n9_ n10_ n11_ n12_; clear hb hbox hg))
 have n0_ := Aside0.mk (blk_drew BK274.out)
 have n1_ := Aside0.mk (blk_drew BK275.out)
 have n2_ := Aside0.mk (blk_drew BK276.out)
 have n3_ := Aside0.mk (blk_drew BK277.out)
 have n4_ := Aside0.mk (below_drew1 HB.out)
 clear BK274
 clear BK275
 clear BK276
 clear BK277
 clear HB
 have BK274 := n0_
 have BK275 := n1_
 have BK276 := n2_
 have BK277 := n3_
 have HB := n4_
 clear n0_ n1_ n2_ n3_ n4_
 refine start_ (n := 10) (S := fun w' => w'.cell? ⟨gb274, 0, none⟩ = some (.int .i64 a0_0) ∧ w'.cell? ⟨gb274, 1, none⟩ = some (.int .i64 a0_1) ∧ w'.cell? ⟨gb275, 0, none⟩ = some (.int .i64 a1_0) ∧ w'.cell? ⟨gb275, 1, none⟩ = some (.int .i64 a1_1) ∧ w'.cell? ⟨gb276, 0, none⟩ = some (.int .i64 a2_0) ∧ w'.cell? ⟨gb276, 1, none⟩ = some (.int .i64 a2_1) ∧ w'.cell? ⟨gb277, 0, none⟩ = some (.int .i64 a3_0) ∧ w'.cell? ⟨gb277, 1, none⟩ = some (.int .i64 a3_1)) (ds := []) #[F,F,F,F,F,F,F,F,F,F] (by kernel_rfl) rfl rfl ⟨(blk_cell BK274.out 0).trans rfl, (blk_cell BK274.out 1).trans rfl, (blk_cell BK275.out 0).trans rfl, (blk_cell BK275.out 1).trans rfl, (blk_cell BK276.out 0).trans rfl, (blk_cell BK276.out 1).trans rfl, (blk_cell BK277.out 0).trans rfl, (blk_cell BK277.out 1).trans rfl⟩ (fun hHeld => ?_); refine with_tabW impl_edgesMeet.tab1 impl_edgesMeet.bits1 (fun HT_ HW_ => ?_)
 generalize w13.drew = w14 at BK274 BK275 BK276 BK277 HB hHeld ⊢
 refine take_ (i := 0) (N := some 13) (v := ?_) (a' := ?_) #[T,F,F,F,F,F,F,F,F,F] rfl rfl (take_ofW HT_.out HW_.out (by kernel_rfl)) (fun _ _ _ h => h) (Or.inl ⟨by rfl, ?_⟩) hHeld ?_ ?_
 rotate_left
 ·rintro w' ⟨s0, s1, s2, s3, s4, s5, s6, s7⟩
  go_simp
  with_reducible rfl
 rotate_left
 ·simp only [NS]
  rfl
 refine take_ (i := 1) (N := some 14) (v := ?_) (a' := ?_) #[T,T,F,F,F,F,F,F,F,F] rfl rfl (take_ofW HT_.out HW_.out (by kernel_rfl)) (fun _ _ _ h => h) (Or.inl ⟨by rfl, ?_⟩) hHeld ?_ ?_
 rotate_left
 ·rintro w' ⟨s0, s1, s2, s3, s4, s5, s6, s7⟩
  go_simp
  with_reducible rfl
 rotate_left
 ·simp only [NS]
  rfl
 refine take_ (i := 2) (N := some 15) (v := ?_) (a' := ?_) #[T,T,T,F,F,F,F,F,F,F] rfl rfl (take_ofW HT_.out HW_.out (by kernel_rfl)) (fun _ _ _ h => h) (Or.inl ⟨by rfl, ?_⟩) hHeld ?_ ?_
 rotate_left
 ·rintro w' ⟨s0, s1, s2, s3, s4, s5, s6, s7⟩
  go_simp
  with_reducible rfl
 rotate_left
 ·simp only [NS]
  rfl
 refine take_ (i := 4) (N := some 17) (v := ?_) (a' := ?_) #[T,T,T,F,T,F,F,F,F,F] rfl rfl (take_ofW HT_.out HW_.out (by kernel_rfl)) (fun _ _ _ h => h) (Or.inl ⟨by rfl, ?_⟩) hHeld ?_ ?_
 rotate_left
 ·rintro w' ⟨s0, s1, s2, s3, s4, s5, s6, s7⟩
  go_simp
  with_reducible rfl
 rotate_left
 ·simp only [NS]
  rfl
 refine take_ (i := 5) (N := some 18) (v := ?_) (a' := ?_) #[T,T,T,F,T,T,F,F,F,F] rfl rfl (take_ofW HT_.out HW_.out (by kernel_rfl)) (fun _ _ _ h => h) (Or.inl ⟨by rfl, ?_⟩) hHeld ?_ ?_
 rotate_left
 ·rintro w' ⟨s0, s1, s2, s3, s4, s5, s6, s7⟩
  go_simp
  with_reducible rfl
 rotate_left
 ·simp only [NS]
  rfl
 refine take_ (i := 6) (N := some 19) (v := ?_) (a' := ?_) #[T,T,T,F,T,T,T,F,F,F] rfl rfl (take_ofW HT_.out HW_.out (by kernel_rfl)) (fun _ _ _ h => h) (Or.inl ⟨by rfl, ?_⟩) hHeld ?_ ?_
 rotate_left
 ·rintro w' ⟨s0, s1, s2, s3, s4, s5, s6, s7⟩
  go_simp
  with_reducible rfl
 rotate_left
 ·simp only [NS]
  rfl
 refine one_ (i := 3) (N := some 16) #[T,T,T,T,T,T,T,F,F,F] rfl rfl (one_of HT_.out (by kernel_rfl)) (by decide) (fun K hK => ?_)
 refine goes_ Try.func50 (by kernel_rfl) rfl #[.agg #[.int .i64 a0_0, .int .i64 a0_1], .agg #[.int .i64 a1_0, .int .i64 a1_1], .agg #[.int .i64 a2_0, .int .i64 a2_1]] (by rfl) rfl rfl (by (try simp only [List.map_toArray, List.map_cons, List.map_nil]); first | done | rfl | (simp only [List.length_drop, List.length_take]; rfl)) ?_
 with_reducible refine (impl_turnAt.calls a0_0 a0_1 a1_0 a1_1 a2_0 a2_1 t278 _ A5.out).mono ?_
 rintro e w15 ⟨rfl, hb⟩
 refine ⟨_, rfl, ?_⟩
 have n0_ := pB BK274 hb
 have n1_ := pB BK275 hb
 have n2_ := pB BK276 hb
 have n3_ := pB BK277 hb
 have n4_ := pS HB hb
 clear BK274
 clear BK275
 clear BK276
 clear BK277
 clear HB
 have BK274 := n0_
 have BK275 := n1_
 have BK276 := n2_
 have BK277 := n3_
 have HB := n4_
 clear n0_ n1_ n2_ n3_ n4_
 (try clear hb)
 (try clear hb2)
 (try clear hk)
 (try clear hi)
 refine hK.out _ _ ⟨(blk_cell BK274.out 0).trans rfl, (blk_cell BK274.out 1).trans rfl, (blk_cell BK275.out 0).trans rfl, (blk_cell BK275.out 1).trans rfl, (blk_cell BK276.out 0).trans rfl, (blk_cell BK276.out 1).trans rfl, (blk_cell BK277.out 0).trans rfl, (blk_cell BK277.out 1).trans rfl⟩ (fun hHeld => ?_)
 clear hK K
 refine norm_ (a' := ?_) ?_ ?_
 rotate_left
 ·show Act.put _ (some 16) _ = _
  simp only [NS]
  rfl
 refine one_ (i := 7) (N := some 20) #[T,T,T,T,T,T,T,T,F,F] rfl rfl (one_of HT_.out (by kernel_rfl)) (by decide) (fun K hK => ?_)
 refine goes_ Try.func50 (by kernel_rfl) rfl #[.agg #[.int .i64 a0_0, .int .i64 a0_1], .agg #[.int .i64 a1_0, .int .i64 a1_1], .agg #[.int .i64 a3_0, .int .i64 a3_1]] (by rfl) rfl rfl (by (try simp only [List.map_toArray, List.map_cons, List.map_nil]); first | done | rfl | (simp only [List.length_drop, List.length_take]; rfl)) ?_
 with_reducible refine (impl_turnAt.calls a0_0 a0_1 a1_0 a1_1 a3_0 a3_1 t279 _ A6.out).mono ?_
 rintro e w16 ⟨rfl, hb⟩
 refine ⟨_, rfl, ?_⟩
 have n0_ := pB BK274 hb
 have n1_ := pB BK275 hb
 have n2_ := pB BK276 hb
 have n3_ := pB BK277 hb
 have n4_ := pS HB hb
 clear BK274
 clear BK275
 clear BK276
 clear BK277
 clear HB
 have BK274 := n0_
 have BK275 := n1_
 have BK276 := n2_
 have BK277 := n3_
 have HB := n4_
 clear n0_ n1_ n2_ n3_ n4_
 (try clear hb)
 (try clear hb2)
 (try clear hk)
 (try clear hi)
 refine hK.out _ _ ⟨(blk_cell BK274.out 0).trans rfl, (blk_cell BK274.out 1).trans rfl, (blk_cell BK275.out 0).trans rfl, (blk_cell BK275.out 1).trans rfl, (blk_cell BK276.out 0).trans rfl, (blk_cell BK276.out 1).trans rfl, (blk_cell BK277.out 0).trans rfl, (blk_cell BK277.out 1).trans rfl⟩ (fun hHeld => ?_)
 clear hK K
 refine norm_ (a' := ?_) ?_ ?_
 rotate_left
 ·show Act.put _ (some 20) _ = _
  simp only [NS]
  rfl
 refine pure_ (i := 8) (N := some 9) (v := ?_) (a' := ?_) #[T,T,T,T,T,T,T,T,T,F] rfl rfl (any_of HT_.out (by kernel_rfl)) (fun _ _ _ h => h) (Or.inl ⟨by rfl, ?_⟩) ?_ ?_
 rotate_left
 ·intro w'
  go_simp
  with_reducible rfl
 rotate_left
 ·simp only [NS]
  rfl
 refine pure_ (i := 9) (N := some 10) (v := ?_) (a' := ?_) #[T,T,T,T,T,T,T,T,T,T] rfl rfl (any_of HT_.out (by kernel_rfl)) (fun _ _ _ h => h) (Or.inl ⟨by rfl, ?_⟩) ?_ ?_
 rotate_left
 ·intro w'
  go_simp
  with_reducible rfl
 rotate_left
 ·simp only [NS]
  rfl
 refine done_ (done_of HT_.out (by kernel_rfl)) ?_
 try go_wp2
 have n0_ := Aside0.mk (blk_drew BK274.out)
 have n1_ := Aside0.mk (blk_drew BK275.out)
 have n2_ := Aside0.mk (blk_drew BK276.out)
 have n3_ := Aside0.mk (blk_drew BK277.out)
 have n4_ := Aside0.mk (below_drew1 HB.out)
 clear BK274
 clear BK275
 clear BK276
 clear BK277
 clear HB
 have BK274 := n0_
 have BK275 := n1_
 have BK276 := n2_
 have BK277 := n3_
 have HB := n4_
 clear n0_ n1_ n2_ n3_ n4_
 refine start_ (n := 10) (S := fun w' => w'.cell? ⟨gb276, 0, none⟩ = some (.int .i64 a2_0) ∧ w'.cell? ⟨gb276, 1, none⟩ = some (.int .i64 a2_1) ∧ w'.cell? ⟨gb277, 0, none⟩ = some (.int .i64 a3_0) ∧ w'.cell? ⟨gb277, 1, none⟩ = some (.int .i64 a3_1) ∧ w'.cell? ⟨gb274, 0, none⟩ = some (.int .i64 a0_0) ∧ w'.cell? ⟨gb274, 1, none⟩ = some (.int .i64 a0_1) ∧ w'.cell? ⟨gb275, 0, none⟩ = some (.int .i64 a1_0) ∧ w'.cell? ⟨gb275, 1, none⟩ = some (.int .i64 a1_1)) (ds := []) #[F,F,F,F,F,F,F,F,F,F] (by kernel_rfl) rfl rfl ⟨(blk_cell BK276.out 0).trans rfl, (blk_cell BK276.out 1).trans rfl, (blk_cell BK277.out 0).trans rfl, (blk_cell BK277.out 1).trans rfl, (blk_cell BK274.out 0).trans rfl, (blk_cell BK274.out 1).trans rfl, (blk_cell BK275.out 0).trans rfl, (blk_cell BK275.out 1).trans rfl⟩ (fun hHeld => ?_); refine with_tabW impl_edgesMeet.tab2 impl_edgesMeet.bits2 (fun HT_ HW_ => ?_)
 generalize w16.drew = w17 at BK274 BK275 BK276 BK277 HB hHeld ⊢
 refine take_ (i := 0) (N := some 21) (v := ?_) (a' := ?_) #[T,F,F,F,F,F,F,F,F,F] rfl rfl (take_ofW HT_.out HW_.out (by kernel_rfl)) (fun _ _ _ h => h) (Or.inl ⟨by rfl, ?_⟩) hHeld ?_ ?_
 rotate_left
 ·rintro w' ⟨s0, s1, s2, s3, s4, s5, s6, s7⟩
  go_simp
  with_reducible rfl
 rotate_left
 ·simp only [NS]
  rfl
 refine take_ (i := 1) (N := some 22) (v := ?_) (a' := ?_) #[T,T,F,F,F,F,F,F,F,F] rfl rfl (take_ofW HT_.out HW_.out (by kernel_rfl)) (fun _ _ _ h => h) (Or.inl ⟨by rfl, ?_⟩) hHeld ?_ ?_
 rotate_left
 ·rintro w' ⟨s0, s1, s2, s3, s4, s5, s6, s7⟩
  go_simp
  with_reducible rfl
 rotate_left
 ·simp only [NS]
  rfl
 refine take_ (i := 2) (N := some 23) (v := ?_) (a' := ?_) #[T,T,T,F,F,F,F,F,F,F] rfl rfl (take_ofW HT_.out HW_.out (by kernel_rfl)) (fun _ _ _ h => h) (Or.inl ⟨by rfl, ?_⟩) hHeld ?_ ?_
 rotate_left
 ·rintro w' ⟨s0, s1, s2, s3, s4, s5, s6, s7⟩
  go_simp
  with_reducible rfl
 rotate_left
 ·simp only [NS]
  rfl
 refine take_ (i := 4) (N := some 25) (v := ?_) (a' := ?_) #[T,T,T,F,T,F,F,F,F,F] rfl rfl (take_ofW HT_.out HW_.out (by kernel_rfl)) (fun _ _ _ h => h) (Or.inl ⟨by rfl, ?_⟩) hHeld ?_ ?_
 rotate_left
 ·rintro w' ⟨s0, s1, s2, s3, s4, s5, s6, s7⟩
  go_simp
  with_reducible rfl
 rotate_left
 ·simp only [NS]
  rfl
 refine take_ (i := 5) (N := some 26) (v := ?_) (a' := ?_) #[T,T,T,F,T,T,F,F,F,F] rfl rfl (take_ofW HT_.out HW_.out (by kernel_rfl)) (fun _ _ _ h => h) (Or.inl ⟨by rfl, ?_⟩) hHeld ?_ ?_
 rotate_left
 ·rintro w' ⟨s0, s1, s2, s3, s4, s5, s6, s7⟩
  go_simp
  with_reducible rfl
 rotate_left
 ·simp only [NS]
  rfl
 refine take_ (i := 6) (N := some 27) (v := ?_) (a' := ?_) #[T,T,T,F,T,T,T,F,F,F] rfl rfl (take_ofW HT_.out HW_.out (by kernel_rfl)) (fun _ _ _ h => h) (Or.inl ⟨by rfl, ?_⟩) hHeld ?_ ?_
 rotate_left
 ·rintro w' ⟨s0, s1, s2, s3, s4, s5, s6, s7⟩
  go_simp
  with_reducible rfl
 rotate_left
 ·simp only [NS]
  rfl
 refine one_ (i := 3) (N := some 24) #[T,T,T,T,T,T,T,F,F,F] rfl rfl (one_of HT_.out (by kernel_rfl)) (by decide) (fun K hK => ?_)
 refine goes_ Try.func50 (by kernel_rfl) rfl #[.agg #[.int .i64 a2_0, .int .i64 a2_1], .agg #[.int .i64 a3_0, .int .i64 a3_1], .agg #[.int .i64 a0_0, .int .i64 a0_1]] (by rfl) rfl rfl (by (try simp only [List.map_toArray, List.map_cons, List.map_nil]); first | done | rfl | (simp only [List.length_drop, List.length_take]; rfl)) ?_
 with_reducible refine (impl_turnAt.calls a2_0 a2_1 a3_0 a3_1 a0_0 a0_1 t280 _ A7.out).mono ?_
 rintro e w18 ⟨rfl, hb⟩
 refine ⟨_, rfl, ?_⟩
 have n0_ := pB BK274 hb
 have n1_ := pB BK275 hb
 have n2_ := pB BK276 hb
 have n3_ := pB BK277 hb
 have n4_ := pS HB hb
 clear BK274
 clear BK275
 clear BK276
 clear BK277
 clear HB
 have BK274 := n0_
 have BK275 := n1_
 have BK276 := n2_
 have BK277 := n3_
 have HB := n4_
 clear n0_ n1_ n2_ n3_ n4_
 (try clear hb)
 (try clear hb2)
 (try clear hk)
 (try clear hi)
 refine hK.out _ _ ⟨(blk_cell BK276.out 0).trans rfl, (blk_cell BK276.out 1).trans rfl, (blk_cell BK277.out 0).trans rfl, (blk_cell BK277.out 1).trans rfl, (blk_cell BK274.out 0).trans rfl, (blk_cell BK274.out 1).trans rfl, (blk_cell BK275.out 0).trans rfl, (blk_cell BK275.out 1).trans rfl⟩ (fun hHeld => ?_)
 clear hK K
 refine norm_ (a' := ?_) ?_ ?_
 rotate_left
 ·show Act.put _ (some 24) _ = _
  simp only [NS]
  rfl
 refine one_ (i := 7) (N := some 28) #[T,T,T,T,T,T,T,T,F,F] rfl rfl (one_of HT_.out (by kernel_rfl)) (by decide) (fun K hK => ?_)
 refine goes_ Try.func50 (by kernel_rfl) rfl #[.agg #[.int .i64 a2_0, .int .i64 a2_1], .agg #[.int .i64 a3_0, .int .i64 a3_1], .agg #[.int .i64 a1_0, .int .i64 a1_1]] (by rfl) rfl rfl (by (try simp only [List.map_toArray, List.map_cons, List.map_nil]); first | done | rfl | (simp only [List.length_drop, List.length_take]; rfl)) ?_
 with_reducible refine (impl_turnAt.calls a2_0 a2_1 a3_0 a3_1 a1_0 a1_1 t281 _ A8.out).mono ?_
 rintro e w19 ⟨rfl, hb⟩
 refine ⟨_, rfl, ?_⟩
 have n0_ := pB BK274 hb
 have n1_ := pB BK275 hb
 have n2_ := pB BK276 hb
 have n3_ := pB BK277 hb
 have n4_ := pS HB hb
 clear BK274
 clear BK275
 clear BK276
 clear BK277
 clear HB
 have BK274 := n0_
 have BK275 := n1_
 have BK276 := n2_
 have BK277 := n3_
 have HB := n4_
 clear n0_ n1_ n2_ n3_ n4_
 (try clear hb)
 (try clear hb2)
 (try clear hk)
 (try clear hi)
 refine hK.out _ _ ⟨(blk_cell BK276.out 0).trans rfl, (blk_cell BK276.out 1).trans rfl, (blk_cell BK277.out 0).trans rfl, (blk_cell BK277.out 1).trans rfl, (blk_cell BK274.out 0).trans rfl, (blk_cell BK274.out 1).trans rfl, (blk_cell BK275.out 0).trans rfl, (blk_cell BK275.out 1).trans rfl⟩ (fun hHeld => ?_)
 clear hK K
 refine norm_ (a' := ?_) ?_ ?_
 rotate_left
 ·show Act.put _ (some 28) _ = _
  simp only [NS]
  rfl
 refine pure_ (i := 8) (N := some 11) (v := ?_) (a' := ?_) #[T,T,T,T,T,T,T,T,T,F] rfl rfl (any_of HT_.out (by kernel_rfl)) (fun _ _ _ h => h) (Or.inl ⟨by rfl, ?_⟩) ?_ ?_
 rotate_left
 ·intro w'
  go_simp
  with_reducible rfl
 rotate_left
 ·simp only [NS]
  rfl
 refine pure_ (i := 9) (N := some 12) (v := ?_) (a' := ?_) #[T,T,T,T,T,T,T,T,T,T] rfl rfl (any_of HT_.out (by kernel_rfl)) (fun _ _ _ h => h) (Or.inl ⟨by rfl, ?_⟩) ?_ ?_
 rotate_left
 ·intro w'
  go_simp
  with_reducible rfl
 rotate_left
 ·simp only [NS]
  rfl
 refine done_ (done_of HT_.out (by kernel_rfl)) ?_
 go_upto_region 3 with (fail)
 go_cut [42] (fun v42 wc => ∃ (kq : Nat) (x42_8 : Bool), v42 = .bool x42_8 ∧ Aside0 (impl_edgesMeet.j0 kq t278 t279 t280 t281 x42_8 a0_0 a0_1 a1_0 a1_1 a2_0 a2_1 a3_0 a3_1 = some r) ∧ Aside0 (kq ≤ k) ∧ Aside0 (wc.heap[gb274]? = some (.cells #[.int .i64 a0_0, .int .i64 a0_1] 77 (0, 0))) ∧ Aside0 (wc.heap[gb275]? = some (.cells #[.int .i64 a1_0, .int .i64 a1_1] 77 (0, 0))) ∧ Aside0 (wc.heap[gb276]? = some (.cells #[.int .i64 a2_0, .int .i64 a2_1] 77 (0, 0))) ∧ Aside0 (wc.heap[gb277]? = some (.cells #[.int .i64 a3_0, .int .i64 a3_1] 77 (0, 0))) ∧ Aside0 (Below w.heap.size w wc))
 case first =>
  have H := HC9.out
  clear HC9
  replace H := Option.bind_eq_some_iff.mp H
  obtain ⟨t282, A200, H⟩ := H
  replace H : ((impl_sign.f t279).bind fun t283 => (if (wrap64 (t282 * t283)) < 0 then ((impl_sign.f t280).bind fun t284 => ((impl_sign.f t281).bind fun t285 => (impl_edgesMeet.j0 k t278 t279 t280 t281 (decide ((wrap64 (t284 * t285)) < 0)) a0_0 a0_1 a1_0 a1_1 a2_0 a2_1 a3_0 a3_1))) else (impl_edgesMeet.j0 k t278 t279 t280 t281 false a0_0 a0_1 a1_0 a1_1 a2_0 a2_1 a3_0 a3_1))) = some r := H
  have A20 := Aside0.mk A200
  clear A200
  replace H := Option.bind_eq_some_iff.mp H
  obtain ⟨t283, A210, H⟩ := H
  replace H : (if (wrap64 (t282 * t283)) < 0 then ((impl_sign.f t280).bind fun t284 => ((impl_sign.f t281).bind fun t285 => (impl_edgesMeet.j0 k t278 t279 t280 t281 (decide ((wrap64 (t284 * t285)) < 0)) a0_0 a0_1 a1_0 a1_1 a2_0 a2_1 a3_0 a3_1))) else (impl_edgesMeet.j0 k t278 t279 t280 t281 false a0_0 a0_1 a1_0 a1_1 a2_0 a2_1 a3_0 a3_1)) = some r := H
  have A21 := Aside0.mk A210
  clear A210
  by_cases c22 : (wrap64 (t282 * t283)) < 0
  ·rw [if_pos c22] at H
   have c22b0 : decide ((wrap64 (t282 * t283)) < 0) = true := decide_eq_true c22
   clear c22
   (first | rw [c22b0] | (simp only [i64_w, i32_w]; rw [c22b0]) | skip)
   replace H := Option.bind_eq_some_iff.mp H
   obtain ⟨t284, A230, H⟩ := H
   replace H : ((impl_sign.f t281).bind fun t285 => (impl_edgesMeet.j0 k t278 t279 t280 t281 (decide ((wrap64 (t284 * t285)) < 0)) a0_0 a0_1 a1_0 a1_1 a2_0 a2_1 a3_0 a3_1)) = some r := H
   have A23 := Aside0.mk A230
   clear A230
   replace H := Option.bind_eq_some_iff.mp H
   obtain ⟨t285, A240, H⟩ := H
   replace H : (impl_edgesMeet.j0 k t278 t279 t280 t281 (decide ((wrap64 (t284 * t285)) < 0)) a0_0 a0_1 a1_0 a1_1 a2_0 a2_1 a3_0 a3_1) = some r := H
   have A24 := Aside0.mk A240
   clear A240
   have H' := Aside0.mk H
   clear H
   go_wp2_with (first | ((with_reducible refine gate_callee (f := 68) rfl ?_); refine goesL_ (some 30) rfl rfl Try.func68 (by kernel_rfl) rfl #[.int .i64 t278] rfl (by (try simp only [List.map_toArray, List.map_cons, List.map_nil]); first | done | rfl | (simp only [List.length_drop, List.length_take]; rfl)) ?_; (with_reducible refine (impl_sign.calls t278 t282 _ A20.out).mono ?_); rintro e w' ⟨rfl, ⟨nd, rfl⟩⟩; refine ⟨_, rfl, ?_⟩) | ((with_reducible refine gate_callee (f := 68) rfl ?_); refine goesL_ (some 32) rfl rfl Try.func68 (by kernel_rfl) rfl #[.int .i64 t279] rfl (by (try simp only [List.map_toArray, List.map_cons, List.map_nil]); first | done | rfl | (simp only [List.length_drop, List.length_take]; rfl)) ?_; (with_reducible refine (impl_sign.calls t279 t283 _ A21.out).mono ?_); rintro e w' ⟨rfl, ⟨nd, rfl⟩⟩; refine ⟨_, rfl, ?_⟩) | (go_at_call 68; (with_reducible refine (impl_sign.calls t280 t284 _ A23.out).mono ?_); rintro e w' ⟨rfl, ⟨nd, rfl⟩⟩) | (go_at_call 68; (with_reducible refine (impl_sign.calls t281 t285 _ A24.out).mono ?_); rintro e w' ⟨rfl, ⟨nd, rfl⟩⟩))
   go_meet
   case rel => exact ⟨_, (decide ((wrap64 (t284 * t285)) < 0)), (by first | rfl | (simp; done) | (simp [*]; done)), H', ⟨by first | omega | exact Nat.le_refl _⟩, ⟨by (with_reducible repeat (first | refine blk_drewN ?_ _ | refine blk_drew ?_ | refine blk_alloc ?_ _)); exact BK274.out⟩, ⟨by (with_reducible repeat (first | refine blk_drewN ?_ _ | refine blk_drew ?_ | refine blk_alloc ?_ _)); exact BK275.out⟩, ⟨by (with_reducible repeat (first | refine blk_drewN ?_ _ | refine blk_drew ?_ | refine blk_alloc ?_ _)); exact BK276.out⟩, ⟨by (with_reducible repeat (first | refine blk_drewN ?_ _ | refine blk_drew ?_ | refine blk_alloc ?_ _)); exact BK277.out⟩, ⟨by repeat (first | (with_reducible first | exact HB.out | apply below_alloc | apply pw_below_drewN | apply below_drew1 | refine below_set ?_ GE274.out | refine below_set ?_ GE275.out | refine below_set ?_ GE276.out | refine below_set ?_ GE277.out) | exact HB.out)⟩⟩
  ·rw [if_neg c22] at H
   have c22b0 : decide ((wrap64 (t282 * t283)) < 0) = false := decide_eq_false c22
   clear c22
   (first | rw [c22b0] | (simp only [i64_w, i32_w]; rw [c22b0]) | skip)
   have H' := Aside0.mk H
   clear H
   go_wp2_with (first | ((with_reducible refine gate_callee (f := 68) rfl ?_); refine goesL_ (some 30) rfl rfl Try.func68 (by kernel_rfl) rfl #[.int .i64 t278] rfl (by (try simp only [List.map_toArray, List.map_cons, List.map_nil]); first | done | rfl | (simp only [List.length_drop, List.length_take]; rfl)) ?_; (with_reducible refine (impl_sign.calls t278 t282 _ A20.out).mono ?_); rintro e w' ⟨rfl, ⟨nd, rfl⟩⟩; refine ⟨_, rfl, ?_⟩) | ((with_reducible refine gate_callee (f := 68) rfl ?_); refine goesL_ (some 32) rfl rfl Try.func68 (by kernel_rfl) rfl #[.int .i64 t279] rfl (by (try simp only [List.map_toArray, List.map_cons, List.map_nil]); first | done | rfl | (simp only [List.length_drop, List.length_take]; rfl)) ?_; (with_reducible refine (impl_sign.calls t279 t283 _ A21.out).mono ?_); rintro e w' ⟨rfl, ⟨nd, rfl⟩⟩; refine ⟨_, rfl, ?_⟩))
   go_meet
   case rel => exact ⟨_, (false), (by first | rfl | (simp; done) | (simp [*]; done)), H', ⟨by first | omega | exact Nat.le_refl _⟩, ⟨by (with_reducible repeat (first | refine blk_drewN ?_ _ | refine blk_drew ?_ | refine blk_alloc ?_ _)); exact BK274.out⟩, ⟨by (with_reducible repeat (first | refine blk_drewN ?_ _ | refine blk_drew ?_ | refine blk_alloc ?_ _)); exact BK275.out⟩, ⟨by (with_reducible repeat (first | refine blk_drewN ?_ _ | refine blk_drew ?_ | refine blk_alloc ?_ _)); exact BK276.out⟩, ⟨by (with_reducible repeat (first | refine blk_drewN ?_ _ | refine blk_drew ?_ | refine blk_alloc ?_ _)); exact BK277.out⟩, ⟨by repeat (first | (with_reducible first | exact HB.out | apply below_alloc | apply pw_below_drewN | apply below_drew1 | refine below_set ?_ GE274.out | refine below_set ?_ GE275.out | refine below_set ?_ GE276.out | refine below_set ?_ GE277.out) | exact HB.out)⟩⟩
 case rest =>
  clear HC9
  try clear c2
  try clear p2
  try clear c5
  try clear c6
  try clear p6
  try clear c22
  try clear c22b0
  obtain ⟨kq, x42_8, rfl, HA, HJ8, BK274, BK275, BK276, BK277, HB⟩ := hcut
  cases kq with
  | zero => exact absurd HA.out (by simp [impl_edgesMeet.j0])
  | succ kj8 =>
   have H := HA.out
   clear HA
   simp only [impl_edgesMeet.j0] at H
   by_cases c25 : x42_8 = true
   ·subst c25
    have H1 : (some true) = some r := by rw [if_pos rfl] at H; exact H
    clear H
    have H := H1
    clear H1
    obtain rfl := Option.some.inj H
    simp only [Option.some.injEq, Prod.mk.injEq] at H
    obtain ⟨rfl⟩ := H
    go_wp2
    go_ret
    exact ⟨by first | rfl | (simp [errW_none, errW_some] <;> rfl) | (simp [*, errW_none, errW_some] <;> rfl), pR HB⟩
   ·replace c25 := Bool.eq_false_iff.mpr c25
    subst c25
    have H1 : (if t278 = 0 then ((impl_between.f a0_0 a0_1 a1_0 a1_1 a2_0 a2_1).bind fun t286 => (if t286 = true then (some true) else (if t279 = 0 then ((impl_between.f a0_0 a0_1 a1_0 a1_1 a3_0 a3_1).bind fun t287 => (if t287 = true then (some true) else (if t280 = 0 then ((impl_between.f a2_0 a2_1 a3_0 a3_1 a0_0 a0_1).bind fun t288 => (if t288 = true then (some true) else (if t281 = 0 then ((impl_between.f a2_0 a2_1 a3_0 a3_1 a1_0 a1_1).bind fun t289 => (some t289)) else (some false)))) else (if t281 = 0 then ((impl_between.f a2_0 a2_1 a3_0 a3_1 a1_0 a1_1).bind fun t290 => (some t290)) else (some false))))) else (if t280 = 0 then ((impl_between.f a2_0 a2_1 a3_0 a3_1 a0_0 a0_1).bind fun t291 => (if t291 = true then (some true) else (if t281 = 0 then ((impl_between.f a2_0 a2_1 a3_0 a3_1 a1_0 a1_1).bind fun t292 => (some t292)) else (some false)))) else (if t281 = 0 then ((impl_between.f a2_0 a2_1 a3_0 a3_1 a1_0 a1_1).bind fun t293 => (some t293)) else (some false)))))) else (if t279 = 0 then ((impl_between.f a0_0 a0_1 a1_0 a1_1 a3_0 a3_1).bind fun t294 => (if t294 = true then (some true) else (if t280 = 0 then ((impl_between.f a2_0 a2_1 a3_0 a3_1 a0_0 a0_1).bind fun t295 => (if t295 = true then (some true) else (if t281 = 0 then ((impl_between.f a2_0 a2_1 a3_0 a3_1 a1_0 a1_1).bind fun t296 => (some t296)) else (some false)))) else (if t281 = 0 then ((impl_between.f a2_0 a2_1 a3_0 a3_1 a1_0 a1_1).bind fun t297 => (some t297)) else (some false))))) else (if t280 = 0 then ((impl_between.f a2_0 a2_1 a3_0 a3_1 a0_0 a0_1).bind fun t298 => (if t298 = true then (some true) else (if t281 = 0 then ((impl_between.f a2_0 a2_1 a3_0 a3_1 a1_0 a1_1).bind fun t299 => (some t299)) else (some false)))) else (if t281 = 0 then ((impl_between.f a2_0 a2_1 a3_0 a3_1 a1_0 a1_1).bind fun t300 => (some t300)) else (some false))))) = some r := by rw [if_neg (show ¬ (false = true) by decide)] at H; exact H
    clear H
    have H := H1
    clear H1
    by_cases c26 : t278 = 0
    ·rw [if_pos c26] at H
     have c26b0 : (t278 == 0) = true := beq_iff_eq.mpr c26
     have c26b1 : (t278 != 0) = false := bne_eq_false_iff_eq.mpr c26
     clear c26
     replace H := Option.bind_eq_some_iff.mp H
     obtain ⟨t286, A270, H⟩ := H
     replace H : (if t286 = true then (some true) else (if t279 = 0 then ((impl_between.f a0_0 a0_1 a1_0 a1_1 a3_0 a3_1).bind fun t287 => (if t287 = true then (some true) else (if t280 = 0 then ((impl_between.f a2_0 a2_1 a3_0 a3_1 a0_0 a0_1).bind fun t288 => (if t288 = true then (some true) else (if t281 = 0 then ((impl_between.f a2_0 a2_1 a3_0 a3_1 a1_0 a1_1).bind fun t289 => (some t289)) else (some false)))) else (if t281 = 0 then ((impl_between.f a2_0 a2_1 a3_0 a3_1 a1_0 a1_1).bind fun t290 => (some t290)) else (some false))))) else (if t280 = 0 then ((impl_between.f a2_0 a2_1 a3_0 a3_1 a0_0 a0_1).bind fun t291 => (if t291 = true then (some true) else (if t281 = 0 then ((impl_between.f a2_0 a2_1 a3_0 a3_1 a1_0 a1_1).bind fun t292 => (some t292)) else (some false)))) else (if t281 = 0 then ((impl_between.f a2_0 a2_1 a3_0 a3_1 a1_0 a1_1).bind fun t293 => (some t293)) else (some false))))) = some r := H
     have A27 := Aside0.mk A270
     clear A270
     by_cases c28 : t286 = true
     ·subst c28
      have H1 : (some true) = some r := by rw [if_pos rfl] at H; exact H
      clear H
      have H := H1
      clear H1
      obtain rfl := Option.some.inj H
      simp only [Option.some.injEq, Prod.mk.injEq] at H
      obtain ⟨rfl⟩ := H
      have hnb29 := NB274_275.out
      have hnc29 := NB275_274.out
      have hnb30 := NB274_276.out
      have hnc30 := NB276_274.out
      have hnb31 := NB274_277.out
      have hnc31 := NB277_274.out
      obtain ⟨hcz32_0, hcz32_1, hfz32_0, hfz32_1⟩ := cz2 BK274
      have hnb33 := NB275_276.out
      have hnc33 := NB276_275.out
      have hnb34 := NB275_277.out
      have hnc34 := NB277_275.out
      obtain ⟨hcz35_0, hcz35_1, hfz35_0, hfz35_1⟩ := cz2 BK275
      have hnb36 := NB276_277.out
      have hnc36 := NB277_276.out
      obtain ⟨hcz37_0, hcz37_1, hfz37_0, hfz37_1⟩ := cz2 BK276
      go_wp2_with (first | (go_at_call 69; (with_reducible refine (impl_between.calls a0_0 a0_1 a1_0 a1_1 a2_0 a2_1 true _ A27.out).mono ?_); rintro e w38 ⟨rfl, hb⟩; have n0_ := pB BK274 hb; have n1_ := pB BK275 hb; have n2_ := pB BK276 hb; have n3_ := pB BK277 hb; have n4_ := pS HB hb; clear BK274 BK275; clear BK276 BK277 HB; have BK274 := n0_; have BK275 := n1_; have BK276 := n2_; have BK277 := n3_; have HB := n4_; clear n0_ n1_ n2_ n3_ n4_; (try clear hb); (try clear hb2); (try clear hk); (try clear hi)))
      go_ret
      exact ⟨by first | rfl | (simp [errW_none, errW_some] <;> rfl) | (simp [*, errW_none, errW_some] <;> rfl), pR HB⟩
     ·replace c28 := Bool.eq_false_iff.mpr c28
      subst c28
      have H1 : (if t279 = 0 then ((impl_between.f a0_0 a0_1 a1_0 a1_1 a3_0 a3_1).bind fun t287 => (if t287 = true then (some true) else (if t280 = 0 then ((impl_between.f a2_0 a2_1 a3_0 a3_1 a0_0 a0_1).bind fun t288 => (if t288 = true then (some true) else (if t281 = 0 then ((impl_between.f a2_0 a2_1 a3_0 a3_1 a1_0 a1_1).bind fun t289 => (some t289)) else (some false)))) else (if t281 = 0 then ((impl_between.f a2_0 a2_1 a3_0 a3_1 a1_0 a1_1).bind fun t290 => (some t290)) else (some false))))) else (if t280 = 0 then ((impl_between.f a2_0 a2_1 a3_0 a3_1 a0_0 a0_1).bind fun t291 => (if t291 = true then (some true) else (if t281 = 0 then ((impl_between.f a2_0 a2_1 a3_0 a3_1 a1_0 a1_1).bind fun t292 => (some t292)) else (some false)))) else (if t281 = 0 then ((impl_between.f a2_0 a2_1 a3_0 a3_1 a1_0 a1_1).bind fun t293 => (some t293)) else (some false)))) = some r := by rw [if_neg (show ¬ (false = true) by decide)] at H; exact H
      clear H
      have H := H1
      clear H1
      by_cases c39 : t279 = 0
      ·rw [if_pos c39] at H
       have c39b0 : (t279 == 0) = true := beq_iff_eq.mpr c39
       have c39b1 : (t279 != 0) = false := bne_eq_false_iff_eq.mpr c39
       clear c39
       replace H := Option.bind_eq_some_iff.mp H
       obtain ⟨t287, A400, H⟩ := H
       replace H : (if t287 = true then (some true) else (if t280 = 0 then ((impl_between.f a2_0 a2_1 a3_0 a3_1 a0_0 a0_1).bind fun t288 => (if t288 = true then (some true) else (if t281 = 0 then ((impl_between.f a2_0 a2_1 a3_0 a3_1 a1_0 a1_1).bind fun t289 => (some t289)) else (some false)))) else (if t281 = 0 then ((impl_between.f a2_0 a2_1 a3_0 a3_1 a1_0 a1_1).bind fun t290 => (some t290)) else (some false)))) = some r := H
       have A40 := Aside0.mk A400
       clear A400
       by_cases c41 : t287 = true
       ·subst c41
        have H1 : (some true) = some r := by rw [if_pos rfl] at H; exact H
        clear H
        have H := H1
        clear H1
        obtain rfl := Option.some.inj H
        simp only [Option.some.injEq, Prod.mk.injEq] at H
        obtain ⟨rfl⟩ := H
        have hnb42 := NB274_275.out
        have hnc42 := NB275_274.out
        have hnb43 := NB274_276.out
        have hnc43 := NB276_274.out
        have hnb44 := NB274_277.out
        have hnc44 := NB277_274.out
        obtain ⟨hcz45_0, hcz45_1, hfz45_0, hfz45_1⟩ := cz2 BK274
        have hnb46 := NB275_276.out
        have hnc46 := NB276_275.out
        have hnb47 := NB275_277.out
        have hnc47 := NB277_275.out
        obtain ⟨hcz48_0, hcz48_1, hfz48_0, hfz48_1⟩ := cz2 BK275
        have hnb49 := NB276_277.out
        have hnc49 := NB277_276.out
        obtain ⟨hcz50_0, hcz50_1, hfz50_0, hfz50_1⟩ := cz2 BK276
        go_wp2_with (first | (go_at_call 69; (with_reducible refine (impl_between.calls a0_0 a0_1 a1_0 a1_1 a2_0 a2_1 false _ A27.out).mono ?_); rintro e w51 ⟨rfl, hb⟩; have n0_ := pB BK274 hb; have n1_ := pB BK275 hb; have n2_ := pB BK276 hb; have n3_ := pB BK277 hb; have n4_ := pS HB hb; clear BK274 BK275; clear BK276 BK277 HB; have BK274 := n0_; have BK275 := n1_; have BK276 := n2_; have BK277 := n3_; have HB := n4_; clear n0_ n1_ n2_ n3_ n4_; (try clear hb); (try clear hb2); (try clear hk); (try clear hi); obtain ⟨hcz52_0, hcz52_1, hfz52_0, hfz52_1⟩ := cz2 BK274; obtain ⟨hcz53_0, hcz53_1, hfz53_0, hfz53_1⟩ := cz2 BK275; obtain ⟨hcz54_0, hcz54_1, hfz54_0, hfz54_1⟩ := cz2 BK277) | (go_at_call 69; (with_reducible refine (impl_between.calls a0_0 a0_1 a1_0 a1_1 a3_0 a3_1 true _ A40.out).mono ?_); rintro e w55 ⟨rfl, hb⟩; have n0_ := pB BK274 hb; have n1_ := pB BK275 hb; have n2_ := pB BK276 hb; have n3_ := pB BK277 hb; have n4_ := pS HB hb; clear BK274 BK275; clear BK276 BK277 HB; have BK274 := n0_; have BK275 := n1_; have BK276 := n2_; have BK277 := n3_; have HB := n4_; clear n0_ n1_ n2_ n3_ n4_; (try clear hb); (try clear hb2); (try clear hk); (try clear hi)))
        go_ret
        exact ⟨by first | rfl | (simp [errW_none, errW_some] <;> rfl) | (simp [*, errW_none, errW_some] <;> rfl), pR HB⟩
       ·replace c41 := Bool.eq_false_iff.mpr c41
        subst c41
        have H1 : (if t280 = 0 then ((impl_between.f a2_0 a2_1 a3_0 a3_1 a0_0 a0_1).bind fun t288 => (if t288 = true then (some true) else (if t281 = 0 then ((impl_between.f a2_0 a2_1 a3_0 a3_1 a1_0 a1_1).bind fun t289 => (some t289)) else (some false)))) else (if t281 = 0 then ((impl_between.f a2_0 a2_1 a3_0 a3_1 a1_0 a1_1).bind fun t290 => (some t290)) else (some false))) = some r := by rw [if_neg (show ¬ (false = true) by decide)] at H; exact H
        clear H
        have H := H1
        clear H1
        by_cases c56 : t280 = 0
        ·rw [if_pos c56] at H
         have c56b0 : (t280 == 0) = true := beq_iff_eq.mpr c56
         have c56b1 : (t280 != 0) = false := bne_eq_false_iff_eq.mpr c56
         clear c56
         replace H := Option.bind_eq_some_iff.mp H
         obtain ⟨t288, A570, H⟩ := H
         replace H : (if t288 = true then (some true) else (if t281 = 0 then ((impl_between.f a2_0 a2_1 a3_0 a3_1 a1_0 a1_1).bind fun t289 => (some t289)) else (some false))) = some r := H
         have A57 := Aside0.mk A570
         clear A570
         by_cases c58 : t288 = true
         ·subst c58
          have H1 : (some true) = some r := by rw [if_pos rfl] at H; exact H
          clear H
          have H := H1
          clear H1
          obtain rfl := Option.some.inj H
          simp only [Option.some.injEq, Prod.mk.injEq] at H
          obtain ⟨rfl⟩ := H
          have hnb59 := NB274_275.out
          have hnc59 := NB275_274.out
          have hnb60 := NB274_276.out
          have hnc60 := NB276_274.out
          have hnb61 := NB274_277.out
          have hnc61 := NB277_274.out
          obtain ⟨hcz62_0, hcz62_1, hfz62_0, hfz62_1⟩ := cz2 BK274
          have hnb63 := NB275_276.out
          have hnc63 := NB276_275.out
          have hnb64 := NB275_277.out
          have hnc64 := NB277_275.out
          obtain ⟨hcz65_0, hcz65_1, hfz65_0, hfz65_1⟩ := cz2 BK275
          have hnb66 := NB276_277.out
          have hnc66 := NB277_276.out
          obtain ⟨hcz67_0, hcz67_1, hfz67_0, hfz67_1⟩ := cz2 BK276
          go_wp2_with (first | (go_at_call 69; (with_reducible refine (impl_between.calls a0_0 a0_1 a1_0 a1_1 a2_0 a2_1 false _ A27.out).mono ?_); rintro e w68 ⟨rfl, hb⟩; have n0_ := pB BK274 hb; have n1_ := pB BK275 hb; have n2_ := pB BK276 hb; have n3_ := pB BK277 hb; have n4_ := pS HB hb; clear BK274 BK275; clear BK276 BK277 HB; have BK274 := n0_; have BK275 := n1_; have BK276 := n2_; have BK277 := n3_; have HB := n4_; clear n0_ n1_ n2_ n3_ n4_; (try clear hb); (try clear hb2); (try clear hk); (try clear hi); obtain ⟨hcz69_0, hcz69_1, hfz69_0, hfz69_1⟩ := cz2 BK274; obtain ⟨hcz70_0, hcz70_1, hfz70_0, hfz70_1⟩ := cz2 BK275; obtain ⟨hcz71_0, hcz71_1, hfz71_0, hfz71_1⟩ := cz2 BK277) | (go_at_call 69; (with_reducible refine (impl_between.calls a0_0 a0_1 a1_0 a1_1 a3_0 a3_1 false _ A40.out).mono ?_); rintro e w72 ⟨rfl, hb⟩; have n0_ := pB BK274 hb; have n1_ := pB BK275 hb; have n2_ := pB BK276 hb; have n3_ := pB BK277 hb; have n4_ := pS HB hb; clear BK274 BK275; clear BK276 BK277 HB; have BK274 := n0_; have BK275 := n1_; have BK276 := n2_; have BK277 := n3_; have HB := n4_; clear n0_ n1_ n2_ n3_ n4_; (try clear hb); (try clear hb2); (try clear hk); (try clear hi); obtain ⟨hcz73_0, hcz73_1, hfz73_0, hfz73_1⟩ := cz2 BK276; obtain ⟨hcz74_0, hcz74_1, hfz74_0, hfz74_1⟩ := cz2 BK277; obtain ⟨hcz75_0, hcz75_1, hfz75_0, hfz75_1⟩ := cz2 BK274) | (go_at_call 69; (with_reducible refine (impl_between.calls a2_0 a2_1 a3_0 a3_1 a0_0 a0_1 true _ A57.out).mono ?_); rintro e w76 ⟨rfl, hb⟩; have n0_ := pB BK274 hb; have n1_ := pB BK275 hb; have n2_ := pB BK276 hb; have n3_ := pB BK277 hb; have n4_ := pS HB hb; clear BK274 BK275; clear BK276 BK277 HB; have BK274 := n0_; have BK275 := n1_; have BK276 := n2_; have BK277 := n3_; have HB := n4_; clear n0_ n1_ n2_ n3_ n4_; (try clear hb); (try clear hb2); (try clear hk); (try clear hi)))
          go_ret
          exact ⟨by first | rfl | (simp [errW_none, errW_some] <;> rfl) | (simp [*, errW_none, errW_some] <;> rfl), pR HB⟩
         ·replace c58 := Bool.eq_false_iff.mpr c58
          subst c58
          have H1 : (if t281 = 0 then ((impl_between.f a2_0 a2_1 a3_0 a3_1 a1_0 a1_1).bind fun t289 => (some t289)) else (some false)) = some r := by rw [if_neg (show ¬ (false = true) by decide)] at H; exact H
          clear H
          have H := H1
          clear H1
          by_cases c77 : t281 = 0
          ·rw [if_pos c77] at H
           have c77b0 : (t281 == 0) = true := beq_iff_eq.mpr c77
           have c77b1 : (t281 != 0) = false := bne_eq_false_iff_eq.mpr c77
           clear c77
           replace H := Option.bind_eq_some_iff.mp H
           obtain ⟨t289, A780, H⟩ := H
           replace H : (some t289) = some r := H
           have A78 := Aside0.mk A780
           clear A780
           obtain rfl := Option.some.inj H
           simp only [Option.some.injEq, Prod.mk.injEq] at H
           obtain ⟨rfl⟩ := H
           have hnb79 := NB274_275.out
           have hnc79 := NB275_274.out
           have hnb80 := NB274_276.out
           have hnc80 := NB276_274.out
           have hnb81 := NB274_277.out
           have hnc81 := NB277_274.out
           obtain ⟨hcz82_0, hcz82_1, hfz82_0, hfz82_1⟩ := cz2 BK274
           have hnb83 := NB275_276.out
           have hnc83 := NB276_275.out
           have hnb84 := NB275_277.out
           have hnc84 := NB277_275.out
           obtain ⟨hcz85_0, hcz85_1, hfz85_0, hfz85_1⟩ := cz2 BK275
           have hnb86 := NB276_277.out
           have hnc86 := NB277_276.out
           obtain ⟨hcz87_0, hcz87_1, hfz87_0, hfz87_1⟩ := cz2 BK276
           go_wp2_with (first | (go_at_call 69; (with_reducible refine (impl_between.calls a0_0 a0_1 a1_0 a1_1 a2_0 a2_1 false _ A27.out).mono ?_); rintro e w88 ⟨rfl, hb⟩; have n0_ := pB BK274 hb; have n1_ := pB BK275 hb; have n2_ := pB BK276 hb; have n3_ := pB BK277 hb; have n4_ := pS HB hb; clear BK274 BK275; clear BK276 BK277 HB; have BK274 := n0_; have BK275 := n1_; have BK276 := n2_; have BK277 := n3_; have HB := n4_; clear n0_ n1_ n2_ n3_ n4_; (try clear hb); (try clear hb2); (try clear hk); (try clear hi); obtain ⟨hcz89_0, hcz89_1, hfz89_0, hfz89_1⟩ := cz2 BK274; obtain ⟨hcz90_0, hcz90_1, hfz90_0, hfz90_1⟩ := cz2 BK275; obtain ⟨hcz91_0, hcz91_1, hfz91_0, hfz91_1⟩ := cz2 BK277) | (go_at_call 69; (with_reducible refine (impl_between.calls a0_0 a0_1 a1_0 a1_1 a3_0 a3_1 false _ A40.out).mono ?_); rintro e w92 ⟨rfl, hb⟩; have n0_ := pB BK274 hb; have n1_ := pB BK275 hb; have n2_ := pB BK276 hb; have n3_ := pB BK277 hb; have n4_ := pS HB hb; clear BK274 BK275; clear BK276 BK277 HB; have BK274 := n0_; have BK275 := n1_; have BK276 := n2_; have BK277 := n3_; have HB := n4_; clear n0_ n1_ n2_ n3_ n4_; (try clear hb); (try clear hb2); (try clear hk); (try clear hi); obtain ⟨hcz93_0, hcz93_1, hfz93_0, hfz93_1⟩ := cz2 BK276; obtain ⟨hcz94_0, hcz94_1, hfz94_0, hfz94_1⟩ := cz2 BK277; obtain ⟨hcz95_0, hcz95_1, hfz95_0, hfz95_1⟩ := cz2 BK274) | (go_at_call 69; (with_reducible refine (impl_between.calls a2_0 a2_1 a3_0 a3_1 a0_0 a0_1 false _ A57.out).mono ?_); rintro e w96 ⟨rfl, hb⟩; have n0_ := pB BK274 hb; have n1_ := pB BK275 hb; have n2_ := pB BK276 hb; have n3_ := pB BK277 hb; have n4_ := pS HB hb; clear BK274 BK275; clear BK276 BK277 HB; have BK274 := n0_; have BK275 := n1_; have BK276 := n2_; have BK277 := n3_; have HB := n4_; clear n0_ n1_ n2_ n3_ n4_; (try clear hb); (try clear hb2); (try clear hk); (try clear hi); obtain ⟨hcz97_0, hcz97_1, hfz97_0, hfz97_1⟩ := cz2 BK276; obtain ⟨hcz98_0, hcz98_1, hfz98_0, hfz98_1⟩ := cz2 BK277; obtain ⟨hcz99_0, hcz99_1, hfz99_0, hfz99_1⟩ := cz2 BK275) | (go_at_call 69; (with_reducible refine (impl_between.calls a2_0 a2_1 a3_0 a3_1 a1_0 a1_1 t289 _ A78.out).mono ?_); rintro e w100 ⟨rfl, hb⟩; have n0_ := pB BK274 hb; have n1_ := pB BK275 hb; have n2_ := pB BK276 hb; have n3_ := pB BK277 hb; have n4_ := pS HB hb; clear BK274 BK275; clear BK276 BK277 HB; have BK274 := n0_; have BK275 := n1_; have BK276 := n2_; have BK277 := n3_; have HB := n4_; clear n0_ n1_ n2_ n3_ n4_; (try clear hb); (try clear hb2); (try clear hk); (try clear hi)))
           go_ret
           exact ⟨by first | rfl | (simp [errW_none, errW_some] <;> rfl) | (simp [*, errW_none, errW_some] <;> rfl), pR HB⟩
          ·rw [if_neg c77] at H
           have c77b0 : (t281 == 0) = false := beq_eq_false_iff_ne.mpr c77
           have c77b1 : (t281 != 0) = true := bne_iff_ne.mpr c77
           obtain rfl := Option.some.inj H
           simp only [Option.some.injEq, Prod.mk.injEq] at H
           obtain ⟨rfl⟩ := H
           have hnb101 := NB274_275.out
           have hnc101 := NB275_274.out
           have hnb102 := NB274_276.out
           have hnc102 := NB276_274.out
           have hnb103 := NB274_277.out
           have hnc103 := NB277_274.out
           obtain ⟨hcz104_0, hcz104_1, hfz104_0, hfz104_1⟩ := cz2 BK274
           have hnb105 := NB275_276.out
           have hnc105 := NB276_275.out
           have hnb106 := NB275_277.out
           have hnc106 := NB277_275.out
           obtain ⟨hcz107_0, hcz107_1, hfz107_0, hfz107_1⟩ := cz2 BK275
           have hnb108 := NB276_277.out
           have hnc108 := NB277_276.out
           obtain ⟨hcz109_0, hcz109_1, hfz109_0, hfz109_1⟩ := cz2 BK276
           go_wp2_with (first | (go_at_call 69; (with_reducible refine (impl_between.calls a0_0 a0_1 a1_0 a1_1 a2_0 a2_1 false _ A27.out).mono ?_); rintro e w110 ⟨rfl, hb⟩; have n0_ := pB BK274 hb; have n1_ := pB BK275 hb; have n2_ := pB BK276 hb; have n3_ := pB BK277 hb; have n4_ := pS HB hb; clear BK274 BK275; clear BK276 BK277 HB; have BK274 := n0_; have BK275 := n1_; have BK276 := n2_; have BK277 := n3_; have HB := n4_; clear n0_ n1_ n2_ n3_ n4_; (try clear hb); (try clear hb2); (try clear hk); (try clear hi); obtain ⟨hcz111_0, hcz111_1, hfz111_0, hfz111_1⟩ := cz2 BK274; obtain ⟨hcz112_0, hcz112_1, hfz112_0, hfz112_1⟩ := cz2 BK275; obtain ⟨hcz113_0, hcz113_1, hfz113_0, hfz113_1⟩ := cz2 BK277) | (go_at_call 69; (with_reducible refine (impl_between.calls a0_0 a0_1 a1_0 a1_1 a3_0 a3_1 false _ A40.out).mono ?_); rintro e w114 ⟨rfl, hb⟩; have n0_ := pB BK274 hb; have n1_ := pB BK275 hb; have n2_ := pB BK276 hb; have n3_ := pB BK277 hb; have n4_ := pS HB hb; clear BK274 BK275; clear BK276 BK277 HB; have BK274 := n0_; have BK275 := n1_; have BK276 := n2_; have BK277 := n3_; have HB := n4_; clear n0_ n1_ n2_ n3_ n4_; (try clear hb); (try clear hb2); (try clear hk); (try clear hi); obtain ⟨hcz115_0, hcz115_1, hfz115_0, hfz115_1⟩ := cz2 BK276; obtain ⟨hcz116_0, hcz116_1, hfz116_0, hfz116_1⟩ := cz2 BK277; obtain ⟨hcz117_0, hcz117_1, hfz117_0, hfz117_1⟩ := cz2 BK274) | (go_at_call 69; (with_reducible refine (impl_between.calls a2_0 a2_1 a3_0 a3_1 a0_0 a0_1 false _ A57.out).mono ?_); rintro e w118 ⟨rfl, hb⟩; have n0_ := pB BK274 hb; have n1_ := pB BK275 hb; have n2_ := pB BK276 hb; have n3_ := pB BK277 hb; have n4_ := pS HB hb; clear BK274 BK275; clear BK276 BK277 HB; have BK274 := n0_; have BK275 := n1_; have BK276 := n2_; have BK277 := n3_; have HB := n4_; clear n0_ n1_ n2_ n3_ n4_; (try clear hb); (try clear hb2); (try clear hk); (try clear hi)))
           go_ret
           exact ⟨by first | rfl | (simp [errW_none, errW_some] <;> rfl) | (simp [*, errW_none, errW_some] <;> rfl), pR HB⟩
        ·rw [if_neg c56] at H
         have c56b0 : (t280 == 0) = false := beq_eq_false_iff_ne.mpr c56
         have c56b1 : (t280 != 0) = true := bne_iff_ne.mpr c56
         by_cases c119 : t281 = 0
         ·rw [if_pos c119] at H
          have c119b0 : (t281 == 0) = true := beq_iff_eq.mpr c119
          have c119b1 : (t281 != 0) = false := bne_eq_false_iff_eq.mpr c119
          clear c119
          replace H := Option.bind_eq_some_iff.mp H
          obtain ⟨t290, A1200, H⟩ := H
          replace H : (some t290) = some r := H
          have A120 := Aside0.mk A1200
          clear A1200
          obtain rfl := Option.some.inj H
          simp only [Option.some.injEq, Prod.mk.injEq] at H
          obtain ⟨rfl⟩ := H
          have hnb121 := NB274_275.out
          have hnc121 := NB275_274.out
          have hnb122 := NB274_276.out
          have hnc122 := NB276_274.out
          have hnb123 := NB274_277.out
          have hnc123 := NB277_274.out
          obtain ⟨hcz124_0, hcz124_1, hfz124_0, hfz124_1⟩ := cz2 BK274
          have hnb125 := NB275_276.out
          have hnc125 := NB276_275.out
          have hnb126 := NB275_277.out
          have hnc126 := NB277_275.out
          obtain ⟨hcz127_0, hcz127_1, hfz127_0, hfz127_1⟩ := cz2 BK275
          have hnb128 := NB276_277.out
          have hnc128 := NB277_276.out
          obtain ⟨hcz129_0, hcz129_1, hfz129_0, hfz129_1⟩ := cz2 BK276
          go_wp2_with (first | (go_at_call 69; (with_reducible refine (impl_between.calls a0_0 a0_1 a1_0 a1_1 a2_0 a2_1 false _ A27.out).mono ?_); rintro e w130 ⟨rfl, hb⟩; have n0_ := pB BK274 hb; have n1_ := pB BK275 hb; have n2_ := pB BK276 hb; have n3_ := pB BK277 hb; have n4_ := pS HB hb; clear BK274 BK275; clear BK276 BK277 HB; have BK274 := n0_; have BK275 := n1_; have BK276 := n2_; have BK277 := n3_; have HB := n4_; clear n0_ n1_ n2_ n3_ n4_; (try clear hb); (try clear hb2); (try clear hk); (try clear hi); obtain ⟨hcz131_0, hcz131_1, hfz131_0, hfz131_1⟩ := cz2 BK274; obtain ⟨hcz132_0, hcz132_1, hfz132_0, hfz132_1⟩ := cz2 BK275; obtain ⟨hcz133_0, hcz133_1, hfz133_0, hfz133_1⟩ := cz2 BK277) | (go_at_call 69; (with_reducible refine (impl_between.calls a0_0 a0_1 a1_0 a1_1 a3_0 a3_1 false _ A40.out).mono ?_); rintro e w134 ⟨rfl, hb⟩; have n0_ := pB BK274 hb; have n1_ := pB BK275 hb; have n2_ := pB BK276 hb; have n3_ := pB BK277 hb; have n4_ := pS HB hb; clear BK274 BK275; clear BK276 BK277 HB; have BK274 := n0_; have BK275 := n1_; have BK276 := n2_; have BK277 := n3_; have HB := n4_; clear n0_ n1_ n2_ n3_ n4_; (try clear hb); (try clear hb2); (try clear hk); (try clear hi); obtain ⟨hcz135_0, hcz135_1, hfz135_0, hfz135_1⟩ := cz2 BK276; obtain ⟨hcz136_0, hcz136_1, hfz136_0, hfz136_1⟩ := cz2 BK277; obtain ⟨hcz137_0, hcz137_1, hfz137_0, hfz137_1⟩ := cz2 BK275) | (go_at_call 69; (with_reducible refine (impl_between.calls a2_0 a2_1 a3_0 a3_1 a1_0 a1_1 t290 _ A120.out).mono ?_); rintro e w138 ⟨rfl, hb⟩; have n0_ := pB BK274 hb; have n1_ := pB BK275 hb; have n2_ := pB BK276 hb; have n3_ := pB BK277 hb; have n4_ := pS HB hb; clear BK274 BK275; clear BK276 BK277 HB; have BK274 := n0_; have BK275 := n1_; have BK276 := n2_; have BK277 := n3_; have HB := n4_; clear n0_ n1_ n2_ n3_ n4_; (try clear hb); (try clear hb2); (try clear hk); (try clear hi)))
          go_ret
          exact ⟨by first | rfl | (simp [errW_none, errW_some] <;> rfl) | (simp [*, errW_none, errW_some] <;> rfl), pR HB⟩
         ·rw [if_neg c119] at H
          have c119b0 : (t281 == 0) = false := beq_eq_false_iff_ne.mpr c119
          have c119b1 : (t281 != 0) = true := bne_iff_ne.mpr c119
          obtain rfl := Option.some.inj H
          simp only [Option.some.injEq, Prod.mk.injEq] at H
          obtain ⟨rfl⟩ := H
          have hnb139 := NB274_275.out
          have hnc139 := NB275_274.out
          have hnb140 := NB274_276.out
          have hnc140 := NB276_274.out
          have hnb141 := NB274_277.out
          have hnc141 := NB277_274.out
          obtain ⟨hcz142_0, hcz142_1, hfz142_0, hfz142_1⟩ := cz2 BK274
          have hnb143 := NB275_276.out
          have hnc143 := NB276_275.out
          have hnb144 := NB275_277.out
          have hnc144 := NB277_275.out
          obtain ⟨hcz145_0, hcz145_1, hfz145_0, hfz145_1⟩ := cz2 BK275
          have hnb146 := NB276_277.out
          have hnc146 := NB277_276.out
          obtain ⟨hcz147_0, hcz147_1, hfz147_0, hfz147_1⟩ := cz2 BK276
          go_wp2_with (first | (go_at_call 69; (with_reducible refine (impl_between.calls a0_0 a0_1 a1_0 a1_1 a2_0 a2_1 false _ A27.out).mono ?_); rintro e w148 ⟨rfl, hb⟩; have n0_ := pB BK274 hb; have n1_ := pB BK275 hb; have n2_ := pB BK276 hb; have n3_ := pB BK277 hb; have n4_ := pS HB hb; clear BK274 BK275; clear BK276 BK277 HB; have BK274 := n0_; have BK275 := n1_; have BK276 := n2_; have BK277 := n3_; have HB := n4_; clear n0_ n1_ n2_ n3_ n4_; (try clear hb); (try clear hb2); (try clear hk); (try clear hi); obtain ⟨hcz149_0, hcz149_1, hfz149_0, hfz149_1⟩ := cz2 BK274; obtain ⟨hcz150_0, hcz150_1, hfz150_0, hfz150_1⟩ := cz2 BK275; obtain ⟨hcz151_0, hcz151_1, hfz151_0, hfz151_1⟩ := cz2 BK277) | (go_at_call 69; (with_reducible refine (impl_between.calls a0_0 a0_1 a1_0 a1_1 a3_0 a3_1 false _ A40.out).mono ?_); rintro e w152 ⟨rfl, hb⟩; have n0_ := pB BK274 hb; have n1_ := pB BK275 hb; have n2_ := pB BK276 hb; have n3_ := pB BK277 hb; have n4_ := pS HB hb; clear BK274 BK275; clear BK276 BK277 HB; have BK274 := n0_; have BK275 := n1_; have BK276 := n2_; have BK277 := n3_; have HB := n4_; clear n0_ n1_ n2_ n3_ n4_; (try clear hb); (try clear hb2); (try clear hk); (try clear hi)))
          go_ret
          exact ⟨by first | rfl | (simp [errW_none, errW_some] <;> rfl) | (simp [*, errW_none, errW_some] <;> rfl), pR HB⟩
      ·rw [if_neg c39] at H
       have c39b0 : (t279 == 0) = false := beq_eq_false_iff_ne.mpr c39
       have c39b1 : (t279 != 0) = true := bne_iff_ne.mpr c39
       by_cases c153 : t280 = 0
       ·rw [if_pos c153] at H
        have c153b0 : (t280 == 0) = true := beq_iff_eq.mpr c153
        have c153b1 : (t280 != 0) = false := bne_eq_false_iff_eq.mpr c153
        clear c153
        replace H := Option.bind_eq_some_iff.mp H
        obtain ⟨t291, A1540, H⟩ := H
        replace H : (if t291 = true then (some true) else (if t281 = 0 then ((impl_between.f a2_0 a2_1 a3_0 a3_1 a1_0 a1_1).bind fun t292 => (some t292)) else (some false))) = some r := H
        have A154 := Aside0.mk A1540
        clear A1540
        by_cases c155 : t291 = true
        ·subst c155
         have H1 : (some true) = some r := by rw [if_pos rfl] at H; exact H
         clear H
         have H := H1
         clear H1
         obtain rfl := Option.some.inj H
         simp only [Option.some.injEq, Prod.mk.injEq] at H
         obtain ⟨rfl⟩ := H
         have hnb156 := NB274_275.out
         have hnc156 := NB275_274.out
         have hnb157 := NB274_276.out
         have hnc157 := NB276_274.out
         have hnb158 := NB274_277.out
         have hnc158 := NB277_274.out
         obtain ⟨hcz159_0, hcz159_1, hfz159_0, hfz159_1⟩ := cz2 BK274
         have hnb160 := NB275_276.out
         have hnc160 := NB276_275.out
         have hnb161 := NB275_277.out
         have hnc161 := NB277_275.out
         obtain ⟨hcz162_0, hcz162_1, hfz162_0, hfz162_1⟩ := cz2 BK275
         have hnb163 := NB276_277.out
         have hnc163 := NB277_276.out
         obtain ⟨hcz164_0, hcz164_1, hfz164_0, hfz164_1⟩ := cz2 BK276
         go_wp2_with (first | (go_at_call 69; (with_reducible refine (impl_between.calls a0_0 a0_1 a1_0 a1_1 a2_0 a2_1 false _ A27.out).mono ?_); rintro e w165 ⟨rfl, hb⟩; have n0_ := pB BK274 hb; have n1_ := pB BK275 hb; have n2_ := pB BK276 hb; have n3_ := pB BK277 hb; have n4_ := pS HB hb; clear BK274 BK275; clear BK276 BK277 HB; have BK274 := n0_; have BK275 := n1_; have BK276 := n2_; have BK277 := n3_; have HB := n4_; clear n0_ n1_ n2_ n3_ n4_; (try clear hb); (try clear hb2); (try clear hk); (try clear hi); obtain ⟨hcz166_0, hcz166_1, hfz166_0, hfz166_1⟩ := cz2 BK276; obtain ⟨hcz167_0, hcz167_1, hfz167_0, hfz167_1⟩ := cz2 BK277; obtain ⟨hcz168_0, hcz168_1, hfz168_0, hfz168_1⟩ := cz2 BK274) | (go_at_call 69; (with_reducible refine (impl_between.calls a2_0 a2_1 a3_0 a3_1 a0_0 a0_1 true _ A154.out).mono ?_); rintro e w169 ⟨rfl, hb⟩; have n0_ := pB BK274 hb; have n1_ := pB BK275 hb; have n2_ := pB BK276 hb; have n3_ := pB BK277 hb; have n4_ := pS HB hb; clear BK274 BK275; clear BK276 BK277 HB; have BK274 := n0_; have BK275 := n1_; have BK276 := n2_; have BK277 := n3_; have HB := n4_; clear n0_ n1_ n2_ n3_ n4_; (try clear hb); (try clear hb2); (try clear hk); (try clear hi)))
         go_ret
         exact ⟨by first | rfl | (simp [errW_none, errW_some] <;> rfl) | (simp [*, errW_none, errW_some] <;> rfl), pR HB⟩
        ·replace c155 := Bool.eq_false_iff.mpr c155
         subst c155
         have H1 : (if t281 = 0 then ((impl_between.f a2_0 a2_1 a3_0 a3_1 a1_0 a1_1).bind fun t292 => (some t292)) else (some false)) = some r := by rw [if_neg (show ¬ (false = true) by decide)] at H; exact H
         clear H
         have H := H1
         clear H1
         by_cases c170 : t281 = 0
         ·rw [if_pos c170] at H
          have c170b0 : (t281 == 0) = true := beq_iff_eq.mpr c170
          have c170b1 : (t281 != 0) = false := bne_eq_false_iff_eq.mpr c170
          clear c170
          replace H := Option.bind_eq_some_iff.mp H
          obtain ⟨t292, A1710, H⟩ := H
          replace H : (some t292) = some r := H
          have A171 := Aside0.mk A1710
          clear A1710
          obtain rfl := Option.some.inj H
          simp only [Option.some.injEq, Prod.mk.injEq] at H
          obtain ⟨rfl⟩ := H
          have hnb172 := NB274_275.out
          have hnc172 := NB275_274.out
          have hnb173 := NB274_276.out
          have hnc173 := NB276_274.out
          have hnb174 := NB274_277.out
          have hnc174 := NB277_274.out
          obtain ⟨hcz175_0, hcz175_1, hfz175_0, hfz175_1⟩ := cz2 BK274
          have hnb176 := NB275_276.out
          have hnc176 := NB276_275.out
          have hnb177 := NB275_277.out
          have hnc177 := NB277_275.out
          obtain ⟨hcz178_0, hcz178_1, hfz178_0, hfz178_1⟩ := cz2 BK275
          have hnb179 := NB276_277.out
          have hnc179 := NB277_276.out
          obtain ⟨hcz180_0, hcz180_1, hfz180_0, hfz180_1⟩ := cz2 BK276
          go_wp2_with (first | (go_at_call 69; (with_reducible refine (impl_between.calls a0_0 a0_1 a1_0 a1_1 a2_0 a2_1 false _ A27.out).mono ?_); rintro e w181 ⟨rfl, hb⟩; have n0_ := pB BK274 hb; have n1_ := pB BK275 hb; have n2_ := pB BK276 hb; have n3_ := pB BK277 hb; have n4_ := pS HB hb; clear BK274 BK275; clear BK276 BK277 HB; have BK274 := n0_; have BK275 := n1_; have BK276 := n2_; have BK277 := n3_; have HB := n4_; clear n0_ n1_ n2_ n3_ n4_; (try clear hb); (try clear hb2); (try clear hk); (try clear hi); obtain ⟨hcz182_0, hcz182_1, hfz182_0, hfz182_1⟩ := cz2 BK276; obtain ⟨hcz183_0, hcz183_1, hfz183_0, hfz183_1⟩ := cz2 BK277; obtain ⟨hcz184_0, hcz184_1, hfz184_0, hfz184_1⟩ := cz2 BK274) | (go_at_call 69; (with_reducible refine (impl_between.calls a2_0 a2_1 a3_0 a3_1 a0_0 a0_1 false _ A154.out).mono ?_); rintro e w185 ⟨rfl, hb⟩; have n0_ := pB BK274 hb; have n1_ := pB BK275 hb; have n2_ := pB BK276 hb; have n3_ := pB BK277 hb; have n4_ := pS HB hb; clear BK274 BK275; clear BK276 BK277 HB; have BK274 := n0_; have BK275 := n1_; have BK276 := n2_; have BK277 := n3_; have HB := n4_; clear n0_ n1_ n2_ n3_ n4_; (try clear hb); (try clear hb2); (try clear hk); (try clear hi); obtain ⟨hcz186_0, hcz186_1, hfz186_0, hfz186_1⟩ := cz2 BK276; obtain ⟨hcz187_0, hcz187_1, hfz187_0, hfz187_1⟩ := cz2 BK277; obtain ⟨hcz188_0, hcz188_1, hfz188_0, hfz188_1⟩ := cz2 BK275) | (go_at_call 69; (with_reducible refine (impl_between.calls a2_0 a2_1 a3_0 a3_1 a1_0 a1_1 t292 _ A171.out).mono ?_); rintro e w189 ⟨rfl, hb⟩; have n0_ := pB BK274 hb; have n1_ := pB BK275 hb; have n2_ := pB BK276 hb; have n3_ := pB BK277 hb; have n4_ := pS HB hb; clear BK274 BK275; clear BK276 BK277 HB; have BK274 := n0_; have BK275 := n1_; have BK276 := n2_; have BK277 := n3_; have HB := n4_; clear n0_ n1_ n2_ n3_ n4_; (try clear hb); (try clear hb2); (try clear hk); (try clear hi)))
          go_ret
          exact ⟨by first | rfl | (simp [errW_none, errW_some] <;> rfl) | (simp [*, errW_none, errW_some] <;> rfl), pR HB⟩
         ·rw [if_neg c170] at H
          have c170b0 : (t281 == 0) = false := beq_eq_false_iff_ne.mpr c170
          have c170b1 : (t281 != 0) = true := bne_iff_ne.mpr c170
          obtain rfl := Option.some.inj H
          simp only [Option.some.injEq, Prod.mk.injEq] at H
          obtain ⟨rfl⟩ := H
          have hnb190 := NB274_275.out
          have hnc190 := NB275_274.out
          have hnb191 := NB274_276.out
          have hnc191 := NB276_274.out
          have hnb192 := NB274_277.out
          have hnc192 := NB277_274.out
          obtain ⟨hcz193_0, hcz193_1, hfz193_0, hfz193_1⟩ := cz2 BK274
          have hnb194 := NB275_276.out
          have hnc194 := NB276_275.out
          have hnb195 := NB275_277.out
          have hnc195 := NB277_275.out
          obtain ⟨hcz196_0, hcz196_1, hfz196_0, hfz196_1⟩ := cz2 BK275
          have hnb197 := NB276_277.out
          have hnc197 := NB277_276.out
          obtain ⟨hcz198_0, hcz198_1, hfz198_0, hfz198_1⟩ := cz2 BK276
          go_wp2_with (first | (go_at_call 69; (with_reducible refine (impl_between.calls a0_0 a0_1 a1_0 a1_1 a2_0 a2_1 false _ A27.out).mono ?_); rintro e w199 ⟨rfl, hb⟩; have n0_ := pB BK274 hb; have n1_ := pB BK275 hb; have n2_ := pB BK276 hb; have n3_ := pB BK277 hb; have n4_ := pS HB hb; clear BK274 BK275; clear BK276 BK277 HB; have BK274 := n0_; have BK275 := n1_; have BK276 := n2_; have BK277 := n3_; have HB := n4_; clear n0_ n1_ n2_ n3_ n4_; (try clear hb); (try clear hb2); (try clear hk); (try clear hi); obtain ⟨hcz200_0, hcz200_1, hfz200_0, hfz200_1⟩ := cz2 BK276; obtain ⟨hcz201_0, hcz201_1, hfz201_0, hfz201_1⟩ := cz2 BK277; obtain ⟨hcz202_0, hcz202_1, hfz202_0, hfz202_1⟩ := cz2 BK274) | (go_at_call 69; (with_reducible refine (impl_between.calls a2_0 a2_1 a3_0 a3_1 a0_0 a0_1 false _ A154.out).mono ?_); rintro e w203 ⟨rfl, hb⟩; have n0_ := pB BK274 hb; have n1_ := pB BK275 hb; have n2_ := pB BK276 hb; have n3_ := pB BK277 hb; have n4_ := pS HB hb; clear BK274 BK275; clear BK276 BK277 HB; have BK274 := n0_; have BK275 := n1_; have BK276 := n2_; have BK277 := n3_; have HB := n4_; clear n0_ n1_ n2_ n3_ n4_; (try clear hb); (try clear hb2); (try clear hk); (try clear hi)))
          go_ret
          exact ⟨by first | rfl | (simp [errW_none, errW_some] <;> rfl) | (simp [*, errW_none, errW_some] <;> rfl), pR HB⟩
       ·rw [if_neg c153] at H
        have c153b0 : (t280 == 0) = false := beq_eq_false_iff_ne.mpr c153
        have c153b1 : (t280 != 0) = true := bne_iff_ne.mpr c153
        by_cases c204 : t281 = 0
        ·rw [if_pos c204] at H
         have c204b0 : (t281 == 0) = true := beq_iff_eq.mpr c204
         have c204b1 : (t281 != 0) = false := bne_eq_false_iff_eq.mpr c204
         clear c204
         replace H := Option.bind_eq_some_iff.mp H
         obtain ⟨t293, A2050, H⟩ := H
         replace H : (some t293) = some r := H
         have A205 := Aside0.mk A2050
         clear A2050
         obtain rfl := Option.some.inj H
         simp only [Option.some.injEq, Prod.mk.injEq] at H
         obtain ⟨rfl⟩ := H
         have hnb206 := NB274_275.out
         have hnc206 := NB275_274.out
         have hnb207 := NB274_276.out
         have hnc207 := NB276_274.out
         have hnb208 := NB274_277.out
         have hnc208 := NB277_274.out
         obtain ⟨hcz209_0, hcz209_1, hfz209_0, hfz209_1⟩ := cz2 BK274
         have hnb210 := NB275_276.out
         have hnc210 := NB276_275.out
         have hnb211 := NB275_277.out
         have hnc211 := NB277_275.out
         obtain ⟨hcz212_0, hcz212_1, hfz212_0, hfz212_1⟩ := cz2 BK275
         have hnb213 := NB276_277.out
         have hnc213 := NB277_276.out
         obtain ⟨hcz214_0, hcz214_1, hfz214_0, hfz214_1⟩ := cz2 BK276
         go_wp2_with (first | (go_at_call 69; (with_reducible refine (impl_between.calls a0_0 a0_1 a1_0 a1_1 a2_0 a2_1 false _ A27.out).mono ?_); rintro e w215 ⟨rfl, hb⟩; have n0_ := pB BK274 hb; have n1_ := pB BK275 hb; have n2_ := pB BK276 hb; have n3_ := pB BK277 hb; have n4_ := pS HB hb; clear BK274 BK275; clear BK276 BK277 HB; have BK274 := n0_; have BK275 := n1_; have BK276 := n2_; have BK277 := n3_; have HB := n4_; clear n0_ n1_ n2_ n3_ n4_; (try clear hb); (try clear hb2); (try clear hk); (try clear hi); obtain ⟨hcz216_0, hcz216_1, hfz216_0, hfz216_1⟩ := cz2 BK276; obtain ⟨hcz217_0, hcz217_1, hfz217_0, hfz217_1⟩ := cz2 BK277; obtain ⟨hcz218_0, hcz218_1, hfz218_0, hfz218_1⟩ := cz2 BK275) | (go_at_call 69; (with_reducible refine (impl_between.calls a2_0 a2_1 a3_0 a3_1 a1_0 a1_1 t293 _ A205.out).mono ?_); rintro e w219 ⟨rfl, hb⟩; have n0_ := pB BK274 hb; have n1_ := pB BK275 hb; have n2_ := pB BK276 hb; have n3_ := pB BK277 hb; have n4_ := pS HB hb; clear BK274 BK275; clear BK276 BK277 HB; have BK274 := n0_; have BK275 := n1_; have BK276 := n2_; have BK277 := n3_; have HB := n4_; clear n0_ n1_ n2_ n3_ n4_; (try clear hb); (try clear hb2); (try clear hk); (try clear hi)))
         go_ret
         exact ⟨by first | rfl | (simp [errW_none, errW_some] <;> rfl) | (simp [*, errW_none, errW_some] <;> rfl), pR HB⟩
        ·rw [if_neg c204] at H
         have c204b0 : (t281 == 0) = false := beq_eq_false_iff_ne.mpr c204
         have c204b1 : (t281 != 0) = true := bne_iff_ne.mpr c204
         obtain rfl := Option.some.inj H
         simp only [Option.some.injEq, Prod.mk.injEq] at H
         obtain ⟨rfl⟩ := H
         have hnb220 := NB274_275.out
         have hnc220 := NB275_274.out
         have hnb221 := NB274_276.out
         have hnc221 := NB276_274.out
         have hnb222 := NB274_277.out
         have hnc222 := NB277_274.out
         obtain ⟨hcz223_0, hcz223_1, hfz223_0, hfz223_1⟩ := cz2 BK274
         have hnb224 := NB275_276.out
         have hnc224 := NB276_275.out
         have hnb225 := NB275_277.out
         have hnc225 := NB277_275.out
         obtain ⟨hcz226_0, hcz226_1, hfz226_0, hfz226_1⟩ := cz2 BK275
         have hnb227 := NB276_277.out
         have hnc227 := NB277_276.out
         obtain ⟨hcz228_0, hcz228_1, hfz228_0, hfz228_1⟩ := cz2 BK276
         go_wp2_with (first | (go_at_call 69; (with_reducible refine (impl_between.calls a0_0 a0_1 a1_0 a1_1 a2_0 a2_1 false _ A27.out).mono ?_); rintro e w229 ⟨rfl, hb⟩; have n0_ := pB BK274 hb; have n1_ := pB BK275 hb; have n2_ := pB BK276 hb; have n3_ := pB BK277 hb; have n4_ := pS HB hb; clear BK274 BK275; clear BK276 BK277 HB; have BK274 := n0_; have BK275 := n1_; have BK276 := n2_; have BK277 := n3_; have HB := n4_; clear n0_ n1_ n2_ n3_ n4_; (try clear hb); (try clear hb2); (try clear hk); (try clear hi)))
         go_ret
         exact ⟨by first | rfl | (simp [errW_none, errW_some] <;> rfl) | (simp [*, errW_none, errW_some] <;> rfl), pR HB⟩
    ·rw [if_neg c26] at H
     have c26b0 : (t278 == 0) = false := beq_eq_false_iff_ne.mpr c26
     have c26b1 : (t278 != 0) = true := bne_iff_ne.mpr c26
     by_cases c230 : t279 = 0
     ·rw [if_pos c230] at H
      have c230b0 : (t279 == 0) = true := beq_iff_eq.mpr c230
      have c230b1 : (t279 != 0) = false := bne_eq_false_iff_eq.mpr c230
      clear c230
      replace H := Option.bind_eq_some_iff.mp H
      obtain ⟨t294, A2310, H⟩ := H
      replace H : (if t294 = true then (some true) else (if t280 = 0 then ((impl_between.f a2_0 a2_1 a3_0 a3_1 a0_0 a0_1).bind fun t295 => (if t295 = true then (some true) else (if t281 = 0 then ((impl_between.f a2_0 a2_1 a3_0 a3_1 a1_0 a1_1).bind fun t296 => (some t296)) else (some false)))) else (if t281 = 0 then ((impl_between.f a2_0 a2_1 a3_0 a3_1 a1_0 a1_1).bind fun t297 => (some t297)) else (some false)))) = some r := H
      have A231 := Aside0.mk A2310
      clear A2310
      by_cases c232 : t294 = true
      ·subst c232
       have H1 : (some true) = some r := by rw [if_pos rfl] at H; exact H
       clear H
       have H := H1
       clear H1
       obtain rfl := Option.some.inj H
       simp only [Option.some.injEq, Prod.mk.injEq] at H
       obtain ⟨rfl⟩ := H
       have hnb233 := NB274_275.out
       have hnc233 := NB275_274.out
       have hnb234 := NB274_276.out
       have hnc234 := NB276_274.out
       have hnb235 := NB274_277.out
       have hnc235 := NB277_274.out
       obtain ⟨hcz236_0, hcz236_1, hfz236_0, hfz236_1⟩ := cz2 BK274
       have hnb237 := NB275_276.out
       have hnc237 := NB276_275.out
       have hnb238 := NB275_277.out
       have hnc238 := NB277_275.out
       obtain ⟨hcz239_0, hcz239_1, hfz239_0, hfz239_1⟩ := cz2 BK275
       have hnb240 := NB277_276.out
       have hnc240 := NB276_277.out
       obtain ⟨hcz241_0, hcz241_1, hfz241_0, hfz241_1⟩ := cz2 BK277
       go_wp2_with (first | (go_at_call 69; (with_reducible refine (impl_between.calls a0_0 a0_1 a1_0 a1_1 a3_0 a3_1 true _ A231.out).mono ?_); rintro e w242 ⟨rfl, hb⟩; have n0_ := pB BK274 hb; have n1_ := pB BK275 hb; have n2_ := pB BK276 hb; have n3_ := pB BK277 hb; have n4_ := pS HB hb; clear BK274 BK275; clear BK276 BK277 HB; have BK274 := n0_; have BK275 := n1_; have BK276 := n2_; have BK277 := n3_; have HB := n4_; clear n0_ n1_ n2_ n3_ n4_; (try clear hb); (try clear hb2); (try clear hk); (try clear hi)))
       go_ret
       exact ⟨by first | rfl | (simp [errW_none, errW_some] <;> rfl) | (simp [*, errW_none, errW_some] <;> rfl), pR HB⟩
      ·replace c232 := Bool.eq_false_iff.mpr c232
       subst c232
       have H1 : (if t280 = 0 then ((impl_between.f a2_0 a2_1 a3_0 a3_1 a0_0 a0_1).bind fun t295 => (if t295 = true then (some true) else (if t281 = 0 then ((impl_between.f a2_0 a2_1 a3_0 a3_1 a1_0 a1_1).bind fun t296 => (some t296)) else (some false)))) else (if t281 = 0 then ((impl_between.f a2_0 a2_1 a3_0 a3_1 a1_0 a1_1).bind fun t297 => (some t297)) else (some false))) = some r := by rw [if_neg (show ¬ (false = true) by decide)] at H; exact H
       clear H
       have H := H1
       clear H1
       by_cases c243 : t280 = 0
       ·rw [if_pos c243] at H
        have c243b0 : (t280 == 0) = true := beq_iff_eq.mpr c243
        have c243b1 : (t280 != 0) = false := bne_eq_false_iff_eq.mpr c243
        clear c243
        replace H := Option.bind_eq_some_iff.mp H
        obtain ⟨t295, A2440, H⟩ := H
        replace H : (if t295 = true then (some true) else (if t281 = 0 then ((impl_between.f a2_0 a2_1 a3_0 a3_1 a1_0 a1_1).bind fun t296 => (some t296)) else (some false))) = some r := H
        have A244 := Aside0.mk A2440
        clear A2440
        by_cases c245 : t295 = true
        ·subst c245
         have H1 : (some true) = some r := by rw [if_pos rfl] at H; exact H
         clear H
         have H := H1
         clear H1
         obtain rfl := Option.some.inj H
         simp only [Option.some.injEq, Prod.mk.injEq] at H
         obtain ⟨rfl⟩ := H
         have hnb246 := NB274_275.out
         have hnc246 := NB275_274.out
         have hnb247 := NB274_276.out
         have hnc247 := NB276_274.out
         have hnb248 := NB274_277.out
         have hnc248 := NB277_274.out
         obtain ⟨hcz249_0, hcz249_1, hfz249_0, hfz249_1⟩ := cz2 BK274
         have hnb250 := NB275_276.out
         have hnc250 := NB276_275.out
         have hnb251 := NB275_277.out
         have hnc251 := NB277_275.out
         obtain ⟨hcz252_0, hcz252_1, hfz252_0, hfz252_1⟩ := cz2 BK275
         have hnb253 := NB277_276.out
         have hnc253 := NB276_277.out
         obtain ⟨hcz254_0, hcz254_1, hfz254_0, hfz254_1⟩ := cz2 BK277
         go_wp2_with (first | (go_at_call 69; (with_reducible refine (impl_between.calls a0_0 a0_1 a1_0 a1_1 a3_0 a3_1 false _ A231.out).mono ?_); rintro e w255 ⟨rfl, hb⟩; have n0_ := pB BK274 hb; have n1_ := pB BK275 hb; have n2_ := pB BK276 hb; have n3_ := pB BK277 hb; have n4_ := pS HB hb; clear BK274 BK275; clear BK276 BK277 HB; have BK274 := n0_; have BK275 := n1_; have BK276 := n2_; have BK277 := n3_; have HB := n4_; clear n0_ n1_ n2_ n3_ n4_; (try clear hb); (try clear hb2); (try clear hk); (try clear hi); obtain ⟨hcz256_0, hcz256_1, hfz256_0, hfz256_1⟩ := cz2 BK276; obtain ⟨hcz257_0, hcz257_1, hfz257_0, hfz257_1⟩ := cz2 BK277; obtain ⟨hcz258_0, hcz258_1, hfz258_0, hfz258_1⟩ := cz2 BK274) | (go_at_call 69; (with_reducible refine (impl_between.calls a2_0 a2_1 a3_0 a3_1 a0_0 a0_1 true _ A244.out).mono ?_); rintro e w259 ⟨rfl, hb⟩; have n0_ := pB BK274 hb; have n1_ := pB BK275 hb; have n2_ := pB BK276 hb; have n3_ := pB BK277 hb; have n4_ := pS HB hb; clear BK274 BK275; clear BK276 BK277 HB; have BK274 := n0_; have BK275 := n1_; have BK276 := n2_; have BK277 := n3_; have HB := n4_; clear n0_ n1_ n2_ n3_ n4_; (try clear hb); (try clear hb2); (try clear hk); (try clear hi)))
         go_ret
         exact ⟨by first | rfl | (simp [errW_none, errW_some] <;> rfl) | (simp [*, errW_none, errW_some] <;> rfl), pR HB⟩
        ·replace c245 := Bool.eq_false_iff.mpr c245
         subst c245
         have H1 : (if t281 = 0 then ((impl_between.f a2_0 a2_1 a3_0 a3_1 a1_0 a1_1).bind fun t296 => (some t296)) else (some false)) = some r := by rw [if_neg (show ¬ (false = true) by decide)] at H; exact H
         clear H
         have H := H1
         clear H1
         by_cases c260 : t281 = 0
         ·rw [if_pos c260] at H
          have c260b0 : (t281 == 0) = true := beq_iff_eq.mpr c260
          have c260b1 : (t281 != 0) = false := bne_eq_false_iff_eq.mpr c260
          clear c260
          replace H := Option.bind_eq_some_iff.mp H
          obtain ⟨t296, A2610, H⟩ := H
          replace H : (some t296) = some r := H
          have A261 := Aside0.mk A2610
          clear A2610
          obtain rfl := Option.some.inj H
          simp only [Option.some.injEq, Prod.mk.injEq] at H
          obtain ⟨rfl⟩ := H
          have hnb262 := NB274_275.out
          have hnc262 := NB275_274.out
          have hnb263 := NB274_276.out
          have hnc263 := NB276_274.out
          have hnb264 := NB274_277.out
          have hnc264 := NB277_274.out
          obtain ⟨hcz265_0, hcz265_1, hfz265_0, hfz265_1⟩ := cz2 BK274
          have hnb266 := NB275_276.out
          have hnc266 := NB276_275.out
          have hnb267 := NB275_277.out
          have hnc267 := NB277_275.out
          obtain ⟨hcz268_0, hcz268_1, hfz268_0, hfz268_1⟩ := cz2 BK275
          have hnb269 := NB277_276.out
          have hnc269 := NB276_277.out
          obtain ⟨hcz270_0, hcz270_1, hfz270_0, hfz270_1⟩ := cz2 BK277
          go_wp2_with (first | (go_at_call 69; (with_reducible refine (impl_between.calls a0_0 a0_1 a1_0 a1_1 a3_0 a3_1 false _ A231.out).mono ?_); rintro e w271 ⟨rfl, hb⟩; have n0_ := pB BK274 hb; have n1_ := pB BK275 hb; have n2_ := pB BK276 hb; have n3_ := pB BK277 hb; have n4_ := pS HB hb; clear BK274 BK275; clear BK276 BK277 HB; have BK274 := n0_; have BK275 := n1_; have BK276 := n2_; have BK277 := n3_; have HB := n4_; clear n0_ n1_ n2_ n3_ n4_; (try clear hb); (try clear hb2); (try clear hk); (try clear hi); obtain ⟨hcz272_0, hcz272_1, hfz272_0, hfz272_1⟩ := cz2 BK276; obtain ⟨hcz273_0, hcz273_1, hfz273_0, hfz273_1⟩ := cz2 BK277; obtain ⟨hcz274_0, hcz274_1, hfz274_0, hfz274_1⟩ := cz2 BK274) | (go_at_call 69; (with_reducible refine (impl_between.calls a2_0 a2_1 a3_0 a3_1 a0_0 a0_1 false _ A244.out).mono ?_); rintro e w275 ⟨rfl, hb⟩; have n0_ := pB BK274 hb; have n1_ := pB BK275 hb; have n2_ := pB BK276 hb; have n3_ := pB BK277 hb; have n4_ := pS HB hb; clear BK274 BK275; clear BK276 BK277 HB; have BK274 := n0_; have BK275 := n1_; have BK276 := n2_; have BK277 := n3_; have HB := n4_; clear n0_ n1_ n2_ n3_ n4_; (try clear hb); (try clear hb2); (try clear hk); (try clear hi); obtain ⟨hcz276_0, hcz276_1, hfz276_0, hfz276_1⟩ := cz2 BK276; obtain ⟨hcz277_0, hcz277_1, hfz277_0, hfz277_1⟩ := cz2 BK277; obtain ⟨hcz278_0, hcz278_1, hfz278_0, hfz278_1⟩ := cz2 BK275) | (go_at_call 69; (with_reducible refine (impl_between.calls a2_0 a2_1 a3_0 a3_1 a1_0 a1_1 t296 _ A261.out).mono ?_); rintro e w279 ⟨rfl, hb⟩; have n0_ := pB BK274 hb; have n1_ := pB BK275 hb; have n2_ := pB BK276 hb; have n3_ := pB BK277 hb; have n4_ := pS HB hb; clear BK274 BK275; clear BK276 BK277 HB; have BK274 := n0_; have BK275 := n1_; have BK276 := n2_; have BK277 := n3_; have HB := n4_; clear n0_ n1_ n2_ n3_ n4_; (try clear hb); (try clear hb2); (try clear hk); (try clear hi)))
          go_ret
          exact ⟨by first | rfl | (simp [errW_none, errW_some] <;> rfl) | (simp [*, errW_none, errW_some] <;> rfl), pR HB⟩
         ·rw [if_neg c260] at H
          have c260b0 : (t281 == 0) = false := beq_eq_false_iff_ne.mpr c260
          have c260b1 : (t281 != 0) = true := bne_iff_ne.mpr c260
          obtain rfl := Option.some.inj H
          simp only [Option.some.injEq, Prod.mk.injEq] at H
          obtain ⟨rfl⟩ := H
          have hnb280 := NB274_275.out
          have hnc280 := NB275_274.out
          have hnb281 := NB274_276.out
          have hnc281 := NB276_274.out
          have hnb282 := NB274_277.out
          have hnc282 := NB277_274.out
          obtain ⟨hcz283_0, hcz283_1, hfz283_0, hfz283_1⟩ := cz2 BK274
          have hnb284 := NB275_276.out
          have hnc284 := NB276_275.out
          have hnb285 := NB275_277.out
          have hnc285 := NB277_275.out
          obtain ⟨hcz286_0, hcz286_1, hfz286_0, hfz286_1⟩ := cz2 BK275
          have hnb287 := NB277_276.out
          have hnc287 := NB276_277.out
          obtain ⟨hcz288_0, hcz288_1, hfz288_0, hfz288_1⟩ := cz2 BK277
          go_wp2_with (first | (go_at_call 69; (with_reducible refine (impl_between.calls a0_0 a0_1 a1_0 a1_1 a3_0 a3_1 false _ A231.out).mono ?_); rintro e w289 ⟨rfl, hb⟩; have n0_ := pB BK274 hb; have n1_ := pB BK275 hb; have n2_ := pB BK276 hb; have n3_ := pB BK277 hb; have n4_ := pS HB hb; clear BK274 BK275; clear BK276 BK277 HB; have BK274 := n0_; have BK275 := n1_; have BK276 := n2_; have BK277 := n3_; have HB := n4_; clear n0_ n1_ n2_ n3_ n4_; (try clear hb); (try clear hb2); (try clear hk); (try clear hi); obtain ⟨hcz290_0, hcz290_1, hfz290_0, hfz290_1⟩ := cz2 BK276; obtain ⟨hcz291_0, hcz291_1, hfz291_0, hfz291_1⟩ := cz2 BK277; obtain ⟨hcz292_0, hcz292_1, hfz292_0, hfz292_1⟩ := cz2 BK274) | (go_at_call 69; (with_reducible refine (impl_between.calls a2_0 a2_1 a3_0 a3_1 a0_0 a0_1 false _ A244.out).mono ?_); rintro e w293 ⟨rfl, hb⟩; have n0_ := pB BK274 hb; have n1_ := pB BK275 hb; have n2_ := pB BK276 hb; have n3_ := pB BK277 hb; have n4_ := pS HB hb; clear BK274 BK275; clear BK276 BK277 HB; have BK274 := n0_; have BK275 := n1_; have BK276 := n2_; have BK277 := n3_; have HB := n4_; clear n0_ n1_ n2_ n3_ n4_; (try clear hb); (try clear hb2); (try clear hk); (try clear hi)))
          go_ret
          exact ⟨by first | rfl | (simp [errW_none, errW_some] <;> rfl) | (simp [*, errW_none, errW_some] <;> rfl), pR HB⟩
       ·rw [if_neg c243] at H
        have c243b0 : (t280 == 0) = false := beq_eq_false_iff_ne.mpr c243
        have c243b1 : (t280 != 0) = true := bne_iff_ne.mpr c243
        by_cases c294 : t281 = 0
        ·rw [if_pos c294] at H
         have c294b0 : (t281 == 0) = true := beq_iff_eq.mpr c294
         have c294b1 : (t281 != 0) = false := bne_eq_false_iff_eq.mpr c294
         clear c294
         replace H := Option.bind_eq_some_iff.mp H
         obtain ⟨t297, A2950, H⟩ := H
         replace H : (some t297) = some r := H
         have A295 := Aside0.mk A2950
         clear A2950
         obtain rfl := Option.some.inj H
         simp only [Option.some.injEq, Prod.mk.injEq] at H
         obtain ⟨rfl⟩ := H
         have hnb296 := NB274_275.out
         have hnc296 := NB275_274.out
         have hnb297 := NB274_276.out
         have hnc297 := NB276_274.out
         have hnb298 := NB274_277.out
         have hnc298 := NB277_274.out
         obtain ⟨hcz299_0, hcz299_1, hfz299_0, hfz299_1⟩ := cz2 BK274
         have hnb300 := NB275_276.out
         have hnc300 := NB276_275.out
         have hnb301 := NB275_277.out
         have hnc301 := NB277_275.out
         obtain ⟨hcz302_0, hcz302_1, hfz302_0, hfz302_1⟩ := cz2 BK275
         have hnb303 := NB277_276.out
         have hnc303 := NB276_277.out
         obtain ⟨hcz304_0, hcz304_1, hfz304_0, hfz304_1⟩ := cz2 BK277
         go_wp2_with (first | (go_at_call 69; (with_reducible refine (impl_between.calls a0_0 a0_1 a1_0 a1_1 a3_0 a3_1 false _ A231.out).mono ?_); rintro e w305 ⟨rfl, hb⟩; have n0_ := pB BK274 hb; have n1_ := pB BK275 hb; have n2_ := pB BK276 hb; have n3_ := pB BK277 hb; have n4_ := pS HB hb; clear BK274 BK275; clear BK276 BK277 HB; have BK274 := n0_; have BK275 := n1_; have BK276 := n2_; have BK277 := n3_; have HB := n4_; clear n0_ n1_ n2_ n3_ n4_; (try clear hb); (try clear hb2); (try clear hk); (try clear hi); obtain ⟨hcz306_0, hcz306_1, hfz306_0, hfz306_1⟩ := cz2 BK276; obtain ⟨hcz307_0, hcz307_1, hfz307_0, hfz307_1⟩ := cz2 BK277; obtain ⟨hcz308_0, hcz308_1, hfz308_0, hfz308_1⟩ := cz2 BK275) | (go_at_call 69; (with_reducible refine (impl_between.calls a2_0 a2_1 a3_0 a3_1 a1_0 a1_1 t297 _ A295.out).mono ?_); rintro e w309 ⟨rfl, hb⟩; have n0_ := pB BK274 hb; have n1_ := pB BK275 hb; have n2_ := pB BK276 hb; have n3_ := pB BK277 hb; have n4_ := pS HB hb; clear BK274 BK275; clear BK276 BK277 HB; have BK274 := n0_; have BK275 := n1_; have BK276 := n2_; have BK277 := n3_; have HB := n4_; clear n0_ n1_ n2_ n3_ n4_; (try clear hb); (try clear hb2); (try clear hk); (try clear hi)))
         go_ret
         exact ⟨by first | rfl | (simp [errW_none, errW_some] <;> rfl) | (simp [*, errW_none, errW_some] <;> rfl), pR HB⟩
        ·rw [if_neg c294] at H
         have c294b0 : (t281 == 0) = false := beq_eq_false_iff_ne.mpr c294
         have c294b1 : (t281 != 0) = true := bne_iff_ne.mpr c294
         obtain rfl := Option.some.inj H
         simp only [Option.some.injEq, Prod.mk.injEq] at H
         obtain ⟨rfl⟩ := H
         have hnb310 := NB274_275.out
         have hnc310 := NB275_274.out
         have hnb311 := NB274_276.out
         have hnc311 := NB276_274.out
         have hnb312 := NB274_277.out
         have hnc312 := NB277_274.out
         obtain ⟨hcz313_0, hcz313_1, hfz313_0, hfz313_1⟩ := cz2 BK274
         have hnb314 := NB275_276.out
         have hnc314 := NB276_275.out
         have hnb315 := NB275_277.out
         have hnc315 := NB277_275.out
         obtain ⟨hcz316_0, hcz316_1, hfz316_0, hfz316_1⟩ := cz2 BK275
         have hnb317 := NB277_276.out
         have hnc317 := NB276_277.out
         obtain ⟨hcz318_0, hcz318_1, hfz318_0, hfz318_1⟩ := cz2 BK277
         go_wp2_with (first | (go_at_call 69; (with_reducible refine (impl_between.calls a0_0 a0_1 a1_0 a1_1 a3_0 a3_1 false _ A231.out).mono ?_); rintro e w319 ⟨rfl, hb⟩; have n0_ := pB BK274 hb; have n1_ := pB BK275 hb; have n2_ := pB BK276 hb; have n3_ := pB BK277 hb; have n4_ := pS HB hb; clear BK274 BK275; clear BK276 BK277 HB; have BK274 := n0_; have BK275 := n1_; have BK276 := n2_; have BK277 := n3_; have HB := n4_; clear n0_ n1_ n2_ n3_ n4_; (try clear hb); (try clear hb2); (try clear hk); (try clear hi)))
         go_ret
         exact ⟨by first | rfl | (simp [errW_none, errW_some] <;> rfl) | (simp [*, errW_none, errW_some] <;> rfl), pR HB⟩
     ·rw [if_neg c230] at H
      have c230b0 : (t279 == 0) = false := beq_eq_false_iff_ne.mpr c230
      have c230b1 : (t279 != 0) = true := bne_iff_ne.mpr c230
      by_cases c320 : t280 = 0
      ·rw [if_pos c320] at H
       have c320b0 : (t280 == 0) = true := beq_iff_eq.mpr c320
       have c320b1 : (t280 != 0) = false := bne_eq_false_iff_eq.mpr c320
       clear c320
       replace H := Option.bind_eq_some_iff.mp H
       obtain ⟨t298, A3210, H⟩ := H
       replace H : (if t298 = true then (some true) else (if t281 = 0 then ((impl_between.f a2_0 a2_1 a3_0 a3_1 a1_0 a1_1).bind fun t299 => (some t299)) else (some false))) = some r := H
       have A321 := Aside0.mk A3210
       clear A3210
       by_cases c322 : t298 = true
       ·subst c322
        have H1 : (some true) = some r := by rw [if_pos rfl] at H; exact H
        clear H
        have H := H1
        clear H1
        obtain rfl := Option.some.inj H
        simp only [Option.some.injEq, Prod.mk.injEq] at H
        obtain ⟨rfl⟩ := H
        have hnb323 := NB276_274.out
        have hnc323 := NB274_276.out
        have hnb324 := NB276_275.out
        have hnc324 := NB275_276.out
        have hnb325 := NB276_277.out
        have hnc325 := NB277_276.out
        obtain ⟨hcz326_0, hcz326_1, hfz326_0, hfz326_1⟩ := cz2 BK276
        have hnb327 := NB277_274.out
        have hnc327 := NB274_277.out
        have hnb328 := NB277_275.out
        have hnc328 := NB275_277.out
        obtain ⟨hcz329_0, hcz329_1, hfz329_0, hfz329_1⟩ := cz2 BK277
        have hnb330 := NB274_275.out
        have hnc330 := NB275_274.out
        obtain ⟨hcz331_0, hcz331_1, hfz331_0, hfz331_1⟩ := cz2 BK274
        go_wp2_with (first | (go_at_call 69; (with_reducible refine (impl_between.calls a2_0 a2_1 a3_0 a3_1 a0_0 a0_1 true _ A321.out).mono ?_); rintro e w332 ⟨rfl, hb⟩; have n0_ := pB BK274 hb; have n1_ := pB BK275 hb; have n2_ := pB BK276 hb; have n3_ := pB BK277 hb; have n4_ := pS HB hb; clear BK274 BK275; clear BK276 BK277 HB; have BK274 := n0_; have BK275 := n1_; have BK276 := n2_; have BK277 := n3_; have HB := n4_; clear n0_ n1_ n2_ n3_ n4_; (try clear hb); (try clear hb2); (try clear hk); (try clear hi)))
        go_ret
        exact ⟨by first | rfl | (simp [errW_none, errW_some] <;> rfl) | (simp [*, errW_none, errW_some] <;> rfl), pR HB⟩
       ·replace c322 := Bool.eq_false_iff.mpr c322
        subst c322
        have H1 : (if t281 = 0 then ((impl_between.f a2_0 a2_1 a3_0 a3_1 a1_0 a1_1).bind fun t299 => (some t299)) else (some false)) = some r := by rw [if_neg (show ¬ (false = true) by decide)] at H; exact H
        clear H
        have H := H1
        clear H1
        by_cases c333 : t281 = 0
        ·rw [if_pos c333] at H
         have c333b0 : (t281 == 0) = true := beq_iff_eq.mpr c333
         have c333b1 : (t281 != 0) = false := bne_eq_false_iff_eq.mpr c333
         clear c333
         replace H := Option.bind_eq_some_iff.mp H
         obtain ⟨t299, A3340, H⟩ := H
         replace H : (some t299) = some r := H
         have A334 := Aside0.mk A3340
         clear A3340
         obtain rfl := Option.some.inj H
         simp only [Option.some.injEq, Prod.mk.injEq] at H
         obtain ⟨rfl⟩ := H
         have hnb335 := NB276_274.out
         have hnc335 := NB274_276.out
         have hnb336 := NB276_275.out
         have hnc336 := NB275_276.out
         have hnb337 := NB276_277.out
         have hnc337 := NB277_276.out
         obtain ⟨hcz338_0, hcz338_1, hfz338_0, hfz338_1⟩ := cz2 BK276
         have hnb339 := NB277_274.out
         have hnc339 := NB274_277.out
         have hnb340 := NB277_275.out
         have hnc340 := NB275_277.out
         obtain ⟨hcz341_0, hcz341_1, hfz341_0, hfz341_1⟩ := cz2 BK277
         have hnb342 := NB274_275.out
         have hnc342 := NB275_274.out
         obtain ⟨hcz343_0, hcz343_1, hfz343_0, hfz343_1⟩ := cz2 BK274
         go_wp2_with (first | (go_at_call 69; (with_reducible refine (impl_between.calls a2_0 a2_1 a3_0 a3_1 a0_0 a0_1 false _ A321.out).mono ?_); rintro e w344 ⟨rfl, hb⟩; have n0_ := pB BK274 hb; have n1_ := pB BK275 hb; have n2_ := pB BK276 hb; have n3_ := pB BK277 hb; have n4_ := pS HB hb; clear BK274 BK275; clear BK276 BK277 HB; have BK274 := n0_; have BK275 := n1_; have BK276 := n2_; have BK277 := n3_; have HB := n4_; clear n0_ n1_ n2_ n3_ n4_; (try clear hb); (try clear hb2); (try clear hk); (try clear hi); obtain ⟨hcz345_0, hcz345_1, hfz345_0, hfz345_1⟩ := cz2 BK276; obtain ⟨hcz346_0, hcz346_1, hfz346_0, hfz346_1⟩ := cz2 BK277; obtain ⟨hcz347_0, hcz347_1, hfz347_0, hfz347_1⟩ := cz2 BK275) | (go_at_call 69; (with_reducible refine (impl_between.calls a2_0 a2_1 a3_0 a3_1 a1_0 a1_1 t299 _ A334.out).mono ?_); rintro e w348 ⟨rfl, hb⟩; have n0_ := pB BK274 hb; have n1_ := pB BK275 hb; have n2_ := pB BK276 hb; have n3_ := pB BK277 hb; have n4_ := pS HB hb; clear BK274 BK275; clear BK276 BK277 HB; have BK274 := n0_; have BK275 := n1_; have BK276 := n2_; have BK277 := n3_; have HB := n4_; clear n0_ n1_ n2_ n3_ n4_; (try clear hb); (try clear hb2); (try clear hk); (try clear hi)))
         go_ret
         exact ⟨by first | rfl | (simp [errW_none, errW_some] <;> rfl) | (simp [*, errW_none, errW_some] <;> rfl), pR HB⟩
        ·rw [if_neg c333] at H
         have c333b0 : (t281 == 0) = false := beq_eq_false_iff_ne.mpr c333
         have c333b1 : (t281 != 0) = true := bne_iff_ne.mpr c333
         obtain rfl := Option.some.inj H
         simp only [Option.some.injEq, Prod.mk.injEq] at H
         obtain ⟨rfl⟩ := H
         have hnb349 := NB276_274.out
         have hnc349 := NB274_276.out
         have hnb350 := NB276_275.out
         have hnc350 := NB275_276.out
         have hnb351 := NB276_277.out
         have hnc351 := NB277_276.out
         obtain ⟨hcz352_0, hcz352_1, hfz352_0, hfz352_1⟩ := cz2 BK276
         have hnb353 := NB277_274.out
         have hnc353 := NB274_277.out
         have hnb354 := NB277_275.out
         have hnc354 := NB275_277.out
         obtain ⟨hcz355_0, hcz355_1, hfz355_0, hfz355_1⟩ := cz2 BK277
         have hnb356 := NB274_275.out
         have hnc356 := NB275_274.out
         obtain ⟨hcz357_0, hcz357_1, hfz357_0, hfz357_1⟩ := cz2 BK274
         go_wp2_with (first | (go_at_call 69; (with_reducible refine (impl_between.calls a2_0 a2_1 a3_0 a3_1 a0_0 a0_1 false _ A321.out).mono ?_); rintro e w358 ⟨rfl, hb⟩; have n0_ := pB BK274 hb; have n1_ := pB BK275 hb; have n2_ := pB BK276 hb; have n3_ := pB BK277 hb; have n4_ := pS HB hb; clear BK274 BK275; clear BK276 BK277 HB; have BK274 := n0_; have BK275 := n1_; have BK276 := n2_; have BK277 := n3_; have HB := n4_; clear n0_ n1_ n2_ n3_ n4_; (try clear hb); (try clear hb2); (try clear hk); (try clear hi)))
         go_ret
         exact ⟨by first | rfl | (simp [errW_none, errW_some] <;> rfl) | (simp [*, errW_none, errW_some] <;> rfl), pR HB⟩
      ·rw [if_neg c320] at H
       have c320b0 : (t280 == 0) = false := beq_eq_false_iff_ne.mpr c320
       have c320b1 : (t280 != 0) = true := bne_iff_ne.mpr c320
       by_cases c359 : t281 = 0
       ·rw [if_pos c359] at H
        have c359b0 : (t281 == 0) = true := beq_iff_eq.mpr c359
        have c359b1 : (t281 != 0) = false := bne_eq_false_iff_eq.mpr c359
        clear c359
        replace H := Option.bind_eq_some_iff.mp H
        obtain ⟨t300, A3600, H⟩ := H
        replace H : (some t300) = some r := H
        have A360 := Aside0.mk A3600
        clear A3600
        obtain rfl := Option.some.inj H
        simp only [Option.some.injEq, Prod.mk.injEq] at H
        obtain ⟨rfl⟩ := H
        have hnb361 := NB276_274.out
        have hnc361 := NB274_276.out
        have hnb362 := NB276_275.out
        have hnc362 := NB275_276.out
        have hnb363 := NB276_277.out
        have hnc363 := NB277_276.out
        obtain ⟨hcz364_0, hcz364_1, hfz364_0, hfz364_1⟩ := cz2 BK276
        have hnb365 := NB277_274.out
        have hnc365 := NB274_277.out
        have hnb366 := NB277_275.out
        have hnc366 := NB275_277.out
        obtain ⟨hcz367_0, hcz367_1, hfz367_0, hfz367_1⟩ := cz2 BK277
        have hnb368 := NB275_274.out
        have hnc368 := NB274_275.out
        obtain ⟨hcz369_0, hcz369_1, hfz369_0, hfz369_1⟩ := cz2 BK275
        go_wp2_with (first | (go_at_call 69; (with_reducible refine (impl_between.calls a2_0 a2_1 a3_0 a3_1 a1_0 a1_1 t300 _ A360.out).mono ?_); rintro e w370 ⟨rfl, hb⟩; have n0_ := pB BK274 hb; have n1_ := pB BK275 hb; have n2_ := pB BK276 hb; have n3_ := pB BK277 hb; have n4_ := pS HB hb; clear BK274 BK275; clear BK276 BK277 HB; have BK274 := n0_; have BK275 := n1_; have BK276 := n2_; have BK277 := n3_; have HB := n4_; clear n0_ n1_ n2_ n3_ n4_; (try clear hb); (try clear hb2); (try clear hk); (try clear hi)))
        go_ret
        exact ⟨by first | rfl | (simp [errW_none, errW_some] <;> rfl) | (simp [*, errW_none, errW_some] <;> rfl), pR HB⟩
       ·rw [if_neg c359] at H
        have c359b0 : (t281 == 0) = false := beq_eq_false_iff_ne.mpr c359
        have c359b1 : (t281 != 0) = true := bne_iff_ne.mpr c359
        obtain rfl := Option.some.inj H
        simp only [Option.some.injEq, Prod.mk.injEq] at H
        obtain ⟨rfl⟩ := H
        go_wp2
        go_ret
        exact ⟨by first | rfl | (simp [errW_none, errW_some] <;> rfl) | (simp [*, errW_none, errW_some] <;> rfl), pR HB⟩

end Go.Proofs.Ytnfgijackilcjaa.PFnExactHelmOf
