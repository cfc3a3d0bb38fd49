-- Written by a program of this session (wip/tools/pp.sh).
import Derived.Test.YtbhijlhlopljmaaPFnExactMarkFlawx0
import Derived.Test.YtbhijlhlopljmaaPFnExactMarkFlawx1
import Derived.Test.YtbhijlhlopljmaaPFnExactMarkFlawx2
import Derived.Test.YtbhijlhlopljmaaPFnExactMarkFlawx6
import Derived.Test.YtbhijlhlopljmaaPFnExactMarkFlawx7
namespace Go.Proofs.Ytbhijlhlopljmaa.PFnExactMarkFlaw
open Go.RowKit Go.Proofs.YtbhijlhlopljmaaW.PrintWords Go.Proofs.YtbhijlhlopljmaaW.PrintLast Go.Proofs.YtbhijlhlopljmaaW.PrintMore Go.Proofs.Ytbhijlhlopljmaa.Small
open Bool renaming true → T, false → F
attribute [local go_sem] max2_int min2_int max_two min_two max_three min_three max_four min_four   -- for this text's walks alone
set_option linter.unusedVariables false
set_option linter.unusedSimpArgs false

/-! ### laws_FnExactMarkFlaw: function 9 -/
mutual
def laws_FnExactMarkFlaw.j0 : Nat → Int → Int → Int → Bool → Int → List Int → Int → List Int → Int → List Int → Int → List Int → Option (Bool)
 | 0, _, _, _, _, _, _, _, _, _, _, _, _ => none
 | k + 1, x1, x7, x10, x44, x218000, x218001, x229000, x229001, x234000, x234001, x240000, x240001 => if x44 = true then (some false) else ((laws_toBolt.f k x218000 x218001).bind fun bt241 => ((laws_eqBolt.f k x234000 x234001 bt241.1 bt241.2).bind fun t245 => (if t245 = true then ((laws_markBolt.f k x234000 x234001 1).bind fun bt246 => (if bt246.1 < 0 then (laws_FnExactMarkFlaw.j1 k x1 x7 true x218000 x218001 x229000 x229001 x240000 x240001) else ((laws_eqBolt.f k x240000 x240001 x229000 x229001).bind fun t248 => (if t248 = true then (laws_FnExactMarkFlaw.j1 k x1 x7 (x10 != x7) x218000 x218001 x229000 x229001 x240000 x240001) else (laws_FnExactMarkFlaw.j1 k x1 x7 true x218000 x218001 x229000 x229001 x240000 x240001))))) else (some false))))
def laws_FnExactMarkFlaw.j1 : Nat → Int → Int → Bool → Int → List Int → Int → List Int → Int → List Int → Option (Bool)
 | 0, _, _, _, _, _, _, _, _, _ => none
 | k + 1, x1, x7, x65, x218000, x218001, x229000, x229001, x240000, x240001 => if x65 = true then (some false) else ((laws_markBolt.f k x240000 x240001 1).bind fun bt249 => ((laws_heldBolt.f k x240000 bt249.2 1).bind fun t251 => (if t251 < 0 then (some false) else (if t251 = bt249.1 then ((laws_toBolt.f k x218000 x218001).bind fun bt252 => ((impl_MarkFlaw.f k bt252.1 bt252.2 x1).bind fun bt256 => ((laws_eqBolt.f k bt256.1 bt256.2.1 x229000 x229001).bind fun t262 => (if t262 = true then (laws_FnExactMarkFlaw.j2 k bt249.1 (bt256.2.2 != x7) x240000 bt249.2) else (laws_FnExactMarkFlaw.j2 k bt249.1 true x240000 bt249.2))))) else (some false)))))
def laws_FnExactMarkFlaw.j2 : Nat → Int → Bool → Int → List Int → Option (Bool)
 | 0, _, _, _, _ => none
 | k + 1, x12, x92, x240000, x240001 => if x92 = true then (some false) else ((laws_heldBolt.f k x240000 x240001 1).bind fun t263 => (if t263 < 0 then (some false) else (if t263 = x12 then (some true) else (some false))))
end
def laws_FnExactMarkFlaw.f (k : Nat) (a0_0 : Int) (l0_1 : List Int) (a1 : Int) : Option (Bool) := (laws_szBolt.f a0_0 l0_1 1048576).bind fun t218 => (if t218 < 0 then (some true) else ((laws_toBolt.f k a0_0 l0_1).bind fun bt219 => ((spec_MarkFlaw.f k bt219.1 bt219.2 a1).bind fun bt223 => ((laws_toBolt.f k a0_0 l0_1).bind fun bt229 => ((impl_MarkFlaw.f k bt229.1 bt229.2 a1).bind fun bt234 => ((laws_eqBolt.f k bt234.1 bt234.2.1 bt223.1 bt223.2.1).bind fun t240 => (if t240 = true then (laws_FnExactMarkFlaw.j0 k a1 bt223.2.2 bt234.2.2 (bt234.2.2 != bt223.2.2) a0_0 l0_1 bt223.1 bt223.2.1 bt229.1 bt229.2 bt234.1 bt234.2.1) else (laws_FnExactMarkFlaw.j0 k a1 bt223.2.2 bt234.2.2 true a0_0 l0_1 bt223.1 bt223.2.1 bt229.1 bt229.2 bt234.1 bt234.2.1))))))))
theorem laws_FnExactMarkFlaw.mono_l : ∀ k, (∀ y0 y1 y2 y3 y4 y5 y6 y7 y8 y9 y10 y11, LeO (laws_FnExactMarkFlaw.j0 k y0 y1 y2 y3 y4 y5 y6 y7 y8 y9 y10 y11) (laws_FnExactMarkFlaw.j0 (k + 1) y0 y1 y2 y3 y4 y5 y6 y7 y8 y9 y10 y11)) ∧ (∀ y0 y1 y2 y3 y4 y5 y6 y7 y8, LeO (laws_FnExactMarkFlaw.j1 k y0 y1 y2 y3 y4 y5 y6 y7 y8) (laws_FnExactMarkFlaw.j1 (k + 1) y0 y1 y2 y3 y4 y5 y6 y7 y8)) ∧ (∀ y0 y1 y2 y3, LeO (laws_FnExactMarkFlaw.j2 k y0 y1 y2 y3) (laws_FnExactMarkFlaw.j2 (k + 1) y0 y1 y2 y3))
 | 0 => ⟨fun _ _ _ _ _ _ _ _ _ _ _ _ r h => by simp [laws_FnExactMarkFlaw.j0] at h, fun _ _ _ _ _ _ _ _ _ r h => by simp [laws_FnExactMarkFlaw.j1] at h, fun _ _ _ _ r h => by simp [laws_FnExactMarkFlaw.j2] at h⟩
 | k + 1 => by
  obtain ⟨ih0, ih1, ih2⟩ := laws_FnExactMarkFlaw.mono_l k
  refine ⟨?_, ?_, ?_⟩
  ·intro y0 y1 y2 y3 y4 y5 y6 y7 y8 y9 y10 y11
   unfold laws_FnExactMarkFlaw.j0
   repeat' first
   | (with_reducible exact ih0 _ _ _ _ _ _ _ _ _ _ _ _)
   | (with_reducible exact ih1 _ _ _ _ _ _ _ _ _)
   | (with_reducible exact ih2 _ _ _ _)
   | (with_reducible exact impl_MarkFlaw.mono _ _ _ _)
   | (with_reducible exact laws_eqBolt.mono _ _ _ _ _)
   | (with_reducible exact laws_heldBolt.mono _ _ _ _)
   | (with_reducible exact laws_markBolt.mono _ _ _ _)
   | (with_reducible exact laws_toBolt.mono _ _ _)
   | (with_reducible exact spec_MarkFlaw.mono _ _ _ _)
   | (with_reducible exact LeO.refl _)
   | (with_reducible exact LeO.none _)
   | (with_reducible refine LeO.ite ?_ ?_)
   | (with_reducible refine LeO.bind ?_ (fun _ => ?_))
   | exact ih0 _ _ _ _ _ _ _ _ _ _ _ _
   | exact ih1 _ _ _ _ _ _ _ _ _
   | exact ih2 _ _ _ _
   | exact impl_MarkFlaw.mono _ _ _ _
   | exact laws_eqBolt.mono _ _ _ _ _
   | exact laws_heldBolt.mono _ _ _ _
   | exact laws_markBolt.mono _ _ _ _
   | exact laws_toBolt.mono _ _ _
   | exact spec_MarkFlaw.mono _ _ _ _
   | exact LeO.none _
   | refine LeO.ite ?_ ?_
   | refine LeO.bind ?_ (fun _ => ?_)
  ·intro y0 y1 y2 y3 y4 y5 y6 y7 y8
   unfold laws_FnExactMarkFlaw.j1
   repeat' first
   | (with_reducible exact ih0 _ _ _ _ _ _ _ _ _ _ _ _)
   | (with_reducible exact ih1 _ _ _ _ _ _ _ _ _)
   | (with_reducible exact ih2 _ _ _ _)
   | (with_reducible exact impl_MarkFlaw.mono _ _ _ _)
   | (with_reducible exact laws_eqBolt.mono _ _ _ _ _)
   | (with_reducible exact laws_heldBolt.mono _ _ _ _)
   | (with_reducible exact laws_markBolt.mono _ _ _ _)
   | (with_reducible exact laws_toBolt.mono _ _ _)
   | (with_reducible exact spec_MarkFlaw.mono _ _ _ _)
   | (with_reducible exact LeO.refl _)
   | (with_reducible exact LeO.none _)
   | (with_reducible refine LeO.ite ?_ ?_)
   | (with_reducible refine LeO.bind ?_ (fun _ => ?_))
   | exact ih0 _ _ _ _ _ _ _ _ _ _ _ _
   | exact ih1 _ _ _ _ _ _ _ _ _
   | exact ih2 _ _ _ _
   | exact impl_MarkFlaw.mono _ _ _ _
   | exact laws_eqBolt.mono _ _ _ _ _
   | exact laws_heldBolt.mono _ _ _ _
   | exact laws_markBolt.mono _ _ _ _
   | exact laws_toBolt.mono _ _ _
   | exact spec_MarkFlaw.mono _ _ _ _
   | exact LeO.none _
   | refine LeO.ite ?_ ?_
   | refine LeO.bind ?_ (fun _ => ?_)
  ·intro y0 y1 y2 y3
   unfold laws_FnExactMarkFlaw.j2
   repeat' first
   | (with_reducible exact ih0 _ _ _ _ _ _ _ _ _ _ _ _)
   | (with_reducible exact ih1 _ _ _ _ _ _ _ _ _)
   | (with_reducible exact ih2 _ _ _ _)
   | (with_reducible exact impl_MarkFlaw.mono _ _ _ _)
   | (with_reducible exact laws_eqBolt.mono _ _ _ _ _)
   | (with_reducible exact laws_heldBolt.mono _ _ _ _)
   | (with_reducible exact laws_markBolt.mono _ _ _ _)
   | (with_reducible exact laws_toBolt.mono _ _ _)
   | (with_reducible exact spec_MarkFlaw.mono _ _ _ _)
   | (with_reducible exact LeO.refl _)
   | (with_reducible exact LeO.none _)
   | (with_reducible refine LeO.ite ?_ ?_)
   | (with_reducible refine LeO.bind ?_ (fun _ => ?_))
   | exact ih0 _ _ _ _ _ _ _ _ _ _ _ _
   | exact ih1 _ _ _ _ _ _ _ _ _
   | exact ih2 _ _ _ _
   | exact impl_MarkFlaw.mono _ _ _ _
   | exact laws_eqBolt.mono _ _ _ _ _
   | exact laws_heldBolt.mono _ _ _ _
   | exact laws_markBolt.mono _ _ _ _
   | exact laws_toBolt.mono _ _ _
   | exact spec_MarkFlaw.mono _ _ _ _
   | exact LeO.none _
   | refine LeO.ite ?_ ?_
   | refine LeO.bind ?_ (fun _ => ?_)
theorem laws_FnExactMarkFlaw.mono : ∀ a0 a1 a2 k, LeO (laws_FnExactMarkFlaw.f k a0 a1 a2) (laws_FnExactMarkFlaw.f (k + 1) a0 a1 a2) := by
 intro a0 a1 a2 k
 obtain ⟨ih0, ih1, ih2⟩ := laws_FnExactMarkFlaw.mono_l k
 unfold laws_FnExactMarkFlaw.f
 repeat' first
   | (with_reducible exact ih0 _ _ _ _ _ _ _ _ _ _ _ _)
   | (with_reducible exact ih1 _ _ _ _ _ _ _ _ _)
   | (with_reducible exact ih2 _ _ _ _)
   | (with_reducible exact impl_MarkFlaw.mono _ _ _ _)
   | (with_reducible exact laws_eqBolt.mono _ _ _ _ _)
   | (with_reducible exact laws_heldBolt.mono _ _ _ _)
   | (with_reducible exact laws_markBolt.mono _ _ _ _)
   | (with_reducible exact laws_toBolt.mono _ _ _)
   | (with_reducible exact spec_MarkFlaw.mono _ _ _ _)
   | (with_reducible exact LeO.refl _)
   | (with_reducible exact LeO.none _)
   | (with_reducible refine LeO.ite ?_ ?_)
   | (with_reducible refine LeO.bind ?_ (fun _ => ?_))
   | exact ih0 _ _ _ _ _ _ _ _ _ _ _ _
   | exact ih1 _ _ _ _ _ _ _ _ _
   | exact ih2 _ _ _ _
   | exact impl_MarkFlaw.mono _ _ _ _
   | exact laws_eqBolt.mono _ _ _ _ _
   | exact laws_heldBolt.mono _ _ _ _
   | exact laws_markBolt.mono _ _ _ _
   | exact laws_toBolt.mono _ _ _
   | exact spec_MarkFlaw.mono _ _ _ _
   | exact LeO.none _
   | refine LeO.ite ?_ ?_
   | refine LeO.bind ?_ (fun _ => ?_)
set_option maxHeartbeats 8000000 in
set_option maxRecDepth 100000 in
theorem laws_FnExactMarkFlaw.calls (k : Nat) (a0_0 : Int) (A0_1 : Option Addr) (c0_1 : Nat) (l0_1 : List Int) (a1 : Int) (r : Bool) (w : World) (hr0_1 : Kd.C (Kd.int .i64) w A0_1 l0_1.length l0_1) (hc0_1 : l0_1.length ≤ c0_1) (hrt : r = true) (h : laws_FnExactMarkFlaw.f k a0_0 l0_1 a1 = some r) :
  Calls Try.prog 9 #[.agg #[.int .i64 a0_0, .slice A0_1 l0_1.length c0_1], .int .i64 a1] w fun e w' => e = .returned (.bool r) ∧ Below w.heap.size w w' := by
 have hu77 := Try.underlying77
 have hu79 := Try.underlying79
 have HRT := Aside0.mk hrt
 clear hrt
 have HR0_1 := Aside0.mk hr0_1
 have HC0_1 := Aside0.mk hc0_1
 clear hr0_1 hc0_1
 have HB := Aside0.mk (Below.refl w.heap.size w)
 have H : ((laws_szBolt.f a0_0 l0_1 1048576).bind fun t218 => (if t218 < 0 then (some true) else ((laws_toBolt.f k a0_0 l0_1).bind fun bt219 => ((spec_MarkFlaw.f k bt219.1 bt219.2 a1).bind fun bt223 => ((laws_toBolt.f k a0_0 l0_1).bind fun bt229 => ((impl_MarkFlaw.f k bt229.1 bt229.2 a1).bind fun bt234 => ((laws_eqBolt.f k bt234.1 bt234.2.1 bt223.1 bt223.2.1).bind fun t240 => (if t240 = true then (laws_FnExactMarkFlaw.j0 k a1 bt223.2.2 bt234.2.2 (bt234.2.2 != bt223.2.2) a0_0 l0_1 bt223.1 bt223.2.1 bt229.1 bt229.2 bt234.1 bt234.2.1) else (laws_FnExactMarkFlaw.j0 k a1 bt223.2.2 bt234.2.2 true a0_0 l0_1 bt223.1 bt223.2.1 bt229.1 bt229.2 bt234.1 bt234.2.1))))))))) = some r := h
 clear h
 replace H := Option.bind_eq_some_iff.mp H
 obtain ⟨t218, A30, H⟩ := H
 replace H : (if t218 < 0 then (some true) else ((laws_toBolt.f k a0_0 l0_1).bind fun bt219 => ((spec_MarkFlaw.f k bt219.1 bt219.2 a1).bind fun bt223 => ((laws_toBolt.f k a0_0 l0_1).bind fun bt229 => ((impl_MarkFlaw.f k bt229.1 bt229.2 a1).bind fun bt234 => ((laws_eqBolt.f k bt234.1 bt234.2.1 bt223.1 bt223.2.1).bind fun t240 => (if t240 = true then (laws_FnExactMarkFlaw.j0 k a1 bt223.2.2 bt234.2.2 (bt234.2.2 != bt223.2.2) a0_0 l0_1 bt223.1 bt223.2.1 bt229.1 bt229.2 bt234.1 bt234.2.1) else (laws_FnExactMarkFlaw.j0 k a1 bt223.2.2 bt234.2.2 true a0_0 l0_1 bt223.1 bt223.2.1 bt229.1 bt229.2 bt234.1 bt234.2.1)))))))) = some r := H
 have A3 := Aside0.mk A30
 clear A30
 have HF_ := Aside0.mk H
 clear H
 go_enter Try.func9, Try.ntmps9
 go_upto_if 20 with (first | ((with_reducible refine gate_dst (N := 2) rfl ?_); refine box_event ?hg (N := 2) ?hd (cs := #[.int .i64 a0_0, .slice A0_1 l0_1.length c0_1]) (t := 77) ?hr ?_; (case hd => rfl); (case hg => rfl); (case hr => first | (go_simp; done) | (go_simp; rfl)); intro gb217 hg w4 hbox hb; have n0_ := pS HB hb; have n1_ := Aside0.mk (hbox); have n2_ := pG HB hg; have n3_ := pG HB hg; clear HB; have HB := n0_; have BK217 := n1_; have GW217 := n2_; have GE217 := n3_; clear n0_ n1_ n2_ n3_; clear hb hbox hg; obtain ⟨hcz5_0, hcz5_1, hfz5_0, hfz5_1⟩ := cz2 BK217) | ((with_reducible refine gate_callee (f := 50) rfl ?_); refine goesL_ (some 18) rfl rfl Try.func50 (by kernel_rfl) rfl #[.agg #[.int .i64 a0_0, .slice A0_1 l0_1.length c0_1], .int .i64 1048576] rfl (by (try simp only [List.map_toArray, List.map_cons, List.map_nil]); first | done | rfl | (simp only [List.length_drop, List.length_take]; rfl)) ?_; (with_reducible refine (laws_szBolt.calls a0_0 _ _ l0_1 1048576 t218 _ ?side1 ?side2 A3.out).mono ?_); (case side1 => repeat (first | exact (Kd.C_below HR0_1.out HB.out) | (with_reducible refine Kd.C_alloc ?_ _) | (with_reducible refine Kd.C_drewN ?_ _) | (with_reducible refine Kd.C_drew ?_))); (case side2 => exact HC0_1.out); rintro e w6 ⟨rfl, hb⟩; refine ⟨_, rfl, ?_⟩; have n0_ := pB BK217 hb; have n1_ := pS HB hb; clear BK217 HB; have BK217 := n0_; have HB := n1_; clear n0_ n1_; (try clear hb); (try clear hb2); (try clear hk); (try clear hi)))
 (try simp only [Act.put, List.setIfInBounds_toArray, List.set_cons_zero, List.set_cons_succ])
 have H := HF_.out
 clear HF_
 by_cases c7 : t218 < 0
 ·rw [if_pos c7] at H
  have c7b0 : decide (t218 < 0) = true := decide_eq_true c7
  clear c7
  (first | rw [c7b0] | (simp only [i64_w, i32_w]; rw [c7b0]) | skip)
  obtain rfl := Option.some.inj H
  simp only [Option.some.injEq, Prod.mk.injEq] at H
  obtain ⟨rfl⟩ := H
  go_wp2
  go_ret
  exact ⟨by first | rfl | (simp [errW_none, errW_some] <;> rfl) | (simp [*, errW_none, errW_some] <;> rfl), pR HB⟩
 ·rw [if_neg c7] at H
  have c7b0 : decide (t218 < 0) = false := decide_eq_false c7
  clear c7
  (first | rw [c7b0] | (simp only [i64_w, i32_w]; rw [c7b0]) | skip)
  replace H := Option.bind_eq_some_iff.mp H
  obtain ⟨⟨t219, t220⟩, A80, H⟩ := H
  replace H : ((spec_MarkFlaw.f k t219 t220 a1).bind fun bt223 => ((laws_toBolt.f k a0_0 l0_1).bind fun bt229 => ((impl_MarkFlaw.f k bt229.1 bt229.2 a1).bind fun bt234 => ((laws_eqBolt.f k bt234.1 bt234.2.1 bt223.1 bt223.2.1).bind fun t240 => (if t240 = true then (laws_FnExactMarkFlaw.j0 k a1 bt223.2.2 bt234.2.2 (bt234.2.2 != bt223.2.2) a0_0 l0_1 bt223.1 bt223.2.1 bt229.1 bt229.2 bt234.1 bt234.2.1) else (laws_FnExactMarkFlaw.j0 k a1 bt223.2.2 bt234.2.2 true a0_0 l0_1 bt223.1 bt223.2.1 bt229.1 bt229.2 bt234.1 bt234.2.1)))))) = some r := H
  have A8 := Aside0.mk A80
  clear A80
  replace H := Option.bind_eq_some_iff.mp H
  obtain ⟨⟨t223, t224, t227⟩, A90, H⟩ := H
  replace H : ((laws_toBolt.f k a0_0 l0_1).bind fun bt229 => ((impl_MarkFlaw.f k bt229.1 bt229.2 a1).bind fun bt234 => ((laws_eqBolt.f k bt234.1 bt234.2.1 t223 t224).bind fun t240 => (if t240 = true then (laws_FnExactMarkFlaw.j0 k a1 t227 bt234.2.2 (bt234.2.2 != t227) a0_0 l0_1 t223 t224 bt229.1 bt229.2 bt234.1 bt234.2.1) else (laws_FnExactMarkFlaw.j0 k a1 t227 bt234.2.2 true a0_0 l0_1 t223 t224 bt229.1 bt229.2 bt234.1 bt234.2.1))))) = some r := H
  have A9 := Aside0.mk A90
  clear A90
  replace H := Option.bind_eq_some_iff.mp H
  obtain ⟨⟨t229, t230⟩, A100, H⟩ := H
  replace H : ((impl_MarkFlaw.f k t229 t230 a1).bind fun bt234 => ((laws_eqBolt.f k bt234.1 bt234.2.1 t223 t224).bind fun t240 => (if t240 = true then (laws_FnExactMarkFlaw.j0 k a1 t227 bt234.2.2 (bt234.2.2 != t227) a0_0 l0_1 t223 t224 t229 t230 bt234.1 bt234.2.1) else (laws_FnExactMarkFlaw.j0 k a1 t227 bt234.2.2 true a0_0 l0_1 t223 t224 t229 t230 bt234.1 bt234.2.1)))) = some r := H
  have A10 := Aside0.mk A100
  clear A100
  replace H := Option.bind_eq_some_iff.mp H
  obtain ⟨⟨t234, t235, t238⟩, A110, H⟩ := H
  replace H : ((laws_eqBolt.f k t234 t235 t223 t224).bind fun t240 => (if t240 = true then (laws_FnExactMarkFlaw.j0 k a1 t227 t238 (t238 != t227) a0_0 l0_1 t223 t224 t229 t230 t234 t235) else (laws_FnExactMarkFlaw.j0 k a1 t227 t238 true a0_0 l0_1 t223 t224 t229 t230 t234 t235))) = some r := H
  have A11 := Aside0.mk A110
  clear A110
  have HC12 := Aside0.mk H
  clear H
  obtain ⟨hcz13_0, hcz13_1, hfz13_0, hfz13_1⟩ := cz2 BK217
  go_upto_region 8 with (first | ((with_reducible refine gate_callee (f := 52) rfl ?_); refine goesL_ (some 23) rfl rfl Try.func52 (by kernel_rfl) rfl #[.agg #[.int .i64 a0_0, .slice A0_1 l0_1.length c0_1]] rfl (by (try simp only [List.map_toArray, List.map_cons, List.map_nil]); first | done | rfl | (simp only [List.length_drop, List.length_take]; rfl)) ?_; (with_reducible refine (laws_toBolt.calls k a0_0 _ _ l0_1 t219 t220 _ ?side1 ?side2 A8.out).mono ?_); (case side1 => repeat (first | exact (Kd.C_below HR0_1.out HB.out) | (with_reducible refine Kd.C_alloc ?_ _) | (with_reducible refine Kd.C_drewN ?_ _) | (with_reducible refine Kd.C_drew ?_))); (case side2 => exact HC0_1.out); rintro e w14 ⟨v221, rfl, ho0, hb⟩; refine ⟨_, rfl, ?_⟩; have n0_ := Aside0.mk (Kd.R_lower ho0 (below_size (by repeat (first | (with_reducible first | exact HB.out | apply below_alloc | apply pw_below_drewN | apply below_drew1 | refine below_set ?_ GE217.out) | exact HB.out)))); have n1_ := pB BK217 hb; have n2_ := pS HB hb; clear BK217 HB; have HO222 := n0_; have BK217 := n1_; have HB := n2_; clear n0_ n1_ n2_; (try clear hb); (try clear hb2); (try clear hk); (try clear hi); (try clear ho0); obtain ⟨Ao15, co15, eo15⟩ := Kd.R_slice HO222.out; subst eo15) | ((with_reducible refine gate_callee (f := 51) rfl ?_); refine goesL_ (some 25) rfl rfl Try.func51 (by kernel_rfl) rfl #[.agg #[.int .i64 t219, .slice Ao15 t220.length co15], .int .i64 a1] rfl (by (try simp only [List.map_toArray, List.map_cons, List.map_nil]); first | done | rfl | (simp only [List.length_drop, List.length_take]; rfl)) ?_; (with_reducible refine (spec_MarkFlaw.calls k t219 _ _ t220 a1 t223 t224 t227 _ ?side1 ?side2 A9.out).mono ?_); (case side1 => repeat (first | exact (Kd.R_reads' HO222.out).2.2 | (with_reducible refine Kd.C_alloc ?_ _) | (with_reducible refine Kd.C_drewN ?_ _) | (with_reducible refine Kd.C_drew ?_))); (case side2 => exact (Kd.R_reads' HO222.out).2.1); rintro e w16 ⟨v225, rfl, ho0, hb⟩; refine ⟨_, rfl, ?_⟩; have n0_ := Aside0.mk (Kd.R_elder' (by (with_reducible repeat (first | apply Kd.R_alloc | apply Kd.R_drewN | apply Kd.R_drew)); exact HO222.out) (Kd.R_base ho0) hb); have n1_ := Aside0.mk (Kd.R_lower (Kd.R_new' ho0 (Kd.R_lt (by (with_reducible repeat (first | apply Kd.R_alloc | apply Kd.R_drewN | apply Kd.R_drew)); exact HO222.out))) (below_size (by repeat (first | (with_reducible first | exact HB.out | apply below_alloc | apply pw_below_drewN | apply below_drew1 | refine below_set ?_ GE217.out) | exact HB.out)))); have n2_ := pB BK217 hb; have n3_ := pS HB hb; clear HO222 BK217 HB; have HO222 := n0_; have HO226 := n1_; have BK217 := n2_; have HB := n3_; clear n0_ n1_ n2_ n3_; (try clear hb); (try clear hb2); (try clear hk); (try clear hi); (try clear ho0)) | ((with_reducible refine gate_dst (N := 6) rfl ?_); refine box_event ?hg (N := 6) ?hd (cs := #[.int .i64 0, .slice none 0 0]) (t := 79) ?hr ?_; (case hd => rfl); (case hg => rfl); (case hr => first | (go_simp; done) | (go_simp; rfl)); intro gb228 hg w17 hbox hb; have n0_ := Aside0.mk (Kd.R_below (by (with_reducible repeat (first | apply Kd.R_alloc | apply Kd.R_drewN | apply Kd.R_drew)); exact HO222.out) hb); have n1_ := Aside0.mk (Kd.R_below (by (with_reducible repeat (first | apply Kd.R_alloc | apply Kd.R_drewN | apply Kd.R_drew)); exact HO226.out) hb); have n2_ := pB BK217 hb; have n3_ := pS HB hb; have n4_ := Aside0.mk (hbox); have n5_ := pG HB hg; have n6_ := pG HB hg; have n7_ := pN BK217 hg; have n8_ := pM BK217 hg; clear HO222 HO226; clear BK217 HB; have HO222 := n0_; have HO226 := n1_; have BK217 := n2_; have HB := n3_; have BK228 := n4_; have GW228 := n5_; have GE228 := n6_; have NB217_228 := n7_; have NB228_217 := n8_; clear n0_ n1_ n2_ n3_ n4_ n5_ n6_ n7_ n8_; clear hb hbox hg; have hnb18 := NB228_217.out; have hnc18 := NB217_228.out; obtain ⟨hcz19_0, hcz19_1, hfz19_0, hfz19_1⟩ := cz2 BK228; obtain ⟨Ao20, co20, eo20⟩ := Kd.R_slice HO226.out; subst eo20; obtain ⟨hcz21_0, hcz21_1, hfz21_0, hfz21_1⟩ := cz2 BK217) | ((with_reducible refine gate_callee (f := 52) rfl ?_); refine goesL_ (some 29) rfl rfl Try.func52 (by kernel_rfl) rfl #[.agg #[.int .i64 a0_0, .slice A0_1 l0_1.length c0_1]] rfl (by (try simp only [List.map_toArray, List.map_cons, List.map_nil]); first | done | rfl | (simp only [List.length_drop, List.length_take]; rfl)) ?_; (with_reducible refine (laws_toBolt.calls k a0_0 _ _ l0_1 t229 t230 _ ?side1 ?side2 A10.out).mono ?_); (case side1 => exact Kd.C_below HR0_1.out (by repeat (first | (with_reducible first | exact HB.out | apply below_alloc | apply pw_below_drewN | apply below_drew1 | refine below_set ?_ GE217.out | refine below_set ?_ GE228.out) | exact HB.out))); (case side2 => exact HC0_1.out); rintro e w22 ⟨v231, rfl, ho0, hb⟩; refine ⟨_, rfl, ?_⟩; have n0_ := Aside0.mk (Kd.R_elder' (by (with_reducible repeat (first | apply Kd.R_alloc | apply Kd.R_drewN | apply Kd.R_drew)); exact (Kd.R_mono (Kd.R_far (p := ⟨gb228, 1, none⟩) (Kd.R_far (p := ⟨gb228, 0, none⟩) (Kd.R_types HO222.out BK228.out (by decide)) (fun _ hk => hk.2) (.int .i64 t223)) (fun _ hk => hk.2) (.slice Ao20 t224.length co20)) (fun _ h_ => h_.1))) (Kd.R_base ho0) hb); have n1_ := Aside0.mk (Kd.R_elder' (by (with_reducible repeat (first | apply Kd.R_alloc | apply Kd.R_drewN | apply Kd.R_drew)); exact (Kd.R_mono (Kd.R_far (p := ⟨gb228, 1, none⟩) (Kd.R_far (p := ⟨gb228, 0, none⟩) (Kd.R_types HO226.out BK228.out (by decide)) (fun _ hk => hk.2) (.int .i64 t223)) (fun _ hk => hk.2) (.slice Ao20 t224.length co20)) (fun _ h_ => h_.1))) (Kd.R_base ho0) hb); have n2_ := Aside0.mk (Kd.R_lower (Kd.R_new' (Kd.R_new' ho0 (Kd.R_lt (by (with_reducible repeat (first | apply Kd.R_alloc | apply Kd.R_drewN | apply Kd.R_drew)); exact (Kd.R_mono (Kd.R_far (p := ⟨gb228, 1, none⟩) (Kd.R_far (p := ⟨gb228, 0, none⟩) (Kd.R_types HO222.out BK228.out (by decide)) (fun _ hk => hk.2) (.int .i64 t223)) (fun _ hk => hk.2) (.slice Ao20 t224.length co20)) (fun _ h_ => h_.1))))) (Kd.R_lt (by (with_reducible repeat (first | apply Kd.R_alloc | apply Kd.R_drewN | apply Kd.R_drew)); exact (Kd.R_mono (Kd.R_far (p := ⟨gb228, 1, none⟩) (Kd.R_far (p := ⟨gb228, 0, none⟩) (Kd.R_types HO226.out BK228.out (by decide)) (fun _ hk => hk.2) (.int .i64 t223)) (fun _ hk => hk.2) (.slice Ao20 t224.length co20)) (fun _ h_ => h_.1))))) (below_size (by repeat (first | (with_reducible first | exact HB.out | apply below_alloc | apply pw_below_drewN | apply below_drew1 | refine below_set ?_ GE217.out | refine below_set ?_ GE228.out) | exact HB.out)))); have n3_ := Aside0.mk (blk_below (g := gb217) (o := .cells #[.int .i64 a0_0, .slice A0_1 l0_1.length c0_1] 77 (0, 0)) (by (with_reducible repeat (first | refine blk_drewN ?_ _ | refine blk_drew ?_ | refine blk_alloc ?_ _)); refine blk_far ?_ NB217_228.out _; (with_reducible repeat (first | refine blk_drewN ?_ _ | refine blk_drew ?_ | refine blk_alloc ?_ _)); refine blk_far ?_ NB217_228.out _; (with_reducible repeat (first | refine blk_drewN ?_ _ | refine blk_drew ?_ | refine blk_alloc ?_ _)); exact BK217.out) hb); have n4_ := Aside0.mk (blk_below (g := gb228) (o := .cells #[.int .i64 t223, .slice Ao20 t224.length co20] 79 (0, 0)) (by (with_reducible repeat (first | refine blk_drewN ?_ _ | refine blk_drew ?_ | refine blk_alloc ?_ _)); refine blk_put (cs := #[.int .i64 t223, .slice none 0 0]) ?_ 1 _ rfl; (with_reducible repeat (first | refine blk_drewN ?_ _ | refine blk_drew ?_ | refine blk_alloc ?_ _)); refine blk_put (cs := #[.int .i64 0, .slice none 0 0]) ?_ 0 _ rfl; (with_reducible repeat (first | refine blk_drewN ?_ _ | refine blk_drew ?_ | refine blk_alloc ?_ _)); exact BK228.out) hb); have n5_ := pS HB hb; clear HO222 HO226; clear BK217 BK228 HB; have HO222 := n0_; have HO226 := n1_; have HO232 := n2_; have BK217 := n3_; have BK228 := n4_; have HB := n5_; clear n0_ n1_ n2_ n3_ n4_ n5_; (try clear hb); (try clear hb2); (try clear hk); (try clear hi); (try clear ho0)) | ((with_reducible refine gate_dst (N := 8) rfl ?_); refine box_event ?hg (N := 8) ?hd (cs := #[.int .i64 0, .slice none 0 0]) (t := 79) ?hr ?_; (case hd => rfl); (case hg => rfl); (case hr => first | (go_simp; done) | (go_simp; rfl)); intro gb233 hg w23 hbox hb; have n0_ := Aside0.mk (Kd.R_below (by (with_reducible repeat (first | apply Kd.R_alloc | apply Kd.R_drewN | apply Kd.R_drew)); exact HO222.out) hb); have n1_ := Aside0.mk (Kd.R_below (by (with_reducible repeat (first | apply Kd.R_alloc | apply Kd.R_drewN | apply Kd.R_drew)); exact HO226.out) hb); have n2_ := Aside0.mk (Kd.R_below (by (with_reducible repeat (first | apply Kd.R_alloc | apply Kd.R_drewN | apply Kd.R_drew)); exact HO232.out) hb); have n3_ := pB BK217 hb; have n4_ := pB BK228 hb; have n5_ := pS HB hb; have n6_ := Aside0.mk (hbox); have n7_ := pG HB hg; have n8_ := pG HB hg; have n9_ := pN BK217 hg; have n10_ := pM BK217 hg; have n11_ := pN BK228 hg; have n12_ := pM BK228 hg; clear HO222 HO226; clear HO232 BK217; clear BK228 HB; have HO222 := n0_; have HO226 := n1_; have HO232 := n2_; have BK217 := n3_; have BK228 := n4_; have HB := n5_; have BK233 := n6_; have GW233 := n7_; have GE233 := n8_; have NB217_233 := n9_; have NB233_217 := n10_; have NB228_233 := n11_; have NB233_228 := n12_; clear n0_ n1_ n2_ n3_ n4_ n5_ n6_ n7_ n8_ n9_ n10_ n11_ n12_; clear hb hbox hg; have hnb24 := NB233_217.out; have hnc24 := NB217_233.out; have hnb25 := NB233_228.out; have hnc25 := NB228_233.out; obtain ⟨hcz26_0, hcz26_1, hfz26_0, hfz26_1⟩ := cz2 BK233; obtain ⟨Ao27, co27, eo27⟩ := Kd.R_slice HO232.out; subst eo27) | ((with_reducible refine gate_callee (f := 53) rfl ?_); refine goesL_ (some 33) rfl rfl Try.func53 (by kernel_rfl) rfl #[.agg #[.int .i64 t229, .slice Ao27 t230.length co27], .int .i64 a1] rfl (by (try simp only [List.map_toArray, List.map_cons, List.map_nil]); first | done | rfl | (simp only [List.length_drop, List.length_take]; rfl)) ?_; (with_reducible refine (impl_MarkFlaw.calls k t229 _ _ t230 a1 t234 t235 t238 _ ?side1 ?side2 A11.out).mono ?_); (case side1 => refine (Kd.R_reads' (e := 2) (base := w.heap.size) (ok := fun k_ => ((True ∧ some k_ ≠ (.slice Ao15 t220.length co15 : Value).ownBlock) ∧ some k_ ≠ (.slice Ao20 t224.length co20 : Value).ownBlock)) (n := t230.length) (c := co27) ?_).2.2; exact (by (with_reducible repeat (first | apply Kd.R_alloc | apply Kd.R_drewN | apply Kd.R_drew)); exact (Kd.R_mono (Kd.R_far (p := ⟨gb233, 1, none⟩) (Kd.R_far (p := ⟨gb233, 0, none⟩) (Kd.R_types HO232.out BK233.out (by decide)) (fun _ hk => hk.2) (.int .i64 t229)) (fun _ hk => hk.2) (.slice Ao27 t230.length co27)) (fun _ h_ => h_.1)))); (case side2 => exact (Kd.R_reads' HO232.out).2.1); rintro e w28 ⟨v236, rfl, ho0, hb⟩; refine ⟨_, rfl, ?_⟩; have n0_ := Aside0.mk (Kd.R_elder' (by (with_reducible repeat (first | apply Kd.R_alloc | apply Kd.R_drewN | apply Kd.R_drew)); exact (Kd.R_mono (Kd.R_far (p := ⟨gb233, 1, none⟩) (Kd.R_far (p := ⟨gb233, 0, none⟩) (Kd.R_types HO222.out BK233.out (by decide)) (fun _ hk => hk.2) (.int .i64 t229)) (fun _ hk => hk.2) (.slice Ao27 t230.length co27)) (fun _ h_ => h_.1))) (Kd.R_base ho0) hb); have n1_ := Aside0.mk (Kd.R_elder' (by (with_reducible repeat (first | apply Kd.R_alloc | apply Kd.R_drewN | apply Kd.R_drew)); exact (Kd.R_mono (Kd.R_far (p := ⟨gb233, 1, none⟩) (Kd.R_far (p := ⟨gb233, 0, none⟩) (Kd.R_types HO226.out BK233.out (by decide)) (fun _ hk => hk.2) (.int .i64 t229)) (fun _ hk => hk.2) (.slice Ao27 t230.length co27)) (fun _ h_ => h_.1))) (Kd.R_base ho0) hb); have n2_ := Aside0.mk (Kd.R_elder' (by (with_reducible repeat (first | apply Kd.R_alloc | apply Kd.R_drewN | apply Kd.R_drew)); exact (Kd.R_mono (Kd.R_far (p := ⟨gb233, 1, none⟩) (Kd.R_far (p := ⟨gb233, 0, none⟩) (Kd.R_types HO232.out BK233.out (by decide)) (fun _ hk => hk.2) (.int .i64 t229)) (fun _ hk => hk.2) (.slice Ao27 t230.length co27)) (fun _ h_ => h_.1))) (Kd.R_base ho0) hb); have n3_ := Aside0.mk (Kd.R_lower (Kd.R_new' (Kd.R_new' (Kd.R_new' ho0 (Kd.R_lt (by (with_reducible repeat (first | apply Kd.R_alloc | apply Kd.R_drewN | apply Kd.R_drew)); exact (Kd.R_mono (Kd.R_far (p := ⟨gb233, 1, none⟩) (Kd.R_far (p := ⟨gb233, 0, none⟩) (Kd.R_types HO222.out BK233.out (by decide)) (fun _ hk => hk.2) (.int .i64 t229)) (fun _ hk => hk.2) (.slice Ao27 t230.length co27)) (fun _ h_ => h_.1))))) (Kd.R_lt (by (with_reducible repeat (first | apply Kd.R_alloc | apply Kd.R_drewN | apply Kd.R_drew)); exact (Kd.R_mono (Kd.R_far (p := ⟨gb233, 1, none⟩) (Kd.R_far (p := ⟨gb233, 0, none⟩) (Kd.R_types HO226.out BK233.out (by decide)) (fun _ hk => hk.2) (.int .i64 t229)) (fun _ hk => hk.2) (.slice Ao27 t230.length co27)) (fun _ h_ => h_.1))))) (Kd.R_lt (by (with_reducible repeat (first | apply Kd.R_alloc | apply Kd.R_drewN | apply Kd.R_drew)); exact (Kd.R_mono (Kd.R_far (p := ⟨gb233, 1, none⟩) (Kd.R_far (p := ⟨gb233, 0, none⟩) (Kd.R_types HO232.out BK233.out (by decide)) (fun _ hk => hk.2) (.int .i64 t229)) (fun _ hk => hk.2) (.slice Ao27 t230.length co27)) (fun _ h_ => h_.1))))) (below_size (by repeat (first | (with_reducible first | exact HB.out | apply below_alloc | apply pw_below_drewN | apply below_drew1 | refine below_set ?_ GE217.out | refine below_set ?_ GE228.out | refine below_set ?_ GE233.out) | exact HB.out)))); have n4_ := Aside0.mk (blk_below (g := gb217) (o := .cells #[.int .i64 a0_0, .slice A0_1 l0_1.length c0_1] 77 (0, 0)) (by (with_reducible repeat (first | refine blk_drewN ?_ _ | refine blk_drew ?_ | refine blk_alloc ?_ _)); refine blk_far ?_ NB217_233.out _; (with_reducible repeat (first | refine blk_drewN ?_ _ | refine blk_drew ?_ | refine blk_alloc ?_ _)); refine blk_far ?_ NB217_233.out _; (with_reducible repeat (first | refine blk_drewN ?_ _ | refine blk_drew ?_ | refine blk_alloc ?_ _)); exact BK217.out) hb); have n5_ := Aside0.mk (blk_below (g := gb228) (o := .cells #[.int .i64 t223, .slice Ao20 t224.length co20] 79 (0, 0)) (by (with_reducible repeat (first | refine blk_drewN ?_ _ | refine blk_drew ?_ | refine blk_alloc ?_ _)); refine blk_far ?_ NB228_233.out _; (with_reducible repeat (first | refine blk_drewN ?_ _ | refine blk_drew ?_ | refine blk_alloc ?_ _)); refine blk_far ?_ NB228_233.out _; (with_reducible repeat (first | refine blk_drewN ?_ _ | refine blk_drew ?_ | refine blk_alloc ?_ _)); exact BK228.out) hb); have n6_ := Aside0.mk (blk_below (g := gb233) (o := .cells #[.int .i64 t229, .slice Ao27 t230.length co27] 79 (0, 0)) (by (with_reducible repeat (first | refine blk_drewN ?_ _ | refine blk_drew ?_ | refine blk_alloc ?_ _)); refine blk_put (cs := #[.int .i64 t229, .slice none 0 0]) ?_ 1 _ rfl; (with_reducible repeat (first | refine blk_drewN ?_ _ | refine blk_drew ?_ | refine blk_alloc ?_ _)); refine blk_put (cs := #[.int .i64 0, .slice none 0 0]) ?_ 0 _ rfl; (with_reducible repeat (first | refine blk_drewN ?_ _ | refine blk_drew ?_ | refine blk_alloc ?_ _)); exact BK233.out) hb); have n7_ := pS HB hb; clear HO222 HO226; clear HO232 BK217; clear BK228 BK233 HB; have HO222 := n0_; have HO226 := n1_; have HO232 := n2_; have HO237 := n3_; have BK217 := n4_; have BK228 := n5_; have BK233 := n6_; have HB := n7_; clear n0_ n1_ n2_ n3_ n4_ n5_ n6_ n7_; (try clear hb); (try clear hb2); (try clear hk); (try clear hi); (try clear ho0)) | ((with_reducible refine gate_dst (N := 9) rfl ?_); refine box_event ?hg (N := 9) ?hd (cs := #[.int .i64 0, .slice none 0 0]) (t := 79) ?hr ?_; (case hd => rfl); (case hg => rfl); (case hr => first | (go_simp; done) | (go_simp; rfl)); intro gb239 hg w29 hbox hb; have n0_ := Aside0.mk (Kd.R_below (by (with_reducible repeat (first | apply Kd.R_alloc | apply Kd.R_drewN | apply Kd.R_drew)); exact HO222.out) hb); have n1_ := Aside0.mk (Kd.R_below (by (with_reducible repeat (first | apply Kd.R_alloc | apply Kd.R_drewN | apply Kd.R_drew)); exact HO226.out) hb); have n2_ := Aside0.mk (Kd.R_below (by (with_reducible repeat (first | apply Kd.R_alloc | apply Kd.R_drewN | apply Kd.R_drew)); exact HO232.out) hb); have n3_ := Aside0.mk (Kd.R_below (by (with_reducible repeat (first | apply Kd.R_alloc | apply Kd.R_drewN | apply Kd.R_drew)); exact HO237.out) hb); have n4_ := pB BK217 hb; have n5_ := pB BK228 hb; have n6_ := pB BK233 hb; have n7_ := pS HB hb; have n8_ := Aside0.mk (hbox); have n9_ := pG HB hg; have n10_ := pG HB hg; have n11_ := pN BK217 hg; have n12_ := pM BK217 hg; have n13_ := pN BK228 hg; have n14_ := pM BK228 hg; have n15_ := pN BK233 hg; have n16_ := pM BK233 hg; clear HO222 HO226; clear HO232 HO237; clear BK217 BK228; clear BK233 HB; have HO222 := n0_; have HO226 := n1_; have HO232 := n2_; have HO237 := n3_; have BK217 := n4_; have BK228 := n5_; have BK233 := n6_; have HB := n7_; have BK239 := n8_; have GW239 := n9_; have GE239 := n10_; have NB217_239 := n11_; have NB239_217 := n12_; have NB228_239 := n13_; have NB239_228 := n14_; have NB233_239 := n15_; have NB239_233 := n16_; clear n0_ n1_ n2_ n3_ n4_ n5_ n6_ n7_ n8_ n9_ n10_ n11_ n12_ n13_ n14_ n15_ n16_; clear hb hbox hg; have hnb30 := NB239_217.out; have hnc30 := NB217_239.out; have hnb31 := NB239_228.out; have hnc31 := NB228_239.out; have hnb32 := NB239_233.out; have hnc32 := NB233_239.out; obtain ⟨hcz33_0, hcz33_1, hfz33_0, hfz33_1⟩ := cz2 BK239; obtain ⟨Ao34, co34, eo34⟩ := Kd.R_slice HO237.out; subst eo34))
  (try simp only [Act.put, List.setIfInBounds_toArray, List.set_cons_zero, List.set_cons_succ])
  go_cut [44] (fun v44 wc => ∃ (kq : Nat) (x44_11 : Bool), v44 = .bool x44_11 ∧ Aside0 (laws_FnExactMarkFlaw.j0 kq a1 t227 t238 x44_11 a0_0 l0_1 t223 t224 t229 t230 t234 t235 = some r) ∧ Aside0 (kq ≤ k) ∧ Aside0 (Kd.R (Kd.int .i64) 2 wc w.heap.size (fun k_ => some k_ ≠ ((.slice Ao27 t230.length co27) : Value).ownBlock ∧ some k_ ≠ ((.slice Ao34 t235.length co34) : Value).ownBlock) (.slice Ao20 t224.length co20) t224) ∧ Aside0 (Kd.R (Kd.int .i64) 2 wc w.heap.size (fun k_ => some k_ ≠ ((.slice Ao20 t224.length co20) : Value).ownBlock ∧ some k_ ≠ ((.slice Ao34 t235.length co34) : Value).ownBlock) (.slice Ao27 t230.length co27) t230) ∧ Aside0 (Kd.R (Kd.int .i64) 2 wc w.heap.size (fun k_ => some k_ ≠ ((.slice Ao20 t224.length co20) : Value).ownBlock ∧ some k_ ≠ ((.slice Ao27 t230.length co27) : Value).ownBlock) (.slice Ao34 t235.length co34) t235) ∧ Aside0 (wc.heap[gb217]? = some (.cells #[.int .i64 a0_0, (.slice A0_1 l0_1.length c0_1)] 77 (0, 0))) ∧ Aside0 (wc.heap[gb228]? = some (.cells #[.int .i64 t223, (.slice Ao20 t224.length co20)] 79 (0, 0))) ∧ Aside0 (wc.heap[gb233]? = some (.cells #[.int .i64 t229, (.slice Ao27 t230.length co27)] 79 (0, 0))) ∧ Aside0 (wc.heap[gb239]? = some (.cells #[.int .i64 t234, (.slice Ao34 t235.length co34)] 79 (0, 0))) ∧ Aside0 (Below w.heap.size w wc))
  case first =>
   have H := HC12.out
   clear HC12
   replace H := Option.bind_eq_some_iff.mp H
   obtain ⟨t240, A350, H⟩ := H
   replace H : (if t240 = true then (laws_FnExactMarkFlaw.j0 k a1 t227 t238 (t238 != t227) a0_0 l0_1 t223 t224 t229 t230 t234 t235) else (laws_FnExactMarkFlaw.j0 k a1 t227 t238 true a0_0 l0_1 t223 t224 t229 t230 t234 t235)) = some r := H
   have A35 := Aside0.mk A350
   clear A350
   by_cases c36 : t240 = true
   ·subst c36
    have H1 : (laws_FnExactMarkFlaw.j0 k a1 t227 t238 (t238 != t227) a0_0 l0_1 t223 t224 t229 t230 t234 t235) = some r := by rw [if_pos rfl] at H; exact H
    clear H
    have H := H1
    clear H1
    have H' := Aside0.mk H
    clear H
    have hnb37 := NB239_217.out
    have hnc37 := NB217_239.out
    have hnb38 := NB239_228.out
    have hnc38 := NB228_239.out
    have hnb39 := NB239_233.out
    have hnc39 := NB233_239.out
    obtain ⟨hcz40_0, hcz40_1, hfz40_0, hfz40_1⟩ := cz2 BK239
    have hnb41 := NB228_217.out
    have hnc41 := NB217_228.out
    have hnb42 := NB228_233.out
    have hnc42 := NB233_228.out
    obtain ⟨hcz43_0, hcz43_1, hfz43_0, hfz43_1⟩ := cz2 BK228
    go_wp2_with (first | ((with_reducible refine gate_callee (f := 54) rfl ?_); refine goesL_ (some 38) rfl rfl Try.func54 (by kernel_rfl) rfl #[.agg #[.int .i64 t234, .slice Ao34 t235.length co34], .agg #[.int .i64 t223, .slice Ao20 t224.length co20]] rfl (by (try simp only [List.map_toArray, List.map_cons, List.map_nil]); first | done | rfl | (simp only [List.length_drop, List.length_take]; rfl)) ?_; (with_reducible refine (laws_eqBolt.calls k t234 _ _ t235 t223 _ _ t224 true _ ?side1 ?side2 ?side3 ?side4 A35.out).mono ?_); (case side1 => refine (Kd.R_reads' (e := 2) (base := w.heap.size) (ok := fun k_ => (((True ∧ some k_ ≠ (.slice Ao15 t220.length co15 : Value).ownBlock) ∧ some k_ ≠ (.slice Ao20 t224.length co20 : Value).ownBlock) ∧ some k_ ≠ (.slice Ao27 t230.length co27 : Value).ownBlock)) (n := t235.length) (c := co34) ?_).2.2; exact (by (with_reducible repeat (first | apply Kd.R_alloc | apply Kd.R_drewN | apply Kd.R_drew)); exact (Kd.R_mono (Kd.R_far (p := ⟨gb239, 1, none⟩) (Kd.R_far (p := ⟨gb239, 0, none⟩) (Kd.R_types HO237.out BK239.out (by decide)) (fun _ hk => hk.2) (.int .i64 t234)) (fun _ hk => hk.2) (.slice Ao34 t235.length co34)) (fun _ h_ => h_.1)))); (case side2 => exact (Kd.R_reads' HO237.out).2.1); (case side3 => refine (Kd.R_reads' (e := 2) (base := w.heap.size) (ok := fun k_ => (((True ∧ some k_ ≠ (.slice Ao15 t220.length co15 : Value).ownBlock) ∧ some k_ ≠ (.slice Ao27 t230.length co27 : Value).ownBlock) ∧ some k_ ≠ (.slice Ao34 t235.length co34 : Value).ownBlock)) (n := t224.length) (c := co20) ?_).2.2; exact (by (with_reducible repeat (first | apply Kd.R_alloc | apply Kd.R_drewN | apply Kd.R_drew)); exact (Kd.R_mono (Kd.R_far (p := ⟨gb239, 1, none⟩) (Kd.R_far (p := ⟨gb239, 0, none⟩) (Kd.R_types HO226.out BK239.out (by decide)) (fun _ hk => hk.2) (.int .i64 t234)) (fun _ hk => hk.2) (.slice Ao34 t235.length co34)) (fun _ h_ => h_.1)))); (case side4 => exact (Kd.R_reads' HO226.out).2.1); rintro e w44 ⟨rfl, hb⟩; refine ⟨_, rfl, ?_⟩; have n0_ := Aside0.mk (Kd.R_below (by (with_reducible repeat (first | apply Kd.R_alloc | apply Kd.R_drewN | apply Kd.R_drew)); exact (Kd.R_mono (Kd.R_far (p := ⟨gb239, 1, none⟩) (Kd.R_far (p := ⟨gb239, 0, none⟩) (Kd.R_types HO222.out BK239.out (by decide)) (fun _ hk => hk.2) (.int .i64 t234)) (fun _ hk => hk.2) (.slice Ao34 t235.length co34)) (fun _ h_ => h_.1))) hb); have n1_ := Aside0.mk (Kd.R_below (by (with_reducible repeat (first | apply Kd.R_alloc | apply Kd.R_drewN | apply Kd.R_drew)); exact (Kd.R_mono (Kd.R_far (p := ⟨gb239, 1, none⟩) (Kd.R_far (p := ⟨gb239, 0, none⟩) (Kd.R_types HO226.out BK239.out (by decide)) (fun _ hk => hk.2) (.int .i64 t234)) (fun _ hk => hk.2) (.slice Ao34 t235.length co34)) (fun _ h_ => h_.1))) hb); have n2_ := Aside0.mk (Kd.R_below (by (with_reducible repeat (first | apply Kd.R_alloc | apply Kd.R_drewN | apply Kd.R_drew)); exact (Kd.R_mono (Kd.R_far (p := ⟨gb239, 1, none⟩) (Kd.R_far (p := ⟨gb239, 0, none⟩) (Kd.R_types HO232.out BK239.out (by decide)) (fun _ hk => hk.2) (.int .i64 t234)) (fun _ hk => hk.2) (.slice Ao34 t235.length co34)) (fun _ h_ => h_.1))) hb); have n3_ := Aside0.mk (Kd.R_below (by (with_reducible repeat (first | apply Kd.R_alloc | apply Kd.R_drewN | apply Kd.R_drew)); exact (Kd.R_mono (Kd.R_far (p := ⟨gb239, 1, none⟩) (Kd.R_far (p := ⟨gb239, 0, none⟩) (Kd.R_types HO237.out BK239.out (by decide)) (fun _ hk => hk.2) (.int .i64 t234)) (fun _ hk => hk.2) (.slice Ao34 t235.length co34)) (fun _ h_ => h_.1))) hb); have n4_ := Aside0.mk (blk_below (g := gb217) (o := .cells #[.int .i64 a0_0, .slice A0_1 l0_1.length c0_1] 77 (0, 0)) (by (with_reducible repeat (first | refine blk_drewN ?_ _ | refine blk_drew ?_ | refine blk_alloc ?_ _)); refine blk_far ?_ NB217_239.out _; (with_reducible repeat (first | refine blk_drewN ?_ _ | refine blk_drew ?_ | refine blk_alloc ?_ _)); refine blk_far ?_ NB217_239.out _; (with_reducible repeat (first | refine blk_drewN ?_ _ | refine blk_drew ?_ | refine blk_alloc ?_ _)); exact BK217.out) hb); have n5_ := Aside0.mk (blk_below (g := gb228) (o := .cells #[.int .i64 t223, .slice Ao20 t224.length co20] 79 (0, 0)) (by (with_reducible repeat (first | refine blk_drewN ?_ _ | refine blk_drew ?_ | refine blk_alloc ?_ _)); refine blk_far ?_ NB228_239.out _; (with_reducible repeat (first | refine blk_drewN ?_ _ | refine blk_drew ?_ | refine blk_alloc ?_ _)); refine blk_far ?_ NB228_239.out _; (with_reducible repeat (first | refine blk_drewN ?_ _ | refine blk_drew ?_ | refine blk_alloc ?_ _)); exact BK228.out) hb); have n6_ := Aside0.mk (blk_below (g := gb233) (o := .cells #[.int .i64 t229, .slice Ao27 t230.length co27] 79 (0, 0)) (by (with_reducible repeat (first | refine blk_drewN ?_ _ | refine blk_drew ?_ | refine blk_alloc ?_ _)); refine blk_far ?_ NB233_239.out _; (with_reducible repeat (first | refine blk_drewN ?_ _ | refine blk_drew ?_ | refine blk_alloc ?_ _)); refine blk_far ?_ NB233_239.out _; (with_reducible repeat (first | refine blk_drewN ?_ _ | refine blk_drew ?_ | refine blk_alloc ?_ _)); exact BK233.out) hb); have n7_ := Aside0.mk (blk_below (g := gb239) (o := .cells #[.int .i64 t234, .slice Ao34 t235.length co34] 79 (0, 0)) (by (with_reducible repeat (first | refine blk_drewN ?_ _ | refine blk_drew ?_ | refine blk_alloc ?_ _)); refine blk_put (cs := #[.int .i64 t234, .slice none 0 0]) ?_ 1 _ rfl; (with_reducible repeat (first | refine blk_drewN ?_ _ | refine blk_drew ?_ | refine blk_alloc ?_ _)); refine blk_put (cs := #[.int .i64 0, .slice none 0 0]) ?_ 0 _ rfl; (with_reducible repeat (first | refine blk_drewN ?_ _ | refine blk_drew ?_ | refine blk_alloc ?_ _)); exact BK239.out) hb); have n8_ := pS HB hb; clear HO222 HO226; clear HO232 HO237; clear BK217 BK228; clear BK233 BK239 HB; have HO222 := n0_; have HO226 := n1_; have HO232 := n2_; have HO237 := n3_; have BK217 := n4_; have BK228 := n5_; have BK233 := n6_; have BK239 := n7_; have HB := n8_; clear n0_ n1_ n2_ n3_ n4_ n5_ n6_ n7_ n8_; (try clear hb); (try clear hb2); (try clear hk); (try clear hi)))
    go_meet
    case rel => exact ⟨_, ((t238 != t227)), (by first | rfl | (simp; done) | (simp [*]; done)), H', ⟨by first | omega | exact Nat.le_refl _⟩, ⟨by (with_reducible repeat (first | apply Kd.R_alloc | apply Kd.R_drewN | apply Kd.R_drew)); exact Kd.R_mono HO226.out (fun _ hk => ⟨hk.1.2, hk.2⟩)⟩, ⟨by (with_reducible repeat (first | apply Kd.R_alloc | apply Kd.R_drewN | apply Kd.R_drew)); exact Kd.R_mono HO232.out (fun _ hk => ⟨hk.1.2, hk.2⟩)⟩, ⟨by (with_reducible repeat (first | apply Kd.R_alloc | apply Kd.R_drewN | apply Kd.R_drew)); exact Kd.R_mono HO237.out (fun _ hk => ⟨hk.1.2, hk.2⟩)⟩, ⟨by (with_reducible repeat (first | refine blk_drewN ?_ _ | refine blk_drew ?_ | refine blk_alloc ?_ _)); exact BK217.out⟩, ⟨by (with_reducible repeat (first | refine blk_drewN ?_ _ | refine blk_drew ?_ | refine blk_alloc ?_ _)); exact BK228.out⟩, ⟨by (with_reducible repeat (first | refine blk_drewN ?_ _ | refine blk_drew ?_ | refine blk_alloc ?_ _)); exact BK233.out⟩, ⟨by (with_reducible repeat (first | refine blk_drewN ?_ _ | refine blk_drew ?_ | refine blk_alloc ?_ _)); exact BK239.out⟩, ⟨by repeat (first | (with_reducible first | exact HB.out | apply below_alloc | apply pw_below_drewN | apply below_drew1 | refine below_set ?_ GE217.out | refine below_set ?_ GE228.out | refine below_set ?_ GE233.out | refine below_set ?_ GE239.out) | exact HB.out)⟩⟩
   ·replace c36 := Bool.eq_false_iff.mpr c36
    subst c36
    have H1 : (laws_FnExactMarkFlaw.j0 k a1 t227 t238 true a0_0 l0_1 t223 t224 t229 t230 t234 t235) = some r := by rw [if_neg (show ¬ (false = true) by decide)] at H; exact H
    clear H
    have H := H1
    clear H1
    have H' := Aside0.mk H
    clear H
    have hnb45 := NB239_217.out
    have hnc45 := NB217_239.out
    have hnb46 := NB239_228.out
    have hnc46 := NB228_239.out
    have hnb47 := NB239_233.out
    have hnc47 := NB233_239.out
    obtain ⟨hcz48_0, hcz48_1, hfz48_0, hfz48_1⟩ := cz2 BK239
    have hnb49 := NB228_217.out
    have hnc49 := NB217_228.out
    have hnb50 := NB228_233.out
    have hnc50 := NB233_228.out
    obtain ⟨hcz51_0, hcz51_1, hfz51_0, hfz51_1⟩ := cz2 BK228
    go_wp2_with (first | ((with_reducible refine gate_callee (f := 54) rfl ?_); refine goesL_ (some 38) rfl rfl Try.func54 (by kernel_rfl) rfl #[.agg #[.int .i64 t234, .slice Ao34 t235.length co34], .agg #[.int .i64 t223, .slice Ao20 t224.length co20]] rfl (by (try simp only [List.map_toArray, List.map_cons, List.map_nil]); first | done | rfl | (simp only [List.length_drop, List.length_take]; rfl)) ?_; (with_reducible refine (laws_eqBolt.calls k t234 _ _ t235 t223 _ _ t224 false _ ?side1 ?side2 ?side3 ?side4 A35.out).mono ?_); (case side1 => refine (Kd.R_reads' (e := 2) (base := w.heap.size) (ok := fun k_ => (((True ∧ some k_ ≠ (.slice Ao15 t220.length co15 : Value).ownBlock) ∧ some k_ ≠ (.slice Ao20 t224.length co20 : Value).ownBlock) ∧ some k_ ≠ (.slice Ao27 t230.length co27 : Value).ownBlock)) (n := t235.length) (c := co34) ?_).2.2; exact (by (with_reducible repeat (first | apply Kd.R_alloc | apply Kd.R_drewN | apply Kd.R_drew)); exact (Kd.R_mono (Kd.R_far (p := ⟨gb239, 1, none⟩) (Kd.R_far (p := ⟨gb239, 0, none⟩) (Kd.R_types HO237.out BK239.out (by decide)) (fun _ hk => hk.2) (.int .i64 t234)) (fun _ hk => hk.2) (.slice Ao34 t235.length co34)) (fun _ h_ => h_.1)))); (case side2 => exact (Kd.R_reads' HO237.out).2.1); (case side3 => refine (Kd.R_reads' (e := 2) (base := w.heap.size) (ok := fun k_ => (((True ∧ some k_ ≠ (.slice Ao15 t220.length co15 : Value).ownBlock) ∧ some k_ ≠ (.slice Ao27 t230.length co27 : Value).ownBlock) ∧ some k_ ≠ (.slice Ao34 t235.length co34 : Value).ownBlock)) (n := t224.length) (c := co20) ?_).2.2; exact (by (with_reducible repeat (first | apply Kd.R_alloc | apply Kd.R_drewN | apply Kd.R_drew)); exact (Kd.R_mono (Kd.R_far (p := ⟨gb239, 1, none⟩) (Kd.R_far (p := ⟨gb239, 0, none⟩) (Kd.R_types HO226.out BK239.out (by decide)) (fun _ hk => hk.2) (.int .i64 t234)) (fun _ hk => hk.2) (.slice Ao34 t235.length co34)) (fun _ h_ => h_.1)))); (case side4 => exact (Kd.R_reads' HO226.out).2.1); rintro e w52 ⟨rfl, hb⟩; refine ⟨_, rfl, ?_⟩; have n0_ := Aside0.mk (Kd.R_below (by (with_reducible repeat (first | apply Kd.R_alloc | apply Kd.R_drewN | apply Kd.R_drew)); exact (Kd.R_mono (Kd.R_far (p := ⟨gb239, 1, none⟩) (Kd.R_far (p := ⟨gb239, 0, none⟩) (Kd.R_types HO222.out BK239.out (by decide)) (fun _ hk => hk.2) (.int .i64 t234)) (fun _ hk => hk.2) (.slice Ao34 t235.length co34)) (fun _ h_ => h_.1))) hb); have n1_ := Aside0.mk (Kd.R_below (by (with_reducible repeat (first | apply Kd.R_alloc | apply Kd.R_drewN | apply Kd.R_drew)); exact (Kd.R_mono (Kd.R_far (p := ⟨gb239, 1, none⟩) (Kd.R_far (p := ⟨gb239, 0, none⟩) (Kd.R_types HO226.out BK239.out (by decide)) (fun _ hk => hk.2) (.int .i64 t234)) (fun _ hk => hk.2) (.slice Ao34 t235.length co34)) (fun _ h_ => h_.1))) hb); have n2_ := Aside0.mk (Kd.R_below (by (with_reducible repeat (first | apply Kd.R_alloc | apply Kd.R_drewN | apply Kd.R_drew)); exact (Kd.R_mono (Kd.R_far (p := ⟨gb239, 1, none⟩) (Kd.R_far (p := ⟨gb239, 0, none⟩) (Kd.R_types HO232.out BK239.out (by decide)) (fun _ hk => hk.2) (.int .i64 t234)) (fun _ hk => hk.2) (.slice Ao34 t235.length co34)) (fun _ h_ => h_.1))) hb); have n3_ := Aside0.mk (Kd.R_below (by (with_reducible repeat (first | apply Kd.R_alloc | apply Kd.R_drewN | apply Kd.R_drew)); exact (Kd.R_mono (Kd.R_far (p := ⟨gb239, 1, none⟩) (Kd.R_far (p := ⟨gb239, 0, none⟩) (Kd.R_types HO237.out BK239.out (by decide)) (fun _ hk => hk.2) (.int .i64 t234)) (fun _ hk => hk.2) (.slice Ao34 t235.length co34)) (fun _ h_ => h_.1))) hb); have n4_ := Aside0.mk (blk_below (g := gb217) (o := .cells #[.int .i64 a0_0, .slice A0_1 l0_1.length c0_1] 77 (0, 0)) (by (with_reducible repeat (first | refine blk_drewN ?_ _ | refine blk_drew ?_ | refine blk_alloc ?_ _)); refine blk_far ?_ NB217_239.out _; (with_reducible repeat (first | refine blk_drewN ?_ _ | refine blk_drew ?_ | refine blk_alloc ?_ _)); refine blk_far ?_ NB217_239.out _; (with_reducible repeat (first | refine blk_drewN ?_ _ | refine blk_drew ?_ | refine blk_alloc ?_ _)); exact BK217.out) hb); have n5_ := Aside0.mk (blk_below (g := gb228) (o := .cells #[.int .i64 t223, .slice Ao20 t224.length co20] 79 (0, 0)) (by (with_reducible repeat (first | refine blk_drewN ?_ _ | refine blk_drew ?_ | refine blk_alloc ?_ _)); refine blk_far ?_ NB228_239.out _; (with_reducible repeat (first | refine blk_drewN ?_ _ | refine blk_drew ?_ | refine blk_alloc ?_ _)); refine blk_far ?_ NB228_239.out _; (with_reducible repeat (first | refine blk_drewN ?_ _ | refine blk_drew ?_ | refine blk_alloc ?_ _)); exact BK228.out) hb); have n6_ := Aside0.mk (blk_below (g := gb233) (o := .cells #[.int .i64 t229, .slice Ao27 t230.length co27] 79 (0, 0)) (by (with_reducible repeat (first | refine blk_drewN ?_ _ | refine blk_drew ?_ | refine blk_alloc ?_ _)); refine blk_far ?_ NB233_239.out _; (with_reducible repeat (first | refine blk_drewN ?_ _ | refine blk_drew ?_ | refine blk_alloc ?_ _)); refine blk_far ?_ NB233_239.out _; (with_reducible repeat (first | refine blk_drewN ?_ _ | refine blk_drew ?_ | refine blk_alloc ?_ _)); exact BK233.out) hb); have n7_ := Aside0.mk (blk_below (g := gb239) (o := .cells #[.int .i64 t234, .slice Ao34 t235.length co34] 79 (0, 0)) (by (with_reducible repeat (first | refine blk_drewN ?_ _ | refine blk_drew ?_ | refine blk_alloc ?_ _)); refine blk_put (cs := #[.int .i64 t234, .slice none 0 0]) ?_ 1 _ rfl; (with_reducible repeat (first | refine blk_drewN ?_ _ | refine blk_drew ?_ | refine blk_alloc ?_ _)); refine blk_put (cs := #[.int .i64 0, .slice none 0 0]) ?_ 0 _ rfl; (with_reducible repeat (first | refine blk_drewN ?_ _ | refine blk_drew ?_ | refine blk_alloc ?_ _)); exact BK239.out) hb); have n8_ := pS HB hb; clear HO222 HO226; clear HO232 HO237; clear BK217 BK228; clear BK233 BK239 HB; have HO222 := n0_; have HO226 := n1_; have HO232 := n2_; have HO237 := n3_; have BK217 := n4_; have BK228 := n5_; have BK233 := n6_; have BK239 := n7_; have HB := n8_; clear n0_ n1_ n2_ n3_ n4_ n5_ n6_ n7_ n8_; (try clear hb); (try clear hb2); (try clear hk); (try clear hi)))
    go_meet
    case rel => exact ⟨_, (true), (by first | rfl | (simp; done) | (simp [*]; done)), H', ⟨by first | omega | exact Nat.le_refl _⟩, ⟨by (with_reducible repeat (first | apply Kd.R_alloc | apply Kd.R_drewN | apply Kd.R_drew)); exact Kd.R_mono HO226.out (fun _ hk => ⟨hk.1.2, hk.2⟩)⟩, ⟨by (with_reducible repeat (first | apply Kd.R_alloc | apply Kd.R_drewN | apply Kd.R_drew)); exact Kd.R_mono HO232.out (fun _ hk => ⟨hk.1.2, hk.2⟩)⟩, ⟨by (with_reducible repeat (first | apply Kd.R_alloc | apply Kd.R_drewN | apply Kd.R_drew)); exact Kd.R_mono HO237.out (fun _ hk => ⟨hk.1.2, hk.2⟩)⟩, ⟨by (with_reducible repeat (first | refine blk_drewN ?_ _ | refine blk_drew ?_ | refine blk_alloc ?_ _)); exact BK217.out⟩, ⟨by (with_reducible repeat (first | refine blk_drewN ?_ _ | refine blk_drew ?_ | refine blk_alloc ?_ _)); exact BK228.out⟩, ⟨by (with_reducible repeat (first | refine blk_drewN ?_ _ | refine blk_drew ?_ | refine blk_alloc ?_ _)); exact BK233.out⟩, ⟨by (with_reducible repeat (first | refine blk_drewN ?_ _ | refine blk_drew ?_ | refine blk_alloc ?_ _)); exact BK239.out⟩, ⟨by repeat (first | (with_reducible first | exact HB.out | apply below_alloc | apply pw_below_drewN | apply below_drew1 | refine below_set ?_ GE217.out | refine below_set ?_ GE228.out | refine below_set ?_ GE233.out | refine below_set ?_ GE239.out) | exact HB.out)⟩⟩
  case rest =>
   clear HC12
   try clear c1
   try clear c2
   try clear p2
   try clear c3
   try clear c4
   try clear c5
   try clear c7
   try clear c7b0
   try clear c9
   try clear c18
   try clear c24
   try clear c25
   try clear c30
   try clear c31
   try clear c32
   try clear c36
   try clear c37
   try clear c38
   try clear c39
   try clear c41
   try clear c42
   try clear c45
   try clear c46
   try clear c47
   try clear c49
   try clear c50
   try clear c51
   try clear c52
   try clear hcz13_0
   try clear hcz13_1
   try clear hcz19_0
   try clear hcz19_1
   try clear hcz21_0
   try clear hcz21_1
   try clear hcz26_0
   try clear hcz26_1
   try clear hcz33_0
   try clear hcz33_1
   try clear hcz40_0
   try clear hcz40_1
   try clear hcz43_0
   try clear hcz43_1
   try clear hcz48_0
   try clear hcz48_1
   try clear hcz51_0
   try clear hcz51_1
   try clear hcz5_0
   try clear hcz5_1
   try clear hfz13_0
   try clear hfz13_1
   try clear hfz19_0
   try clear hfz19_1
   try clear hfz21_0
   try clear hfz21_1
   try clear hfz26_0
   try clear hfz26_1
   try clear hfz33_0
   try clear hfz33_1
   try clear hfz40_0
   try clear hfz40_1
   try clear hfz43_0
   try clear hfz43_1
   try clear hfz48_0
   try clear hfz48_1
   try clear hfz51_0
   try clear hfz51_1
   try clear hfz5_0
   try clear hfz5_1
   obtain ⟨kq, x44_11, rfl, HA, HJ11, HO_229001, HO_234001, HO_240001, BK217, BK228, BK233, BK239, HB⟩ := hcut
   cases kq with
   | zero => exact absurd HA.out (by simp [laws_FnExactMarkFlaw.j0])
   | succ kj11 =>
    have H := HA.out
    clear HA
    simp only [laws_FnExactMarkFlaw.j0] at H
    by_cases c53 : x44_11 = true
    ·subst c53
     have H1 : (some false) = some r := by rw [if_pos rfl] at H; exact H
     clear H
     have H := H1
     clear H1
     obtain rfl := Option.some.inj H
     exact absurd HRT.out (by decide)
    ·replace c53 := Bool.eq_false_iff.mpr c53
     subst c53
     have H1 : ((laws_toBolt.f kj11 a0_0 l0_1).bind fun bt241 => ((laws_eqBolt.f kj11 t229 t230 bt241.1 bt241.2).bind fun t245 => (if t245 = true then ((laws_markBolt.f kj11 t229 t230 1).bind fun bt246 => (if bt246.1 < 0 then (laws_FnExactMarkFlaw.j1 kj11 a1 t227 true a0_0 l0_1 t223 t224 t234 t235) else ((laws_eqBolt.f kj11 t234 t235 t223 t224).bind fun t248 => (if t248 = true then (laws_FnExactMarkFlaw.j1 kj11 a1 t227 (t238 != t227) a0_0 l0_1 t223 t224 t234 t235) else (laws_FnExactMarkFlaw.j1 kj11 a1 t227 true a0_0 l0_1 t223 t224 t234 t235))))) else (some false)))) = some r := by rw [if_neg (show ¬ (false = true) by decide)] at H; exact H
     clear H
     have H := H1
     clear H1
     replace H := Option.bind_eq_some_iff.mp H
     obtain ⟨⟨t241, t242⟩, A540, H⟩ := H
     replace H : ((laws_eqBolt.f kj11 t229 t230 t241 t242).bind fun t245 => (if t245 = true then ((laws_markBolt.f kj11 t229 t230 1).bind fun bt246 => (if bt246.1 < 0 then (laws_FnExactMarkFlaw.j1 kj11 a1 t227 true a0_0 l0_1 t223 t224 t234 t235) else ((laws_eqBolt.f kj11 t234 t235 t223 t224).bind fun t248 => (if t248 = true then (laws_FnExactMarkFlaw.j1 kj11 a1 t227 (t238 != t227) a0_0 l0_1 t223 t224 t234 t235) else (laws_FnExactMarkFlaw.j1 kj11 a1 t227 true a0_0 l0_1 t223 t224 t234 t235))))) else (some false))) = some r := H
     have A54 := Aside0.mk A540
     clear A540
     replace H := Option.bind_eq_some_iff.mp H
     obtain ⟨t245, A550, H⟩ := H
     replace H : (if t245 = true then ((laws_markBolt.f kj11 t229 t230 1).bind fun bt246 => (if bt246.1 < 0 then (laws_FnExactMarkFlaw.j1 kj11 a1 t227 true a0_0 l0_1 t223 t224 t234 t235) else ((laws_eqBolt.f kj11 t234 t235 t223 t224).bind fun t248 => (if t248 = true then (laws_FnExactMarkFlaw.j1 kj11 a1 t227 (t238 != t227) a0_0 l0_1 t223 t224 t234 t235) else (laws_FnExactMarkFlaw.j1 kj11 a1 t227 true a0_0 l0_1 t223 t224 t234 t235))))) else (some false)) = some r := H
     have A55 := Aside0.mk A550
     clear A550
     by_cases c56 : t245 = true
     ·subst c56
      have H1 : ((laws_markBolt.f kj11 t229 t230 1).bind fun bt246 => (if bt246.1 < 0 then (laws_FnExactMarkFlaw.j1 kj11 a1 t227 true a0_0 l0_1 t223 t224 t234 t235) else ((laws_eqBolt.f kj11 t234 t235 t223 t224).bind fun t248 => (if t248 = true then (laws_FnExactMarkFlaw.j1 kj11 a1 t227 (t238 != t227) a0_0 l0_1 t223 t224 t234 t235) else (laws_FnExactMarkFlaw.j1 kj11 a1 t227 true a0_0 l0_1 t223 t224 t234 t235))))) = some r := by rw [if_pos rfl] at H; exact H
      clear H
      have H := H1
      clear H1
      replace H := Option.bind_eq_some_iff.mp H
      obtain ⟨⟨t246, t247⟩, A570, H⟩ := H
      replace H : (if t246 < 0 then (laws_FnExactMarkFlaw.j1 kj11 a1 t227 true a0_0 l0_1 t223 t224 t234 t235) else ((laws_eqBolt.f kj11 t234 t235 t223 t224).bind fun t248 => (if t248 = true then (laws_FnExactMarkFlaw.j1 kj11 a1 t227 (t238 != t227) a0_0 l0_1 t223 t224 t234 t235) else (laws_FnExactMarkFlaw.j1 kj11 a1 t227 true a0_0 l0_1 t223 t224 t234 t235)))) = some r := H
      have A57 := Aside0.mk A570
      clear A570
      have HC58 := Aside0.mk H
      clear H
      try go_wp2
      have n0_ := Aside0.mk (Kd.R_drew HO_229001.out)
      have n1_ := Aside0.mk (Kd.R_drew HO_234001.out)
      have n2_ := Aside0.mk (Kd.R_drew HO_240001.out)
      have n3_ := Aside0.mk (blk_drew BK217.out)
      have n4_ := Aside0.mk (blk_drew BK228.out)
      have n5_ := Aside0.mk (blk_drew BK233.out)
      have n6_ := Aside0.mk (blk_drew BK239.out)
      have n7_ := Aside0.mk (below_drew1 HB.out)
      clear HO_229001
      clear HO_234001
      clear HO_240001
      clear BK217
      clear BK228
      clear BK233
      clear BK239
      clear HB
      have HO_229001 := n0_
      have HO_234001 := n1_
      have HO_240001 := n2_
      have BK217 := n3_
      have BK228 := n4_
      have BK233 := n5_
      have BK239 := n6_
      have HB := n7_
      clear n0_ n1_ n2_ n3_ n4_ n5_ n6_ n7_
      refine start_ (n := 5) (S := fun w' => w'.cell? ⟨gb233, 0, none⟩ = some (.int .i64 t229) ∧ w'.cell? ⟨gb233, 1, none⟩ = some (.slice Ao27 t230.length co27) ∧ w'.cell? ⟨gb217, 0, none⟩ = some (.int .i64 a0_0) ∧ w'.cell? ⟨gb217, 1, none⟩ = some (.slice A0_1 l0_1.length c0_1)) (ds := []) #[F,F,F,F,F] (by kernel_rfl) rfl rfl ⟨(blk_cell BK233.out 0).trans rfl, (blk_cell BK233.out 1).trans rfl, (blk_cell BK217.out 0).trans rfl, (blk_cell BK217.out 1).trans rfl⟩ (fun hHeld => ?_)
      generalize wc.drew = w59 at HO_229001 HO_234001 HO_240001 BK217 BK228 BK233 BK239 HB hHeld ⊢
      refine take_ (i := 0) (N := some 45) (v := ?_) (a' := ?_) #[T,F,F,F,F] rfl rfl (by kernel_rfl) (fun _ _ _ h => h) (Or.inl ⟨by rfl, ?_⟩) hHeld ?_ ?_
      rotate_left
      ·rintro w' ⟨s0, s1, s2, s3⟩
       go_simp
       with_reducible rfl
      rotate_left
      ·simp only [NS]
       rfl
      refine take_ (i := 1) (N := some 46) (v := ?_) (a' := ?_) #[T,T,F,F,F] rfl rfl (by kernel_rfl) (fun _ _ _ h => h) (Or.inl ⟨by rfl, ?_⟩) hHeld ?_ ?_
      rotate_left
      ·rintro w' ⟨s0, s1, s2, s3⟩
       go_simp
       with_reducible rfl
      rotate_left
      ·simp only [NS]
       rfl
      refine one_ (i := 2) (N := some 47) #[T,T,T,F,F] rfl rfl (by kernel_rfl) (by decide) (fun K hK => ?_)
      refine goes_ Try.func52 (by kernel_rfl) rfl #[.agg #[.int .i64 a0_0, .slice A0_1 l0_1.length c0_1]] (by rfl) rfl rfl (by (try simp only [List.map_toArray, List.map_cons, List.map_nil]); first | done | rfl | (simp only [List.length_drop, List.length_take]; rfl)) ?_
      with_reducible refine (laws_toBolt.calls kj11 a0_0 _ _ l0_1 t241 t242 _ ?side1 ?side2 A54.out).mono ?_
      (case side1 => repeat (first | exact (Kd.C_below HR0_1.out HB.out) | (with_reducible refine Kd.C_alloc ?_ _) | (with_reducible refine Kd.C_drewN ?_ _) | (with_reducible refine Kd.C_drew ?_)))
      (case side2 => exact HC0_1.out)
      rintro e w60 ⟨v243, rfl, ho0, hb⟩
      refine ⟨_, rfl, ?_⟩
      have n0_ := Aside0.mk (Kd.R_elder' (by (with_reducible repeat (first | apply Kd.R_alloc | apply Kd.R_drewN | apply Kd.R_drew)); exact HO_229001.out) (Kd.R_base ho0) hb)
      have n1_ := Aside0.mk (Kd.R_elder' (by (with_reducible repeat (first | apply Kd.R_alloc | apply Kd.R_drewN | apply Kd.R_drew)); exact HO_234001.out) (Kd.R_base ho0) hb)
      have n2_ := Aside0.mk (Kd.R_elder' (by (with_reducible repeat (first | apply Kd.R_alloc | apply Kd.R_drewN | apply Kd.R_drew)); exact HO_240001.out) (Kd.R_base ho0) hb)
      have n3_ := Aside0.mk (Kd.R_lower (Kd.R_new' (Kd.R_new' (Kd.R_new' ho0 (Kd.R_lt (by (with_reducible repeat (first | apply Kd.R_alloc | apply Kd.R_drewN | apply Kd.R_drew)); exact HO_229001.out))) (Kd.R_lt (by (with_reducible repeat (first | apply Kd.R_alloc | apply Kd.R_drewN | apply Kd.R_drew)); exact HO_234001.out))) (Kd.R_lt (by (with_reducible repeat (first | apply Kd.R_alloc | apply Kd.R_drewN | apply Kd.R_drew)); exact HO_240001.out))) (below_size (by repeat (first | (with_reducible first | exact HB.out | apply below_alloc | apply pw_below_drewN | apply below_drew1 | refine below_set ?_ GE217.out | refine below_set ?_ GE228.out | refine below_set ?_ GE233.out | refine below_set ?_ GE239.out) | exact HB.out))))
      have n4_ := pB BK217 hb
      have n5_ := pB BK228 hb
      have n6_ := pB BK233 hb
      have n7_ := pB BK239 hb
      have n8_ := pS HB hb
      clear HO_229001
      clear HO_234001
      clear HO_240001
      clear BK217
      clear BK228
      clear BK233
      clear BK239
      clear HB
      have HO_229001 := n0_
      have HO_234001 := n1_
      have HO_240001 := n2_
      have HO244 := n3_
      have BK217 := n4_
      have BK228 := n5_
      have BK233 := n6_
      have BK239 := n7_
      have HB := n8_
      clear n0_ n1_ n2_ n3_ n4_ n5_ n6_ n7_ n8_
      (try clear hb)
      (try clear hb2)
      (try clear hk)
      (try clear hi)
      (try clear ho0)
      obtain ⟨Ao61, co61, eo61⟩ := Kd.R_slice HO244.out
      (first | subst eo61 | (injection eo61 with f1_ f2_ f3_; have f4_ := f1_.symm; have f5_ := f3_.symm; clear f1_ f2_ f3_; subst f4_; subst f5_))
      refine hK.out _ _ ⟨(blk_cell BK233.out 0).trans rfl, (blk_cell BK233.out 1).trans rfl, (blk_cell BK217.out 0).trans rfl, (blk_cell BK217.out 1).trans rfl⟩ (fun hHeld => ?_)
      clear hK K
      refine norm_ (a' := ?_) ?_ ?_
      rotate_left
      ·show Act.put _ (some 47) _ = _
       simp only [NS]
       rfl
      refine one_ (i := 3) (N := some 48) #[T,T,T,T,F] rfl rfl (by kernel_rfl) (by decide) (fun K hK => ?_)
      refine goes_ Try.func54 (by kernel_rfl) rfl #[.agg #[.int .i64 t229, .slice Ao27 t230.length co27], .agg #[.int .i64 t241, .slice Ao61 t242.length co61]] (by rfl) rfl rfl (by (try simp only [List.map_toArray, List.map_cons, List.map_nil]); first | done | rfl | (simp only [List.length_drop, List.length_take]; rfl)) ?_
      with_reducible refine (laws_eqBolt.calls kj11 t229 _ _ t230 t241 _ _ t242 true _ ?side1 ?side2 ?side3 ?side4 A55.out).mono ?_
      (case side1 => repeat (first | exact (Kd.R_reads' HO_234001.out).2.2 | (with_reducible refine Kd.C_alloc ?_ _) | (with_reducible refine Kd.C_drewN ?_ _) | (with_reducible refine Kd.C_drew ?_)))
      (case side2 => exact (Kd.R_reads' HO_234001.out).2.1)
      (case side3 => repeat (first | exact (Kd.R_reads' HO244.out).2.2 | (with_reducible refine Kd.C_alloc ?_ _) | (with_reducible refine Kd.C_drewN ?_ _) | (with_reducible refine Kd.C_drew ?_)))
      (case side4 => exact (Kd.R_reads' HO244.out).2.1)
      rintro e w62 ⟨rfl, hb⟩
      refine ⟨_, rfl, ?_⟩
      have n0_ := Aside0.mk (Kd.R_below (by (with_reducible repeat (first | apply Kd.R_alloc | apply Kd.R_drewN | apply Kd.R_drew)); exact HO_229001.out) hb)
      have n1_ := Aside0.mk (Kd.R_below (by (with_reducible repeat (first | apply Kd.R_alloc | apply Kd.R_drewN | apply Kd.R_drew)); exact HO_234001.out) hb)
      have n2_ := Aside0.mk (Kd.R_below (by (with_reducible repeat (first | apply Kd.R_alloc | apply Kd.R_drewN | apply Kd.R_drew)); exact HO_240001.out) hb)
      have n3_ := Aside0.mk (Kd.R_below (by (with_reducible repeat (first | apply Kd.R_alloc | apply Kd.R_drewN | apply Kd.R_drew)); exact HO244.out) hb)
      have n4_ := pB BK217 hb
      have n5_ := pB BK228 hb
      have n6_ := pB BK233 hb
      have n7_ := pB BK239 hb
      have n8_ := pS HB hb
      clear HO_229001
      clear HO_234001
      clear HO_240001
      clear HO244
      clear BK217
      clear BK228
      clear BK233
      clear BK239
      clear HB
      have HO_229001 := n0_
      have HO_234001 := n1_
      have HO_240001 := n2_
      have HO244 := n3_
      have BK217 := n4_
      have BK228 := n5_
      have BK233 := n6_
      have BK239 := n7_
      have HB := n8_
      clear n0_ n1_ n2_ n3_ n4_ n5_ n6_ n7_ n8_
      (try clear hb)
      (try clear hb2)
      (try clear hk)
      (try clear hi)
      refine hK.out _ _ ⟨(blk_cell BK233.out 0).trans rfl, (blk_cell BK233.out 1).trans rfl, (blk_cell BK217.out 0).trans rfl, (blk_cell BK217.out 1).trans rfl⟩ (fun hHeld => ?_)
      clear hK K
      refine norm_ (a' := ?_) ?_ ?_
      rotate_left
      ·show Act.put _ (some 48) _ = _
       simp only [NS]
       rfl
      refine pure_ (i := 4) (N := some 49) (v := ?_) (a' := ?_) #[T,T,T,T,T] rfl rfl (by kernel_rfl) (fun _ _ _ h => h) (Or.inl ⟨by rfl, ?_⟩) ?_ ?_
      rotate_left
      ·intro w'
       go_simp
       with_reducible rfl
      rotate_left
      ·simp only [NS]
       rfl
      refine done_ (by kernel_rfl) ?_
      have hnb63 := NB233_217.out
      have hnc63 := NB217_233.out
      have hnb64 := NB233_228.out
      have hnc64 := NB228_233.out
      have hnb65 := NB233_239.out
      have hnc65 := NB239_233.out
      obtain ⟨hcz66_0, hcz66_1, hfz66_0, hfz66_1⟩ := cz2 BK233
      go_upto_region 14 with (first | ((with_reducible refine gate_callee (f := 55) rfl ?_); refine goesL_ (some 52) rfl rfl Try.func55 (by kernel_rfl) rfl #[.agg #[.int .i64 t229, .slice Ao27 t230.length co27], .int .i64 1] rfl (by (try simp only [List.map_toArray, List.map_cons, List.map_nil]); first | done | rfl | (simp only [List.length_drop, List.length_take]; rfl)) ?_; (with_reducible refine (laws_markBolt.calls kj11 t229 (fun k_ => some k_ = (.slice Ao27 t230.length co27 : Value).ownBlock) (.slice Ao27 t230.length co27) t230 1 t246 t247 w _ ?side1 ?side2 A57.out).mono ?_); (case side1 => repeat (first | (with_reducible first | exact HB.out | apply below_alloc | apply pw_below_drewN | apply below_drew1 | refine below_set ?_ GE217.out | refine below_set ?_ GE228.out | refine below_set ?_ GE233.out | refine below_set ?_ GE239.out) | exact HB.out)); (case side2 => exact Kd.R_tight rfl HO_234001.out); rintro e w67 ⟨rfl, hy0, hb, hkp⟩; refine ⟨_, rfl, ?_⟩; have n0_ := Aside0.mk (Kd.R_mono (ok' := fun k_ => some k_ ≠ (.slice Ao27 t230.length co27 : Value).ownBlock ∧ some k_ ≠ (.slice Ao34 t235.length co34 : Value).ownBlock ∧ some k_ ≠ (.slice Ao61 t242.length co61 : Value).ownBlock) (Kd.R_keptB (HO_229001.out) hkp (fun k_ hk_ hs_ => (hk_.1.1) hs_)) (fun k_ hk_ => ⟨hk_.1.1.1, hk_.1.1.2, hk_.1.2⟩)); have n1_ := Aside0.mk (Kd.R_reok rfl hy0 (fun k_ e_ => HO_234001.out.1 k_ e_)); have n2_ := Aside0.mk (Kd.R_mono (ok' := fun k_ => some k_ ≠ (.slice Ao20 t224.length co20 : Value).ownBlock ∧ some k_ ≠ (.slice Ao27 t230.length co27 : Value).ownBlock ∧ some k_ ≠ (.slice Ao61 t242.length co61 : Value).ownBlock) (Kd.R_keptB (HO_240001.out) hkp (fun k_ hk_ hs_ => (hk_.1.2) hs_)) (fun k_ hk_ => ⟨hk_.1.1.1, hk_.1.1.2, hk_.1.2⟩)); have n3_ := Aside0.mk (blk_kept (by (with_reducible repeat (first | refine blk_drewN ?_ _ | refine blk_drew ?_ | refine blk_alloc ?_ _)); exact BK217.out) hkp (fun hs_ => (fun e_ => (Kd.R_ne HO_234001.out BK217.out (by decide)) e_) hs_)); have n4_ := Aside0.mk (blk_kept (by (with_reducible repeat (first | refine blk_drewN ?_ _ | refine blk_drew ?_ | refine blk_alloc ?_ _)); exact BK228.out) hkp (fun hs_ => (fun e_ => (Kd.R_ne HO_234001.out BK228.out (by decide)) e_) hs_)); have n5_ := Aside0.mk (blk_kept (by (with_reducible repeat (first | refine blk_drewN ?_ _ | refine blk_drew ?_ | refine blk_alloc ?_ _)); exact BK233.out) hkp (fun hs_ => (fun e_ => (Kd.R_ne HO_234001.out BK233.out (by decide)) e_) hs_)); have n6_ := Aside0.mk (blk_kept (by (with_reducible repeat (first | refine blk_drewN ?_ _ | refine blk_drew ?_ | refine blk_alloc ?_ _)); exact BK239.out) hkp (fun hs_ => (fun e_ => (Kd.R_ne HO_234001.out BK239.out (by decide)) e_) hs_)); have n7_ := Aside0.mk (Kd.R_mono (ok' := fun k_ => some k_ ≠ (.slice Ao20 t224.length co20 : Value).ownBlock ∧ some k_ ≠ (.slice Ao27 t230.length co27 : Value).ownBlock ∧ some k_ ≠ (.slice Ao34 t235.length co34 : Value).ownBlock) (Kd.R_keptB (HO244.out) hkp (fun k_ hk_ hs_ => (hk_.1.2) hs_)) (fun k_ hk_ => ⟨hk_.1.1.1.2, hk_.1.1.2, hk_.1.2⟩)); have n8_ := Aside0.mk (hb); clear HO_229001 HO_234001; clear HO_240001 BK217; clear BK228 BK233; clear BK239 HO244 HB; have HO_229001 := n0_; have HO_234001 := n1_; have HO_240001 := n2_; have BK217 := n3_; have BK228 := n4_; have BK233 := n5_; have BK239 := n6_; have HO244 := n7_; have HB := n8_; clear n0_ n1_ n2_ n3_ n4_ n5_ n6_ n7_ n8_; (try clear hb); (try clear hkp); (try clear hy0)))
      (try simp only [Act.put, List.setIfInBounds_toArray, List.set_cons_zero, List.set_cons_succ])
      go_cut [65] (fun v65 wc => ∃ (kq : Nat) (x65_57 : Bool), v65 = .bool x65_57 ∧ Aside0 (laws_FnExactMarkFlaw.j1 kq a1 t227 x65_57 a0_0 l0_1 t223 t224 t234 t235 = some r) ∧ Aside0 (kq ≤ kj11) ∧ Aside0 (Kd.R (Kd.int .i64) 2 wc w.heap.size (fun k_ => some k_ ≠ ((.slice Ao27 t230.length co27) : Value).ownBlock ∧ some k_ ≠ ((.slice Ao34 t235.length co34) : Value).ownBlock) (.slice Ao20 t224.length co20) t224) ∧ Aside0 (Kd.R (Kd.int .i64) 2 wc w.heap.size (fun k_ => some k_ ≠ ((.slice Ao20 t224.length co20) : Value).ownBlock ∧ some k_ ≠ ((.slice Ao34 t235.length co34) : Value).ownBlock) (.slice Ao27 t230.length co27) t247) ∧ Aside0 (Kd.R (Kd.int .i64) 2 wc w.heap.size (fun k_ => some k_ ≠ ((.slice Ao20 t224.length co20) : Value).ownBlock ∧ some k_ ≠ ((.slice Ao27 t230.length co27) : Value).ownBlock) (.slice Ao34 t235.length co34) t235) ∧ Aside0 (wc.heap[gb217]? = some (.cells #[.int .i64 a0_0, (.slice A0_1 l0_1.length c0_1)] 77 (0, 0))) ∧ Aside0 (wc.heap[gb228]? = some (.cells #[.int .i64 t223, (.slice Ao20 t224.length co20)] 79 (0, 0))) ∧ Aside0 (wc.heap[gb233]? = some (.cells #[.int .i64 t229, (.slice Ao27 t230.length co27)] 79 (0, 0))) ∧ Aside0 (wc.heap[gb239]? = some (.cells #[.int .i64 t234, (.slice Ao34 t235.length co34)] 79 (0, 0))) ∧ Aside0 (Below w.heap.size w wc))
      case first =>
       have H := HC58.out
       clear HC58
       by_cases c68 : t246 < 0
       ·rw [if_pos c68] at H
        have c68b0 : decide (t246 < 0) = true := decide_eq_true c68
        clear c68
        (first | rw [c68b0] | (simp only [i64_w, i32_w]; rw [c68b0]) | skip)
        have H' := Aside0.mk H
        clear H
        go_wp2
        go_meet
        case rel => exact ⟨_, (true), (by first | rfl | (simp; done) | (simp [*]; done)), H', ⟨by have := HJ11.out; first | omega | exact Nat.le_refl _⟩, ⟨by (with_reducible repeat (first | apply Kd.R_alloc | apply Kd.R_drewN | apply Kd.R_drew)); exact Kd.R_mono HO_229001.out (fun _ hk => ⟨hk.1, hk.2.1⟩)⟩, ⟨by (with_reducible repeat (first | apply Kd.R_alloc | apply Kd.R_drewN | apply Kd.R_drew)); exact Kd.R_mono HO_234001.out (fun _ hk => ⟨hk.1.1, hk.1.2⟩)⟩, ⟨by (with_reducible repeat (first | apply Kd.R_alloc | apply Kd.R_drewN | apply Kd.R_drew)); exact Kd.R_mono HO_240001.out (fun _ hk => ⟨hk.1, hk.2.1⟩)⟩, ⟨by (with_reducible repeat (first | refine blk_drewN ?_ _ | refine blk_drew ?_ | refine blk_alloc ?_ _)); exact BK217.out⟩, ⟨by (with_reducible repeat (first | refine blk_drewN ?_ _ | refine blk_drew ?_ | refine blk_alloc ?_ _)); exact BK228.out⟩, ⟨by (with_reducible repeat (first | refine blk_drewN ?_ _ | refine blk_drew ?_ | refine blk_alloc ?_ _)); exact BK233.out⟩, ⟨by (with_reducible repeat (first | refine blk_drewN ?_ _ | refine blk_drew ?_ | refine blk_alloc ?_ _)); exact BK239.out⟩, ⟨by repeat (first | (with_reducible first | exact HB.out | apply below_alloc | apply pw_below_drewN | apply below_drew1 | refine below_set ?_ GE217.out | refine below_set ?_ GE228.out | refine below_set ?_ GE233.out | refine below_set ?_ GE239.out) | exact HB.out)⟩⟩
       ·rw [if_neg c68] at H
        have c68b0 : decide (t246 < 0) = false := decide_eq_false c68
        clear c68
        (first | rw [c68b0] | (simp only [i64_w, i32_w]; rw [c68b0]) | skip)
        replace H := Option.bind_eq_some_iff.mp H
        obtain ⟨t248, A690, H⟩ := H
        replace H : (if t248 = true then (laws_FnExactMarkFlaw.j1 kj11 a1 t227 (t238 != t227) a0_0 l0_1 t223 t224 t234 t235) else (laws_FnExactMarkFlaw.j1 kj11 a1 t227 true a0_0 l0_1 t223 t224 t234 t235)) = some r := H
        have A69 := Aside0.mk A690
        clear A690
        by_cases c70 : t248 = true
        ·subst c70
         have H1 : (laws_FnExactMarkFlaw.j1 kj11 a1 t227 (t238 != t227) a0_0 l0_1 t223 t224 t234 t235) = some r := by rw [if_pos rfl] at H; exact H
         clear H
         have H := H1
         clear H1
         have H' := Aside0.mk H
         clear H
         have hnb71 := NB239_217.out
         have hnc71 := NB217_239.out
         have hnb72 := NB239_228.out
         have hnc72 := NB228_239.out
         have hnb73 := NB239_233.out
         have hnc73 := NB233_239.out
         obtain ⟨hcz74_0, hcz74_1, hfz74_0, hfz74_1⟩ := cz2 BK239
         have hnb75 := NB228_217.out
         have hnc75 := NB217_228.out
         have hnb76 := NB228_233.out
         have hnc76 := NB233_228.out
         obtain ⟨hcz77_0, hcz77_1, hfz77_0, hfz77_1⟩ := cz2 BK228
         go_wp2_with (first | (go_at_call 54; (with_reducible refine (laws_eqBolt.calls kj11 t234 _ _ t235 t223 _ _ t224 true _ ?side1 ?side2 ?side3 ?side4 A69.out).mono ?_); (case side1 => repeat (first | exact (Kd.R_reads' HO_240001.out).2.2 | (with_reducible refine Kd.C_alloc ?_ _) | (with_reducible refine Kd.C_drewN ?_ _) | (with_reducible refine Kd.C_drew ?_))); (case side2 => exact (Kd.R_reads' HO_240001.out).2.1); (case side3 => repeat (first | exact (Kd.R_reads' HO_229001.out).2.2 | (with_reducible refine Kd.C_alloc ?_ _) | (with_reducible refine Kd.C_drewN ?_ _) | (with_reducible refine Kd.C_drew ?_))); (case side4 => exact (Kd.R_reads' HO_229001.out).2.1); rintro e w78 ⟨rfl, hb⟩; have n0_ := Aside0.mk (Kd.R_below (by (with_reducible repeat (first | apply Kd.R_alloc | apply Kd.R_drewN | apply Kd.R_drew)); exact HO_229001.out) hb); have n1_ := Aside0.mk (Kd.R_below (by (with_reducible repeat (first | apply Kd.R_alloc | apply Kd.R_drewN | apply Kd.R_drew)); exact HO_234001.out) hb); have n2_ := Aside0.mk (Kd.R_below (by (with_reducible repeat (first | apply Kd.R_alloc | apply Kd.R_drewN | apply Kd.R_drew)); exact HO_240001.out) hb); have n3_ := Aside0.mk (Kd.R_below (by (with_reducible repeat (first | apply Kd.R_alloc | apply Kd.R_drewN | apply Kd.R_drew)); exact HO244.out) hb); have n4_ := pB BK217 hb; have n5_ := pB BK228 hb; have n6_ := pB BK233 hb; have n7_ := pB BK239 hb; have n8_ := pS HB hb; clear HO_229001 HO_234001; clear HO_240001 HO244; clear BK217 BK228; clear BK233 BK239 HB; have HO_229001 := n0_; have HO_234001 := n1_; have HO_240001 := n2_; have HO244 := n3_; have BK217 := n4_; have BK228 := n5_; have BK233 := n6_; have BK239 := n7_; have HB := n8_; clear n0_ n1_ n2_ n3_ n4_ n5_ n6_ n7_ n8_; (try clear hb); (try clear hb2); (try clear hk); (try clear hi)))
         go_meet
         case rel => exact ⟨_, ((t238 != t227)), (by first | rfl | (simp; done) | (simp [*]; done)), H', ⟨by have := HJ11.out; first | omega | exact Nat.le_refl _⟩, ⟨by (with_reducible repeat (first | apply Kd.R_alloc | apply Kd.R_drewN | apply Kd.R_drew)); exact Kd.R_mono HO_229001.out (fun _ hk => ⟨hk.1, hk.2.1⟩)⟩, ⟨by (with_reducible repeat (first | apply Kd.R_alloc | apply Kd.R_drewN | apply Kd.R_drew)); exact Kd.R_mono HO_234001.out (fun _ hk => ⟨hk.1.1, hk.1.2⟩)⟩, ⟨by (with_reducible repeat (first | apply Kd.R_alloc | apply Kd.R_drewN | apply Kd.R_drew)); exact Kd.R_mono HO_240001.out (fun _ hk => ⟨hk.1, hk.2.1⟩)⟩, ⟨by (with_reducible repeat (first | refine blk_drewN ?_ _ | refine blk_drew ?_ | refine blk_alloc ?_ _)); exact BK217.out⟩, ⟨by (with_reducible repeat (first | refine blk_drewN ?_ _ | refine blk_drew ?_ | refine blk_alloc ?_ _)); exact BK228.out⟩, ⟨by (with_reducible repeat (first | refine blk_drewN ?_ _ | refine blk_drew ?_ | refine blk_alloc ?_ _)); exact BK233.out⟩, ⟨by (with_reducible repeat (first | refine blk_drewN ?_ _ | refine blk_drew ?_ | refine blk_alloc ?_ _)); exact BK239.out⟩, ⟨by repeat (first | (with_reducible first | exact HB.out | apply below_alloc | apply pw_below_drewN | apply below_drew1 | refine below_set ?_ GE217.out | refine below_set ?_ GE228.out | refine below_set ?_ GE233.out | refine below_set ?_ GE239.out) | exact HB.out)⟩⟩
        ·replace c70 := Bool.eq_false_iff.mpr c70
         subst c70
         have H1 : (laws_FnExactMarkFlaw.j1 kj11 a1 t227 true a0_0 l0_1 t223 t224 t234 t235) = some r := by rw [if_neg (show ¬ (false = true) by decide)] at H; exact H
         clear H
         have H := H1
         clear H1
         have H' := Aside0.mk H
         clear H
         have hnb79 := NB239_217.out
         have hnc79 := NB217_239.out
         have hnb80 := NB239_228.out
         have hnc80 := NB228_239.out
         have hnb81 := NB239_233.out
         have hnc81 := NB233_239.out
         obtain ⟨hcz82_0, hcz82_1, hfz82_0, hfz82_1⟩ := cz2 BK239
         have hnb83 := NB228_217.out
         have hnc83 := NB217_228.out
         have hnb84 := NB228_233.out
         have hnc84 := NB233_228.out
         obtain ⟨hcz85_0, hcz85_1, hfz85_0, hfz85_1⟩ := cz2 BK228
         go_wp2_with (first | (go_at_call 54; (with_reducible refine (laws_eqBolt.calls kj11 t234 _ _ t235 t223 _ _ t224 false _ ?side1 ?side2 ?side3 ?side4 A69.out).mono ?_); (case side1 => repeat (first | exact (Kd.R_reads' HO_240001.out).2.2 | (with_reducible refine Kd.C_alloc ?_ _) | (with_reducible refine Kd.C_drewN ?_ _) | (with_reducible refine Kd.C_drew ?_))); (case side2 => exact (Kd.R_reads' HO_240001.out).2.1); (case side3 => repeat (first | exact (Kd.R_reads' HO_229001.out).2.2 | (with_reducible refine Kd.C_alloc ?_ _) | (with_reducible refine Kd.C_drewN ?_ _) | (with_reducible refine Kd.C_drew ?_))); (case side4 => exact (Kd.R_reads' HO_229001.out).2.1); rintro e w86 ⟨rfl, hb⟩; have n0_ := Aside0.mk (Kd.R_below (by (with_reducible repeat (first | apply Kd.R_alloc | apply Kd.R_drewN | apply Kd.R_drew)); exact HO_229001.out) hb); have n1_ := Aside0.mk (Kd.R_below (by (with_reducible repeat (first | apply Kd.R_alloc | apply Kd.R_drewN | apply Kd.R_drew)); exact HO_234001.out) hb); have n2_ := Aside0.mk (Kd.R_below (by (with_reducible repeat (first | apply Kd.R_alloc | apply Kd.R_drewN | apply Kd.R_drew)); exact HO_240001.out) hb); have n3_ := Aside0.mk (Kd.R_below (by (with_reducible repeat (first | apply Kd.R_alloc | apply Kd.R_drewN | apply Kd.R_drew)); exact HO244.out) hb); have n4_ := pB BK217 hb; have n5_ := pB BK228 hb; have n6_ := pB BK233 hb; have n7_ := pB BK239 hb; have n8_ := pS HB hb; clear HO_229001 HO_234001; clear HO_240001 HO244; clear BK217 BK228; clear BK233 BK239 HB; have HO_229001 := n0_; have HO_234001 := n1_; have HO_240001 := n2_; have HO244 := n3_; have BK217 := n4_; have BK228 := n5_; have BK233 := n6_; have BK239 := n7_; have HB := n8_; clear n0_ n1_ n2_ n3_ n4_ n5_ n6_ n7_ n8_; (try clear hb); (try clear hb2); (try clear hk); (try clear hi)))
         go_meet
         case rel => exact ⟨_, (true), (by first | rfl | (simp; done) | (simp [*]; done)), H', ⟨by have := HJ11.out; first | omega | exact Nat.le_refl _⟩, ⟨by (with_reducible repeat (first | apply Kd.R_alloc | apply Kd.R_drewN | apply Kd.R_drew)); exact Kd.R_mono HO_229001.out (fun _ hk => ⟨hk.1, hk.2.1⟩)⟩, ⟨by (with_reducible repeat (first | apply Kd.R_alloc | apply Kd.R_drewN | apply Kd.R_drew)); exact Kd.R_mono HO_234001.out (fun _ hk => ⟨hk.1.1, hk.1.2⟩)⟩, ⟨by (with_reducible repeat (first | apply Kd.R_alloc | apply Kd.R_drewN | apply Kd.R_drew)); exact Kd.R_mono HO_240001.out (fun _ hk => ⟨hk.1, hk.2.1⟩)⟩, ⟨by (with_reducible repeat (first | refine blk_drewN ?_ _ | refine blk_drew ?_ | refine blk_alloc ?_ _)); exact BK217.out⟩, ⟨by (with_reducible repeat (first | refine blk_drewN ?_ _ | refine blk_drew ?_ | refine blk_alloc ?_ _)); exact BK228.out⟩, ⟨by (with_reducible repeat (first | refine blk_drewN ?_ _ | refine blk_drew ?_ | refine blk_alloc ?_ _)); exact BK233.out⟩, ⟨by (with_reducible repeat (first | refine blk_drewN ?_ _ | refine blk_drew ?_ | refine blk_alloc ?_ _)); exact BK239.out⟩, ⟨by repeat (first | (with_reducible first | exact HB.out | apply below_alloc | apply pw_below_drewN | apply below_drew1 | refine below_set ?_ GE217.out | refine below_set ?_ GE228.out | refine below_set ?_ GE233.out | refine below_set ?_ GE239.out) | exact HB.out)⟩⟩
      case rest =>
       clear HC58
       try clear c1
       try clear c2
       try clear p2
       try clear c3
       try clear c4
       try clear c5
       try clear c6
       try clear c7
       try clear c7b0
       try clear c8
       try clear c9
       try clear c18
       try clear c24
       try clear c25
       try clear c30
       try clear c31
       try clear c32
       try clear c36
       try clear c37
       try clear c38
       try clear c39
       try clear c41
       try clear c42
       try clear c45
       try clear c46
       try clear c47
       try clear c49
       try clear c50
       try clear c51
       try clear c52
       try clear c53
       try clear c54
       try clear c55
       try clear c56
       try clear c63
       try clear c64
       try clear c65
       try clear c68
       try clear c68b0
       try clear c70
       try clear c71
       try clear c72
       try clear c73
       try clear c75
       try clear c76
       try clear c79
       try clear c80
       try clear c81
       try clear c83
       try clear c84
       try clear hcz13_0
       try clear hcz13_1
       try clear hcz19_0
       try clear hcz19_1
       try clear hcz21_0
       try clear hcz21_1
       try clear hcz26_0
       try clear hcz26_1
       try clear hcz33_0
       try clear hcz33_1
       try clear hcz40_0
       try clear hcz40_1
       try clear hcz43_0
       try clear hcz43_1
       try clear hcz48_0
       try clear hcz48_1
       try clear hcz51_0
       try clear hcz51_1
       try clear hcz5_0
       try clear hcz5_1
       try clear hcz66_0
       try clear hcz66_1
       try clear hcz74_0
       try clear hcz74_1
       try clear hcz77_0
       try clear hcz77_1
       try clear hcz82_0
       try clear hcz82_1
       try clear hcz85_0
       try clear hcz85_1
       try clear hfz13_0
       try clear hfz13_1
       try clear hfz19_0
       try clear hfz19_1
       try clear hfz21_0
       try clear hfz21_1
       try clear hfz26_0
       try clear hfz26_1
       try clear hfz33_0
       try clear hfz33_1
       try clear hfz40_0
       try clear hfz40_1
       try clear hfz43_0
       try clear hfz43_1
       try clear hfz48_0
       try clear hfz48_1
       try clear hfz51_0
       try clear hfz51_1
       try clear hfz5_0
       try clear hfz5_1
       try clear hfz66_0
       try clear hfz66_1
       try clear hfz74_0
       try clear hfz74_1
       try clear hfz77_0
       try clear hfz77_1
       try clear hfz82_0
       try clear hfz82_1
       try clear hfz85_0
       try clear hfz85_1
       try clear p2
       obtain ⟨kq, x65_57, rfl, HA, HJ57, HO_229001, HO_234001, HO_240001, BK217, BK228, BK233, BK239, HB⟩ := hcut
       have hl234001_57 := (Kd.R_reads' HO_234001.out).1
       rw [hl234001_57] at HO_234001
       (try simp only [hl234001_57])
       (try simp only [hl234001_57] at BK217)
       (try simp only [hl234001_57] at BK228)
       (try simp only [hl234001_57] at BK233)
       (try simp only [hl234001_57] at BK239)
       (try simp only [hl234001_57] at HO_229001)
       (try simp only [hl234001_57] at HO_240001)
       cases kq with
       | zero => exact absurd HA.out (by simp [laws_FnExactMarkFlaw.j1])
       | succ kj57 =>
        have H := HA.out
        clear HA
        simp only [laws_FnExactMarkFlaw.j1] at H
        by_cases c87 : x65_57 = true
        ·subst c87
         have H1 : (some false) = some r := by rw [if_pos rfl] at H; exact H
         clear H
         have H := H1
         clear H1
         obtain rfl := Option.some.inj H
         exact absurd HRT.out (by decide)
        ·replace c87 := Bool.eq_false_iff.mpr c87
         subst c87
         have H1 : ((laws_markBolt.f kj57 t234 t235 1).bind fun bt249 => ((laws_heldBolt.f kj57 t234 bt249.2 1).bind fun t251 => (if t251 < 0 then (some false) else (if t251 = bt249.1 then ((laws_toBolt.f kj57 a0_0 l0_1).bind fun bt252 => ((impl_MarkFlaw.f kj57 bt252.1 bt252.2 a1).bind fun bt256 => ((laws_eqBolt.f kj57 bt256.1 bt256.2.1 t223 t224).bind fun t262 => (if t262 = true then (laws_FnExactMarkFlaw.j2 kj57 bt249.1 (bt256.2.2 != t227) t234 bt249.2) else (laws_FnExactMarkFlaw.j2 kj57 bt249.1 true t234 bt249.2))))) else (some false))))) = some r := by rw [if_neg (show ¬ (false = true) by decide)] at H; exact H
         clear H
         have H := H1
         clear H1
         replace H := Option.bind_eq_some_iff.mp H
         obtain ⟨⟨t249, t250⟩, A880, H⟩ := H
         replace H : ((laws_heldBolt.f kj57 t234 t250 1).bind fun t251 => (if t251 < 0 then (some false) else (if t251 = t249 then ((laws_toBolt.f kj57 a0_0 l0_1).bind fun bt252 => ((impl_MarkFlaw.f kj57 bt252.1 bt252.2 a1).bind fun bt256 => ((laws_eqBolt.f kj57 bt256.1 bt256.2.1 t223 t224).bind fun t262 => (if t262 = true then (laws_FnExactMarkFlaw.j2 kj57 t249 (bt256.2.2 != t227) t234 t250) else (laws_FnExactMarkFlaw.j2 kj57 t249 true t234 t250))))) else (some false)))) = some r := H
         have A88 := Aside0.mk A880
         clear A880
         replace H := Option.bind_eq_some_iff.mp H
         obtain ⟨t251, A890, H⟩ := H
         replace H : (if t251 < 0 then (some false) else (if t251 = t249 then ((laws_toBolt.f kj57 a0_0 l0_1).bind fun bt252 => ((impl_MarkFlaw.f kj57 bt252.1 bt252.2 a1).bind fun bt256 => ((laws_eqBolt.f kj57 bt256.1 bt256.2.1 t223 t224).bind fun t262 => (if t262 = true then (laws_FnExactMarkFlaw.j2 kj57 t249 (bt256.2.2 != t227) t234 t250) else (laws_FnExactMarkFlaw.j2 kj57 t249 true t234 t250))))) else (some false))) = some r := H
         have A89 := Aside0.mk A890
         clear A890
         by_cases c90 : t251 < 0
         ·rw [if_pos c90] at H
          have c90b0 : decide (t251 < 0) = true := decide_eq_true c90
          clear c90
          obtain rfl := Option.some.inj H
          exact absurd HRT.out (by decide)
         ·rw [if_neg c90] at H
          have c90b0 : decide (t251 < 0) = false := decide_eq_false c90
          clear c90
          by_cases c91 : t251 = t249
          ·rw [if_pos c91] at H
           have c91b0 : (t251 == t249) = true := beq_iff_eq.mpr c91
           have c91b1 : (t251 != t249) = false := bne_eq_false_iff_eq.mpr c91
           clear c91
           replace H := Option.bind_eq_some_iff.mp H
           obtain ⟨⟨t252, t253⟩, A920, H⟩ := H
           replace H : ((impl_MarkFlaw.f kj57 t252 t253 a1).bind fun bt256 => ((laws_eqBolt.f kj57 bt256.1 bt256.2.1 t223 t224).bind fun t262 => (if t262 = true then (laws_FnExactMarkFlaw.j2 kj57 t249 (bt256.2.2 != t227) t234 t250) else (laws_FnExactMarkFlaw.j2 kj57 t249 true t234 t250)))) = some r := H
           have A92 := Aside0.mk A920
           clear A920
           replace H := Option.bind_eq_some_iff.mp H
           obtain ⟨⟨t256, t257, t260⟩, A930, H⟩ := H
           replace H : ((laws_eqBolt.f kj57 t256 t257 t223 t224).bind fun t262 => (if t262 = true then (laws_FnExactMarkFlaw.j2 kj57 t249 (t260 != t227) t234 t250) else (laws_FnExactMarkFlaw.j2 kj57 t249 true t234 t250))) = some r := H
           have A93 := Aside0.mk A930
           clear A930
           have HC94 := Aside0.mk H
           clear H
           have hnb95 := NB239_217.out
           have hnc95 := NB217_239.out
           have hnb96 := NB239_228.out
           have hnc96 := NB228_239.out
           have hnb97 := NB239_233.out
           have hnc97 := NB233_239.out
           obtain ⟨hcz98_0, hcz98_1, hfz98_0, hfz98_1⟩ := cz2 BK239
           go_upto_region 25 with (first | ((with_reducible refine gate_callee (f := 55) rfl ?_); refine goesL_ (some 68) rfl rfl Try.func55 (by kernel_rfl) rfl #[.agg #[.int .i64 t234, .slice Ao34 t235.length co34], .int .i64 1] rfl (by (try simp only [List.map_toArray, List.map_cons, List.map_nil]); first | done | rfl | (simp only [List.length_drop, List.length_take]; rfl)) ?_; (with_reducible refine (laws_markBolt.calls kj57 t234 (fun k_ => some k_ = (.slice Ao34 t235.length co34 : Value).ownBlock) (.slice Ao34 t235.length co34) t235 1 t249 t250 w _ ?side1 ?side2 A88.out).mono ?_); (case side1 => repeat (first | (with_reducible first | exact HB.out | apply below_alloc | apply pw_below_drewN | apply below_drew1 | refine below_set ?_ GE217.out | refine below_set ?_ GE228.out | refine below_set ?_ GE233.out | refine below_set ?_ GE239.out) | exact HB.out)); (case side2 => exact Kd.R_tight rfl HO_240001.out); rintro e w99 ⟨rfl, hy0, hb, hkp⟩; refine ⟨_, rfl, ?_⟩; have n0_ := Aside0.mk (Kd.R_mono (ok' := fun k_ => some k_ ≠ (.slice Ao27 t247.length co27 : Value).ownBlock ∧ some k_ ≠ (.slice Ao34 t235.length co34 : Value).ownBlock) (Kd.R_keptB (HO_229001.out) hkp (fun k_ hk_ hs_ => (hk_.2) hs_)) (fun k_ hk_ => ⟨hk_.1.1, hk_.1.2⟩)); have n1_ := Aside0.mk (Kd.R_mono (ok' := fun k_ => some k_ ≠ (.slice Ao20 t224.length co20 : Value).ownBlock ∧ some k_ ≠ (.slice Ao34 t235.length co34 : Value).ownBlock) (Kd.R_keptB (HO_234001.out) hkp (fun k_ hk_ hs_ => (hk_.2) hs_)) (fun k_ hk_ => ⟨hk_.1.1, hk_.1.2⟩)); have n2_ := Aside0.mk (Kd.R_reok rfl hy0 (fun k_ e_ => HO_240001.out.1 k_ e_)); have n3_ := Aside0.mk (blk_kept (by (with_reducible repeat (first | refine blk_drewN ?_ _ | refine blk_drew ?_ | refine blk_alloc ?_ _)); exact BK217.out) hkp (fun hs_ => (fun e_ => (Kd.R_ne HO_240001.out BK217.out (by decide)) e_) hs_)); have n4_ := Aside0.mk (blk_kept (by (with_reducible repeat (first | refine blk_drewN ?_ _ | refine blk_drew ?_ | refine blk_alloc ?_ _)); exact BK228.out) hkp (fun hs_ => (fun e_ => (Kd.R_ne HO_240001.out BK228.out (by decide)) e_) hs_)); have n5_ := Aside0.mk (blk_kept (by (with_reducible repeat (first | refine blk_drewN ?_ _ | refine blk_drew ?_ | refine blk_alloc ?_ _)); exact BK233.out) hkp (fun hs_ => (fun e_ => (Kd.R_ne HO_240001.out BK233.out (by decide)) e_) hs_)); have n6_ := Aside0.mk (blk_kept (by (with_reducible repeat (first | refine blk_drewN ?_ _ | refine blk_drew ?_ | refine blk_alloc ?_ _)); exact BK239.out) hkp (fun hs_ => (fun e_ => (Kd.R_ne HO_240001.out BK239.out (by decide)) e_) hs_)); have n7_ := Aside0.mk (hb); clear HO_229001 HO_234001; clear HO_240001 BK217; clear BK228 BK233; clear BK239 HB; have HO_229001 := n0_; have HO_234001 := n1_; have HO_240001 := n2_; have BK217 := n3_; have BK228 := n4_; have BK233 := n5_; have BK239 := n6_; have HB := n7_; clear n0_ n1_ n2_ n3_ n4_ n5_ n6_ n7_; (try clear hb); (try clear hkp); (try clear hy0); obtain ⟨hcz100_0, hcz100_1, hfz100_0, hfz100_1⟩ := cz2 BK239) | ((with_reducible refine gate_callee (f := 56) rfl ?_); refine goesL_ (some 71) rfl rfl Try.func56 (by kernel_rfl) rfl #[.agg #[.int .i64 t234, .slice Ao34 t250.length co34], .int .i64 1] rfl (by (try simp only [List.map_toArray, List.map_cons, List.map_nil]); first | done | (rw [show t250.length = t235.length from (Kd.R_reads' HO_240001.out).1.symm] <;> rfl) | rfl | (simp only [List.length_drop, List.length_take]; rfl)) ?_; (with_reducible refine (laws_heldBolt.calls kj57 t234 _ _ t250 1 t251 _ ?side1 ?side2 A89.out).mono ?_); (case side1 => repeat (first | exact (Kd.R_reads' HO_240001.out).2.2 | (with_reducible refine Kd.C_alloc ?_ _) | (with_reducible refine Kd.C_drewN ?_ _) | (with_reducible refine Kd.C_drew ?_))); (case side2 => rw [show t250.length = t235.length from (Kd.R_reads' HO_240001.out).1.symm]; exact (Kd.R_reads' HO_240001.out).2.1); rintro e w101 ⟨rfl, hb⟩; refine ⟨_, rfl, ?_⟩; have n0_ := Aside0.mk (Kd.R_below (by (with_reducible repeat (first | apply Kd.R_alloc | apply Kd.R_drewN | apply Kd.R_drew)); exact HO_229001.out) hb); have n1_ := Aside0.mk (Kd.R_below (by (with_reducible repeat (first | apply Kd.R_alloc | apply Kd.R_drewN | apply Kd.R_drew)); exact HO_234001.out) hb); have n2_ := Aside0.mk (Kd.R_below (by (with_reducible repeat (first | apply Kd.R_alloc | apply Kd.R_drewN | apply Kd.R_drew)); exact HO_240001.out) hb); have n3_ := pB BK217 hb; have n4_ := pB BK228 hb; have n5_ := pB BK233 hb; have n6_ := pB BK239 hb; have n7_ := pS HB hb; clear HO_229001 HO_234001; clear HO_240001 BK217; clear BK228 BK233; clear BK239 HB; have HO_229001 := n0_; have HO_234001 := n1_; have HO_240001 := n2_; have BK217 := n3_; have BK228 := n4_; have BK233 := n5_; have BK239 := n6_; have HB := n7_; clear n0_ n1_ n2_ n3_ n4_ n5_ n6_ n7_; (try clear hb); (try clear hb2); (try clear hk); (try clear hi); have hnb102 := NB217_228.out; have hnc102 := NB228_217.out; have hnb103 := NB217_233.out; have hnc103 := NB233_217.out; obtain ⟨hcz104_0, hcz104_1, hfz104_0, hfz104_1⟩ := cz2 BK217) | ((with_reducible refine gate_callee (f := 52) rfl ?_); refine goesL_ (some 79) rfl rfl Try.func52 (by kernel_rfl) rfl #[.agg #[.int .i64 a0_0, .slice A0_1 l0_1.length c0_1]] rfl (by (try simp only [List.map_toArray, List.map_cons, List.map_nil]); first | done | rfl | (simp only [List.length_drop, List.length_take]; rfl)) ?_; (with_reducible refine (laws_toBolt.calls kj57 a0_0 _ _ l0_1 t252 t253 _ ?side1 ?side2 A92.out).mono ?_); (case side1 => repeat (first | exact (Kd.C_below HR0_1.out HB.out) | (with_reducible refine Kd.C_alloc ?_ _) | (with_reducible refine Kd.C_drewN ?_ _) | (with_reducible refine Kd.C_drew ?_))); (case side2 => exact HC0_1.out); rintro e w105 ⟨v254, rfl, ho0, hb⟩; refine ⟨_, rfl, ?_⟩; have n0_ := Aside0.mk (Kd.R_elder' (by (with_reducible repeat (first | apply Kd.R_alloc | apply Kd.R_drewN | apply Kd.R_drew)); exact HO_229001.out) (Kd.R_base ho0) hb); have n1_ := Aside0.mk (Kd.R_elder' (by (with_reducible repeat (first | apply Kd.R_alloc | apply Kd.R_drewN | apply Kd.R_drew)); exact HO_234001.out) (Kd.R_base ho0) hb); have n2_ := Aside0.mk (Kd.R_elder' (by (with_reducible repeat (first | apply Kd.R_alloc | apply Kd.R_drewN | apply Kd.R_drew)); exact HO_240001.out) (Kd.R_base ho0) hb); have n3_ := Aside0.mk (Kd.R_lower (Kd.R_new' (Kd.R_new' (Kd.R_new' ho0 (Kd.R_lt (by (with_reducible repeat (first | apply Kd.R_alloc | apply Kd.R_drewN | apply Kd.R_drew)); exact HO_229001.out))) (Kd.R_lt (by (with_reducible repeat (first | apply Kd.R_alloc | apply Kd.R_drewN | apply Kd.R_drew)); exact HO_234001.out))) (Kd.R_lt (by (with_reducible repeat (first | apply Kd.R_alloc | apply Kd.R_drewN | apply Kd.R_drew)); exact HO_240001.out))) (below_size (by repeat (first | (with_reducible first | exact HB.out | apply below_alloc | apply pw_below_drewN | apply below_drew1 | refine below_set ?_ GE217.out | refine below_set ?_ GE228.out | refine below_set ?_ GE233.out | refine below_set ?_ GE239.out) | exact HB.out)))); have n4_ := pB BK217 hb; have n5_ := pB BK228 hb; have n6_ := pB BK233 hb; have n7_ := pB BK239 hb; have n8_ := pS HB hb; clear HO_229001 HO_234001; clear HO_240001 BK217; clear BK228 BK233; clear BK239 HB; have HO_229001 := n0_; have HO_234001 := n1_; have HO_240001 := n2_; have HO255 := n3_; have BK217 := n4_; have BK228 := n5_; have BK233 := n6_; have BK239 := n7_; have HB := n8_; clear n0_ n1_ n2_ n3_ n4_ n5_ n6_ n7_ n8_; (try clear hb); (try clear hb2); (try clear hk); (try clear hi); (try clear ho0); obtain ⟨Ao106, co106, eo106⟩ := Kd.R_slice HO255.out; subst eo106) | ((with_reducible refine gate_callee (f := 53) rfl ?_); refine goesL_ (some 81) rfl rfl Try.func53 (by kernel_rfl) rfl #[.agg #[.int .i64 t252, .slice Ao106 t253.length co106], .int .i64 a1] rfl (by (try simp only [List.map_toArray, List.map_cons, List.map_nil]); first | done | rfl | (simp only [List.length_drop, List.length_take]; rfl)) ?_; (with_reducible refine (impl_MarkFlaw.calls kj57 t252 _ _ t253 a1 t256 t257 t260 _ ?side1 ?side2 A93.out).mono ?_); (case side1 => repeat (first | exact (Kd.R_reads' HO255.out).2.2 | (with_reducible refine Kd.C_alloc ?_ _) | (with_reducible refine Kd.C_drewN ?_ _) | (with_reducible refine Kd.C_drew ?_))); (case side2 => exact (Kd.R_reads' HO255.out).2.1); rintro e w107 ⟨v258, rfl, ho0, hb⟩; refine ⟨_, rfl, ?_⟩; have n0_ := Aside0.mk (Kd.R_elder' (by (with_reducible repeat (first | apply Kd.R_alloc | apply Kd.R_drewN | apply Kd.R_drew)); exact HO_229001.out) (Kd.R_base ho0) hb); have n1_ := Aside0.mk (Kd.R_elder' (by (with_reducible repeat (first | apply Kd.R_alloc | apply Kd.R_drewN | apply Kd.R_drew)); exact HO_234001.out) (Kd.R_base ho0) hb); have n2_ := Aside0.mk (Kd.R_elder' (by (with_reducible repeat (first | apply Kd.R_alloc | apply Kd.R_drewN | apply Kd.R_drew)); exact HO_240001.out) (Kd.R_base ho0) hb); have n3_ := Aside0.mk (Kd.R_elder' (by (with_reducible repeat (first | apply Kd.R_alloc | apply Kd.R_drewN | apply Kd.R_drew)); exact HO255.out) (Kd.R_base ho0) hb); have n4_ := Aside0.mk (Kd.R_lower (Kd.R_new' (Kd.R_new' (Kd.R_new' (Kd.R_new' ho0 (Kd.R_lt (by (with_reducible repeat (first | apply Kd.R_alloc | apply Kd.R_drewN | apply Kd.R_drew)); exact HO_229001.out))) (Kd.R_lt (by (with_reducible repeat (first | apply Kd.R_alloc | apply Kd.R_drewN | apply Kd.R_drew)); exact HO_234001.out))) (Kd.R_lt (by (with_reducible repeat (first | apply Kd.R_alloc | apply Kd.R_drewN | apply Kd.R_drew)); exact HO_240001.out))) (Kd.R_lt (by (with_reducible repeat (first | apply Kd.R_alloc | apply Kd.R_drewN | apply Kd.R_drew)); exact HO255.out))) (below_size (by repeat (first | (with_reducible first | exact HB.out | apply below_alloc | apply pw_below_drewN | apply below_drew1 | refine below_set ?_ GE217.out | refine below_set ?_ GE228.out | refine below_set ?_ GE233.out | refine below_set ?_ GE239.out) | exact HB.out)))); have n5_ := pB BK217 hb; have n6_ := pB BK228 hb; have n7_ := pB BK233 hb; have n8_ := pB BK239 hb; have n9_ := pS HB hb; clear HO_229001 HO_234001; clear HO_240001 HO255; clear BK217 BK228; clear BK233 BK239 HB; have HO_229001 := n0_; have HO_234001 := n1_; have HO_240001 := n2_; have HO255 := n3_; have HO259 := n4_; have BK217 := n5_; have BK228 := n6_; have BK233 := n7_; have BK239 := n8_; have HB := n9_; clear n0_ n1_ n2_ n3_ n4_ n5_ n6_ n7_ n8_ n9_; (try clear hb); (try clear hb2); (try clear hk); (try clear hi); (try clear ho0)) | ((with_reducible refine gate_dst (N := 14) rfl ?_); refine box_event ?hg (N := 14) ?hd (cs := #[.int .i64 0, .slice none 0 0]) (t := 79) ?hr ?_; (case hd => rfl); (case hg => rfl); (case hr => first | (go_simp; done) | (go_simp; rfl)); intro gb261 hg w108 hbox hb; have n0_ := Aside0.mk (Kd.R_below (by (with_reducible repeat (first | apply Kd.R_alloc | apply Kd.R_drewN | apply Kd.R_drew)); exact HO_229001.out) hb); have n1_ := Aside0.mk (Kd.R_below (by (with_reducible repeat (first | apply Kd.R_alloc | apply Kd.R_drewN | apply Kd.R_drew)); exact HO_234001.out) hb); have n2_ := Aside0.mk (Kd.R_below (by (with_reducible repeat (first | apply Kd.R_alloc | apply Kd.R_drewN | apply Kd.R_drew)); exact HO_240001.out) hb); have n3_ := Aside0.mk (Kd.R_below (by (with_reducible repeat (first | apply Kd.R_alloc | apply Kd.R_drewN | apply Kd.R_drew)); exact HO255.out) hb); have n4_ := Aside0.mk (Kd.R_below (by (with_reducible repeat (first | apply Kd.R_alloc | apply Kd.R_drewN | apply Kd.R_drew)); exact HO259.out) hb); have n5_ := pB BK217 hb; have n6_ := pB BK228 hb; have n7_ := pB BK233 hb; have n8_ := pB BK239 hb; have n9_ := pS HB hb; have n10_ := Aside0.mk (hbox); have n11_ := pG HB hg; have n12_ := pG HB hg; have n13_ := pN BK217 hg; have n14_ := pM BK217 hg; have n15_ := pN BK228 hg; have n16_ := pM BK228 hg; have n17_ := pN BK233 hg; have n18_ := pM BK233 hg; have n19_ := pN BK239 hg; have n20_ := pM BK239 hg; clear HO_229001 HO_234001; clear HO_240001 HO255; clear HO259 BK217; clear BK228 BK233; clear BK239 HB; have HO_229001 := n0_; have HO_234001 := n1_; have HO_240001 := n2_; have HO255 := n3_; have HO259 := n4_; have BK217 := n5_; have BK228 := n6_; have BK233 := n7_; have BK239 := n8_; have HB := n9_; have BK261 := n10_; have GW261 := n11_; have GE261 := n12_; have NB217_261 := n13_; have NB261_217 := n14_; have NB228_261 := n15_; have NB261_228 := n16_; have NB233_261 := n17_; have NB261_233 := n18_; have NB239_261 := n19_; have NB261_239 := n20_; clear n0_ n1_ n2_ n3_ n4_ n5_ n6_ n7_ n8_ n9_ n10_ n11_ n12_ n13_ n14_ n15_ n16_ n17_ n18_ n19_ n20_; clear hb hbox hg; have hnb109 := NB261_217.out; have hnc109 := NB217_261.out; have hnb110 := NB261_228.out; have hnc110 := NB228_261.out; have hnb111 := NB261_233.out; have hnc111 := NB233_261.out; have hnb112 := NB261_239.out; have hnc112 := NB239_261.out; obtain ⟨hcz113_0, hcz113_1, hfz113_0, hfz113_1⟩ := cz2 BK261; obtain ⟨Ao114, co114, eo114⟩ := Kd.R_slice HO259.out; subst eo114))
           (try simp only [Act.put, List.setIfInBounds_toArray, List.set_cons_zero, List.set_cons_succ])
           go_cut [92] (fun v92 wc => ∃ (kq : Nat) (x92_93 : Bool), v92 = .bool x92_93 ∧ Aside0 (laws_FnExactMarkFlaw.j2 kq t249 x92_93 t234 t250 = some r) ∧ Aside0 (kq ≤ kj57) ∧ Aside0 (Kd.R (Kd.int .i64) 2 wc w.heap.size (fun k_ => some k_ ≠ ((.slice Ao27 t247.length co27) : Value).ownBlock ∧ some k_ ≠ ((.slice Ao34 t235.length co34) : Value).ownBlock ∧ some k_ ≠ ((.slice Ao114 t257.length co114) : Value).ownBlock) (.slice Ao20 t224.length co20) t224) ∧ Aside0 (Kd.R (Kd.int .i64) 2 wc w.heap.size (fun k_ => some k_ ≠ ((.slice Ao20 t224.length co20) : Value).ownBlock ∧ some k_ ≠ ((.slice Ao34 t235.length co34) : Value).ownBlock ∧ some k_ ≠ ((.slice Ao114 t257.length co114) : Value).ownBlock) (.slice Ao27 t247.length co27) t247) ∧ Aside0 (Kd.R (Kd.int .i64) 2 wc w.heap.size (fun k_ => some k_ ≠ ((.slice Ao20 t224.length co20) : Value).ownBlock ∧ some k_ ≠ ((.slice Ao27 t247.length co27) : Value).ownBlock ∧ some k_ ≠ ((.slice Ao114 t257.length co114) : Value).ownBlock) (.slice Ao34 t235.length co34) t250) ∧ Aside0 (Kd.R (Kd.int .i64) 2 wc w.heap.size (fun k_ => some k_ ≠ ((.slice Ao20 t224.length co20) : Value).ownBlock ∧ some k_ ≠ ((.slice Ao27 t247.length co27) : Value).ownBlock ∧ some k_ ≠ ((.slice Ao34 t235.length co34) : Value).ownBlock) (.slice Ao114 t257.length co114) t257) ∧ Aside0 (wc.heap[gb217]? = some (.cells #[.int .i64 a0_0, (.slice A0_1 l0_1.length c0_1)] 77 (0, 0))) ∧ Aside0 (wc.heap[gb228]? = some (.cells #[.int .i64 t223, (.slice Ao20 t224.length co20)] 79 (0, 0))) ∧ Aside0 (wc.heap[gb233]? = some (.cells #[.int .i64 t229, (.slice Ao27 t247.length co27)] 79 (0, 0))) ∧ Aside0 (wc.heap[gb239]? = some (.cells #[.int .i64 t234, (.slice Ao34 t235.length co34)] 79 (0, 0))) ∧ Aside0 (wc.heap[gb261]? = some (.cells #[.int .i64 t256, (.slice Ao114 t257.length co114)] 79 (0, 0))) ∧ Aside0 (Below w.heap.size w wc))
           case first =>
            have H := HC94.out
            clear HC94
            replace H := Option.bind_eq_some_iff.mp H
            obtain ⟨t262, A1150, H⟩ := H
            replace H : (if t262 = true then (laws_FnExactMarkFlaw.j2 kj57 t249 (t260 != t227) t234 t250) else (laws_FnExactMarkFlaw.j2 kj57 t249 true t234 t250)) = some r := H
            have A115 := Aside0.mk A1150
            clear A1150
            by_cases c116 : t262 = true
            ·subst c116
             have H1 : (laws_FnExactMarkFlaw.j2 kj57 t249 (t260 != t227) t234 t250) = some r := by rw [if_pos rfl] at H; exact H
             clear H
             have H := H1
             clear H1
             have H' := Aside0.mk H
             clear H
             have hnb117 := NB261_217.out
             have hnc117 := NB217_261.out
             have hnb118 := NB261_228.out
             have hnc118 := NB228_261.out
             have hnb119 := NB261_233.out
             have hnc119 := NB233_261.out
             have hnb120 := NB261_239.out
             have hnc120 := NB239_261.out
             obtain ⟨hcz121_0, hcz121_1, hfz121_0, hfz121_1⟩ := cz2 BK261
             have hnb122 := NB228_217.out
             have hnc122 := NB217_228.out
             have hnb123 := NB228_233.out
             have hnc123 := NB233_228.out
             have hnb124 := NB228_239.out
             have hnc124 := NB239_228.out
             obtain ⟨hcz125_0, hcz125_1, hfz125_0, hfz125_1⟩ := cz2 BK228
             go_wp2_with (first | ((with_reducible refine gate_callee (f := 54) rfl ?_); refine goesL_ (some 86) rfl rfl Try.func54 (by kernel_rfl) rfl #[.agg #[.int .i64 t256, .slice Ao114 t257.length co114], .agg #[.int .i64 t223, .slice Ao20 t224.length co20]] rfl (by (try simp only [List.map_toArray, List.map_cons, List.map_nil]); first | done | rfl | (simp only [List.length_drop, List.length_take]; rfl)) ?_; (with_reducible refine (laws_eqBolt.calls kj57 t256 _ _ t257 t223 _ _ t224 true _ ?side1 ?side2 ?side3 ?side4 A115.out).mono ?_); (case side1 => refine (Kd.R_reads' (e := 2) (base := w.heap.size) (ok := fun k_ => ((((True ∧ some k_ ≠ (.slice Ao20 t224.length co20 : Value).ownBlock) ∧ some k_ ≠ (.slice Ao27 t247.length co27 : Value).ownBlock) ∧ some k_ ≠ (.slice Ao34 t235.length co34 : Value).ownBlock) ∧ some k_ ≠ (.slice Ao106 t253.length co106 : Value).ownBlock)) (n := t257.length) (c := co114) ?_).2.2; exact (by (with_reducible repeat (first | apply Kd.R_alloc | apply Kd.R_drewN | apply Kd.R_drew)); exact (Kd.R_mono (Kd.R_far (p := ⟨gb261, 1, none⟩) (Kd.R_far (p := ⟨gb261, 0, none⟩) (Kd.R_types HO259.out BK261.out (by decide)) (fun _ hk => hk.2) (.int .i64 t256)) (fun _ hk => hk.2) (.slice Ao114 t257.length co114)) (fun _ h_ => h_.1)))); (case side2 => exact (Kd.R_reads' HO259.out).2.1); (case side3 => refine (Kd.R_reads' (e := 2) (base := w.heap.size) (ok := fun k_ => (((some k_ ≠ (.slice Ao27 t247.length co27 : Value).ownBlock ∧ some k_ ≠ (.slice Ao34 t235.length co34 : Value).ownBlock) ∧ some k_ ≠ (.slice Ao106 t253.length co106 : Value).ownBlock) ∧ some k_ ≠ (.slice Ao114 t257.length co114 : Value).ownBlock)) (n := t224.length) (c := co20) ?_).2.2; exact (by (with_reducible repeat (first | apply Kd.R_alloc | apply Kd.R_drewN | apply Kd.R_drew)); exact (Kd.R_mono (Kd.R_far (p := ⟨gb261, 1, none⟩) (Kd.R_far (p := ⟨gb261, 0, none⟩) (Kd.R_types HO_229001.out BK261.out (by decide)) (fun _ hk => hk.2) (.int .i64 t256)) (fun _ hk => hk.2) (.slice Ao114 t257.length co114)) (fun _ h_ => h_.1)))); (case side4 => exact (Kd.R_reads' HO_229001.out).2.1); rintro e w126 ⟨rfl, hb⟩; refine ⟨_, rfl, ?_⟩; have n0_ := Aside0.mk (Kd.R_below (by (with_reducible repeat (first | apply Kd.R_alloc | apply Kd.R_drewN | apply Kd.R_drew)); exact (Kd.R_mono (Kd.R_far (p := ⟨gb261, 1, none⟩) (Kd.R_far (p := ⟨gb261, 0, none⟩) (Kd.R_types HO_229001.out BK261.out (by decide)) (fun _ hk => hk.2) (.int .i64 t256)) (fun _ hk => hk.2) (.slice Ao114 t257.length co114)) (fun _ h_ => h_.1))) hb); have n1_ := Aside0.mk (Kd.R_below (by (with_reducible repeat (first | apply Kd.R_alloc | apply Kd.R_drewN | apply Kd.R_drew)); exact (Kd.R_mono (Kd.R_far (p := ⟨gb261, 1, none⟩) (Kd.R_far (p := ⟨gb261, 0, none⟩) (Kd.R_types HO_234001.out BK261.out (by decide)) (fun _ hk => hk.2) (.int .i64 t256)) (fun _ hk => hk.2) (.slice Ao114 t257.length co114)) (fun _ h_ => h_.1))) hb); have n2_ := Aside0.mk (Kd.R_below (by (with_reducible repeat (first | apply Kd.R_alloc | apply Kd.R_drewN | apply Kd.R_drew)); exact (Kd.R_mono (Kd.R_far (p := ⟨gb261, 1, none⟩) (Kd.R_far (p := ⟨gb261, 0, none⟩) (Kd.R_types HO_240001.out BK261.out (by decide)) (fun _ hk => hk.2) (.int .i64 t256)) (fun _ hk => hk.2) (.slice Ao114 t257.length co114)) (fun _ h_ => h_.1))) hb); have n3_ := Aside0.mk (Kd.R_below (by (with_reducible repeat (first | apply Kd.R_alloc | apply Kd.R_drewN | apply Kd.R_drew)); exact (Kd.R_mono (Kd.R_far (p := ⟨gb261, 1, none⟩) (Kd.R_far (p := ⟨gb261, 0, none⟩) (Kd.R_types HO255.out BK261.out (by decide)) (fun _ hk => hk.2) (.int .i64 t256)) (fun _ hk => hk.2) (.slice Ao114 t257.length co114)) (fun _ h_ => h_.1))) hb); have n4_ := Aside0.mk (Kd.R_below (by (with_reducible repeat (first | apply Kd.R_alloc | apply Kd.R_drewN | apply Kd.R_drew)); exact (Kd.R_mono (Kd.R_far (p := ⟨gb261, 1, none⟩) (Kd.R_far (p := ⟨gb261, 0, none⟩) (Kd.R_types HO259.out BK261.out (by decide)) (fun _ hk => hk.2) (.int .i64 t256)) (fun _ hk => hk.2) (.slice Ao114 t257.length co114)) (fun _ h_ => h_.1))) hb); have n5_ := Aside0.mk (blk_below (g := gb217) (o := .cells #[.int .i64 a0_0, .slice A0_1 l0_1.length c0_1] 77 (0, 0)) (by (with_reducible repeat (first | refine blk_drewN ?_ _ | refine blk_drew ?_ | refine blk_alloc ?_ _)); refine blk_far ?_ NB217_261.out _; (with_reducible repeat (first | refine blk_drewN ?_ _ | refine blk_drew ?_ | refine blk_alloc ?_ _)); refine blk_far ?_ NB217_261.out _; (with_reducible repeat (first | refine blk_drewN ?_ _ | refine blk_drew ?_ | refine blk_alloc ?_ _)); exact BK217.out) hb); have n6_ := Aside0.mk (blk_below (g := gb228) (o := .cells #[.int .i64 t223, .slice Ao20 t224.length co20] 79 (0, 0)) (by (with_reducible repeat (first | refine blk_drewN ?_ _ | refine blk_drew ?_ | refine blk_alloc ?_ _)); refine blk_far ?_ NB228_261.out _; (with_reducible repeat (first | refine blk_drewN ?_ _ | refine blk_drew ?_ | refine blk_alloc ?_ _)); refine blk_far ?_ NB228_261.out _; (with_reducible repeat (first | refine blk_drewN ?_ _ | refine blk_drew ?_ | refine blk_alloc ?_ _)); exact BK228.out) hb); have n7_ := Aside0.mk (blk_below (g := gb233) (o := .cells #[.int .i64 t229, .slice Ao27 t247.length co27] 79 (0, 0)) (by (with_reducible repeat (first | refine blk_drewN ?_ _ | refine blk_drew ?_ | refine blk_alloc ?_ _)); refine blk_far ?_ NB233_261.out _; (with_reducible repeat (first | refine blk_drewN ?_ _ | refine blk_drew ?_ | refine blk_alloc ?_ _)); refine blk_far ?_ NB233_261.out _; (with_reducible repeat (first | refine blk_drewN ?_ _ | refine blk_drew ?_ | refine blk_alloc ?_ _)); exact BK233.out) hb); have n8_ := Aside0.mk (blk_below (g := gb239) (o := .cells #[.int .i64 t234, .slice Ao34 t235.length co34] 79 (0, 0)) (by (with_reducible repeat (first | refine blk_drewN ?_ _ | refine blk_drew ?_ | refine blk_alloc ?_ _)); refine blk_far ?_ NB239_261.out _; (with_reducible repeat (first | refine blk_drewN ?_ _ | refine blk_drew ?_ | refine blk_alloc ?_ _)); refine blk_far ?_ NB239_261.out _; (with_reducible repeat (first | refine blk_drewN ?_ _ | refine blk_drew ?_ | refine blk_alloc ?_ _)); exact BK239.out) hb); have n9_ := Aside0.mk (blk_below (g := gb261) (o := .cells #[.int .i64 t256, .slice Ao114 t257.length co114] 79 (0, 0)) (by (with_reducible repeat (first | refine blk_drewN ?_ _ | refine blk_drew ?_ | refine blk_alloc ?_ _)); refine blk_put (cs := #[.int .i64 t256, .slice none 0 0]) ?_ 1 _ rfl; (with_reducible repeat (first | refine blk_drewN ?_ _ | refine blk_drew ?_ | refine blk_alloc ?_ _)); refine blk_put (cs := #[.int .i64 0, .slice none 0 0]) ?_ 0 _ rfl; (with_reducible repeat (first | refine blk_drewN ?_ _ | refine blk_drew ?_ | refine blk_alloc ?_ _)); exact BK261.out) hb); have n10_ := pS HB hb; clear HO_229001 HO_234001; clear HO_240001 HO255; clear HO259 BK217; clear BK228 BK233; clear BK239 BK261 HB; have HO_229001 := n0_; have HO_234001 := n1_; have HO_240001 := n2_; have HO255 := n3_; have HO259 := n4_; have BK217 := n5_; have BK228 := n6_; have BK233 := n7_; have BK239 := n8_; have BK261 := n9_; have HB := n10_; clear n0_ n1_ n2_ n3_ n4_ n5_ n6_ n7_ n8_ n9_ n10_; (try clear hb); (try clear hb2); (try clear hk); (try clear hi)))
             go_meet
             case rel => exact ⟨_, ((t260 != t227)), (by first | rfl | (simp; done) | (simp [*]; done)), H', ⟨by have := HJ11.out; have := HJ57.out; first | omega | exact Nat.le_refl _⟩, ⟨by (try simp only [hl234001_57]); (with_reducible repeat (first | apply Kd.R_alloc | apply Kd.R_drewN | apply Kd.R_drew)); exact Kd.R_mono HO_229001.out (fun _ hk => ⟨hk.1.1.1, ⟨hk.1.1.2, hk.2⟩⟩)⟩, ⟨by (try simp only [hl234001_57]); (with_reducible repeat (first | apply Kd.R_alloc | apply Kd.R_drewN | apply Kd.R_drew)); exact Kd.R_mono HO_234001.out (fun _ hk => ⟨hk.1.1.1, ⟨hk.1.1.2, hk.2⟩⟩)⟩, ⟨by (try simp only [hl234001_57]); (with_reducible repeat (first | apply Kd.R_alloc | apply Kd.R_drewN | apply Kd.R_drew)); exact Kd.R_mono HO_240001.out (fun _ hk => ⟨hk.1.1.1, ⟨hk.1.1.2, hk.2⟩⟩)⟩, ⟨by (try simp only [hl234001_57]); (with_reducible repeat (first | apply Kd.R_alloc | apply Kd.R_drewN | apply Kd.R_drew)); exact Kd.R_mono HO259.out (fun _ hk => ⟨hk.1.1.1.2, ⟨hk.1.1.2, hk.1.2⟩⟩)⟩, ⟨by (try simp only [hl234001_57]); (with_reducible repeat (first | refine blk_drewN ?_ _ | refine blk_drew ?_ | refine blk_alloc ?_ _)); exact BK217.out⟩, ⟨by (try simp only [hl234001_57]); (with_reducible repeat (first | refine blk_drewN ?_ _ | refine blk_drew ?_ | refine blk_alloc ?_ _)); exact BK228.out⟩, ⟨by (try simp only [hl234001_57]); (with_reducible repeat (first | refine blk_drewN ?_ _ | refine blk_drew ?_ | refine blk_alloc ?_ _)); exact BK233.out⟩, ⟨by (try simp only [hl234001_57]); (with_reducible repeat (first | refine blk_drewN ?_ _ | refine blk_drew ?_ | refine blk_alloc ?_ _)); exact BK239.out⟩, ⟨by (try simp only [hl234001_57]); (with_reducible repeat (first | refine blk_drewN ?_ _ | refine blk_drew ?_ | refine blk_alloc ?_ _)); exact BK261.out⟩, ⟨by repeat (first | (with_reducible first | exact HB.out | apply below_alloc | apply pw_below_drewN | apply below_drew1 | refine below_set ?_ GE217.out | refine below_set ?_ GE228.out | refine below_set ?_ GE233.out | refine below_set ?_ GE239.out | refine below_set ?_ GE261.out) | exact HB.out)⟩⟩
            ·replace c116 := Bool.eq_false_iff.mpr c116
             subst c116
             have H1 : (laws_FnExactMarkFlaw.j2 kj57 t249 true t234 t250) = some r := by rw [if_neg (show ¬ (false = true) by decide)] at H; exact H
             clear H
             have H := H1
             clear H1
             have H' := Aside0.mk H
             clear H
             have hnb127 := NB261_217.out
             have hnc127 := NB217_261.out
             have hnb128 := NB261_228.out
             have hnc128 := NB228_261.out
             have hnb129 := NB261_233.out
             have hnc129 := NB233_261.out
             have hnb130 := NB261_239.out
             have hnc130 := NB239_261.out
             obtain ⟨hcz131_0, hcz131_1, hfz131_0, hfz131_1⟩ := cz2 BK261
             have hnb132 := NB228_217.out
             have hnc132 := NB217_228.out
             have hnb133 := NB228_233.out
             have hnc133 := NB233_228.out
             have hnb134 := NB228_239.out
             have hnc134 := NB239_228.out
             obtain ⟨hcz135_0, hcz135_1, hfz135_0, hfz135_1⟩ := cz2 BK228
             go_wp2_with (first | ((with_reducible refine gate_callee (f := 54) rfl ?_); refine goesL_ (some 86) rfl rfl Try.func54 (by kernel_rfl) rfl #[.agg #[.int .i64 t256, .slice Ao114 t257.length co114], .agg #[.int .i64 t223, .slice Ao20 t224.length co20]] rfl (by (try simp only [List.map_toArray, List.map_cons, List.map_nil]); first | done | rfl | (simp only [List.length_drop, List.length_take]; rfl)) ?_; (with_reducible refine (laws_eqBolt.calls kj57 t256 _ _ t257 t223 _ _ t224 false _ ?side1 ?side2 ?side3 ?side4 A115.out).mono ?_); (case side1 => refine (Kd.R_reads' (e := 2) (base := w.heap.size) (ok := fun k_ => ((((True ∧ some k_ ≠ (.slice Ao20 t224.length co20 : Value).ownBlock) ∧ some k_ ≠ (.slice Ao27 t247.length co27 : Value).ownBlock) ∧ some k_ ≠ (.slice Ao34 t235.length co34 : Value).ownBlock) ∧ some k_ ≠ (.slice Ao106 t253.length co106 : Value).ownBlock)) (n := t257.length) (c := co114) ?_).2.2; exact (by (with_reducible repeat (first | apply Kd.R_alloc | apply Kd.R_drewN | apply Kd.R_drew)); exact (Kd.R_mono (Kd.R_far (p := ⟨gb261, 1, none⟩) (Kd.R_far (p := ⟨gb261, 0, none⟩) (Kd.R_types HO259.out BK261.out (by decide)) (fun _ hk => hk.2) (.int .i64 t256)) (fun _ hk => hk.2) (.slice Ao114 t257.length co114)) (fun _ h_ => h_.1)))); (case side2 => exact (Kd.R_reads' HO259.out).2.1); (case side3 => refine (Kd.R_reads' (e := 2) (base := w.heap.size) (ok := fun k_ => (((some k_ ≠ (.slice Ao27 t247.length co27 : Value).ownBlock ∧ some k_ ≠ (.slice Ao34 t235.length co34 : Value).ownBlock) ∧ some k_ ≠ (.slice Ao106 t253.length co106 : Value).ownBlock) ∧ some k_ ≠ (.slice Ao114 t257.length co114 : Value).ownBlock)) (n := t224.length) (c := co20) ?_).2.2; exact (by (with_reducible repeat (first | apply Kd.R_alloc | apply Kd.R_drewN | apply Kd.R_drew)); exact (Kd.R_mono (Kd.R_far (p := ⟨gb261, 1, none⟩) (Kd.R_far (p := ⟨gb261, 0, none⟩) (Kd.R_types HO_229001.out BK261.out (by decide)) (fun _ hk => hk.2) (.int .i64 t256)) (fun _ hk => hk.2) (.slice Ao114 t257.length co114)) (fun _ h_ => h_.1)))); (case side4 => exact (Kd.R_reads' HO_229001.out).2.1); rintro e w136 ⟨rfl, hb⟩; refine ⟨_, rfl, ?_⟩; have n0_ := Aside0.mk (Kd.R_below (by (with_reducible repeat (first | apply Kd.R_alloc | apply Kd.R_drewN | apply Kd.R_drew)); exact (Kd.R_mono (Kd.R_far (p := ⟨gb261, 1, none⟩) (Kd.R_far (p := ⟨gb261, 0, none⟩) (Kd.R_types HO_229001.out BK261.out (by decide)) (fun _ hk => hk.2) (.int .i64 t256)) (fun _ hk => hk.2) (.slice Ao114 t257.length co114)) (fun _ h_ => h_.1))) hb); have n1_ := Aside0.mk (Kd.R_below (by (with_reducible repeat (first | apply Kd.R_alloc | apply Kd.R_drewN | apply Kd.R_drew)); exact (Kd.R_mono (Kd.R_far (p := ⟨gb261, 1, none⟩) (Kd.R_far (p := ⟨gb261, 0, none⟩) (Kd.R_types HO_234001.out BK261.out (by decide)) (fun _ hk => hk.2) (.int .i64 t256)) (fun _ hk => hk.2) (.slice Ao114 t257.length co114)) (fun _ h_ => h_.1))) hb); have n2_ := Aside0.mk (Kd.R_below (by (with_reducible repeat (first | apply Kd.R_alloc | apply Kd.R_drewN | apply Kd.R_drew)); exact (Kd.R_mono (Kd.R_far (p := ⟨gb261, 1, none⟩) (Kd.R_far (p := ⟨gb261, 0, none⟩) (Kd.R_types HO_240001.out BK261.out (by decide)) (fun _ hk => hk.2) (.int .i64 t256)) (fun _ hk => hk.2) (.slice Ao114 t257.length co114)) (fun _ h_ => h_.1))) hb); have n3_ := Aside0.mk (Kd.R_below (by (with_reducible repeat (first | apply Kd.R_alloc | apply Kd.R_drewN | apply Kd.R_drew)); exact (Kd.R_mono (Kd.R_far (p := ⟨gb261, 1, none⟩) (Kd.R_far (p := ⟨gb261, 0, none⟩) (Kd.R_types HO255.out BK261.out (by decide)) (fun _ hk => hk.2) (.int .i64 t256)) (fun _ hk => hk.2) (.slice Ao114 t257.length co114)) (fun _ h_ => h_.1))) hb); have n4_ := Aside0.mk (Kd.R_below (by (with_reducible repeat (first | apply Kd.R_alloc | apply Kd.R_drewN | apply Kd.R_drew)); exact (Kd.R_mono (Kd.R_far (p := ⟨gb261, 1, none⟩) (Kd.R_far (p := ⟨gb261, 0, none⟩) (Kd.R_types HO259.out BK261.out (by decide)) (fun _ hk => hk.2) (.int .i64 t256)) (fun _ hk => hk.2) (.slice Ao114 t257.length co114)) (fun _ h_ => h_.1))) hb); have n5_ := Aside0.mk (blk_below (g := gb217) (o := .cells #[.int .i64 a0_0, .slice A0_1 l0_1.length c0_1] 77 (0, 0)) (by (with_reducible repeat (first | refine blk_drewN ?_ _ | refine blk_drew ?_ | refine blk_alloc ?_ _)); refine blk_far ?_ NB217_261.out _; (with_reducible repeat (first | refine blk_drewN ?_ _ | refine blk_drew ?_ | refine blk_alloc ?_ _)); refine blk_far ?_ NB217_261.out _; (with_reducible repeat (first | refine blk_drewN ?_ _ | refine blk_drew ?_ | refine blk_alloc ?_ _)); exact BK217.out) hb); have n6_ := Aside0.mk (blk_below (g := gb228) (o := .cells #[.int .i64 t223, .slice Ao20 t224.length co20] 79 (0, 0)) (by (with_reducible repeat (first | refine blk_drewN ?_ _ | refine blk_drew ?_ | refine blk_alloc ?_ _)); refine blk_far ?_ NB228_261.out _; (with_reducible repeat (first | refine blk_drewN ?_ _ | refine blk_drew ?_ | refine blk_alloc ?_ _)); refine blk_far ?_ NB228_261.out _; (with_reducible repeat (first | refine blk_drewN ?_ _ | refine blk_drew ?_ | refine blk_alloc ?_ _)); exact BK228.out) hb); have n7_ := Aside0.mk (blk_below (g := gb233) (o := .cells #[.int .i64 t229, .slice Ao27 t247.length co27] 79 (0, 0)) (by (with_reducible repeat (first | refine blk_drewN ?_ _ | refine blk_drew ?_ | refine blk_alloc ?_ _)); refine blk_far ?_ NB233_261.out _; (with_reducible repeat (first | refine blk_drewN ?_ _ | refine blk_drew ?_ | refine blk_alloc ?_ _)); refine blk_far ?_ NB233_261.out _; (with_reducible repeat (first | refine blk_drewN ?_ _ | refine blk_drew ?_ | refine blk_alloc ?_ _)); exact BK233.out) hb); have n8_ := Aside0.mk (blk_below (g := gb239) (o := .cells #[.int .i64 t234, .slice Ao34 t235.length co34] 79 (0, 0)) (by (with_reducible repeat (first | refine blk_drewN ?_ _ | refine blk_drew ?_ | refine blk_alloc ?_ _)); refine blk_far ?_ NB239_261.out _; (with_reducible repeat (first | refine blk_drewN ?_ _ | refine blk_drew ?_ | refine blk_alloc ?_ _)); refine blk_far ?_ NB239_261.out _; (with_reducible repeat (first | refine blk_drewN ?_ _ | refine blk_drew ?_ | refine blk_alloc ?_ _)); exact BK239.out) hb); have n9_ := Aside0.mk (blk_below (g := gb261) (o := .cells #[.int .i64 t256, .slice Ao114 t257.length co114] 79 (0, 0)) (by (with_reducible repeat (first | refine blk_drewN ?_ _ | refine blk_drew ?_ | refine blk_alloc ?_ _)); refine blk_put (cs := #[.int .i64 t256, .slice none 0 0]) ?_ 1 _ rfl; (with_reducible repeat (first | refine blk_drewN ?_ _ | refine blk_drew ?_ | refine blk_alloc ?_ _)); refine blk_put (cs := #[.int .i64 0, .slice none 0 0]) ?_ 0 _ rfl; (with_reducible repeat (first | refine blk_drewN ?_ _ | refine blk_drew ?_ | refine blk_alloc ?_ _)); exact BK261.out) hb); have n10_ := pS HB hb; clear HO_229001 HO_234001; clear HO_240001 HO255; clear HO259 BK217; clear BK228 BK233; clear BK239 BK261 HB; have HO_229001 := n0_; have HO_234001 := n1_; have HO_240001 := n2_; have HO255 := n3_; have HO259 := n4_; have BK217 := n5_; have BK228 := n6_; have BK233 := n7_; have BK239 := n8_; have BK261 := n9_; have HB := n10_; clear n0_ n1_ n2_ n3_ n4_ n5_ n6_ n7_ n8_ n9_ n10_; (try clear hb); (try clear hb2); (try clear hk); (try clear hi)))
             go_meet
             case rel => exact ⟨_, (true), (by first | rfl | (simp; done) | (simp [*]; done)), H', ⟨by have := HJ11.out; have := HJ57.out; first | omega | exact Nat.le_refl _⟩, ⟨by (try simp only [hl234001_57]); (with_reducible repeat (first | apply Kd.R_alloc | apply Kd.R_drewN | apply Kd.R_drew)); exact Kd.R_mono HO_229001.out (fun _ hk => ⟨hk.1.1.1, ⟨hk.1.1.2, hk.2⟩⟩)⟩, ⟨by (try simp only [hl234001_57]); (with_reducible repeat (first | apply Kd.R_alloc | apply Kd.R_drewN | apply Kd.R_drew)); exact Kd.R_mono HO_234001.out (fun _ hk => ⟨hk.1.1.1, ⟨hk.1.1.2, hk.2⟩⟩)⟩, ⟨by (try simp only [hl234001_57]); (with_reducible repeat (first | apply Kd.R_alloc | apply Kd.R_drewN | apply Kd.R_drew)); exact Kd.R_mono HO_240001.out (fun _ hk => ⟨hk.1.1.1, ⟨hk.1.1.2, hk.2⟩⟩)⟩, ⟨by (try simp only [hl234001_57]); (with_reducible repeat (first | apply Kd.R_alloc | apply Kd.R_drewN | apply Kd.R_drew)); exact Kd.R_mono HO259.out (fun _ hk => ⟨hk.1.1.1.2, ⟨hk.1.1.2, hk.1.2⟩⟩)⟩, ⟨by (try simp only [hl234001_57]); (with_reducible repeat (first | refine blk_drewN ?_ _ | refine blk_drew ?_ | refine blk_alloc ?_ _)); exact BK217.out⟩, ⟨by (try simp only [hl234001_57]); (with_reducible repeat (first | refine blk_drewN ?_ _ | refine blk_drew ?_ | refine blk_alloc ?_ _)); exact BK228.out⟩, ⟨by (try simp only [hl234001_57]); (with_reducible repeat (first | refine blk_drewN ?_ _ | refine blk_drew ?_ | refine blk_alloc ?_ _)); exact BK233.out⟩, ⟨by (try simp only [hl234001_57]); (with_reducible repeat (first | refine blk_drewN ?_ _ | refine blk_drew ?_ | refine blk_alloc ?_ _)); exact BK239.out⟩, ⟨by (try simp only [hl234001_57]); (with_reducible repeat (first | refine blk_drewN ?_ _ | refine blk_drew ?_ | refine blk_alloc ?_ _)); exact BK261.out⟩, ⟨by repeat (first | (with_reducible first | exact HB.out | apply below_alloc | apply pw_below_drewN | apply below_drew1 | refine below_set ?_ GE217.out | refine below_set ?_ GE228.out | refine below_set ?_ GE233.out | refine below_set ?_ GE239.out | refine below_set ?_ GE261.out) | exact HB.out)⟩⟩
           case rest =>
            clear HC94
            try clear c1
            try clear c2
            try clear p2
            try clear c3
            try clear c4
            try clear c5
            try clear c6
            try clear c7
            try clear c7b0
            try clear c8
            try clear c9
            try clear c10
            try clear c11
            try clear c12
            try clear c13
            try clear c18
            try clear c24
            try clear c25
            try clear c30
            try clear c31
            try clear c32
            try clear c36
            try clear c37
            try clear c38
            try clear c39
            try clear c41
            try clear c42
            try clear c45
            try clear c46
            try clear c47
            try clear c49
            try clear c50
            try clear c51
            try clear c52
            try clear c53
            try clear c54
            try clear c55
            try clear c56
            try clear c63
            try clear c64
            try clear c65
            try clear c68
            try clear c68b0
            try clear c70
            try clear c71
            try clear c72
            try clear c73
            try clear c75
            try clear c76
            try clear c79
            try clear c80
            try clear c81
            try clear c83
            try clear c84
            try clear c87
            try clear c90
            try clear c90b0
            try clear c91
            try clear c91b0
            try clear c91b1
            try clear c95
            try clear c96
            try clear c97
            try clear c102
            try clear c103
            try clear c109
            try clear c110
            try clear c111
            try clear c112
            try clear c116
            try clear c117
            try clear c118
            try clear c119
            try clear c120
            try clear c122
            try clear c123
            try clear c124
            try clear c127
            try clear c128
            try clear c129
            try clear c130
            try clear c132
            try clear c133
            try clear c134
            try clear hcz100_0
            try clear hcz100_1
            try clear hcz104_0
            try clear hcz104_1
            try clear hcz113_0
            try clear hcz113_1
            try clear hcz121_0
            try clear hcz121_1
            try clear hcz125_0
            try clear hcz125_1
            try clear hcz131_0
            try clear hcz131_1
            try clear hcz135_0
            try clear hcz135_1
            try clear hcz13_0
            try clear hcz13_1
            try clear hcz19_0
            try clear hcz19_1
            try clear hcz21_0
            try clear hcz21_1
            try clear hcz26_0
            try clear hcz26_1
            try clear hcz33_0
            try clear hcz33_1
            try clear hcz40_0
            try clear hcz40_1
            try clear hcz43_0
            try clear hcz43_1
            try clear hcz48_0
            try clear hcz48_1
            try clear hcz51_0
            try clear hcz51_1
            try clear hcz5_0
            try clear hcz5_1
            try clear hcz66_0
            try clear hcz66_1
            try clear hcz74_0
            try clear hcz74_1
            try clear hcz77_0
            try clear hcz77_1
            try clear hcz82_0
            try clear hcz82_1
            try clear hcz85_0
            try clear hcz85_1
            try clear hcz98_0
            try clear hcz98_1
            try clear hfz100_0
            try clear hfz100_1
            try clear hfz104_0
            try clear hfz104_1
            try clear hfz113_0
            try clear hfz113_1
            try clear hfz121_0
            try clear hfz121_1
            try clear hfz125_0
            try clear hfz125_1
            try clear hfz131_0
            try clear hfz131_1
            try clear hfz135_0
            try clear hfz135_1
            try clear hfz13_0
            try clear hfz13_1
            try clear hfz19_0
            try clear hfz19_1
            try clear hfz21_0
            try clear hfz21_1
            try clear hfz26_0
            try clear hfz26_1
            try clear hfz33_0
            try clear hfz33_1
            try clear hfz40_0
            try clear hfz40_1
            try clear hfz43_0
            try clear hfz43_1
            try clear hfz48_0
            try clear hfz48_1
            try clear hfz51_0
            try clear hfz51_1
            try clear hfz5_0
            try clear hfz5_1
            try clear hfz66_0
            try clear hfz66_1
            try clear hfz74_0
            try clear hfz74_1
            try clear hfz77_0
            try clear hfz77_1
            try clear hfz82_0
            try clear hfz82_1
            try clear hfz85_0
            try clear hfz85_1
            try clear hfz98_0
            try clear hfz98_1
            try clear p2
            obtain ⟨kq, x92_93, rfl, HA, HJ93, HO_229001, HO_234001, HO_240001, HO_262001, BK217, BK228, BK233, BK239, BK261, HB⟩ := hcut
            have hl240001_93 := (Kd.R_reads' HO_240001.out).1
            rw [hl240001_93] at HO_240001
            (try simp only [hl240001_93])
            (try simp only [hl240001_93] at BK217)
            (try simp only [hl240001_93] at BK228)
            (try simp only [hl240001_93] at BK233)
            (try simp only [hl240001_93] at BK239)
            (try simp only [hl240001_93] at BK261)
            (try simp only [hl240001_93] at HO_229001)
            (try simp only [hl240001_93] at HO_234001)
            (try simp only [hl240001_93] at HO_262001)
            cases kq with
            | zero => exact absurd HA.out (by simp [laws_FnExactMarkFlaw.j2])
            | succ kj93 =>
             have H := HA.out
             clear HA
             simp only [laws_FnExactMarkFlaw.j2] at H
             by_cases c137 : x92_93 = true
             ·subst c137
              have H1 : (some false) = some r := by rw [if_pos rfl] at H; exact H
              clear H
              have H := H1
              clear H1
              obtain rfl := Option.some.inj H
              exact absurd HRT.out (by decide)
             ·replace c137 := Bool.eq_false_iff.mpr c137
              subst c137
              have H1 : ((laws_heldBolt.f kj93 t234 t250 1).bind fun t263 => (if t263 < 0 then (some false) else (if t263 = t249 then (some true) else (some false)))) = some r := by rw [if_neg (show ¬ (false = true) by decide)] at H; exact H
              clear H
              have H := H1
              clear H1
              replace H := Option.bind_eq_some_iff.mp H
              obtain ⟨t263, A1380, H⟩ := H
              replace H : (if t263 < 0 then (some false) else (if t263 = t249 then (some true) else (some false))) = some r := H
              have A138 := Aside0.mk A1380
              clear A1380
              by_cases c139 : t263 < 0
              ·rw [if_pos c139] at H
               have c139b0 : decide (t263 < 0) = true := decide_eq_true c139
               clear c139
               obtain rfl := Option.some.inj H
               exact absurd HRT.out (by decide)
              ·rw [if_neg c139] at H
               have c139b0 : decide (t263 < 0) = false := decide_eq_false c139
               clear c139
               by_cases c140 : t263 = t249
               ·rw [if_pos c140] at H
                have c140b0 : (t263 == t249) = true := beq_iff_eq.mpr c140
                have c140b1 : (t263 != t249) = false := bne_eq_false_iff_eq.mpr c140
                clear c140
                obtain rfl := Option.some.inj H
                simp only [Option.some.injEq, Prod.mk.injEq] at H
                obtain ⟨rfl⟩ := H
                have hnb141 := NB239_217.out
                have hnc141 := NB217_239.out
                have hnb142 := NB239_228.out
                have hnc142 := NB228_239.out
                have hnb143 := NB239_233.out
                have hnc143 := NB233_239.out
                have hnb144 := NB239_261.out
                have hnc144 := NB261_239.out
                obtain ⟨hcz145_0, hcz145_1, hfz145_0, hfz145_1⟩ := cz2 BK239
                go_wp2_with (first | ((with_reducible refine gate_callee (f := 56) rfl ?_); refine goesL_ (some 95) rfl rfl Try.func56 (by kernel_rfl) rfl #[.agg #[.int .i64 t234, .slice Ao34 t250.length co34], .int .i64 1] rfl (by (try simp only [List.map_toArray, List.map_cons, List.map_nil]); first | done | rfl | (simp only [List.length_drop, List.length_take]; rfl)) ?_; (with_reducible refine (laws_heldBolt.calls kj93 t234 _ _ t250 1 t263 _ ?side1 ?side2 A138.out).mono ?_); (case side1 => repeat (first | exact (Kd.R_reads' HO_240001.out).2.2 | (with_reducible refine Kd.C_alloc ?_ _) | (with_reducible refine Kd.C_drewN ?_ _) | (with_reducible refine Kd.C_drew ?_))); (case side2 => exact (Kd.R_reads' HO_240001.out).2.1); rintro e w146 ⟨rfl, hb⟩; refine ⟨_, rfl, ?_⟩; have n0_ := Aside0.mk (Kd.R_below (by (with_reducible repeat (first | apply Kd.R_alloc | apply Kd.R_drewN | apply Kd.R_drew)); exact HO_229001.out) hb); have n1_ := Aside0.mk (Kd.R_below (by (with_reducible repeat (first | apply Kd.R_alloc | apply Kd.R_drewN | apply Kd.R_drew)); exact HO_234001.out) hb); have n2_ := Aside0.mk (Kd.R_below (by (with_reducible repeat (first | apply Kd.R_alloc | apply Kd.R_drewN | apply Kd.R_drew)); exact HO_240001.out) hb); have n3_ := Aside0.mk (Kd.R_below (by (with_reducible repeat (first | apply Kd.R_alloc | apply Kd.R_drewN | apply Kd.R_drew)); exact HO_262001.out) hb); have n4_ := pB BK217 hb; have n5_ := pB BK228 hb; have n6_ := pB BK233 hb; have n7_ := pB BK239 hb; have n8_ := pB BK261 hb; have n9_ := pS HB hb; clear HO_229001 HO_234001; clear HO_240001 HO_262001; clear BK217 BK228; clear BK233 BK239; clear BK261 HB; have HO_229001 := n0_; have HO_234001 := n1_; have HO_240001 := n2_; have HO_262001 := n3_; have BK217 := n4_; have BK228 := n5_; have BK233 := n6_; have BK239 := n7_; have BK261 := n8_; have HB := n9_; clear n0_ n1_ n2_ n3_ n4_ n5_ n6_ n7_ n8_ n9_; (try clear hb); (try clear hb2); (try clear hk); (try clear hi)))
                go_ret
                exact ⟨by first | rfl | (simp [errW_none, errW_some] <;> rfl) | (simp [*, errW_none, errW_some] <;> rfl), pR HB⟩
               ·rw [if_neg c140] at H
                have c140b0 : (t263 == t249) = false := beq_eq_false_iff_ne.mpr c140
                have c140b1 : (t263 != t249) = true := bne_iff_ne.mpr c140
                obtain rfl := Option.some.inj H
                exact absurd HRT.out (by decide)
          ·rw [if_neg c91] at H
           have c91b0 : (t251 == t249) = false := beq_eq_false_iff_ne.mpr c91
           have c91b1 : (t251 != t249) = true := bne_iff_ne.mpr c91
           obtain rfl := Option.some.inj H
           exact absurd HRT.out (by decide)
     ·replace c56 := Bool.eq_false_iff.mpr c56
      subst c56
      have H1 : (some false) = some r := by rw [if_neg (show ¬ (false = true) by decide)] at H; exact H
      clear H
      have H := H1
      clear H1
      obtain rfl := Option.some.inj H
      exact absurd HRT.out (by decide)

def laws_FnExactMarkFlaw.Pure : Prop := ∀ (a0_0 : Int) (l0_1 : List Int) (a1 : Int), ((Lit.int .i64 a0_0).wf = true) → (l0_1.length ≤ 9223372036854775807 ∧ ∀ y0 ∈ l0_1, (Lit.int .i64 y0).wf = true) → ((Lit.int .i64 a1).wf = true) → ∃ k, laws_FnExactMarkFlaw.f k a0_0 l0_1 a1 = some true

end Go.Proofs.Ytbhijlhlopljmaa.PFnExactMarkFlaw
