-- Written by a program of this session (wip/tools/pp.sh).
import Derived.Test.YtmljmfepnlpgfaaPFnExactPanelEdgesx0
import Derived.Test.YtmljmfepnlpgfaaPFnExactPanelEdgesx1
import Derived.Test.YtmljmfepnlpgfaaPFnExactPanelEdgesx6
import Derived.Test.YtmljmfepnlpgfaaPFnExactPanelEdgesx9
import Derived.Test.YtmljmfepnlpgfaaPFnExactPanelEdgesx10
namespace Go.Proofs.Ytmljmfepnlpgfaa.PFnExactPanelEdges
open Go.RowKit Go.Proofs.YtmljmfepnlpgfaaW.PrintWords Go.Proofs.YtmljmfepnlpgfaaW.PrintLast Go.Proofs.YtmljmfepnlpgfaaW.PrintMore Go.Proofs.Ytmljmfepnlpgfaa.Small
open Bool renaming true → T, false → F
attribute [local go_sem] max2_int min2_int max_two min_two max_three min_three max_four min_four   -- for this text's walks alone
set_option linter.unusedVariables false
set_option linter.unusedSimpArgs false

/-! ### laws_FnExactPanelEdges: function 4 -/
mutual
def laws_FnExactPanelEdges.j0 : Nat → List (S53) → List Int → Int → List (S51) → List Int → Int → Bool → Int → Int → Int → Option (Bool)
 | 0, _, _, _, _, _, _, _, _, _, _ => none
 | k + 1, x0, x6, x7, x8, x9, x10, x46, x304000, x304001, x304002 => if x46 = true then (some false) else ((laws_toSpotS.f k x0).bind fun t326 => ((laws_eqSpotS.f k x8 t326).bind fun t329 => (if t329 = true then ((laws_markSpotS.f k x8 1).bind fun bt330 => (if bt330.1 < 0 then (laws_FnExactPanelEdges.j1 k x0 x6 x7 x9 true x304000 x304001 x304002) else ((laws_eqInt64S.f k x9 x6).bind fun t332 => (if t332 = true then (laws_FnExactPanelEdges.j1 k x0 x6 x7 x9 (x10 != x7) x304000 x304001 x304002) else (laws_FnExactPanelEdges.j1 k x0 x6 x7 x9 true x304000 x304001 x304002))))) else (some false))))
def laws_FnExactPanelEdges.j1 : Nat → List (S53) → List Int → Int → List Int → Bool → Int → Int → Int → Option (Bool)
 | 0, _, _, _, _, _, _, _, _ => none
 | k + 1, x0, x6, x7, x9, x67, x304000, x304001, x304002 => if x67 = true then (some false) else ((laws_markInt64S.f k x9 1).bind fun bt333 => ((laws_heldInt64S.f k bt333.2 1).bind fun t335 => (if t335 < 0 then (some false) else (if t335 = bt333.1 then ((laws_toSpotS.f k x0).bind fun t336 => ((laws_toWeave.f x304000 x304001 x304002).bind fun bt339 => ((impl_PanelEdges.f k t336 bt339.1 bt339.2.1 bt339.2.2).bind fun bt342 => ((laws_eqInt64S.f k bt342.1 x6).bind fun t346 => (if t346 = true then (laws_FnExactPanelEdges.j2 k bt333.2 bt333.1 (bt342.2 != x7)) else (laws_FnExactPanelEdges.j2 k bt333.2 bt333.1 true)))))) else (some false)))))
def laws_FnExactPanelEdges.j2 : Nat → List Int → Int → Bool → Option (Bool)
 | 0, _, _, _ => none
 | k + 1, x9, x12, x95 => if x95 = true then (some false) else ((laws_heldInt64S.f k x9 1).bind fun t347 => (if t347 < 0 then (some false) else (if t347 = x12 then (some true) else (some false))))
end
def laws_FnExactPanelEdges.f (k : Nat) (l0 : List (S53)) (a1_0 : Int) (a1_1 : Int) (a1_2 : Int) : Option (Bool) := (laws_szSpotS.f l0 1048576).bind fun t304 => (if t304 < 0 then (some true) else ((laws_toSpotS.f k l0).bind fun t305 => ((laws_toWeave.f a1_0 a1_1 a1_2).bind fun bt308 => ((spec_PanelEdges.f k t305 bt308.1 bt308.2.1 bt308.2.2).bind fun bt311 => ((laws_toSpotS.f k l0).bind fun t315 => ((laws_toWeave.f a1_0 a1_1 a1_2).bind fun bt318 => ((impl_PanelEdges.f k t315 bt318.1 bt318.2.1 bt318.2.2).bind fun bt321 => ((laws_eqInt64S.f k bt321.1 bt311.1).bind fun t325 => (if t325 = true then (laws_FnExactPanelEdges.j0 k l0 bt311.1 bt311.2 t315 bt321.1 bt321.2 (bt321.2 != bt311.2) a1_0 a1_1 a1_2) else (laws_FnExactPanelEdges.j0 k l0 bt311.1 bt311.2 t315 bt321.1 bt321.2 true a1_0 a1_1 a1_2))))))))))
theorem laws_FnExactPanelEdges.mono_l : ∀ k, (∀ y0 y1 y2 y3 y4 y5 y6 y7 y8 y9, LeO (laws_FnExactPanelEdges.j0 k y0 y1 y2 y3 y4 y5 y6 y7 y8 y9) (laws_FnExactPanelEdges.j0 (k + 1) y0 y1 y2 y3 y4 y5 y6 y7 y8 y9)) ∧ (∀ y0 y1 y2 y3 y4 y5 y6 y7, LeO (laws_FnExactPanelEdges.j1 k y0 y1 y2 y3 y4 y5 y6 y7) (laws_FnExactPanelEdges.j1 (k + 1) y0 y1 y2 y3 y4 y5 y6 y7)) ∧ (∀ y0 y1 y2, LeO (laws_FnExactPanelEdges.j2 k y0 y1 y2) (laws_FnExactPanelEdges.j2 (k + 1) y0 y1 y2))
 | 0 => ⟨fun _ _ _ _ _ _ _ _ _ _ r h => by simp [laws_FnExactPanelEdges.j0] at h, fun _ _ _ _ _ _ _ _ r h => by simp [laws_FnExactPanelEdges.j1] at h, fun _ _ _ r h => by simp [laws_FnExactPanelEdges.j2] at h⟩
 | k + 1 => by
  obtain ⟨ih0, ih1, ih2⟩ := laws_FnExactPanelEdges.mono_l k
  refine ⟨?_, ?_, ?_⟩
  ·intro y0 y1 y2 y3 y4 y5 y6 y7 y8 y9
   unfold laws_FnExactPanelEdges.j0
   repeat' first
   | (with_reducible exact ih0 _ _ _ _ _ _ _ _ _ _)
   | (with_reducible exact ih1 _ _ _ _ _ _ _ _)
   | (with_reducible exact ih2 _ _ _)
   | (with_reducible exact impl_PanelEdges.mono _ _ _ _ _)
   | (with_reducible exact laws_eqInt64S.mono _ _ _)
   | (with_reducible exact laws_eqSpotS.mono _ _ _)
   | (with_reducible exact laws_heldInt64S.mono _ _ _)
   | (with_reducible exact laws_markInt64S.mono _ _ _)
   | (with_reducible exact laws_markSpotS.mono _ _ _)
   | (with_reducible exact laws_toSpotS.mono _ _)
   | (with_reducible exact spec_PanelEdges.mono _ _ _ _ _)
   | (with_reducible exact LeO.refl _)
   | (with_reducible exact LeO.none _)
   | (with_reducible refine LeO.ite ?_ ?_)
   | (with_reducible refine LeO.bind ?_ (fun _ => ?_))
   | exact ih0 _ _ _ _ _ _ _ _ _ _
   | exact ih1 _ _ _ _ _ _ _ _
   | exact ih2 _ _ _
   | exact impl_PanelEdges.mono _ _ _ _ _
   | exact laws_eqInt64S.mono _ _ _
   | exact laws_eqSpotS.mono _ _ _
   | exact laws_heldInt64S.mono _ _ _
   | exact laws_markInt64S.mono _ _ _
   | exact laws_markSpotS.mono _ _ _
   | exact laws_toSpotS.mono _ _
   | exact spec_PanelEdges.mono _ _ _ _ _
   | exact LeO.none _
   | refine LeO.ite ?_ ?_
   | refine LeO.bind ?_ (fun _ => ?_)
  ·intro y0 y1 y2 y3 y4 y5 y6 y7
   unfold laws_FnExactPanelEdges.j1
   repeat' first
   | (with_reducible exact ih0 _ _ _ _ _ _ _ _ _ _)
   | (with_reducible exact ih1 _ _ _ _ _ _ _ _)
   | (with_reducible exact ih2 _ _ _)
   | (with_reducible exact impl_PanelEdges.mono _ _ _ _ _)
   | (with_reducible exact laws_eqInt64S.mono _ _ _)
   | (with_reducible exact laws_eqSpotS.mono _ _ _)
   | (with_reducible exact laws_heldInt64S.mono _ _ _)
   | (with_reducible exact laws_markInt64S.mono _ _ _)
   | (with_reducible exact laws_markSpotS.mono _ _ _)
   | (with_reducible exact laws_toSpotS.mono _ _)
   | (with_reducible exact spec_PanelEdges.mono _ _ _ _ _)
   | (with_reducible exact LeO.refl _)
   | (with_reducible exact LeO.none _)
   | (with_reducible refine LeO.ite ?_ ?_)
   | (with_reducible refine LeO.bind ?_ (fun _ => ?_))
   | exact ih0 _ _ _ _ _ _ _ _ _ _
   | exact ih1 _ _ _ _ _ _ _ _
   | exact ih2 _ _ _
   | exact impl_PanelEdges.mono _ _ _ _ _
   | exact laws_eqInt64S.mono _ _ _
   | exact laws_eqSpotS.mono _ _ _
   | exact laws_heldInt64S.mono _ _ _
   | exact laws_markInt64S.mono _ _ _
   | exact laws_markSpotS.mono _ _ _
   | exact laws_toSpotS.mono _ _
   | exact spec_PanelEdges.mono _ _ _ _ _
   | exact LeO.none _
   | refine LeO.ite ?_ ?_
   | refine LeO.bind ?_ (fun _ => ?_)
  ·intro y0 y1 y2
   unfold laws_FnExactPanelEdges.j2
   repeat' first
   | (with_reducible exact ih0 _ _ _ _ _ _ _ _ _ _)
   | (with_reducible exact ih1 _ _ _ _ _ _ _ _)
   | (with_reducible exact ih2 _ _ _)
   | (with_reducible exact impl_PanelEdges.mono _ _ _ _ _)
   | (with_reducible exact laws_eqInt64S.mono _ _ _)
   | (with_reducible exact laws_eqSpotS.mono _ _ _)
   | (with_reducible exact laws_heldInt64S.mono _ _ _)
   | (with_reducible exact laws_markInt64S.mono _ _ _)
   | (with_reducible exact laws_markSpotS.mono _ _ _)
   | (with_reducible exact laws_toSpotS.mono _ _)
   | (with_reducible exact spec_PanelEdges.mono _ _ _ _ _)
   | (with_reducible exact LeO.refl _)
   | (with_reducible exact LeO.none _)
   | (with_reducible refine LeO.ite ?_ ?_)
   | (with_reducible refine LeO.bind ?_ (fun _ => ?_))
   | exact ih0 _ _ _ _ _ _ _ _ _ _
   | exact ih1 _ _ _ _ _ _ _ _
   | exact ih2 _ _ _
   | exact impl_PanelEdges.mono _ _ _ _ _
   | exact laws_eqInt64S.mono _ _ _
   | exact laws_eqSpotS.mono _ _ _
   | exact laws_heldInt64S.mono _ _ _
   | exact laws_markInt64S.mono _ _ _
   | exact laws_markSpotS.mono _ _ _
   | exact laws_toSpotS.mono _ _
   | exact spec_PanelEdges.mono _ _ _ _ _
   | exact LeO.none _
   | refine LeO.ite ?_ ?_
   | refine LeO.bind ?_ (fun _ => ?_)
theorem laws_FnExactPanelEdges.mono : ∀ a0 a1 a2 a3 k, LeO (laws_FnExactPanelEdges.f k a0 a1 a2 a3) (laws_FnExactPanelEdges.f (k + 1) a0 a1 a2 a3) := by
 intro a0 a1 a2 a3 k
 obtain ⟨ih0, ih1, ih2⟩ := laws_FnExactPanelEdges.mono_l k
 unfold laws_FnExactPanelEdges.f
 repeat' first
   | (with_reducible exact ih0 _ _ _ _ _ _ _ _ _ _)
   | (with_reducible exact ih1 _ _ _ _ _ _ _ _)
   | (with_reducible exact ih2 _ _ _)
   | (with_reducible exact impl_PanelEdges.mono _ _ _ _ _)
   | (with_reducible exact laws_eqInt64S.mono _ _ _)
   | (with_reducible exact laws_eqSpotS.mono _ _ _)
   | (with_reducible exact laws_heldInt64S.mono _ _ _)
   | (with_reducible exact laws_markInt64S.mono _ _ _)
   | (with_reducible exact laws_markSpotS.mono _ _ _)
   | (with_reducible exact laws_toSpotS.mono _ _)
   | (with_reducible exact spec_PanelEdges.mono _ _ _ _ _)
   | (with_reducible exact LeO.refl _)
   | (with_reducible exact LeO.none _)
   | (with_reducible refine LeO.ite ?_ ?_)
   | (with_reducible refine LeO.bind ?_ (fun _ => ?_))
   | exact ih0 _ _ _ _ _ _ _ _ _ _
   | exact ih1 _ _ _ _ _ _ _ _
   | exact ih2 _ _ _
   | exact impl_PanelEdges.mono _ _ _ _ _
   | exact laws_eqInt64S.mono _ _ _
   | exact laws_eqSpotS.mono _ _ _
   | exact laws_heldInt64S.mono _ _ _
   | exact laws_markInt64S.mono _ _ _
   | exact laws_markSpotS.mono _ _ _
   | exact laws_toSpotS.mono _ _
   | exact spec_PanelEdges.mono _ _ _ _ _
   | exact LeO.none _
   | refine LeO.ite ?_ ?_
   | refine LeO.bind ?_ (fun _ => ?_)
def laws_FnExactPanelEdges.T5 : Bool × List (List Nat × List Nat) := (true, [([], []), ([0], [0]), ([], []), ([2, 1], [2]), ([1, 3, 3], [1, 3]), ([4], [4]), ([5], [5]), ([5], [5]), ([6, 4, 0, 1, 2, 3, 4, 5, 6], [6]), ([7, 8, 0, 1, 2, 3, 4, 5, 6, 7, 8], [7])])
def laws_FnExactPanelEdges.B5 : List Nat := [0, 1, 0, 7, 15, 31, 63, 63, 127, 511]
theorem laws_FnExactPanelEdges.tab5 : rtab .any (opsOf Try.f4 5) = laws_FnExactPanelEdges.T5 := by kernel_rfl
theorem laws_FnExactPanelEdges.bits5 : waitsOk laws_FnExactPanelEdges.T5.2 laws_FnExactPanelEdges.B5 = true := by kernel_rfl
def laws_FnExactPanelEdges.T24 : Bool × List (List Nat × List Nat) := (true, [([], []), ([0], [0]), ([], []), ([2, 1], [2]), ([1, 3, 3], [1, 3]), ([4], [4]), ([5], [5]), ([5], [5]), ([6, 4, 0, 1, 2, 3, 4, 5, 6], [6]), ([7, 8, 0, 1, 2, 3, 4, 5, 6, 7, 8], [7])])
def laws_FnExactPanelEdges.B24 : List Nat := [0, 1, 0, 7, 15, 31, 63, 63, 127, 511]
theorem laws_FnExactPanelEdges.tab24 : rtab .any (opsOf Try.f4 24) = laws_FnExactPanelEdges.T24 := by kernel_rfl
theorem laws_FnExactPanelEdges.bits24 : waitsOk laws_FnExactPanelEdges.T24.2 laws_FnExactPanelEdges.B24 = true := by kernel_rfl
set_option maxHeartbeats 8000000 in
set_option maxRecDepth 100000 in
theorem laws_FnExactPanelEdges.calls (k : Nat) (A0 : Option Addr) (c0 : Nat) (l0 : List (S53)) (a1_0 : Int) (a1_1 : Int) (a1_2 : Int) (r : Bool) (w : World) (hr0 : Kd.C k53 w A0 l0.length l0) (hc0 : l0.length ≤ c0) (hrt : r = true) (h : laws_FnExactPanelEdges.f k l0 a1_0 a1_1 a1_2 = some r) :
  Calls Try.prog 4 #[.slice A0 l0.length c0, .agg #[.int .i64 a1_0, .int .i64 a1_1, .int .i64 a1_2]] w fun e w' => e = .returned (.bool r) ∧ Below w.heap.size w w' := by
 have hu24 := Try.underlying24
 have HRT := Aside0.mk hrt
 clear hrt
 have HR0 := Aside0.mk hr0
 have HC0 := Aside0.mk hc0
 clear hr0 hc0
 have HB := Aside0.mk (Below.refl w.heap.size w)
 have H : ((laws_szSpotS.f l0 1048576).bind fun t304 => (if t304 < 0 then (some true) else ((laws_toSpotS.f k l0).bind fun t305 => ((laws_toWeave.f a1_0 a1_1 a1_2).bind fun bt308 => ((spec_PanelEdges.f k t305 bt308.1 bt308.2.1 bt308.2.2).bind fun bt311 => ((laws_toSpotS.f k l0).bind fun t315 => ((laws_toWeave.f a1_0 a1_1 a1_2).bind fun bt318 => ((impl_PanelEdges.f k t315 bt318.1 bt318.2.1 bt318.2.2).bind fun bt321 => ((laws_eqInt64S.f k bt321.1 bt311.1).bind fun t325 => (if t325 = true then (laws_FnExactPanelEdges.j0 k l0 bt311.1 bt311.2 t315 bt321.1 bt321.2 (bt321.2 != bt311.2) a1_0 a1_1 a1_2) else (laws_FnExactPanelEdges.j0 k l0 bt311.1 bt311.2 t315 bt321.1 bt321.2 true a1_0 a1_1 a1_2))))))))))) = some r := h
 clear h
 replace H := Option.bind_eq_some_iff.mp H
 obtain ⟨t304, A30, H⟩ := H
 replace H : (if t304 < 0 then (some true) else ((laws_toSpotS.f k l0).bind fun t305 => ((laws_toWeave.f a1_0 a1_1 a1_2).bind fun bt308 => ((spec_PanelEdges.f k t305 bt308.1 bt308.2.1 bt308.2.2).bind fun bt311 => ((laws_toSpotS.f k l0).bind fun t315 => ((laws_toWeave.f a1_0 a1_1 a1_2).bind fun bt318 => ((impl_PanelEdges.f k t315 bt318.1 bt318.2.1 bt318.2.2).bind fun bt321 => ((laws_eqInt64S.f k bt321.1 bt311.1).bind fun t325 => (if t325 = true then (laws_FnExactPanelEdges.j0 k l0 bt311.1 bt311.2 t315 bt321.1 bt321.2 (bt321.2 != bt311.2) a1_0 a1_1 a1_2) else (laws_FnExactPanelEdges.j0 k l0 bt311.1 bt311.2 t315 bt321.1 bt321.2 true a1_0 a1_1 a1_2)))))))))) = some r := H
 have A3 := Aside0.mk A30
 clear A30
 have HF_ := Aside0.mk H
 clear H
 go_enter Try.func4, Try.ntmps4
 go_upto_if 20 with (first | ((with_reducible refine gate_dst (N := 3) rfl ?_); refine box_event ?hg (N := 3) ?hd (cs := #[.int .i64 a1_0, .int .i64 a1_1, .int .i64 a1_2]) (t := 24) ?hr ?_; (case hd => rfl); (case hg => rfl); (case hr => first | (go_simp; done) | (go_simp; rfl)); intro gb303 hg w4 hbox hb; have n0_ := pS HB hb; have n1_ := Aside0.mk (hbox); have n2_ := pG HB hg; have n3_ := pG HB hg; clear HB; have HB := n0_; have BK303 := n1_; have GW303 := n2_; have GE303 := n3_; clear n0_ n1_ n2_ n3_; clear hb hbox hg) | ((with_reducible refine gate_callee (f := 8) rfl ?_); refine goesL_ (some 18) rfl rfl Try.func8 (by kernel_rfl) rfl #[.slice A0 l0.length c0, .int .i64 1048576] rfl (by (try simp only [List.map_toArray, List.map_cons, List.map_nil]); first | done | rfl | (simp only [List.length_drop, List.length_take]; rfl)) ?_; (with_reducible refine (laws_szSpotS.calls _ _ l0 1048576 t304 _ ?side1 ?side2 A3.out).mono ?_); (case side1 => repeat (first | exact (Kd.C_below HR0.out HB.out) | (with_reducible refine Kd.C_alloc ?_ _) | (with_reducible refine Kd.C_drewN ?_ _) | (with_reducible refine Kd.C_drew ?_))); (case side2 => exact HC0.out); rintro e w' ⟨rfl, ⟨nd, rfl⟩⟩; refine ⟨_, rfl, ?_⟩))
 (try simp only [Act.put, List.setIfInBounds_toArray, List.set_cons_zero, List.set_cons_succ])
 have H := HF_.out
 clear HF_
 by_cases c5 : t304 < 0
 ·rw [if_pos c5] at H
  have c5b0 : decide (t304 < 0) = true := decide_eq_true c5
  clear c5
  (first | rw [c5b0] | (simp only [i64_w, i32_w]; rw [c5b0]) | skip)
  obtain rfl := Option.some.inj H
  simp only [Option.some.injEq, Prod.mk.injEq] at H
  obtain ⟨rfl⟩ := H
  go_wp2
  go_ret
  exact ⟨by first | rfl | (simp [errW_none, errW_some] <;> rfl) | (simp [*, errW_none, errW_some] <;> rfl), pR HB⟩
 ·rw [if_neg c5] at H
  have c5b0 : decide (t304 < 0) = false := decide_eq_false c5
  clear c5
  (first | rw [c5b0] | (simp only [i64_w, i32_w]; rw [c5b0]) | skip)
  replace H := Option.bind_eq_some_iff.mp H
  obtain ⟨t305, A60, H⟩ := H
  replace H : ((laws_toWeave.f a1_0 a1_1 a1_2).bind fun bt308 => ((spec_PanelEdges.f k t305 bt308.1 bt308.2.1 bt308.2.2).bind fun bt311 => ((laws_toSpotS.f k l0).bind fun t315 => ((laws_toWeave.f a1_0 a1_1 a1_2).bind fun bt318 => ((impl_PanelEdges.f k t315 bt318.1 bt318.2.1 bt318.2.2).bind fun bt321 => ((laws_eqInt64S.f k bt321.1 bt311.1).bind fun t325 => (if t325 = true then (laws_FnExactPanelEdges.j0 k l0 bt311.1 bt311.2 t315 bt321.1 bt321.2 (bt321.2 != bt311.2) a1_0 a1_1 a1_2) else (laws_FnExactPanelEdges.j0 k l0 bt311.1 bt311.2 t315 bt321.1 bt321.2 true a1_0 a1_1 a1_2)))))))) = some r := H
  have A6 := Aside0.mk A60
  clear A60
  replace H := Option.bind_eq_some_iff.mp H
  obtain ⟨⟨t308, t309, t310⟩, A70, H⟩ := H
  replace H : ((spec_PanelEdges.f k t305 t308 t309 t310).bind fun bt311 => ((laws_toSpotS.f k l0).bind fun t315 => ((laws_toWeave.f a1_0 a1_1 a1_2).bind fun bt318 => ((impl_PanelEdges.f k t315 bt318.1 bt318.2.1 bt318.2.2).bind fun bt321 => ((laws_eqInt64S.f k bt321.1 bt311.1).bind fun t325 => (if t325 = true then (laws_FnExactPanelEdges.j0 k l0 bt311.1 bt311.2 t315 bt321.1 bt321.2 (bt321.2 != bt311.2) a1_0 a1_1 a1_2) else (laws_FnExactPanelEdges.j0 k l0 bt311.1 bt311.2 t315 bt321.1 bt321.2 true a1_0 a1_1 a1_2))))))) = some r := H
  have A7 := Aside0.mk A70
  clear A70
  replace H := Option.bind_eq_some_iff.mp H
  obtain ⟨⟨t311, t314⟩, A80, H⟩ := H
  replace H : ((laws_toSpotS.f k l0).bind fun t315 => ((laws_toWeave.f a1_0 a1_1 a1_2).bind fun bt318 => ((impl_PanelEdges.f k t315 bt318.1 bt318.2.1 bt318.2.2).bind fun bt321 => ((laws_eqInt64S.f k bt321.1 t311).bind fun t325 => (if t325 = true then (laws_FnExactPanelEdges.j0 k l0 t311 t314 t315 bt321.1 bt321.2 (bt321.2 != t314) a1_0 a1_1 a1_2) else (laws_FnExactPanelEdges.j0 k l0 t311 t314 t315 bt321.1 bt321.2 true a1_0 a1_1 a1_2)))))) = some r := H
  have A8 := Aside0.mk A80
  clear A80
  replace H := Option.bind_eq_some_iff.mp H
  obtain ⟨t315, A90, H⟩ := H
  replace H : ((laws_toWeave.f a1_0 a1_1 a1_2).bind fun bt318 => ((impl_PanelEdges.f k t315 bt318.1 bt318.2.1 bt318.2.2).bind fun bt321 => ((laws_eqInt64S.f k bt321.1 t311).bind fun t325 => (if t325 = true then (laws_FnExactPanelEdges.j0 k l0 t311 t314 t315 bt321.1 bt321.2 (bt321.2 != t314) a1_0 a1_1 a1_2) else (laws_FnExactPanelEdges.j0 k l0 t311 t314 t315 bt321.1 bt321.2 true a1_0 a1_1 a1_2))))) = some r := H
  have A9 := Aside0.mk A90
  clear A90
  replace H := Option.bind_eq_some_iff.mp H
  obtain ⟨⟨t318, t319, t320⟩, A100, H⟩ := H
  replace H : ((impl_PanelEdges.f k t315 t318 t319 t320).bind fun bt321 => ((laws_eqInt64S.f k bt321.1 t311).bind fun t325 => (if t325 = true then (laws_FnExactPanelEdges.j0 k l0 t311 t314 t315 bt321.1 bt321.2 (bt321.2 != t314) a1_0 a1_1 a1_2) else (laws_FnExactPanelEdges.j0 k l0 t311 t314 t315 bt321.1 bt321.2 true a1_0 a1_1 a1_2)))) = some r := H
  have A10 := Aside0.mk A100
  clear A100
  replace H := Option.bind_eq_some_iff.mp H
  obtain ⟨⟨t321, t324⟩, A110, H⟩ := H
  replace H : ((laws_eqInt64S.f k t321 t311).bind fun t325 => (if t325 = true then (laws_FnExactPanelEdges.j0 k l0 t311 t314 t315 t321 t324 (t324 != t314) a1_0 a1_1 a1_2) else (laws_FnExactPanelEdges.j0 k l0 t311 t314 t315 t321 t324 true a1_0 a1_1 a1_2))) = some r := H
  have A11 := Aside0.mk A110
  clear A110
  have HC12 := Aside0.mk H
  clear H
  try go_wp2
  (try (rw [drewN_self w4]; generalize hq_ : World.drewN w4 _ = w4; have n0_ : Aside0 (w4.heap[gb303]? = some (.cells #[.int .i64 a1_0, .int .i64 a1_1, .int .i64 a1_2] 24 (0, 0))) := ⟨by rw [← hq_]; exact (by (with_reducible repeat (first | refine blk_drewN ?_ _ | refine blk_drew ?_ | refine blk_alloc ?_ _)); exact BK303.out)⟩; have n1_ : Aside0 (Below w.heap.size w w4) := ⟨by rw [← hq_]; exact (by repeat (first | (with_reducible first | exact HB.out | apply below_alloc | apply pw_below_drewN | apply below_drew1 | refine below_set ?_ GE303.out) | exact HB.out))⟩; clear BK303 HB hq_; have BK303 := n0_; have HB := n1_; clear n0_ n1_))
  have n0_ := Aside0.mk (blk_drew BK303.out)
  have n1_ := Aside0.mk (below_drew1 HB.out)
  clear BK303
  clear HB
  have BK303 := n0_
  have HB := n1_
  clear n0_ n1_
  refine start_ (n := 10) (S := fun w' => w'.cell? ⟨gb303, 0, none⟩ = some (.int .i64 a1_0) ∧ w'.cell? ⟨gb303, 1, none⟩ = some (.int .i64 a1_1) ∧ w'.cell? ⟨gb303, 2, none⟩ = some (.int .i64 a1_2)) (ds := []) #[F,F,F,F,F,F,F,F,F,F] (by kernel_rfl) rfl rfl ⟨(blk_cell BK303.out 0).trans rfl, (blk_cell BK303.out 1).trans rfl, (blk_cell BK303.out 2).trans rfl⟩ (fun hHeld => ?_); refine with_tabW laws_FnExactPanelEdges.tab5 laws_FnExactPanelEdges.bits5 (fun HT_ HW_ => ?_)
  generalize w4.drew = w13 at BK303 HB hHeld ⊢
  refine pure_ (i := 0) (N := some 22) (v := ?_) (a' := ?_) #[T,F,F,F,F,F,F,F,F,F] rfl rfl (any_of HT_.out (by kernel_rfl)) (fun _ _ _ h => h) (Or.inl ⟨by rfl, ?_⟩) ?_ ?_
  rotate_left
  ·intro w'
   go_simp
   with_reducible rfl
  rotate_left
  ·simp only [NS]
   rfl
  refine take_ (i := 2) (N := some 24) (v := ?_) (a' := ?_) #[T,F,T,F,F,F,F,F,F,F] rfl rfl (take_ofW HT_.out HW_.out (by kernel_rfl)) (fun _ _ _ h => h) (Or.inl ⟨by rfl, ?_⟩) hHeld ?_ ?_
  rotate_left
  ·rintro w' ⟨s0, s1, s2⟩
   go_simp
   with_reducible rfl
  rotate_left
  ·simp only [NS]
   rfl
  refine one_ (i := 1) (N := some 23) #[T,T,T,F,F,F,F,F,F,F] rfl rfl (one_of HT_.out (by kernel_rfl)) (by decide) (fun K hK => ?_)
  refine goes_ Try.func10 (by kernel_rfl) rfl #[.slice A0 l0.length c0] (by rfl) rfl rfl (by (try simp only [List.map_toArray, List.map_cons, List.map_nil]); first | done | rfl | (simp only [List.length_drop, List.length_take]; rfl)) ?_
  with_reducible refine (laws_toSpotS.calls k _ _ l0 t305 _ ?side1 ?side2 A6.out).mono ?_
  (case side1 => repeat (first | exact (Kd.C_below HR0.out HB.out) | (with_reducible refine Kd.C_alloc ?_ _) | (with_reducible refine Kd.C_drewN ?_ _) | (with_reducible refine Kd.C_drew ?_)))
  (case side2 => exact HC0.out)
  rintro e w14 ⟨v306, rfl, ho0, hb⟩
  refine ⟨_, rfl, ?_⟩
  have n0_ := Aside0.mk (Kd.R_lower ho0 (below_size (by repeat (first | (with_reducible first | exact HB.out | apply below_alloc | apply pw_below_drewN | apply below_drew1 | refine below_set ?_ GE303.out) | exact HB.out))))
  have n1_ := pB BK303 hb
  have n2_ := pS HB hb
  clear BK303
  clear HB
  have HO307 := n0_
  have BK303 := n1_
  have HB := n2_
  clear n0_ n1_ n2_
  (try clear hb)
  (try clear hb2)
  (try clear hk)
  (try clear hi)
  (try clear ho0)
  refine hK.out _ _ ⟨(blk_cell BK303.out 0).trans rfl, (blk_cell BK303.out 1).trans rfl, (blk_cell BK303.out 2).trans rfl⟩ (fun hHeld => ?_)
  clear hK K
  refine norm_ (a' := ?_) ?_ ?_
  rotate_left
  ·show Act.put _ (some 23) _ = _
   simp only [NS]
   rfl
  refine one_ (i := 3) (N := some 25) #[T,T,T,T,F,F,F,F,F,F] rfl rfl (one_of HT_.out (by kernel_rfl)) (by decide) (fun K hK => ?_)
  refine goes_ Try.func11 (by kernel_rfl) rfl #[.agg #[.int .i64 a1_0, .int .i64 a1_1, .int .i64 a1_2]] (by rfl) rfl rfl (by (try simp only [List.map_toArray, List.map_cons, List.map_nil]); first | done | rfl | (simp only [List.length_drop, List.length_take]; rfl)) ?_
  with_reducible refine (laws_toWeave.calls a1_0 a1_1 a1_2 t308 t309 t310 _ A7.out).mono ?_
  rintro e w15 ⟨rfl, hb⟩
  refine ⟨_, rfl, ?_⟩
  have n0_ := Aside0.mk (Kd.R_below (by (with_reducible repeat (first | apply Kd.R_alloc | apply Kd.R_drewN | apply Kd.R_drew)); exact HO307.out) hb)
  have n1_ := pB BK303 hb
  have n2_ := pS HB hb
  clear HO307
  clear BK303
  clear HB
  have HO307 := n0_
  have BK303 := n1_
  have HB := n2_
  clear n0_ n1_ n2_
  (try clear hb)
  (try clear hb2)
  (try clear hk)
  (try clear hi)
  obtain ⟨Ao16, co16, eo16⟩ := Kd.R_slice HO307.out
  (first | subst eo16 | (injection eo16 with f1_ f2_ f3_; have f4_ := f1_.symm; have f5_ := f3_.symm; clear f1_ f2_ f3_; subst f4_; subst f5_))
  refine hK.out _ _ ⟨(blk_cell BK303.out 0).trans rfl, (blk_cell BK303.out 1).trans rfl, (blk_cell BK303.out 2).trans rfl⟩ (fun hHeld => ?_)
  clear hK K
  refine norm_ (a' := ?_) ?_ ?_
  rotate_left
  ·show Act.put _ (some 25) _ = _
   simp only [NS]
   rfl
  refine one_ (i := 4) (N := some 26) #[T,T,T,T,T,F,F,F,F,F] rfl rfl (one_of HT_.out (by kernel_rfl)) (by decide) (fun K hK => ?_)
  refine goes_ Try.func14 (by kernel_rfl) rfl #[.slice Ao16 t305.length co16, .agg #[.int .i64 t308, .int .i64 t309, .int .i64 t310]] (by rfl) rfl rfl (by (try simp only [List.map_toArray, List.map_cons, List.map_nil]); first | done | rfl | (simp only [List.length_drop, List.length_take]; rfl)) ?_
  with_reducible refine (spec_PanelEdges.calls k _ _ t305 t308 t309 t310 t311 t314 _ ?side1 ?side2 A8.out).mono ?_
  (case side1 => repeat (first | exact (Kd.R_reads' HO307.out).2.2 | (with_reducible refine Kd.C_alloc ?_ _) | (with_reducible refine Kd.C_drewN ?_ _) | (with_reducible refine Kd.C_drew ?_)))
  (case side2 => exact (Kd.R_reads' HO307.out).2.1)
  rintro e w17 ⟨v312, rfl, ho0, hb⟩
  refine ⟨_, rfl, ?_⟩
  have n0_ := Aside0.mk (Kd.R_below (by (with_reducible repeat (first | apply Kd.R_alloc | apply Kd.R_drewN | apply Kd.R_drew)); exact HO307.out) hb)
  have n1_ := Aside0.mk (Kd.R_lower ho0 (below_size (by repeat (first | (with_reducible first | exact HB.out | apply below_alloc | apply pw_below_drewN | apply below_drew1 | refine below_set ?_ GE303.out) | exact HB.out))))
  have n2_ := pB BK303 hb
  have n3_ := pS HB hb
  clear HO307
  clear BK303
  clear HB
  have HO307 := n0_
  have HO313 := n1_
  have BK303 := n2_
  have HB := n3_
  clear n0_ n1_ n2_ n3_
  (try clear hb)
  (try clear hb2)
  (try clear hk)
  (try clear hi)
  (try clear ho0)
  refine hK.out _ _ ⟨(blk_cell BK303.out 0).trans rfl, (blk_cell BK303.out 1).trans rfl, (blk_cell BK303.out 2).trans rfl⟩ (fun hHeld => ?_)
  clear hK K
  refine norm_ (a' := ?_) ?_ ?_
  rotate_left
  ·show Act.put _ (some 26) _ = _
   simp only [NS]
   rfl
  refine pure_ (i := 5) (N := some 21) (v := ?_) (a' := ?_) #[T,T,T,T,T,T,F,F,F,F] rfl rfl (any_of HT_.out (by kernel_rfl)) (fun _ _ _ h => h) (Or.inl ⟨by rfl, ?_⟩) ?_ ?_
  rotate_left
  ·intro w'
   go_simp
   with_reducible rfl
  rotate_left
  ·simp only [NS]
   rfl
  refine pure_ (i := 6) (N := some 27) (v := ?_) (a' := ?_) #[T,T,T,T,T,T,T,F,F,F] rfl rfl (any_of HT_.out (by kernel_rfl)) (fun _ _ _ h => h) (Or.inl ⟨by rfl, ?_⟩) ?_ ?_
  rotate_left
  ·intro w'
   go_simp
   with_reducible rfl
  rotate_left
  ·simp only [NS]
   rfl
  refine pure_ (i := 7) (N := some 28) (v := ?_) (a' := ?_) #[T,T,T,T,T,T,T,T,F,F] rfl rfl (any_of HT_.out (by kernel_rfl)) (fun _ _ _ h => h) (Or.inl ⟨by rfl, ?_⟩) ?_ ?_
  rotate_left
  ·intro w'
   go_simp
   with_reducible rfl
  rotate_left
  ·simp only [NS]
   rfl
  refine pure_ (i := 8) (N := some 6) (v := ?_) (a' := ?_) #[T,T,T,T,T,T,T,T,T,F] rfl rfl (any_of HT_.out (by kernel_rfl)) (fun _ _ _ h => h) (Or.inl ⟨by rfl, ?_⟩) ?_ ?_
  rotate_left
  ·intro w'
   go_simp
   with_reducible rfl
  rotate_left
  ·simp only [NS]
   rfl
  refine pure_ (i := 9) (N := some 7) (v := ?_) (a' := ?_) #[T,T,T,T,T,T,T,T,T,T] rfl rfl (any_of HT_.out (by kernel_rfl)) (fun _ _ _ h => h) (Or.inl ⟨by rfl, ?_⟩) ?_ ?_
  rotate_left
  ·intro w'
   go_simp
   with_reducible rfl
  rotate_left
  ·simp only [NS]
   rfl
  refine done_ (done_of HT_.out (by kernel_rfl)) ?_
  go_upto_region 8 with (first | ((with_reducible refine gate_callee (f := 10) rfl ?_); refine goesL_ (some 30) rfl rfl Try.func10 (by kernel_rfl) rfl #[.slice A0 l0.length c0] rfl (by (try simp only [List.map_toArray, List.map_cons, List.map_nil]); first | done | rfl | (simp only [List.length_drop, List.length_take]; rfl)) ?_; (with_reducible refine (laws_toSpotS.calls k _ _ l0 t315 _ ?side1 ?side2 A9.out).mono ?_); (case side1 => repeat (first | exact (Kd.C_below HR0.out HB.out) | (with_reducible refine Kd.C_alloc ?_ _) | (with_reducible refine Kd.C_drewN ?_ _) | (with_reducible refine Kd.C_drew ?_))); (case side2 => exact HC0.out); rintro e w18 ⟨v316, rfl, ho0, hb⟩; refine ⟨_, rfl, ?_⟩; have n0_ := Aside0.mk (Kd.R_elder' (by (with_reducible repeat (first | apply Kd.R_alloc | apply Kd.R_drewN | apply Kd.R_drew)); exact HO307.out) (Kd.R_base ho0) hb); have n1_ := Aside0.mk (Kd.R_below (by (with_reducible repeat (first | apply Kd.R_alloc | apply Kd.R_drewN | apply Kd.R_drew)); exact HO313.out) hb); have n2_ := Aside0.mk (Kd.R_lower (Kd.R_new' ho0 (Kd.R_lt (by (with_reducible repeat (first | apply Kd.R_alloc | apply Kd.R_drewN | apply Kd.R_drew)); exact HO307.out))) (below_size (by repeat (first | (with_reducible first | exact HB.out | apply below_alloc | apply pw_below_drewN | apply below_drew1 | refine below_set ?_ GE303.out) | exact HB.out)))); have n3_ := pB BK303 hb; have n4_ := pS HB hb; clear HO307 HO313; clear BK303 HB; have HO307 := n0_; have HO313 := n1_; have HO317 := n2_; have BK303 := n3_; have HB := n4_; clear n0_ n1_ n2_ n3_ n4_; (try clear hb); (try clear hb2); (try clear hk); (try clear hi); (try clear ho0); obtain ⟨hcz19_0, hcz19_1, hcz19_2, hfz19_0, hfz19_1, hfz19_2⟩ := cz3 BK303) | ((with_reducible refine gate_callee (f := 11) rfl ?_); refine goesL_ (some 34) rfl rfl Try.func11 (by kernel_rfl) rfl #[.agg #[.int .i64 a1_0, .int .i64 a1_1, .int .i64 a1_2]] rfl (by (try simp only [List.map_toArray, List.map_cons, List.map_nil]); first | done | rfl | (simp only [List.length_drop, List.length_take]; rfl)) ?_; (with_reducible refine (laws_toWeave.calls a1_0 a1_1 a1_2 t318 t319 t320 _ A10.out).mono ?_); rintro e w20 ⟨rfl, hb⟩; refine ⟨_, rfl, ?_⟩; have n0_ := Aside0.mk (Kd.R_below (by (with_reducible repeat (first | apply Kd.R_alloc | apply Kd.R_drewN | apply Kd.R_drew)); exact HO307.out) hb); have n1_ := Aside0.mk (Kd.R_below (by (with_reducible repeat (first | apply Kd.R_alloc | apply Kd.R_drewN | apply Kd.R_drew)); exact HO313.out) hb); have n2_ := Aside0.mk (Kd.R_below (by (with_reducible repeat (first | apply Kd.R_alloc | apply Kd.R_drewN | apply Kd.R_drew)); exact HO317.out) hb); have n3_ := pB BK303 hb; have n4_ := pS HB hb; clear HO307 HO313; clear HO317 BK303 HB; have HO307 := n0_; have HO313 := n1_; have HO317 := n2_; have BK303 := n3_; have HB := n4_; clear n0_ n1_ n2_ n3_ n4_; (try clear hb); (try clear hb2); (try clear hk); (try clear hi); obtain ⟨Ao21, co21, eo21⟩ := Kd.R_slice HO317.out; subst eo21) | ((with_reducible refine gate_callee (f := 15) rfl ?_); refine goesL_ (some 35) rfl rfl Try.func15 (by kernel_rfl) rfl #[.slice Ao21 t315.length co21, .agg #[.int .i64 t318, .int .i64 t319, .int .i64 t320]] rfl (by (try simp only [List.map_toArray, List.map_cons, List.map_nil]); first | done | rfl | (simp only [List.length_drop, List.length_take]; rfl)) ?_; (with_reducible refine (impl_PanelEdges.calls k _ _ t315 t318 t319 t320 t321 t324 _ ?side1 ?side2 A11.out).mono ?_); (case side1 => repeat (first | exact (Kd.R_reads' HO317.out).2.2 | (with_reducible refine Kd.C_alloc ?_ _) | (with_reducible refine Kd.C_drewN ?_ _) | (with_reducible refine Kd.C_drew ?_))); (case side2 => exact (Kd.R_reads' HO317.out).2.1); rintro e w22 ⟨v322, rfl, ho0, hb⟩; refine ⟨_, rfl, ?_⟩; have n0_ := Aside0.mk (Kd.R_below (by (with_reducible repeat (first | apply Kd.R_alloc | apply Kd.R_drewN | apply Kd.R_drew)); exact HO307.out) hb); have n1_ := Aside0.mk (Kd.R_elder' (by (with_reducible repeat (first | apply Kd.R_alloc | apply Kd.R_drewN | apply Kd.R_drew)); exact HO313.out) (Kd.R_base ho0) hb); have n2_ := Aside0.mk (Kd.R_below (by (with_reducible repeat (first | apply Kd.R_alloc | apply Kd.R_drewN | apply Kd.R_drew)); exact HO317.out) hb); have n3_ := Aside0.mk (Kd.R_lower (Kd.R_new' ho0 (Kd.R_lt (by (with_reducible repeat (first | apply Kd.R_alloc | apply Kd.R_drewN | apply Kd.R_drew)); exact HO313.out))) (below_size (by repeat (first | (with_reducible first | exact HB.out | apply below_alloc | apply pw_below_drewN | apply below_drew1 | refine below_set ?_ GE303.out) | exact HB.out)))); have n4_ := pB BK303 hb; have n5_ := pS HB hb; clear HO307 HO313; clear HO317 BK303 HB; have HO307 := n0_; have HO313 := n1_; have HO317 := n2_; have HO323 := n3_; have BK303 := n4_; have HB := n5_; clear n0_ n1_ n2_ n3_ n4_ n5_; (try clear hb); (try clear hb2); (try clear hk); (try clear hi); (try clear ho0)))
  (try simp only [Act.put, List.setIfInBounds_toArray, List.set_cons_zero, List.set_cons_succ])
  go_cut [46] (fun v46 wc => ∃ (kq : Nat) (x46_11 : Bool), v46 = .bool x46_11 ∧ Aside0 (laws_FnExactPanelEdges.j0 kq l0 t311 t314 t315 t321 t324 x46_11 a1_0 a1_1 a1_2 = some r) ∧ Aside0 (kq ≤ k) ∧ Aside0 (Kd.R (Kd.int .i64) 2 wc w.heap.size (fun k_ => some k_ ≠ (v322 : Value).ownBlock) v312 t311) ∧ Aside0 (Kd.R k51 51 wc w.heap.size (fun _ => True) (.slice Ao21 t315.length co21) t315) ∧ Aside0 (Kd.R (Kd.int .i64) 2 wc w.heap.size (fun k_ => some k_ ≠ (v312 : Value).ownBlock) v322 t321) ∧ Aside0 (wc.heap[gb303]? = some (.cells #[.int .i64 a1_0, .int .i64 a1_1, .int .i64 a1_2] 24 (0, 0))) ∧ Aside0 (Below w.heap.size w wc))
  case first =>
   have H := HC12.out
   clear HC12
   replace H := Option.bind_eq_some_iff.mp H
   obtain ⟨t325, A230, H⟩ := H
   replace H : (if t325 = true then (laws_FnExactPanelEdges.j0 k l0 t311 t314 t315 t321 t324 (t324 != t314) a1_0 a1_1 a1_2) else (laws_FnExactPanelEdges.j0 k l0 t311 t314 t315 t321 t324 true a1_0 a1_1 a1_2)) = some r := H
   have A23 := Aside0.mk A230
   clear A230
   by_cases c24 : t325 = true
   ·subst c24
    have H1 : (laws_FnExactPanelEdges.j0 k l0 t311 t314 t315 t321 t324 (t324 != t314) a1_0 a1_1 a1_2) = some r := by rw [if_pos rfl] at H; exact H
    clear H
    have H := H1
    clear H1
    have H' := Aside0.mk H
    clear H
    obtain ⟨Ao25, co25, eo25⟩ := Kd.R_slice HO323.out
    subst eo25
    obtain ⟨Ao26, co26, eo26⟩ := Kd.R_slice HO313.out
    subst eo26
    go_wp2_with (first | ((with_reducible refine gate_callee (f := 16) rfl ?_); refine goesL_ (some 40) rfl rfl Try.func16 (by kernel_rfl) rfl #[.slice Ao25 t321.length co25, .slice Ao26 t311.length co26] rfl (by (try simp only [List.map_toArray, List.map_cons, List.map_nil]); first | done | rfl | (simp only [List.length_drop, List.length_take]; rfl)) ?_; (with_reducible refine (laws_eqInt64S.calls k _ _ t321 _ _ t311 true _ ?side1 ?side2 ?side3 ?side4 A23.out).mono ?_); (case side1 => repeat (first | exact (Kd.R_reads' HO323.out).2.2 | (with_reducible refine Kd.C_alloc ?_ _) | (with_reducible refine Kd.C_drewN ?_ _) | (with_reducible refine Kd.C_drew ?_))); (case side2 => exact (Kd.R_reads' HO323.out).2.1); (case side3 => repeat (first | exact (Kd.R_reads' HO313.out).2.2 | (with_reducible refine Kd.C_alloc ?_ _) | (with_reducible refine Kd.C_drewN ?_ _) | (with_reducible refine Kd.C_drew ?_))); (case side4 => exact (Kd.R_reads' HO313.out).2.1); rintro e w' ⟨rfl, ⟨nd, rfl⟩⟩; refine ⟨_, rfl, ?_⟩))
    go_meet
    case rel => exact ⟨_, ((t324 != t314)), (by first | rfl | (simp; done) | (simp [*]; done)), H', ⟨by first | omega | exact Nat.le_refl _⟩, ⟨by (with_reducible repeat (first | apply Kd.R_alloc | apply Kd.R_drewN | apply Kd.R_drew)); exact Kd.R_mono HO313.out (fun _ hk => hk.2)⟩, ⟨by (with_reducible repeat (first | apply Kd.R_alloc | apply Kd.R_drewN | apply Kd.R_drew)); exact Kd.R_mono HO317.out (fun _ hk => trivial)⟩, ⟨by (with_reducible repeat (first | apply Kd.R_alloc | apply Kd.R_drewN | apply Kd.R_drew)); exact Kd.R_mono HO323.out (fun _ hk => hk.2)⟩, ⟨by (with_reducible repeat (first | refine blk_drewN ?_ _ | refine blk_drew ?_ | refine blk_alloc ?_ _)); exact BK303.out⟩, ⟨by repeat (first | (with_reducible first | exact HB.out | apply below_alloc | apply pw_below_drewN | apply below_drew1 | refine below_set ?_ GE303.out) | exact HB.out)⟩⟩
   ·replace c24 := Bool.eq_false_iff.mpr c24
    subst c24
    have H1 : (laws_FnExactPanelEdges.j0 k l0 t311 t314 t315 t321 t324 true a1_0 a1_1 a1_2) = some r := by rw [if_neg (show ¬ (false = true) by decide)] at H; exact H
    clear H
    have H := H1
    clear H1
    have H' := Aside0.mk H
    clear H
    obtain ⟨Ao27, co27, eo27⟩ := Kd.R_slice HO323.out
    subst eo27
    obtain ⟨Ao28, co28, eo28⟩ := Kd.R_slice HO313.out
    subst eo28
    go_wp2_with (first | ((with_reducible refine gate_callee (f := 16) rfl ?_); refine goesL_ (some 40) rfl rfl Try.func16 (by kernel_rfl) rfl #[.slice Ao27 t321.length co27, .slice Ao28 t311.length co28] rfl (by (try simp only [List.map_toArray, List.map_cons, List.map_nil]); first | done | rfl | (simp only [List.length_drop, List.length_take]; rfl)) ?_; (with_reducible refine (laws_eqInt64S.calls k _ _ t321 _ _ t311 false _ ?side1 ?side2 ?side3 ?side4 A23.out).mono ?_); (case side1 => repeat (first | exact (Kd.R_reads' HO323.out).2.2 | (with_reducible refine Kd.C_alloc ?_ _) | (with_reducible refine Kd.C_drewN ?_ _) | (with_reducible refine Kd.C_drew ?_))); (case side2 => exact (Kd.R_reads' HO323.out).2.1); (case side3 => repeat (first | exact (Kd.R_reads' HO313.out).2.2 | (with_reducible refine Kd.C_alloc ?_ _) | (with_reducible refine Kd.C_drewN ?_ _) | (with_reducible refine Kd.C_drew ?_))); (case side4 => exact (Kd.R_reads' HO313.out).2.1); rintro e w' ⟨rfl, ⟨nd, rfl⟩⟩; refine ⟨_, rfl, ?_⟩))
    go_meet
    case rel => exact ⟨_, (true), (by first | rfl | (simp; done) | (simp [*]; done)), H', ⟨by first | omega | exact Nat.le_refl _⟩, ⟨by (with_reducible repeat (first | apply Kd.R_alloc | apply Kd.R_drewN | apply Kd.R_drew)); exact Kd.R_mono HO313.out (fun _ hk => hk.2)⟩, ⟨by (with_reducible repeat (first | apply Kd.R_alloc | apply Kd.R_drewN | apply Kd.R_drew)); exact Kd.R_mono HO317.out (fun _ hk => trivial)⟩, ⟨by (with_reducible repeat (first | apply Kd.R_alloc | apply Kd.R_drewN | apply Kd.R_drew)); exact Kd.R_mono HO323.out (fun _ hk => hk.2)⟩, ⟨by (with_reducible repeat (first | refine blk_drewN ?_ _ | refine blk_drew ?_ | refine blk_alloc ?_ _)); exact BK303.out⟩, ⟨by repeat (first | (with_reducible first | exact HB.out | apply below_alloc | apply pw_below_drewN | apply below_drew1 | refine below_set ?_ GE303.out) | exact HB.out)⟩⟩
  case rest =>
   clear HC12
   try clear c1
   try clear c2
   try clear p2
   try clear c4
   try clear c5
   try clear c5b0
   try clear c8
   try clear c10
   try clear c11
   try clear c14
   try clear c15
   try clear c16
   try clear c24
   try clear hcz19_0
   try clear hcz19_1
   try clear hcz19_2
   try clear hfz19_0
   try clear hfz19_1
   try clear hfz19_2
   obtain ⟨kq, x46_11, rfl, HA, HJ11, HO_6, HO_8, HO_9, BK303, HB⟩ := hcut
   cases kq with
   | zero => exact absurd HA.out (by simp [laws_FnExactPanelEdges.j0])
   | succ kj11 =>
    have H := HA.out
    clear HA
    simp only [laws_FnExactPanelEdges.j0] at H
    by_cases c29 : x46_11 = true
    ·subst c29
     have H1 : (some false) = some r := by rw [if_pos rfl] at H; exact H
     clear H
     have H := H1
     clear H1
     obtain rfl := Option.some.inj H
     exact absurd HRT.out (by decide)
    ·replace c29 := Bool.eq_false_iff.mpr c29
     subst c29
     have H1 : ((laws_toSpotS.f kj11 l0).bind fun t326 => ((laws_eqSpotS.f kj11 t315 t326).bind fun t329 => (if t329 = true then ((laws_markSpotS.f kj11 t315 1).bind fun bt330 => (if bt330.1 < 0 then (laws_FnExactPanelEdges.j1 kj11 l0 t311 t314 t321 true a1_0 a1_1 a1_2) else ((laws_eqInt64S.f kj11 t321 t311).bind fun t332 => (if t332 = true then (laws_FnExactPanelEdges.j1 kj11 l0 t311 t314 t321 (t324 != t314) a1_0 a1_1 a1_2) else (laws_FnExactPanelEdges.j1 kj11 l0 t311 t314 t321 true a1_0 a1_1 a1_2))))) else (some false)))) = some r := by rw [if_neg (show ¬ (false = true) by decide)] at H; exact H
     clear H
     have H := H1
     clear H1
     replace H := Option.bind_eq_some_iff.mp H
     obtain ⟨t326, A300, H⟩ := H
     replace H : ((laws_eqSpotS.f kj11 t315 t326).bind fun t329 => (if t329 = true then ((laws_markSpotS.f kj11 t315 1).bind fun bt330 => (if bt330.1 < 0 then (laws_FnExactPanelEdges.j1 kj11 l0 t311 t314 t321 true a1_0 a1_1 a1_2) else ((laws_eqInt64S.f kj11 t321 t311).bind fun t332 => (if t332 = true then (laws_FnExactPanelEdges.j1 kj11 l0 t311 t314 t321 (t324 != t314) a1_0 a1_1 a1_2) else (laws_FnExactPanelEdges.j1 kj11 l0 t311 t314 t321 true a1_0 a1_1 a1_2))))) else (some false))) = some r := H
     have A30 := Aside0.mk A300
     clear A300
     replace H := Option.bind_eq_some_iff.mp H
     obtain ⟨t329, A310, H⟩ := H
     replace H : (if t329 = true then ((laws_markSpotS.f kj11 t315 1).bind fun bt330 => (if bt330.1 < 0 then (laws_FnExactPanelEdges.j1 kj11 l0 t311 t314 t321 true a1_0 a1_1 a1_2) else ((laws_eqInt64S.f kj11 t321 t311).bind fun t332 => (if t332 = true then (laws_FnExactPanelEdges.j1 kj11 l0 t311 t314 t321 (t324 != t314) a1_0 a1_1 a1_2) else (laws_FnExactPanelEdges.j1 kj11 l0 t311 t314 t321 true a1_0 a1_1 a1_2))))) else (some false)) = some r := H
     have A31 := Aside0.mk A310
     clear A310
     by_cases c32 : t329 = true
     ·subst c32
      have H1 : ((laws_markSpotS.f kj11 t315 1).bind fun bt330 => (if bt330.1 < 0 then (laws_FnExactPanelEdges.j1 kj11 l0 t311 t314 t321 true a1_0 a1_1 a1_2) else ((laws_eqInt64S.f kj11 t321 t311).bind fun t332 => (if t332 = true then (laws_FnExactPanelEdges.j1 kj11 l0 t311 t314 t321 (t324 != t314) a1_0 a1_1 a1_2) else (laws_FnExactPanelEdges.j1 kj11 l0 t311 t314 t321 true a1_0 a1_1 a1_2))))) = some r := by rw [if_pos rfl] at H; exact H
      clear H
      have H := H1
      clear H1
      replace H := Option.bind_eq_some_iff.mp H
      obtain ⟨⟨t330, t331⟩, A330, H⟩ := H
      replace H : (if t330 < 0 then (laws_FnExactPanelEdges.j1 kj11 l0 t311 t314 t321 true a1_0 a1_1 a1_2) else ((laws_eqInt64S.f kj11 t321 t311).bind fun t332 => (if t332 = true then (laws_FnExactPanelEdges.j1 kj11 l0 t311 t314 t321 (t324 != t314) a1_0 a1_1 a1_2) else (laws_FnExactPanelEdges.j1 kj11 l0 t311 t314 t321 true a1_0 a1_1 a1_2)))) = some r := H
      have A33 := Aside0.mk A330
      clear A330
      have HC34 := Aside0.mk H
      clear H
      go_upto_region 14 with (first | ((with_reducible refine gate_callee (f := 10) rfl ?_); refine goesL_ (some 49) rfl rfl Try.func10 (by kernel_rfl) rfl #[.slice A0 l0.length c0] rfl (by (try simp only [List.map_toArray, List.map_cons, List.map_nil]); first | done | rfl | (simp only [List.length_drop, List.length_take]; rfl)) ?_; (with_reducible refine (laws_toSpotS.calls kj11 _ _ l0 t326 _ ?side1 ?side2 A30.out).mono ?_); (case side1 => repeat (first | exact (Kd.C_below HR0.out HB.out) | (with_reducible refine Kd.C_alloc ?_ _) | (with_reducible refine Kd.C_drewN ?_ _) | (with_reducible refine Kd.C_drew ?_))); (case side2 => exact HC0.out); rintro e w35 ⟨v327, rfl, ho0, hb⟩; refine ⟨_, rfl, ?_⟩; have n0_ := Aside0.mk (Kd.R_below (by (with_reducible repeat (first | apply Kd.R_alloc | apply Kd.R_drewN | apply Kd.R_drew)); exact HO_6.out) hb); have n1_ := Aside0.mk (Kd.R_elder' (by (with_reducible repeat (first | apply Kd.R_alloc | apply Kd.R_drewN | apply Kd.R_drew)); exact HO_8.out) (Kd.R_base ho0) hb); have n2_ := Aside0.mk (Kd.R_below (by (with_reducible repeat (first | apply Kd.R_alloc | apply Kd.R_drewN | apply Kd.R_drew)); exact HO_9.out) hb); have n3_ := Aside0.mk (Kd.R_lower (Kd.R_new' ho0 (Kd.R_lt (by (with_reducible repeat (first | apply Kd.R_alloc | apply Kd.R_drewN | apply Kd.R_drew)); exact HO_8.out))) (below_size (by repeat (first | (with_reducible first | exact HB.out | apply below_alloc | apply pw_below_drewN | apply below_drew1 | refine below_set ?_ GE303.out) | exact HB.out)))); have n4_ := pB BK303 hb; have n5_ := pS HB hb; clear HO_6 HO_8; clear HO_9 BK303 HB; have HO_6 := n0_; have HO_8 := n1_; have HO_9 := n2_; have HO328 := n3_; have BK303 := n4_; have HB := n5_; clear n0_ n1_ n2_ n3_ n4_ n5_; (try clear hb); (try clear hb2); (try clear hk); (try clear hi); (try clear ho0); obtain ⟨Ao36, co36, eo36⟩ := Kd.R_slice HO328.out; subst eo36) | ((with_reducible refine gate_callee (f := 13) rfl ?_); refine goesL_ (some 50) rfl rfl Try.func13 (by kernel_rfl) rfl #[.slice Ao21 t315.length co21, .slice Ao36 t326.length co36] rfl (by (try simp only [List.map_toArray, List.map_cons, List.map_nil]); first | done | rfl | (simp only [List.length_drop, List.length_take]; rfl)) ?_; (with_reducible refine (laws_eqSpotS.calls kj11 _ _ t315 _ _ t326 true _ ?side1 ?side2 ?side3 ?side4 A31.out).mono ?_); (case side1 => repeat (first | exact (Kd.R_reads' HO_8.out).2.2 | (with_reducible refine Kd.C_alloc ?_ _) | (with_reducible refine Kd.C_drewN ?_ _) | (with_reducible refine Kd.C_drew ?_))); (case side2 => exact (Kd.R_reads' HO_8.out).2.1); (case side3 => repeat (first | exact (Kd.R_reads' HO328.out).2.2 | (with_reducible refine Kd.C_alloc ?_ _) | (with_reducible refine Kd.C_drewN ?_ _) | (with_reducible refine Kd.C_drew ?_))); (case side4 => exact (Kd.R_reads' HO328.out).2.1); rintro e w37 ⟨rfl, hb⟩; refine ⟨_, rfl, ?_⟩; have n0_ := Aside0.mk (Kd.R_below (by (with_reducible repeat (first | apply Kd.R_alloc | apply Kd.R_drewN | apply Kd.R_drew)); exact HO_6.out) hb); have n1_ := Aside0.mk (Kd.R_below (by (with_reducible repeat (first | apply Kd.R_alloc | apply Kd.R_drewN | apply Kd.R_drew)); exact HO_8.out) hb); have n2_ := Aside0.mk (Kd.R_below (by (with_reducible repeat (first | apply Kd.R_alloc | apply Kd.R_drewN | apply Kd.R_drew)); exact HO_9.out) hb); have n3_ := Aside0.mk (Kd.R_below (by (with_reducible repeat (first | apply Kd.R_alloc | apply Kd.R_drewN | apply Kd.R_drew)); exact HO328.out) hb); have n4_ := pB BK303 hb; have n5_ := pS HB hb; clear HO_6 HO_8; clear HO_9 HO328; clear BK303 HB; have HO_6 := n0_; have HO_8 := n1_; have HO_9 := n2_; have HO328 := n3_; have BK303 := n4_; have HB := n5_; clear n0_ n1_ n2_ n3_ n4_ n5_; (try clear hb); (try clear hb2); (try clear hk); (try clear hi)) | ((with_reducible refine gate_callee (f := 17) rfl ?_); refine goesL_ (some 54) rfl rfl Try.func17 (by kernel_rfl) rfl #[.slice Ao21 t315.length co21, .int .i64 1] rfl (by (try simp only [List.map_toArray, List.map_cons, List.map_nil]); first | done | rfl | (simp only [List.length_drop, List.length_take]; rfl)) ?_; (with_reducible refine (laws_markSpotS.calls kj11 (fun k_ => some k_ = (.slice Ao21 t315.length co21 : Value).ownBlock) (.slice Ao21 t315.length co21) t315 1 t330 t331 w _ ?side1 ?side2 A33.out).mono ?_); (case side1 => repeat (first | (with_reducible first | exact HB.out | apply below_alloc | apply pw_below_drewN | apply below_drew1 | refine below_set ?_ GE303.out) | exact HB.out)); (case side2 => exact Kd.R_tight rfl HO_8.out); rintro e w38 ⟨rfl, hy0, hb, hkp⟩; refine ⟨_, rfl, ?_⟩; have n0_ := Aside0.mk (Kd.R_mono (ok' := fun k_ => some k_ ≠ (v322 : Value).ownBlock) (Kd.R_keptB ((Kd.R_apart' HO_6.out (Kd.R_typed HO_8.out) (by decide))) hkp (fun k_ hk_ hs_ => (hk_.2) hs_)) (fun k_ hk_ => hk_.1.1)); have n1_ := Aside0.mk (Kd.R_reok rfl hy0 (fun k_ e_ => HO_8.out.1 k_ e_)); have n2_ := Aside0.mk (Kd.R_mono (ok' := fun k_ => some k_ ≠ (v312 : Value).ownBlock) (Kd.R_keptB ((Kd.R_apart' HO_9.out (Kd.R_typed HO_8.out) (by decide))) hkp (fun k_ hk_ hs_ => (hk_.2) hs_)) (fun k_ hk_ => hk_.1.1)); have n3_ := Aside0.mk (blk_kept (by (with_reducible repeat (first | refine blk_drewN ?_ _ | refine blk_drew ?_ | refine blk_alloc ?_ _)); exact BK303.out) hkp (fun hs_ => (fun e_ => (Kd.R_ne HO_8.out BK303.out (by decide)) e_) hs_)); have n4_ := Aside0.mk (Kd.R_mono (ok' := fun k_ => some k_ ≠ (.slice Ao21 t315.length co21 : Value).ownBlock) (Kd.R_keptB (HO328.out) hkp (fun k_ hk_ hs_ => (hk_.2) hs_)) (fun k_ hk_ => hk_.1.2)); have n5_ := Aside0.mk (hb); clear HO_6 HO_8; clear HO_9 BK303; clear HO328 HB; have HO_6 := n0_; have HO_8 := n1_; have HO_9 := n2_; have BK303 := n3_; have HO328 := n4_; have HB := n5_; clear n0_ n1_ n2_ n3_ n4_ n5_; (try clear hb); (try clear hkp); (try clear hy0)))
      (try simp only [Act.put, List.setIfInBounds_toArray, List.set_cons_zero, List.set_cons_succ])
      go_cut [67] (fun v67 wc => ∃ (kq : Nat) (x67_33 : Bool), v67 = .bool x67_33 ∧ Aside0 (laws_FnExactPanelEdges.j1 kq l0 t311 t314 t321 x67_33 a1_0 a1_1 a1_2 = some r) ∧ Aside0 (kq ≤ kj11) ∧ Aside0 (Kd.R (Kd.int .i64) 2 wc w.heap.size (fun k_ => some k_ ≠ (v322 : Value).ownBlock) v312 t311) ∧ Aside0 (Kd.R (Kd.int .i64) 2 wc w.heap.size (fun k_ => some k_ ≠ (v312 : Value).ownBlock) v322 t321) ∧ Aside0 (wc.heap[gb303]? = some (.cells #[.int .i64 a1_0, .int .i64 a1_1, .int .i64 a1_2] 24 (0, 0))) ∧ Aside0 (Below w.heap.size w wc))
      case first =>
       have H := HC34.out
       clear HC34
       by_cases c39 : t330 < 0
       ·rw [if_pos c39] at H
        have c39b0 : decide (t330 < 0) = true := decide_eq_true c39
        clear c39
        (first | rw [c39b0] | (simp only [i64_w, i32_w]; rw [c39b0]) | skip)
        have H' := Aside0.mk H
        clear H
        go_wp2
        go_meet
        case rel => exact ⟨_, (true), (by first | rfl | (simp; done) | (simp [*]; done)), H', ⟨by have := HJ11.out; first | omega | exact Nat.le_refl _⟩, ⟨by (with_reducible repeat (first | apply Kd.R_alloc | apply Kd.R_drewN | apply Kd.R_drew)); exact HO_6.out⟩, ⟨by (with_reducible repeat (first | apply Kd.R_alloc | apply Kd.R_drewN | apply Kd.R_drew)); exact HO_9.out⟩, ⟨by (with_reducible repeat (first | refine blk_drewN ?_ _ | refine blk_drew ?_ | refine blk_alloc ?_ _)); exact BK303.out⟩, ⟨by repeat (first | (with_reducible first | exact HB.out | apply below_alloc | apply pw_below_drewN | apply below_drew1 | refine below_set ?_ GE303.out) | exact HB.out)⟩⟩
       ·rw [if_neg c39] at H
        have c39b0 : decide (t330 < 0) = false := decide_eq_false c39
        clear c39
        (first | rw [c39b0] | (simp only [i64_w, i32_w]; rw [c39b0]) | skip)
        replace H := Option.bind_eq_some_iff.mp H
        obtain ⟨t332, A400, H⟩ := H
        replace H : (if t332 = true then (laws_FnExactPanelEdges.j1 kj11 l0 t311 t314 t321 (t324 != t314) a1_0 a1_1 a1_2) else (laws_FnExactPanelEdges.j1 kj11 l0 t311 t314 t321 true a1_0 a1_1 a1_2)) = some r := H
        have A40 := Aside0.mk A400
        clear A400
        by_cases c41 : t332 = true
        ·subst c41
         have H1 : (laws_FnExactPanelEdges.j1 kj11 l0 t311 t314 t321 (t324 != t314) a1_0 a1_1 a1_2) = some r := by rw [if_pos rfl] at H; exact H
         clear H
         have H := H1
         clear H1
         have H' := Aside0.mk H
         clear H
         obtain ⟨Ao42, co42, eo42⟩ := Kd.R_slice HO_9.out
         subst eo42
         obtain ⟨Ao43, co43, eo43⟩ := Kd.R_slice HO_6.out
         subst eo43
         go_wp2_with (first | (go_at_call 16; (with_reducible refine (laws_eqInt64S.calls kj11 _ _ t321 _ _ t311 true _ ?side1 ?side2 ?side3 ?side4 A40.out).mono ?_); (case side1 => repeat (first | exact (Kd.R_reads' HO_9.out).2.2 | (with_reducible refine Kd.C_alloc ?_ _) | (with_reducible refine Kd.C_drewN ?_ _) | (with_reducible refine Kd.C_drew ?_))); (case side2 => exact (Kd.R_reads' HO_9.out).2.1); (case side3 => repeat (first | exact (Kd.R_reads' HO_6.out).2.2 | (with_reducible refine Kd.C_alloc ?_ _) | (with_reducible refine Kd.C_drewN ?_ _) | (with_reducible refine Kd.C_drew ?_))); (case side4 => exact (Kd.R_reads' HO_6.out).2.1); rintro e w' ⟨rfl, ⟨nd, rfl⟩⟩))
         go_meet
         case rel => exact ⟨_, ((t324 != t314)), (by first | rfl | (simp; done) | (simp [*]; done)), H', ⟨by have := HJ11.out; first | omega | exact Nat.le_refl _⟩, ⟨by (with_reducible repeat (first | apply Kd.R_alloc | apply Kd.R_drewN | apply Kd.R_drew)); exact HO_6.out⟩, ⟨by (with_reducible repeat (first | apply Kd.R_alloc | apply Kd.R_drewN | apply Kd.R_drew)); exact HO_9.out⟩, ⟨by (with_reducible repeat (first | refine blk_drewN ?_ _ | refine blk_drew ?_ | refine blk_alloc ?_ _)); exact BK303.out⟩, ⟨by repeat (first | (with_reducible first | exact HB.out | apply below_alloc | apply pw_below_drewN | apply below_drew1 | refine below_set ?_ GE303.out) | exact HB.out)⟩⟩
        ·replace c41 := Bool.eq_false_iff.mpr c41
         subst c41
         have H1 : (laws_FnExactPanelEdges.j1 kj11 l0 t311 t314 t321 true a1_0 a1_1 a1_2) = some r := by rw [if_neg (show ¬ (false = true) by decide)] at H; exact H
         clear H
         have H := H1
         clear H1
         have H' := Aside0.mk H
         clear H
         obtain ⟨Ao44, co44, eo44⟩ := Kd.R_slice HO_9.out
         subst eo44
         obtain ⟨Ao45, co45, eo45⟩ := Kd.R_slice HO_6.out
         subst eo45
         go_wp2_with (first | (go_at_call 16; (with_reducible refine (laws_eqInt64S.calls kj11 _ _ t321 _ _ t311 false _ ?side1 ?side2 ?side3 ?side4 A40.out).mono ?_); (case side1 => repeat (first | exact (Kd.R_reads' HO_9.out).2.2 | (with_reducible refine Kd.C_alloc ?_ _) | (with_reducible refine Kd.C_drewN ?_ _) | (with_reducible refine Kd.C_drew ?_))); (case side2 => exact (Kd.R_reads' HO_9.out).2.1); (case side3 => repeat (first | exact (Kd.R_reads' HO_6.out).2.2 | (with_reducible refine Kd.C_alloc ?_ _) | (with_reducible refine Kd.C_drewN ?_ _) | (with_reducible refine Kd.C_drew ?_))); (case side4 => exact (Kd.R_reads' HO_6.out).2.1); rintro e w' ⟨rfl, ⟨nd, rfl⟩⟩))
         go_meet
         case rel => exact ⟨_, (true), (by first | rfl | (simp; done) | (simp [*]; done)), H', ⟨by have := HJ11.out; first | omega | exact Nat.le_refl _⟩, ⟨by (with_reducible repeat (first | apply Kd.R_alloc | apply Kd.R_drewN | apply Kd.R_drew)); exact HO_6.out⟩, ⟨by (with_reducible repeat (first | apply Kd.R_alloc | apply Kd.R_drewN | apply Kd.R_drew)); exact HO_9.out⟩, ⟨by (with_reducible repeat (first | refine blk_drewN ?_ _ | refine blk_drew ?_ | refine blk_alloc ?_ _)); exact BK303.out⟩, ⟨by repeat (first | (with_reducible first | exact HB.out | apply below_alloc | apply pw_below_drewN | apply below_drew1 | refine below_set ?_ GE303.out) | exact HB.out)⟩⟩
      case rest =>
       clear HC34
       try clear c1
       try clear c2
       try clear p2
       try clear c3
       try clear c4
       try clear c5
       try clear c5b0
       try clear c8
       try clear c10
       try clear c11
       try clear c13
       try clear c14
       try clear c15
       try clear c16
       try clear c17
       try clear c24
       try clear c29
       try clear c32
       try clear c39
       try clear c39b0
       try clear c41
       try clear hcz19_0
       try clear hcz19_1
       try clear hcz19_2
       try clear hfz19_0
       try clear hfz19_1
       try clear hfz19_2
       try clear p2
       obtain ⟨kq, x67_33, rfl, HA, HJ33, HO_6, HO_9, BK303, HB⟩ := hcut
       cases kq with
       | zero => exact absurd HA.out (by simp [laws_FnExactPanelEdges.j1])
       | succ kj33 =>
        have H := HA.out
        clear HA
        simp only [laws_FnExactPanelEdges.j1] at H
        by_cases c46 : x67_33 = true
        ·subst c46
         have H1 : (some false) = some r := by rw [if_pos rfl] at H; exact H
         clear H
         have H := H1
         clear H1
         obtain rfl := Option.some.inj H
         exact absurd HRT.out (by decide)
        ·replace c46 := Bool.eq_false_iff.mpr c46
         subst c46
         have H1 : ((laws_markInt64S.f kj33 t321 1).bind fun bt333 => ((laws_heldInt64S.f kj33 bt333.2 1).bind fun t335 => (if t335 < 0 then (some false) else (if t335 = bt333.1 then ((laws_toSpotS.f kj33 l0).bind fun t336 => ((laws_toWeave.f a1_0 a1_1 a1_2).bind fun bt339 => ((impl_PanelEdges.f kj33 t336 bt339.1 bt339.2.1 bt339.2.2).bind fun bt342 => ((laws_eqInt64S.f kj33 bt342.1 t311).bind fun t346 => (if t346 = true then (laws_FnExactPanelEdges.j2 kj33 bt333.2 bt333.1 (bt342.2 != t314)) else (laws_FnExactPanelEdges.j2 kj33 bt333.2 bt333.1 true)))))) else (some false))))) = some r := by rw [if_neg (show ¬ (false = true) by decide)] at H; exact H
         clear H
         have H := H1
         clear H1
         replace H := Option.bind_eq_some_iff.mp H
         obtain ⟨⟨t333, t334⟩, A470, H⟩ := H
         replace H : ((laws_heldInt64S.f kj33 t334 1).bind fun t335 => (if t335 < 0 then (some false) else (if t335 = t333 then ((laws_toSpotS.f kj33 l0).bind fun t336 => ((laws_toWeave.f a1_0 a1_1 a1_2).bind fun bt339 => ((impl_PanelEdges.f kj33 t336 bt339.1 bt339.2.1 bt339.2.2).bind fun bt342 => ((laws_eqInt64S.f kj33 bt342.1 t311).bind fun t346 => (if t346 = true then (laws_FnExactPanelEdges.j2 kj33 t334 t333 (bt342.2 != t314)) else (laws_FnExactPanelEdges.j2 kj33 t334 t333 true)))))) else (some false)))) = some r := H
         have A47 := Aside0.mk A470
         clear A470
         replace H := Option.bind_eq_some_iff.mp H
         obtain ⟨t335, A480, H⟩ := H
         replace H : (if t335 < 0 then (some false) else (if t335 = t333 then ((laws_toSpotS.f kj33 l0).bind fun t336 => ((laws_toWeave.f a1_0 a1_1 a1_2).bind fun bt339 => ((impl_PanelEdges.f kj33 t336 bt339.1 bt339.2.1 bt339.2.2).bind fun bt342 => ((laws_eqInt64S.f kj33 bt342.1 t311).bind fun t346 => (if t346 = true then (laws_FnExactPanelEdges.j2 kj33 t334 t333 (bt342.2 != t314)) else (laws_FnExactPanelEdges.j2 kj33 t334 t333 true)))))) else (some false))) = some r := H
         have A48 := Aside0.mk A480
         clear A480
         by_cases c49 : t335 < 0
         ·rw [if_pos c49] at H
          have c49b0 : decide (t335 < 0) = true := decide_eq_true c49
          clear c49
          obtain rfl := Option.some.inj H
          exact absurd HRT.out (by decide)
         ·rw [if_neg c49] at H
          have c49b0 : decide (t335 < 0) = false := decide_eq_false c49
          clear c49
          by_cases c50 : t335 = t333
          ·rw [if_pos c50] at H
           have c50b0 : (t335 == t333) = true := beq_iff_eq.mpr c50
           have c50b1 : (t335 != t333) = false := bne_eq_false_iff_eq.mpr c50
           clear c50
           replace H := Option.bind_eq_some_iff.mp H
           obtain ⟨t336, A510, H⟩ := H
           replace H : ((laws_toWeave.f a1_0 a1_1 a1_2).bind fun bt339 => ((impl_PanelEdges.f kj33 t336 bt339.1 bt339.2.1 bt339.2.2).bind fun bt342 => ((laws_eqInt64S.f kj33 bt342.1 t311).bind fun t346 => (if t346 = true then (laws_FnExactPanelEdges.j2 kj33 t334 t333 (bt342.2 != t314)) else (laws_FnExactPanelEdges.j2 kj33 t334 t333 true))))) = some r := H
           have A51 := Aside0.mk A510
           clear A510
           replace H := Option.bind_eq_some_iff.mp H
           obtain ⟨⟨t339, t340, t341⟩, A520, H⟩ := H
           replace H : ((impl_PanelEdges.f kj33 t336 t339 t340 t341).bind fun bt342 => ((laws_eqInt64S.f kj33 bt342.1 t311).bind fun t346 => (if t346 = true then (laws_FnExactPanelEdges.j2 kj33 t334 t333 (bt342.2 != t314)) else (laws_FnExactPanelEdges.j2 kj33 t334 t333 true)))) = some r := H
           have A52 := Aside0.mk A520
           clear A520
           replace H := Option.bind_eq_some_iff.mp H
           obtain ⟨⟨t342, t345⟩, A530, H⟩ := H
           replace H : ((laws_eqInt64S.f kj33 t342 t311).bind fun t346 => (if t346 = true then (laws_FnExactPanelEdges.j2 kj33 t334 t333 (t345 != t314)) else (laws_FnExactPanelEdges.j2 kj33 t334 t333 true))) = some r := H
           have A53 := Aside0.mk A530
           clear A530
           have HC54 := Aside0.mk H
           clear H
           obtain ⟨Ao55, co55, eo55⟩ := Kd.R_slice HO_9.out
           subst eo55
           try go_wp2_with (first | ((with_reducible refine gate_callee (f := 18) rfl ?_); refine goesL_ (some 70) rfl rfl Try.func18 (by kernel_rfl) rfl #[.slice Ao55 t321.length co55, .int .i64 1] rfl (by (try simp only [List.map_toArray, List.map_cons, List.map_nil]); first | done | rfl | (simp only [List.length_drop, List.length_take]; rfl)) ?_; (with_reducible refine (laws_markInt64S.calls kj33 (fun k_ => some k_ = (.slice Ao55 t321.length co55 : Value).ownBlock) (.slice Ao55 t321.length co55) t321 1 t333 t334 w _ ?side1 ?side2 A47.out).mono ?_); (case side1 => repeat (first | (with_reducible first | exact HB.out | apply below_alloc | apply pw_below_drewN | apply below_drew1 | refine below_set ?_ GE303.out) | exact HB.out)); (case side2 => exact Kd.R_tight rfl HO_9.out); rintro e w56 ⟨rfl, hy0, hb, hkp⟩; refine ⟨_, rfl, ?_⟩; have n0_ := Aside0.mk (Kd.R_mono (ok' := fun k_ => some k_ ≠ (.slice Ao55 t321.length co55 : Value).ownBlock) (Kd.R_keptB (HO_6.out) hkp (fun k_ hk_ hs_ => (hk_) hs_)) (fun k_ hk_ => hk_.1)); have n1_ := Aside0.mk (Kd.R_reok rfl hy0 (fun k_ e_ => HO_9.out.1 k_ e_)); have n2_ := Aside0.mk (blk_kept (by (with_reducible repeat (first | refine blk_drewN ?_ _ | refine blk_drew ?_ | refine blk_alloc ?_ _)); exact BK303.out) hkp (fun hs_ => (fun e_ => (Kd.R_ne HO_9.out BK303.out (by decide)) e_) hs_)); have n3_ := Aside0.mk (hb); clear HO_6 HO_9; clear BK303 HB; have HO_6 := n0_; have HO_9 := n1_; have BK303 := n2_; have HB := n3_; clear n0_ n1_ n2_ n3_; (try clear hb); (try clear hkp); (try clear hy0)) | ((with_reducible refine gate_callee (f := 19) rfl ?_); refine goesL_ (some 73) rfl rfl Try.func19 (by kernel_rfl) rfl #[.slice Ao55 t334.length co55, .int .i64 1] rfl (by (try simp only [List.map_toArray, List.map_cons, List.map_nil]); first | done | (rw [show t334.length = t321.length from (Kd.R_reads' HO_9.out).1.symm] <;> rfl) | rfl | (simp only [List.length_drop, List.length_take]; rfl)) ?_; (with_reducible refine (laws_heldInt64S.calls kj33 _ _ t334 1 t335 _ ?side1 ?side2 A48.out).mono ?_); (case side1 => repeat (first | exact (Kd.R_reads' HO_9.out).2.2 | (with_reducible refine Kd.C_alloc ?_ _) | (with_reducible refine Kd.C_drewN ?_ _) | (with_reducible refine Kd.C_drew ?_))); (case side2 => rw [show t334.length = t321.length from (Kd.R_reads' HO_9.out).1.symm]; exact (Kd.R_reads' HO_9.out).2.1); rintro e w' ⟨rfl, ⟨nd, rfl⟩⟩; refine ⟨_, rfl, ?_⟩))
           (try (rw [drewN_self w56]; generalize hq_ : World.drewN w56 _ = w56; have n0_ : Aside0 (Kd.R (Kd.int .i64) 2 w56 w.heap.size (fun k_ => some k_ ≠ (.slice Ao55 t321.length co55 : Value).ownBlock) v312 t311) := ⟨by rw [← hq_]; exact (by (with_reducible repeat (first | apply Kd.R_alloc | apply Kd.R_drewN | apply Kd.R_drew)); exact HO_6.out)⟩; have n1_ : Aside0 (Kd.R (Kd.int .i64) 2 w56 w.heap.size (fun k_ => some k_ ≠ (v312 : Value).ownBlock) (.slice Ao55 t321.length co55) t334) := ⟨by rw [← hq_]; exact (by (with_reducible repeat (first | apply Kd.R_alloc | apply Kd.R_drewN | apply Kd.R_drew)); exact HO_9.out)⟩; have n2_ : Aside0 (w56.heap[gb303]? = some (.cells #[.int .i64 a1_0, .int .i64 a1_1, .int .i64 a1_2] 24 (0, 0))) := ⟨by rw [← hq_]; exact (by (with_reducible repeat (first | refine blk_drewN ?_ _ | refine blk_drew ?_ | refine blk_alloc ?_ _)); exact BK303.out)⟩; have n3_ : Aside0 (Below w.heap.size w w56) := ⟨by rw [← hq_]; exact (by repeat (first | (with_reducible first | exact HB.out | apply below_alloc | apply pw_below_drewN | apply below_drew1 | refine below_set ?_ GE303.out) | exact HB.out))⟩; clear HO_6 HO_9 BK303 HB hq_; have HO_6 := n0_; have HO_9 := n1_; have BK303 := n2_; have HB := n3_; clear n0_ n1_ n2_ n3_))
           have n0_ := Aside0.mk (Kd.R_drew HO_6.out)
           have n1_ := Aside0.mk (Kd.R_drew HO_9.out)
           have n2_ := Aside0.mk (blk_drew BK303.out)
           have n3_ := Aside0.mk (below_drew1 HB.out)
           clear HO_6
           clear HO_9
           clear BK303
           clear HB
           have HO_6 := n0_
           have HO_9 := n1_
           have BK303 := n2_
           have HB := n3_
           clear n0_ n1_ n2_ n3_
           refine start_ (n := 10) (S := fun w' => w'.cell? ⟨gb303, 0, none⟩ = some (.int .i64 a1_0) ∧ w'.cell? ⟨gb303, 1, none⟩ = some (.int .i64 a1_1) ∧ w'.cell? ⟨gb303, 2, none⟩ = some (.int .i64 a1_2)) (ds := []) #[F,F,F,F,F,F,F,F,F,F] (by kernel_rfl) rfl rfl ⟨(blk_cell BK303.out 0).trans rfl, (blk_cell BK303.out 1).trans rfl, (blk_cell BK303.out 2).trans rfl⟩ (fun hHeld => ?_); refine with_tabW laws_FnExactPanelEdges.tab24 laws_FnExactPanelEdges.bits24 (fun HT_ HW_ => ?_)
           generalize w56.drew = w57 at HO_6 HO_9 BK303 HB hHeld ⊢
           refine pure_ (i := 0) (N := some 80) (v := ?_) (a' := ?_) #[T,F,F,F,F,F,F,F,F,F] rfl rfl (any_of HT_.out (by kernel_rfl)) (fun _ _ _ h => h) (Or.inl ⟨by rfl, ?_⟩) ?_ ?_
           rotate_left
           ·intro w'
            go_simp
            with_reducible rfl
           rotate_left
           ·simp only [NS]
            rfl
           refine take_ (i := 2) (N := some 82) (v := ?_) (a' := ?_) #[T,F,T,F,F,F,F,F,F,F] rfl rfl (take_ofW HT_.out HW_.out (by kernel_rfl)) (fun _ _ _ h => h) (Or.inl ⟨by rfl, ?_⟩) hHeld ?_ ?_
           rotate_left
           ·rintro w' ⟨s0, s1, s2⟩
            go_simp
            with_reducible rfl
           rotate_left
           ·simp only [NS]
            rfl
           refine one_ (i := 1) (N := some 81) #[T,T,T,F,F,F,F,F,F,F] rfl rfl (one_of HT_.out (by kernel_rfl)) (by decide) (fun K hK => ?_)
           refine goes_ Try.func10 (by kernel_rfl) rfl #[.slice A0 l0.length c0] (by rfl) rfl rfl (by (try simp only [List.map_toArray, List.map_cons, List.map_nil]); first | done | rfl | (simp only [List.length_drop, List.length_take]; rfl)) ?_
           with_reducible refine (laws_toSpotS.calls kj33 _ _ l0 t336 _ ?side1 ?side2 A51.out).mono ?_
           (case side1 => repeat (first | exact (Kd.C_below HR0.out HB.out) | (with_reducible refine Kd.C_alloc ?_ _) | (with_reducible refine Kd.C_drewN ?_ _) | (with_reducible refine Kd.C_drew ?_)))
           (case side2 => exact HC0.out)
           rintro e w58 ⟨v337, rfl, ho0, hb⟩
           refine ⟨_, rfl, ?_⟩
           have n0_ := Aside0.mk (Kd.R_below (by (with_reducible repeat (first | apply Kd.R_alloc | apply Kd.R_drewN | apply Kd.R_drew)); exact HO_6.out) hb)
           have n1_ := Aside0.mk (Kd.R_below (by (with_reducible repeat (first | apply Kd.R_alloc | apply Kd.R_drewN | apply Kd.R_drew)); exact HO_9.out) hb)
           have n2_ := Aside0.mk (Kd.R_lower ho0 (below_size (by repeat (first | (with_reducible first | exact HB.out | apply below_alloc | apply pw_below_drewN | apply below_drew1 | refine below_set ?_ GE303.out) | exact HB.out))))
           have n3_ := pB BK303 hb
           have n4_ := pS HB hb
           clear HO_6
           clear HO_9
           clear BK303
           clear HB
           have HO_6 := n0_
           have HO_9 := n1_
           have HO338 := n2_
           have BK303 := n3_
           have HB := n4_
           clear n0_ n1_ n2_ n3_ n4_
           (try clear hb)
           (try clear hb2)
           (try clear hk)
           (try clear hi)
           (try clear ho0)
           refine hK.out _ _ ⟨(blk_cell BK303.out 0).trans rfl, (blk_cell BK303.out 1).trans rfl, (blk_cell BK303.out 2).trans rfl⟩ (fun hHeld => ?_)
           clear hK K
           refine norm_ (a' := ?_) ?_ ?_
           rotate_left
           ·show Act.put _ (some 81) _ = _
            simp only [NS]
            rfl
           refine one_ (i := 3) (N := some 83) #[T,T,T,T,F,F,F,F,F,F] rfl rfl (one_of HT_.out (by kernel_rfl)) (by decide) (fun K hK => ?_)
           refine goes_ Try.func11 (by kernel_rfl) rfl #[.agg #[.int .i64 a1_0, .int .i64 a1_1, .int .i64 a1_2]] (by rfl) rfl rfl (by (try simp only [List.map_toArray, List.map_cons, List.map_nil]); first | done | rfl | (simp only [List.length_drop, List.length_take]; rfl)) ?_
           with_reducible refine (laws_toWeave.calls a1_0 a1_1 a1_2 t339 t340 t341 _ A52.out).mono ?_
           rintro e w59 ⟨rfl, hb⟩
           refine ⟨_, rfl, ?_⟩
           have n0_ := Aside0.mk (Kd.R_below (by (with_reducible repeat (first | apply Kd.R_alloc | apply Kd.R_drewN | apply Kd.R_drew)); exact HO_6.out) hb)
           have n1_ := Aside0.mk (Kd.R_below (by (with_reducible repeat (first | apply Kd.R_alloc | apply Kd.R_drewN | apply Kd.R_drew)); exact HO_9.out) hb)
           have n2_ := Aside0.mk (Kd.R_below (by (with_reducible repeat (first | apply Kd.R_alloc | apply Kd.R_drewN | apply Kd.R_drew)); exact HO338.out) hb)
           have n3_ := pB BK303 hb
           have n4_ := pS HB hb
           clear HO_6
           clear HO_9
           clear HO338
           clear BK303
           clear HB
           have HO_6 := n0_
           have HO_9 := n1_
           have HO338 := n2_
           have BK303 := n3_
           have HB := n4_
           clear n0_ n1_ n2_ n3_ n4_
           (try clear hb)
           (try clear hb2)
           (try clear hk)
           (try clear hi)
           obtain ⟨Ao60, co60, eo60⟩ := Kd.R_slice HO338.out
           (first | subst eo60 | (injection eo60 with f1_ f2_ f3_; have f4_ := f1_.symm; have f5_ := f3_.symm; clear f1_ f2_ f3_; subst f4_; subst f5_))
           refine hK.out _ _ ⟨(blk_cell BK303.out 0).trans rfl, (blk_cell BK303.out 1).trans rfl, (blk_cell BK303.out 2).trans rfl⟩ (fun hHeld => ?_)
           clear hK K
           refine norm_ (a' := ?_) ?_ ?_
           rotate_left
           ·show Act.put _ (some 83) _ = _
            simp only [NS]
            rfl
           refine one_ (i := 4) (N := some 84) #[T,T,T,T,T,F,F,F,F,F] rfl rfl (one_of HT_.out (by kernel_rfl)) (by decide) (fun K hK => ?_)
           refine goes_ Try.func15 (by kernel_rfl) rfl #[.slice Ao60 t336.length co60, .agg #[.int .i64 t339, .int .i64 t340, .int .i64 t341]] (by rfl) rfl rfl (by (try simp only [List.map_toArray, List.map_cons, List.map_nil]); first | done | rfl | (simp only [List.length_drop, List.length_take]; rfl)) ?_
           with_reducible refine (impl_PanelEdges.calls kj33 _ _ t336 t339 t340 t341 t342 t345 _ ?side1 ?side2 A53.out).mono ?_
           (case side1 => repeat (first | exact (Kd.R_reads' HO338.out).2.2 | (with_reducible refine Kd.C_alloc ?_ _) | (with_reducible refine Kd.C_drewN ?_ _) | (with_reducible refine Kd.C_drew ?_)))
           (case side2 => exact (Kd.R_reads' HO338.out).2.1)
           rintro e w61 ⟨v343, rfl, ho0, hb⟩
           refine ⟨_, rfl, ?_⟩
           have n0_ := Aside0.mk (Kd.R_elder' (by (with_reducible repeat (first | apply Kd.R_alloc | apply Kd.R_drewN | apply Kd.R_drew)); exact HO_6.out) (Kd.R_base ho0) hb)
           have n1_ := Aside0.mk (Kd.R_elder' (by (with_reducible repeat (first | apply Kd.R_alloc | apply Kd.R_drewN | apply Kd.R_drew)); exact HO_9.out) (Kd.R_base ho0) hb)
           have n2_ := Aside0.mk (Kd.R_below (by (with_reducible repeat (first | apply Kd.R_alloc | apply Kd.R_drewN | apply Kd.R_drew)); exact HO338.out) hb)
           have n3_ := Aside0.mk (Kd.R_lower (Kd.R_new' (Kd.R_new' ho0 (Kd.R_lt (by (with_reducible repeat (first | apply Kd.R_alloc | apply Kd.R_drewN | apply Kd.R_drew)); exact HO_6.out))) (Kd.R_lt (by (with_reducible repeat (first | apply Kd.R_alloc | apply Kd.R_drewN | apply Kd.R_drew)); exact HO_9.out))) (below_size (by repeat (first | (with_reducible first | exact HB.out | apply below_alloc | apply pw_below_drewN | apply below_drew1 | refine below_set ?_ GE303.out) | exact HB.out))))
           have n4_ := pB BK303 hb
           have n5_ := pS HB hb
           clear HO_6
           clear HO_9
           clear HO338
           clear BK303
           clear HB
           have HO_6 := n0_
           have HO_9 := n1_
           have HO338 := n2_
           have HO344 := n3_
           have BK303 := n4_
           have HB := n5_
           clear n0_ n1_ n2_ n3_ n4_ n5_
           (try clear hb)
           (try clear hb2)
           (try clear hk)
           (try clear hi)
           (try clear ho0)
           refine hK.out _ _ ⟨(blk_cell BK303.out 0).trans rfl, (blk_cell BK303.out 1).trans rfl, (blk_cell BK303.out 2).trans rfl⟩ (fun hHeld => ?_)
           clear hK K
           refine norm_ (a' := ?_) ?_ ?_
           rotate_left
           ·show Act.put _ (some 84) _ = _
            simp only [NS]
            rfl
           refine pure_ (i := 5) (N := some 79) (v := ?_) (a' := ?_) #[T,T,T,T,T,T,F,F,F,F] rfl rfl (any_of HT_.out (by kernel_rfl)) (fun _ _ _ h => h) (Or.inl ⟨by rfl, ?_⟩) ?_ ?_
           rotate_left
           ·intro w'
            go_simp
            with_reducible rfl
           rotate_left
           ·simp only [NS]
            rfl
           refine pure_ (i := 6) (N := some 85) (v := ?_) (a' := ?_) #[T,T,T,T,T,T,T,F,F,F] rfl rfl (any_of HT_.out (by kernel_rfl)) (fun _ _ _ h => h) (Or.inl ⟨by rfl, ?_⟩) ?_ ?_
           rotate_left
           ·intro w'
            go_simp
            with_reducible rfl
           rotate_left
           ·simp only [NS]
            rfl
           refine pure_ (i := 7) (N := some 86) (v := ?_) (a' := ?_) #[T,T,T,T,T,T,T,T,F,F] rfl rfl (any_of HT_.out (by kernel_rfl)) (fun _ _ _ h => h) (Or.inl ⟨by rfl, ?_⟩) ?_ ?_
           rotate_left
           ·intro w'
            go_simp
            with_reducible rfl
           rotate_left
           ·simp only [NS]
            rfl
           refine pure_ (i := 8) (N := some 14) (v := ?_) (a' := ?_) #[T,T,T,T,T,T,T,T,T,F] rfl rfl (any_of HT_.out (by kernel_rfl)) (fun _ _ _ h => h) (Or.inl ⟨by rfl, ?_⟩) ?_ ?_
           rotate_left
           ·intro w'
            go_simp
            with_reducible rfl
           rotate_left
           ·simp only [NS]
            rfl
           refine pure_ (i := 9) (N := some 15) (v := ?_) (a' := ?_) #[T,T,T,T,T,T,T,T,T,T] rfl rfl (any_of HT_.out (by kernel_rfl)) (fun _ _ _ h => h) (Or.inl ⟨by rfl, ?_⟩) ?_ ?_
           rotate_left
           ·intro w'
            go_simp
            with_reducible rfl
           rotate_left
           ·simp only [NS]
            rfl
           refine done_ (done_of HT_.out (by kernel_rfl)) ?_
           go_upto_region 25 with (fail)
           go_cut [95] (fun v95 wc => ∃ (kq : Nat) (x95_53 : Bool), v95 = .bool x95_53 ∧ Aside0 (laws_FnExactPanelEdges.j2 kq t334 t333 x95_53 = some r) ∧ Aside0 (kq ≤ kj33) ∧ Aside0 (Kd.R (Kd.int .i64) 2 wc w.heap.size (fun _ => True) (.slice Ao55 t321.length co55) t334) ∧ Aside0 (wc.heap[gb303]? = some (.cells #[.int .i64 a1_0, .int .i64 a1_1, .int .i64 a1_2] 24 (0, 0))) ∧ Aside0 (Below w.heap.size w wc))
           case first =>
            have H := HC54.out
            clear HC54
            replace H := Option.bind_eq_some_iff.mp H
            obtain ⟨t346, A620, H⟩ := H
            replace H : (if t346 = true then (laws_FnExactPanelEdges.j2 kj33 t334 t333 (t345 != t314)) else (laws_FnExactPanelEdges.j2 kj33 t334 t333 true)) = some r := H
            have A62 := Aside0.mk A620
            clear A620
            by_cases c63 : t346 = true
            ·subst c63
             have H1 : (laws_FnExactPanelEdges.j2 kj33 t334 t333 (t345 != t314)) = some r := by rw [if_pos rfl] at H; exact H
             clear H
             have H := H1
             clear H1
             have H' := Aside0.mk H
             clear H
             obtain ⟨Ao64, co64, eo64⟩ := Kd.R_slice HO344.out
             subst eo64
             obtain ⟨Ao65, co65, eo65⟩ := Kd.R_slice HO_6.out
             subst eo65
             go_wp2_with (first | ((with_reducible refine gate_callee (f := 16) rfl ?_); refine goesL_ (some 89) rfl rfl Try.func16 (by kernel_rfl) rfl #[.slice Ao64 t342.length co64, .slice Ao65 t311.length co65] rfl (by (try simp only [List.map_toArray, List.map_cons, List.map_nil]); first | done | rfl | (simp only [List.length_drop, List.length_take]; rfl)) ?_; (with_reducible refine (laws_eqInt64S.calls kj33 _ _ t342 _ _ t311 true _ ?side1 ?side2 ?side3 ?side4 A62.out).mono ?_); (case side1 => repeat (first | exact (Kd.R_reads' HO344.out).2.2 | (with_reducible refine Kd.C_alloc ?_ _) | (with_reducible refine Kd.C_drewN ?_ _) | (with_reducible refine Kd.C_drew ?_))); (case side2 => exact (Kd.R_reads' HO344.out).2.1); (case side3 => repeat (first | exact (Kd.R_reads' HO_6.out).2.2 | (with_reducible refine Kd.C_alloc ?_ _) | (with_reducible refine Kd.C_drewN ?_ _) | (with_reducible refine Kd.C_drew ?_))); (case side4 => exact (Kd.R_reads' HO_6.out).2.1); rintro e w' ⟨rfl, ⟨nd, rfl⟩⟩; refine ⟨_, rfl, ?_⟩))
             go_meet
             case rel => exact ⟨_, ((t345 != t314)), (by first | rfl | (simp; done) | (simp [*]; done)), H', ⟨by have := HJ11.out; have := HJ33.out; first | omega | exact Nat.le_refl _⟩, ⟨by (with_reducible repeat (first | apply Kd.R_alloc | apply Kd.R_drewN | apply Kd.R_drew)); exact Kd.R_mono HO_9.out (fun _ hk => trivial)⟩, ⟨by (with_reducible repeat (first | refine blk_drewN ?_ _ | refine blk_drew ?_ | refine blk_alloc ?_ _)); exact BK303.out⟩, ⟨by repeat (first | (with_reducible first | exact HB.out | apply below_alloc | apply pw_below_drewN | apply below_drew1 | refine below_set ?_ GE303.out) | exact HB.out)⟩⟩
            ·replace c63 := Bool.eq_false_iff.mpr c63
             subst c63
             have H1 : (laws_FnExactPanelEdges.j2 kj33 t334 t333 true) = some r := by rw [if_neg (show ¬ (false = true) by decide)] at H; exact H
             clear H
             have H := H1
             clear H1
             have H' := Aside0.mk H
             clear H
             obtain ⟨Ao66, co66, eo66⟩ := Kd.R_slice HO344.out
             subst eo66
             obtain ⟨Ao67, co67, eo67⟩ := Kd.R_slice HO_6.out
             subst eo67
             go_wp2_with (first | ((with_reducible refine gate_callee (f := 16) rfl ?_); refine goesL_ (some 89) rfl rfl Try.func16 (by kernel_rfl) rfl #[.slice Ao66 t342.length co66, .slice Ao67 t311.length co67] rfl (by (try simp only [List.map_toArray, List.map_cons, List.map_nil]); first | done | rfl | (simp only [List.length_drop, List.length_take]; rfl)) ?_; (with_reducible refine (laws_eqInt64S.calls kj33 _ _ t342 _ _ t311 false _ ?side1 ?side2 ?side3 ?side4 A62.out).mono ?_); (case side1 => repeat (first | exact (Kd.R_reads' HO344.out).2.2 | (with_reducible refine Kd.C_alloc ?_ _) | (with_reducible refine Kd.C_drewN ?_ _) | (with_reducible refine Kd.C_drew ?_))); (case side2 => exact (Kd.R_reads' HO344.out).2.1); (case side3 => repeat (first | exact (Kd.R_reads' HO_6.out).2.2 | (with_reducible refine Kd.C_alloc ?_ _) | (with_reducible refine Kd.C_drewN ?_ _) | (with_reducible refine Kd.C_drew ?_))); (case side4 => exact (Kd.R_reads' HO_6.out).2.1); rintro e w' ⟨rfl, ⟨nd, rfl⟩⟩; refine ⟨_, rfl, ?_⟩))
             go_meet
             case rel => exact ⟨_, (true), (by first | rfl | (simp; done) | (simp [*]; done)), H', ⟨by have := HJ11.out; have := HJ33.out; first | omega | exact Nat.le_refl _⟩, ⟨by (with_reducible repeat (first | apply Kd.R_alloc | apply Kd.R_drewN | apply Kd.R_drew)); exact Kd.R_mono HO_9.out (fun _ hk => trivial)⟩, ⟨by (with_reducible repeat (first | refine blk_drewN ?_ _ | refine blk_drew ?_ | refine blk_alloc ?_ _)); exact BK303.out⟩, ⟨by repeat (first | (with_reducible first | exact HB.out | apply below_alloc | apply pw_below_drewN | apply below_drew1 | refine below_set ?_ GE303.out) | exact HB.out)⟩⟩
           case rest =>
            clear HC54
            try clear c1
            try clear c2
            try clear p2
            try clear c3
            try clear c4
            try clear c5
            try clear c5b0
            try clear c6
            try clear c8
            try clear c10
            try clear c11
            try clear c13
            try clear c14
            try clear c15
            try clear c16
            try clear c17
            try clear c18
            try clear c19
            try clear c24
            try clear c29
            try clear c32
            try clear c39
            try clear c39b0
            try clear c41
            try clear c46
            try clear c49
            try clear c49b0
            try clear c50
            try clear c50b0
            try clear c50b1
            try clear c63
            try clear hcz19_0
            try clear hcz19_1
            try clear hcz19_2
            try clear hfz19_0
            try clear hfz19_1
            try clear hfz19_2
            try clear p2
            obtain ⟨kq, x95_53, rfl, HA, HJ53, HO_9, BK303, HB⟩ := hcut
            have hl9_53 := (Kd.R_reads' HO_9.out).1
            rw [hl9_53] at HO_9
            (try simp only [hl9_53])
            (try simp only [hl9_53] at BK303)
            cases kq with
            | zero => exact absurd HA.out (by simp [laws_FnExactPanelEdges.j2])
            | succ kj53 =>
             have H := HA.out
             clear HA
             simp only [laws_FnExactPanelEdges.j2] at H
             by_cases c68 : x95_53 = true
             ·subst c68
              have H1 : (some false) = some r := by rw [if_pos rfl] at H; exact H
              clear H
              have H := H1
              clear H1
              obtain rfl := Option.some.inj H
              exact absurd HRT.out (by decide)
             ·replace c68 := Bool.eq_false_iff.mpr c68
              subst c68
              have H1 : ((laws_heldInt64S.f kj53 t334 1).bind fun t347 => (if t347 < 0 then (some false) else (if t347 = t333 then (some true) else (some false)))) = some r := by rw [if_neg (show ¬ (false = true) by decide)] at H; exact H
              clear H
              have H := H1
              clear H1
              replace H := Option.bind_eq_some_iff.mp H
              obtain ⟨t347, A690, H⟩ := H
              replace H : (if t347 < 0 then (some false) else (if t347 = t333 then (some true) else (some false))) = some r := H
              have A69 := Aside0.mk A690
              clear A690
              by_cases c70 : t347 < 0
              ·rw [if_pos c70] at H
               have c70b0 : decide (t347 < 0) = true := decide_eq_true c70
               clear c70
               obtain rfl := Option.some.inj H
               exact absurd HRT.out (by decide)
              ·rw [if_neg c70] at H
               have c70b0 : decide (t347 < 0) = false := decide_eq_false c70
               clear c70
               by_cases c71 : t347 = t333
               ·rw [if_pos c71] at H
                have c71b0 : (t347 == t333) = true := beq_iff_eq.mpr c71
                have c71b1 : (t347 != t333) = false := bne_eq_false_iff_eq.mpr c71
                clear c71
                obtain rfl := Option.some.inj H
                simp only [Option.some.injEq, Prod.mk.injEq] at H
                obtain ⟨rfl⟩ := H
                go_wp2_with (first | ((with_reducible refine gate_callee (f := 19) rfl ?_); refine goesL_ (some 98) rfl rfl Try.func19 (by kernel_rfl) rfl #[.slice Ao55 t334.length co55, .int .i64 1] rfl (by (try simp only [List.map_toArray, List.map_cons, List.map_nil]); first | done | rfl | (simp only [List.length_drop, List.length_take]; rfl)) ?_; (with_reducible refine (laws_heldInt64S.calls kj53 _ _ t334 1 t347 _ ?side1 ?side2 A69.out).mono ?_); (case side1 => repeat (first | exact (Kd.R_reads' HO_9.out).2.2 | (with_reducible refine Kd.C_alloc ?_ _) | (with_reducible refine Kd.C_drewN ?_ _) | (with_reducible refine Kd.C_drew ?_))); (case side2 => exact (Kd.R_reads' HO_9.out).2.1); rintro e w' ⟨rfl, ⟨nd, rfl⟩⟩; refine ⟨_, rfl, ?_⟩))
                go_ret
                exact ⟨by first | rfl | (simp [errW_none, errW_some] <;> rfl) | (simp [*, errW_none, errW_some] <;> rfl), pR HB⟩
               ·rw [if_neg c71] at H
                have c71b0 : (t347 == t333) = false := beq_eq_false_iff_ne.mpr c71
                have c71b1 : (t347 != t333) = true := bne_iff_ne.mpr c71
                obtain rfl := Option.some.inj H
                exact absurd HRT.out (by decide)
          ·rw [if_neg c50] at H
           have c50b0 : (t335 == t333) = false := beq_eq_false_iff_ne.mpr c50
           have c50b1 : (t335 != t333) = true := bne_iff_ne.mpr c50
           obtain rfl := Option.some.inj H
           exact absurd HRT.out (by decide)
     ·replace c32 := Bool.eq_false_iff.mpr c32
      subst c32
      have H1 : (some false) = some r := by rw [if_neg (show ¬ (false = true) by decide)] at H; exact H
      clear H
      have H := H1
      clear H1
      obtain rfl := Option.some.inj H
      exact absurd HRT.out (by decide)

def laws_FnExactPanelEdges.Pure : Prop := ∀ (l0 : List (S53)) (a1_0 : Int) (a1_1 : Int) (a1_2 : Int), (l0.length ≤ 9223372036854775807 ∧ ∀ y0 ∈ l0, ((Lit.int .i64 y0.f0).wf = true) ∧ ((Lit.int .i64 y0.f1).wf = true)) → ((Lit.int .i64 a1_0).wf = true) → ((Lit.int .i64 a1_1).wf = true) → ((Lit.int .i64 a1_2).wf = true) → ∃ k, laws_FnExactPanelEdges.f k l0 a1_0 a1_1 a1_2 = some true

end Go.Proofs.Ytmljmfepnlpgfaa.PFnExactPanelEdges
