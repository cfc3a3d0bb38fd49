-- Written by a program of this session (wip/tools/pp.sh).
import Derived.Test.YtlphfgbeeckjnaaPFnExactClothLeftx0
import Derived.Test.YtlphfgbeeckjnaaPFnExactClothLeftx1
import Derived.Test.YtlphfgbeeckjnaaPFnExactClothLeftx2
import Derived.Test.YtlphfgbeeckjnaaPFnExactClothLeftx3
import Derived.Test.YtlphfgbeeckjnaaPFnExactClothLeftx6
import Derived.Test.YtlphfgbeeckjnaaPFnExactClothLeftx10
namespace Go.Proofs.Ytlphfgbeeckjnaa.PFnExactClothLeft
open Go.RowKit Go.Proofs.YtlphfgbeeckjnaaW.PrintWords Go.Proofs.YtlphfgbeeckjnaaW.PrintLast Go.Proofs.YtlphfgbeeckjnaaW.PrintMore Go.Proofs.Ytlphfgbeeckjnaa.Small
open Bool renaming true → T, false → F
attribute [local go_sem] max2_int min2_int max_two min_two max_three min_three max_four min_four   -- for this text's walks alone
set_option linter.unusedVariables false
set_option linter.unusedSimpArgs false

/-! ### laws_FnExactClothLeft: function 5 -/
mutual
def laws_FnExactClothLeft.j0 : Nat → List (S24) → List Int → List (S124) → List Int → Int → List (S29) → List Int → List (S114) → List Int → Int → Bool → Option (Bool)
 | 0, _, _, _, _, _, _, _, _, _, _, _ => none
 | k + 1, x0, x1, x2, x8, x9, x10, x11, x12, x13, x14, x64 => if x64 = true then (some false) else ((laws_toBoltS.f k x0).bind fun t323 => ((laws_eqBoltS.f k x10 t323).bind fun t326 => (if t326 = true then ((laws_toInt64S.f k x1).bind fun t327 => ((laws_eqInt64S.f k x11 t327).bind fun t330 => (if t330 = true then ((laws_toPieceS.f k x2).bind fun t331 => ((laws_eqPieceS.f k x12 t331).bind fun t334 => (if t334 = true then ((laws_markBoltS.f k x10 1).bind fun bt335 => ((laws_markInt64S.f k x11 bt335.1).bind fun bt337 => ((laws_markPieceS.f k x12 bt337.1).bind fun bt339 => (if bt339.1 < 0 then (laws_FnExactClothLeft.j1 k x0 x1 x2 x8 x9 x13 true) else ((laws_eqInt64S.f k x13 x8).bind fun t341 => (if t341 = true then (laws_FnExactClothLeft.j1 k x0 x1 x2 x8 x9 x13 (x14 != x9)) else (laws_FnExactClothLeft.j1 k x0 x1 x2 x8 x9 x13 true))))))) else (some false)))) else (some false)))) else (some false))))
def laws_FnExactClothLeft.j1 : Nat → List (S24) → List Int → List (S124) → List Int → Int → List Int → Bool → Option (Bool)
 | 0, _, _, _, _, _, _, _ => none
 | k + 1, x0, x1, x2, x8, x9, x13, x101 => if x101 = true then (some false) else ((laws_markInt64S.f k x13 1).bind fun bt342 => ((laws_heldInt64S.f k bt342.2 1).bind fun t344 => (if t344 < 0 then (some false) else (if t344 = bt342.1 then ((laws_toBoltS.f k x0).bind fun t345 => ((laws_toInt64S.f k x1).bind fun t348 => ((laws_toPieceS.f k x2).bind fun t351 => ((impl_ClothLeft.f k t345 t348 t351).bind fun bt354 => ((laws_eqInt64S.f k bt354.1 x8).bind fun t358 => (if t358 = true then (laws_FnExactClothLeft.j2 k bt342.2 bt342.1 (bt354.2 != x9)) else (laws_FnExactClothLeft.j2 k bt342.2 bt342.1 true))))))) else (some false)))))
def laws_FnExactClothLeft.j2 : Nat → List Int → Int → Bool → Option (Bool)
 | 0, _, _, _ => none
 | k + 1, x13, x16, x131 => if x131 = true then (some false) else ((laws_heldInt64S.f k x13 1).bind fun t359 => (if t359 < 0 then (some false) else (if t359 = x16 then (some true) else (some false))))
end
def laws_FnExactClothLeft.f (k : Nat) (l0 : List (S24)) (l1 : List Int) (l2 : List (S124)) : Option (Bool) := if (l1.length : Int) > 1048576 then (some true) else ((laws_szBoltS.f k l0 1048576).bind fun t294 => (if t294 < 0 then (some true) else ((laws_szPieceS.f l2 t294).bind fun t295 => (if t295 < 0 then (some true) else ((laws_toBoltS.f k l0).bind fun t296 => ((laws_toInt64S.f k l1).bind fun t299 => ((laws_toPieceS.f k l2).bind fun t302 => ((spec_ClothLeft.f k t296 t299 t302).bind fun bt305 => ((laws_toBoltS.f k l0).bind fun t309 => ((laws_toInt64S.f k l1).bind fun t312 => ((laws_toPieceS.f k l2).bind fun t315 => ((impl_ClothLeft.f k t309 t312 t315).bind fun bt318 => ((laws_eqInt64S.f k bt318.1 bt305.1).bind fun t322 => (if t322 = true then (laws_FnExactClothLeft.j0 k l0 l1 l2 bt305.1 bt305.2 t309 t312 t315 bt318.1 bt318.2 (bt318.2 != bt305.2)) else (laws_FnExactClothLeft.j0 k l0 l1 l2 bt305.1 bt305.2 t309 t312 t315 bt318.1 bt318.2 true)))))))))))))))
theorem laws_FnExactClothLeft.mono_l : ∀ k, (∀ y0 y1 y2 y3 y4 y5 y6 y7 y8 y9 y10, LeO (laws_FnExactClothLeft.j0 k y0 y1 y2 y3 y4 y5 y6 y7 y8 y9 y10) (laws_FnExactClothLeft.j0 (k + 1) y0 y1 y2 y3 y4 y5 y6 y7 y8 y9 y10)) ∧ (∀ y0 y1 y2 y3 y4 y5 y6, LeO (laws_FnExactClothLeft.j1 k y0 y1 y2 y3 y4 y5 y6) (laws_FnExactClothLeft.j1 (k + 1) y0 y1 y2 y3 y4 y5 y6)) ∧ (∀ y0 y1 y2, LeO (laws_FnExactClothLeft.j2 k y0 y1 y2) (laws_FnExactClothLeft.j2 (k + 1) y0 y1 y2))
 | 0 => ⟨fun _ _ _ _ _ _ _ _ _ _ _ r h => by simp [laws_FnExactClothLeft.j0] at h, fun _ _ _ _ _ _ _ r h => by simp [laws_FnExactClothLeft.j1] at h, fun _ _ _ r h => by simp [laws_FnExactClothLeft.j2] at h⟩
 | k + 1 => by
  obtain ⟨ih0, ih1, ih2⟩ := laws_FnExactClothLeft.mono_l k
  refine ⟨?_, ?_, ?_⟩
  ·intro y0 y1 y2 y3 y4 y5 y6 y7 y8 y9 y10
   unfold laws_FnExactClothLeft.j0
   repeat' first
   | (with_reducible exact ih0 _ _ _ _ _ _ _ _ _ _ _)
   | (with_reducible exact ih1 _ _ _ _ _ _ _)
   | (with_reducible exact ih2 _ _ _)
   | (with_reducible exact impl_ClothLeft.mono _ _ _ _)
   | (with_reducible exact laws_eqBoltS.mono _ _ _)
   | (with_reducible exact laws_eqInt64S.mono _ _ _)
   | (with_reducible exact laws_eqPieceS.mono _ _ _)
   | (with_reducible exact laws_heldInt64S.mono _ _ _)
   | (with_reducible exact laws_markBoltS.mono _ _ _)
   | (with_reducible exact laws_markInt64S.mono _ _ _)
   | (with_reducible exact laws_markPieceS.mono _ _ _)
   | (with_reducible exact laws_szBoltS.mono _ _ _)
   | (with_reducible exact laws_toBoltS.mono _ _)
   | (with_reducible exact laws_toInt64S.mono _ _)
   | (with_reducible exact laws_toPieceS.mono _ _)
   | (with_reducible exact spec_ClothLeft.mono _ _ _ _)
   | (with_reducible exact LeO.refl _)
   | (with_reducible exact LeO.none _)
   | (with_reducible refine LeO.ite ?_ ?_)
   | (with_reducible refine LeO.bind ?_ (fun _ => ?_))
   | exact ih0 _ _ _ _ _ _ _ _ _ _ _
   | exact ih1 _ _ _ _ _ _ _
   | exact ih2 _ _ _
   | exact impl_ClothLeft.mono _ _ _ _
   | exact laws_eqBoltS.mono _ _ _
   | exact laws_eqInt64S.mono _ _ _
   | exact laws_eqPieceS.mono _ _ _
   | exact laws_heldInt64S.mono _ _ _
   | exact laws_markBoltS.mono _ _ _
   | exact laws_markInt64S.mono _ _ _
   | exact laws_markPieceS.mono _ _ _
   | exact laws_szBoltS.mono _ _ _
   | exact laws_toBoltS.mono _ _
   | exact laws_toInt64S.mono _ _
   | exact laws_toPieceS.mono _ _
   | exact spec_ClothLeft.mono _ _ _ _
   | exact LeO.none _
   | refine LeO.ite ?_ ?_
   | refine LeO.bind ?_ (fun _ => ?_)
  ·intro y0 y1 y2 y3 y4 y5 y6
   unfold laws_FnExactClothLeft.j1
   repeat' first
   | (with_reducible exact ih0 _ _ _ _ _ _ _ _ _ _ _)
   | (with_reducible exact ih1 _ _ _ _ _ _ _)
   | (with_reducible exact ih2 _ _ _)
   | (with_reducible exact impl_ClothLeft.mono _ _ _ _)
   | (with_reducible exact laws_eqBoltS.mono _ _ _)
   | (with_reducible exact laws_eqInt64S.mono _ _ _)
   | (with_reducible exact laws_eqPieceS.mono _ _ _)
   | (with_reducible exact laws_heldInt64S.mono _ _ _)
   | (with_reducible exact laws_markBoltS.mono _ _ _)
   | (with_reducible exact laws_markInt64S.mono _ _ _)
   | (with_reducible exact laws_markPieceS.mono _ _ _)
   | (with_reducible exact laws_szBoltS.mono _ _ _)
   | (with_reducible exact laws_toBoltS.mono _ _)
   | (with_reducible exact laws_toInt64S.mono _ _)
   | (with_reducible exact laws_toPieceS.mono _ _)
   | (with_reducible exact spec_ClothLeft.mono _ _ _ _)
   | (with_reducible exact LeO.refl _)
   | (with_reducible exact LeO.none _)
   | (with_reducible refine LeO.ite ?_ ?_)
   | (with_reducible refine LeO.bind ?_ (fun _ => ?_))
   | exact ih0 _ _ _ _ _ _ _ _ _ _ _
   | exact ih1 _ _ _ _ _ _ _
   | exact ih2 _ _ _
   | exact impl_ClothLeft.mono _ _ _ _
   | exact laws_eqBoltS.mono _ _ _
   | exact laws_eqInt64S.mono _ _ _
   | exact laws_eqPieceS.mono _ _ _
   | exact laws_heldInt64S.mono _ _ _
   | exact laws_markBoltS.mono _ _ _
   | exact laws_markInt64S.mono _ _ _
   | exact laws_markPieceS.mono _ _ _
   | exact laws_szBoltS.mono _ _ _
   | exact laws_toBoltS.mono _ _
   | exact laws_toInt64S.mono _ _
   | exact laws_toPieceS.mono _ _
   | exact spec_ClothLeft.mono _ _ _ _
   | exact LeO.none _
   | refine LeO.ite ?_ ?_
   | refine LeO.bind ?_ (fun _ => ?_)
  ·intro y0 y1 y2
   unfold laws_FnExactClothLeft.j2
   repeat' first
   | (with_reducible exact ih0 _ _ _ _ _ _ _ _ _ _ _)
   | (with_reducible exact ih1 _ _ _ _ _ _ _)
   | (with_reducible exact ih2 _ _ _)
   | (with_reducible exact impl_ClothLeft.mono _ _ _ _)
   | (with_reducible exact laws_eqBoltS.mono _ _ _)
   | (with_reducible exact laws_eqInt64S.mono _ _ _)
   | (with_reducible exact laws_eqPieceS.mono _ _ _)
   | (with_reducible exact laws_heldInt64S.mono _ _ _)
   | (with_reducible exact laws_markBoltS.mono _ _ _)
   | (with_reducible exact laws_markInt64S.mono _ _ _)
   | (with_reducible exact laws_markPieceS.mono _ _ _)
   | (with_reducible exact laws_szBoltS.mono _ _ _)
   | (with_reducible exact laws_toBoltS.mono _ _)
   | (with_reducible exact laws_toInt64S.mono _ _)
   | (with_reducible exact laws_toPieceS.mono _ _)
   | (with_reducible exact spec_ClothLeft.mono _ _ _ _)
   | (with_reducible exact LeO.refl _)
   | (with_reducible exact LeO.none _)
   | (with_reducible refine LeO.ite ?_ ?_)
   | (with_reducible refine LeO.bind ?_ (fun _ => ?_))
   | exact ih0 _ _ _ _ _ _ _ _ _ _ _
   | exact ih1 _ _ _ _ _ _ _
   | exact ih2 _ _ _
   | exact impl_ClothLeft.mono _ _ _ _
   | exact laws_eqBoltS.mono _ _ _
   | exact laws_eqInt64S.mono _ _ _
   | exact laws_eqPieceS.mono _ _ _
   | exact laws_heldInt64S.mono _ _ _
   | exact laws_markBoltS.mono _ _ _
   | exact laws_markInt64S.mono _ _ _
   | exact laws_markPieceS.mono _ _ _
   | exact laws_szBoltS.mono _ _ _
   | exact laws_toBoltS.mono _ _
   | exact laws_toInt64S.mono _ _
   | exact laws_toPieceS.mono _ _
   | exact spec_ClothLeft.mono _ _ _ _
   | exact LeO.none _
   | refine LeO.ite ?_ ?_
   | refine LeO.bind ?_ (fun _ => ?_)
theorem laws_FnExactClothLeft.mono : ∀ a0 a1 a2 k, LeO (laws_FnExactClothLeft.f k a0 a1 a2) (laws_FnExactClothLeft.f (k + 1) a0 a1 a2) := by
 intro a0 a1 a2 k
 obtain ⟨ih0, ih1, ih2⟩ := laws_FnExactClothLeft.mono_l k
 unfold laws_FnExactClothLeft.f
 repeat' first
   | (with_reducible exact ih0 _ _ _ _ _ _ _ _ _ _ _)
   | (with_reducible exact ih1 _ _ _ _ _ _ _)
   | (with_reducible exact ih2 _ _ _)
   | (with_reducible exact impl_ClothLeft.mono _ _ _ _)
   | (with_reducible exact laws_eqBoltS.mono _ _ _)
   | (with_reducible exact laws_eqInt64S.mono _ _ _)
   | (with_reducible exact laws_eqPieceS.mono _ _ _)
   | (with_reducible exact laws_heldInt64S.mono _ _ _)
   | (with_reducible exact laws_markBoltS.mono _ _ _)
   | (with_reducible exact laws_markInt64S.mono _ _ _)
   | (with_reducible exact laws_markPieceS.mono _ _ _)
   | (with_reducible exact laws_szBoltS.mono _ _ _)
   | (with_reducible exact laws_toBoltS.mono _ _)
   | (with_reducible exact laws_toInt64S.mono _ _)
   | (with_reducible exact laws_toPieceS.mono _ _)
   | (with_reducible exact spec_ClothLeft.mono _ _ _ _)
   | (with_reducible exact LeO.refl _)
   | (with_reducible exact LeO.none _)
   | (with_reducible refine LeO.ite ?_ ?_)
   | (with_reducible refine LeO.bind ?_ (fun _ => ?_))
   | exact ih0 _ _ _ _ _ _ _ _ _ _ _
   | exact ih1 _ _ _ _ _ _ _
   | exact ih2 _ _ _
   | exact impl_ClothLeft.mono _ _ _ _
   | exact laws_eqBoltS.mono _ _ _
   | exact laws_eqInt64S.mono _ _ _
   | exact laws_eqPieceS.mono _ _ _
   | exact laws_heldInt64S.mono _ _ _
   | exact laws_markBoltS.mono _ _ _
   | exact laws_markInt64S.mono _ _ _
   | exact laws_markPieceS.mono _ _ _
   | exact laws_szBoltS.mono _ _ _
   | exact laws_toBoltS.mono _ _
   | exact laws_toInt64S.mono _ _
   | exact laws_toPieceS.mono _ _
   | exact spec_ClothLeft.mono _ _ _ _
   | exact LeO.none _
   | refine LeO.ite ?_ ?_
   | refine LeO.bind ?_ (fun _ => ?_)
set_option maxHeartbeats 8000000 in
set_option maxRecDepth 100000 in
theorem laws_FnExactClothLeft.calls (k : Nat) (A0 : Option Addr) (c0 : Nat) (l0 : List (S24)) (A1 : Option Addr) (c1 : Nat) (l1 : List Int) (A2 : Option Addr) (c2 : Nat) (l2 : List (S124)) (r : Bool) (w : World) (hr0 : Kd.C k24 w A0 l0.length l0) (hc0 : l0.length ≤ c0) (hr1 : Kd.C (Kd.int .i64) w A1 l1.length l1) (hc1 : l1.length ≤ c1) (hr2 : Kd.C k124 w A2 l2.length l2) (hc2 : l2.length ≤ c2) (hrt : r = true) (h : laws_FnExactClothLeft.f k l0 l1 l2 = some r) :
  Calls Try.prog 5 #[.slice A0 l0.length c0, .slice A1 l1.length c1, .slice A2 l2.length c2] w fun e w' => e = .returned (.bool r) ∧ Below w.heap.size w w' := by
 have HRT := Aside0.mk hrt
 clear hrt
 have HR0 := Aside0.mk hr0
 have HC0 := Aside0.mk hc0
 clear hr0 hc0
 have HR1 := Aside0.mk hr1
 have HC1 := Aside0.mk hc1
 clear hr1 hc1
 have HR2 := Aside0.mk hr2
 have HC2 := Aside0.mk hc2
 clear hr2 hc2
 have HB := Aside0.mk (Below.refl w.heap.size w)
 have H : (if (l1.length : Int) > 1048576 then (some true) else ((laws_szBoltS.f k l0 1048576).bind fun t294 => (if t294 < 0 then (some true) else ((laws_szPieceS.f l2 t294).bind fun t295 => (if t295 < 0 then (some true) else ((laws_toBoltS.f k l0).bind fun t296 => ((laws_toInt64S.f k l1).bind fun t299 => ((laws_toPieceS.f k l2).bind fun t302 => ((spec_ClothLeft.f k t296 t299 t302).bind fun bt305 => ((laws_toBoltS.f k l0).bind fun t309 => ((laws_toInt64S.f k l1).bind fun t312 => ((laws_toPieceS.f k l2).bind fun t315 => ((impl_ClothLeft.f k t309 t312 t315).bind fun bt318 => ((laws_eqInt64S.f k bt318.1 bt305.1).bind fun t322 => (if t322 = true then (laws_FnExactClothLeft.j0 k l0 l1 l2 bt305.1 bt305.2 t309 t312 t315 bt318.1 bt318.2 (bt318.2 != bt305.2)) else (laws_FnExactClothLeft.j0 k l0 l1 l2 bt305.1 bt305.2 t309 t312 t315 bt318.1 bt318.2 true)))))))))))))))) = some r := h
 clear h
 by_cases c4 : (l1.length : Int) > 1048576
 ·rw [if_pos c4] at H
  have c4b0 : decide (1048576 < (l1.length : Int)) = true := decide_eq_true c4
  have c4b1 : decide (1048576 < l1.length) = true := decide_eq_true (by omega)
  clear c4
  obtain rfl := Option.some.inj H
  simp only [Option.some.injEq, Prod.mk.injEq] at H
  obtain ⟨rfl⟩ := H
  go_enter Try.func5, Try.ntmps5
  go_wp2
  go_ret
  exact ⟨by first | rfl | (simp [errW_none, errW_some] <;> rfl) | (simp [*, errW_none, errW_some] <;> rfl), pR HB⟩
 ·rw [if_neg c4] at H
  have c4b0 : decide (1048576 < (l1.length : Int)) = false := decide_eq_false c4
  have c4b1 : decide (1048576 < l1.length) = false := decide_eq_false (by omega)
  clear c4
  replace H := Option.bind_eq_some_iff.mp H
  obtain ⟨t294, A50, H⟩ := H
  replace H : (if t294 < 0 then (some true) else ((laws_szPieceS.f l2 t294).bind fun t295 => (if t295 < 0 then (some true) else ((laws_toBoltS.f k l0).bind fun t296 => ((laws_toInt64S.f k l1).bind fun t299 => ((laws_toPieceS.f k l2).bind fun t302 => ((spec_ClothLeft.f k t296 t299 t302).bind fun bt305 => ((laws_toBoltS.f k l0).bind fun t309 => ((laws_toInt64S.f k l1).bind fun t312 => ((laws_toPieceS.f k l2).bind fun t315 => ((impl_ClothLeft.f k t309 t312 t315).bind fun bt318 => ((laws_eqInt64S.f k bt318.1 bt305.1).bind fun t322 => (if t322 = true then (laws_FnExactClothLeft.j0 k l0 l1 l2 bt305.1 bt305.2 t309 t312 t315 bt318.1 bt318.2 (bt318.2 != bt305.2)) else (laws_FnExactClothLeft.j0 k l0 l1 l2 bt305.1 bt305.2 t309 t312 t315 bt318.1 bt318.2 true)))))))))))))) = some r := H
  have A5 := Aside0.mk A50
  clear A50
  by_cases c6 : t294 < 0
  ·rw [if_pos c6] at H
   have c6b0 : decide (t294 < 0) = true := decide_eq_true c6
   clear c6
   obtain rfl := Option.some.inj H
   simp only [Option.some.injEq, Prod.mk.injEq] at H
   obtain ⟨rfl⟩ := H
   go_enter Try.func5, Try.ntmps5
   go_wp2_with (first | ((with_reducible refine gate_callee (f := 20) rfl ?_); refine goesL_ (some 25) rfl rfl Try.func20 (by kernel_rfl) rfl #[.slice A0 l0.length c0, .int .i64 1048576] rfl (by (try simp only [List.map_toArray, List.map_cons, List.map_nil]); first | done | rfl | (simp only [List.length_drop, List.length_take]; rfl)) ?_; (with_reducible refine (laws_szBoltS.calls k _ _ l0 1048576 t294 _ ?side1 ?side2 A5.out).mono ?_); (case side1 => repeat (first | exact HR0.out | (with_reducible refine Kd.C_alloc ?_ _) | (with_reducible refine Kd.C_drewN ?_ _) | (with_reducible refine Kd.C_drew ?_))); (case side2 => exact HC0.out); rintro e w7 ⟨rfl, hb⟩; refine ⟨_, rfl, ?_⟩; have n0_ := pS HB hb; clear HB; have HB := n0_; clear n0_; (try clear hb); (try clear hb2); (try clear hk); (try clear hi)))
   go_ret
   exact ⟨by first | rfl | (simp [errW_none, errW_some] <;> rfl) | (simp [*, errW_none, errW_some] <;> rfl), pR HB⟩
  ·rw [if_neg c6] at H
   have c6b0 : decide (t294 < 0) = false := decide_eq_false c6
   clear c6
   replace H := Option.bind_eq_some_iff.mp H
   obtain ⟨t295, A80, H⟩ := H
   replace H : (if t295 < 0 then (some true) else ((laws_toBoltS.f k l0).bind fun t296 => ((laws_toInt64S.f k l1).bind fun t299 => ((laws_toPieceS.f k l2).bind fun t302 => ((spec_ClothLeft.f k t296 t299 t302).bind fun bt305 => ((laws_toBoltS.f k l0).bind fun t309 => ((laws_toInt64S.f k l1).bind fun t312 => ((laws_toPieceS.f k l2).bind fun t315 => ((impl_ClothLeft.f k t309 t312 t315).bind fun bt318 => ((laws_eqInt64S.f k bt318.1 bt305.1).bind fun t322 => (if t322 = true then (laws_FnExactClothLeft.j0 k l0 l1 l2 bt305.1 bt305.2 t309 t312 t315 bt318.1 bt318.2 (bt318.2 != bt305.2)) else (laws_FnExactClothLeft.j0 k l0 l1 l2 bt305.1 bt305.2 t309 t312 t315 bt318.1 bt318.2 true)))))))))))) = some r := H
   have A8 := Aside0.mk A80
   clear A80
   have HF_ := Aside0.mk H
   clear H
   go_enter Try.func5, Try.ntmps5
   go_upto_if 32 with (first | ((with_reducible refine gate_callee (f := 20) rfl ?_); refine goesL_ (some 25) rfl rfl Try.func20 (by kernel_rfl) rfl #[.slice A0 l0.length c0, .int .i64 1048576] rfl (by (try simp only [List.map_toArray, List.map_cons, List.map_nil]); first | done | rfl | (simp only [List.length_drop, List.length_take]; rfl)) ?_; (with_reducible refine (laws_szBoltS.calls k _ _ l0 1048576 t294 _ ?side1 ?side2 A5.out).mono ?_); (case side1 => repeat (first | exact HR0.out | (with_reducible refine Kd.C_alloc ?_ _) | (with_reducible refine Kd.C_drewN ?_ _) | (with_reducible refine Kd.C_drew ?_))); (case side2 => exact HC0.out); rintro e w9 ⟨rfl, hb⟩; refine ⟨_, rfl, ?_⟩; have n0_ := pS HB hb; clear HB; have HB := n0_; clear n0_; (try clear hb); (try clear hb2); (try clear hk); (try clear hi)) | ((with_reducible refine gate_callee (f := 32) rfl ?_); refine goesL_ (some 30) rfl rfl Try.func32 (by kernel_rfl) rfl #[.slice A2 l2.length c2, .int .i64 t294] rfl (by (try simp only [List.map_toArray, List.map_cons, List.map_nil]); first | done | rfl | (simp only [List.length_drop, List.length_take]; rfl)) ?_; (with_reducible refine (laws_szPieceS.calls _ _ l2 t294 t295 _ ?side1 ?side2 A8.out).mono ?_); (case side1 => repeat (first | exact (Kd.C_below HR2.out HB.out) | (with_reducible refine Kd.C_alloc ?_ _) | (with_reducible refine Kd.C_drewN ?_ _) | (with_reducible refine Kd.C_drew ?_))); (case side2 => exact HC2.out); rintro e w' ⟨rfl, ⟨nd, rfl⟩⟩; refine ⟨_, rfl, ?_⟩))
   (try simp only [Act.put, List.setIfInBounds_toArray, List.set_cons_zero, List.set_cons_succ])
   have H := HF_.out
   clear HF_
   by_cases c10 : t295 < 0
   ·rw [if_pos c10] at H
    have c10b0 : decide (t295 < 0) = true := decide_eq_true c10
    clear c10
    (first | rw [c10b0] | (simp only [i64_w, i32_w]; rw [c10b0]) | skip)
    obtain rfl := Option.some.inj H
    simp only [Option.some.injEq, Prod.mk.injEq] at H
    obtain ⟨rfl⟩ := H
    go_wp2
    go_ret
    exact ⟨by first | rfl | (simp [errW_none, errW_some] <;> rfl) | (simp [*, errW_none, errW_some] <;> rfl), pR HB⟩
   ·rw [if_neg c10] at H
    have c10b0 : decide (t295 < 0) = false := decide_eq_false c10
    clear c10
    (first | rw [c10b0] | (simp only [i64_w, i32_w]; rw [c10b0]) | skip)
    replace H := Option.bind_eq_some_iff.mp H
    obtain ⟨t296, A110, H⟩ := H
    replace H : ((laws_toInt64S.f k l1).bind fun t299 => ((laws_toPieceS.f k l2).bind fun t302 => ((spec_ClothLeft.f k t296 t299 t302).bind fun bt305 => ((laws_toBoltS.f k l0).bind fun t309 => ((laws_toInt64S.f k l1).bind fun t312 => ((laws_toPieceS.f k l2).bind fun t315 => ((impl_ClothLeft.f k t309 t312 t315).bind fun bt318 => ((laws_eqInt64S.f k bt318.1 bt305.1).bind fun t322 => (if t322 = true then (laws_FnExactClothLeft.j0 k l0 l1 l2 bt305.1 bt305.2 t309 t312 t315 bt318.1 bt318.2 (bt318.2 != bt305.2)) else (laws_FnExactClothLeft.j0 k l0 l1 l2 bt305.1 bt305.2 t309 t312 t315 bt318.1 bt318.2 true)))))))))) = some r := H
    have A11 := Aside0.mk A110
    clear A110
    replace H := Option.bind_eq_some_iff.mp H
    obtain ⟨t299, A120, H⟩ := H
    replace H : ((laws_toPieceS.f k l2).bind fun t302 => ((spec_ClothLeft.f k t296 t299 t302).bind fun bt305 => ((laws_toBoltS.f k l0).bind fun t309 => ((laws_toInt64S.f k l1).bind fun t312 => ((laws_toPieceS.f k l2).bind fun t315 => ((impl_ClothLeft.f k t309 t312 t315).bind fun bt318 => ((laws_eqInt64S.f k bt318.1 bt305.1).bind fun t322 => (if t322 = true then (laws_FnExactClothLeft.j0 k l0 l1 l2 bt305.1 bt305.2 t309 t312 t315 bt318.1 bt318.2 (bt318.2 != bt305.2)) else (laws_FnExactClothLeft.j0 k l0 l1 l2 bt305.1 bt305.2 t309 t312 t315 bt318.1 bt318.2 true))))))))) = some r := H
    have A12 := Aside0.mk A120
    clear A120
    replace H := Option.bind_eq_some_iff.mp H
    obtain ⟨t302, A130, H⟩ := H
    replace H : ((spec_ClothLeft.f k t296 t299 t302).bind fun bt305 => ((laws_toBoltS.f k l0).bind fun t309 => ((laws_toInt64S.f k l1).bind fun t312 => ((laws_toPieceS.f k l2).bind fun t315 => ((impl_ClothLeft.f k t309 t312 t315).bind fun bt318 => ((laws_eqInt64S.f k bt318.1 bt305.1).bind fun t322 => (if t322 = true then (laws_FnExactClothLeft.j0 k l0 l1 l2 bt305.1 bt305.2 t309 t312 t315 bt318.1 bt318.2 (bt318.2 != bt305.2)) else (laws_FnExactClothLeft.j0 k l0 l1 l2 bt305.1 bt305.2 t309 t312 t315 bt318.1 bt318.2 true)))))))) = some r := H
    have A13 := Aside0.mk A130
    clear A130
    replace H := Option.bind_eq_some_iff.mp H
    obtain ⟨⟨t305, t306⟩, A140, H⟩ := H
    replace H : ((laws_toBoltS.f k l0).bind fun t309 => ((laws_toInt64S.f k l1).bind fun t312 => ((laws_toPieceS.f k l2).bind fun t315 => ((impl_ClothLeft.f k t309 t312 t315).bind fun bt318 => ((laws_eqInt64S.f k bt318.1 t305).bind fun t322 => (if t322 = true then (laws_FnExactClothLeft.j0 k l0 l1 l2 t305 t306 t309 t312 t315 bt318.1 bt318.2 (bt318.2 != t306)) else (laws_FnExactClothLeft.j0 k l0 l1 l2 t305 t306 t309 t312 t315 bt318.1 bt318.2 true))))))) = some r := H
    have A14 := Aside0.mk A140
    clear A140
    replace H := Option.bind_eq_some_iff.mp H
    obtain ⟨t309, A150, H⟩ := H
    replace H : ((laws_toInt64S.f k l1).bind fun t312 => ((laws_toPieceS.f k l2).bind fun t315 => ((impl_ClothLeft.f k t309 t312 t315).bind fun bt318 => ((laws_eqInt64S.f k bt318.1 t305).bind fun t322 => (if t322 = true then (laws_FnExactClothLeft.j0 k l0 l1 l2 t305 t306 t309 t312 t315 bt318.1 bt318.2 (bt318.2 != t306)) else (laws_FnExactClothLeft.j0 k l0 l1 l2 t305 t306 t309 t312 t315 bt318.1 bt318.2 true)))))) = some r := H
    have A15 := Aside0.mk A150
    clear A150
    replace H := Option.bind_eq_some_iff.mp H
    obtain ⟨t312, A160, H⟩ := H
    replace H : ((laws_toPieceS.f k l2).bind fun t315 => ((impl_ClothLeft.f k t309 t312 t315).bind fun bt318 => ((laws_eqInt64S.f k bt318.1 t305).bind fun t322 => (if t322 = true then (laws_FnExactClothLeft.j0 k l0 l1 l2 t305 t306 t309 t312 t315 bt318.1 bt318.2 (bt318.2 != t306)) else (laws_FnExactClothLeft.j0 k l0 l1 l2 t305 t306 t309 t312 t315 bt318.1 bt318.2 true))))) = some r := H
    have A16 := Aside0.mk A160
    clear A160
    replace H := Option.bind_eq_some_iff.mp H
    obtain ⟨t315, A170, H⟩ := H
    replace H : ((impl_ClothLeft.f k t309 t312 t315).bind fun bt318 => ((laws_eqInt64S.f k bt318.1 t305).bind fun t322 => (if t322 = true then (laws_FnExactClothLeft.j0 k l0 l1 l2 t305 t306 t309 t312 t315 bt318.1 bt318.2 (bt318.2 != t306)) else (laws_FnExactClothLeft.j0 k l0 l1 l2 t305 t306 t309 t312 t315 bt318.1 bt318.2 true)))) = some r := H
    have A17 := Aside0.mk A170
    clear A170
    replace H := Option.bind_eq_some_iff.mp H
    obtain ⟨⟨t318, t319⟩, A180, H⟩ := H
    replace H : ((laws_eqInt64S.f k t318 t305).bind fun t322 => (if t322 = true then (laws_FnExactClothLeft.j0 k l0 l1 l2 t305 t306 t309 t312 t315 t318 t319 (t319 != t306)) else (laws_FnExactClothLeft.j0 k l0 l1 l2 t305 t306 t309 t312 t315 t318 t319 true))) = some r := H
    have A18 := Aside0.mk A180
    clear A180
    have HC19 := Aside0.mk H
    clear H
    go_upto_region 15 with (first | ((with_reducible refine gate_callee (f := 22) rfl ?_); refine goesL_ (some 35) rfl rfl Try.func22 (by kernel_rfl) rfl #[.slice A0 l0.length c0] rfl (by (try simp only [List.map_toArray, List.map_cons, List.map_nil]); first | done | rfl | (simp only [List.length_drop, List.length_take]; rfl)) ?_; (with_reducible refine (laws_toBoltS.calls k _ _ l0 t296 _ ?side1 ?side2 A11.out).mono ?_); (case side1 => repeat (first | exact (Kd.C_below HR0.out HB.out) | (with_reducible refine Kd.C_alloc ?_ _) | (with_reducible refine Kd.C_drewN ?_ _) | (with_reducible refine Kd.C_drew ?_))); (case side2 => exact HC0.out); rintro e w20 ⟨v297, rfl, ho0, hb⟩; refine ⟨_, rfl, ?_⟩; have n0_ := Aside0.mk (Kd.S_lower ho0 (below_size (by repeat (first | (with_reducible first | exact HB.out | apply below_alloc | apply pw_below_drewN | apply below_drew1) | exact HB.out)))); have n1_ := pS HB hb; clear HB; have HO298 := n0_; have HB := n1_; clear n0_ n1_; (try clear hb); (try clear hb2); (try clear hk); (try clear hi); (try clear ho0)) | ((with_reducible refine gate_callee (f := 23) rfl ?_); refine goesL_ (some 37) rfl rfl Try.func23 (by kernel_rfl) rfl #[.slice A1 l1.length c1] rfl (by (try simp only [List.map_toArray, List.map_cons, List.map_nil]); first | done | rfl | (simp only [List.length_drop, List.length_take]; rfl)) ?_; (with_reducible refine (laws_toInt64S.calls k _ _ l1 t299 _ ?side1 ?side2 A12.out).mono ?_); (case side1 => repeat (first | exact (Kd.C_below HR1.out HB.out) | (with_reducible refine Kd.C_alloc ?_ _) | (with_reducible refine Kd.C_drewN ?_ _) | (with_reducible refine Kd.C_drew ?_))); (case side2 => exact HC1.out); rintro e w21 ⟨v300, rfl, ho0, hb⟩; refine ⟨_, rfl, ?_⟩; have n0_ := Aside0.mk (Kd.S_elder' (by (with_reducible repeat (first | apply Kd.S_alloc | apply Kd.S_drewN | apply Kd.S_drew)); exact HO298.out) (Kd.R_base ho0) hb); have n1_ := Aside0.mk (Kd.R_lower ho0 (below_size (by repeat (first | (with_reducible first | exact HB.out | apply below_alloc | apply pw_below_drewN | apply below_drew1) | exact HB.out)))); have n2_ := pS HB hb; clear HO298 HB; have HO298 := n0_; have HO301 := n1_; have HB := n2_; clear n0_ n1_ n2_; (try clear hb); (try clear hb2); (try clear hk); (try clear hi); (try clear ho0)) | ((with_reducible refine gate_callee (f := 34) rfl ?_); refine goesL_ (some 39) rfl rfl Try.func34 (by kernel_rfl) rfl #[.slice A2 l2.length c2] rfl (by (try simp only [List.map_toArray, List.map_cons, List.map_nil]); first | done | rfl | (simp only [List.length_drop, List.length_take]; rfl)) ?_; (with_reducible refine (laws_toPieceS.calls k _ _ l2 t302 _ ?side1 ?side2 A13.out).mono ?_); (case side1 => repeat (first | exact (Kd.C_below HR2.out HB.out) | (with_reducible refine Kd.C_alloc ?_ _) | (with_reducible refine Kd.C_drewN ?_ _) | (with_reducible refine Kd.C_drew ?_))); (case side2 => exact HC2.out); rintro e w22 ⟨v303, rfl, ho0, hb⟩; refine ⟨_, rfl, ?_⟩; have n0_ := Aside0.mk (Kd.S_below (by (with_reducible repeat (first | apply Kd.S_alloc | apply Kd.S_drewN | apply Kd.S_drew)); exact HO298.out) hb); have n1_ := Aside0.mk (Kd.R_below (by (with_reducible repeat (first | apply Kd.R_alloc | apply Kd.R_drewN | apply Kd.R_drew)); exact HO301.out) hb); have n2_ := Aside0.mk (Kd.R_lower ho0 (below_size (by repeat (first | (with_reducible first | exact HB.out | apply below_alloc | apply pw_below_drewN | apply below_drew1) | exact HB.out)))); have n3_ := pS HB hb; clear HO298 HO301 HB; have HO298 := n0_; have HO301 := n1_; have HO304 := n2_; have HB := n3_; clear n0_ n1_ n2_ n3_; (try clear hb); (try clear hb2); (try clear hk); (try clear hi); (try clear ho0); obtain ⟨Ao23, co23, eo23⟩ := Kd.S_slice HO298.out; subst eo23; obtain ⟨Ao24, co24, eo24⟩ := Kd.R_slice HO301.out; subst eo24; obtain ⟨Ao25, co25, eo25⟩ := Kd.R_slice HO304.out; subst eo25) | ((with_reducible refine gate_callee (f := 33) rfl ?_); refine goesL_ (some 40) rfl rfl Try.func33 (by kernel_rfl) rfl #[.slice Ao23 t296.length co23, .slice Ao24 t299.length co24, .slice Ao25 t302.length co25] rfl (by (try simp only [List.map_toArray, List.map_cons, List.map_nil]); first | done | rfl | (simp only [List.length_drop, List.length_take]; rfl)) ?_; (with_reducible refine (spec_ClothLeft.calls k _ _ t296 _ _ t299 _ _ t302 t305 t306 _ ?side1 ?side2 ?side3 ?side4 ?side5 ?side6 A14.out).mono ?_); (case side1 => repeat (first | exact (Kd.S_reads' HO298.out).2.2 | (with_reducible refine Kd.C_alloc ?_ _) | (with_reducible refine Kd.C_drewN ?_ _) | (with_reducible refine Kd.C_drew ?_))); (case side2 => exact (Kd.S_reads' HO298.out).2.1); (case side3 => repeat (first | exact (Kd.R_reads' HO301.out).2.2 | (with_reducible refine Kd.C_alloc ?_ _) | (with_reducible refine Kd.C_drewN ?_ _) | (with_reducible refine Kd.C_drew ?_))); (case side4 => exact (Kd.R_reads' HO301.out).2.1); (case side5 => repeat (first | exact (Kd.R_reads' HO304.out).2.2 | (with_reducible refine Kd.C_alloc ?_ _) | (with_reducible refine Kd.C_drewN ?_ _) | (with_reducible refine Kd.C_drew ?_))); (case side6 => exact (Kd.R_reads' HO304.out).2.1); rintro e w26 ⟨v307, rfl, ho0, hb⟩; refine ⟨_, rfl, ?_⟩; have n0_ := Aside0.mk (Kd.S_elder' (by (with_reducible repeat (first | apply Kd.S_alloc | apply Kd.S_drewN | apply Kd.S_drew)); exact HO298.out) (Kd.R_base ho0) hb); have n1_ := Aside0.mk (Kd.R_elder' (by (with_reducible repeat (first | apply Kd.R_alloc | apply Kd.R_drewN | apply Kd.R_drew)); exact HO301.out) (Kd.R_base ho0) hb); have n2_ := Aside0.mk (Kd.R_below (by (with_reducible repeat (first | apply Kd.R_alloc | apply Kd.R_drewN | apply Kd.R_drew)); exact HO304.out) hb); have n3_ := Aside0.mk (Kd.R_lower (Kd.R_new' ho0 (Kd.R_lt (by (with_reducible repeat (first | apply Kd.R_alloc | apply Kd.R_drewN | apply Kd.R_drew)); exact HO301.out))) (below_size (by repeat (first | (with_reducible first | exact HB.out | apply below_alloc | apply pw_below_drewN | apply below_drew1) | exact HB.out)))); have n4_ := pS HB hb; clear HO298 HO301; clear HO304 HB; have HO298 := n0_; have HO301 := n1_; have HO304 := n2_; have HO308 := n3_; have HB := n4_; clear n0_ n1_ n2_ n3_ n4_; (try clear hb); (try clear hb2); (try clear hk); (try clear hi); (try clear ho0)) | ((with_reducible refine gate_callee (f := 22) rfl ?_); refine goesL_ (some 44) rfl rfl Try.func22 (by kernel_rfl) rfl #[.slice A0 l0.length c0] rfl (by (try simp only [List.map_toArray, List.map_cons, List.map_nil]); first | done | rfl | (simp only [List.length_drop, List.length_take]; rfl)) ?_; obtain ⟨N28, hN28⟩ : ∃ N_ : Nat, N_ = w26.heap.size := ⟨_, rfl⟩; have n0_ := Aside0.mk (S_ltN HO298.out hN28); clear HO298; have HO298 := n0_; clear n0_; (with_reducible refine (laws_toBoltS.calls k _ _ l0 t309 _ ?side1 ?side2 A15.out).mono ?_); (case side1 => repeat (first | exact (Kd.C_below HR0.out HB.out) | (with_reducible refine Kd.C_alloc ?_ _) | (with_reducible refine Kd.C_drewN ?_ _) | (with_reducible refine Kd.C_drew ?_))); (case side2 => exact HC0.out); rintro e w27 ⟨v310, rfl, ho0, hb⟩; refine ⟨_, rfl, ?_⟩; have n0_ := Aside0.mk (Kd.S_elder' (by (with_reducible repeat (first | apply Kd.S_alloc | apply Kd.S_drewN | apply Kd.S_drew)); exact HO298.out) (Kd.S_base ho0) hb); have n1_ := Aside0.mk (Kd.R_below (by (with_reducible repeat (first | apply Kd.R_alloc | apply Kd.R_drewN | apply Kd.R_drew)); exact HO301.out) hb); have n2_ := Aside0.mk (Kd.R_below (by (with_reducible repeat (first | apply Kd.R_alloc | apply Kd.R_drewN | apply Kd.R_drew)); exact HO304.out) hb); have n3_ := Aside0.mk (Kd.R_below (by (with_reducible repeat (first | apply Kd.R_alloc | apply Kd.R_drewN | apply Kd.R_drew)); exact HO308.out) hb); have n4_ := Aside0.mk (Kd.S_lower (S_geN (N := N28) (Kd.S_new' (Kd.S_new' (Kd.S_new' ho0 (Kd.S_lt (by (with_reducible repeat (first | apply Kd.S_alloc | apply Kd.S_drewN | apply Kd.S_drew)); exact HO298.out))) (Kd.R_lt (by (with_reducible repeat (first | apply Kd.R_alloc | apply Kd.R_drewN | apply Kd.R_drew)); exact HO301.out))) (Kd.R_lt (by (with_reducible repeat (first | apply Kd.R_alloc | apply Kd.R_drewN | apply Kd.R_drew)); exact HO308.out))) (by rw [hN28]; (try simp only [sz_set, sz_drewN, sz_drew]); first | exact Nat.le_refl _ | exact below_size (by repeat (first | exact Below.refl _ _ | apply below_alloc | apply pw_below_drewN | apply below_drew1)))) (below_size (by repeat (first | (with_reducible first | exact HB.out | apply below_alloc | apply pw_below_drewN | apply below_drew1) | exact HB.out)))); have n5_ := pS HB hb; clear HO298 HO301; clear HO304 HO308 HB; have HO298 := n0_; have HO301 := n1_; have HO304 := n2_; have HO308 := n3_; have HO311 := n4_; have HB := n5_; clear n0_ n1_ n2_ n3_ n4_ n5_; (try clear hb); (try clear hb2); (try clear hk); (try clear hi); (try clear ho0); (try clear hN28)) | ((with_reducible refine gate_callee (f := 23) rfl ?_); refine goesL_ (some 46) rfl rfl Try.func23 (by kernel_rfl) rfl #[.slice A1 l1.length c1] rfl (by (try simp only [List.map_toArray, List.map_cons, List.map_nil]); first | done | rfl | (simp only [List.length_drop, List.length_take]; rfl)) ?_; (with_reducible refine (laws_toInt64S.calls k _ _ l1 t312 _ ?side1 ?side2 A16.out).mono ?_); (case side1 => repeat (first | exact (Kd.C_below HR1.out HB.out) | (with_reducible refine Kd.C_alloc ?_ _) | (with_reducible refine Kd.C_drewN ?_ _) | (with_reducible refine Kd.C_drew ?_))); (case side2 => exact HC1.out); rintro e w29 ⟨v313, rfl, ho0, hb⟩; refine ⟨_, rfl, ?_⟩; have n0_ := Aside0.mk (Kd.S_elder' (by (with_reducible repeat (first | apply Kd.S_alloc | apply Kd.S_drewN | apply Kd.S_drew)); exact HO298.out) (Kd.R_base ho0) hb); have n1_ := Aside0.mk (Kd.R_elder' (by (with_reducible repeat (first | apply Kd.R_alloc | apply Kd.R_drewN | apply Kd.R_drew)); exact HO301.out) (Kd.R_base ho0) hb); have n2_ := Aside0.mk (Kd.R_below (by (with_reducible repeat (first | apply Kd.R_alloc | apply Kd.R_drewN | apply Kd.R_drew)); exact HO304.out) hb); have n3_ := Aside0.mk (Kd.R_elder' (by (with_reducible repeat (first | apply Kd.R_alloc | apply Kd.R_drewN | apply Kd.R_drew)); exact HO308.out) (Kd.R_base ho0) hb); have n4_ := Aside0.mk (Kd.S_elder' (by (with_reducible repeat (first | apply Kd.S_alloc | apply Kd.S_drewN | apply Kd.S_drew)); exact HO311.out) (Kd.R_base ho0) hb); have n5_ := Aside0.mk (Kd.R_lower (Kd.R_new' (Kd.R_new' ho0 (Kd.R_lt (by (with_reducible repeat (first | apply Kd.R_alloc | apply Kd.R_drewN | apply Kd.R_drew)); exact HO301.out))) (Kd.R_lt (by (with_reducible repeat (first | apply Kd.R_alloc | apply Kd.R_drewN | apply Kd.R_drew)); exact HO308.out))) (below_size (by repeat (first | (with_reducible first | exact HB.out | apply below_alloc | apply pw_below_drewN | apply below_drew1) | exact HB.out)))); have n6_ := pS HB hb; clear HO298 HO301; clear HO304 HO308; clear HO311 HB; have HO298 := n0_; have HO301 := n1_; have HO304 := n2_; have HO308 := n3_; have HO311 := n4_; have HO314 := n5_; have HB := n6_; clear n0_ n1_ n2_ n3_ n4_ n5_ n6_; (try clear hb); (try clear hb2); (try clear hk); (try clear hi); (try clear ho0)) | ((with_reducible refine gate_callee (f := 34) rfl ?_); refine goesL_ (some 48) rfl rfl Try.func34 (by kernel_rfl) rfl #[.slice A2 l2.length c2] rfl (by (try simp only [List.map_toArray, List.map_cons, List.map_nil]); first | done | rfl | (simp only [List.length_drop, List.length_take]; rfl)) ?_; (with_reducible refine (laws_toPieceS.calls k _ _ l2 t315 _ ?side1 ?side2 A17.out).mono ?_); (case side1 => repeat (first | exact (Kd.C_below HR2.out HB.out) | (with_reducible refine Kd.C_alloc ?_ _) | (with_reducible refine Kd.C_drewN ?_ _) | (with_reducible refine Kd.C_drew ?_))); (case side2 => exact HC2.out); rintro e w30 ⟨v316, rfl, ho0, hb⟩; refine ⟨_, rfl, ?_⟩; have n0_ := Aside0.mk (Kd.S_below (by (with_reducible repeat (first | apply Kd.S_alloc | apply Kd.S_drewN | apply Kd.S_drew)); exact HO298.out) hb); have n1_ := Aside0.mk (Kd.R_below (by (with_reducible repeat (first | apply Kd.R_alloc | apply Kd.R_drewN | apply Kd.R_drew)); exact HO301.out) hb); have n2_ := Aside0.mk (Kd.R_elder' (by (with_reducible repeat (first | apply Kd.R_alloc | apply Kd.R_drewN | apply Kd.R_drew)); exact HO304.out) (Kd.R_base ho0) hb); have n3_ := Aside0.mk (Kd.R_below (by (with_reducible repeat (first | apply Kd.R_alloc | apply Kd.R_drewN | apply Kd.R_drew)); exact HO308.out) hb); have n4_ := Aside0.mk (Kd.S_below (by (with_reducible repeat (first | apply Kd.S_alloc | apply Kd.S_drewN | apply Kd.S_drew)); exact HO311.out) hb); have n5_ := Aside0.mk (Kd.R_below (by (with_reducible repeat (first | apply Kd.R_alloc | apply Kd.R_drewN | apply Kd.R_drew)); exact HO314.out) hb); have n6_ := Aside0.mk (Kd.R_lower (Kd.R_new' ho0 (Kd.R_lt (by (with_reducible repeat (first | apply Kd.R_alloc | apply Kd.R_drewN | apply Kd.R_drew)); exact HO304.out))) (below_size (by repeat (first | (with_reducible first | exact HB.out | apply below_alloc | apply pw_below_drewN | apply below_drew1) | exact HB.out)))); have n7_ := pS HB hb; clear HO298 HO301; clear HO304 HO308; clear HO311 HO314 HB; have HO298 := n0_; have HO301 := n1_; have HO304 := n2_; have HO308 := n3_; have HO311 := n4_; have HO314 := n5_; have HO317 := n6_; have HB := n7_; clear n0_ n1_ n2_ n3_ n4_ n5_ n6_ n7_; (try clear hb); (try clear hb2); (try clear hk); (try clear hi); (try clear ho0); obtain ⟨Ao31, co31, eo31⟩ := Kd.S_slice HO311.out; subst eo31; obtain ⟨Ao32, co32, eo32⟩ := Kd.R_slice HO314.out; subst eo32; obtain ⟨Ao33, co33, eo33⟩ := Kd.R_slice HO317.out; subst eo33) | ((with_reducible refine gate_callee (f := 35) rfl ?_); refine goesL_ (some 53) rfl rfl Try.func35 (by kernel_rfl) rfl #[.slice Ao31 t309.length co31, .slice Ao32 t312.length co32, .slice Ao33 t315.length co33] rfl (by (try simp only [List.map_toArray, List.map_cons, List.map_nil]); first | done | rfl | (simp only [List.length_drop, List.length_take]; rfl)) ?_; (with_reducible refine (impl_ClothLeft.calls k _ _ t309 _ _ t312 _ _ t315 t318 t319 _ ?side1 ?side2 ?side3 ?side4 ?side5 ?side6 A18.out).mono ?_); (case side1 => repeat (first | exact (Kd.S_reads' HO311.out).2.2 | (with_reducible refine Kd.C_alloc ?_ _) | (with_reducible refine Kd.C_drewN ?_ _) | (with_reducible refine Kd.C_drew ?_))); (case side2 => exact (Kd.S_reads' HO311.out).2.1); (case side3 => repeat (first | exact (Kd.R_reads' HO314.out).2.2 | (with_reducible refine Kd.C_alloc ?_ _) | (with_reducible refine Kd.C_drewN ?_ _) | (with_reducible refine Kd.C_drew ?_))); (case side4 => exact (Kd.R_reads' HO314.out).2.1); (case side5 => repeat (first | exact (Kd.R_reads' HO317.out).2.2 | (with_reducible refine Kd.C_alloc ?_ _) | (with_reducible refine Kd.C_drewN ?_ _) | (with_reducible refine Kd.C_drew ?_))); (case side6 => exact (Kd.R_reads' HO317.out).2.1); rintro e w34 ⟨v320, rfl, ho0, hb⟩; refine ⟨_, rfl, ?_⟩; have n0_ := Aside0.mk (Kd.S_elder' (by (with_reducible repeat (first | apply Kd.S_alloc | apply Kd.S_drewN | apply Kd.S_drew)); exact HO298.out) (Kd.R_base ho0) hb); have n1_ := Aside0.mk (Kd.R_elder' (by (with_reducible repeat (first | apply Kd.R_alloc | apply Kd.R_drewN | apply Kd.R_drew)); exact HO301.out) (Kd.R_base ho0) hb); have n2_ := Aside0.mk (Kd.R_below (by (with_reducible repeat (first | apply Kd.R_alloc | apply Kd.R_drewN | apply Kd.R_drew)); exact HO304.out) hb); have n3_ := Aside0.mk (Kd.R_elder' (by (with_reducible repeat (first | apply Kd.R_alloc | apply Kd.R_drewN | apply Kd.R_drew)); exact HO308.out) (Kd.R_base ho0) hb); have n4_ := Aside0.mk (Kd.S_elder' (by (with_reducible repeat (first | apply Kd.S_alloc | apply Kd.S_drewN | apply Kd.S_drew)); exact HO311.out) (Kd.R_base ho0) hb); have n5_ := Aside0.mk (Kd.R_elder' (by (with_reducible repeat (first | apply Kd.R_alloc | apply Kd.R_drewN | apply Kd.R_drew)); exact HO314.out) (Kd.R_base ho0) hb); have n6_ := Aside0.mk (Kd.R_below (by (with_reducible repeat (first | apply Kd.R_alloc | apply Kd.R_drewN | apply Kd.R_drew)); exact HO317.out) hb); have n7_ := Aside0.mk (Kd.R_lower (Kd.R_new' (Kd.R_new' (Kd.R_new' ho0 (Kd.R_lt (by (with_reducible repeat (first | apply Kd.R_alloc | apply Kd.R_drewN | apply Kd.R_drew)); exact HO301.out))) (Kd.R_lt (by (with_reducible repeat (first | apply Kd.R_alloc | apply Kd.R_drewN | apply Kd.R_drew)); exact HO308.out))) (Kd.R_lt (by (with_reducible repeat (first | apply Kd.R_alloc | apply Kd.R_drewN | apply Kd.R_drew)); exact HO314.out))) (below_size (by repeat (first | (with_reducible first | exact HB.out | apply below_alloc | apply pw_below_drewN | apply below_drew1) | exact HB.out)))); have n8_ := pS HB hb; clear HO298 HO301; clear HO304 HO308; clear HO311 HO314; clear HO317 HB; have HO298 := n0_; have HO301 := n1_; have HO304 := n2_; have HO308 := n3_; have HO311 := n4_; have HO314 := n5_; have HO317 := n6_; have HO321 := n7_; have HB := n8_; clear n0_ n1_ n2_ n3_ n4_ n5_ n6_ n7_ n8_; (try clear hb); (try clear hb2); (try clear hk); (try clear hi); (try clear ho0)))
    (try simp only [Act.put, List.setIfInBounds_toArray, List.set_cons_zero, List.set_cons_succ])
    go_cut [64] (fun v64 wc => ∃ (kq : Nat) (x64_18 : Bool), v64 = .bool x64_18 ∧ Aside0 (laws_FnExactClothLeft.j0 kq l0 l1 l2 t305 t306 t309 t312 t315 t318 t319 x64_18 = some r) ∧ Aside0 (kq ≤ k) ∧ Aside0 (Kd.R (Kd.int .i64) 2 wc w.heap.size (fun k_ => some k_ ≠ ((.slice Ao32 t312.length co32) : Value).ownBlock ∧ some k_ ≠ (v320 : Value).ownBlock) v307 t305) ∧ Aside0 (Kd.S k29 29 wc w.heap.size (fun k_ => some k_ ≠ (v307 : Value).ownBlock ∧ some k_ ≠ ((.slice Ao32 t312.length co32) : Value).ownBlock ∧ some k_ ≠ (v320 : Value).ownBlock ∧ k_ ≠ (geN N28 k_)) (.slice Ao31 t309.length co31) t309) ∧ Aside0 (Kd.R (Kd.int .i64) 2 wc w.heap.size (fun k_ => some k_ ≠ (v307 : Value).ownBlock ∧ some k_ ≠ (v320 : Value).ownBlock) (.slice Ao32 t312.length co32) t312) ∧ Aside0 (Kd.R k114 114 wc w.heap.size (fun _ => True) (.slice Ao33 t315.length co33) t315) ∧ Aside0 (Kd.R (Kd.int .i64) 2 wc w.heap.size (fun k_ => some k_ ≠ (v307 : Value).ownBlock ∧ some k_ ≠ ((.slice Ao32 t312.length co32) : Value).ownBlock) v320 t318) ∧ Aside0 (Below w.heap.size w wc))
    case first =>
     have H := HC19.out
     clear HC19
     replace H := Option.bind_eq_some_iff.mp H
     obtain ⟨t322, A350, H⟩ := H
     replace H : (if t322 = true then (laws_FnExactClothLeft.j0 k l0 l1 l2 t305 t306 t309 t312 t315 t318 t319 (t319 != t306)) else (laws_FnExactClothLeft.j0 k l0 l1 l2 t305 t306 t309 t312 t315 t318 t319 true)) = some r := H
     have A35 := Aside0.mk A350
     clear A350
     by_cases c36 : t322 = true
     ·subst c36
      have H1 : (laws_FnExactClothLeft.j0 k l0 l1 l2 t305 t306 t309 t312 t315 t318 t319 (t319 != t306)) = some r := by rw [if_pos rfl] at H; exact H
      clear H
      have H := H1
      clear H1
      have H' := Aside0.mk H
      clear H
      obtain ⟨Ao37, co37, eo37⟩ := Kd.R_slice HO321.out
      subst eo37
      obtain ⟨Ao38, co38, eo38⟩ := Kd.R_slice HO308.out
      subst eo38
      go_wp2_with (first | ((with_reducible refine gate_callee (f := 27) rfl ?_); refine goesL_ (some 58) rfl rfl Try.func27 (by kernel_rfl) rfl #[.slice Ao37 t318.length co37, .slice Ao38 t305.length co38] rfl (by (try simp only [List.map_toArray, List.map_cons, List.map_nil]); first | done | rfl | (simp only [List.length_drop, List.length_take]; rfl)) ?_; (with_reducible refine (laws_eqInt64S.calls k _ _ t318 _ _ t305 true _ ?side1 ?side2 ?side3 ?side4 A35.out).mono ?_); (case side1 => repeat (first | exact (Kd.R_reads' HO321.out).2.2 | (with_reducible refine Kd.C_alloc ?_ _) | (with_reducible refine Kd.C_drewN ?_ _) | (with_reducible refine Kd.C_drew ?_))); (case side2 => exact (Kd.R_reads' HO321.out).2.1); (case side3 => repeat (first | exact (Kd.R_reads' HO308.out).2.2 | (with_reducible refine Kd.C_alloc ?_ _) | (with_reducible refine Kd.C_drewN ?_ _) | (with_reducible refine Kd.C_drew ?_))); (case side4 => exact (Kd.R_reads' HO308.out).2.1); rintro e w' ⟨rfl, ⟨nd, rfl⟩⟩; refine ⟨_, rfl, ?_⟩))
      go_meet
      case rel => exact ⟨_, ((t319 != t306)), (by first | rfl | (simp; done) | (simp [*]; done)), H', ⟨by first | omega | exact Nat.le_refl _⟩, ⟨by (with_reducible repeat (first | apply Kd.R_alloc | apply Kd.R_drewN | apply Kd.R_drew)); exact Kd.R_mono HO308.out (fun _ hk => ⟨hk.1.2, hk.2⟩)⟩, ⟨by (with_reducible repeat (first | apply Kd.S_alloc | apply Kd.S_drewN | apply Kd.S_drew)); exact Kd.S_mono HO311.out (fun _ hk => ⟨hk.1.1.1.2, ⟨hk.1.2, ⟨hk.2, hk.1.1.2⟩⟩⟩)⟩, ⟨by (with_reducible repeat (first | apply Kd.R_alloc | apply Kd.R_drewN | apply Kd.R_drew)); exact Kd.R_mono HO314.out (fun _ hk => ⟨hk.1.2, hk.2⟩)⟩, ⟨by (with_reducible repeat (first | apply Kd.R_alloc | apply Kd.R_drewN | apply Kd.R_drew)); exact Kd.R_mono HO317.out (fun _ hk => trivial)⟩, ⟨by (with_reducible repeat (first | apply Kd.R_alloc | apply Kd.R_drewN | apply Kd.R_drew)); exact Kd.R_mono HO321.out (fun _ hk => ⟨hk.1.2, hk.2⟩)⟩, ⟨by repeat (first | (with_reducible first | exact HB.out | apply below_alloc | apply pw_below_drewN | apply below_drew1) | exact HB.out)⟩⟩
     ·replace c36 := Bool.eq_false_iff.mpr c36
      subst c36
      have H1 : (laws_FnExactClothLeft.j0 k l0 l1 l2 t305 t306 t309 t312 t315 t318 t319 true) = some r := by rw [if_neg (show ¬ (false = true) by decide)] at H; exact H
      clear H
      have H := H1
      clear H1
      have H' := Aside0.mk H
      clear H
      obtain ⟨Ao39, co39, eo39⟩ := Kd.R_slice HO321.out
      subst eo39
      obtain ⟨Ao40, co40, eo40⟩ := Kd.R_slice HO308.out
      subst eo40
      go_wp2_with (first | ((with_reducible refine gate_callee (f := 27) rfl ?_); refine goesL_ (some 58) rfl rfl Try.func27 (by kernel_rfl) rfl #[.slice Ao39 t318.length co39, .slice Ao40 t305.length co40] rfl (by (try simp only [List.map_toArray, List.map_cons, List.map_nil]); first | done | rfl | (simp only [List.length_drop, List.length_take]; rfl)) ?_; (with_reducible refine (laws_eqInt64S.calls k _ _ t318 _ _ t305 false _ ?side1 ?side2 ?side3 ?side4 A35.out).mono ?_); (case side1 => repeat (first | exact (Kd.R_reads' HO321.out).2.2 | (with_reducible refine Kd.C_alloc ?_ _) | (with_reducible refine Kd.C_drewN ?_ _) | (with_reducible refine Kd.C_drew ?_))); (case side2 => exact (Kd.R_reads' HO321.out).2.1); (case side3 => repeat (first | exact (Kd.R_reads' HO308.out).2.2 | (with_reducible refine Kd.C_alloc ?_ _) | (with_reducible refine Kd.C_drewN ?_ _) | (with_reducible refine Kd.C_drew ?_))); (case side4 => exact (Kd.R_reads' HO308.out).2.1); rintro e w' ⟨rfl, ⟨nd, rfl⟩⟩; refine ⟨_, rfl, ?_⟩))
      go_meet
      case rel => exact ⟨_, (true), (by first | rfl | (simp; done) | (simp [*]; done)), H', ⟨by first | omega | exact Nat.le_refl _⟩, ⟨by (with_reducible repeat (first | apply Kd.R_alloc | apply Kd.R_drewN | apply Kd.R_drew)); exact Kd.R_mono HO308.out (fun _ hk => ⟨hk.1.2, hk.2⟩)⟩, ⟨by (with_reducible repeat (first | apply Kd.S_alloc | apply Kd.S_drewN | apply Kd.S_drew)); exact Kd.S_mono HO311.out (fun _ hk => ⟨hk.1.1.1.2, ⟨hk.1.2, ⟨hk.2, hk.1.1.2⟩⟩⟩)⟩, ⟨by (with_reducible repeat (first | apply Kd.R_alloc | apply Kd.R_drewN | apply Kd.R_drew)); exact Kd.R_mono HO314.out (fun _ hk => ⟨hk.1.2, hk.2⟩)⟩, ⟨by (with_reducible repeat (first | apply Kd.R_alloc | apply Kd.R_drewN | apply Kd.R_drew)); exact Kd.R_mono HO317.out (fun _ hk => trivial)⟩, ⟨by (with_reducible repeat (first | apply Kd.R_alloc | apply Kd.R_drewN | apply Kd.R_drew)); exact Kd.R_mono HO321.out (fun _ hk => ⟨hk.1.2, hk.2⟩)⟩, ⟨by repeat (first | (with_reducible first | exact HB.out | apply below_alloc | apply pw_below_drewN | apply below_drew1) | exact HB.out)⟩⟩
    case rest =>
     clear HC19
     try clear c1
     try clear c2
     try clear p2
     try clear c3
     try clear c4
     try clear c4b0
     try clear c4b1
     try clear c5
     try clear c6
     try clear c6b0
     try clear c10
     try clear c10b0
     try clear c20
     try clear c22
     try clear c23
     try clear c27
     try clear c32
     try clear c33
     try clear c34
     try clear c35
     try clear c36
     obtain ⟨kq, x64_18, rfl, HA, HJ18, HO_8, HO_10, HO_11, HO_12, HO_13, HB⟩ := hcut
     cases kq with
     | zero => exact absurd HA.out (by simp [laws_FnExactClothLeft.j0])
     | succ kj18 =>
      have H := HA.out
      clear HA
      simp only [laws_FnExactClothLeft.j0] at H
      by_cases c41 : x64_18 = true
      ·subst c41
       have H1 : (some false) = some r := by rw [if_pos rfl] at H; exact H
       clear H
       have H := H1
       clear H1
       obtain rfl := Option.some.inj H
       exact absurd HRT.out (by decide)
      ·replace c41 := Bool.eq_false_iff.mpr c41
       subst c41
       have H1 : ((laws_toBoltS.f kj18 l0).bind fun t323 => ((laws_eqBoltS.f kj18 t309 t323).bind fun t326 => (if t326 = true then ((laws_toInt64S.f kj18 l1).bind fun t327 => ((laws_eqInt64S.f kj18 t312 t327).bind fun t330 => (if t330 = true then ((laws_toPieceS.f kj18 l2).bind fun t331 => ((laws_eqPieceS.f kj18 t315 t331).bind fun t334 => (if t334 = true then ((laws_markBoltS.f kj18 t309 1).bind fun bt335 => ((laws_markInt64S.f kj18 t312 bt335.1).bind fun bt337 => ((laws_markPieceS.f kj18 t315 bt337.1).bind fun bt339 => (if bt339.1 < 0 then (laws_FnExactClothLeft.j1 kj18 l0 l1 l2 t305 t306 t318 true) else ((laws_eqInt64S.f kj18 t318 t305).bind fun t341 => (if t341 = true then (laws_FnExactClothLeft.j1 kj18 l0 l1 l2 t305 t306 t318 (t319 != t306)) else (laws_FnExactClothLeft.j1 kj18 l0 l1 l2 t305 t306 t318 true))))))) else (some false)))) else (some false)))) else (some false)))) = some r := by rw [if_neg (show ¬ (false = true) by decide)] at H; exact H
       clear H
       have H := H1
       clear H1
       replace H := Option.bind_eq_some_iff.mp H
       obtain ⟨t323, A420, H⟩ := H
       replace H : ((laws_eqBoltS.f kj18 t309 t323).bind fun t326 => (if t326 = true then ((laws_toInt64S.f kj18 l1).bind fun t327 => ((laws_eqInt64S.f kj18 t312 t327).bind fun t330 => (if t330 = true then ((laws_toPieceS.f kj18 l2).bind fun t331 => ((laws_eqPieceS.f kj18 t315 t331).bind fun t334 => (if t334 = true then ((laws_markBoltS.f kj18 t309 1).bind fun bt335 => ((laws_markInt64S.f kj18 t312 bt335.1).bind fun bt337 => ((laws_markPieceS.f kj18 t315 bt337.1).bind fun bt339 => (if bt339.1 < 0 then (laws_FnExactClothLeft.j1 kj18 l0 l1 l2 t305 t306 t318 true) else ((laws_eqInt64S.f kj18 t318 t305).bind fun t341 => (if t341 = true then (laws_FnExactClothLeft.j1 kj18 l0 l1 l2 t305 t306 t318 (t319 != t306)) else (laws_FnExactClothLeft.j1 kj18 l0 l1 l2 t305 t306 t318 true))))))) else (some false)))) else (some false)))) else (some false))) = some r := H
       have A42 := Aside0.mk A420
       clear A420
       replace H := Option.bind_eq_some_iff.mp H
       obtain ⟨t326, A430, H⟩ := H
       replace H : (if t326 = true then ((laws_toInt64S.f kj18 l1).bind fun t327 => ((laws_eqInt64S.f kj18 t312 t327).bind fun t330 => (if t330 = true then ((laws_toPieceS.f kj18 l2).bind fun t331 => ((laws_eqPieceS.f kj18 t315 t331).bind fun t334 => (if t334 = true then ((laws_markBoltS.f kj18 t309 1).bind fun bt335 => ((laws_markInt64S.f kj18 t312 bt335.1).bind fun bt337 => ((laws_markPieceS.f kj18 t315 bt337.1).bind fun bt339 => (if bt339.1 < 0 then (laws_FnExactClothLeft.j1 kj18 l0 l1 l2 t305 t306 t318 true) else ((laws_eqInt64S.f kj18 t318 t305).bind fun t341 => (if t341 = true then (laws_FnExactClothLeft.j1 kj18 l0 l1 l2 t305 t306 t318 (t319 != t306)) else (laws_FnExactClothLeft.j1 kj18 l0 l1 l2 t305 t306 t318 true))))))) else (some false)))) else (some false)))) else (some false)) = some r := H
       have A43 := Aside0.mk A430
       clear A430
       by_cases c44 : t326 = true
       ·subst c44
        have H1 : ((laws_toInt64S.f kj18 l1).bind fun t327 => ((laws_eqInt64S.f kj18 t312 t327).bind fun t330 => (if t330 = true then ((laws_toPieceS.f kj18 l2).bind fun t331 => ((laws_eqPieceS.f kj18 t315 t331).bind fun t334 => (if t334 = true then ((laws_markBoltS.f kj18 t309 1).bind fun bt335 => ((laws_markInt64S.f kj18 t312 bt335.1).bind fun bt337 => ((laws_markPieceS.f kj18 t315 bt337.1).bind fun bt339 => (if bt339.1 < 0 then (laws_FnExactClothLeft.j1 kj18 l0 l1 l2 t305 t306 t318 true) else ((laws_eqInt64S.f kj18 t318 t305).bind fun t341 => (if t341 = true then (laws_FnExactClothLeft.j1 kj18 l0 l1 l2 t305 t306 t318 (t319 != t306)) else (laws_FnExactClothLeft.j1 kj18 l0 l1 l2 t305 t306 t318 true))))))) else (some false)))) else (some false)))) = some r := by rw [if_pos rfl] at H; exact H
        clear H
        have H := H1
        clear H1
        replace H := Option.bind_eq_some_iff.mp H
        obtain ⟨t327, A450, H⟩ := H
        replace H : ((laws_eqInt64S.f kj18 t312 t327).bind fun t330 => (if t330 = true then ((laws_toPieceS.f kj18 l2).bind fun t331 => ((laws_eqPieceS.f kj18 t315 t331).bind fun t334 => (if t334 = true then ((laws_markBoltS.f kj18 t309 1).bind fun bt335 => ((laws_markInt64S.f kj18 t312 bt335.1).bind fun bt337 => ((laws_markPieceS.f kj18 t315 bt337.1).bind fun bt339 => (if bt339.1 < 0 then (laws_FnExactClothLeft.j1 kj18 l0 l1 l2 t305 t306 t318 true) else ((laws_eqInt64S.f kj18 t318 t305).bind fun t341 => (if t341 = true then (laws_FnExactClothLeft.j1 kj18 l0 l1 l2 t305 t306 t318 (t319 != t306)) else (laws_FnExactClothLeft.j1 kj18 l0 l1 l2 t305 t306 t318 true))))))) else (some false)))) else (some false))) = some r := H
        have A45 := Aside0.mk A450
        clear A450
        replace H := Option.bind_eq_some_iff.mp H
        obtain ⟨t330, A460, H⟩ := H
        replace H : (if t330 = true then ((laws_toPieceS.f kj18 l2).bind fun t331 => ((laws_eqPieceS.f kj18 t315 t331).bind fun t334 => (if t334 = true then ((laws_markBoltS.f kj18 t309 1).bind fun bt335 => ((laws_markInt64S.f kj18 t312 bt335.1).bind fun bt337 => ((laws_markPieceS.f kj18 t315 bt337.1).bind fun bt339 => (if bt339.1 < 0 then (laws_FnExactClothLeft.j1 kj18 l0 l1 l2 t305 t306 t318 true) else ((laws_eqInt64S.f kj18 t318 t305).bind fun t341 => (if t341 = true then (laws_FnExactClothLeft.j1 kj18 l0 l1 l2 t305 t306 t318 (t319 != t306)) else (laws_FnExactClothLeft.j1 kj18 l0 l1 l2 t305 t306 t318 true))))))) else (some false)))) else (some false)) = some r := H
        have A46 := Aside0.mk A460
        clear A460
        by_cases c47 : t330 = true
        ·subst c47
         have H1 : ((laws_toPieceS.f kj18 l2).bind fun t331 => ((laws_eqPieceS.f kj18 t315 t331).bind fun t334 => (if t334 = true then ((laws_markBoltS.f kj18 t309 1).bind fun bt335 => ((laws_markInt64S.f kj18 t312 bt335.1).bind fun bt337 => ((laws_markPieceS.f kj18 t315 bt337.1).bind fun bt339 => (if bt339.1 < 0 then (laws_FnExactClothLeft.j1 kj18 l0 l1 l2 t305 t306 t318 true) else ((laws_eqInt64S.f kj18 t318 t305).bind fun t341 => (if t341 = true then (laws_FnExactClothLeft.j1 kj18 l0 l1 l2 t305 t306 t318 (t319 != t306)) else (laws_FnExactClothLeft.j1 kj18 l0 l1 l2 t305 t306 t318 true))))))) else (some false)))) = some r := by rw [if_pos rfl] at H; exact H
         clear H
         have H := H1
         clear H1
         replace H := Option.bind_eq_some_iff.mp H
         obtain ⟨t331, A480, H⟩ := H
         replace H : ((laws_eqPieceS.f kj18 t315 t331).bind fun t334 => (if t334 = true then ((laws_markBoltS.f kj18 t309 1).bind fun bt335 => ((laws_markInt64S.f kj18 t312 bt335.1).bind fun bt337 => ((laws_markPieceS.f kj18 t315 bt337.1).bind fun bt339 => (if bt339.1 < 0 then (laws_FnExactClothLeft.j1 kj18 l0 l1 l2 t305 t306 t318 true) else ((laws_eqInt64S.f kj18 t318 t305).bind fun t341 => (if t341 = true then (laws_FnExactClothLeft.j1 kj18 l0 l1 l2 t305 t306 t318 (t319 != t306)) else (laws_FnExactClothLeft.j1 kj18 l0 l1 l2 t305 t306 t318 true))))))) else (some false))) = some r := H
         have A48 := Aside0.mk A480
         clear A480
         replace H := Option.bind_eq_some_iff.mp H
         obtain ⟨t334, A490, H⟩ := H
         replace H : (if t334 = true then ((laws_markBoltS.f kj18 t309 1).bind fun bt335 => ((laws_markInt64S.f kj18 t312 bt335.1).bind fun bt337 => ((laws_markPieceS.f kj18 t315 bt337.1).bind fun bt339 => (if bt339.1 < 0 then (laws_FnExactClothLeft.j1 kj18 l0 l1 l2 t305 t306 t318 true) else ((laws_eqInt64S.f kj18 t318 t305).bind fun t341 => (if t341 = true then (laws_FnExactClothLeft.j1 kj18 l0 l1 l2 t305 t306 t318 (t319 != t306)) else (laws_FnExactClothLeft.j1 kj18 l0 l1 l2 t305 t306 t318 true))))))) else (some false)) = some r := H
         have A49 := Aside0.mk A490
         clear A490
         by_cases c50 : t334 = true
         ·subst c50
          have H1 : ((laws_markBoltS.f kj18 t309 1).bind fun bt335 => ((laws_markInt64S.f kj18 t312 bt335.1).bind fun bt337 => ((laws_markPieceS.f kj18 t315 bt337.1).bind fun bt339 => (if bt339.1 < 0 then (laws_FnExactClothLeft.j1 kj18 l0 l1 l2 t305 t306 t318 true) else ((laws_eqInt64S.f kj18 t318 t305).bind fun t341 => (if t341 = true then (laws_FnExactClothLeft.j1 kj18 l0 l1 l2 t305 t306 t318 (t319 != t306)) else (laws_FnExactClothLeft.j1 kj18 l0 l1 l2 t305 t306 t318 true))))))) = some r := by rw [if_pos rfl] at H; exact H
          clear H
          have H := H1
          clear H1
          replace H := Option.bind_eq_some_iff.mp H
          obtain ⟨⟨t335, t336⟩, A510, H⟩ := H
          replace H : ((laws_markInt64S.f kj18 t312 t335).bind fun bt337 => ((laws_markPieceS.f kj18 t315 bt337.1).bind fun bt339 => (if bt339.1 < 0 then (laws_FnExactClothLeft.j1 kj18 l0 l1 l2 t305 t306 t318 true) else ((laws_eqInt64S.f kj18 t318 t305).bind fun t341 => (if t341 = true then (laws_FnExactClothLeft.j1 kj18 l0 l1 l2 t305 t306 t318 (t319 != t306)) else (laws_FnExactClothLeft.j1 kj18 l0 l1 l2 t305 t306 t318 true)))))) = some r := H
          have A51 := Aside0.mk A510
          clear A510
          replace H := Option.bind_eq_some_iff.mp H
          obtain ⟨⟨t337, t338⟩, A520, H⟩ := H
          replace H : ((laws_markPieceS.f kj18 t315 t337).bind fun bt339 => (if bt339.1 < 0 then (laws_FnExactClothLeft.j1 kj18 l0 l1 l2 t305 t306 t318 true) else ((laws_eqInt64S.f kj18 t318 t305).bind fun t341 => (if t341 = true then (laws_FnExactClothLeft.j1 kj18 l0 l1 l2 t305 t306 t318 (t319 != t306)) else (laws_FnExactClothLeft.j1 kj18 l0 l1 l2 t305 t306 t318 true))))) = some r := H
          have A52 := Aside0.mk A520
          clear A520
          replace H := Option.bind_eq_some_iff.mp H
          obtain ⟨⟨t339, t340⟩, A530, H⟩ := H
          replace H : (if t339 < 0 then (laws_FnExactClothLeft.j1 kj18 l0 l1 l2 t305 t306 t318 true) else ((laws_eqInt64S.f kj18 t318 t305).bind fun t341 => (if t341 = true then (laws_FnExactClothLeft.j1 kj18 l0 l1 l2 t305 t306 t318 (t319 != t306)) else (laws_FnExactClothLeft.j1 kj18 l0 l1 l2 t305 t306 t318 true)))) = some r := H
          have A53 := Aside0.mk A530
          clear A530
          have HC54 := Aside0.mk H
          clear H
          go_upto_region 27 with (first | ((with_reducible refine gate_callee (f := 22) rfl ?_); refine goesL_ (some 67) rfl rfl Try.func22 (by kernel_rfl) rfl #[.slice A0 l0.length c0] rfl (by (try simp only [List.map_toArray, List.map_cons, List.map_nil]); first | done | rfl | (simp only [List.length_drop, List.length_take]; rfl)) ?_; obtain ⟨N56, hN56⟩ : ∃ N_ : Nat, N_ = wc.heap.size := ⟨_, rfl⟩; have n0_ := Aside0.mk (S_ltN HO_10.out hN56); clear HO_10; have HO_10 := n0_; clear n0_; (with_reducible refine (laws_toBoltS.calls kj18 _ _ l0 t323 _ ?side1 ?side2 A42.out).mono ?_); (case side1 => repeat (first | exact (Kd.C_below HR0.out HB.out) | (with_reducible refine Kd.C_alloc ?_ _) | (with_reducible refine Kd.C_drewN ?_ _) | (with_reducible refine Kd.C_drew ?_))); (case side2 => exact HC0.out); rintro e w55 ⟨v324, rfl, ho0, hb⟩; refine ⟨_, rfl, ?_⟩; have n0_ := Aside0.mk (Kd.R_below (by (with_reducible repeat (first | apply Kd.R_alloc | apply Kd.R_drewN | apply Kd.R_drew)); exact HO_8.out) hb); have n1_ := Aside0.mk (Kd.S_elder' (by (with_reducible repeat (first | apply Kd.S_alloc | apply Kd.S_drewN | apply Kd.S_drew)); exact HO_10.out) (Kd.S_base ho0) hb); have n2_ := Aside0.mk (Kd.R_below (by (with_reducible repeat (first | apply Kd.R_alloc | apply Kd.R_drewN | apply Kd.R_drew)); exact HO_11.out) hb); have n3_ := Aside0.mk (Kd.R_below (by (with_reducible repeat (first | apply Kd.R_alloc | apply Kd.R_drewN | apply Kd.R_drew)); exact HO_12.out) hb); have n4_ := Aside0.mk (Kd.R_below (by (with_reducible repeat (first | apply Kd.R_alloc | apply Kd.R_drewN | apply Kd.R_drew)); exact HO_13.out) hb); have n5_ := Aside0.mk (Kd.S_lower (S_geN (N := N56) (Kd.S_new' (Kd.S_new' (Kd.S_new' (Kd.S_new' ho0 (Kd.R_lt (by (with_reducible repeat (first | apply Kd.R_alloc | apply Kd.R_drewN | apply Kd.R_drew)); exact HO_8.out))) (Kd.S_lt (by (with_reducible repeat (first | apply Kd.S_alloc | apply Kd.S_drewN | apply Kd.S_drew)); exact HO_10.out))) (Kd.R_lt (by (with_reducible repeat (first | apply Kd.R_alloc | apply Kd.R_drewN | apply Kd.R_drew)); exact HO_11.out))) (Kd.R_lt (by (with_reducible repeat (first | apply Kd.R_alloc | apply Kd.R_drewN | apply Kd.R_drew)); exact HO_13.out))) (by rw [hN56]; (try simp only [sz_set, sz_drewN, sz_drew]); first | exact Nat.le_refl _ | exact below_size (by repeat (first | exact Below.refl _ _ | apply below_alloc | apply pw_below_drewN | apply below_drew1)))) (below_size (by repeat (first | (with_reducible first | exact HB.out | apply below_alloc | apply pw_below_drewN | apply below_drew1) | exact HB.out)))); have n6_ := pS HB hb; clear HO_8 HO_10; clear HO_11 HO_12; clear HO_13 HB; have HO_8 := n0_; have HO_10 := n1_; have HO_11 := n2_; have HO_12 := n3_; have HO_13 := n4_; have HO325 := n5_; have HB := n6_; clear n0_ n1_ n2_ n3_ n4_ n5_ n6_; (try clear hb); (try clear hb2); (try clear hk); (try clear hi); (try clear ho0); (try clear hN56); obtain ⟨Ao57, co57, eo57⟩ := Kd.S_slice HO325.out; subst eo57) | ((with_reducible refine gate_callee (f := 26) rfl ?_); refine goesL_ (some 68) rfl rfl Try.func26 (by kernel_rfl) rfl #[.slice Ao31 t309.length co31, .slice Ao57 t323.length co57] rfl (by (try simp only [List.map_toArray, List.map_cons, List.map_nil]); first | done | rfl | (simp only [List.length_drop, List.length_take]; rfl)) ?_; (with_reducible refine (laws_eqBoltS.calls kj18 _ _ t309 _ _ t323 true _ ?side1 ?side2 ?side3 ?side4 A43.out).mono ?_); (case side1 => repeat (first | exact (Kd.S_reads' HO_10.out).2.2 | (with_reducible refine Kd.C_alloc ?_ _) | (with_reducible refine Kd.C_drewN ?_ _) | (with_reducible refine Kd.C_drew ?_))); (case side2 => exact (Kd.S_reads' HO_10.out).2.1); (case side3 => repeat (first | exact (Kd.S_reads' HO325.out).2.2 | (with_reducible refine Kd.C_alloc ?_ _) | (with_reducible refine Kd.C_drewN ?_ _) | (with_reducible refine Kd.C_drew ?_))); (case side4 => exact (Kd.S_reads' HO325.out).2.1); rintro e w58 ⟨rfl, hb⟩; refine ⟨_, rfl, ?_⟩; have n0_ := Aside0.mk (Kd.R_below (by (with_reducible repeat (first | apply Kd.R_alloc | apply Kd.R_drewN | apply Kd.R_drew)); exact HO_8.out) hb); have n1_ := Aside0.mk (Kd.S_below (by (with_reducible repeat (first | apply Kd.S_alloc | apply Kd.S_drewN | apply Kd.S_drew)); exact HO_10.out) hb); have n2_ := Aside0.mk (Kd.R_below (by (with_reducible repeat (first | apply Kd.R_alloc | apply Kd.R_drewN | apply Kd.R_drew)); exact HO_11.out) hb); have n3_ := Aside0.mk (Kd.R_below (by (with_reducible repeat (first | apply Kd.R_alloc | apply Kd.R_drewN | apply Kd.R_drew)); exact HO_12.out) hb); have n4_ := Aside0.mk (Kd.R_below (by (with_reducible repeat (first | apply Kd.R_alloc | apply Kd.R_drewN | apply Kd.R_drew)); exact HO_13.out) hb); have n5_ := Aside0.mk (Kd.S_below (by (with_reducible repeat (first | apply Kd.S_alloc | apply Kd.S_drewN | apply Kd.S_drew)); exact HO325.out) hb); have n6_ := pS HB hb; clear HO_8 HO_10; clear HO_11 HO_12; clear HO_13 HO325 HB; have HO_8 := n0_; have HO_10 := n1_; have HO_11 := n2_; have HO_12 := n3_; have HO_13 := n4_; have HO325 := n5_; have HB := n6_; clear n0_ n1_ n2_ n3_ n4_ n5_ n6_; (try clear hb); (try clear hb2); (try clear hk); (try clear hi)) | ((with_reducible refine gate_callee (f := 23) rfl ?_); refine goesL_ (some 72) rfl rfl Try.func23 (by kernel_rfl) rfl #[.slice A1 l1.length c1] rfl (by (try simp only [List.map_toArray, List.map_cons, List.map_nil]); first | done | rfl | (simp only [List.length_drop, List.length_take]; rfl)) ?_; (with_reducible refine (laws_toInt64S.calls kj18 _ _ l1 t327 _ ?side1 ?side2 A45.out).mono ?_); (case side1 => repeat (first | exact (Kd.C_below HR1.out HB.out) | (with_reducible refine Kd.C_alloc ?_ _) | (with_reducible refine Kd.C_drewN ?_ _) | (with_reducible refine Kd.C_drew ?_))); (case side2 => exact HC1.out); rintro e w59 ⟨v328, rfl, ho0, hb⟩; refine ⟨_, rfl, ?_⟩; have n0_ := Aside0.mk (Kd.R_elder' (by (with_reducible repeat (first | apply Kd.R_alloc | apply Kd.R_drewN | apply Kd.R_drew)); exact HO_8.out) (Kd.R_base ho0) hb); have n1_ := Aside0.mk (Kd.S_elder' (by (with_reducible repeat (first | apply Kd.S_alloc | apply Kd.S_drewN | apply Kd.S_drew)); exact HO_10.out) (Kd.R_base ho0) hb); have n2_ := Aside0.mk (Kd.R_elder' (by (with_reducible repeat (first | apply Kd.R_alloc | apply Kd.R_drewN | apply Kd.R_drew)); exact HO_11.out) (Kd.R_base ho0) hb); have n3_ := Aside0.mk (Kd.R_below (by (with_reducible repeat (first | apply Kd.R_alloc | apply Kd.R_drewN | apply Kd.R_drew)); exact HO_12.out) hb); have n4_ := Aside0.mk (Kd.R_elder' (by (with_reducible repeat (first | apply Kd.R_alloc | apply Kd.R_drewN | apply Kd.R_drew)); exact HO_13.out) (Kd.R_base ho0) hb); have n5_ := Aside0.mk (Kd.S_elder' (by (with_reducible repeat (first | apply Kd.S_alloc | apply Kd.S_drewN | apply Kd.S_drew)); exact HO325.out) (Kd.R_base ho0) hb); have n6_ := Aside0.mk (Kd.R_lower (Kd.R_new' (Kd.R_new' (Kd.R_new' ho0 (Kd.R_lt (by (with_reducible repeat (first | apply Kd.R_alloc | apply Kd.R_drewN | apply Kd.R_drew)); exact HO_8.out))) (Kd.R_lt (by (with_reducible repeat (first | apply Kd.R_alloc | apply Kd.R_drewN | apply Kd.R_drew)); exact HO_11.out))) (Kd.R_lt (by (with_reducible repeat (first | apply Kd.R_alloc | apply Kd.R_drewN | apply Kd.R_drew)); exact HO_13.out))) (below_size (by repeat (first | (with_reducible first | exact HB.out | apply below_alloc | apply pw_below_drewN | apply below_drew1) | exact HB.out)))); have n7_ := pS HB hb; clear HO_8 HO_10; clear HO_11 HO_12; clear HO_13 HO325 HB; have HO_8 := n0_; have HO_10 := n1_; have HO_11 := n2_; have HO_12 := n3_; have HO_13 := n4_; have HO325 := n5_; have HO329 := n6_; have HB := n7_; clear n0_ n1_ n2_ n3_ n4_ n5_ n6_ n7_; (try clear hb); (try clear hb2); (try clear hk); (try clear hi); (try clear ho0); obtain ⟨Ao60, co60, eo60⟩ := Kd.R_slice HO329.out; subst eo60) | ((with_reducible refine gate_callee (f := 27) rfl ?_); refine goesL_ (some 73) rfl rfl Try.func27 (by kernel_rfl) rfl #[.slice Ao32 t312.length co32, .slice Ao60 t327.length co60] rfl (by (try simp only [List.map_toArray, List.map_cons, List.map_nil]); first | done | rfl | (simp only [List.length_drop, List.length_take]; rfl)) ?_; (with_reducible refine (laws_eqInt64S.calls kj18 _ _ t312 _ _ t327 true _ ?side1 ?side2 ?side3 ?side4 A46.out).mono ?_); (case side1 => repeat (first | exact (Kd.R_reads' HO_11.out).2.2 | (with_reducible refine Kd.C_alloc ?_ _) | (with_reducible refine Kd.C_drewN ?_ _) | (with_reducible refine Kd.C_drew ?_))); (case side2 => exact (Kd.R_reads' HO_11.out).2.1); (case side3 => repeat (first | exact (Kd.R_reads' HO329.out).2.2 | (with_reducible refine Kd.C_alloc ?_ _) | (with_reducible refine Kd.C_drewN ?_ _) | (with_reducible refine Kd.C_drew ?_))); (case side4 => exact (Kd.R_reads' HO329.out).2.1); rintro e w' ⟨rfl, ⟨nd, rfl⟩⟩; refine ⟨_, rfl, ?_⟩) | ((with_reducible refine gate_callee (f := 34) rfl ?_); refine goesL_ (some 77) rfl rfl Try.func34 (by kernel_rfl) rfl #[.slice A2 l2.length c2] rfl (by (try simp only [List.map_toArray, List.map_cons, List.map_nil]); first | done | rfl | (simp only [List.length_drop, List.length_take]; rfl)) ?_; (with_reducible refine (laws_toPieceS.calls kj18 _ _ l2 t331 _ ?side1 ?side2 A48.out).mono ?_); (case side1 => repeat (first | exact (Kd.C_below HR2.out (by repeat (first | (with_reducible first | exact HB.out | apply below_alloc | apply pw_below_drewN | apply below_drew1) | exact HB.out))) | (with_reducible refine Kd.C_alloc ?_ _) | (with_reducible refine Kd.C_drewN ?_ _) | (with_reducible refine Kd.C_drew ?_))); (case side2 => exact HC2.out); rintro e w61 ⟨v332, rfl, ho0, hb⟩; refine ⟨_, rfl, ?_⟩; have n0_ := Aside0.mk (Kd.R_below (by (with_reducible repeat (first | apply Kd.R_alloc | apply Kd.R_drewN | apply Kd.R_drew)); exact HO_8.out) hb); have n1_ := Aside0.mk (Kd.S_below (by (with_reducible repeat (first | apply Kd.S_alloc | apply Kd.S_drewN | apply Kd.S_drew)); exact HO_10.out) hb); have n2_ := Aside0.mk (Kd.R_below (by (with_reducible repeat (first | apply Kd.R_alloc | apply Kd.R_drewN | apply Kd.R_drew)); exact HO_11.out) hb); have n3_ := Aside0.mk (Kd.R_elder' (by (with_reducible repeat (first | apply Kd.R_alloc | apply Kd.R_drewN | apply Kd.R_drew)); exact HO_12.out) (Kd.R_base ho0) hb); have n4_ := Aside0.mk (Kd.R_below (by (with_reducible repeat (first | apply Kd.R_alloc | apply Kd.R_drewN | apply Kd.R_drew)); exact HO_13.out) hb); have n5_ := Aside0.mk (Kd.S_below (by (with_reducible repeat (first | apply Kd.S_alloc | apply Kd.S_drewN | apply Kd.S_drew)); exact HO325.out) hb); have n6_ := Aside0.mk (Kd.R_below (by (with_reducible repeat (first | apply Kd.R_alloc | apply Kd.R_drewN | apply Kd.R_drew)); exact HO329.out) hb); have n7_ := Aside0.mk (Kd.R_lower (Kd.R_new' ho0 (Kd.R_lt (by (with_reducible repeat (first | apply Kd.R_alloc | apply Kd.R_drewN | apply Kd.R_drew)); exact HO_12.out))) (below_size (by repeat (first | (with_reducible first | exact HB.out | apply below_alloc | apply pw_below_drewN | apply below_drew1) | exact HB.out)))); have n8_ := pS HB hb; clear HO_8 HO_10; clear HO_11 HO_12; clear HO_13 HO325; clear HO329 HB; have HO_8 := n0_; have HO_10 := n1_; have HO_11 := n2_; have HO_12 := n3_; have HO_13 := n4_; have HO325 := n5_; have HO329 := n6_; have HO333 := n7_; have HB := n8_; clear n0_ n1_ n2_ n3_ n4_ n5_ n6_ n7_ n8_; (try clear hb); (try clear hb2); (try clear hk); (try clear hi); (try clear ho0); obtain ⟨Ao62, co62, eo62⟩ := Kd.R_slice HO333.out; subst eo62) | ((with_reducible refine gate_callee (f := 25) rfl ?_); refine goesL_ (some 78) rfl rfl Try.func25 (by kernel_rfl) rfl #[.slice Ao33 t315.length co33, .slice Ao62 t331.length co62] rfl (by (try simp only [List.map_toArray, List.map_cons, List.map_nil]); first | done | rfl | (simp only [List.length_drop, List.length_take]; rfl)) ?_; (with_reducible refine (laws_eqPieceS.calls kj18 _ _ t315 _ _ t331 true _ ?side1 ?side2 ?side3 ?side4 A49.out).mono ?_); (case side1 => repeat (first | exact (Kd.R_reads' HO_12.out).2.2 | (with_reducible refine Kd.C_alloc ?_ _) | (with_reducible refine Kd.C_drewN ?_ _) | (with_reducible refine Kd.C_drew ?_))); (case side2 => exact (Kd.R_reads' HO_12.out).2.1); (case side3 => repeat (first | exact (Kd.R_reads' HO333.out).2.2 | (with_reducible refine Kd.C_alloc ?_ _) | (with_reducible refine Kd.C_drewN ?_ _) | (with_reducible refine Kd.C_drew ?_))); (case side4 => exact (Kd.R_reads' HO333.out).2.1); rintro e w63 ⟨rfl, hb⟩; refine ⟨_, rfl, ?_⟩; have n0_ := Aside0.mk (Kd.R_below (by (with_reducible repeat (first | apply Kd.R_alloc | apply Kd.R_drewN | apply Kd.R_drew)); exact HO_8.out) hb); have n1_ := Aside0.mk (Kd.S_below (by (with_reducible repeat (first | apply Kd.S_alloc | apply Kd.S_drewN | apply Kd.S_drew)); exact HO_10.out) hb); have n2_ := Aside0.mk (Kd.R_below (by (with_reducible repeat (first | apply Kd.R_alloc | apply Kd.R_drewN | apply Kd.R_drew)); exact HO_11.out) hb); have n3_ := Aside0.mk (Kd.R_below (by (with_reducible repeat (first | apply Kd.R_alloc | apply Kd.R_drewN | apply Kd.R_drew)); exact HO_12.out) hb); have n4_ := Aside0.mk (Kd.R_below (by (with_reducible repeat (first | apply Kd.R_alloc | apply Kd.R_drewN | apply Kd.R_drew)); exact HO_13.out) hb); have n5_ := Aside0.mk (Kd.S_below (by (with_reducible repeat (first | apply Kd.S_alloc | apply Kd.S_drewN | apply Kd.S_drew)); exact HO325.out) hb); have n6_ := Aside0.mk (Kd.R_below (by (with_reducible repeat (first | apply Kd.R_alloc | apply Kd.R_drewN | apply Kd.R_drew)); exact HO329.out) hb); have n7_ := Aside0.mk (Kd.R_below (by (with_reducible repeat (first | apply Kd.R_alloc | apply Kd.R_drewN | apply Kd.R_drew)); exact HO333.out) hb); have n8_ := pS HB hb; clear HO_8 HO_10; clear HO_11 HO_12; clear HO_13 HO325; clear HO329 HO333 HB; have HO_8 := n0_; have HO_10 := n1_; have HO_11 := n2_; have HO_12 := n3_; have HO_13 := n4_; have HO325 := n5_; have HO329 := n6_; have HO333 := n7_; have HB := n8_; clear n0_ n1_ n2_ n3_ n4_ n5_ n6_ n7_ n8_; (try clear hb); (try clear hb2); (try clear hk); (try clear hi)) | ((with_reducible refine gate_callee (f := 28) rfl ?_); refine goesL_ (some 82) rfl rfl Try.func28 (by kernel_rfl) rfl #[.slice Ao31 t309.length co31, .int .i64 1] rfl (by (try simp only [List.map_toArray, List.map_cons, List.map_nil]); first | done | rfl | (simp only [List.length_drop, List.length_take]; rfl)) ?_; obtain ⟨PSHO_10_, hs1HO_10_, hs2HO_10_, hs3HO_10_⟩ := S_hand (HO_10.out); (with_reducible refine (laws_markBoltS.calls kj18 PSHO_10_ (.slice Ao31 t309.length co31) t309 1 t335 t336 w _ ?side1 ?side2 A51.out).mono ?_); (case side1 => repeat (first | (with_reducible first | exact HB.out | apply below_alloc | apply pw_below_drewN | apply below_drew1) | exact HB.out)); (case side2 => exact hs1HO_10_); rintro e w64 ⟨rfl, hy0, hb, hkp⟩; refine ⟨_, rfl, ?_⟩; have n0_ := Aside0.mk (Kd.R_mono (ok' := fun k_ => some k_ ≠ (.slice Ao32 t312.length co32 : Value).ownBlock ∧ some k_ ≠ (v320 : Value).ownBlock ∧ some k_ ≠ (.slice Ao60 t327.length co60 : Value).ownBlock) (Kd.R_keptB ((Kd.R_mono (Kd.R_tight2 rfl HO_8.out) (fun k_ hk => (⟨hk.2, fun e_ => ((hs2HO_10_ k_ e_).1.1.1.1) hk.1⟩ : _ ∧ ¬ PSHO_10_ k_)))) hkp (fun k_ hk_ hs_ => (hk_.2) hs_)) (fun k_ hk_ => ⟨hk_.1.1.1.1, hk_.1.1.1.2, hk_.1.1.2⟩)); have n1_ := Aside0.mk (Kd.S_mono hy0 (fun k_ hk_ => hs2HO_10_ k_ hk_)); have n2_ := Aside0.mk (Kd.R_mono (ok' := fun k_ => some k_ ≠ (v307 : Value).ownBlock ∧ some k_ ≠ (v320 : Value).ownBlock ∧ some k_ ≠ (.slice Ao60 t327.length co60 : Value).ownBlock) (Kd.R_keptB ((Kd.R_mono (Kd.R_tight2 rfl HO_11.out) (fun k_ hk => (⟨hk.2, fun e_ => ((hs2HO_10_ k_ e_).1.1.1.2.1) hk.1⟩ : _ ∧ ¬ PSHO_10_ k_)))) hkp (fun k_ hk_ hs_ => (hk_.2) hs_)) (fun k_ hk_ => ⟨hk_.1.1.1.1, hk_.1.1.1.2, hk_.1.1.2⟩)); have n3_ := Aside0.mk (Kd.R_mono (ok' := fun k_ => some k_ ≠ (.slice Ao62 t331.length co62 : Value).ownBlock) (Kd.R_keptB ((Kd.R_mono (Kd.R_bound HO_12.out) (fun k_ hk => (⟨hk.1, fun e_ => typed_no hk.2.2.2 (hs3HO_10_ k_ e_).2.2 (by decide)⟩ : _ ∧ ¬ PSHO_10_ k_)))) hkp (fun k_ hk_ hs_ => (hk_.2) hs_)) (fun k_ hk_ => hk_.1.1.2)); have n4_ := Aside0.mk (Kd.R_mono (ok' := fun k_ => some k_ ≠ (v307 : Value).ownBlock ∧ some k_ ≠ (.slice Ao32 t312.length co32 : Value).ownBlock ∧ some k_ ≠ (.slice Ao60 t327.length co60 : Value).ownBlock) (Kd.R_keptB ((Kd.R_mono (Kd.R_tight2 rfl HO_13.out) (fun k_ hk => (⟨hk.2, fun e_ => ((hs2HO_10_ k_ e_).1.1.1.2.2.1) hk.1⟩ : _ ∧ ¬ PSHO_10_ k_)))) hkp (fun k_ hk_ hs_ => (hk_.2) hs_)) (fun k_ hk_ => ⟨hk_.1.1.1.1, hk_.1.1.1.2, hk_.1.1.2⟩)); have n5_ := Aside0.mk (Kd.S_mono (ok' := fun k_ => some k_ ≠ (v307 : Value).ownBlock ∧ some k_ ≠ (.slice Ao31 t309.length co31 : Value).ownBlock ∧ some k_ ≠ (.slice Ao32 t312.length co32 : Value).ownBlock ∧ some k_ ≠ (v320 : Value).ownBlock ∧ some k_ ≠ (.slice Ao60 t327.length co60 : Value).ownBlock ∧ k_ ≠ (geN N56 k_)) (Kd.S_keptB ((Kd.S_mono HO325.out (fun k_ hk => (⟨hk, fun e_ => gapN ((hs2HO_10_ k_ e_).1.1.2) (hk.1.2)⟩ : _ ∧ ¬ PSHO_10_ k_)))) hkp (fun k_ hk_ hs_ => (hk_.2) hs_)) (fun k_ hk_ => ⟨hk_.1.1.1.1.1.1.1.2, hk_.1.1.1.1.1.1.2, hk_.1.1.1.1.1.2, hk_.1.1.1.1.2, hk_.1.1.2, hk_.1.1.1.2⟩)); have n6_ := Aside0.mk (Kd.R_mono (ok' := fun k_ => some k_ ≠ (v307 : Value).ownBlock ∧ some k_ ≠ (.slice Ao32 t312.length co32 : Value).ownBlock ∧ some k_ ≠ (v320 : Value).ownBlock) (Kd.R_keptB ((Kd.R_mono (Kd.R_tight2 rfl HO329.out) (fun k_ hk => (⟨hk.2, fun e_ => ((hs2HO_10_ k_ e_).2) hk.1⟩ : _ ∧ ¬ PSHO_10_ k_)))) hkp (fun k_ hk_ hs_ => (hk_.2) hs_)) (fun k_ hk_ => ⟨hk_.1.1.1.1.2, hk_.1.1.1.2, hk_.1.1.2⟩)); have n7_ := Aside0.mk (Kd.R_mono (ok' := fun k_ => some k_ ≠ (.slice Ao33 t315.length co33 : Value).ownBlock) (Kd.R_keptB ((Kd.R_mono (Kd.R_bound HO333.out) (fun k_ hk => (⟨hk.1, fun e_ => typed_no hk.2.2.2 (hs3HO_10_ k_ e_).2.2 (by decide)⟩ : _ ∧ ¬ PSHO_10_ k_)))) hkp (fun k_ hk_ hs_ => (hk_.2) hs_)) (fun k_ hk_ => hk_.1.1.2)); have n8_ := Aside0.mk (hb); clear HO_8 HO_10; clear HO_11 HO_12; clear HO_13 HO325; clear HO329 HO333 HB; have HO_8 := n0_; have HO_10 := n1_; have HO_11 := n2_; have HO_12 := n3_; have HO_13 := n4_; have HO325 := n5_; have HO329 := n6_; have HO333 := n7_; have HB := n8_; clear n0_ n1_ n2_ n3_ n4_ n5_ n6_ n7_ n8_; (try clear hb); (try clear hkp); (try clear hy0); (try clear hs1HO_10_ hs2HO_10_ hs3HO_10_)) | ((with_reducible refine gate_callee (f := 29) rfl ?_); refine goesL_ (some 85) rfl rfl Try.func29 (by kernel_rfl) rfl #[.slice Ao32 t312.length co32, .int .i64 t335] rfl (by (try simp only [List.map_toArray, List.map_cons, List.map_nil]); first | done | rfl | (simp only [List.length_drop, List.length_take]; rfl)) ?_; (with_reducible refine (laws_markInt64S.calls kj18 (fun k_ => some k_ = (.slice Ao32 t312.length co32 : Value).ownBlock) (.slice Ao32 t312.length co32) t312 t335 t337 t338 w _ ?side1 ?side2 A52.out).mono ?_); (case side1 => repeat (first | (with_reducible first | exact HB.out | apply below_alloc | apply pw_below_drewN | apply below_drew1) | exact HB.out)); (case side2 => exact Kd.R_tight rfl HO_11.out); rintro e w65 ⟨rfl, hy0, hb, hkp⟩; refine ⟨_, rfl, ?_⟩; have n0_ := Aside0.mk (Kd.R_mono (ok' := fun k_ => some k_ ≠ (.slice Ao32 t312.length co32 : Value).ownBlock ∧ some k_ ≠ (v320 : Value).ownBlock ∧ some k_ ≠ (.slice Ao60 t327.length co60 : Value).ownBlock) (Kd.R_keptB (HO_8.out) hkp (fun k_ hk_ hs_ => (hk_.1) hs_)) (fun k_ hk_ => ⟨hk_.1.1, hk_.1.2.1, hk_.1.2.2⟩)); have n1_ := Aside0.mk (Kd.S_mono (ok' := fun k_ => some k_ ≠ (v307 : Value).ownBlock ∧ some k_ ≠ (.slice Ao32 t312.length co32 : Value).ownBlock ∧ some k_ ≠ (v320 : Value).ownBlock ∧ some k_ ≠ (.slice Ao57 t323.length co57 : Value).ownBlock ∧ some k_ ≠ (.slice Ao60 t327.length co60 : Value).ownBlock ∧ k_ ≠ (geN N28 k_) ∧ k_ ≠ (ltN N56 k_)) (Kd.S_keptB (HO_10.out) hkp (fun k_ hk_ hs_ => (hk_.1.1.1.2.1) hs_)) (fun k_ hk_ => ⟨hk_.1.1.1.1.1, hk_.1.1.1.1.2.1, hk_.1.1.1.1.2.2.1, hk_.1.1.2, hk_.1.2, hk_.1.1.1.1.2.2.2, hk_.1.1.1.2⟩)); have n2_ := Aside0.mk (Kd.R_reok rfl hy0 (fun k_ e_ => HO_11.out.1 k_ e_)); have n3_ := Aside0.mk (Kd.R_mono (ok' := fun k_ => some k_ ≠ (.slice Ao62 t331.length co62 : Value).ownBlock) (Kd.R_keptB ((Kd.R_apart' HO_12.out (Kd.R_typed HO_11.out) (by decide))) hkp (fun k_ hk_ hs_ => (hk_.2) hs_)) (fun k_ hk_ => hk_.1.1)); have n4_ := Aside0.mk (Kd.R_mono (ok' := fun k_ => some k_ ≠ (v307 : Value).ownBlock ∧ some k_ ≠ (.slice Ao32 t312.length co32 : Value).ownBlock ∧ some k_ ≠ (.slice Ao60 t327.length co60 : Value).ownBlock) (Kd.R_keptB (HO_13.out) hkp (fun k_ hk_ hs_ => (hk_.2.1) hs_)) (fun k_ hk_ => ⟨hk_.1.1, hk_.1.2.1, hk_.1.2.2⟩)); have n5_ := Aside0.mk (Kd.S_mono (ok' := fun k_ => some k_ ≠ (v307 : Value).ownBlock ∧ some k_ ≠ (.slice Ao31 t309.length co31 : Value).ownBlock ∧ some k_ ≠ (.slice Ao32 t312.length co32 : Value).ownBlock ∧ some k_ ≠ (v320 : Value).ownBlock ∧ some k_ ≠ (.slice Ao60 t327.length co60 : Value).ownBlock ∧ k_ ≠ (geN N56 k_)) (Kd.S_keptB (HO325.out) hkp (fun k_ hk_ hs_ => (hk_.2.2.1) hs_)) (fun k_ hk_ => ⟨hk_.1.1, hk_.1.2.1, hk_.1.2.2.1, hk_.1.2.2.2.1, hk_.1.2.2.2.2.1, hk_.1.2.2.2.2.2⟩)); have n6_ := Aside0.mk (Kd.R_mono (ok' := fun k_ => some k_ ≠ (v307 : Value).ownBlock ∧ some k_ ≠ (.slice Ao32 t312.length co32 : Value).ownBlock ∧ some k_ ≠ (v320 : Value).ownBlock) (Kd.R_keptB (HO329.out) hkp (fun k_ hk_ hs_ => (hk_.2.1) hs_)) (fun k_ hk_ => ⟨hk_.1.1, hk_.1.2.1, hk_.1.2.2⟩)); have n7_ := Aside0.mk (Kd.R_mono (ok' := fun k_ => some k_ ≠ (.slice Ao33 t315.length co33 : Value).ownBlock) (Kd.R_keptB ((Kd.R_apart' HO333.out (Kd.R_typed HO_11.out) (by decide))) hkp (fun k_ hk_ hs_ => (hk_.2) hs_)) (fun k_ hk_ => hk_.1.1)); have n8_ := Aside0.mk (hb); clear HO_8 HO_10; clear HO_11 HO_12; clear HO_13 HO325; clear HO329 HO333 HB; have HO_8 := n0_; have HO_10 := n1_; have HO_11 := n2_; have HO_12 := n3_; have HO_13 := n4_; have HO325 := n5_; have HO329 := n6_; have HO333 := n7_; have HB := n8_; clear n0_ n1_ n2_ n3_ n4_ n5_ n6_ n7_ n8_; (try clear hb); (try clear hkp); (try clear hy0)) | ((with_reducible refine gate_callee (f := 30) rfl ?_); refine goesL_ (some 88) rfl rfl Try.func30 (by kernel_rfl) rfl #[.slice Ao33 t315.length co33, .int .i64 t337] rfl (by (try simp only [List.map_toArray, List.map_cons, List.map_nil]); first | done | rfl | (simp only [List.length_drop, List.length_take]; rfl)) ?_; (with_reducible refine (laws_markPieceS.calls kj18 (fun k_ => some k_ = (.slice Ao33 t315.length co33 : Value).ownBlock) (.slice Ao33 t315.length co33) t315 t337 t339 t340 w _ ?side1 ?side2 A53.out).mono ?_); (case side1 => repeat (first | (with_reducible first | exact HB.out | apply below_alloc | apply pw_below_drewN | apply below_drew1) | exact HB.out)); (case side2 => exact Kd.R_tight rfl HO_12.out); rintro e w66 ⟨rfl, hy0, hb, hkp⟩; refine ⟨_, rfl, ?_⟩; have n0_ := Aside0.mk (Kd.R_mono (ok' := fun k_ => some k_ ≠ (.slice Ao32 t312.length co32 : Value).ownBlock ∧ some k_ ≠ (v320 : Value).ownBlock ∧ some k_ ≠ (.slice Ao60 t327.length co60 : Value).ownBlock) (Kd.R_keptB ((Kd.R_apart' HO_8.out (Kd.R_typed HO_12.out) (by decide))) hkp (fun k_ hk_ hs_ => (hk_.2) hs_)) (fun k_ hk_ => ⟨hk_.1.1.1, hk_.1.1.2.1, hk_.1.1.2.2⟩)); have n1_ := Aside0.mk (Kd.S_mono (ok' := fun k_ => some k_ ≠ (v307 : Value).ownBlock ∧ some k_ ≠ (.slice Ao32 t312.length co32 : Value).ownBlock ∧ some k_ ≠ (v320 : Value).ownBlock ∧ some k_ ≠ (.slice Ao57 t323.length co57 : Value).ownBlock ∧ some k_ ≠ (.slice Ao60 t327.length co60 : Value).ownBlock ∧ k_ ≠ (geN N28 k_) ∧ k_ ≠ (ltN N56 k_)) (Kd.S_keptB ((Kd.S_apart' HO_10.out (Kd.R_typed HO_12.out) (by decide))) hkp (fun k_ hk_ hs_ => (hk_.2) hs_)) (fun k_ hk_ => ⟨hk_.1.1.1, hk_.1.1.2.1, hk_.1.1.2.2.1, hk_.1.1.2.2.2.1, hk_.1.1.2.2.2.2.1, hk_.1.1.2.2.2.2.2.1, hk_.1.1.2.2.2.2.2.2⟩)); have n2_ := Aside0.mk (Kd.R_mono (ok' := fun k_ => some k_ ≠ (v307 : Value).ownBlock ∧ some k_ ≠ (v320 : Value).ownBlock ∧ some k_ ≠ (.slice Ao60 t327.length co60 : Value).ownBlock) (Kd.R_keptB ((Kd.R_apart' HO_11.out (Kd.R_typed HO_12.out) (by decide))) hkp (fun k_ hk_ hs_ => (hk_.2) hs_)) (fun k_ hk_ => ⟨hk_.1.1.1, hk_.1.1.2.1, hk_.1.1.2.2⟩)); have n3_ := Aside0.mk (Kd.R_reok rfl hy0 (fun k_ e_ => HO_12.out.1 k_ e_)); have n4_ := Aside0.mk (Kd.R_mono (ok' := fun k_ => some k_ ≠ (v307 : Value).ownBlock ∧ some k_ ≠ (.slice Ao32 t312.length co32 : Value).ownBlock ∧ some k_ ≠ (.slice Ao60 t327.length co60 : Value).ownBlock) (Kd.R_keptB ((Kd.R_apart' HO_13.out (Kd.R_typed HO_12.out) (by decide))) hkp (fun k_ hk_ hs_ => (hk_.2) hs_)) (fun k_ hk_ => ⟨hk_.1.1.1, hk_.1.1.2.1, hk_.1.1.2.2⟩)); have n5_ := Aside0.mk (Kd.S_mono (ok' := fun k_ => some k_ ≠ (v307 : Value).ownBlock ∧ some k_ ≠ (.slice Ao31 t309.length co31 : Value).ownBlock ∧ some k_ ≠ (.slice Ao32 t312.length co32 : Value).ownBlock ∧ some k_ ≠ (v320 : Value).ownBlock ∧ some k_ ≠ (.slice Ao60 t327.length co60 : Value).ownBlock ∧ k_ ≠ (geN N56 k_)) (Kd.S_keptB ((Kd.S_apart' HO325.out (Kd.R_typed HO_12.out) (by decide))) hkp (fun k_ hk_ hs_ => (hk_.2) hs_)) (fun k_ hk_ => ⟨hk_.1.1.1, hk_.1.1.2.1, hk_.1.1.2.2.1, hk_.1.1.2.2.2.1, hk_.1.1.2.2.2.2.1, hk_.1.1.2.2.2.2.2⟩)); have n6_ := Aside0.mk (Kd.R_mono (ok' := fun k_ => some k_ ≠ (v307 : Value).ownBlock ∧ some k_ ≠ (.slice Ao32 t312.length co32 : Value).ownBlock ∧ some k_ ≠ (v320 : Value).ownBlock) (Kd.R_keptB ((Kd.R_apart' HO329.out (Kd.R_typed HO_12.out) (by decide))) hkp (fun k_ hk_ hs_ => (hk_.2) hs_)) (fun k_ hk_ => ⟨hk_.1.1.1, hk_.1.1.2.1, hk_.1.1.2.2⟩)); have n7_ := Aside0.mk (Kd.R_mono (ok' := fun k_ => some k_ ≠ (.slice Ao33 t315.length co33 : Value).ownBlock) (Kd.R_keptB (HO333.out) hkp (fun k_ hk_ hs_ => (hk_) hs_)) (fun k_ hk_ => hk_.1)); have n8_ := Aside0.mk (hb); clear HO_8 HO_10; clear HO_11 HO_12; clear HO_13 HO325; clear HO329 HO333 HB; have HO_8 := n0_; have HO_10 := n1_; have HO_11 := n2_; have HO_12 := n3_; have HO_13 := n4_; have HO325 := n5_; have HO329 := n6_; have HO333 := n7_; have HB := n8_; clear n0_ n1_ n2_ n3_ n4_ n5_ n6_ n7_ n8_; (try clear hb); (try clear hkp); (try clear hy0)))
          (try simp only [Act.put, List.setIfInBounds_toArray, List.set_cons_zero, List.set_cons_succ])
          go_cut [101] (fun v101 wc => ∃ (kq : Nat) (x101_53 : Bool), v101 = .bool x101_53 ∧ Aside0 (laws_FnExactClothLeft.j1 kq l0 l1 l2 t305 t306 t318 x101_53 = some r) ∧ Aside0 (kq ≤ kj18) ∧ Aside0 (Kd.R (Kd.int .i64) 2 wc w.heap.size (fun k_ => some k_ ≠ (v320 : Value).ownBlock) v307 t305) ∧ Aside0 (Kd.R (Kd.int .i64) 2 wc w.heap.size (fun k_ => some k_ ≠ (v307 : Value).ownBlock) v320 t318) ∧ Aside0 (Below w.heap.size w wc))
          case first =>
           have H := HC54.out
           clear HC54
           by_cases c67 : t339 < 0
           ·rw [if_pos c67] at H
            have c67b0 : decide (t339 < 0) = true := decide_eq_true c67
            clear c67
            (first | rw [c67b0] | (simp only [i64_w, i32_w]; rw [c67b0]) | skip)
            have H' := Aside0.mk H
            clear H
            go_wp2
            go_meet
            case rel => exact ⟨_, (true), (by first | rfl | (simp; done) | (simp [*]; done)), H', ⟨by have := HJ18.out; first | omega | exact Nat.le_refl _⟩, ⟨by (with_reducible repeat (first | apply Kd.R_alloc | apply Kd.R_drewN | apply Kd.R_drew)); exact Kd.R_mono HO_8.out (fun _ hk => hk.2.1)⟩, ⟨by (with_reducible repeat (first | apply Kd.R_alloc | apply Kd.R_drewN | apply Kd.R_drew)); exact Kd.R_mono HO_13.out (fun _ hk => hk.1)⟩, ⟨by repeat (first | (with_reducible first | exact HB.out | apply below_alloc | apply pw_below_drewN | apply below_drew1) | exact HB.out)⟩⟩
           ·rw [if_neg c67] at H
            have c67b0 : decide (t339 < 0) = false := decide_eq_false c67
            clear c67
            (first | rw [c67b0] | (simp only [i64_w, i32_w]; rw [c67b0]) | skip)
            replace H := Option.bind_eq_some_iff.mp H
            obtain ⟨t341, A680, H⟩ := H
            replace H : (if t341 = true then (laws_FnExactClothLeft.j1 kj18 l0 l1 l2 t305 t306 t318 (t319 != t306)) else (laws_FnExactClothLeft.j1 kj18 l0 l1 l2 t305 t306 t318 true)) = some r := H
            have A68 := Aside0.mk A680
            clear A680
            by_cases c69 : t341 = true
            ·subst c69
             have H1 : (laws_FnExactClothLeft.j1 kj18 l0 l1 l2 t305 t306 t318 (t319 != t306)) = some r := by rw [if_pos rfl] at H; exact H
             clear H
             have H := H1
             clear H1
             have H' := Aside0.mk H
             clear H
             obtain ⟨Ao70, co70, eo70⟩ := Kd.R_slice HO_13.out
             subst eo70
             obtain ⟨Ao71, co71, eo71⟩ := Kd.R_slice HO_8.out
             subst eo71
             go_wp2_with (first | (go_at_call 27; (with_reducible refine (laws_eqInt64S.calls kj18 _ _ t318 _ _ t305 true _ ?side1 ?side2 ?side3 ?side4 A68.out).mono ?_); (case side1 => repeat (first | exact (Kd.R_reads' HO_13.out).2.2 | (with_reducible refine Kd.C_alloc ?_ _) | (with_reducible refine Kd.C_drewN ?_ _) | (with_reducible refine Kd.C_drew ?_))); (case side2 => exact (Kd.R_reads' HO_13.out).2.1); (case side3 => repeat (first | exact (Kd.R_reads' HO_8.out).2.2 | (with_reducible refine Kd.C_alloc ?_ _) | (with_reducible refine Kd.C_drewN ?_ _) | (with_reducible refine Kd.C_drew ?_))); (case side4 => exact (Kd.R_reads' HO_8.out).2.1); rintro e w' ⟨rfl, ⟨nd, rfl⟩⟩))
             go_meet
             case rel => exact ⟨_, ((t319 != t306)), (by first | rfl | (simp; done) | (simp [*]; done)), H', ⟨by have := HJ18.out; first | omega | exact Nat.le_refl _⟩, ⟨by (with_reducible repeat (first | apply Kd.R_alloc | apply Kd.R_drewN | apply Kd.R_drew)); exact Kd.R_mono HO_8.out (fun _ hk => hk.2.1)⟩, ⟨by (with_reducible repeat (first | apply Kd.R_alloc | apply Kd.R_drewN | apply Kd.R_drew)); exact Kd.R_mono HO_13.out (fun _ hk => hk.1)⟩, ⟨by repeat (first | (with_reducible first | exact HB.out | apply below_alloc | apply pw_below_drewN | apply below_drew1) | exact HB.out)⟩⟩
            ·replace c69 := Bool.eq_false_iff.mpr c69
             subst c69
             have H1 : (laws_FnExactClothLeft.j1 kj18 l0 l1 l2 t305 t306 t318 true) = some r := by rw [if_neg (show ¬ (false = true) by decide)] at H; exact H
             clear H
             have H := H1
             clear H1
             have H' := Aside0.mk H
             clear H
             obtain ⟨Ao72, co72, eo72⟩ := Kd.R_slice HO_13.out
             subst eo72
             obtain ⟨Ao73, co73, eo73⟩ := Kd.R_slice HO_8.out
             subst eo73
             go_wp2_with (first | (go_at_call 27; (with_reducible refine (laws_eqInt64S.calls kj18 _ _ t318 _ _ t305 false _ ?side1 ?side2 ?side3 ?side4 A68.out).mono ?_); (case side1 => repeat (first | exact (Kd.R_reads' HO_13.out).2.2 | (with_reducible refine Kd.C_alloc ?_ _) | (with_reducible refine Kd.C_drewN ?_ _) | (with_reducible refine Kd.C_drew ?_))); (case side2 => exact (Kd.R_reads' HO_13.out).2.1); (case side3 => repeat (first | exact (Kd.R_reads' HO_8.out).2.2 | (with_reducible refine Kd.C_alloc ?_ _) | (with_reducible refine Kd.C_drewN ?_ _) | (with_reducible refine Kd.C_drew ?_))); (case side4 => exact (Kd.R_reads' HO_8.out).2.1); rintro e w' ⟨rfl, ⟨nd, rfl⟩⟩))
             go_meet
             case rel => exact ⟨_, (true), (by first | rfl | (simp; done) | (simp [*]; done)), H', ⟨by have := HJ18.out; first | omega | exact Nat.le_refl _⟩, ⟨by (with_reducible repeat (first | apply Kd.R_alloc | apply Kd.R_drewN | apply Kd.R_drew)); exact Kd.R_mono HO_8.out (fun _ hk => hk.2.1)⟩, ⟨by (with_reducible repeat (first | apply Kd.R_alloc | apply Kd.R_drewN | apply Kd.R_drew)); exact Kd.R_mono HO_13.out (fun _ hk => hk.1)⟩, ⟨by repeat (first | (with_reducible first | exact HB.out | apply below_alloc | apply pw_below_drewN | apply below_drew1) | exact HB.out)⟩⟩
          case rest =>
           clear HC54
           try clear c1
           try clear c2
           try clear p2
           try clear c3
           try clear c4
           try clear c4b0
           try clear c4b1
           try clear c5
           try clear c6
           try clear c6b0
           try clear c10
           try clear c10b0
           try clear c20
           try clear c22
           try clear c23
           try clear c25
           try clear c26
           try clear c27
           try clear c28
           try clear c29
           try clear c30
           try clear c32
           try clear c33
           try clear c34
           try clear c35
           try clear c36
           try clear c41
           try clear c44
           try clear c47
           try clear c50
           try clear c67
           try clear c67b0
           try clear c69
           try clear p2
           obtain ⟨kq, x101_53, rfl, HA, HJ53, HO_8, HO_13, HB⟩ := hcut
           cases kq with
           | zero => exact absurd HA.out (by simp [laws_FnExactClothLeft.j1])
           | succ kj53 =>
            have H := HA.out
            clear HA
            simp only [laws_FnExactClothLeft.j1] at H
            by_cases c74 : x101_53 = true
            ·subst c74
             have H1 : (some false) = some r := by rw [if_pos rfl] at H; exact H
             clear H
             have H := H1
             clear H1
             obtain rfl := Option.some.inj H
             exact absurd HRT.out (by decide)
            ·replace c74 := Bool.eq_false_iff.mpr c74
             subst c74
             have H1 : ((laws_markInt64S.f kj53 t318 1).bind fun bt342 => ((laws_heldInt64S.f kj53 bt342.2 1).bind fun t344 => (if t344 < 0 then (some false) else (if t344 = bt342.1 then ((laws_toBoltS.f kj53 l0).bind fun t345 => ((laws_toInt64S.f kj53 l1).bind fun t348 => ((laws_toPieceS.f kj53 l2).bind fun t351 => ((impl_ClothLeft.f kj53 t345 t348 t351).bind fun bt354 => ((laws_eqInt64S.f kj53 bt354.1 t305).bind fun t358 => (if t358 = true then (laws_FnExactClothLeft.j2 kj53 bt342.2 bt342.1 (bt354.2 != t306)) else (laws_FnExactClothLeft.j2 kj53 bt342.2 bt342.1 true))))))) else (some false))))) = some r := by rw [if_neg (show ¬ (false = true) by decide)] at H; exact H
             clear H
             have H := H1
             clear H1
             replace H := Option.bind_eq_some_iff.mp H
             obtain ⟨⟨t342, t343⟩, A750, H⟩ := H
             replace H : ((laws_heldInt64S.f kj53 t343 1).bind fun t344 => (if t344 < 0 then (some false) else (if t344 = t342 then ((laws_toBoltS.f kj53 l0).bind fun t345 => ((laws_toInt64S.f kj53 l1).bind fun t348 => ((laws_toPieceS.f kj53 l2).bind fun t351 => ((impl_ClothLeft.f kj53 t345 t348 t351).bind fun bt354 => ((laws_eqInt64S.f kj53 bt354.1 t305).bind fun t358 => (if t358 = true then (laws_FnExactClothLeft.j2 kj53 t343 t342 (bt354.2 != t306)) else (laws_FnExactClothLeft.j2 kj53 t343 t342 true))))))) else (some false)))) = some r := H
             have A75 := Aside0.mk A750
             clear A750
             replace H := Option.bind_eq_some_iff.mp H
             obtain ⟨t344, A760, H⟩ := H
             replace H : (if t344 < 0 then (some false) else (if t344 = t342 then ((laws_toBoltS.f kj53 l0).bind fun t345 => ((laws_toInt64S.f kj53 l1).bind fun t348 => ((laws_toPieceS.f kj53 l2).bind fun t351 => ((impl_ClothLeft.f kj53 t345 t348 t351).bind fun bt354 => ((laws_eqInt64S.f kj53 bt354.1 t305).bind fun t358 => (if t358 = true then (laws_FnExactClothLeft.j2 kj53 t343 t342 (bt354.2 != t306)) else (laws_FnExactClothLeft.j2 kj53 t343 t342 true))))))) else (some false))) = some r := H
             have A76 := Aside0.mk A760
             clear A760
             by_cases c77 : t344 < 0
             ·rw [if_pos c77] at H
              have c77b0 : decide (t344 < 0) = true := decide_eq_true c77
              clear c77
              obtain rfl := Option.some.inj H
              exact absurd HRT.out (by decide)
             ·rw [if_neg c77] at H
              have c77b0 : decide (t344 < 0) = false := decide_eq_false c77
              clear c77
              by_cases c78 : t344 = t342
              ·rw [if_pos c78] at H
               have c78b0 : (t344 == t342) = true := beq_iff_eq.mpr c78
               have c78b1 : (t344 != t342) = false := bne_eq_false_iff_eq.mpr c78
               clear c78
               replace H := Option.bind_eq_some_iff.mp H
               obtain ⟨t345, A790, H⟩ := H
               replace H : ((laws_toInt64S.f kj53 l1).bind fun t348 => ((laws_toPieceS.f kj53 l2).bind fun t351 => ((impl_ClothLeft.f kj53 t345 t348 t351).bind fun bt354 => ((laws_eqInt64S.f kj53 bt354.1 t305).bind fun t358 => (if t358 = true then (laws_FnExactClothLeft.j2 kj53 t343 t342 (bt354.2 != t306)) else (laws_FnExactClothLeft.j2 kj53 t343 t342 true)))))) = some r := H
               have A79 := Aside0.mk A790
               clear A790
               replace H := Option.bind_eq_some_iff.mp H
               obtain ⟨t348, A800, H⟩ := H
               replace H : ((laws_toPieceS.f kj53 l2).bind fun t351 => ((impl_ClothLeft.f kj53 t345 t348 t351).bind fun bt354 => ((laws_eqInt64S.f kj53 bt354.1 t305).bind fun t358 => (if t358 = true then (laws_FnExactClothLeft.j2 kj53 t343 t342 (bt354.2 != t306)) else (laws_FnExactClothLeft.j2 kj53 t343 t342 true))))) = some r := H
               have A80 := Aside0.mk A800
               clear A800
               replace H := Option.bind_eq_some_iff.mp H
               obtain ⟨t351, A810, H⟩ := H
               replace H : ((impl_ClothLeft.f kj53 t345 t348 t351).bind fun bt354 => ((laws_eqInt64S.f kj53 bt354.1 t305).bind fun t358 => (if t358 = true then (laws_FnExactClothLeft.j2 kj53 t343 t342 (bt354.2 != t306)) else (laws_FnExactClothLeft.j2 kj53 t343 t342 true)))) = some r := H
               have A81 := Aside0.mk A810
               clear A810
               replace H := Option.bind_eq_some_iff.mp H
               obtain ⟨⟨t354, t355⟩, A820, H⟩ := H
               replace H : ((laws_eqInt64S.f kj53 t354 t305).bind fun t358 => (if t358 = true then (laws_FnExactClothLeft.j2 kj53 t343 t342 (t355 != t306)) else (laws_FnExactClothLeft.j2 kj53 t343 t342 true))) = some r := H
               have A82 := Aside0.mk A820
               clear A820
               have HC83 := Aside0.mk H
               clear H
               obtain ⟨Ao84, co84, eo84⟩ := Kd.R_slice HO_13.out
               subst eo84
               go_upto_region 38 with (first | ((with_reducible refine gate_callee (f := 29) rfl ?_); refine goesL_ (some 104) rfl rfl Try.func29 (by kernel_rfl) rfl #[.slice Ao84 t318.length co84, .int .i64 1] rfl (by (try simp only [List.map_toArray, List.map_cons, List.map_nil]); first | done | rfl | (simp only [List.length_drop, List.length_take]; rfl)) ?_; (with_reducible refine (laws_markInt64S.calls kj53 (fun k_ => some k_ = (.slice Ao84 t318.length co84 : Value).ownBlock) (.slice Ao84 t318.length co84) t318 1 t342 t343 w _ ?side1 ?side2 A75.out).mono ?_); (case side1 => repeat (first | (with_reducible first | exact HB.out | apply below_alloc | apply pw_below_drewN | apply below_drew1) | exact HB.out)); (case side2 => exact Kd.R_tight rfl HO_13.out); rintro e w85 ⟨rfl, hy0, hb, hkp⟩; refine ⟨_, rfl, ?_⟩; have n0_ := Aside0.mk (Kd.R_mono (ok' := fun k_ => some k_ ≠ (.slice Ao84 t318.length co84 : Value).ownBlock) (Kd.R_keptB (HO_8.out) hkp (fun k_ hk_ hs_ => (hk_) hs_)) (fun k_ hk_ => hk_.1)); have n1_ := Aside0.mk (Kd.R_reok rfl hy0 (fun k_ e_ => HO_13.out.1 k_ e_)); have n2_ := Aside0.mk (hb); clear HO_8 HO_13 HB; have HO_8 := n0_; have HO_13 := n1_; have HB := n2_; clear n0_ n1_ n2_; (try clear hb); (try clear hkp); (try clear hy0)) | ((with_reducible refine gate_callee (f := 36) rfl ?_); refine goesL_ (some 107) rfl rfl Try.func36 (by kernel_rfl) rfl #[.slice Ao84 t343.length co84, .int .i64 1] rfl (by (try simp only [List.map_toArray, List.map_cons, List.map_nil]); first | done | (rw [show t343.length = t318.length from (Kd.R_reads' HO_13.out).1.symm] <;> rfl) | rfl | (simp only [List.length_drop, List.length_take]; rfl)) ?_; (with_reducible refine (laws_heldInt64S.calls kj53 _ _ t343 1 t344 _ ?side1 ?side2 A76.out).mono ?_); (case side1 => repeat (first | exact (Kd.R_reads' HO_13.out).2.2 | (with_reducible refine Kd.C_alloc ?_ _) | (with_reducible refine Kd.C_drewN ?_ _) | (with_reducible refine Kd.C_drew ?_))); (case side2 => rw [show t343.length = t318.length from (Kd.R_reads' HO_13.out).1.symm]; exact (Kd.R_reads' HO_13.out).2.1); rintro e w' ⟨rfl, ⟨nd, rfl⟩⟩; refine ⟨_, rfl, ?_⟩) | ((with_reducible refine gate_callee (f := 22) rfl ?_); refine goesL_ (some 115) rfl rfl Try.func22 (by kernel_rfl) rfl #[.slice A0 l0.length c0] rfl (by (try simp only [List.map_toArray, List.map_cons, List.map_nil]); first | done | rfl | (simp only [List.length_drop, List.length_take]; rfl)) ?_; (with_reducible refine (laws_toBoltS.calls kj53 _ _ l0 t345 _ ?side1 ?side2 A79.out).mono ?_); (case side1 => repeat (first | exact (Kd.C_below HR0.out (by repeat (first | (with_reducible first | exact HB.out | apply below_alloc | apply pw_below_drewN | apply below_drew1) | exact HB.out))) | (with_reducible refine Kd.C_alloc ?_ _) | (with_reducible refine Kd.C_drewN ?_ _) | (with_reducible refine Kd.C_drew ?_))); (case side2 => exact HC0.out); rintro e w86 ⟨v346, rfl, ho0, hb⟩; refine ⟨_, rfl, ?_⟩; have n0_ := Aside0.mk (Kd.R_below (by (with_reducible repeat (first | apply Kd.R_alloc | apply Kd.R_drewN | apply Kd.R_drew)); exact HO_8.out) hb); have n1_ := Aside0.mk (Kd.R_below (by (with_reducible repeat (first | apply Kd.R_alloc | apply Kd.R_drewN | apply Kd.R_drew)); exact HO_13.out) hb); have n2_ := Aside0.mk (Kd.S_lower (Kd.S_new' (Kd.S_new' ho0 (Kd.R_lt (by (with_reducible repeat (first | apply Kd.R_alloc | apply Kd.R_drewN | apply Kd.R_drew)); exact HO_8.out))) (Kd.R_lt (by (with_reducible repeat (first | apply Kd.R_alloc | apply Kd.R_drewN | apply Kd.R_drew)); exact HO_13.out))) (below_size (by repeat (first | (with_reducible first | exact HB.out | apply below_alloc | apply pw_below_drewN | apply below_drew1) | exact HB.out)))); have n3_ := pS HB hb; clear HO_8 HO_13 HB; have HO_8 := n0_; have HO_13 := n1_; have HO347 := n2_; have HB := n3_; clear n0_ n1_ n2_ n3_; (try clear hb); (try clear hb2); (try clear hk); (try clear hi); (try clear ho0)) | ((with_reducible refine gate_callee (f := 23) rfl ?_); refine goesL_ (some 117) rfl rfl Try.func23 (by kernel_rfl) rfl #[.slice A1 l1.length c1] rfl (by (try simp only [List.map_toArray, List.map_cons, List.map_nil]); first | done | rfl | (simp only [List.length_drop, List.length_take]; rfl)) ?_; (with_reducible refine (laws_toInt64S.calls kj53 _ _ l1 t348 _ ?side1 ?side2 A80.out).mono ?_); (case side1 => repeat (first | exact (Kd.C_below HR1.out HB.out) | (with_reducible refine Kd.C_alloc ?_ _) | (with_reducible refine Kd.C_drewN ?_ _) | (with_reducible refine Kd.C_drew ?_))); (case side2 => exact HC1.out); rintro e w87 ⟨v349, rfl, ho0, hb⟩; refine ⟨_, rfl, ?_⟩; have n0_ := Aside0.mk (Kd.R_elder' (by (with_reducible repeat (first | apply Kd.R_alloc | apply Kd.R_drewN | apply Kd.R_drew)); exact HO_8.out) (Kd.R_base ho0) hb); have n1_ := Aside0.mk (Kd.R_elder' (by (with_reducible repeat (first | apply Kd.R_alloc | apply Kd.R_drewN | apply Kd.R_drew)); exact HO_13.out) (Kd.R_base ho0) hb); have n2_ := Aside0.mk (Kd.S_elder' (by (with_reducible repeat (first | apply Kd.S_alloc | apply Kd.S_drewN | apply Kd.S_drew)); exact HO347.out) (Kd.R_base ho0) hb); have n3_ := Aside0.mk (Kd.R_lower (Kd.R_new' (Kd.R_new' ho0 (Kd.R_lt (by (with_reducible repeat (first | apply Kd.R_alloc | apply Kd.R_drewN | apply Kd.R_drew)); exact HO_8.out))) (Kd.R_lt (by (with_reducible repeat (first | apply Kd.R_alloc | apply Kd.R_drewN | apply Kd.R_drew)); exact HO_13.out))) (below_size (by repeat (first | (with_reducible first | exact HB.out | apply below_alloc | apply pw_below_drewN | apply below_drew1) | exact HB.out)))); have n4_ := pS HB hb; clear HO_8 HO_13; clear HO347 HB; have HO_8 := n0_; have HO_13 := n1_; have HO347 := n2_; have HO350 := n3_; have HB := n4_; clear n0_ n1_ n2_ n3_ n4_; (try clear hb); (try clear hb2); (try clear hk); (try clear hi); (try clear ho0)) | ((with_reducible refine gate_callee (f := 34) rfl ?_); refine goesL_ (some 119) rfl rfl Try.func34 (by kernel_rfl) rfl #[.slice A2 l2.length c2] rfl (by (try simp only [List.map_toArray, List.map_cons, List.map_nil]); first | done | rfl | (simp only [List.length_drop, List.length_take]; rfl)) ?_; (with_reducible refine (laws_toPieceS.calls kj53 _ _ l2 t351 _ ?side1 ?side2 A81.out).mono ?_); (case side1 => repeat (first | exact (Kd.C_below HR2.out HB.out) | (with_reducible refine Kd.C_alloc ?_ _) | (with_reducible refine Kd.C_drewN ?_ _) | (with_reducible refine Kd.C_drew ?_))); (case side2 => exact HC2.out); rintro e w88 ⟨v352, rfl, ho0, hb⟩; refine ⟨_, rfl, ?_⟩; have n0_ := Aside0.mk (Kd.R_below (by (with_reducible repeat (first | apply Kd.R_alloc | apply Kd.R_drewN | apply Kd.R_drew)); exact HO_8.out) hb); have n1_ := Aside0.mk (Kd.R_below (by (with_reducible repeat (first | apply Kd.R_alloc | apply Kd.R_drewN | apply Kd.R_drew)); exact HO_13.out) hb); have n2_ := Aside0.mk (Kd.S_below (by (with_reducible repeat (first | apply Kd.S_alloc | apply Kd.S_drewN | apply Kd.S_drew)); exact HO347.out) hb); have n3_ := Aside0.mk (Kd.R_below (by (with_reducible repeat (first | apply Kd.R_alloc | apply Kd.R_drewN | apply Kd.R_drew)); exact HO350.out) hb); have n4_ := Aside0.mk (Kd.R_lower ho0 (below_size (by repeat (first | (with_reducible first | exact HB.out | apply below_alloc | apply pw_below_drewN | apply below_drew1) | exact HB.out)))); have n5_ := pS HB hb; clear HO_8 HO_13; clear HO347 HO350 HB; have HO_8 := n0_; have HO_13 := n1_; have HO347 := n2_; have HO350 := n3_; have HO353 := n4_; have HB := n5_; clear n0_ n1_ n2_ n3_ n4_ n5_; (try clear hb); (try clear hb2); (try clear hk); (try clear hi); (try clear ho0); obtain ⟨Ao89, co89, eo89⟩ := Kd.S_slice HO347.out; subst eo89; obtain ⟨Ao90, co90, eo90⟩ := Kd.R_slice HO350.out; subst eo90; obtain ⟨Ao91, co91, eo91⟩ := Kd.R_slice HO353.out; subst eo91) | ((with_reducible refine gate_callee (f := 35) rfl ?_); refine goesL_ (some 120) rfl rfl Try.func35 (by kernel_rfl) rfl #[.slice Ao89 t345.length co89, .slice Ao90 t348.length co90, .slice Ao91 t351.length co91] rfl (by (try simp only [List.map_toArray, List.map_cons, List.map_nil]); first | done | rfl | (simp only [List.length_drop, List.length_take]; rfl)) ?_; (with_reducible refine (impl_ClothLeft.calls kj53 _ _ t345 _ _ t348 _ _ t351 t354 t355 _ ?side1 ?side2 ?side3 ?side4 ?side5 ?side6 A82.out).mono ?_); (case side1 => repeat (first | exact (Kd.S_reads' HO347.out).2.2 | (with_reducible refine Kd.C_alloc ?_ _) | (with_reducible refine Kd.C_drewN ?_ _) | (with_reducible refine Kd.C_drew ?_))); (case side2 => exact (Kd.S_reads' HO347.out).2.1); (case side3 => repeat (first | exact (Kd.R_reads' HO350.out).2.2 | (with_reducible refine Kd.C_alloc ?_ _) | (with_reducible refine Kd.C_drewN ?_ _) | (with_reducible refine Kd.C_drew ?_))); (case side4 => exact (Kd.R_reads' HO350.out).2.1); (case side5 => repeat (first | exact (Kd.R_reads' HO353.out).2.2 | (with_reducible refine Kd.C_alloc ?_ _) | (with_reducible refine Kd.C_drewN ?_ _) | (with_reducible refine Kd.C_drew ?_))); (case side6 => exact (Kd.R_reads' HO353.out).2.1); rintro e w92 ⟨v356, rfl, ho0, hb⟩; refine ⟨_, rfl, ?_⟩; have n0_ := Aside0.mk (Kd.R_elder' (by (with_reducible repeat (first | apply Kd.R_alloc | apply Kd.R_drewN | apply Kd.R_drew)); exact HO_8.out) (Kd.R_base ho0) hb); have n1_ := Aside0.mk (Kd.R_elder' (by (with_reducible repeat (first | apply Kd.R_alloc | apply Kd.R_drewN | apply Kd.R_drew)); exact HO_13.out) (Kd.R_base ho0) hb); have n2_ := Aside0.mk (Kd.S_elder' (by (with_reducible repeat (first | apply Kd.S_alloc | apply Kd.S_drewN | apply Kd.S_drew)); exact HO347.out) (Kd.R_base ho0) hb); have n3_ := Aside0.mk (Kd.R_elder' (by (with_reducible repeat (first | apply Kd.R_alloc | apply Kd.R_drewN | apply Kd.R_drew)); exact HO350.out) (Kd.R_base ho0) hb); have n4_ := Aside0.mk (Kd.R_below (by (with_reducible repeat (first | apply Kd.R_alloc | apply Kd.R_drewN | apply Kd.R_drew)); exact HO353.out) hb); have n5_ := Aside0.mk (Kd.R_lower (Kd.R_new' (Kd.R_new' (Kd.R_new' ho0 (Kd.R_lt (by (with_reducible repeat (first | apply Kd.R_alloc | apply Kd.R_drewN | apply Kd.R_drew)); exact HO_8.out))) (Kd.R_lt (by (with_reducible repeat (first | apply Kd.R_alloc | apply Kd.R_drewN | apply Kd.R_drew)); exact HO_13.out))) (Kd.R_lt (by (with_reducible repeat (first | apply Kd.R_alloc | apply Kd.R_drewN | apply Kd.R_drew)); exact HO350.out))) (below_size (by repeat (first | (with_reducible first | exact HB.out | apply below_alloc | apply pw_below_drewN | apply below_drew1) | exact HB.out)))); have n6_ := pS HB hb; clear HO_8 HO_13; clear HO347 HO350; clear HO353 HB; have HO_8 := n0_; have HO_13 := n1_; have HO347 := n2_; have HO350 := n3_; have HO353 := n4_; have HO357 := n5_; have HB := n6_; clear n0_ n1_ n2_ n3_ n4_ n5_ n6_; (try clear hb); (try clear hb2); (try clear hk); (try clear hi); (try clear ho0)))
               (try simp only [Act.put, List.setIfInBounds_toArray, List.set_cons_zero, List.set_cons_succ])
               go_cut [131] (fun v131 wc => ∃ (kq : Nat) (x131_82 : Bool), v131 = .bool x131_82 ∧ Aside0 (laws_FnExactClothLeft.j2 kq t343 t342 x131_82 = some r) ∧ Aside0 (kq ≤ kj53) ∧ Aside0 (Kd.R (Kd.int .i64) 2 wc w.heap.size (fun _ => True) (.slice Ao84 t318.length co84) t343) ∧ Aside0 (Below w.heap.size w wc))
               case first =>
                have H := HC83.out
                clear HC83
                replace H := Option.bind_eq_some_iff.mp H
                obtain ⟨t358, A930, H⟩ := H
                replace H : (if t358 = true then (laws_FnExactClothLeft.j2 kj53 t343 t342 (t355 != t306)) else (laws_FnExactClothLeft.j2 kj53 t343 t342 true)) = some r := H
                have A93 := Aside0.mk A930
                clear A930
                by_cases c94 : t358 = true
                ·subst c94
                 have H1 : (laws_FnExactClothLeft.j2 kj53 t343 t342 (t355 != t306)) = some r := by rw [if_pos rfl] at H; exact H
                 clear H
                 have H := H1
                 clear H1
                 have H' := Aside0.mk H
                 clear H
                 obtain ⟨Ao95, co95, eo95⟩ := Kd.R_slice HO357.out
                 subst eo95
                 obtain ⟨Ao96, co96, eo96⟩ := Kd.R_slice HO_8.out
                 subst eo96
                 go_wp2_with (first | ((with_reducible refine gate_callee (f := 27) rfl ?_); refine goesL_ (some 125) rfl rfl Try.func27 (by kernel_rfl) rfl #[.slice Ao95 t354.length co95, .slice Ao96 t305.length co96] rfl (by (try simp only [List.map_toArray, List.map_cons, List.map_nil]); first | done | rfl | (simp only [List.length_drop, List.length_take]; rfl)) ?_; (with_reducible refine (laws_eqInt64S.calls kj53 _ _ t354 _ _ t305 true _ ?side1 ?side2 ?side3 ?side4 A93.out).mono ?_); (case side1 => repeat (first | exact (Kd.R_reads' HO357.out).2.2 | (with_reducible refine Kd.C_alloc ?_ _) | (with_reducible refine Kd.C_drewN ?_ _) | (with_reducible refine Kd.C_drew ?_))); (case side2 => exact (Kd.R_reads' HO357.out).2.1); (case side3 => repeat (first | exact (Kd.R_reads' HO_8.out).2.2 | (with_reducible refine Kd.C_alloc ?_ _) | (with_reducible refine Kd.C_drewN ?_ _) | (with_reducible refine Kd.C_drew ?_))); (case side4 => exact (Kd.R_reads' HO_8.out).2.1); rintro e w' ⟨rfl, ⟨nd, rfl⟩⟩; refine ⟨_, rfl, ?_⟩))
                 go_meet
                 case rel => exact ⟨_, ((t355 != t306)), (by first | rfl | (simp; done) | (simp [*]; done)), H', ⟨by have := HJ18.out; have := HJ53.out; first | omega | exact Nat.le_refl _⟩, ⟨by (with_reducible repeat (first | apply Kd.R_alloc | apply Kd.R_drewN | apply Kd.R_drew)); exact Kd.R_mono HO_13.out (fun _ hk => trivial)⟩, ⟨by repeat (first | (with_reducible first | exact HB.out | apply below_alloc | apply pw_below_drewN | apply below_drew1) | exact HB.out)⟩⟩
                ·replace c94 := Bool.eq_false_iff.mpr c94
                 subst c94
                 have H1 : (laws_FnExactClothLeft.j2 kj53 t343 t342 true) = some r := by rw [if_neg (show ¬ (false = true) by decide)] at H; exact H
                 clear H
                 have H := H1
                 clear H1
                 have H' := Aside0.mk H
                 clear H
                 obtain ⟨Ao97, co97, eo97⟩ := Kd.R_slice HO357.out
                 subst eo97
                 obtain ⟨Ao98, co98, eo98⟩ := Kd.R_slice HO_8.out
                 subst eo98
                 go_wp2_with (first | ((with_reducible refine gate_callee (f := 27) rfl ?_); refine goesL_ (some 125) rfl rfl Try.func27 (by kernel_rfl) rfl #[.slice Ao97 t354.length co97, .slice Ao98 t305.length co98] rfl (by (try simp only [List.map_toArray, List.map_cons, List.map_nil]); first | done | rfl | (simp only [List.length_drop, List.length_take]; rfl)) ?_; (with_reducible refine (laws_eqInt64S.calls kj53 _ _ t354 _ _ t305 false _ ?side1 ?side2 ?side3 ?side4 A93.out).mono ?_); (case side1 => repeat (first | exact (Kd.R_reads' HO357.out).2.2 | (with_reducible refine Kd.C_alloc ?_ _) | (with_reducible refine Kd.C_drewN ?_ _) | (with_reducible refine Kd.C_drew ?_))); (case side2 => exact (Kd.R_reads' HO357.out).2.1); (case side3 => repeat (first | exact (Kd.R_reads' HO_8.out).2.2 | (with_reducible refine Kd.C_alloc ?_ _) | (with_reducible refine Kd.C_drewN ?_ _) | (with_reducible refine Kd.C_drew ?_))); (case side4 => exact (Kd.R_reads' HO_8.out).2.1); rintro e w' ⟨rfl, ⟨nd, rfl⟩⟩; refine ⟨_, rfl, ?_⟩))
                 go_meet
                 case rel => exact ⟨_, (true), (by first | rfl | (simp; done) | (simp [*]; done)), H', ⟨by have := HJ18.out; have := HJ53.out; first | omega | exact Nat.le_refl _⟩, ⟨by (with_reducible repeat (first | apply Kd.R_alloc | apply Kd.R_drewN | apply Kd.R_drew)); exact Kd.R_mono HO_13.out (fun _ hk => trivial)⟩, ⟨by repeat (first | (with_reducible first | exact HB.out | apply below_alloc | apply pw_below_drewN | apply below_drew1) | exact HB.out)⟩⟩
               case rest =>
                clear HC83
                try clear c1
                try clear c2
                try clear p2
                try clear c3
                try clear c4
                try clear c4b0
                try clear c4b1
                try clear c5
                try clear c6
                try clear c6b0
                try clear c7
                try clear c9
                try clear c10
                try clear c10b0
                try clear c20
                try clear c22
                try clear c23
                try clear c25
                try clear c26
                try clear c27
                try clear c28
                try clear c29
                try clear c30
                try clear c32
                try clear c33
                try clear c34
                try clear c35
                try clear c36
                try clear c41
                try clear c44
                try clear c47
                try clear c50
                try clear c67
                try clear c67b0
                try clear c69
                try clear c74
                try clear c77
                try clear c77b0
                try clear c78
                try clear c78b0
                try clear c78b1
                try clear c94
                try clear p2
                obtain ⟨kq, x131_82, rfl, HA, HJ82, HO_13, HB⟩ := hcut
                have hl13_82 := (Kd.R_reads' HO_13.out).1
                rw [hl13_82] at HO_13
                (try simp only [hl13_82])
                cases kq with
                | zero => exact absurd HA.out (by simp [laws_FnExactClothLeft.j2])
                | succ kj82 =>
                 have H := HA.out
                 clear HA
                 simp only [laws_FnExactClothLeft.j2] at H
                 by_cases c99 : x131_82 = true
                 ·subst c99
                  have H1 : (some false) = some r := by rw [if_pos rfl] at H; exact H
                  clear H
                  have H := H1
                  clear H1
                  obtain rfl := Option.some.inj H
                  exact absurd HRT.out (by decide)
                 ·replace c99 := Bool.eq_false_iff.mpr c99
                  subst c99
                  have H1 : ((laws_heldInt64S.f kj82 t343 1).bind fun t359 => (if t359 < 0 then (some false) else (if t359 = t342 then (some true) else (some false)))) = some r := by rw [if_neg (show ¬ (false = true) by decide)] at H; exact H
                  clear H
                  have H := H1
                  clear H1
                  replace H := Option.bind_eq_some_iff.mp H
                  obtain ⟨t359, A1000, H⟩ := H
                  replace H : (if t359 < 0 then (some false) else (if t359 = t342 then (some true) else (some false))) = some r := H
                  have A100 := Aside0.mk A1000
                  clear A1000
                  by_cases c101 : t359 < 0
                  ·rw [if_pos c101] at H
                   have c101b0 : decide (t359 < 0) = true := decide_eq_true c101
                   clear c101
                   obtain rfl := Option.some.inj H
                   exact absurd HRT.out (by decide)
                  ·rw [if_neg c101] at H
                   have c101b0 : decide (t359 < 0) = false := decide_eq_false c101
                   clear c101
                   by_cases c102 : t359 = t342
                   ·rw [if_pos c102] at H
                    have c102b0 : (t359 == t342) = true := beq_iff_eq.mpr c102
                    have c102b1 : (t359 != t342) = false := bne_eq_false_iff_eq.mpr c102
                    clear c102
                    obtain rfl := Option.some.inj H
                    simp only [Option.some.injEq, Prod.mk.injEq] at H
                    obtain ⟨rfl⟩ := H
                    go_wp2_with (first | ((with_reducible refine gate_callee (f := 36) rfl ?_); refine goesL_ (some 134) rfl rfl Try.func36 (by kernel_rfl) rfl #[.slice Ao84 t343.length co84, .int .i64 1] rfl (by (try simp only [List.map_toArray, List.map_cons, List.map_nil]); first | done | rfl | (simp only [List.length_drop, List.length_take]; rfl)) ?_; (with_reducible refine (laws_heldInt64S.calls kj82 _ _ t343 1 t359 _ ?side1 ?side2 A100.out).mono ?_); (case side1 => repeat (first | exact (Kd.R_reads' HO_13.out).2.2 | (with_reducible refine Kd.C_alloc ?_ _) | (with_reducible refine Kd.C_drewN ?_ _) | (with_reducible refine Kd.C_drew ?_))); (case side2 => exact (Kd.R_reads' HO_13.out).2.1); rintro e w' ⟨rfl, ⟨nd, rfl⟩⟩; refine ⟨_, rfl, ?_⟩))
                    go_ret
                    exact ⟨by first | rfl | (simp [errW_none, errW_some] <;> rfl) | (simp [*, errW_none, errW_some] <;> rfl), pR HB⟩
                   ·rw [if_neg c102] at H
                    have c102b0 : (t359 == t342) = false := beq_eq_false_iff_ne.mpr c102
                    have c102b1 : (t359 != t342) = true := bne_iff_ne.mpr c102
                    obtain rfl := Option.some.inj H
                    exact absurd HRT.out (by decide)
              ·rw [if_neg c78] at H
               have c78b0 : (t344 == t342) = false := beq_eq_false_iff_ne.mpr c78
               have c78b1 : (t344 != t342) = true := bne_iff_ne.mpr c78
               obtain rfl := Option.some.inj H
               exact absurd HRT.out (by decide)
         ·replace c50 := Bool.eq_false_iff.mpr c50
          subst c50
          have H1 : (some false) = some r := by rw [if_neg (show ¬ (false = true) by decide)] at H; exact H
          clear H
          have H := H1
          clear H1
          obtain rfl := Option.some.inj H
          exact absurd HRT.out (by decide)
        ·replace c47 := Bool.eq_false_iff.mpr c47
         subst c47
         have H1 : (some false) = some r := by rw [if_neg (show ¬ (false = true) by decide)] at H; exact H
         clear H
         have H := H1
         clear H1
         obtain rfl := Option.some.inj H
         exact absurd HRT.out (by decide)
       ·replace c44 := Bool.eq_false_iff.mpr c44
        subst c44
        have H1 : (some false) = some r := by rw [if_neg (show ¬ (false = true) by decide)] at H; exact H
        clear H
        have H := H1
        clear H1
        obtain rfl := Option.some.inj H
        exact absurd HRT.out (by decide)

def laws_FnExactClothLeft.Pure : Prop := ∀ (l0 : List (S24)) (l1 : List Int) (l2 : List (S124)), (l0.length ≤ 9223372036854775807 ∧ ∀ y0 ∈ l0, ((Lit.int .i64 y0.f0).wf = true) ∧ (y0.f1.length ≤ 9223372036854775807 ∧ ∀ y1 ∈ y0.f1, (Lit.int .i64 y1).wf = true)) → (l1.length ≤ 9223372036854775807 ∧ ∀ y0 ∈ l1, (Lit.int .i64 y0).wf = true) → (l2.length ≤ 9223372036854775807 ∧ ∀ y0 ∈ l2, ((Lit.int .i64 y0.f0).wf = true) ∧ ((Lit.int .i64 y0.f1).wf = true)) → ∃ k, laws_FnExactClothLeft.f k l0 l1 l2 = some true

end Go.Proofs.Ytlphfgbeeckjnaa.PFnExactClothLeft
