-- Written by a program of this session (wip/tools/pp.sh).
import Derived.Test.YtobejjbnklcgpaaPFnBroadSeamsx0
import Derived.Test.YtobejjbnklcgpaaPFnBroadSeamsx1
import Derived.Test.YtobejjbnklcgpaaPFnBroadSeamsx2
import Derived.Test.YtobejjbnklcgpaaPFnBroadSeamsx3
namespace Go.Proofs.Ytobejjbnklcgpaa.PFnBroadSeams
open Go.RowKit Go.Proofs.YtobejjbnklcgpaaW.PrintWords Go.Proofs.YtobejjbnklcgpaaW.PrintLast Go.Proofs.YtobejjbnklcgpaaW.PrintMore
attribute [local go_sem] max2_int min2_int max_two min_two max_three min_three max_four min_four   -- for this text's walks alone
set_option linter.unusedVariables false
set_option linter.unusedSimpArgs false

/-! ### laws_FnBroadSeams: function 6 -/
mutual
def laws_FnBroadSeams.j0 : Nat → Int → Int → Int → List Int → Int → List Int → List Int → Int → Int → Bool → Option (Bool)
 | 0, _, _, _, _, _, _, _, _, _, _ => none
 | k + 1, x3, x4, x5, x6, x7, x8, x10, x11, x12, x71 => if x71 = true then (some false) else (if x12 = 0 then ((laws_f6sum.f k x10).bind fun t241 => (laws_FnBroadSeams.j1 k x3 x4 x5 x6 x7 x8 (x11 != t241))) else (laws_FnBroadSeams.j1 k x3 x4 x5 x6 x7 x8 false))
def laws_FnBroadSeams.j1 : Nat → Int → Int → Int → List Int → Int → List Int → Bool → Option (Bool)
 | 0, _, _, _, _, _, _, _ => none
 | k + 1, x3, x4, x5, x6, x7, x8, x79 => if x79 = true then (some false) else (if x7 = 0 then ((impl_DepthOf.f k x6).bind fun bt242 => (if bt242.2 = 0 then (if bt242.1 = x4 then (laws_FnBroadSeams.j2 k x5 x8 ((x8.length : Int) != x3)) else (laws_FnBroadSeams.j2 k x5 x8 true)) else (laws_FnBroadSeams.j2 k x5 x8 true))) else (some true))
def laws_FnBroadSeams.j2 : Nat → Int → List Int → Bool → Option (Bool)
 | 0, _, _, _ => none
 | k + 1, x5, x8, x99 => if x99 = true then (some false) else (laws_FnBroadSeams.l0 k x5 x8 0)
def laws_FnBroadSeams.l0 : Nat → Int → List Int → Int → Option (Bool)
 | 0, _, _, _ => none
 | k + 1, x5, x8, x17 => if x17 < (x8.length : Int) then (laws_FnBroadSeams.l1 k x5 x8 x17 0) else (some true)
def laws_FnBroadSeams.l1 : Nat → Int → List Int → Int → Int → Option (Bool)
 | 0, _, _, _, _ => none
 | k + 1, x5, x8, x17, x18 => if x18 < (x8.length : Int) then (if 0 ≤ x17 then (if x17 < (x8.length : Int) then (if 0 ≤ x18 then (if (rd x8 x17) > (wrap64 ((rd x8 x18) + 1)) then (some false) else (laws_FnBroadSeams.l1 k x5 x8 x17 (wrap64 (x18 + 1)))) else (none)) else (none)) else (none)) else (if 0 ≤ x17 then (if x17 < (x8.length : Int) then (if (rd x8 x17) < 0 then (some false) else (if (rd x8 x17) > x5 then (some false) else (laws_FnBroadSeams.l0 k x5 x8 (wrap64 (x17 + 1))))) else (none)) else (none))
end
def laws_FnBroadSeams.f (k : Nat) (l0 : List Int) : Option (Bool) := (laws_f6big.f l0).bind fun t221 => (if t221 = true then (some true) else ((spec_DrawBroadSeams.f l0).bind fun bt222 => ((impl_BroadSeams.f k bt222.1 bt222.2.1 bt222.2.2).bind fun bt225 => ((spec_BroadSeams.f k bt222.1 bt222.2.1 bt222.2.2).bind fun bt229 => ((spec_DrawDepthOf.f k l0).bind fun t233 => ((impl_DepthOf.f k t233).bind fun bt236 => ((spec_DepthOf.f k t233).bind fun bt238 => (if bt225.2 = bt229.2 then ((laws_f6ints.f k bt225.1 bt229.1).bind fun t240 => (if t240 = true then (if bt236.2 = bt238.2 then (laws_FnBroadSeams.j0 k bt222.1 bt222.2.1 bt222.2.2 bt225.1 bt225.2 bt229.1 t233 bt236.1 bt236.2 (bt236.1 != bt238.1)) else (laws_FnBroadSeams.j0 k bt222.1 bt222.2.1 bt222.2.2 bt225.1 bt225.2 bt229.1 t233 bt236.1 bt236.2 true)) else (laws_FnBroadSeams.j0 k bt222.1 bt222.2.1 bt222.2.2 bt225.1 bt225.2 bt229.1 t233 bt236.1 bt236.2 true))) else (laws_FnBroadSeams.j0 k bt222.1 bt222.2.1 bt222.2.2 bt225.1 bt225.2 bt229.1 t233 bt236.1 bt236.2 true)))))))))
theorem laws_FnBroadSeams.mono_l : ∀ k, (∀ y0 y1 y2 y3 y4 y5 y6 y7 y8 y9, LeO (laws_FnBroadSeams.j0 k y0 y1 y2 y3 y4 y5 y6 y7 y8 y9) (laws_FnBroadSeams.j0 (k + 1) y0 y1 y2 y3 y4 y5 y6 y7 y8 y9)) ∧ (∀ y0 y1 y2 y3 y4 y5 y6, LeO (laws_FnBroadSeams.j1 k y0 y1 y2 y3 y4 y5 y6) (laws_FnBroadSeams.j1 (k + 1) y0 y1 y2 y3 y4 y5 y6)) ∧ (∀ y0 y1 y2, LeO (laws_FnBroadSeams.j2 k y0 y1 y2) (laws_FnBroadSeams.j2 (k + 1) y0 y1 y2)) ∧ (∀ y0 y1 y2, LeO (laws_FnBroadSeams.l0 k y0 y1 y2) (laws_FnBroadSeams.l0 (k + 1) y0 y1 y2)) ∧ (∀ y0 y1 y2 y3, LeO (laws_FnBroadSeams.l1 k y0 y1 y2 y3) (laws_FnBroadSeams.l1 (k + 1) y0 y1 y2 y3))
 | 0 => ⟨fun _ _ _ _ _ _ _ _ _ _ r h => by simp [laws_FnBroadSeams.j0] at h, fun _ _ _ _ _ _ _ r h => by simp [laws_FnBroadSeams.j1] at h, fun _ _ _ r h => by simp [laws_FnBroadSeams.j2] at h, fun _ _ _ r h => by simp [laws_FnBroadSeams.l0] at h, fun _ _ _ _ r h => by simp [laws_FnBroadSeams.l1] at h⟩
 | k + 1 => by
  obtain ⟨ih0, ih1, ih2, ih3, ih4⟩ := laws_FnBroadSeams.mono_l k
  refine ⟨?_, ?_, ?_, ?_, ?_⟩
  ·intro y0 y1 y2 y3 y4 y5 y6 y7 y8 y9
   unfold laws_FnBroadSeams.j0
   repeat' first
   | (with_reducible exact ih0 _ _ _ _ _ _ _ _ _ _)
   | (with_reducible exact ih1 _ _ _ _ _ _ _)
   | (with_reducible exact ih2 _ _ _)
   | (with_reducible exact ih3 _ _ _)
   | (with_reducible exact ih4 _ _ _ _)
   | (with_reducible exact impl_BroadSeams.mono _ _ _ _)
   | (with_reducible exact impl_DepthOf.mono _ _)
   | (with_reducible exact laws_f6ints.mono _ _ _)
   | (with_reducible exact laws_f6sum.mono _ _)
   | (with_reducible exact spec_BroadSeams.mono _ _ _ _)
   | (with_reducible exact spec_DepthOf.mono _ _)
   | (with_reducible exact spec_DrawDepthOf.mono _ _)
   | (with_reducible exact LeO.refl _)
   | (with_reducible exact LeO.none _)
   | (with_reducible refine LeO.ite ?_ ?_)
   | (with_reducible refine LeO.bind ?_ (fun _ => ?_))
   | exact ih0 _ _ _ _ _ _ _ _ _ _
   | exact ih1 _ _ _ _ _ _ _
   | exact ih2 _ _ _
   | exact ih3 _ _ _
   | exact ih4 _ _ _ _
   | exact impl_BroadSeams.mono _ _ _ _
   | exact impl_DepthOf.mono _ _
   | exact laws_f6ints.mono _ _ _
   | exact laws_f6sum.mono _ _
   | exact spec_BroadSeams.mono _ _ _ _
   | exact spec_DepthOf.mono _ _
   | exact spec_DrawDepthOf.mono _ _
   | exact LeO.none _
   | refine LeO.ite ?_ ?_
   | refine LeO.bind ?_ (fun _ => ?_)
  ·intro y0 y1 y2 y3 y4 y5 y6
   unfold laws_FnBroadSeams.j1
   repeat' first
   | (with_reducible exact ih0 _ _ _ _ _ _ _ _ _ _)
   | (with_reducible exact ih1 _ _ _ _ _ _ _)
   | (with_reducible exact ih2 _ _ _)
   | (with_reducible exact ih3 _ _ _)
   | (with_reducible exact ih4 _ _ _ _)
   | (with_reducible exact impl_BroadSeams.mono _ _ _ _)
   | (with_reducible exact impl_DepthOf.mono _ _)
   | (with_reducible exact laws_f6ints.mono _ _ _)
   | (with_reducible exact laws_f6sum.mono _ _)
   | (with_reducible exact spec_BroadSeams.mono _ _ _ _)
   | (with_reducible exact spec_DepthOf.mono _ _)
   | (with_reducible exact spec_DrawDepthOf.mono _ _)
   | (with_reducible exact LeO.refl _)
   | (with_reducible exact LeO.none _)
   | (with_reducible refine LeO.ite ?_ ?_)
   | (with_reducible refine LeO.bind ?_ (fun _ => ?_))
   | exact ih0 _ _ _ _ _ _ _ _ _ _
   | exact ih1 _ _ _ _ _ _ _
   | exact ih2 _ _ _
   | exact ih3 _ _ _
   | exact ih4 _ _ _ _
   | exact impl_BroadSeams.mono _ _ _ _
   | exact impl_DepthOf.mono _ _
   | exact laws_f6ints.mono _ _ _
   | exact laws_f6sum.mono _ _
   | exact spec_BroadSeams.mono _ _ _ _
   | exact spec_DepthOf.mono _ _
   | exact spec_DrawDepthOf.mono _ _
   | exact LeO.none _
   | refine LeO.ite ?_ ?_
   | refine LeO.bind ?_ (fun _ => ?_)
  ·intro y0 y1 y2
   unfold laws_FnBroadSeams.j2
   repeat' first
   | (with_reducible exact ih0 _ _ _ _ _ _ _ _ _ _)
   | (with_reducible exact ih1 _ _ _ _ _ _ _)
   | (with_reducible exact ih2 _ _ _)
   | (with_reducible exact ih3 _ _ _)
   | (with_reducible exact ih4 _ _ _ _)
   | (with_reducible exact impl_BroadSeams.mono _ _ _ _)
   | (with_reducible exact impl_DepthOf.mono _ _)
   | (with_reducible exact laws_f6ints.mono _ _ _)
   | (with_reducible exact laws_f6sum.mono _ _)
   | (with_reducible exact spec_BroadSeams.mono _ _ _ _)
   | (with_reducible exact spec_DepthOf.mono _ _)
   | (with_reducible exact spec_DrawDepthOf.mono _ _)
   | (with_reducible exact LeO.refl _)
   | (with_reducible exact LeO.none _)
   | (with_reducible refine LeO.ite ?_ ?_)
   | (with_reducible refine LeO.bind ?_ (fun _ => ?_))
   | exact ih0 _ _ _ _ _ _ _ _ _ _
   | exact ih1 _ _ _ _ _ _ _
   | exact ih2 _ _ _
   | exact ih3 _ _ _
   | exact ih4 _ _ _ _
   | exact impl_BroadSeams.mono _ _ _ _
   | exact impl_DepthOf.mono _ _
   | exact laws_f6ints.mono _ _ _
   | exact laws_f6sum.mono _ _
   | exact spec_BroadSeams.mono _ _ _ _
   | exact spec_DepthOf.mono _ _
   | exact spec_DrawDepthOf.mono _ _
   | exact LeO.none _
   | refine LeO.ite ?_ ?_
   | refine LeO.bind ?_ (fun _ => ?_)
  ·intro y0 y1 y2
   unfold laws_FnBroadSeams.l0
   repeat' first
   | (with_reducible exact ih0 _ _ _ _ _ _ _ _ _ _)
   | (with_reducible exact ih1 _ _ _ _ _ _ _)
   | (with_reducible exact ih2 _ _ _)
   | (with_reducible exact ih3 _ _ _)
   | (with_reducible exact ih4 _ _ _ _)
   | (with_reducible exact impl_BroadSeams.mono _ _ _ _)
   | (with_reducible exact impl_DepthOf.mono _ _)
   | (with_reducible exact laws_f6ints.mono _ _ _)
   | (with_reducible exact laws_f6sum.mono _ _)
   | (with_reducible exact spec_BroadSeams.mono _ _ _ _)
   | (with_reducible exact spec_DepthOf.mono _ _)
   | (with_reducible exact spec_DrawDepthOf.mono _ _)
   | (with_reducible exact LeO.refl _)
   | (with_reducible exact LeO.none _)
   | (with_reducible refine LeO.ite ?_ ?_)
   | (with_reducible refine LeO.bind ?_ (fun _ => ?_))
   | exact ih0 _ _ _ _ _ _ _ _ _ _
   | exact ih1 _ _ _ _ _ _ _
   | exact ih2 _ _ _
   | exact ih3 _ _ _
   | exact ih4 _ _ _ _
   | exact impl_BroadSeams.mono _ _ _ _
   | exact impl_DepthOf.mono _ _
   | exact laws_f6ints.mono _ _ _
   | exact laws_f6sum.mono _ _
   | exact spec_BroadSeams.mono _ _ _ _
   | exact spec_DepthOf.mono _ _
   | exact spec_DrawDepthOf.mono _ _
   | exact LeO.none _
   | refine LeO.ite ?_ ?_
   | refine LeO.bind ?_ (fun _ => ?_)
  ·intro y0 y1 y2 y3
   unfold laws_FnBroadSeams.l1
   repeat' first
   | (with_reducible exact ih0 _ _ _ _ _ _ _ _ _ _)
   | (with_reducible exact ih1 _ _ _ _ _ _ _)
   | (with_reducible exact ih2 _ _ _)
   | (with_reducible exact ih3 _ _ _)
   | (with_reducible exact ih4 _ _ _ _)
   | (with_reducible exact impl_BroadSeams.mono _ _ _ _)
   | (with_reducible exact impl_DepthOf.mono _ _)
   | (with_reducible exact laws_f6ints.mono _ _ _)
   | (with_reducible exact laws_f6sum.mono _ _)
   | (with_reducible exact spec_BroadSeams.mono _ _ _ _)
   | (with_reducible exact spec_DepthOf.mono _ _)
   | (with_reducible exact spec_DrawDepthOf.mono _ _)
   | (with_reducible exact LeO.refl _)
   | (with_reducible exact LeO.none _)
   | (with_reducible refine LeO.ite ?_ ?_)
   | (with_reducible refine LeO.bind ?_ (fun _ => ?_))
   | exact ih0 _ _ _ _ _ _ _ _ _ _
   | exact ih1 _ _ _ _ _ _ _
   | exact ih2 _ _ _
   | exact ih3 _ _ _
   | exact ih4 _ _ _ _
   | exact impl_BroadSeams.mono _ _ _ _
   | exact impl_DepthOf.mono _ _
   | exact laws_f6ints.mono _ _ _
   | exact laws_f6sum.mono _ _
   | exact spec_BroadSeams.mono _ _ _ _
   | exact spec_DepthOf.mono _ _
   | exact spec_DrawDepthOf.mono _ _
   | exact LeO.none _
   | refine LeO.ite ?_ ?_
   | refine LeO.bind ?_ (fun _ => ?_)
theorem laws_FnBroadSeams.mono : ∀ a0 k, LeO (laws_FnBroadSeams.f k a0) (laws_FnBroadSeams.f (k + 1) a0) := by
 intro a0 k
 obtain ⟨ih0, ih1, ih2, ih3, ih4⟩ := laws_FnBroadSeams.mono_l k
 unfold laws_FnBroadSeams.f
 repeat' first
   | (with_reducible exact ih0 _ _ _ _ _ _ _ _ _ _)
   | (with_reducible exact ih1 _ _ _ _ _ _ _)
   | (with_reducible exact ih2 _ _ _)
   | (with_reducible exact ih3 _ _ _)
   | (with_reducible exact ih4 _ _ _ _)
   | (with_reducible exact impl_BroadSeams.mono _ _ _ _)
   | (with_reducible exact impl_DepthOf.mono _ _)
   | (with_reducible exact laws_f6ints.mono _ _ _)
   | (with_reducible exact laws_f6sum.mono _ _)
   | (with_reducible exact spec_BroadSeams.mono _ _ _ _)
   | (with_reducible exact spec_DepthOf.mono _ _)
   | (with_reducible exact spec_DrawDepthOf.mono _ _)
   | (with_reducible exact LeO.refl _)
   | (with_reducible exact LeO.none _)
   | (with_reducible refine LeO.ite ?_ ?_)
   | (with_reducible refine LeO.bind ?_ (fun _ => ?_))
   | exact ih0 _ _ _ _ _ _ _ _ _ _
   | exact ih1 _ _ _ _ _ _ _
   | exact ih2 _ _ _
   | exact ih3 _ _ _
   | exact ih4 _ _ _ _
   | exact impl_BroadSeams.mono _ _ _ _
   | exact impl_DepthOf.mono _ _
   | exact laws_f6ints.mono _ _ _
   | exact laws_f6sum.mono _ _
   | exact spec_BroadSeams.mono _ _ _ _
   | exact spec_DepthOf.mono _ _
   | exact spec_DrawDepthOf.mono _ _
   | exact LeO.none _
   | refine LeO.ite ?_ ?_
   | refine LeO.bind ?_ (fun _ => ?_)
set_option maxHeartbeats 8000000 in
set_option maxRecDepth 100000 in
theorem laws_FnBroadSeams.calls (k : Nat) (A0 : Option Addr) (c0 : Nat) (l0 : List Int) (r : Bool) (w : World) (hr0 : Kd.C (Kd.int .u8) w A0 l0.length l0) (hc0 : l0.length ≤ c0) (h : laws_FnBroadSeams.f k l0 = some r) :
  Calls Try.prog 6 #[.slice A0 l0.length c0] w fun e w' => e = .returned (.bool r) ∧ Below w.heap.size w w' := by
 have HR0 := Aside0.mk hr0
 have HC0 := Aside0.mk hc0
 clear hr0 hc0
 have HB := Aside0.mk (Below.refl w.heap.size w)
 have H : ((laws_f6big.f l0).bind fun t221 => (if t221 = true then (some true) else ((spec_DrawBroadSeams.f l0).bind fun bt222 => ((impl_BroadSeams.f k bt222.1 bt222.2.1 bt222.2.2).bind fun bt225 => ((spec_BroadSeams.f k bt222.1 bt222.2.1 bt222.2.2).bind fun bt229 => ((spec_DrawDepthOf.f k l0).bind fun t233 => ((impl_DepthOf.f k t233).bind fun bt236 => ((spec_DepthOf.f k t233).bind fun bt238 => (if bt225.2 = bt229.2 then ((laws_f6ints.f k bt225.1 bt229.1).bind fun t240 => (if t240 = true then (if bt236.2 = bt238.2 then (laws_FnBroadSeams.j0 k bt222.1 bt222.2.1 bt222.2.2 bt225.1 bt225.2 bt229.1 t233 bt236.1 bt236.2 (bt236.1 != bt238.1)) else (laws_FnBroadSeams.j0 k bt222.1 bt222.2.1 bt222.2.2 bt225.1 bt225.2 bt229.1 t233 bt236.1 bt236.2 true)) else (laws_FnBroadSeams.j0 k bt222.1 bt222.2.1 bt222.2.2 bt225.1 bt225.2 bt229.1 t233 bt236.1 bt236.2 true))) else (laws_FnBroadSeams.j0 k bt222.1 bt222.2.1 bt222.2.2 bt225.1 bt225.2 bt229.1 t233 bt236.1 bt236.2 true)))))))))) = some r := h
 clear h
 replace H := Option.bind_eq_some_iff.mp H
 obtain ⟨t221, A20, H⟩ := H
 replace H : (if t221 = true then (some true) else ((spec_DrawBroadSeams.f l0).bind fun bt222 => ((impl_BroadSeams.f k bt222.1 bt222.2.1 bt222.2.2).bind fun bt225 => ((spec_BroadSeams.f k bt222.1 bt222.2.1 bt222.2.2).bind fun bt229 => ((spec_DrawDepthOf.f k l0).bind fun t233 => ((impl_DepthOf.f k t233).bind fun bt236 => ((spec_DepthOf.f k t233).bind fun bt238 => (if bt225.2 = bt229.2 then ((laws_f6ints.f k bt225.1 bt229.1).bind fun t240 => (if t240 = true then (if bt236.2 = bt238.2 then (laws_FnBroadSeams.j0 k bt222.1 bt222.2.1 bt222.2.2 bt225.1 bt225.2 bt229.1 t233 bt236.1 bt236.2 (bt236.1 != bt238.1)) else (laws_FnBroadSeams.j0 k bt222.1 bt222.2.1 bt222.2.2 bt225.1 bt225.2 bt229.1 t233 bt236.1 bt236.2 true)) else (laws_FnBroadSeams.j0 k bt222.1 bt222.2.1 bt222.2.2 bt225.1 bt225.2 bt229.1 t233 bt236.1 bt236.2 true))) else (laws_FnBroadSeams.j0 k bt222.1 bt222.2.1 bt222.2.2 bt225.1 bt225.2 bt229.1 t233 bt236.1 bt236.2 true))))))))) = some r := H
 have A2 := Aside0.mk A20
 clear A20
 by_cases c3 : t221 = true
 ·subst c3
  have H1 : (some true) = some r := by rw [if_pos rfl] at H; exact H
  clear H
  have H := H1
  clear H1
  obtain rfl := Option.some.inj H
  go_enter Try.func6, Try.ntmps6
  go_wp2_with (first | (go_at_call 35; (with_reducible refine (laws_f6big.calls _ _ l0 true _ ?side1 ?side2 A2.out).mono ?_); (case side1 => repeat (first | exact HR0.out | (with_reducible refine Kd.C_alloc ?_ _) | (with_reducible refine Kd.C_drewN ?_ _) | (with_reducible refine Kd.C_drew ?_))); (case side2 => exact HC0.out); rintro e w' ⟨rfl, ⟨nd, rfl⟩⟩; (try first | exact ⟨rfl, _, World.drewN_drewN _ _ _⟩ | exact ⟨rfl, _, Eq.trans (World.drewN_drewN _ _ _) (congrArg (World.drewN _) (Nat.add_assoc _ _ _))⟩)))
  repeat (go_quiet (first | (go_at_call 35; (with_reducible refine (laws_f6big.calls _ _ l0 true _ ?side1 ?side2 A2.out).mono ?_); (case side1 => repeat (first | exact HR0.out | (with_reducible refine Kd.C_alloc ?_ _) | (with_reducible refine Kd.C_drewN ?_ _) | (with_reducible refine Kd.C_drew ?_))); (case side2 => exact HC0.out); rintro e w' ⟨rfl, ⟨nd, rfl⟩⟩; (try first | exact ⟨rfl, _, World.drewN_drewN _ _ _⟩ | exact ⟨rfl, _, Eq.trans (World.drewN_drewN _ _ _) (congrArg (World.drewN _) (Nat.add_assoc _ _ _))⟩))); try go_wp2_with (first | (go_at_call 35; (with_reducible refine (laws_f6big.calls _ _ l0 true _ ?side1 ?side2 A2.out).mono ?_); (case side1 => repeat (first | exact HR0.out | (with_reducible refine Kd.C_alloc ?_ _) | (with_reducible refine Kd.C_drewN ?_ _) | (with_reducible refine Kd.C_drew ?_))); (case side2 => exact HC0.out); rintro e w' ⟨rfl, ⟨nd, rfl⟩⟩; (try first | exact ⟨rfl, _, World.drewN_drewN _ _ _⟩ | exact ⟨rfl, _, Eq.trans (World.drewN_drewN _ _ _) (congrArg (World.drewN _) (Nat.add_assoc _ _ _))⟩))))
  go_ret
  exact ⟨by first | rfl | (simp [errW_none, errW_some] <;> rfl) | (simp [*, errW_none, errW_some] <;> rfl), by repeat (first | (with_reducible first | exact HB.out | apply below_alloc | apply pw_below_drewN | apply below_drew1) | exact HB.out)⟩
 ·replace c3 := Bool.eq_false_iff.mpr c3
  subst c3
  have H1 : ((spec_DrawBroadSeams.f l0).bind fun bt222 => ((impl_BroadSeams.f k bt222.1 bt222.2.1 bt222.2.2).bind fun bt225 => ((spec_BroadSeams.f k bt222.1 bt222.2.1 bt222.2.2).bind fun bt229 => ((spec_DrawDepthOf.f k l0).bind fun t233 => ((impl_DepthOf.f k t233).bind fun bt236 => ((spec_DepthOf.f k t233).bind fun bt238 => (if bt225.2 = bt229.2 then ((laws_f6ints.f k bt225.1 bt229.1).bind fun t240 => (if t240 = true then (if bt236.2 = bt238.2 then (laws_FnBroadSeams.j0 k bt222.1 bt222.2.1 bt222.2.2 bt225.1 bt225.2 bt229.1 t233 bt236.1 bt236.2 (bt236.1 != bt238.1)) else (laws_FnBroadSeams.j0 k bt222.1 bt222.2.1 bt222.2.2 bt225.1 bt225.2 bt229.1 t233 bt236.1 bt236.2 true)) else (laws_FnBroadSeams.j0 k bt222.1 bt222.2.1 bt222.2.2 bt225.1 bt225.2 bt229.1 t233 bt236.1 bt236.2 true))) else (laws_FnBroadSeams.j0 k bt222.1 bt222.2.1 bt222.2.2 bt225.1 bt225.2 bt229.1 t233 bt236.1 bt236.2 true)))))))) = some r := by rw [if_neg (show ¬ (false = true) by decide)] at H; exact H
  clear H
  have H := H1
  clear H1
  replace H := Option.bind_eq_some_iff.mp H
  obtain ⟨⟨t222, t223, t224⟩, A40, H⟩ := H
  replace H : ((impl_BroadSeams.f k t222 t223 t224).bind fun bt225 => ((spec_BroadSeams.f k t222 t223 t224).bind fun bt229 => ((spec_DrawDepthOf.f k l0).bind fun t233 => ((impl_DepthOf.f k t233).bind fun bt236 => ((spec_DepthOf.f k t233).bind fun bt238 => (if bt225.2 = bt229.2 then ((laws_f6ints.f k bt225.1 bt229.1).bind fun t240 => (if t240 = true then (if bt236.2 = bt238.2 then (laws_FnBroadSeams.j0 k t222 t223 t224 bt225.1 bt225.2 bt229.1 t233 bt236.1 bt236.2 (bt236.1 != bt238.1)) else (laws_FnBroadSeams.j0 k t222 t223 t224 bt225.1 bt225.2 bt229.1 t233 bt236.1 bt236.2 true)) else (laws_FnBroadSeams.j0 k t222 t223 t224 bt225.1 bt225.2 bt229.1 t233 bt236.1 bt236.2 true))) else (laws_FnBroadSeams.j0 k t222 t223 t224 bt225.1 bt225.2 bt229.1 t233 bt236.1 bt236.2 true))))))) = some r := H
  have A4 := Aside0.mk A40
  clear A40
  replace H := Option.bind_eq_some_iff.mp H
  obtain ⟨⟨t225, t226⟩, A50, H⟩ := H
  replace H : ((spec_BroadSeams.f k t222 t223 t224).bind fun bt229 => ((spec_DrawDepthOf.f k l0).bind fun t233 => ((impl_DepthOf.f k t233).bind fun bt236 => ((spec_DepthOf.f k t233).bind fun bt238 => (if t226 = bt229.2 then ((laws_f6ints.f k t225 bt229.1).bind fun t240 => (if t240 = true then (if bt236.2 = bt238.2 then (laws_FnBroadSeams.j0 k t222 t223 t224 t225 t226 bt229.1 t233 bt236.1 bt236.2 (bt236.1 != bt238.1)) else (laws_FnBroadSeams.j0 k t222 t223 t224 t225 t226 bt229.1 t233 bt236.1 bt236.2 true)) else (laws_FnBroadSeams.j0 k t222 t223 t224 t225 t226 bt229.1 t233 bt236.1 bt236.2 true))) else (laws_FnBroadSeams.j0 k t222 t223 t224 t225 t226 bt229.1 t233 bt236.1 bt236.2 true)))))) = some r := H
  have A5 := Aside0.mk A50
  clear A50
  replace H := Option.bind_eq_some_iff.mp H
  obtain ⟨⟨t229, t230⟩, A60, H⟩ := H
  replace H : ((spec_DrawDepthOf.f k l0).bind fun t233 => ((impl_DepthOf.f k t233).bind fun bt236 => ((spec_DepthOf.f k t233).bind fun bt238 => (if t226 = t230 then ((laws_f6ints.f k t225 t229).bind fun t240 => (if t240 = true then (if bt236.2 = bt238.2 then (laws_FnBroadSeams.j0 k t222 t223 t224 t225 t226 t229 t233 bt236.1 bt236.2 (bt236.1 != bt238.1)) else (laws_FnBroadSeams.j0 k t222 t223 t224 t225 t226 t229 t233 bt236.1 bt236.2 true)) else (laws_FnBroadSeams.j0 k t222 t223 t224 t225 t226 t229 t233 bt236.1 bt236.2 true))) else (laws_FnBroadSeams.j0 k t222 t223 t224 t225 t226 t229 t233 bt236.1 bt236.2 true))))) = some r := H
  have A6 := Aside0.mk A60
  clear A60
  replace H := Option.bind_eq_some_iff.mp H
  obtain ⟨t233, A70, H⟩ := H
  replace H : ((impl_DepthOf.f k t233).bind fun bt236 => ((spec_DepthOf.f k t233).bind fun bt238 => (if t226 = t230 then ((laws_f6ints.f k t225 t229).bind fun t240 => (if t240 = true then (if bt236.2 = bt238.2 then (laws_FnBroadSeams.j0 k t222 t223 t224 t225 t226 t229 t233 bt236.1 bt236.2 (bt236.1 != bt238.1)) else (laws_FnBroadSeams.j0 k t222 t223 t224 t225 t226 t229 t233 bt236.1 bt236.2 true)) else (laws_FnBroadSeams.j0 k t222 t223 t224 t225 t226 t229 t233 bt236.1 bt236.2 true))) else (laws_FnBroadSeams.j0 k t222 t223 t224 t225 t226 t229 t233 bt236.1 bt236.2 true)))) = some r := H
  have A7 := Aside0.mk A70
  clear A70
  replace H := Option.bind_eq_some_iff.mp H
  obtain ⟨⟨t236, t237⟩, A80, H⟩ := H
  replace H : ((spec_DepthOf.f k t233).bind fun bt238 => (if t226 = t230 then ((laws_f6ints.f k t225 t229).bind fun t240 => (if t240 = true then (if t237 = bt238.2 then (laws_FnBroadSeams.j0 k t222 t223 t224 t225 t226 t229 t233 t236 t237 (t236 != bt238.1)) else (laws_FnBroadSeams.j0 k t222 t223 t224 t225 t226 t229 t233 t236 t237 true)) else (laws_FnBroadSeams.j0 k t222 t223 t224 t225 t226 t229 t233 t236 t237 true))) else (laws_FnBroadSeams.j0 k t222 t223 t224 t225 t226 t229 t233 t236 t237 true))) = some r := H
  have A8 := Aside0.mk A80
  clear A80
  replace H := Option.bind_eq_some_iff.mp H
  obtain ⟨⟨t238, t239⟩, A90, H⟩ := H
  replace H : (if t226 = t230 then ((laws_f6ints.f k t225 t229).bind fun t240 => (if t240 = true then (if t237 = t239 then (laws_FnBroadSeams.j0 k t222 t223 t224 t225 t226 t229 t233 t236 t237 (t236 != t238)) else (laws_FnBroadSeams.j0 k t222 t223 t224 t225 t226 t229 t233 t236 t237 true)) else (laws_FnBroadSeams.j0 k t222 t223 t224 t225 t226 t229 t233 t236 t237 true))) else (laws_FnBroadSeams.j0 k t222 t223 t224 t225 t226 t229 t233 t236 t237 true)) = some r := H
  have A9 := Aside0.mk A90
  clear A90
  have HC10 := Aside0.mk H
  clear H
  go_enter Try.func6, Try.ntmps6
  go_upto_region 9 with (first | (go_at_call 35; (with_reducible refine (laws_f6big.calls _ _ l0 false _ ?side1 ?side2 A2.out).mono ?_); (case side1 => repeat (first | exact HR0.out | (with_reducible refine Kd.C_alloc ?_ _) | (with_reducible refine Kd.C_drewN ?_ _) | (with_reducible refine Kd.C_drew ?_))); (case side2 => exact HC0.out); rintro e w' ⟨rfl, ⟨nd, rfl⟩⟩; (try first | exact ⟨rfl, _, World.drewN_drewN _ _ _⟩ | exact ⟨rfl, _, Eq.trans (World.drewN_drewN _ _ _) (congrArg (World.drewN _) (Nat.add_assoc _ _ _))⟩)) | (go_at_call 36; (with_reducible refine (spec_DrawBroadSeams.calls _ _ l0 t222 t223 t224 _ ?side1 ?side2 A4.out).mono ?_); (case side1 => repeat (first | exact HR0.out | (with_reducible refine Kd.C_alloc ?_ _) | (with_reducible refine Kd.C_drewN ?_ _) | (with_reducible refine Kd.C_drew ?_))); (case side2 => exact HC0.out); rintro e w11 ⟨rfl, hb⟩; have n0_ := Aside0.mk (below_step (by repeat (first | (with_reducible first | exact HB.out | apply below_alloc | apply pw_below_drewN | apply below_drew1) | exact HB.out)) hb); clear HB; have HB := n0_; clear n0_; (try clear hb); (try clear hb2); (try clear hk); (try clear hi)) | (go_at_call 37; (with_reducible refine (impl_BroadSeams.calls k t222 t223 t224 t225 t226 _ A5.out).mono ?_); rintro e w12 ⟨v227, rfl, ho0, hb⟩; have n0_ := Aside0.mk (Kd.R_lower ho0 (below_size (by repeat (first | (with_reducible first | exact HB.out | apply below_alloc | apply pw_below_drewN | apply below_drew1) | exact HB.out)))); have n1_ := Aside0.mk (below_step (by repeat (first | (with_reducible first | exact HB.out | apply below_alloc | apply pw_below_drewN | apply below_drew1) | exact HB.out)) hb); clear HB; have HO228 := n0_; have HB := n1_; clear n0_ n1_; (try clear hb); (try clear hb2); (try clear hk); (try clear hi); (try clear ho0)) | (go_at_call 38; (with_reducible refine (spec_BroadSeams.calls k t222 t223 t224 t229 t230 _ A6.out).mono ?_); rintro e w13 ⟨v231, rfl, ho0, hb⟩; have n0_ := Aside0.mk (Kd.R_elder' (by (with_reducible repeat (first | apply Kd.R_alloc | apply Kd.R_drewN | apply Kd.R_drew)); exact HO228.out) (Kd.R_base ho0) hb); have n1_ := Aside0.mk (Kd.R_lower (Kd.R_new' ho0 (Kd.R_lt (by (with_reducible repeat (first | apply Kd.R_alloc | apply Kd.R_drewN | apply Kd.R_drew)); exact HO228.out))) (below_size (by repeat (first | (with_reducible first | exact HB.out | apply below_alloc | apply pw_below_drewN | apply below_drew1) | exact HB.out)))); have n2_ := Aside0.mk (below_step (by repeat (first | (with_reducible first | exact HB.out | apply below_alloc | apply pw_below_drewN | apply below_drew1) | exact HB.out)) hb); clear HO228; clear HB; have HO228 := n0_; have HO232 := n1_; have HB := n2_; clear n0_ n1_ n2_; (try clear hb); (try clear hb2); (try clear hk); (try clear hi); (try clear ho0)) | (go_at_call 39; (with_reducible refine (spec_DrawDepthOf.calls k _ _ l0 t233 _ ?side1 ?side2 A7.out).mono ?_); (case side1 => repeat (first | exact (Kd.C_below HR0.out HB.out) | (with_reducible refine Kd.C_alloc ?_ _) | (with_reducible refine Kd.C_drewN ?_ _) | (with_reducible refine Kd.C_drew ?_))); (case side2 => exact HC0.out); rintro e w14 ⟨v234, rfl, ho0, hb⟩; have n0_ := Aside0.mk (Kd.R_elder' (by (with_reducible repeat (first | apply Kd.R_alloc | apply Kd.R_drewN | apply Kd.R_drew)); exact HO228.out) (Kd.R_base ho0) hb); have n1_ := Aside0.mk (Kd.R_elder' (by (with_reducible repeat (first | apply Kd.R_alloc | apply Kd.R_drewN | apply Kd.R_drew)); exact HO232.out) (Kd.R_base ho0) hb); have n2_ := Aside0.mk (Kd.R_lower (Kd.R_new' (Kd.R_new' ho0 (Kd.R_lt (by (with_reducible repeat (first | apply Kd.R_alloc | apply Kd.R_drewN | apply Kd.R_drew)); exact HO228.out))) (Kd.R_lt (by (with_reducible repeat (first | apply Kd.R_alloc | apply Kd.R_drewN | apply Kd.R_drew)); exact HO232.out))) (below_size (by repeat (first | (with_reducible first | exact HB.out | apply below_alloc | apply pw_below_drewN | apply below_drew1) | exact HB.out)))); have n3_ := Aside0.mk (below_step (by repeat (first | (with_reducible first | exact HB.out | apply below_alloc | apply pw_below_drewN | apply below_drew1) | exact HB.out)) hb); clear HO228; clear HO232; clear HB; have HO228 := n0_; have HO232 := n1_; have HO235 := n2_; have HB := n3_; clear n0_ n1_ n2_ n3_; (try clear hb); (try clear hb2); (try clear hk); (try clear hi); (try clear ho0); obtain ⟨Ao15, co15, eo15⟩ := Kd.R_slice HO235.out; subst eo15) | (go_at_call 40; (with_reducible refine (impl_DepthOf.calls k _ _ t233 t236 t237 _ ?side1 ?side2 A8.out).mono ?_); (case side1 => repeat (first | exact (Kd.R_reads' HO235.out).2.2 | (with_reducible refine Kd.C_alloc ?_ _) | (with_reducible refine Kd.C_drewN ?_ _) | (with_reducible refine Kd.C_drew ?_))); (case side2 => exact (Kd.R_reads' HO235.out).2.1); rintro e w' ⟨rfl, ⟨nd, rfl⟩⟩; (try first | exact ⟨rfl, _, World.drewN_drewN _ _ _⟩ | exact ⟨rfl, _, Eq.trans (World.drewN_drewN _ _ _) (congrArg (World.drewN _) (Nat.add_assoc _ _ _))⟩)) | (go_at_call 41; (with_reducible refine (spec_DepthOf.calls k _ _ t233 t238 t239 _ ?side1 ?side2 A9.out).mono ?_); (case side1 => repeat (first | exact (Kd.R_reads' HO235.out).2.2 | (with_reducible refine Kd.C_alloc ?_ _) | (with_reducible refine Kd.C_drewN ?_ _) | (with_reducible refine Kd.C_drew ?_))); (case side2 => exact (Kd.R_reads' HO235.out).2.1); rintro e w' ⟨rfl, ⟨nd, rfl⟩⟩; (try first | exact ⟨rfl, _, World.drewN_drewN _ _ _⟩ | exact ⟨rfl, _, Eq.trans (World.drewN_drewN _ _ _) (congrArg (World.drewN _) (Nat.add_assoc _ _ _))⟩)))
  repeat (go_quiet (first | (go_at_call 35; (with_reducible refine (laws_f6big.calls _ _ l0 false _ ?side1 ?side2 A2.out).mono ?_); (case side1 => repeat (first | exact HR0.out | (with_reducible refine Kd.C_alloc ?_ _) | (with_reducible refine Kd.C_drewN ?_ _) | (with_reducible refine Kd.C_drew ?_))); (case side2 => exact HC0.out); rintro e w' ⟨rfl, ⟨nd, rfl⟩⟩; (try first | exact ⟨rfl, _, World.drewN_drewN _ _ _⟩ | exact ⟨rfl, _, Eq.trans (World.drewN_drewN _ _ _) (congrArg (World.drewN _) (Nat.add_assoc _ _ _))⟩)) | (go_at_call 36; (with_reducible refine (spec_DrawBroadSeams.calls _ _ l0 t222 t223 t224 _ ?side1 ?side2 A4.out).mono ?_); (case side1 => repeat (first | exact HR0.out | (with_reducible refine Kd.C_alloc ?_ _) | (with_reducible refine Kd.C_drewN ?_ _) | (with_reducible refine Kd.C_drew ?_))); (case side2 => exact HC0.out); rintro e w11 ⟨rfl, hb⟩; have n0_ := Aside0.mk (below_step (by repeat (first | (with_reducible first | exact HB.out | apply below_alloc | apply pw_below_drewN | apply below_drew1) | exact HB.out)) hb); clear HB; have HB := n0_; clear n0_; (try clear hb); (try clear hb2); (try clear hk); (try clear hi)) | (go_at_call 37; (with_reducible refine (impl_BroadSeams.calls k t222 t223 t224 t225 t226 _ A5.out).mono ?_); rintro e w12 ⟨v227, rfl, ho0, hb⟩; have n0_ := Aside0.mk (Kd.R_lower ho0 (below_size (by repeat (first | (with_reducible first | exact HB.out | apply below_alloc | apply pw_below_drewN | apply below_drew1) | exact HB.out)))); have n1_ := Aside0.mk (below_step (by repeat (first | (with_reducible first | exact HB.out | apply below_alloc | apply pw_below_drewN | apply below_drew1) | exact HB.out)) hb); clear HB; have HO228 := n0_; have HB := n1_; clear n0_ n1_; (try clear hb); (try clear hb2); (try clear hk); (try clear hi); (try clear ho0)) | (go_at_call 38; (with_reducible refine (spec_BroadSeams.calls k t222 t223 t224 t229 t230 _ A6.out).mono ?_); rintro e w13 ⟨v231, rfl, ho0, hb⟩; have n0_ := Aside0.mk (Kd.R_elder' (by (with_reducible repeat (first | apply Kd.R_alloc | apply Kd.R_drewN | apply Kd.R_drew)); exact HO228.out) (Kd.R_base ho0) hb); have n1_ := Aside0.mk (Kd.R_lower (Kd.R_new' ho0 (Kd.R_lt (by (with_reducible repeat (first | apply Kd.R_alloc | apply Kd.R_drewN | apply Kd.R_drew)); exact HO228.out))) (below_size (by repeat (first | (with_reducible first | exact HB.out | apply below_alloc | apply pw_below_drewN | apply below_drew1) | exact HB.out)))); have n2_ := Aside0.mk (below_step (by repeat (first | (with_reducible first | exact HB.out | apply below_alloc | apply pw_below_drewN | apply below_drew1) | exact HB.out)) hb); clear HO228; clear HB; have HO228 := n0_; have HO232 := n1_; have HB := n2_; clear n0_ n1_ n2_; (try clear hb); (try clear hb2); (try clear hk); (try clear hi); (try clear ho0)) | (go_at_call 39; (with_reducible refine (spec_DrawDepthOf.calls k _ _ l0 t233 _ ?side1 ?side2 A7.out).mono ?_); (case side1 => repeat (first | exact (Kd.C_below HR0.out HB.out) | (with_reducible refine Kd.C_alloc ?_ _) | (with_reducible refine Kd.C_drewN ?_ _) | (with_reducible refine Kd.C_drew ?_))); (case side2 => exact HC0.out); rintro e w14 ⟨v234, rfl, ho0, hb⟩; have n0_ := Aside0.mk (Kd.R_elder' (by (with_reducible repeat (first | apply Kd.R_alloc | apply Kd.R_drewN | apply Kd.R_drew)); exact HO228.out) (Kd.R_base ho0) hb); have n1_ := Aside0.mk (Kd.R_elder' (by (with_reducible repeat (first | apply Kd.R_alloc | apply Kd.R_drewN | apply Kd.R_drew)); exact HO232.out) (Kd.R_base ho0) hb); have n2_ := Aside0.mk (Kd.R_lower (Kd.R_new' (Kd.R_new' ho0 (Kd.R_lt (by (with_reducible repeat (first | apply Kd.R_alloc | apply Kd.R_drewN | apply Kd.R_drew)); exact HO228.out))) (Kd.R_lt (by (with_reducible repeat (first | apply Kd.R_alloc | apply Kd.R_drewN | apply Kd.R_drew)); exact HO232.out))) (below_size (by repeat (first | (with_reducible first | exact HB.out | apply below_alloc | apply pw_below_drewN | apply below_drew1) | exact HB.out)))); have n3_ := Aside0.mk (below_step (by repeat (first | (with_reducible first | exact HB.out | apply below_alloc | apply pw_below_drewN | apply below_drew1) | exact HB.out)) hb); clear HO228; clear HO232; clear HB; have HO228 := n0_; have HO232 := n1_; have HO235 := n2_; have HB := n3_; clear n0_ n1_ n2_ n3_; (try clear hb); (try clear hb2); (try clear hk); (try clear hi); (try clear ho0); obtain ⟨Ao15, co15, eo15⟩ := Kd.R_slice HO235.out; subst eo15) | (go_at_call 40; (with_reducible refine (impl_DepthOf.calls k _ _ t233 t236 t237 _ ?side1 ?side2 A8.out).mono ?_); (case side1 => repeat (first | exact (Kd.R_reads' HO235.out).2.2 | (with_reducible refine Kd.C_alloc ?_ _) | (with_reducible refine Kd.C_drewN ?_ _) | (with_reducible refine Kd.C_drew ?_))); (case side2 => exact (Kd.R_reads' HO235.out).2.1); rintro e w' ⟨rfl, ⟨nd, rfl⟩⟩; (try first | exact ⟨rfl, _, World.drewN_drewN _ _ _⟩ | exact ⟨rfl, _, Eq.trans (World.drewN_drewN _ _ _) (congrArg (World.drewN _) (Nat.add_assoc _ _ _))⟩)) | (go_at_call 41; (with_reducible refine (spec_DepthOf.calls k _ _ t233 t238 t239 _ ?side1 ?side2 A9.out).mono ?_); (case side1 => repeat (first | exact (Kd.R_reads' HO235.out).2.2 | (with_reducible refine Kd.C_alloc ?_ _) | (with_reducible refine Kd.C_drewN ?_ _) | (with_reducible refine Kd.C_drew ?_))); (case side2 => exact (Kd.R_reads' HO235.out).2.1); rintro e w' ⟨rfl, ⟨nd, rfl⟩⟩; (try first | exact ⟨rfl, _, World.drewN_drewN _ _ _⟩ | exact ⟨rfl, _, Eq.trans (World.drewN_drewN _ _ _) (congrArg (World.drewN _) (Nat.add_assoc _ _ _))⟩))); go_upto_region 9 with (first | (go_at_call 35; (with_reducible refine (laws_f6big.calls _ _ l0 false _ ?side1 ?side2 A2.out).mono ?_); (case side1 => repeat (first | exact HR0.out | (with_reducible refine Kd.C_alloc ?_ _) | (with_reducible refine Kd.C_drewN ?_ _) | (with_reducible refine Kd.C_drew ?_))); (case side2 => exact HC0.out); rintro e w' ⟨rfl, ⟨nd, rfl⟩⟩; (try first | exact ⟨rfl, _, World.drewN_drewN _ _ _⟩ | exact ⟨rfl, _, Eq.trans (World.drewN_drewN _ _ _) (congrArg (World.drewN _) (Nat.add_assoc _ _ _))⟩)) | (go_at_call 36; (with_reducible refine (spec_DrawBroadSeams.calls _ _ l0 t222 t223 t224 _ ?side1 ?side2 A4.out).mono ?_); (case side1 => repeat (first | exact HR0.out | (with_reducible refine Kd.C_alloc ?_ _) | (with_reducible refine Kd.C_drewN ?_ _) | (with_reducible refine Kd.C_drew ?_))); (case side2 => exact HC0.out); rintro e w11 ⟨rfl, hb⟩; have n0_ := Aside0.mk (below_step (by repeat (first | (with_reducible first | exact HB.out | apply below_alloc | apply pw_below_drewN | apply below_drew1) | exact HB.out)) hb); clear HB; have HB := n0_; clear n0_; (try clear hb); (try clear hb2); (try clear hk); (try clear hi)) | (go_at_call 37; (with_reducible refine (impl_BroadSeams.calls k t222 t223 t224 t225 t226 _ A5.out).mono ?_); rintro e w12 ⟨v227, rfl, ho0, hb⟩; have n0_ := Aside0.mk (Kd.R_lower ho0 (below_size (by repeat (first | (with_reducible first | exact HB.out | apply below_alloc | apply pw_below_drewN | apply below_drew1) | exact HB.out)))); have n1_ := Aside0.mk (below_step (by repeat (first | (with_reducible first | exact HB.out | apply below_alloc | apply pw_below_drewN | apply below_drew1) | exact HB.out)) hb); clear HB; have HO228 := n0_; have HB := n1_; clear n0_ n1_; (try clear hb); (try clear hb2); (try clear hk); (try clear hi); (try clear ho0)) | (go_at_call 38; (with_reducible refine (spec_BroadSeams.calls k t222 t223 t224 t229 t230 _ A6.out).mono ?_); rintro e w13 ⟨v231, rfl, ho0, hb⟩; have n0_ := Aside0.mk (Kd.R_elder' (by (with_reducible repeat (first | apply Kd.R_alloc | apply Kd.R_drewN | apply Kd.R_drew)); exact HO228.out) (Kd.R_base ho0) hb); have n1_ := Aside0.mk (Kd.R_lower (Kd.R_new' ho0 (Kd.R_lt (by (with_reducible repeat (first | apply Kd.R_alloc | apply Kd.R_drewN | apply Kd.R_drew)); exact HO228.out))) (below_size (by repeat (first | (with_reducible first | exact HB.out | apply below_alloc | apply pw_below_drewN | apply below_drew1) | exact HB.out)))); have n2_ := Aside0.mk (below_step (by repeat (first | (with_reducible first | exact HB.out | apply below_alloc | apply pw_below_drewN | apply below_drew1) | exact HB.out)) hb); clear HO228; clear HB; have HO228 := n0_; have HO232 := n1_; have HB := n2_; clear n0_ n1_ n2_; (try clear hb); (try clear hb2); (try clear hk); (try clear hi); (try clear ho0)) | (go_at_call 39; (with_reducible refine (spec_DrawDepthOf.calls k _ _ l0 t233 _ ?side1 ?side2 A7.out).mono ?_); (case side1 => repeat (first | exact (Kd.C_below HR0.out HB.out) | (with_reducible refine Kd.C_alloc ?_ _) | (with_reducible refine Kd.C_drewN ?_ _) | (with_reducible refine Kd.C_drew ?_))); (case side2 => exact HC0.out); rintro e w14 ⟨v234, rfl, ho0, hb⟩; have n0_ := Aside0.mk (Kd.R_elder' (by (with_reducible repeat (first | apply Kd.R_alloc | apply Kd.R_drewN | apply Kd.R_drew)); exact HO228.out) (Kd.R_base ho0) hb); have n1_ := Aside0.mk (Kd.R_elder' (by (with_reducible repeat (first | apply Kd.R_alloc | apply Kd.R_drewN | apply Kd.R_drew)); exact HO232.out) (Kd.R_base ho0) hb); have n2_ := Aside0.mk (Kd.R_lower (Kd.R_new' (Kd.R_new' ho0 (Kd.R_lt (by (with_reducible repeat (first | apply Kd.R_alloc | apply Kd.R_drewN | apply Kd.R_drew)); exact HO228.out))) (Kd.R_lt (by (with_reducible repeat (first | apply Kd.R_alloc | apply Kd.R_drewN | apply Kd.R_drew)); exact HO232.out))) (below_size (by repeat (first | (with_reducible first | exact HB.out | apply below_alloc | apply pw_below_drewN | apply below_drew1) | exact HB.out)))); have n3_ := Aside0.mk (below_step (by repeat (first | (with_reducible first | exact HB.out | apply below_alloc | apply pw_below_drewN | apply below_drew1) | exact HB.out)) hb); clear HO228; clear HO232; clear HB; have HO228 := n0_; have HO232 := n1_; have HO235 := n2_; have HB := n3_; clear n0_ n1_ n2_ n3_; (try clear hb); (try clear hb2); (try clear hk); (try clear hi); (try clear ho0); obtain ⟨Ao15, co15, eo15⟩ := Kd.R_slice HO235.out; subst eo15) | (go_at_call 40; (with_reducible refine (impl_DepthOf.calls k _ _ t233 t236 t237 _ ?side1 ?side2 A8.out).mono ?_); (case side1 => repeat (first | exact (Kd.R_reads' HO235.out).2.2 | (with_reducible refine Kd.C_alloc ?_ _) | (with_reducible refine Kd.C_drewN ?_ _) | (with_reducible refine Kd.C_drew ?_))); (case side2 => exact (Kd.R_reads' HO235.out).2.1); rintro e w' ⟨rfl, ⟨nd, rfl⟩⟩; (try first | exact ⟨rfl, _, World.drewN_drewN _ _ _⟩ | exact ⟨rfl, _, Eq.trans (World.drewN_drewN _ _ _) (congrArg (World.drewN _) (Nat.add_assoc _ _ _))⟩)) | (go_at_call 41; (with_reducible refine (spec_DepthOf.calls k _ _ t233 t238 t239 _ ?side1 ?side2 A9.out).mono ?_); (case side1 => repeat (first | exact (Kd.R_reads' HO235.out).2.2 | (with_reducible refine Kd.C_alloc ?_ _) | (with_reducible refine Kd.C_drewN ?_ _) | (with_reducible refine Kd.C_drew ?_))); (case side2 => exact (Kd.R_reads' HO235.out).2.1); rintro e w' ⟨rfl, ⟨nd, rfl⟩⟩; (try first | exact ⟨rfl, _, World.drewN_drewN _ _ _⟩ | exact ⟨rfl, _, Eq.trans (World.drewN_drewN _ _ _) (congrArg (World.drewN _) (Nat.add_assoc _ _ _))⟩))))
  (try simp only [Act.put, List.setIfInBounds_toArray, List.set_cons_zero, List.set_cons_succ])
  go_cut [71] (fun v71 wc => ∃ (kq : Nat) (x71_9 : Bool), v71 = .bool x71_9 ∧ Aside0 (laws_FnBroadSeams.j0 kq t222 t223 t224 t225 t226 t229 t233 t236 t237 x71_9 = some r) ∧ Aside0 (kq ≤ k) ∧ Aside0 (Kd.R (Kd.int .i64) 2 wc w.heap.size (fun k_ => some k_ ≠ (v231 : Value).ownBlock ∧ some k_ ≠ ((.slice Ao15 t233.length co15) : Value).ownBlock) v227 t225) ∧ Aside0 (Kd.R (Kd.int .i64) 2 wc w.heap.size (fun k_ => some k_ ≠ (v227 : Value).ownBlock ∧ some k_ ≠ ((.slice Ao15 t233.length co15) : Value).ownBlock) v231 t229) ∧ Aside0 (Kd.R (Kd.int .i64) 2 wc w.heap.size (fun k_ => some k_ ≠ (v227 : Value).ownBlock ∧ some k_ ≠ (v231 : Value).ownBlock) (.slice Ao15 t233.length co15) t233) ∧ Aside0 (Below w.heap.size w wc))
  case first =>
   have H := HC10.out
   clear HC10
   by_cases c16 : t226 = t230
   ·rw [if_pos c16] at H
    have c16b0 : (t226 == t230) = true := beq_iff_eq.mpr c16
    have c16b1 : (t226 != t230) = false := bne_eq_false_iff_eq.mpr c16
    clear c16
    (first | rw [c16b0] | (simp only [i64_w, i32_w]; rw [c16b0]) | skip)
    replace H := Option.bind_eq_some_iff.mp H
    obtain ⟨t240, A170, H⟩ := H
    replace H : (if t240 = true then (if t237 = t239 then (laws_FnBroadSeams.j0 k t222 t223 t224 t225 t226 t229 t233 t236 t237 (t236 != t238)) else (laws_FnBroadSeams.j0 k t222 t223 t224 t225 t226 t229 t233 t236 t237 true)) else (laws_FnBroadSeams.j0 k t222 t223 t224 t225 t226 t229 t233 t236 t237 true)) = some r := H
    have A17 := Aside0.mk A170
    clear A170
    by_cases c18 : t240 = true
    ·subst c18
     have H1 : (if t237 = t239 then (laws_FnBroadSeams.j0 k t222 t223 t224 t225 t226 t229 t233 t236 t237 (t236 != t238)) else (laws_FnBroadSeams.j0 k t222 t223 t224 t225 t226 t229 t233 t236 t237 true)) = some r := by rw [if_pos rfl] at H; exact H
     clear H
     have H := H1
     clear H1
     by_cases c19 : t237 = t239
     ·rw [if_pos c19] at H
      have c19b0 : (t237 == t239) = true := beq_iff_eq.mpr c19
      have c19b1 : (t237 != t239) = false := bne_eq_false_iff_eq.mpr c19
      clear c19
      have H' := Aside0.mk H
      clear H
      obtain ⟨Ao20, co20, eo20⟩ := Kd.R_slice HO228.out
      subst eo20
      obtain ⟨Ao21, co21, eo21⟩ := Kd.R_slice HO232.out
      subst eo21
      go_wp2_with (first | (go_at_call 42; (with_reducible refine (laws_f6ints.calls k _ _ t225 _ _ t229 true _ ?side1 ?side2 ?side3 ?side4 A17.out).mono ?_); (case side1 => repeat (first | exact (Kd.R_reads' HO228.out).2.2 | (with_reducible refine Kd.C_alloc ?_ _) | (with_reducible refine Kd.C_drewN ?_ _) | (with_reducible refine Kd.C_drew ?_))); (case side2 => exact (Kd.R_reads' HO228.out).2.1); (case side3 => repeat (first | exact (Kd.R_reads' HO232.out).2.2 | (with_reducible refine Kd.C_alloc ?_ _) | (with_reducible refine Kd.C_drewN ?_ _) | (with_reducible refine Kd.C_drew ?_))); (case side4 => exact (Kd.R_reads' HO232.out).2.1); rintro e w' ⟨rfl, ⟨nd, rfl⟩⟩; (try first | exact ⟨rfl, _, World.drewN_drewN _ _ _⟩ | exact ⟨rfl, _, Eq.trans (World.drewN_drewN _ _ _) (congrArg (World.drewN _) (Nat.add_assoc _ _ _))⟩)))
      repeat (go_quiet (first | (go_at_call 42; (with_reducible refine (laws_f6ints.calls k _ _ t225 _ _ t229 true _ ?side1 ?side2 ?side3 ?side4 A17.out).mono ?_); (case side1 => repeat (first | exact (Kd.R_reads' HO228.out).2.2 | (with_reducible refine Kd.C_alloc ?_ _) | (with_reducible refine Kd.C_drewN ?_ _) | (with_reducible refine Kd.C_drew ?_))); (case side2 => exact (Kd.R_reads' HO228.out).2.1); (case side3 => repeat (first | exact (Kd.R_reads' HO232.out).2.2 | (with_reducible refine Kd.C_alloc ?_ _) | (with_reducible refine Kd.C_drewN ?_ _) | (with_reducible refine Kd.C_drew ?_))); (case side4 => exact (Kd.R_reads' HO232.out).2.1); rintro e w' ⟨rfl, ⟨nd, rfl⟩⟩; (try first | exact ⟨rfl, _, World.drewN_drewN _ _ _⟩ | exact ⟨rfl, _, Eq.trans (World.drewN_drewN _ _ _) (congrArg (World.drewN _) (Nat.add_assoc _ _ _))⟩))); try go_wp2_with (first | (go_at_call 42; (with_reducible refine (laws_f6ints.calls k _ _ t225 _ _ t229 true _ ?side1 ?side2 ?side3 ?side4 A17.out).mono ?_); (case side1 => repeat (first | exact (Kd.R_reads' HO228.out).2.2 | (with_reducible refine Kd.C_alloc ?_ _) | (with_reducible refine Kd.C_drewN ?_ _) | (with_reducible refine Kd.C_drew ?_))); (case side2 => exact (Kd.R_reads' HO228.out).2.1); (case side3 => repeat (first | exact (Kd.R_reads' HO232.out).2.2 | (with_reducible refine Kd.C_alloc ?_ _) | (with_reducible refine Kd.C_drewN ?_ _) | (with_reducible refine Kd.C_drew ?_))); (case side4 => exact (Kd.R_reads' HO232.out).2.1); rintro e w' ⟨rfl, ⟨nd, rfl⟩⟩; (try first | exact ⟨rfl, _, World.drewN_drewN _ _ _⟩ | exact ⟨rfl, _, Eq.trans (World.drewN_drewN _ _ _) (congrArg (World.drewN _) (Nat.add_assoc _ _ _))⟩))))
      go_meet
      case rel => exact ⟨_, ((t236 != t238)), (by first | rfl | (simp; done) | (simp [*]; done)), H', ⟨by first | omega | exact Nat.le_refl _⟩, ⟨by (with_reducible repeat (first | apply Kd.R_alloc | apply Kd.R_drewN | apply Kd.R_drew)); exact Kd.R_mono HO228.out (fun _ hk => ⟨hk.1.2, hk.2⟩)⟩, ⟨by (with_reducible repeat (first | apply Kd.R_alloc | apply Kd.R_drewN | apply Kd.R_drew)); exact Kd.R_mono HO232.out (fun _ hk => ⟨hk.1.2, hk.2⟩)⟩, ⟨by (with_reducible repeat (first | apply Kd.R_alloc | apply Kd.R_drewN | apply Kd.R_drew)); exact Kd.R_mono HO235.out (fun _ hk => ⟨hk.1.2, hk.2⟩)⟩, ⟨by repeat (first | (with_reducible first | exact HB.out | apply below_alloc | apply pw_below_drewN | apply below_drew1) | exact HB.out)⟩⟩
     ·rw [if_neg c19] at H
      have c19b0 : (t237 == t239) = false := beq_eq_false_iff_ne.mpr c19
      have c19b1 : (t237 != t239) = true := bne_iff_ne.mpr c19
      have H' := Aside0.mk H
      clear H
      obtain ⟨Ao22, co22, eo22⟩ := Kd.R_slice HO228.out
      subst eo22
      obtain ⟨Ao23, co23, eo23⟩ := Kd.R_slice HO232.out
      subst eo23
      go_wp2_with (first | (go_at_call 42; (with_reducible refine (laws_f6ints.calls k _ _ t225 _ _ t229 true _ ?side1 ?side2 ?side3 ?side4 A17.out).mono ?_); (case side1 => repeat (first | exact (Kd.R_reads' HO228.out).2.2 | (with_reducible refine Kd.C_alloc ?_ _) | (with_reducible refine Kd.C_drewN ?_ _) | (with_reducible refine Kd.C_drew ?_))); (case side2 => exact (Kd.R_reads' HO228.out).2.1); (case side3 => repeat (first | exact (Kd.R_reads' HO232.out).2.2 | (with_reducible refine Kd.C_alloc ?_ _) | (with_reducible refine Kd.C_drewN ?_ _) | (with_reducible refine Kd.C_drew ?_))); (case side4 => exact (Kd.R_reads' HO232.out).2.1); rintro e w' ⟨rfl, ⟨nd, rfl⟩⟩; (try first | exact ⟨rfl, _, World.drewN_drewN _ _ _⟩ | exact ⟨rfl, _, Eq.trans (World.drewN_drewN _ _ _) (congrArg (World.drewN _) (Nat.add_assoc _ _ _))⟩)))
      repeat (go_quiet (first | (go_at_call 42; (with_reducible refine (laws_f6ints.calls k _ _ t225 _ _ t229 true _ ?side1 ?side2 ?side3 ?side4 A17.out).mono ?_); (case side1 => repeat (first | exact (Kd.R_reads' HO228.out).2.2 | (with_reducible refine Kd.C_alloc ?_ _) | (with_reducible refine Kd.C_drewN ?_ _) | (with_reducible refine Kd.C_drew ?_))); (case side2 => exact (Kd.R_reads' HO228.out).2.1); (case side3 => repeat (first | exact (Kd.R_reads' HO232.out).2.2 | (with_reducible refine Kd.C_alloc ?_ _) | (with_reducible refine Kd.C_drewN ?_ _) | (with_reducible refine Kd.C_drew ?_))); (case side4 => exact (Kd.R_reads' HO232.out).2.1); rintro e w' ⟨rfl, ⟨nd, rfl⟩⟩; (try first | exact ⟨rfl, _, World.drewN_drewN _ _ _⟩ | exact ⟨rfl, _, Eq.trans (World.drewN_drewN _ _ _) (congrArg (World.drewN _) (Nat.add_assoc _ _ _))⟩))); try go_wp2_with (first | (go_at_call 42; (with_reducible refine (laws_f6ints.calls k _ _ t225 _ _ t229 true _ ?side1 ?side2 ?side3 ?side4 A17.out).mono ?_); (case side1 => repeat (first | exact (Kd.R_reads' HO228.out).2.2 | (with_reducible refine Kd.C_alloc ?_ _) | (with_reducible refine Kd.C_drewN ?_ _) | (with_reducible refine Kd.C_drew ?_))); (case side2 => exact (Kd.R_reads' HO228.out).2.1); (case side3 => repeat (first | exact (Kd.R_reads' HO232.out).2.2 | (with_reducible refine Kd.C_alloc ?_ _) | (with_reducible refine Kd.C_drewN ?_ _) | (with_reducible refine Kd.C_drew ?_))); (case side4 => exact (Kd.R_reads' HO232.out).2.1); rintro e w' ⟨rfl, ⟨nd, rfl⟩⟩; (try first | exact ⟨rfl, _, World.drewN_drewN _ _ _⟩ | exact ⟨rfl, _, Eq.trans (World.drewN_drewN _ _ _) (congrArg (World.drewN _) (Nat.add_assoc _ _ _))⟩))))
      go_meet
      case rel => exact ⟨_, (true), (by first | rfl | (simp; done) | (simp [*]; done)), H', ⟨by first | omega | exact Nat.le_refl _⟩, ⟨by (with_reducible repeat (first | apply Kd.R_alloc | apply Kd.R_drewN | apply Kd.R_drew)); exact Kd.R_mono HO228.out (fun _ hk => ⟨hk.1.2, hk.2⟩)⟩, ⟨by (with_reducible repeat (first | apply Kd.R_alloc | apply Kd.R_drewN | apply Kd.R_drew)); exact Kd.R_mono HO232.out (fun _ hk => ⟨hk.1.2, hk.2⟩)⟩, ⟨by (with_reducible repeat (first | apply Kd.R_alloc | apply Kd.R_drewN | apply Kd.R_drew)); exact Kd.R_mono HO235.out (fun _ hk => ⟨hk.1.2, hk.2⟩)⟩, ⟨by repeat (first | (with_reducible first | exact HB.out | apply below_alloc | apply pw_below_drewN | apply below_drew1) | exact HB.out)⟩⟩
    ·replace c18 := Bool.eq_false_iff.mpr c18
     subst c18
     have H1 : (laws_FnBroadSeams.j0 k t222 t223 t224 t225 t226 t229 t233 t236 t237 true) = some r := by rw [if_neg (show ¬ (false = true) by decide)] at H; exact H
     clear H
     have H := H1
     clear H1
     have H' := Aside0.mk H
     clear H
     obtain ⟨Ao24, co24, eo24⟩ := Kd.R_slice HO228.out
     subst eo24
     obtain ⟨Ao25, co25, eo25⟩ := Kd.R_slice HO232.out
     subst eo25
     go_wp2_with (first | (go_at_call 42; (with_reducible refine (laws_f6ints.calls k _ _ t225 _ _ t229 false _ ?side1 ?side2 ?side3 ?side4 A17.out).mono ?_); (case side1 => repeat (first | exact (Kd.R_reads' HO228.out).2.2 | (with_reducible refine Kd.C_alloc ?_ _) | (with_reducible refine Kd.C_drewN ?_ _) | (with_reducible refine Kd.C_drew ?_))); (case side2 => exact (Kd.R_reads' HO228.out).2.1); (case side3 => repeat (first | exact (Kd.R_reads' HO232.out).2.2 | (with_reducible refine Kd.C_alloc ?_ _) | (with_reducible refine Kd.C_drewN ?_ _) | (with_reducible refine Kd.C_drew ?_))); (case side4 => exact (Kd.R_reads' HO232.out).2.1); rintro e w' ⟨rfl, ⟨nd, rfl⟩⟩; (try first | exact ⟨rfl, _, World.drewN_drewN _ _ _⟩ | exact ⟨rfl, _, Eq.trans (World.drewN_drewN _ _ _) (congrArg (World.drewN _) (Nat.add_assoc _ _ _))⟩)))
     repeat (go_quiet (first | (go_at_call 42; (with_reducible refine (laws_f6ints.calls k _ _ t225 _ _ t229 false _ ?side1 ?side2 ?side3 ?side4 A17.out).mono ?_); (case side1 => repeat (first | exact (Kd.R_reads' HO228.out).2.2 | (with_reducible refine Kd.C_alloc ?_ _) | (with_reducible refine Kd.C_drewN ?_ _) | (with_reducible refine Kd.C_drew ?_))); (case side2 => exact (Kd.R_reads' HO228.out).2.1); (case side3 => repeat (first | exact (Kd.R_reads' HO232.out).2.2 | (with_reducible refine Kd.C_alloc ?_ _) | (with_reducible refine Kd.C_drewN ?_ _) | (with_reducible refine Kd.C_drew ?_))); (case side4 => exact (Kd.R_reads' HO232.out).2.1); rintro e w' ⟨rfl, ⟨nd, rfl⟩⟩; (try first | exact ⟨rfl, _, World.drewN_drewN _ _ _⟩ | exact ⟨rfl, _, Eq.trans (World.drewN_drewN _ _ _) (congrArg (World.drewN _) (Nat.add_assoc _ _ _))⟩))); try go_wp2_with (first | (go_at_call 42; (with_reducible refine (laws_f6ints.calls k _ _ t225 _ _ t229 false _ ?side1 ?side2 ?side3 ?side4 A17.out).mono ?_); (case side1 => repeat (first | exact (Kd.R_reads' HO228.out).2.2 | (with_reducible refine Kd.C_alloc ?_ _) | (with_reducible refine Kd.C_drewN ?_ _) | (with_reducible refine Kd.C_drew ?_))); (case side2 => exact (Kd.R_reads' HO228.out).2.1); (case side3 => repeat (first | exact (Kd.R_reads' HO232.out).2.2 | (with_reducible refine Kd.C_alloc ?_ _) | (with_reducible refine Kd.C_drewN ?_ _) | (with_reducible refine Kd.C_drew ?_))); (case side4 => exact (Kd.R_reads' HO232.out).2.1); rintro e w' ⟨rfl, ⟨nd, rfl⟩⟩; (try first | exact ⟨rfl, _, World.drewN_drewN _ _ _⟩ | exact ⟨rfl, _, Eq.trans (World.drewN_drewN _ _ _) (congrArg (World.drewN _) (Nat.add_assoc _ _ _))⟩))))
     go_meet
     case rel => exact ⟨_, (true), (by first | rfl | (simp; done) | (simp [*]; done)), H', ⟨by first | omega | exact Nat.le_refl _⟩, ⟨by (with_reducible repeat (first | apply Kd.R_alloc | apply Kd.R_drewN | apply Kd.R_drew)); exact Kd.R_mono HO228.out (fun _ hk => ⟨hk.1.2, hk.2⟩)⟩, ⟨by (with_reducible repeat (first | apply Kd.R_alloc | apply Kd.R_drewN | apply Kd.R_drew)); exact Kd.R_mono HO232.out (fun _ hk => ⟨hk.1.2, hk.2⟩)⟩, ⟨by (with_reducible repeat (first | apply Kd.R_alloc | apply Kd.R_drewN | apply Kd.R_drew)); exact Kd.R_mono HO235.out (fun _ hk => ⟨hk.1.2, hk.2⟩)⟩, ⟨by repeat (first | (with_reducible first | exact HB.out | apply below_alloc | apply pw_below_drewN | apply below_drew1) | exact HB.out)⟩⟩
   ·rw [if_neg c16] at H
    have c16b0 : (t226 == t230) = false := beq_eq_false_iff_ne.mpr c16
    have c16b1 : (t226 != t230) = true := bne_iff_ne.mpr c16
    (first | rw [c16b0] | (simp only [i64_w, i32_w]; rw [c16b0]) | skip)
    have H' := Aside0.mk H
    clear H
    go_wp2
    repeat (go_quiet (fail); try go_wp2)
    go_meet
    case rel => exact ⟨_, (true), (by first | rfl | (simp; done) | (simp [*]; done)), H', ⟨by first | omega | exact Nat.le_refl _⟩, ⟨by (with_reducible repeat (first | apply Kd.R_alloc | apply Kd.R_drewN | apply Kd.R_drew)); exact Kd.R_mono HO228.out (fun _ hk => ⟨hk.1.2, hk.2⟩)⟩, ⟨by (with_reducible repeat (first | apply Kd.R_alloc | apply Kd.R_drewN | apply Kd.R_drew)); exact Kd.R_mono HO232.out (fun _ hk => ⟨hk.1.2, hk.2⟩)⟩, ⟨by (with_reducible repeat (first | apply Kd.R_alloc | apply Kd.R_drewN | apply Kd.R_drew)); exact Kd.R_mono HO235.out (fun _ hk => ⟨hk.1.2, hk.2⟩)⟩, ⟨by repeat (first | (with_reducible first | exact HB.out | apply below_alloc | apply pw_below_drewN | apply below_drew1) | exact HB.out)⟩⟩
  case rest =>
   clear HC10
   try clear c1
   try clear p2
   try clear c3
   try clear c6
   try clear c16
   try clear c16b0
   try clear c16b1
   try clear c18
   try clear c19
   try clear c19b0
   try clear c19b1
   obtain ⟨kq, x71_9, rfl, HA, HJ9, HO_6, HO_8, HO_10, HB⟩ := hcut
   cases kq with
   | zero => exact absurd HA.out (by simp [laws_FnBroadSeams.j0])
   | succ kj9 =>
    have H := HA.out
    clear HA
    simp only [laws_FnBroadSeams.j0] at H
    by_cases c26 : x71_9 = true
    ·subst c26
     have H1 : (some false) = some r := by rw [if_pos rfl] at H; exact H
     clear H
     have H := H1
     clear H1
     obtain rfl := Option.some.inj H
     go_wp2
     repeat (go_quiet (fail); try go_wp2)
     go_ret
     exact ⟨by first | rfl | (simp [errW_none, errW_some] <;> rfl) | (simp [*, errW_none, errW_some] <;> rfl), by repeat (first | (with_reducible first | exact HB.out | apply below_alloc | apply pw_below_drewN | apply below_drew1) | exact HB.out)⟩
    ·replace c26 := Bool.eq_false_iff.mpr c26
     subst c26
     have H1 : (if t237 = 0 then ((laws_f6sum.f kj9 t233).bind fun t241 => (laws_FnBroadSeams.j1 kj9 t222 t223 t224 t225 t226 t229 (t236 != t241))) else (laws_FnBroadSeams.j1 kj9 t222 t223 t224 t225 t226 t229 false)) = some r := by rw [if_neg (show ¬ (false = true) by decide)] at H; exact H
     clear H
     have H := H1
     clear H1
     have HC27 := Aside0.mk H
     clear H
     go_upto_region 11 with (fail)
     repeat (go_quiet (fail); go_upto_region 11 with (fail))
     go_cut [79] (fun v79 wc => ∃ (kq : Nat) (x79_26 : Bool), v79 = .bool x79_26 ∧ Aside0 (laws_FnBroadSeams.j1 kq t222 t223 t224 t225 t226 t229 x79_26 = some r) ∧ Aside0 (kq ≤ kj9) ∧ Aside0 (Kd.R (Kd.int .i64) 2 wc w.heap.size (fun k_ => some k_ ≠ (v231 : Value).ownBlock) v227 t225) ∧ Aside0 (Kd.R (Kd.int .i64) 2 wc w.heap.size (fun k_ => some k_ ≠ (v227 : Value).ownBlock) v231 t229) ∧ Aside0 (Below w.heap.size w wc))
     case first =>
      have H := HC27.out
      clear HC27
      by_cases c28 : t237 = 0
      ·rw [if_pos c28] at H
       have c28b0 : (t237 == 0) = true := beq_iff_eq.mpr c28
       have c28b1 : (t237 != 0) = false := bne_eq_false_iff_eq.mpr c28
       clear c28
       (first | rw [c28b0] | (simp only [i64_w, i32_w]; rw [c28b0]) | skip)
       replace H := Option.bind_eq_some_iff.mp H
       obtain ⟨t241, A290, H⟩ := H
       replace H : (laws_FnBroadSeams.j1 kj9 t222 t223 t224 t225 t226 t229 (t236 != t241)) = some r := H
       have A29 := Aside0.mk A290
       clear A290
       have H' := Aside0.mk H
       clear H
       go_wp2_with (first | (go_at_call 43; (with_reducible refine (laws_f6sum.calls kj9 _ _ t233 t241 _ ?side1 ?side2 A29.out).mono ?_); (case side1 => repeat (first | exact (Kd.R_reads' HO_10.out).2.2 | (with_reducible refine Kd.C_alloc ?_ _) | (with_reducible refine Kd.C_drewN ?_ _) | (with_reducible refine Kd.C_drew ?_))); (case side2 => exact (Kd.R_reads' HO_10.out).2.1); rintro e w' ⟨rfl, ⟨nd, rfl⟩⟩; (try first | exact ⟨rfl, _, World.drewN_drewN _ _ _⟩ | exact ⟨rfl, _, Eq.trans (World.drewN_drewN _ _ _) (congrArg (World.drewN _) (Nat.add_assoc _ _ _))⟩)))
       repeat (go_quiet (first | (go_at_call 43; (with_reducible refine (laws_f6sum.calls kj9 _ _ t233 t241 _ ?side1 ?side2 A29.out).mono ?_); (case side1 => repeat (first | exact (Kd.R_reads' HO_10.out).2.2 | (with_reducible refine Kd.C_alloc ?_ _) | (with_reducible refine Kd.C_drewN ?_ _) | (with_reducible refine Kd.C_drew ?_))); (case side2 => exact (Kd.R_reads' HO_10.out).2.1); rintro e w' ⟨rfl, ⟨nd, rfl⟩⟩; (try first | exact ⟨rfl, _, World.drewN_drewN _ _ _⟩ | exact ⟨rfl, _, Eq.trans (World.drewN_drewN _ _ _) (congrArg (World.drewN _) (Nat.add_assoc _ _ _))⟩))); try go_wp2_with (first | (go_at_call 43; (with_reducible refine (laws_f6sum.calls kj9 _ _ t233 t241 _ ?side1 ?side2 A29.out).mono ?_); (case side1 => repeat (first | exact (Kd.R_reads' HO_10.out).2.2 | (with_reducible refine Kd.C_alloc ?_ _) | (with_reducible refine Kd.C_drewN ?_ _) | (with_reducible refine Kd.C_drew ?_))); (case side2 => exact (Kd.R_reads' HO_10.out).2.1); rintro e w' ⟨rfl, ⟨nd, rfl⟩⟩; (try first | exact ⟨rfl, _, World.drewN_drewN _ _ _⟩ | exact ⟨rfl, _, Eq.trans (World.drewN_drewN _ _ _) (congrArg (World.drewN _) (Nat.add_assoc _ _ _))⟩))))
       go_meet
       case rel => exact ⟨_, ((t236 != t241)), (by first | rfl | (simp; done) | (simp [*]; done)), H', ⟨by have := HJ9.out; first | omega | exact Nat.le_refl _⟩, ⟨by (with_reducible repeat (first | apply Kd.R_alloc | apply Kd.R_drewN | apply Kd.R_drew)); exact Kd.R_mono HO_6.out (fun _ hk => hk.1)⟩, ⟨by (with_reducible repeat (first | apply Kd.R_alloc | apply Kd.R_drewN | apply Kd.R_drew)); exact Kd.R_mono HO_8.out (fun _ hk => hk.1)⟩, ⟨by repeat (first | (with_reducible first | exact HB.out | apply below_alloc | apply pw_below_drewN | apply below_drew1) | exact HB.out)⟩⟩
      ·rw [if_neg c28] at H
       have c28b0 : (t237 == 0) = false := beq_eq_false_iff_ne.mpr c28
       have c28b1 : (t237 != 0) = true := bne_iff_ne.mpr c28
       (first | rw [c28b0] | (simp only [i64_w, i32_w]; rw [c28b0]) | skip)
       have H' := Aside0.mk H
       clear H
       go_wp2
       repeat (go_quiet (fail); try go_wp2)
       go_meet
       case rel => exact ⟨_, (false), (by first | rfl | (simp; done) | (simp [*]; done)), H', ⟨by have := HJ9.out; first | omega | exact Nat.le_refl _⟩, ⟨by (with_reducible repeat (first | apply Kd.R_alloc | apply Kd.R_drewN | apply Kd.R_drew)); exact Kd.R_mono HO_6.out (fun _ hk => hk.1)⟩, ⟨by (with_reducible repeat (first | apply Kd.R_alloc | apply Kd.R_drewN | apply Kd.R_drew)); exact Kd.R_mono HO_8.out (fun _ hk => hk.1)⟩, ⟨by repeat (first | (with_reducible first | exact HB.out | apply below_alloc | apply pw_below_drewN | apply below_drew1) | exact HB.out)⟩⟩
     case rest =>
      clear HC27
      try clear c1
      try clear c2
      try clear p2
      try clear c3
      try clear c6
      try clear c16
      try clear c16b0
      try clear c16b1
      try clear c18
      try clear c19
      try clear c19b0
      try clear c19b1
      try clear c26
      try clear c28
      try clear c28b0
      try clear c28b1
      try clear p2
      obtain ⟨kq, x79_26, rfl, HA, HJ26, HO_6, HO_8, HB⟩ := hcut
      cases kq with
      | zero => exact absurd HA.out (by simp [laws_FnBroadSeams.j1])
      | succ kj26 =>
       have H := HA.out
       clear HA
       simp only [laws_FnBroadSeams.j1] at H
       by_cases c30 : x79_26 = true
       ·subst c30
        have H1 : (some false) = some r := by rw [if_pos rfl] at H; exact H
        clear H
        have H := H1
        clear H1
        obtain rfl := Option.some.inj H
        go_wp2
        repeat (go_quiet (fail); try go_wp2)
        go_ret
        exact ⟨by first | rfl | (simp [errW_none, errW_some] <;> rfl) | (simp [*, errW_none, errW_some] <;> rfl), by repeat (first | (with_reducible first | exact HB.out | apply below_alloc | apply pw_below_drewN | apply below_drew1) | exact HB.out)⟩
       ·replace c30 := Bool.eq_false_iff.mpr c30
        subst c30
        have H1 : (if t226 = 0 then ((impl_DepthOf.f kj26 t225).bind fun bt242 => (if bt242.2 = 0 then (if bt242.1 = t223 then (laws_FnBroadSeams.j2 kj26 t224 t229 ((t229.length : Int) != t222)) else (laws_FnBroadSeams.j2 kj26 t224 t229 true)) else (laws_FnBroadSeams.j2 kj26 t224 t229 true))) else (some true)) = some r := by rw [if_neg (show ¬ (false = true) by decide)] at H; exact H
        clear H
        have H := H1
        clear H1
        by_cases c31 : t226 = 0
        ·rw [if_pos c31] at H
         have c31b0 : (t226 == 0) = true := beq_iff_eq.mpr c31
         have c31b1 : (t226 != 0) = false := bne_eq_false_iff_eq.mpr c31
         clear c31
         replace H := Option.bind_eq_some_iff.mp H
         obtain ⟨⟨t242, t243⟩, A320, H⟩ := H
         replace H : (if t243 = 0 then (if t242 = t223 then (laws_FnBroadSeams.j2 kj26 t224 t229 ((t229.length : Int) != t222)) else (laws_FnBroadSeams.j2 kj26 t224 t229 true)) else (laws_FnBroadSeams.j2 kj26 t224 t229 true)) = some r := H
         have A32 := Aside0.mk A320
         clear A320
         have HC33 := Aside0.mk H
         clear H
         obtain ⟨Ao34, co34, eo34⟩ := Kd.R_slice HO_6.out
         subst eo34
         go_upto_region 16 with (first | (go_at_call 40; (with_reducible refine (impl_DepthOf.calls kj26 _ _ t225 t242 t243 _ ?side1 ?side2 A32.out).mono ?_); (case side1 => repeat (first | exact (Kd.R_reads' HO_6.out).2.2 | (with_reducible refine Kd.C_alloc ?_ _) | (with_reducible refine Kd.C_drewN ?_ _) | (with_reducible refine Kd.C_drew ?_))); (case side2 => exact (Kd.R_reads' HO_6.out).2.1); rintro e w' ⟨rfl, ⟨nd, rfl⟩⟩; (try first | exact ⟨rfl, _, World.drewN_drewN _ _ _⟩ | exact ⟨rfl, _, Eq.trans (World.drewN_drewN _ _ _) (congrArg (World.drewN _) (Nat.add_assoc _ _ _))⟩)))
         repeat (go_quiet (first | (go_at_call 40; (with_reducible refine (impl_DepthOf.calls kj26 _ _ t225 t242 t243 _ ?side1 ?side2 A32.out).mono ?_); (case side1 => repeat (first | exact (Kd.R_reads' HO_6.out).2.2 | (with_reducible refine Kd.C_alloc ?_ _) | (with_reducible refine Kd.C_drewN ?_ _) | (with_reducible refine Kd.C_drew ?_))); (case side2 => exact (Kd.R_reads' HO_6.out).2.1); rintro e w' ⟨rfl, ⟨nd, rfl⟩⟩; (try first | exact ⟨rfl, _, World.drewN_drewN _ _ _⟩ | exact ⟨rfl, _, Eq.trans (World.drewN_drewN _ _ _) (congrArg (World.drewN _) (Nat.add_assoc _ _ _))⟩))); go_upto_region 16 with (first | (go_at_call 40; (with_reducible refine (impl_DepthOf.calls kj26 _ _ t225 t242 t243 _ ?side1 ?side2 A32.out).mono ?_); (case side1 => repeat (first | exact (Kd.R_reads' HO_6.out).2.2 | (with_reducible refine Kd.C_alloc ?_ _) | (with_reducible refine Kd.C_drewN ?_ _) | (with_reducible refine Kd.C_drew ?_))); (case side2 => exact (Kd.R_reads' HO_6.out).2.1); rintro e w' ⟨rfl, ⟨nd, rfl⟩⟩; (try first | exact ⟨rfl, _, World.drewN_drewN _ _ _⟩ | exact ⟨rfl, _, Eq.trans (World.drewN_drewN _ _ _) (congrArg (World.drewN _) (Nat.add_assoc _ _ _))⟩))))
         (try simp only [Act.put, List.setIfInBounds_toArray, List.set_cons_zero, List.set_cons_succ])
         go_cut [99] (fun v99 wc => ∃ (kq : Nat) (x99_32 : Bool), v99 = .bool x99_32 ∧ Aside0 (laws_FnBroadSeams.j2 kq t224 t229 x99_32 = some r) ∧ Aside0 (kq ≤ kj26) ∧ Aside0 (Kd.R (Kd.int .i64) 2 wc w.heap.size (fun _ => True) v231 t229) ∧ Aside0 (Below w.heap.size w wc))
         case first =>
          have H := HC33.out
          clear HC33
          by_cases c35 : t243 = 0
          ·rw [if_pos c35] at H
           have c35b0 : (t243 == 0) = true := beq_iff_eq.mpr c35
           have c35b1 : (t243 != 0) = false := bne_eq_false_iff_eq.mpr c35
           clear c35
           (first | rw [c35b0] | (simp only [i64_w, i32_w]; rw [c35b0]) | skip)
           by_cases c36 : t242 = t223
           ·rw [if_pos c36] at H
            have c36b0 : (t242 == t223) = true := beq_iff_eq.mpr c36
            have c36b1 : (t242 != t223) = false := bne_eq_false_iff_eq.mpr c36
            clear c36
            have H' := Aside0.mk H
            clear H
            obtain ⟨Ao37, co37, eo37⟩ := Kd.R_slice HO_8.out
            subst eo37
            go_wp2
            repeat (go_quiet (fail); try go_wp2)
            go_meet
            case rel => exact ⟨_, (((t229.length : Int) != t222)), (by first | rfl | (simp; done) | (simp [*]; done)), H', ⟨by have := HJ9.out; have := HJ26.out; first | omega | exact Nat.le_refl _⟩, ⟨by (with_reducible repeat (first | apply Kd.R_alloc | apply Kd.R_drewN | apply Kd.R_drew)); exact Kd.R_mono HO_8.out (fun _ hk => trivial)⟩, ⟨by repeat (first | (with_reducible first | exact HB.out | apply below_alloc | apply pw_below_drewN | apply below_drew1) | exact HB.out)⟩⟩
           ·rw [if_neg c36] at H
            have c36b0 : (t242 == t223) = false := beq_eq_false_iff_ne.mpr c36
            have c36b1 : (t242 != t223) = true := bne_iff_ne.mpr c36
            have H' := Aside0.mk H
            clear H
            go_wp2
            repeat (go_quiet (fail); try go_wp2)
            go_meet
            case rel => exact ⟨_, (true), (by first | rfl | (simp; done) | (simp [*]; done)), H', ⟨by have := HJ9.out; have := HJ26.out; first | omega | exact Nat.le_refl _⟩, ⟨by (with_reducible repeat (first | apply Kd.R_alloc | apply Kd.R_drewN | apply Kd.R_drew)); exact Kd.R_mono HO_8.out (fun _ hk => trivial)⟩, ⟨by repeat (first | (with_reducible first | exact HB.out | apply below_alloc | apply pw_below_drewN | apply below_drew1) | exact HB.out)⟩⟩
          ·rw [if_neg c35] at H
           have c35b0 : (t243 == 0) = false := beq_eq_false_iff_ne.mpr c35
           have c35b1 : (t243 != 0) = true := bne_iff_ne.mpr c35
           (first | rw [c35b0] | (simp only [i64_w, i32_w]; rw [c35b0]) | skip)
           have H' := Aside0.mk H
           clear H
           go_wp2
           repeat (go_quiet (fail); try go_wp2)
           go_meet
           case rel => exact ⟨_, (true), (by first | rfl | (simp; done) | (simp [*]; done)), H', ⟨by have := HJ9.out; have := HJ26.out; first | omega | exact Nat.le_refl _⟩, ⟨by (with_reducible repeat (first | apply Kd.R_alloc | apply Kd.R_drewN | apply Kd.R_drew)); exact Kd.R_mono HO_8.out (fun _ hk => trivial)⟩, ⟨by repeat (first | (with_reducible first | exact HB.out | apply below_alloc | apply pw_below_drewN | apply below_drew1) | exact HB.out)⟩⟩
         case rest =>
          clear HC33
          try clear c1
          try clear c2
          try clear p2
          try clear c3
          try clear c6
          try clear c16
          try clear c16b0
          try clear c16b1
          try clear c18
          try clear c19
          try clear c19b0
          try clear c19b1
          try clear c26
          try clear c28
          try clear c28b0
          try clear c28b1
          try clear c30
          try clear c31
          try clear c31b0
          try clear c31b1
          try clear c35
          try clear c35b0
          try clear c35b1
          try clear c36
          try clear c36b0
          try clear c36b1
          try clear p2
          obtain ⟨kq, x99_32, rfl, HA, HJ32, HO_8, HB⟩ := hcut
          cases kq with
          | zero => exact absurd HA.out (by simp [laws_FnBroadSeams.j2])
          | succ kj32 =>
           have H := HA.out
           clear HA
           simp only [laws_FnBroadSeams.j2] at H
           by_cases c38 : x99_32 = true
           ·subst c38
            have H1 : (some false) = some r := by rw [if_pos rfl] at H; exact H
            clear H
            have H := H1
            clear H1
            obtain rfl := Option.some.inj H
            go_wp2
            repeat (go_quiet (fail); try go_wp2)
            go_ret
            exact ⟨by first | rfl | (simp [errW_none, errW_some] <;> rfl) | (simp [*, errW_none, errW_some] <;> rfl), by repeat (first | (with_reducible first | exact HB.out | apply below_alloc | apply pw_below_drewN | apply below_drew1) | exact HB.out)⟩
           ·replace c38 := Bool.eq_false_iff.mpr c38
            subst c38
            have H1 : (laws_FnBroadSeams.l0 kj32 t224 t229 0) = some r := by rw [if_neg (show ¬ (false = true) by decide)] at H; exact H
            clear H
            have H := H1
            clear H1
            have H' := Aside0.mk H
            clear H
            go_wp2
            repeat (go_quiet (fail); try go_wp2)
            go_loopg [17] kj32 (fun kq v17 w' => ∃ (x17_4 : Int), v17 = .int .i64 x17_4 ∧ Aside0 (laws_FnBroadSeams.l0 kq t224 t229 x17_4 = some r) ∧ Aside0 (kq ≤ kj32) ∧ Aside0 (Kd.R (Kd.int .i64) 2 w' w.heap.size (fun _ => True) v231 t229) ∧ Aside0 (Below w.heap.size w w'))
            case atStart => exact ⟨(0), (by first | rfl | (simp; done) | (simp [*]; done)), H', ⟨Nat.le_refl _⟩, ⟨by (with_reducible repeat (first | apply Kd.R_alloc | apply Kd.R_drewN | apply Kd.R_drew)); exact HO_8.out⟩, ⟨by repeat (first | (with_reducible first | exact HB.out | apply below_alloc | apply pw_below_drewN | apply below_drew1) | exact HB.out)⟩⟩
            case round =>
             clear H'
             try clear c1
             try clear c2
             try clear p2
             try clear c3
             try clear c6
             try clear c16
             try clear c16b0
             try clear c16b1
             try clear c18
             try clear c19
             try clear c19b0
             try clear c19b1
             try clear c26
             try clear c28
             try clear c28b0
             try clear c28b1
             try clear c30
             try clear c31
             try clear c31b0
             try clear c31b1
             try clear c35
             try clear c35b0
             try clear c35b1
             try clear c36
             try clear c36b0
             try clear c36b1
             try clear c38
             try clear p2
             obtain ⟨x17_4, rfl, HA, HK4, HO_8, HB⟩ := hrel
             cases gk with
             | zero => exact absurd HA.out (by simp [laws_FnBroadSeams.l0])
             | succ k4 =>
              have H := HA.out
              clear HA
              simp only [laws_FnBroadSeams.l0] at H
              by_cases c39 : x17_4 < (t229.length : Int)
              ·rw [if_pos c39] at H
               have c39b0 : decide (x17_4 < (t229.length : Int)) = true := decide_eq_true c39
               clear c39
               have H' := Aside0.mk H
               clear H
               obtain ⟨Ao40, co40, eo40⟩ := Kd.R_slice HO_8.out
               subst eo40
               go_wp2
               repeat (go_quiet (fail); try go_wp2)
               go_loopg [18] k4 (fun kq v18 w' => ∃ (x18_5 : Int), v18 = .int .i64 x18_5 ∧ Aside0 (laws_FnBroadSeams.l1 kq t224 t229 x17_4 x18_5 = some r) ∧ Aside0 (kq ≤ k4) ∧ Aside0 (Kd.R (Kd.int .i64) 2 w' w.heap.size (fun _ => True) (.slice Ao40 t229.length co40) t229) ∧ Aside0 (Below w.heap.size w w'))
               case atStart => exact ⟨(0), (by first | rfl | (simp; done) | (simp [*]; done)), H', ⟨Nat.le_refl _⟩, ⟨by (with_reducible repeat (first | apply Kd.R_alloc | apply Kd.R_drewN | apply Kd.R_drew)); exact HO_8.out⟩, ⟨by repeat (first | (with_reducible first | exact HB.out | apply below_alloc | apply pw_below_drewN | apply below_drew1) | exact HB.out)⟩⟩
               case round =>
                clear H'
                try clear c1
                try clear c2
                try clear p2
                try clear c3
                try clear c6
                try clear c16
                try clear c16b0
                try clear c16b1
                try clear c18
                try clear c19
                try clear c19b0
                try clear c19b1
                try clear c26
                try clear c28
                try clear c28b0
                try clear c28b1
                try clear c30
                try clear c31
                try clear c31b0
                try clear c31b1
                try clear c35
                try clear c35b0
                try clear c35b1
                try clear c36
                try clear c36b0
                try clear c36b1
                try clear c38
                try clear c39
                try clear c39b0
                try clear p2
                obtain ⟨x18_5, rfl, HA, HK5, HO_8, HB⟩ := hrel
                cases gk with
                | zero => exact absurd HA.out (by simp [laws_FnBroadSeams.l1])
                | succ k5 =>
                 have H := HA.out
                 clear HA
                 simp only [laws_FnBroadSeams.l1] at H
                 by_cases c41 : x18_5 < (t229.length : Int)
                 ·rw [if_pos c41] at H
                  have c41b0 : decide (x18_5 < (t229.length : Int)) = true := decide_eq_true c41
                  clear c41
                  by_cases c42 : 0 ≤ x17_4
                  ·rw [if_pos c42] at H
                   have c42b0 : decide (0 ≤ x17_4) = true := decide_eq_true c42
                   clear c42
                   by_cases c43 : x17_4 < (t229.length : Int)
                   ·rw [if_pos c43] at H
                    have c43b0 : decide (x17_4 < (t229.length : Int)) = true := decide_eq_true c43
                    clear c43
                    by_cases c44 : 0 ≤ x18_5
                    ·rw [if_pos c44] at H
                     have c44b0 : decide (0 ≤ x18_5) = true := decide_eq_true c44
                     clear c44
                     by_cases c45 : (rd t229 x17_4) > (wrap64 ((rd t229 x18_5) + 1))
                     ·rw [if_pos c45] at H
                      have c45b0 : decide ((wrap64 ((rd t229 x18_5) + 1)) < (rd t229 x17_4)) = true := decide_eq_true c45
                      clear c45
                      obtain rfl := Option.some.inj H
                      have p244 : 0 ≤ (x17_4 : Int) := of_decide_eq_true (by first | (with_reducible assumption) | assumption)
                      have q244 : x17_4 < (t229.length : Int) := of_decide_eq_true (by first | (with_reducible assumption) | assumption)
                      obtain ⟨ad244, e244, hx244_0⟩ := Kd.at_int (Kd.R_reads' HO_8.out).2.2 x17_4 p244 q244
                      cases e244
                      replace p244 := eq_true p244
                      replace q244 := eq_true q244
                      have p245 : 0 ≤ (x18_5 : Int) := of_decide_eq_true (by first | (with_reducible assumption) | assumption)
                      have q245 : x18_5 < (t229.length : Int) := of_decide_eq_true (by first | (with_reducible assumption) | assumption)
                      obtain ⟨ad245, e245, hx245_0⟩ := Kd.at_int (Kd.R_reads' HO_8.out).2.2 x18_5 p245 q245
                      obtain rfl : ad244 = ad245 := (by injection e245)
                      replace p245 := eq_true p245
                      replace q245 := eq_true q245
                      go_wp2
                      repeat (go_quiet (fail); try go_wp2)
                      go_ret
                      exact ⟨by first | rfl | (simp [errW_none, errW_some] <;> rfl) | (simp [*, errW_none, errW_some] <;> rfl), by repeat (first | (with_reducible first | exact HB.out | apply below_alloc | apply pw_below_drewN | apply below_drew1) | exact HB.out)⟩
                     ·rw [if_neg c45] at H
                      have c45b0 : decide ((wrap64 ((rd t229 x18_5) + 1)) < (rd t229 x17_4)) = false := decide_eq_false c45
                      clear c45
                      have H' := Aside0.mk H
                      clear H
                      have p244 : 0 ≤ (x17_4 : Int) := of_decide_eq_true (by first | (with_reducible assumption) | assumption)
                      have q244 : x17_4 < (t229.length : Int) := of_decide_eq_true (by first | (with_reducible assumption) | assumption)
                      obtain ⟨ad244, e244, hx244_0⟩ := Kd.at_int (Kd.R_reads' HO_8.out).2.2 x17_4 p244 q244
                      cases e244
                      replace p244 := eq_true p244
                      replace q244 := eq_true q244
                      have p245 : 0 ≤ (x18_5 : Int) := of_decide_eq_true (by first | (with_reducible assumption) | assumption)
                      have q245 : x18_5 < (t229.length : Int) := of_decide_eq_true (by first | (with_reducible assumption) | assumption)
                      obtain ⟨ad245, e245, hx245_0⟩ := Kd.at_int (Kd.R_reads' HO_8.out).2.2 x18_5 p245 q245
                      obtain rfl : ad244 = ad245 := (by injection e245)
                      replace p245 := eq_true p245
                      replace q245 := eq_true q245
                      go_wp2
                      repeat (go_quiet (fail); try go_wp2)
                      go_roundg k5
                      case measure => have := HJ9.out; have := HJ26.out; have := HJ32.out; have := HK4.out; have := HK5.out; omega
                      case rel => exact ⟨(wrap64 (x18_5 + 1)), (by first | rfl | (simp; done) | (simp [*]; done)), H', ⟨by have := HJ9.out; have := HJ26.out; have := HJ32.out; have := HK4.out; have := HK5.out; omega⟩, ⟨by (with_reducible repeat (first | apply Kd.R_alloc | apply Kd.R_drewN | apply Kd.R_drew)); exact HO_8.out⟩, ⟨by repeat (first | (with_reducible first | exact HB.out | apply below_alloc | apply pw_below_drewN | apply below_drew1) | exact HB.out)⟩⟩
                    ·rw [if_neg c44] at H
                     exact absurd H (by simp)
                   ·rw [if_neg c43] at H
                    exact absurd H (by simp)
                  ·rw [if_neg c42] at H
                   exact absurd H (by simp)
                 ·rw [if_neg c41] at H
                  have c41b0 : decide (x18_5 < (t229.length : Int)) = false := decide_eq_false c41
                  clear c41
                  by_cases c46 : 0 ≤ x17_4
                  ·rw [if_pos c46] at H
                   have c46b0 : decide (0 ≤ x17_4) = true := decide_eq_true c46
                   clear c46
                   by_cases c47 : x17_4 < (t229.length : Int)
                   ·rw [if_pos c47] at H
                    have c47b0 : decide (x17_4 < (t229.length : Int)) = true := decide_eq_true c47
                    clear c47
                    by_cases c48 : (rd t229 x17_4) < 0
                    ·rw [if_pos c48] at H
                     have c48b0 : decide ((rd t229 x17_4) < 0) = true := decide_eq_true c48
                     clear c48
                     obtain rfl := Option.some.inj H
                     have p246 : 0 ≤ (x17_4 : Int) := of_decide_eq_true (by first | (with_reducible assumption) | assumption)
                     have q246 : x17_4 < (t229.length : Int) := of_decide_eq_true (by first | (with_reducible assumption) | assumption)
                     obtain ⟨ad246, e246, hx246_0⟩ := Kd.at_int (Kd.R_reads' HO_8.out).2.2 x17_4 p246 q246
                     cases e246
                     replace p246 := eq_true p246
                     replace q246 := eq_true q246
                     go_wp2
                     repeat (go_quiet (fail); try go_wp2)
                     go_ret
                     exact ⟨by first | rfl | (simp [errW_none, errW_some] <;> rfl) | (simp [*, errW_none, errW_some] <;> rfl), by repeat (first | (with_reducible first | exact HB.out | apply below_alloc | apply pw_below_drewN | apply below_drew1) | exact HB.out)⟩
                    ·rw [if_neg c48] at H
                     have c48b0 : decide ((rd t229 x17_4) < 0) = false := decide_eq_false c48
                     clear c48
                     by_cases c49 : (rd t229 x17_4) > t224
                     ·rw [if_pos c49] at H
                      have c49b0 : decide (t224 < (rd t229 x17_4)) = true := decide_eq_true c49
                      clear c49
                      obtain rfl := Option.some.inj H
                      have p246 : 0 ≤ (x17_4 : Int) := of_decide_eq_true (by first | (with_reducible assumption) | assumption)
                      have q246 : x17_4 < (t229.length : Int) := of_decide_eq_true (by first | (with_reducible assumption) | assumption)
                      obtain ⟨ad246, e246, hx246_0⟩ := Kd.at_int (Kd.R_reads' HO_8.out).2.2 x17_4 p246 q246
                      cases e246
                      replace p246 := eq_true p246
                      replace q246 := eq_true q246
                      have p247 : 0 ≤ (x17_4 : Int) := of_decide_eq_true (by first | (with_reducible assumption) | assumption)
                      have q247 : x17_4 < (t229.length : Int) := of_decide_eq_true (by first | (with_reducible assumption) | assumption)
                      obtain ⟨ad247, e247, hx247_0⟩ := Kd.at_int (Kd.R_reads' HO_8.out).2.2 x17_4 p247 q247
                      obtain rfl : ad246 = ad247 := (by injection e247)
                      replace p247 := eq_true p247
                      replace q247 := eq_true q247
                      go_wp2
                      repeat (go_quiet (fail); try go_wp2)
                      go_ret
                      exact ⟨by first | rfl | (simp [errW_none, errW_some] <;> rfl) | (simp [*, errW_none, errW_some] <;> rfl), by repeat (first | (with_reducible first | exact HB.out | apply below_alloc | apply pw_below_drewN | apply below_drew1) | exact HB.out)⟩
                     ·rw [if_neg c49] at H
                      have c49b0 : decide (t224 < (rd t229 x17_4)) = false := decide_eq_false c49
                      clear c49
                      have H' := Aside0.mk H
                      clear H
                      have p246 : 0 ≤ (x17_4 : Int) := of_decide_eq_true (by first | (with_reducible assumption) | assumption)
                      have q246 : x17_4 < (t229.length : Int) := of_decide_eq_true (by first | (with_reducible assumption) | assumption)
                      obtain ⟨ad246, e246, hx246_0⟩ := Kd.at_int (Kd.R_reads' HO_8.out).2.2 x17_4 p246 q246
                      cases e246
                      replace p246 := eq_true p246
                      replace q246 := eq_true q246
                      have p247 : 0 ≤ (x17_4 : Int) := of_decide_eq_true (by first | (with_reducible assumption) | assumption)
                      have q247 : x17_4 < (t229.length : Int) := of_decide_eq_true (by first | (with_reducible assumption) | assumption)
                      obtain ⟨ad247, e247, hx247_0⟩ := Kd.at_int (Kd.R_reads' HO_8.out).2.2 x17_4 p247 q247
                      obtain rfl : ad246 = ad247 := (by injection e247)
                      replace p247 := eq_true p247
                      replace q247 := eq_true q247
                      go_wp2
                      repeat (go_quiet (fail); try go_wp2)
                      go_roundg k5
                      case measure => have := HJ9.out; have := HJ26.out; have := HJ32.out; have := HK4.out; have := HK5.out; omega
                      case rel => exact ⟨(wrap64 (x17_4 + 1)), (by first | rfl | (simp; done) | (simp [*]; done)), H', ⟨by have := HJ9.out; have := HJ26.out; have := HJ32.out; have := HK4.out; have := HK5.out; omega⟩, ⟨by (with_reducible repeat (first | apply Kd.R_alloc | apply Kd.R_drewN | apply Kd.R_drew)); exact HO_8.out⟩, ⟨by repeat (first | (with_reducible first | exact HB.out | apply below_alloc | apply pw_below_drewN | apply below_drew1) | exact HB.out)⟩⟩
                   ·rw [if_neg c47] at H
                    exact absurd H (by simp)
                  ·rw [if_neg c46] at H
                   exact absurd H (by simp)
              ·rw [if_neg c39] at H
               have c39b0 : decide (x17_4 < (t229.length : Int)) = false := decide_eq_false c39
               clear c39
               obtain rfl := Option.some.inj H
               obtain ⟨Ao50, co50, eo50⟩ := Kd.R_slice HO_8.out
               subst eo50
               go_wp2
               repeat (go_quiet (fail); try go_wp2)
               go_ret
               exact ⟨by first | rfl | (simp [errW_none, errW_some] <;> rfl) | (simp [*, errW_none, errW_some] <;> rfl), by repeat (first | (with_reducible first | exact HB.out | apply below_alloc | apply pw_below_drewN | apply below_drew1) | exact HB.out)⟩
        ·rw [if_neg c31] at H
         have c31b0 : (t226 == 0) = false := beq_eq_false_iff_ne.mpr c31
         have c31b1 : (t226 != 0) = true := bne_iff_ne.mpr c31
         obtain rfl := Option.some.inj H
         go_wp2
         repeat (go_quiet (fail); try go_wp2)
         go_ret
         exact ⟨by first | rfl | (simp [errW_none, errW_some] <;> rfl) | (simp [*, errW_none, errW_some] <;> rfl), by repeat (first | (with_reducible first | exact HB.out | apply below_alloc | apply pw_below_drewN | apply below_drew1) | exact HB.out)⟩

def laws_FnBroadSeams.Pure : Prop := ∀ (l0 : List Int), (l0.length ≤ 9223372036854775807 ∧ ∀ y0 ∈ l0, (Lit.int .u8 y0).wf = true) → ∃ k, laws_FnBroadSeams.f k l0 = some true

end Go.Proofs.Ytobejjbnklcgpaa.PFnBroadSeams
