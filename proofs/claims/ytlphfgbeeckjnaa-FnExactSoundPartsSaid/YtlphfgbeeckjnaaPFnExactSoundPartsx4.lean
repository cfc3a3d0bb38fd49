-- Written by a program of this session (wip/tools/pp.sh).
import Derived.Test.YtlphfgbeeckjnaaPFnExactSoundPartsx0
import Derived.Test.YtlphfgbeeckjnaaPFnExactSoundPartsx1
import Derived.Test.YtlphfgbeeckjnaaPFnExactSoundPartsx2
import Derived.Test.YtlphfgbeeckjnaaPFnExactSoundPartsx3
namespace Go.Proofs.Ytlphfgbeeckjnaa.PFnExactSoundParts
open Go.RowKit Go.Proofs.YtlphfgbeeckjnaaW.PrintWords Go.Proofs.YtlphfgbeeckjnaaW.PrintLast Go.Proofs.YtlphfgbeeckjnaaW.PrintMore Go.Proofs.Ytlphfgbeeckjnaa.Small
open Bool renaming true → T, false → F
attribute [local go_sem] max2_int min2_int max_two min_two max_three min_three max_four min_four   -- for this text's walks alone
set_option linter.unusedVariables false
set_option linter.unusedSimpArgs false

/-! ### laws_FnExactSoundParts: function 3 -/
mutual
def laws_FnExactSoundParts.j0 : Nat → List (List Int) → Int → List (List Int) → Int → Bool → Int → List Int → Int → List Int → Option (Bool)
 | 0, _, _, _, _, _, _, _, _, _ => none
 | k + 1, x4, x5, x7, x8, x40, x197000, x197001, x211000, x211001 => if x40 = true then (some false) else ((laws_toBolt.f k x197000 x197001).bind fun bt216 => ((laws_eqBolt.f k x211000 x211001 bt216.1 bt216.2).bind fun t220 => (if t220 = true then ((laws_markBolt.f k x211000 x211001 1).bind fun bt221 => (if bt221.1 < 0 then (laws_FnExactSoundParts.j1 k x4 x5 x7 true x197000 x197001) else ((laws_eqInt64SS.f k x7 x4).bind fun t223 => (if t223 = true then (laws_FnExactSoundParts.j1 k x4 x5 x7 (x8 != x5) x197000 x197001) else (laws_FnExactSoundParts.j1 k x4 x5 x7 true x197000 x197001))))) else (some false))))
def laws_FnExactSoundParts.j1 : Nat → List (List Int) → Int → List (List Int) → Bool → Int → List Int → Option (Bool)
 | 0, _, _, _, _, _, _ => none
 | k + 1, x4, x5, x7, x61, x197000, x197001 => if x61 = true then (some false) else ((laws_markInt64SS.f k x7 1).bind fun bt224 => ((laws_heldInt64SS.f k bt224.2 1).bind fun t226 => (if t226 < 0 then (some false) else (if t226 = bt224.1 then ((laws_toBolt.f k x197000 x197001).bind fun bt227 => ((impl_SoundParts.f k bt227.1 bt227.2).bind fun bt231 => ((laws_eqInt64SS.f k bt231.1 x4).bind fun t235 => (if t235 = true then (laws_FnExactSoundParts.j2 k bt224.2 bt224.1 (bt231.2 != x5)) else (laws_FnExactSoundParts.j2 k bt224.2 bt224.1 true))))) else (some false)))))
def laws_FnExactSoundParts.j2 : Nat → List (List Int) → Int → Bool → Option (Bool)
 | 0, _, _, _ => none
 | k + 1, x7, x10, x87 => if x87 = true then (some false) else ((laws_heldInt64SS.f k x7 1).bind fun t236 => (if t236 < 0 then (some false) else (if t236 = x10 then (some true) else (some false))))
end
def laws_FnExactSoundParts.f (k : Nat) (a0_0 : Int) (l0_1 : List Int) : Option (Bool) := (laws_szBolt.f a0_0 l0_1 1048576).bind fun t197 => (if t197 < 0 then (some true) else ((laws_toBolt.f k a0_0 l0_1).bind fun bt198 => ((spec_SoundParts.f k bt198.1 bt198.2).bind fun bt202 => ((laws_toBolt.f k a0_0 l0_1).bind fun bt206 => ((impl_SoundParts.f k bt206.1 bt206.2).bind fun bt211 => ((laws_eqInt64SS.f k bt211.1 bt202.1).bind fun t215 => (if t215 = true then (laws_FnExactSoundParts.j0 k bt202.1 bt202.2 bt211.1 bt211.2 (bt211.2 != bt202.2) a0_0 l0_1 bt206.1 bt206.2) else (laws_FnExactSoundParts.j0 k bt202.1 bt202.2 bt211.1 bt211.2 true a0_0 l0_1 bt206.1 bt206.2))))))))
theorem laws_FnExactSoundParts.mono_l : ∀ k, (∀ y0 y1 y2 y3 y4 y5 y6 y7 y8, LeO (laws_FnExactSoundParts.j0 k y0 y1 y2 y3 y4 y5 y6 y7 y8) (laws_FnExactSoundParts.j0 (k + 1) y0 y1 y2 y3 y4 y5 y6 y7 y8)) ∧ (∀ y0 y1 y2 y3 y4 y5, LeO (laws_FnExactSoundParts.j1 k y0 y1 y2 y3 y4 y5) (laws_FnExactSoundParts.j1 (k + 1) y0 y1 y2 y3 y4 y5)) ∧ (∀ y0 y1 y2, LeO (laws_FnExactSoundParts.j2 k y0 y1 y2) (laws_FnExactSoundParts.j2 (k + 1) y0 y1 y2))
 | 0 => ⟨fun _ _ _ _ _ _ _ _ _ r h => by simp [laws_FnExactSoundParts.j0] at h, fun _ _ _ _ _ _ r h => by simp [laws_FnExactSoundParts.j1] at h, fun _ _ _ r h => by simp [laws_FnExactSoundParts.j2] at h⟩
 | k + 1 => by
  obtain ⟨ih0, ih1, ih2⟩ := laws_FnExactSoundParts.mono_l k
  refine ⟨?_, ?_, ?_⟩
  ·intro y0 y1 y2 y3 y4 y5 y6 y7 y8
   unfold laws_FnExactSoundParts.j0
   repeat' first
   | (with_reducible exact ih0 _ _ _ _ _ _ _ _ _)
   | (with_reducible exact ih1 _ _ _ _ _ _)
   | (with_reducible exact ih2 _ _ _)
   | (with_reducible exact impl_SoundParts.mono _ _ _)
   | (with_reducible exact laws_eqBolt.mono _ _ _ _ _)
   | (with_reducible exact laws_eqInt64SS.mono _ _ _)
   | (with_reducible exact laws_heldInt64SS.mono _ _ _)
   | (with_reducible exact laws_markBolt.mono _ _ _ _)
   | (with_reducible exact laws_markInt64SS.mono _ _ _)
   | (with_reducible exact laws_toBolt.mono _ _ _)
   | (with_reducible exact spec_SoundParts.mono _ _ _)
   | (with_reducible exact LeO.refl _)
   | (with_reducible exact LeO.none _)
   | (with_reducible refine LeO.ite ?_ ?_)
   | (with_reducible refine LeO.bind ?_ (fun _ => ?_))
   | exact ih0 _ _ _ _ _ _ _ _ _
   | exact ih1 _ _ _ _ _ _
   | exact ih2 _ _ _
   | exact impl_SoundParts.mono _ _ _
   | exact laws_eqBolt.mono _ _ _ _ _
   | exact laws_eqInt64SS.mono _ _ _
   | exact laws_heldInt64SS.mono _ _ _
   | exact laws_markBolt.mono _ _ _ _
   | exact laws_markInt64SS.mono _ _ _
   | exact laws_toBolt.mono _ _ _
   | exact spec_SoundParts.mono _ _ _
   | exact LeO.none _
   | refine LeO.ite ?_ ?_
   | refine LeO.bind ?_ (fun _ => ?_)
  ·intro y0 y1 y2 y3 y4 y5
   unfold laws_FnExactSoundParts.j1
   repeat' first
   | (with_reducible exact ih0 _ _ _ _ _ _ _ _ _)
   | (with_reducible exact ih1 _ _ _ _ _ _)
   | (with_reducible exact ih2 _ _ _)
   | (with_reducible exact impl_SoundParts.mono _ _ _)
   | (with_reducible exact laws_eqBolt.mono _ _ _ _ _)
   | (with_reducible exact laws_eqInt64SS.mono _ _ _)
   | (with_reducible exact laws_heldInt64SS.mono _ _ _)
   | (with_reducible exact laws_markBolt.mono _ _ _ _)
   | (with_reducible exact laws_markInt64SS.mono _ _ _)
   | (with_reducible exact laws_toBolt.mono _ _ _)
   | (with_reducible exact spec_SoundParts.mono _ _ _)
   | (with_reducible exact LeO.refl _)
   | (with_reducible exact LeO.none _)
   | (with_reducible refine LeO.ite ?_ ?_)
   | (with_reducible refine LeO.bind ?_ (fun _ => ?_))
   | exact ih0 _ _ _ _ _ _ _ _ _
   | exact ih1 _ _ _ _ _ _
   | exact ih2 _ _ _
   | exact impl_SoundParts.mono _ _ _
   | exact laws_eqBolt.mono _ _ _ _ _
   | exact laws_eqInt64SS.mono _ _ _
   | exact laws_heldInt64SS.mono _ _ _
   | exact laws_markBolt.mono _ _ _ _
   | exact laws_markInt64SS.mono _ _ _
   | exact laws_toBolt.mono _ _ _
   | exact spec_SoundParts.mono _ _ _
   | exact LeO.none _
   | refine LeO.ite ?_ ?_
   | refine LeO.bind ?_ (fun _ => ?_)
  ·intro y0 y1 y2
   unfold laws_FnExactSoundParts.j2
   repeat' first
   | (with_reducible exact ih0 _ _ _ _ _ _ _ _ _)
   | (with_reducible exact ih1 _ _ _ _ _ _)
   | (with_reducible exact ih2 _ _ _)
   | (with_reducible exact impl_SoundParts.mono _ _ _)
   | (with_reducible exact laws_eqBolt.mono _ _ _ _ _)
   | (with_reducible exact laws_eqInt64SS.mono _ _ _)
   | (with_reducible exact laws_heldInt64SS.mono _ _ _)
   | (with_reducible exact laws_markBolt.mono _ _ _ _)
   | (with_reducible exact laws_markInt64SS.mono _ _ _)
   | (with_reducible exact laws_toBolt.mono _ _ _)
   | (with_reducible exact spec_SoundParts.mono _ _ _)
   | (with_reducible exact LeO.refl _)
   | (with_reducible exact LeO.none _)
   | (with_reducible refine LeO.ite ?_ ?_)
   | (with_reducible refine LeO.bind ?_ (fun _ => ?_))
   | exact ih0 _ _ _ _ _ _ _ _ _
   | exact ih1 _ _ _ _ _ _
   | exact ih2 _ _ _
   | exact impl_SoundParts.mono _ _ _
   | exact laws_eqBolt.mono _ _ _ _ _
   | exact laws_eqInt64SS.mono _ _ _
   | exact laws_heldInt64SS.mono _ _ _
   | exact laws_markBolt.mono _ _ _ _
   | exact laws_markInt64SS.mono _ _ _
   | exact laws_toBolt.mono _ _ _
   | exact spec_SoundParts.mono _ _ _
   | exact LeO.none _
   | refine LeO.ite ?_ ?_
   | refine LeO.bind ?_ (fun _ => ?_)
theorem laws_FnExactSoundParts.mono : ∀ a0 a1 k, LeO (laws_FnExactSoundParts.f k a0 a1) (laws_FnExactSoundParts.f (k + 1) a0 a1) := by
 intro a0 a1 k
 obtain ⟨ih0, ih1, ih2⟩ := laws_FnExactSoundParts.mono_l k
 unfold laws_FnExactSoundParts.f
 repeat' first
   | (with_reducible exact ih0 _ _ _ _ _ _ _ _ _)
   | (with_reducible exact ih1 _ _ _ _ _ _)
   | (with_reducible exact ih2 _ _ _)
   | (with_reducible exact impl_SoundParts.mono _ _ _)
   | (with_reducible exact laws_eqBolt.mono _ _ _ _ _)
   | (with_reducible exact laws_eqInt64SS.mono _ _ _)
   | (with_reducible exact laws_heldInt64SS.mono _ _ _)
   | (with_reducible exact laws_markBolt.mono _ _ _ _)
   | (with_reducible exact laws_markInt64SS.mono _ _ _)
   | (with_reducible exact laws_toBolt.mono _ _ _)
   | (with_reducible exact spec_SoundParts.mono _ _ _)
   | (with_reducible exact LeO.refl _)
   | (with_reducible exact LeO.none _)
   | (with_reducible refine LeO.ite ?_ ?_)
   | (with_reducible refine LeO.bind ?_ (fun _ => ?_))
   | exact ih0 _ _ _ _ _ _ _ _ _
   | exact ih1 _ _ _ _ _ _
   | exact ih2 _ _ _
   | exact impl_SoundParts.mono _ _ _
   | exact laws_eqBolt.mono _ _ _ _ _
   | exact laws_eqInt64SS.mono _ _ _
   | exact laws_heldInt64SS.mono _ _ _
   | exact laws_markBolt.mono _ _ _ _
   | exact laws_markInt64SS.mono _ _ _
   | exact laws_toBolt.mono _ _ _
   | exact spec_SoundParts.mono _ _ _
   | exact LeO.none _
   | refine LeO.ite ?_ ?_
   | refine LeO.bind ?_ (fun _ => ?_)
set_option maxHeartbeats 8000000 in
set_option maxRecDepth 100000 in
theorem laws_FnExactSoundParts.calls (k : Nat) (a0_0 : Int) (A0_1 : Option Addr) (c0_1 : Nat) (l0_1 : List Int) (r : Bool) (w : World) (hr0_1 : Kd.C (Kd.int .i64) w A0_1 l0_1.length l0_1) (hc0_1 : l0_1.length ≤ c0_1) (hrt : r = true) (h : laws_FnExactSoundParts.f k a0_0 l0_1 = some r) :
  Calls Try.prog 3 #[.agg #[.int .i64 a0_0, .slice A0_1 l0_1.length c0_1]] w fun e w' => e = .returned (.bool r) ∧ Below w.heap.size w w' := by
 have hu24 := Try.underlying24
 have hu29 := Try.underlying29
 have HRT := Aside0.mk hrt
 clear hrt
 have HR0_1 := Aside0.mk hr0_1
 have HC0_1 := Aside0.mk hc0_1
 clear hr0_1 hc0_1
 have HB := Aside0.mk (Below.refl w.heap.size w)
 have H : ((laws_szBolt.f a0_0 l0_1 1048576).bind fun t197 => (if t197 < 0 then (some true) else ((laws_toBolt.f k a0_0 l0_1).bind fun bt198 => ((spec_SoundParts.f k bt198.1 bt198.2).bind fun bt202 => ((laws_toBolt.f k a0_0 l0_1).bind fun bt206 => ((impl_SoundParts.f k bt206.1 bt206.2).bind fun bt211 => ((laws_eqInt64SS.f k bt211.1 bt202.1).bind fun t215 => (if t215 = true then (laws_FnExactSoundParts.j0 k bt202.1 bt202.2 bt211.1 bt211.2 (bt211.2 != bt202.2) a0_0 l0_1 bt206.1 bt206.2) else (laws_FnExactSoundParts.j0 k bt202.1 bt202.2 bt211.1 bt211.2 true a0_0 l0_1 bt206.1 bt206.2))))))))) = some r := h
 clear h
 replace H := Option.bind_eq_some_iff.mp H
 obtain ⟨t197, A20, H⟩ := H
 replace H : (if t197 < 0 then (some true) else ((laws_toBolt.f k a0_0 l0_1).bind fun bt198 => ((spec_SoundParts.f k bt198.1 bt198.2).bind fun bt202 => ((laws_toBolt.f k a0_0 l0_1).bind fun bt206 => ((impl_SoundParts.f k bt206.1 bt206.2).bind fun bt211 => ((laws_eqInt64SS.f k bt211.1 bt202.1).bind fun t215 => (if t215 = true then (laws_FnExactSoundParts.j0 k bt202.1 bt202.2 bt211.1 bt211.2 (bt211.2 != bt202.2) a0_0 l0_1 bt206.1 bt206.2) else (laws_FnExactSoundParts.j0 k bt202.1 bt202.2 bt211.1 bt211.2 true a0_0 l0_1 bt206.1 bt206.2)))))))) = some r := H
 have A2 := Aside0.mk A20
 clear A20
 have HF_ := Aside0.mk H
 clear H
 go_enter Try.func3, Try.ntmps3
 go_upto_if 18 with (first | ((with_reducible refine gate_dst (N := 1) rfl ?_); refine box_event ?hg (N := 1) ?hd (cs := #[.int .i64 a0_0, .slice A0_1 l0_1.length c0_1]) (t := 24) ?hr ?_; (case hd => rfl); (case hg => rfl); (case hr => first | (go_simp; done) | (go_simp; rfl)); intro gb196 hg w3 hbox hb; have n0_ := pS HB hb; have n1_ := Aside0.mk (hbox); have n2_ := pG HB hg; have n3_ := pG HB hg; clear HB; have HB := n0_; have BK196 := n1_; have GW196 := n2_; have GE196 := n3_; clear n0_ n1_ n2_ n3_; clear hb hbox hg; obtain ⟨hcz4_0, hcz4_1, hfz4_0, hfz4_1⟩ := cz2 BK196) | ((with_reducible refine gate_callee (f := 11) rfl ?_); refine goesL_ (some 16) rfl rfl Try.func11 (by kernel_rfl) rfl #[.agg #[.int .i64 a0_0, .slice A0_1 l0_1.length c0_1], .int .i64 1048576] rfl (by (try simp only [List.map_toArray, List.map_cons, List.map_nil]); first | done | rfl | (simp only [List.length_drop, List.length_take]; rfl)) ?_; (with_reducible refine (laws_szBolt.calls a0_0 _ _ l0_1 1048576 t197 _ ?side1 ?side2 A2.out).mono ?_); (case side1 => repeat (first | exact (Kd.C_below HR0_1.out HB.out) | (with_reducible refine Kd.C_alloc ?_ _) | (with_reducible refine Kd.C_drewN ?_ _) | (with_reducible refine Kd.C_drew ?_))); (case side2 => exact HC0_1.out); rintro e w5 ⟨rfl, hb⟩; refine ⟨_, rfl, ?_⟩; have n0_ := pB BK196 hb; have n1_ := pS HB hb; clear BK196 HB; have BK196 := n0_; have HB := n1_; clear n0_ n1_; (try clear hb); (try clear hb2); (try clear hk); (try clear hi)))
 (try simp only [Act.put, List.setIfInBounds_toArray, List.set_cons_zero, List.set_cons_succ])
 have H := HF_.out
 clear HF_
 by_cases c6 : t197 < 0
 ·rw [if_pos c6] at H
  have c6b0 : decide (t197 < 0) = true := decide_eq_true c6
  clear c6
  (first | rw [c6b0] | (simp only [i64_w, i32_w]; rw [c6b0]) | skip)
  obtain rfl := Option.some.inj H
  simp only [Option.some.injEq, Prod.mk.injEq] at H
  obtain ⟨rfl⟩ := H
  go_wp2
  go_ret
  exact ⟨by first | rfl | (simp [errW_none, errW_some] <;> rfl) | (simp [*, errW_none, errW_some] <;> rfl), pR HB⟩
 ·rw [if_neg c6] at H
  have c6b0 : decide (t197 < 0) = false := decide_eq_false c6
  clear c6
  (first | rw [c6b0] | (simp only [i64_w, i32_w]; rw [c6b0]) | skip)
  replace H := Option.bind_eq_some_iff.mp H
  obtain ⟨⟨t198, t199⟩, A70, H⟩ := H
  replace H : ((spec_SoundParts.f k t198 t199).bind fun bt202 => ((laws_toBolt.f k a0_0 l0_1).bind fun bt206 => ((impl_SoundParts.f k bt206.1 bt206.2).bind fun bt211 => ((laws_eqInt64SS.f k bt211.1 bt202.1).bind fun t215 => (if t215 = true then (laws_FnExactSoundParts.j0 k bt202.1 bt202.2 bt211.1 bt211.2 (bt211.2 != bt202.2) a0_0 l0_1 bt206.1 bt206.2) else (laws_FnExactSoundParts.j0 k bt202.1 bt202.2 bt211.1 bt211.2 true a0_0 l0_1 bt206.1 bt206.2)))))) = some r := H
  have A7 := Aside0.mk A70
  clear A70
  replace H := Option.bind_eq_some_iff.mp H
  obtain ⟨⟨t202, t205⟩, A80, H⟩ := H
  replace H : ((laws_toBolt.f k a0_0 l0_1).bind fun bt206 => ((impl_SoundParts.f k bt206.1 bt206.2).bind fun bt211 => ((laws_eqInt64SS.f k bt211.1 t202).bind fun t215 => (if t215 = true then (laws_FnExactSoundParts.j0 k t202 t205 bt211.1 bt211.2 (bt211.2 != t205) a0_0 l0_1 bt206.1 bt206.2) else (laws_FnExactSoundParts.j0 k t202 t205 bt211.1 bt211.2 true a0_0 l0_1 bt206.1 bt206.2))))) = some r := H
  have A8 := Aside0.mk A80
  clear A80
  replace H := Option.bind_eq_some_iff.mp H
  obtain ⟨⟨t206, t207⟩, A90, H⟩ := H
  replace H : ((impl_SoundParts.f k t206 t207).bind fun bt211 => ((laws_eqInt64SS.f k bt211.1 t202).bind fun t215 => (if t215 = true then (laws_FnExactSoundParts.j0 k t202 t205 bt211.1 bt211.2 (bt211.2 != t205) a0_0 l0_1 t206 t207) else (laws_FnExactSoundParts.j0 k t202 t205 bt211.1 bt211.2 true a0_0 l0_1 t206 t207)))) = some r := H
  have A9 := Aside0.mk A90
  clear A90
  replace H := Option.bind_eq_some_iff.mp H
  obtain ⟨⟨t211, t214⟩, A100, H⟩ := H
  replace H : ((laws_eqInt64SS.f k t211 t202).bind fun t215 => (if t215 = true then (laws_FnExactSoundParts.j0 k t202 t205 t211 t214 (t214 != t205) a0_0 l0_1 t206 t207) else (laws_FnExactSoundParts.j0 k t202 t205 t211 t214 true a0_0 l0_1 t206 t207))) = some r := H
  have A10 := Aside0.mk A100
  clear A100
  have HC11 := Aside0.mk H
  clear H
  obtain ⟨hcz12_0, hcz12_1, hfz12_0, hfz12_1⟩ := cz2 BK196
  go_upto_region 8 with (first | ((with_reducible refine gate_callee (f := 13) rfl ?_); refine goesL_ (some 21) rfl rfl Try.func13 (by kernel_rfl) rfl #[.agg #[.int .i64 a0_0, .slice A0_1 l0_1.length c0_1]] rfl (by (try simp only [List.map_toArray, List.map_cons, List.map_nil]); first | done | rfl | (simp only [List.length_drop, List.length_take]; rfl)) ?_; (with_reducible refine (laws_toBolt.calls k a0_0 _ _ l0_1 t198 t199 _ ?side1 ?side2 A7.out).mono ?_); (case side1 => repeat (first | exact (Kd.C_below HR0_1.out HB.out) | (with_reducible refine Kd.C_alloc ?_ _) | (with_reducible refine Kd.C_drewN ?_ _) | (with_reducible refine Kd.C_drew ?_))); (case side2 => exact HC0_1.out); rintro e w13 ⟨v200, rfl, ho0, hb⟩; refine ⟨_, rfl, ?_⟩; have n0_ := Aside0.mk (Kd.R_lower ho0 (below_size (by repeat (first | (with_reducible first | exact HB.out | apply below_alloc | apply pw_below_drewN | apply below_drew1 | refine below_set ?_ GE196.out) | exact HB.out)))); have n1_ := pB BK196 hb; have n2_ := pS HB hb; clear BK196 HB; have HO201 := n0_; have BK196 := n1_; have HB := n2_; clear n0_ n1_ n2_; (try clear hb); (try clear hb2); (try clear hk); (try clear hi); (try clear ho0); obtain ⟨Ao14, co14, eo14⟩ := Kd.R_slice HO201.out; subst eo14) | ((with_reducible refine gate_callee (f := 12) rfl ?_); refine goesL_ (some 22) rfl rfl Try.func12 (by kernel_rfl) rfl #[.agg #[.int .i64 t198, .slice Ao14 t199.length co14]] rfl (by (try simp only [List.map_toArray, List.map_cons, List.map_nil]); first | done | rfl | (simp only [List.length_drop, List.length_take]; rfl)) ?_; (with_reducible refine (spec_SoundParts.calls k t198 _ _ t199 t202 t205 _ ?side1 ?side2 A8.out).mono ?_); (case side1 => repeat (first | exact (Kd.R_reads' HO201.out).2.2 | (with_reducible refine Kd.C_alloc ?_ _) | (with_reducible refine Kd.C_drewN ?_ _) | (with_reducible refine Kd.C_drew ?_))); (case side2 => exact (Kd.R_reads' HO201.out).2.1); rintro e w15 ⟨v203, rfl, ho0, hb⟩; refine ⟨_, rfl, ?_⟩; have n0_ := Aside0.mk (Kd.R_below (by (with_reducible repeat (first | apply Kd.R_alloc | apply Kd.R_drewN | apply Kd.R_drew)); exact HO201.out) hb); have n1_ := Aside0.mk (Kd.S_lower (Kd.S_new' ho0 (Kd.R_lt (by (with_reducible repeat (first | apply Kd.R_alloc | apply Kd.R_drewN | apply Kd.R_drew)); exact HO201.out))) (below_size (by repeat (first | (with_reducible first | exact HB.out | apply below_alloc | apply pw_below_drewN | apply below_drew1 | refine below_set ?_ GE196.out) | exact HB.out)))); have n2_ := pB BK196 hb; have n3_ := pS HB hb; clear HO201 BK196 HB; have HO201 := n0_; have HO204 := n1_; have BK196 := n2_; have HB := n3_; clear n0_ n1_ n2_ n3_; (try clear hb); (try clear hb2); (try clear hk); (try clear hi); (try clear ho0); obtain ⟨hcz16_0, hcz16_1, hfz16_0, hfz16_1⟩ := cz2 BK196) | ((with_reducible refine gate_callee (f := 13) rfl ?_); refine goesL_ (some 26) rfl rfl Try.func13 (by kernel_rfl) rfl #[.agg #[.int .i64 a0_0, .slice A0_1 l0_1.length c0_1]] rfl (by (try simp only [List.map_toArray, List.map_cons, List.map_nil]); first | done | rfl | (simp only [List.length_drop, List.length_take]; rfl)) ?_; (with_reducible refine (laws_toBolt.calls k a0_0 _ _ l0_1 t206 t207 _ ?side1 ?side2 A9.out).mono ?_); (case side1 => repeat (first | exact (Kd.C_below HR0_1.out HB.out) | (with_reducible refine Kd.C_alloc ?_ _) | (with_reducible refine Kd.C_drewN ?_ _) | (with_reducible refine Kd.C_drew ?_))); (case side2 => exact HC0_1.out); rintro e w17 ⟨v208, rfl, ho0, hb⟩; refine ⟨_, rfl, ?_⟩; have n0_ := Aside0.mk (Kd.R_elder' (by (with_reducible repeat (first | apply Kd.R_alloc | apply Kd.R_drewN | apply Kd.R_drew)); exact HO201.out) (Kd.R_base ho0) hb); have n1_ := Aside0.mk (Kd.S_elder' (by (with_reducible repeat (first | apply Kd.S_alloc | apply Kd.S_drewN | apply Kd.S_drew)); exact HO204.out) (Kd.R_base ho0) hb); have n2_ := Aside0.mk (Kd.R_lower (Kd.R_new' ho0 (Kd.R_lt (by (with_reducible repeat (first | apply Kd.R_alloc | apply Kd.R_drewN | apply Kd.R_drew)); exact HO201.out))) (below_size (by repeat (first | (with_reducible first | exact HB.out | apply below_alloc | apply pw_below_drewN | apply below_drew1 | refine below_set ?_ GE196.out) | exact HB.out)))); have n3_ := pB BK196 hb; have n4_ := pS HB hb; clear HO201 HO204; clear BK196 HB; have HO201 := n0_; have HO204 := n1_; have HO209 := n2_; have BK196 := n3_; have HB := n4_; clear n0_ n1_ n2_ n3_ n4_; (try clear hb); (try clear hb2); (try clear hk); (try clear hi); (try clear ho0)) | ((with_reducible refine gate_dst (N := 6) rfl ?_); refine box_event ?hg (N := 6) ?hd (cs := #[.int .i64 0, .slice none 0 0]) (t := 29) ?hr ?_; (case hd => rfl); (case hg => rfl); (case hr => first | (go_simp; done) | (go_simp; rfl)); intro gb210 hg w18 hbox hb; have n0_ := Aside0.mk (Kd.R_below (by (with_reducible repeat (first | apply Kd.R_alloc | apply Kd.R_drewN | apply Kd.R_drew)); exact HO201.out) hb); have n1_ := Aside0.mk (Kd.S_below (by (with_reducible repeat (first | apply Kd.S_alloc | apply Kd.S_drewN | apply Kd.S_drew)); exact HO204.out) hb); have n2_ := Aside0.mk (Kd.R_below (by (with_reducible repeat (first | apply Kd.R_alloc | apply Kd.R_drewN | apply Kd.R_drew)); exact HO209.out) hb); have n3_ := pB BK196 hb; have n4_ := pS HB hb; have n5_ := Aside0.mk (hbox); have n6_ := pG HB hg; have n7_ := pG HB hg; have n8_ := pN BK196 hg; have n9_ := pM BK196 hg; clear HO201 HO204; clear HO209 BK196 HB; have HO201 := n0_; have HO204 := n1_; have HO209 := n2_; have BK196 := n3_; have HB := n4_; have BK210 := n5_; have GW210 := n6_; have GE210 := n7_; have NB196_210 := n8_; have NB210_196 := n9_; clear n0_ n1_ n2_ n3_ n4_ n5_ n6_ n7_ n8_ n9_; clear hb hbox hg; have hnb19 := NB210_196.out; have hnc19 := NB196_210.out; obtain ⟨hcz20_0, hcz20_1, hfz20_0, hfz20_1⟩ := cz2 BK210; obtain ⟨Ao21, co21, eo21⟩ := Kd.R_slice HO209.out; subst eo21) | ((with_reducible refine gate_callee (f := 14) rfl ?_); refine goesL_ (some 29) rfl rfl Try.func14 (by kernel_rfl) rfl #[.agg #[.int .i64 t206, .slice Ao21 t207.length co21]] rfl (by (try simp only [List.map_toArray, List.map_cons, List.map_nil]); first | done | rfl | (simp only [List.length_drop, List.length_take]; rfl)) ?_; obtain ⟨N23, hN23⟩ : ∃ N_ : Nat, N_ = w18.heap.size := ⟨_, rfl⟩; have n0_ := Aside0.mk (S_ltN HO204.out hN23); clear HO204; have HO204 := n0_; clear n0_; (with_reducible refine (impl_SoundParts.calls k t206 _ _ t207 t211 t214 _ ?side1 ?side2 A10.out).mono ?_); (case side1 => refine (Kd.R_reads' (e := 2) (base := w.heap.size) (ok := fun k_ => (True ∧ some k_ ≠ (.slice Ao14 t199.length co14 : Value).ownBlock)) (n := t207.length) (c := co21) ?_).2.2; exact (by (with_reducible repeat (first | apply Kd.R_alloc | apply Kd.R_drewN | apply Kd.R_drew)); exact (Kd.R_mono (Kd.R_far (p := ⟨gb210, 1, none⟩) (Kd.R_far (p := ⟨gb210, 0, none⟩) (Kd.R_types HO209.out BK210.out (by decide)) (fun _ hk => hk.2) (.int .i64 t206)) (fun _ hk => hk.2) (.slice Ao21 t207.length co21)) (fun _ h_ => h_.1)))); (case side2 => exact (Kd.R_reads' HO209.out).2.1); rintro e w22 ⟨v212, rfl, ho0, hb⟩; refine ⟨_, rfl, ?_⟩; have n0_ := Aside0.mk (Kd.R_below (by (with_reducible repeat (first | apply Kd.R_alloc | apply Kd.R_drewN | apply Kd.R_drew)); exact (Kd.R_mono (Kd.R_far (p := ⟨gb210, 1, none⟩) (Kd.R_far (p := ⟨gb210, 0, none⟩) (Kd.R_types HO201.out BK210.out (by decide)) (fun _ hk => hk.2) (.int .i64 t206)) (fun _ hk => hk.2) (.slice Ao21 t207.length co21)) (fun _ h_ => h_.1))) hb); have n1_ := Aside0.mk (Kd.S_elder' (by (with_reducible repeat (first | apply Kd.S_alloc | apply Kd.S_drewN | apply Kd.S_drew)); exact (Kd.S_mono (Kd.S_far (p := ⟨gb210, 1, none⟩) (Kd.S_far (p := ⟨gb210, 0, none⟩) (Kd.S_types HO204.out BK210.out (by decide)) (fun _ hk => hk.2) (.int .i64 t206)) (fun _ hk => hk.2) (.slice Ao21 t207.length co21)) (fun _ h_ => h_.1))) (Kd.S_base ho0) hb); have n2_ := Aside0.mk (Kd.R_below (by (with_reducible repeat (first | apply Kd.R_alloc | apply Kd.R_drewN | apply Kd.R_drew)); exact (Kd.R_mono (Kd.R_far (p := ⟨gb210, 1, none⟩) (Kd.R_far (p := ⟨gb210, 0, none⟩) (Kd.R_types HO209.out BK210.out (by decide)) (fun _ hk => hk.2) (.int .i64 t206)) (fun _ hk => hk.2) (.slice Ao21 t207.length co21)) (fun _ h_ => h_.1))) hb); have n3_ := Aside0.mk (Kd.S_lower (S_geN (N := N23) (Kd.S_new' (Kd.S_new' (Kd.S_new' ho0 (Kd.R_lt (by (with_reducible repeat (first | apply Kd.R_alloc | apply Kd.R_drewN | apply Kd.R_drew)); exact (Kd.R_mono (Kd.R_far (p := ⟨gb210, 1, none⟩) (Kd.R_far (p := ⟨gb210, 0, none⟩) (Kd.R_types HO201.out BK210.out (by decide)) (fun _ hk => hk.2) (.int .i64 t206)) (fun _ hk => hk.2) (.slice Ao21 t207.length co21)) (fun _ h_ => h_.1))))) (Kd.S_lt (by (with_reducible repeat (first | apply Kd.S_alloc | apply Kd.S_drewN | apply Kd.S_drew)); exact (Kd.S_mono (Kd.S_far (p := ⟨gb210, 1, none⟩) (Kd.S_far (p := ⟨gb210, 0, none⟩) (Kd.S_types HO204.out BK210.out (by decide)) (fun _ hk => hk.2) (.int .i64 t206)) (fun _ hk => hk.2) (.slice Ao21 t207.length co21)) (fun _ h_ => h_.1))))) (Kd.R_lt (by (with_reducible repeat (first | apply Kd.R_alloc | apply Kd.R_drewN | apply Kd.R_drew)); exact (Kd.R_mono (Kd.R_far (p := ⟨gb210, 1, none⟩) (Kd.R_far (p := ⟨gb210, 0, none⟩) (Kd.R_types HO209.out BK210.out (by decide)) (fun _ hk => hk.2) (.int .i64 t206)) (fun _ hk => hk.2) (.slice Ao21 t207.length co21)) (fun _ h_ => h_.1))))) (by rw [hN23]; (try simp only [sz_set, sz_drewN, sz_drew]); first | exact Nat.le_refl _ | exact below_size (by repeat (first | exact Below.refl _ _ | apply below_alloc | apply pw_below_drewN | apply below_drew1)))) (below_size (by repeat (first | (with_reducible first | exact HB.out | apply below_alloc | apply pw_below_drewN | apply below_drew1 | refine below_set ?_ GE196.out | refine below_set ?_ GE210.out) | exact HB.out)))); have n4_ := Aside0.mk (blk_below (g := gb196) (o := .cells #[.int .i64 a0_0, .slice A0_1 l0_1.length c0_1] 24 (0, 0)) (by (with_reducible repeat (first | refine blk_drewN ?_ _ | refine blk_drew ?_ | refine blk_alloc ?_ _)); refine blk_far ?_ NB196_210.out _; (with_reducible repeat (first | refine blk_drewN ?_ _ | refine blk_drew ?_ | refine blk_alloc ?_ _)); refine blk_far ?_ NB196_210.out _; (with_reducible repeat (first | refine blk_drewN ?_ _ | refine blk_drew ?_ | refine blk_alloc ?_ _)); exact BK196.out) hb); have n5_ := Aside0.mk (blk_below (g := gb210) (o := .cells #[.int .i64 t206, .slice Ao21 t207.length co21] 29 (0, 0)) (by (with_reducible repeat (first | refine blk_drewN ?_ _ | refine blk_drew ?_ | refine blk_alloc ?_ _)); refine blk_put (cs := #[.int .i64 t206, .slice none 0 0]) ?_ 1 _ rfl; (with_reducible repeat (first | refine blk_drewN ?_ _ | refine blk_drew ?_ | refine blk_alloc ?_ _)); refine blk_put (cs := #[.int .i64 0, .slice none 0 0]) ?_ 0 _ rfl; (with_reducible repeat (first | refine blk_drewN ?_ _ | refine blk_drew ?_ | refine blk_alloc ?_ _)); exact BK210.out) hb); have n6_ := pS HB hb; clear HO201 HO204; clear HO209 BK196; clear BK210 HB; have HO201 := n0_; have HO204 := n1_; have HO209 := n2_; have HO213 := n3_; have BK196 := n4_; have BK210 := n5_; have HB := n6_; clear n0_ n1_ n2_ n3_ n4_ n5_ n6_; (try clear hb); (try clear hb2); (try clear hk); (try clear hi); (try clear ho0); (try clear hN23)))
  (try simp only [Act.put, List.setIfInBounds_toArray, List.set_cons_zero, List.set_cons_succ])
  go_cut [40] (fun v40 wc => ∃ (kq : Nat) (x40_10 : Bool), v40 = .bool x40_10 ∧ Aside0 (laws_FnExactSoundParts.j0 kq t202 t205 t211 t214 x40_10 a0_0 l0_1 t206 t207 = some r) ∧ Aside0 (kq ≤ k) ∧ Aside0 (Kd.S (Kd.slice 2 (Kd.int .i64)) 22 wc w.heap.size (fun k_ => some k_ ≠ (v212 : Value).ownBlock ∧ some k_ ≠ ((.slice Ao21 t207.length co21) : Value).ownBlock ∧ k_ ≠ (ltN N23 k_)) v203 t202) ∧ Aside0 (Kd.S (Kd.slice 2 (Kd.int .i64)) 22 wc w.heap.size (fun k_ => some k_ ≠ (v203 : Value).ownBlock ∧ some k_ ≠ ((.slice Ao21 t207.length co21) : Value).ownBlock ∧ k_ ≠ (geN N23 k_)) v212 t211) ∧ Aside0 (Kd.R (Kd.int .i64) 2 wc w.heap.size (fun _ => True) (.slice Ao21 t207.length co21) t207) ∧ Aside0 (wc.heap[gb196]? = some (.cells #[.int .i64 a0_0, (.slice A0_1 l0_1.length c0_1)] 24 (0, 0))) ∧ Aside0 (wc.heap[gb210]? = some (.cells #[.int .i64 t206, (.slice Ao21 t207.length co21)] 29 (0, 0))) ∧ Aside0 (Below w.heap.size w wc))
  case first =>
   have H := HC11.out
   clear HC11
   replace H := Option.bind_eq_some_iff.mp H
   obtain ⟨t215, A240, H⟩ := H
   replace H : (if t215 = true then (laws_FnExactSoundParts.j0 k t202 t205 t211 t214 (t214 != t205) a0_0 l0_1 t206 t207) else (laws_FnExactSoundParts.j0 k t202 t205 t211 t214 true a0_0 l0_1 t206 t207)) = some r := H
   have A24 := Aside0.mk A240
   clear A240
   by_cases c25 : t215 = true
   ·subst c25
    have H1 : (laws_FnExactSoundParts.j0 k t202 t205 t211 t214 (t214 != t205) a0_0 l0_1 t206 t207) = some r := by rw [if_pos rfl] at H; exact H
    clear H
    have H := H1
    clear H1
    have H' := Aside0.mk H
    clear H
    obtain ⟨Ao26, co26, eo26⟩ := Kd.S_slice HO213.out
    subst eo26
    obtain ⟨Ao27, co27, eo27⟩ := Kd.S_slice HO204.out
    subst eo27
    go_wp2_with (first | ((with_reducible refine gate_callee (f := 15) rfl ?_); refine goesL_ (some 34) rfl rfl Try.func15 (by kernel_rfl) rfl #[.slice Ao26 t211.length co26, .slice Ao27 t202.length co27] rfl (by (try simp only [List.map_toArray, List.map_cons, List.map_nil]); first | done | rfl | (simp only [List.length_drop, List.length_take]; rfl)) ?_; (with_reducible refine (laws_eqInt64SS.calls k _ _ t211 _ _ t202 true _ ?side1 ?side2 ?side3 ?side4 A24.out).mono ?_); (case side1 => repeat (first | exact (Kd.S_reads' HO213.out).2.2 | (with_reducible refine Kd.C_alloc ?_ _) | (with_reducible refine Kd.C_drewN ?_ _) | (with_reducible refine Kd.C_drew ?_))); (case side2 => exact (Kd.S_reads' HO213.out).2.1); (case side3 => repeat (first | exact (Kd.S_reads' HO204.out).2.2 | (with_reducible refine Kd.C_alloc ?_ _) | (with_reducible refine Kd.C_drewN ?_ _) | (with_reducible refine Kd.C_drew ?_))); (case side4 => exact (Kd.S_reads' HO204.out).2.1); rintro e w' ⟨rfl, ⟨nd, rfl⟩⟩; refine ⟨_, rfl, ?_⟩))
    go_meet
    case rel => exact ⟨_, ((t214 != t205)), (by first | rfl | (simp; done) | (simp [*]; done)), H', ⟨by first | omega | exact Nat.le_refl _⟩, ⟨by (with_reducible repeat (first | apply Kd.S_alloc | apply Kd.S_drewN | apply Kd.S_drew)); exact Kd.S_mono HO204.out (fun _ hk => ⟨hk.2, ⟨hk.1.1.2, hk.1.2⟩⟩)⟩, ⟨by (with_reducible repeat (first | apply Kd.S_alloc | apply Kd.S_drewN | apply Kd.S_drew)); exact Kd.S_mono HO213.out (fun _ hk => ⟨hk.1.1.2, ⟨hk.1.2, hk.2⟩⟩)⟩, ⟨by (with_reducible repeat (first | apply Kd.R_alloc | apply Kd.R_drewN | apply Kd.R_drew)); exact Kd.R_mono HO209.out (fun _ hk => trivial)⟩, ⟨by (with_reducible repeat (first | refine blk_drewN ?_ _ | refine blk_drew ?_ | refine blk_alloc ?_ _)); exact BK196.out⟩, ⟨by (with_reducible repeat (first | refine blk_drewN ?_ _ | refine blk_drew ?_ | refine blk_alloc ?_ _)); exact BK210.out⟩, ⟨by repeat (first | (with_reducible first | exact HB.out | apply below_alloc | apply pw_below_drewN | apply below_drew1 | refine below_set ?_ GE196.out | refine below_set ?_ GE210.out) | exact HB.out)⟩⟩
   ·replace c25 := Bool.eq_false_iff.mpr c25
    subst c25
    have H1 : (laws_FnExactSoundParts.j0 k t202 t205 t211 t214 true a0_0 l0_1 t206 t207) = some r := by rw [if_neg (show ¬ (false = true) by decide)] at H; exact H
    clear H
    have H := H1
    clear H1
    have H' := Aside0.mk H
    clear H
    obtain ⟨Ao28, co28, eo28⟩ := Kd.S_slice HO213.out
    subst eo28
    obtain ⟨Ao29, co29, eo29⟩ := Kd.S_slice HO204.out
    subst eo29
    go_wp2_with (first | ((with_reducible refine gate_callee (f := 15) rfl ?_); refine goesL_ (some 34) rfl rfl Try.func15 (by kernel_rfl) rfl #[.slice Ao28 t211.length co28, .slice Ao29 t202.length co29] rfl (by (try simp only [List.map_toArray, List.map_cons, List.map_nil]); first | done | rfl | (simp only [List.length_drop, List.length_take]; rfl)) ?_; (with_reducible refine (laws_eqInt64SS.calls k _ _ t211 _ _ t202 false _ ?side1 ?side2 ?side3 ?side4 A24.out).mono ?_); (case side1 => repeat (first | exact (Kd.S_reads' HO213.out).2.2 | (with_reducible refine Kd.C_alloc ?_ _) | (with_reducible refine Kd.C_drewN ?_ _) | (with_reducible refine Kd.C_drew ?_))); (case side2 => exact (Kd.S_reads' HO213.out).2.1); (case side3 => repeat (first | exact (Kd.S_reads' HO204.out).2.2 | (with_reducible refine Kd.C_alloc ?_ _) | (with_reducible refine Kd.C_drewN ?_ _) | (with_reducible refine Kd.C_drew ?_))); (case side4 => exact (Kd.S_reads' HO204.out).2.1); rintro e w' ⟨rfl, ⟨nd, rfl⟩⟩; refine ⟨_, rfl, ?_⟩))
    go_meet
    case rel => exact ⟨_, (true), (by first | rfl | (simp; done) | (simp [*]; done)), H', ⟨by first | omega | exact Nat.le_refl _⟩, ⟨by (with_reducible repeat (first | apply Kd.S_alloc | apply Kd.S_drewN | apply Kd.S_drew)); exact Kd.S_mono HO204.out (fun _ hk => ⟨hk.2, ⟨hk.1.1.2, hk.1.2⟩⟩)⟩, ⟨by (with_reducible repeat (first | apply Kd.S_alloc | apply Kd.S_drewN | apply Kd.S_drew)); exact Kd.S_mono HO213.out (fun _ hk => ⟨hk.1.1.2, ⟨hk.1.2, hk.2⟩⟩)⟩, ⟨by (with_reducible repeat (first | apply Kd.R_alloc | apply Kd.R_drewN | apply Kd.R_drew)); exact Kd.R_mono HO209.out (fun _ hk => trivial)⟩, ⟨by (with_reducible repeat (first | refine blk_drewN ?_ _ | refine blk_drew ?_ | refine blk_alloc ?_ _)); exact BK196.out⟩, ⟨by (with_reducible repeat (first | refine blk_drewN ?_ _ | refine blk_drew ?_ | refine blk_alloc ?_ _)); exact BK210.out⟩, ⟨by repeat (first | (with_reducible first | exact HB.out | apply below_alloc | apply pw_below_drewN | apply below_drew1 | refine below_set ?_ GE196.out | refine below_set ?_ GE210.out) | exact HB.out)⟩⟩
  case rest =>
   clear HC11
   try clear c1
   try clear c2
   try clear p2
   try clear c3
   try clear c6
   try clear c6b0
   try clear c11
   try clear c12
   try clear c13
   try clear c14
   try clear c15
   try clear c19
   try clear c25
   try clear hcz12_0
   try clear hcz12_1
   try clear hcz16_0
   try clear hcz16_1
   try clear hcz20_0
   try clear hcz20_1
   try clear hcz4_0
   try clear hcz4_1
   try clear hfz12_0
   try clear hfz12_1
   try clear hfz16_0
   try clear hfz16_1
   try clear hfz20_0
   try clear hfz20_1
   try clear hfz4_0
   try clear hfz4_1
   obtain ⟨kq, x40_10, rfl, HA, HJ10, HO_4, HO_7, HO_211001, BK196, BK210, HB⟩ := hcut
   cases kq with
   | zero => exact absurd HA.out (by simp [laws_FnExactSoundParts.j0])
   | succ kj10 =>
    have H := HA.out
    clear HA
    simp only [laws_FnExactSoundParts.j0] at H
    by_cases c30 : x40_10 = true
    ·subst c30
     have H1 : (some false) = some r := by rw [if_pos rfl] at H; exact H
     clear H
     have H := H1
     clear H1
     obtain rfl := Option.some.inj H
     exact absurd HRT.out (by decide)
    ·replace c30 := Bool.eq_false_iff.mpr c30
     subst c30
     have H1 : ((laws_toBolt.f kj10 a0_0 l0_1).bind fun bt216 => ((laws_eqBolt.f kj10 t206 t207 bt216.1 bt216.2).bind fun t220 => (if t220 = true then ((laws_markBolt.f kj10 t206 t207 1).bind fun bt221 => (if bt221.1 < 0 then (laws_FnExactSoundParts.j1 kj10 t202 t205 t211 true a0_0 l0_1) else ((laws_eqInt64SS.f kj10 t211 t202).bind fun t223 => (if t223 = true then (laws_FnExactSoundParts.j1 kj10 t202 t205 t211 (t214 != t205) a0_0 l0_1) else (laws_FnExactSoundParts.j1 kj10 t202 t205 t211 true a0_0 l0_1))))) else (some false)))) = some r := by rw [if_neg (show ¬ (false = true) by decide)] at H; exact H
     clear H
     have H := H1
     clear H1
     replace H := Option.bind_eq_some_iff.mp H
     obtain ⟨⟨t216, t217⟩, A310, H⟩ := H
     replace H : ((laws_eqBolt.f kj10 t206 t207 t216 t217).bind fun t220 => (if t220 = true then ((laws_markBolt.f kj10 t206 t207 1).bind fun bt221 => (if bt221.1 < 0 then (laws_FnExactSoundParts.j1 kj10 t202 t205 t211 true a0_0 l0_1) else ((laws_eqInt64SS.f kj10 t211 t202).bind fun t223 => (if t223 = true then (laws_FnExactSoundParts.j1 kj10 t202 t205 t211 (t214 != t205) a0_0 l0_1) else (laws_FnExactSoundParts.j1 kj10 t202 t205 t211 true a0_0 l0_1))))) else (some false))) = some r := H
     have A31 := Aside0.mk A310
     clear A310
     replace H := Option.bind_eq_some_iff.mp H
     obtain ⟨t220, A320, H⟩ := H
     replace H : (if t220 = true then ((laws_markBolt.f kj10 t206 t207 1).bind fun bt221 => (if bt221.1 < 0 then (laws_FnExactSoundParts.j1 kj10 t202 t205 t211 true a0_0 l0_1) else ((laws_eqInt64SS.f kj10 t211 t202).bind fun t223 => (if t223 = true then (laws_FnExactSoundParts.j1 kj10 t202 t205 t211 (t214 != t205) a0_0 l0_1) else (laws_FnExactSoundParts.j1 kj10 t202 t205 t211 true a0_0 l0_1))))) else (some false)) = some r := H
     have A32 := Aside0.mk A320
     clear A320
     by_cases c33 : t220 = true
     ·subst c33
      have H1 : ((laws_markBolt.f kj10 t206 t207 1).bind fun bt221 => (if bt221.1 < 0 then (laws_FnExactSoundParts.j1 kj10 t202 t205 t211 true a0_0 l0_1) else ((laws_eqInt64SS.f kj10 t211 t202).bind fun t223 => (if t223 = true then (laws_FnExactSoundParts.j1 kj10 t202 t205 t211 (t214 != t205) a0_0 l0_1) else (laws_FnExactSoundParts.j1 kj10 t202 t205 t211 true a0_0 l0_1))))) = some r := by rw [if_pos rfl] at H; exact H
      clear H
      have H := H1
      clear H1
      replace H := Option.bind_eq_some_iff.mp H
      obtain ⟨⟨t221, t222⟩, A340, H⟩ := H
      replace H : (if t221 < 0 then (laws_FnExactSoundParts.j1 kj10 t202 t205 t211 true a0_0 l0_1) else ((laws_eqInt64SS.f kj10 t211 t202).bind fun t223 => (if t223 = true then (laws_FnExactSoundParts.j1 kj10 t202 t205 t211 (t214 != t205) a0_0 l0_1) else (laws_FnExactSoundParts.j1 kj10 t202 t205 t211 true a0_0 l0_1)))) = some r := H
      have A34 := Aside0.mk A340
      clear A340
      have HC35 := Aside0.mk H
      clear H
      try go_wp2
      have n0_ := Aside0.mk (Kd.S_drew HO_4.out)
      have n1_ := Aside0.mk (Kd.S_drew HO_7.out)
      have n2_ := Aside0.mk (Kd.R_drew HO_211001.out)
      have n3_ := Aside0.mk (blk_drew BK196.out)
      have n4_ := Aside0.mk (blk_drew BK210.out)
      have n5_ := Aside0.mk (below_drew1 HB.out)
      clear HO_4
      clear HO_7
      clear HO_211001
      clear BK196
      clear BK210
      clear HB
      have HO_4 := n0_
      have HO_7 := n1_
      have HO_211001 := n2_
      have BK196 := n3_
      have BK210 := n4_
      have HB := n5_
      clear n0_ n1_ n2_ n3_ n4_ n5_
      refine start_ (n := 5) (S := fun w' => w'.cell? ⟨gb210, 0, none⟩ = some (.int .i64 t206) ∧ w'.cell? ⟨gb210, 1, none⟩ = some (.slice Ao21 t207.length co21) ∧ w'.cell? ⟨gb196, 0, none⟩ = some (.int .i64 a0_0) ∧ w'.cell? ⟨gb196, 1, none⟩ = some (.slice A0_1 l0_1.length c0_1)) (ds := []) #[F,F,F,F,F] (by kernel_rfl) rfl rfl ⟨(blk_cell BK210.out 0).trans rfl, (blk_cell BK210.out 1).trans rfl, (blk_cell BK196.out 0).trans rfl, (blk_cell BK196.out 1).trans rfl⟩ (fun hHeld => ?_)
      generalize wc.drew = w36 at HO_4 HO_7 HO_211001 BK196 BK210 HB hHeld ⊢
      refine take_ (i := 0) (N := some 41) (v := ?_) (a' := ?_) #[T,F,F,F,F] rfl rfl (by kernel_rfl) (fun _ _ _ h => h) (Or.inl ⟨by rfl, ?_⟩) hHeld ?_ ?_
      rotate_left
      ·rintro w' ⟨s0, s1, s2, s3⟩
       go_simp
       with_reducible rfl
      rotate_left
      ·simp only [NS]
       rfl
      refine take_ (i := 1) (N := some 42) (v := ?_) (a' := ?_) #[T,T,F,F,F] rfl rfl (by kernel_rfl) (fun _ _ _ h => h) (Or.inl ⟨by rfl, ?_⟩) hHeld ?_ ?_
      rotate_left
      ·rintro w' ⟨s0, s1, s2, s3⟩
       go_simp
       with_reducible rfl
      rotate_left
      ·simp only [NS]
       rfl
      refine one_ (i := 2) (N := some 43) #[T,T,T,F,F] rfl rfl (by kernel_rfl) (by decide) (fun K hK => ?_)
      refine goes_ Try.func13 (by kernel_rfl) rfl #[.agg #[.int .i64 a0_0, .slice A0_1 l0_1.length c0_1]] (by rfl) rfl rfl (by (try simp only [List.map_toArray, List.map_cons, List.map_nil]); first | done | rfl | (simp only [List.length_drop, List.length_take]; rfl)) ?_
      with_reducible refine (laws_toBolt.calls kj10 a0_0 _ _ l0_1 t216 t217 _ ?side1 ?side2 A31.out).mono ?_
      (case side1 => repeat (first | exact (Kd.C_below HR0_1.out HB.out) | (with_reducible refine Kd.C_alloc ?_ _) | (with_reducible refine Kd.C_drewN ?_ _) | (with_reducible refine Kd.C_drew ?_)))
      (case side2 => exact HC0_1.out)
      rintro e w37 ⟨v218, rfl, ho0, hb⟩
      refine ⟨_, rfl, ?_⟩
      have n0_ := Aside0.mk (Kd.S_elder' (by (with_reducible repeat (first | apply Kd.S_alloc | apply Kd.S_drewN | apply Kd.S_drew)); exact HO_4.out) (Kd.R_base ho0) hb)
      have n1_ := Aside0.mk (Kd.S_elder' (by (with_reducible repeat (first | apply Kd.S_alloc | apply Kd.S_drewN | apply Kd.S_drew)); exact HO_7.out) (Kd.R_base ho0) hb)
      have n2_ := Aside0.mk (Kd.R_elder' (by (with_reducible repeat (first | apply Kd.R_alloc | apply Kd.R_drewN | apply Kd.R_drew)); exact HO_211001.out) (Kd.R_base ho0) hb)
      have n3_ := Aside0.mk (Kd.R_lower (Kd.R_new' ho0 (Kd.R_lt (by (with_reducible repeat (first | apply Kd.R_alloc | apply Kd.R_drewN | apply Kd.R_drew)); exact HO_211001.out))) (below_size (by repeat (first | (with_reducible first | exact HB.out | apply below_alloc | apply pw_below_drewN | apply below_drew1 | refine below_set ?_ GE196.out | refine below_set ?_ GE210.out) | exact HB.out))))
      have n4_ := pB BK196 hb
      have n5_ := pB BK210 hb
      have n6_ := pS HB hb
      clear HO_4
      clear HO_7
      clear HO_211001
      clear BK196
      clear BK210
      clear HB
      have HO_4 := n0_
      have HO_7 := n1_
      have HO_211001 := n2_
      have HO219 := n3_
      have BK196 := n4_
      have BK210 := n5_
      have HB := n6_
      clear n0_ n1_ n2_ n3_ n4_ n5_ n6_
      (try clear hb)
      (try clear hb2)
      (try clear hk)
      (try clear hi)
      (try clear ho0)
      obtain ⟨Ao38, co38, eo38⟩ := Kd.R_slice HO219.out
      (first | subst eo38 | (injection eo38 with f1_ f2_ f3_; have f4_ := f1_.symm; have f5_ := f3_.symm; clear f1_ f2_ f3_; subst f4_; subst f5_))
      refine hK.out _ _ ⟨(blk_cell BK210.out 0).trans rfl, (blk_cell BK210.out 1).trans rfl, (blk_cell BK196.out 0).trans rfl, (blk_cell BK196.out 1).trans rfl⟩ (fun hHeld => ?_)
      clear hK K
      refine norm_ (a' := ?_) ?_ ?_
      rotate_left
      ·show Act.put _ (some 43) _ = _
       simp only [NS]
       rfl
      refine one_ (i := 3) (N := some 44) #[T,T,T,T,F] rfl rfl (by kernel_rfl) (by decide) (fun K hK => ?_)
      refine goes_ Try.func16 (by kernel_rfl) rfl #[.agg #[.int .i64 t206, .slice Ao21 t207.length co21], .agg #[.int .i64 t216, .slice Ao38 t217.length co38]] (by rfl) rfl rfl (by (try simp only [List.map_toArray, List.map_cons, List.map_nil]); first | done | rfl | (simp only [List.length_drop, List.length_take]; rfl)) ?_
      with_reducible refine (laws_eqBolt.calls kj10 t206 _ _ t207 t216 _ _ t217 true _ ?side1 ?side2 ?side3 ?side4 A32.out).mono ?_
      (case side1 => repeat (first | exact (Kd.R_reads' HO_211001.out).2.2 | (with_reducible refine Kd.C_alloc ?_ _) | (with_reducible refine Kd.C_drewN ?_ _) | (with_reducible refine Kd.C_drew ?_)))
      (case side2 => exact (Kd.R_reads' HO_211001.out).2.1)
      (case side3 => repeat (first | exact (Kd.R_reads' HO219.out).2.2 | (with_reducible refine Kd.C_alloc ?_ _) | (with_reducible refine Kd.C_drewN ?_ _) | (with_reducible refine Kd.C_drew ?_)))
      (case side4 => exact (Kd.R_reads' HO219.out).2.1)
      rintro e w39 ⟨rfl, hb⟩
      refine ⟨_, rfl, ?_⟩
      have n0_ := Aside0.mk (Kd.S_below (by (with_reducible repeat (first | apply Kd.S_alloc | apply Kd.S_drewN | apply Kd.S_drew)); exact HO_4.out) hb)
      have n1_ := Aside0.mk (Kd.S_below (by (with_reducible repeat (first | apply Kd.S_alloc | apply Kd.S_drewN | apply Kd.S_drew)); exact HO_7.out) hb)
      have n2_ := Aside0.mk (Kd.R_below (by (with_reducible repeat (first | apply Kd.R_alloc | apply Kd.R_drewN | apply Kd.R_drew)); exact HO_211001.out) hb)
      have n3_ := Aside0.mk (Kd.R_below (by (with_reducible repeat (first | apply Kd.R_alloc | apply Kd.R_drewN | apply Kd.R_drew)); exact HO219.out) hb)
      have n4_ := pB BK196 hb
      have n5_ := pB BK210 hb
      have n6_ := pS HB hb
      clear HO_4
      clear HO_7
      clear HO_211001
      clear HO219
      clear BK196
      clear BK210
      clear HB
      have HO_4 := n0_
      have HO_7 := n1_
      have HO_211001 := n2_
      have HO219 := n3_
      have BK196 := n4_
      have BK210 := n5_
      have HB := n6_
      clear n0_ n1_ n2_ n3_ n4_ n5_ n6_
      (try clear hb)
      (try clear hb2)
      (try clear hk)
      (try clear hi)
      refine hK.out _ _ ⟨(blk_cell BK210.out 0).trans rfl, (blk_cell BK210.out 1).trans rfl, (blk_cell BK196.out 0).trans rfl, (blk_cell BK196.out 1).trans rfl⟩ (fun hHeld => ?_)
      clear hK K
      refine norm_ (a' := ?_) ?_ ?_
      rotate_left
      ·show Act.put _ (some 44) _ = _
       simp only [NS]
       rfl
      refine pure_ (i := 4) (N := some 45) (v := ?_) (a' := ?_) #[T,T,T,T,T] rfl rfl (by kernel_rfl) (fun _ _ _ h => h) (Or.inl ⟨by rfl, ?_⟩) ?_ ?_
      rotate_left
      ·intro w'
       go_simp
       with_reducible rfl
      rotate_left
      ·simp only [NS]
       rfl
      refine done_ (by kernel_rfl) ?_
      have hnb40 := NB210_196.out
      have hnc40 := NB196_210.out
      obtain ⟨hcz41_0, hcz41_1, hfz41_0, hfz41_1⟩ := cz2 BK210
      go_upto_region 14 with (first | ((with_reducible refine gate_callee (f := 17) rfl ?_); refine goesL_ (some 48) rfl rfl Try.func17 (by kernel_rfl) rfl #[.agg #[.int .i64 t206, .slice Ao21 t207.length co21], .int .i64 1] rfl (by (try simp only [List.map_toArray, List.map_cons, List.map_nil]); first | done | rfl | (simp only [List.length_drop, List.length_take]; rfl)) ?_; (with_reducible refine (laws_markBolt.calls kj10 t206 (fun k_ => some k_ = (.slice Ao21 t207.length co21 : Value).ownBlock) (.slice Ao21 t207.length co21) t207 1 t221 t222 w _ ?side1 ?side2 A34.out).mono ?_); (case side1 => repeat (first | (with_reducible first | exact HB.out | apply below_alloc | apply pw_below_drewN | apply below_drew1 | refine below_set ?_ GE196.out | refine below_set ?_ GE210.out) | exact HB.out)); (case side2 => exact Kd.R_tight rfl HO_211001.out); rintro e w42 ⟨rfl, hy0, hb, hkp⟩; refine ⟨_, rfl, ?_⟩; have n0_ := Aside0.mk (Kd.S_mono (ok' := fun k_ => some k_ ≠ (v212 : Value).ownBlock ∧ some k_ ≠ (.slice Ao21 t207.length co21 : Value).ownBlock ∧ some k_ ≠ (.slice Ao38 t217.length co38 : Value).ownBlock ∧ k_ ≠ (ltN N23 k_)) (Kd.S_keptB (HO_4.out) hkp (fun k_ hk_ hs_ => (hk_.1.2.1) hs_)) (fun k_ hk_ => ⟨hk_.1.1.1, hk_.1.1.2.1, hk_.1.2, hk_.1.1.2.2⟩)); have n1_ := Aside0.mk (Kd.S_mono (ok' := fun k_ => some k_ ≠ (v203 : Value).ownBlock ∧ some k_ ≠ (.slice Ao21 t207.length co21 : Value).ownBlock ∧ some k_ ≠ (.slice Ao38 t217.length co38 : Value).ownBlock ∧ k_ ≠ (geN N23 k_)) (Kd.S_keptB (HO_7.out) hkp (fun k_ hk_ hs_ => (hk_.1.2.1) hs_)) (fun k_ hk_ => ⟨hk_.1.1.1, hk_.1.1.2.1, hk_.1.2, hk_.1.1.2.2⟩)); have n2_ := Aside0.mk (Kd.R_reok rfl hy0 (fun k_ e_ => HO_211001.out.1 k_ e_)); have n3_ := Aside0.mk (blk_kept (by (with_reducible repeat (first | refine blk_drewN ?_ _ | refine blk_drew ?_ | refine blk_alloc ?_ _)); exact BK196.out) hkp (fun hs_ => (fun e_ => (Kd.R_ne HO_211001.out BK196.out (by decide)) e_) hs_)); have n4_ := Aside0.mk (blk_kept (by (with_reducible repeat (first | refine blk_drewN ?_ _ | refine blk_drew ?_ | refine blk_alloc ?_ _)); exact BK210.out) hkp (fun hs_ => (fun e_ => (Kd.R_ne HO_211001.out BK210.out (by decide)) e_) hs_)); have n5_ := Aside0.mk (Kd.R_mono (ok' := fun k_ => some k_ ≠ (.slice Ao21 t207.length co21 : Value).ownBlock) (Kd.R_keptB (HO219.out) hkp (fun k_ hk_ hs_ => (hk_.2) hs_)) (fun k_ hk_ => hk_.1.2)); have n6_ := Aside0.mk (hb); clear HO_4 HO_7; clear HO_211001 BK196; clear BK210 HO219 HB; have HO_4 := n0_; have HO_7 := n1_; have HO_211001 := n2_; have BK196 := n3_; have BK210 := n4_; have HO219 := n5_; have HB := n6_; clear n0_ n1_ n2_ n3_ n4_ n5_ n6_; (try clear hb); (try clear hkp); (try clear hy0)))
      (try simp only [Act.put, List.setIfInBounds_toArray, List.set_cons_zero, List.set_cons_succ])
      go_cut [61] (fun v61 wc => ∃ (kq : Nat) (x61_34 : Bool), v61 = .bool x61_34 ∧ Aside0 (laws_FnExactSoundParts.j1 kq t202 t205 t211 x61_34 a0_0 l0_1 = some r) ∧ Aside0 (kq ≤ kj10) ∧ Aside0 (Kd.S (Kd.slice 2 (Kd.int .i64)) 22 wc w.heap.size (fun k_ => some k_ ≠ (v212 : Value).ownBlock ∧ some k_ ≠ ((.slice Ao21 t207.length co21) : Value).ownBlock ∧ k_ ≠ (ltN N23 k_)) v203 t202) ∧ Aside0 (Kd.S (Kd.slice 2 (Kd.int .i64)) 22 wc w.heap.size (fun k_ => some k_ ≠ (v203 : Value).ownBlock ∧ some k_ ≠ ((.slice Ao21 t207.length co21) : Value).ownBlock ∧ k_ ≠ (geN N23 k_)) v212 t211) ∧ Aside0 (Kd.R (Kd.int .i64) 2 wc w.heap.size (fun _ => True) (.slice Ao21 t207.length co21) t222) ∧ Aside0 (wc.heap[gb196]? = some (.cells #[.int .i64 a0_0, (.slice A0_1 l0_1.length c0_1)] 24 (0, 0))) ∧ Aside0 (wc.heap[gb210]? = some (.cells #[.int .i64 t206, (.slice Ao21 t207.length co21)] 29 (0, 0))) ∧ Aside0 (Below w.heap.size w wc))
      case first =>
       have H := HC35.out
       clear HC35
       by_cases c43 : t221 < 0
       ·rw [if_pos c43] at H
        have c43b0 : decide (t221 < 0) = true := decide_eq_true c43
        clear c43
        (first | rw [c43b0] | (simp only [i64_w, i32_w]; rw [c43b0]) | skip)
        have H' := Aside0.mk H
        clear H
        go_wp2
        go_meet
        case rel => exact ⟨_, (true), (by first | rfl | (simp; done) | (simp [*]; done)), H', ⟨by have := HJ10.out; first | omega | exact Nat.le_refl _⟩, ⟨by (with_reducible repeat (first | apply Kd.S_alloc | apply Kd.S_drewN | apply Kd.S_drew)); exact Kd.S_mono HO_4.out (fun _ hk => ⟨hk.1, ⟨hk.2.1, hk.2.2.2⟩⟩)⟩, ⟨by (with_reducible repeat (first | apply Kd.S_alloc | apply Kd.S_drewN | apply Kd.S_drew)); exact Kd.S_mono HO_7.out (fun _ hk => ⟨hk.1, ⟨hk.2.1, hk.2.2.2⟩⟩)⟩, ⟨by (with_reducible repeat (first | apply Kd.R_alloc | apply Kd.R_drewN | apply Kd.R_drew)); exact Kd.R_mono HO_211001.out (fun _ hk => trivial)⟩, ⟨by (with_reducible repeat (first | refine blk_drewN ?_ _ | refine blk_drew ?_ | refine blk_alloc ?_ _)); exact BK196.out⟩, ⟨by (with_reducible repeat (first | refine blk_drewN ?_ _ | refine blk_drew ?_ | refine blk_alloc ?_ _)); exact BK210.out⟩, ⟨by repeat (first | (with_reducible first | exact HB.out | apply below_alloc | apply pw_below_drewN | apply below_drew1 | refine below_set ?_ GE196.out | refine below_set ?_ GE210.out) | exact HB.out)⟩⟩
       ·rw [if_neg c43] at H
        have c43b0 : decide (t221 < 0) = false := decide_eq_false c43
        clear c43
        (first | rw [c43b0] | (simp only [i64_w, i32_w]; rw [c43b0]) | skip)
        replace H := Option.bind_eq_some_iff.mp H
        obtain ⟨t223, A440, H⟩ := H
        replace H : (if t223 = true then (laws_FnExactSoundParts.j1 kj10 t202 t205 t211 (t214 != t205) a0_0 l0_1) else (laws_FnExactSoundParts.j1 kj10 t202 t205 t211 true a0_0 l0_1)) = some r := H
        have A44 := Aside0.mk A440
        clear A440
        by_cases c45 : t223 = true
        ·subst c45
         have H1 : (laws_FnExactSoundParts.j1 kj10 t202 t205 t211 (t214 != t205) a0_0 l0_1) = some r := by rw [if_pos rfl] at H; exact H
         clear H
         have H := H1
         clear H1
         have H' := Aside0.mk H
         clear H
         obtain ⟨Ao46, co46, eo46⟩ := Kd.S_slice HO_7.out
         subst eo46
         obtain ⟨Ao47, co47, eo47⟩ := Kd.S_slice HO_4.out
         subst eo47
         go_wp2_with (first | (go_at_call 15; (with_reducible refine (laws_eqInt64SS.calls kj10 _ _ t211 _ _ t202 true _ ?side1 ?side2 ?side3 ?side4 A44.out).mono ?_); (case side1 => repeat (first | exact (Kd.S_reads' HO_7.out).2.2 | (with_reducible refine Kd.C_alloc ?_ _) | (with_reducible refine Kd.C_drewN ?_ _) | (with_reducible refine Kd.C_drew ?_))); (case side2 => exact (Kd.S_reads' HO_7.out).2.1); (case side3 => repeat (first | exact (Kd.S_reads' HO_4.out).2.2 | (with_reducible refine Kd.C_alloc ?_ _) | (with_reducible refine Kd.C_drewN ?_ _) | (with_reducible refine Kd.C_drew ?_))); (case side4 => exact (Kd.S_reads' HO_4.out).2.1); rintro e w' ⟨rfl, ⟨nd, rfl⟩⟩))
         go_meet
         case rel => exact ⟨_, ((t214 != t205)), (by first | rfl | (simp; done) | (simp [*]; done)), H', ⟨by have := HJ10.out; first | omega | exact Nat.le_refl _⟩, ⟨by (with_reducible repeat (first | apply Kd.S_alloc | apply Kd.S_drewN | apply Kd.S_drew)); exact Kd.S_mono HO_4.out (fun _ hk => ⟨hk.1, ⟨hk.2.1, hk.2.2.2⟩⟩)⟩, ⟨by (with_reducible repeat (first | apply Kd.S_alloc | apply Kd.S_drewN | apply Kd.S_drew)); exact Kd.S_mono HO_7.out (fun _ hk => ⟨hk.1, ⟨hk.2.1, hk.2.2.2⟩⟩)⟩, ⟨by (with_reducible repeat (first | apply Kd.R_alloc | apply Kd.R_drewN | apply Kd.R_drew)); exact Kd.R_mono HO_211001.out (fun _ hk => trivial)⟩, ⟨by (with_reducible repeat (first | refine blk_drewN ?_ _ | refine blk_drew ?_ | refine blk_alloc ?_ _)); exact BK196.out⟩, ⟨by (with_reducible repeat (first | refine blk_drewN ?_ _ | refine blk_drew ?_ | refine blk_alloc ?_ _)); exact BK210.out⟩, ⟨by repeat (first | (with_reducible first | exact HB.out | apply below_alloc | apply pw_below_drewN | apply below_drew1 | refine below_set ?_ GE196.out | refine below_set ?_ GE210.out) | exact HB.out)⟩⟩
        ·replace c45 := Bool.eq_false_iff.mpr c45
         subst c45
         have H1 : (laws_FnExactSoundParts.j1 kj10 t202 t205 t211 true a0_0 l0_1) = some r := by rw [if_neg (show ¬ (false = true) by decide)] at H; exact H
         clear H
         have H := H1
         clear H1
         have H' := Aside0.mk H
         clear H
         obtain ⟨Ao48, co48, eo48⟩ := Kd.S_slice HO_7.out
         subst eo48
         obtain ⟨Ao49, co49, eo49⟩ := Kd.S_slice HO_4.out
         subst eo49
         go_wp2_with (first | (go_at_call 15; (with_reducible refine (laws_eqInt64SS.calls kj10 _ _ t211 _ _ t202 false _ ?side1 ?side2 ?side3 ?side4 A44.out).mono ?_); (case side1 => repeat (first | exact (Kd.S_reads' HO_7.out).2.2 | (with_reducible refine Kd.C_alloc ?_ _) | (with_reducible refine Kd.C_drewN ?_ _) | (with_reducible refine Kd.C_drew ?_))); (case side2 => exact (Kd.S_reads' HO_7.out).2.1); (case side3 => repeat (first | exact (Kd.S_reads' HO_4.out).2.2 | (with_reducible refine Kd.C_alloc ?_ _) | (with_reducible refine Kd.C_drewN ?_ _) | (with_reducible refine Kd.C_drew ?_))); (case side4 => exact (Kd.S_reads' HO_4.out).2.1); rintro e w' ⟨rfl, ⟨nd, rfl⟩⟩))
         go_meet
         case rel => exact ⟨_, (true), (by first | rfl | (simp; done) | (simp [*]; done)), H', ⟨by have := HJ10.out; first | omega | exact Nat.le_refl _⟩, ⟨by (with_reducible repeat (first | apply Kd.S_alloc | apply Kd.S_drewN | apply Kd.S_drew)); exact Kd.S_mono HO_4.out (fun _ hk => ⟨hk.1, ⟨hk.2.1, hk.2.2.2⟩⟩)⟩, ⟨by (with_reducible repeat (first | apply Kd.S_alloc | apply Kd.S_drewN | apply Kd.S_drew)); exact Kd.S_mono HO_7.out (fun _ hk => ⟨hk.1, ⟨hk.2.1, hk.2.2.2⟩⟩)⟩, ⟨by (with_reducible repeat (first | apply Kd.R_alloc | apply Kd.R_drewN | apply Kd.R_drew)); exact Kd.R_mono HO_211001.out (fun _ hk => trivial)⟩, ⟨by (with_reducible repeat (first | refine blk_drewN ?_ _ | refine blk_drew ?_ | refine blk_alloc ?_ _)); exact BK196.out⟩, ⟨by (with_reducible repeat (first | refine blk_drewN ?_ _ | refine blk_drew ?_ | refine blk_alloc ?_ _)); exact BK210.out⟩, ⟨by repeat (first | (with_reducible first | exact HB.out | apply below_alloc | apply pw_below_drewN | apply below_drew1 | refine below_set ?_ GE196.out | refine below_set ?_ GE210.out) | exact HB.out)⟩⟩
      case rest =>
       clear HC35
       try clear c1
       try clear c2
       try clear p2
       try clear c3
       try clear c4
       try clear c6
       try clear c6b0
       try clear c11
       try clear c12
       try clear c13
       try clear c14
       try clear c15
       try clear c16
       try clear c17
       try clear c19
       try clear c25
       try clear c30
       try clear c33
       try clear c40
       try clear c43
       try clear c43b0
       try clear c45
       try clear hcz12_0
       try clear hcz12_1
       try clear hcz16_0
       try clear hcz16_1
       try clear hcz20_0
       try clear hcz20_1
       try clear hcz41_0
       try clear hcz41_1
       try clear hcz4_0
       try clear hcz4_1
       try clear hfz12_0
       try clear hfz12_1
       try clear hfz16_0
       try clear hfz16_1
       try clear hfz20_0
       try clear hfz20_1
       try clear hfz41_0
       try clear hfz41_1
       try clear hfz4_0
       try clear hfz4_1
       try clear p2
       obtain ⟨kq, x61_34, rfl, HA, HJ34, HO_4, HO_7, HO_211001, BK196, BK210, HB⟩ := hcut
       have hl211001_34 := (Kd.R_reads' HO_211001.out).1
       rw [hl211001_34] at HO_211001
       (try simp only [hl211001_34])
       (try simp only [hl211001_34] at BK196)
       (try simp only [hl211001_34] at BK210)
       (try simp only [hl211001_34] at HO_4)
       (try simp only [hl211001_34] at HO_7)
       cases kq with
       | zero => exact absurd HA.out (by simp [laws_FnExactSoundParts.j1])
       | succ kj34 =>
        have H := HA.out
        clear HA
        simp only [laws_FnExactSoundParts.j1] at H
        by_cases c50 : x61_34 = true
        ·subst c50
         have H1 : (some false) = some r := by rw [if_pos rfl] at H; exact H
         clear H
         have H := H1
         clear H1
         obtain rfl := Option.some.inj H
         exact absurd HRT.out (by decide)
        ·replace c50 := Bool.eq_false_iff.mpr c50
         subst c50
         have H1 : ((laws_markInt64SS.f kj34 t211 1).bind fun bt224 => ((laws_heldInt64SS.f kj34 bt224.2 1).bind fun t226 => (if t226 < 0 then (some false) else (if t226 = bt224.1 then ((laws_toBolt.f kj34 a0_0 l0_1).bind fun bt227 => ((impl_SoundParts.f kj34 bt227.1 bt227.2).bind fun bt231 => ((laws_eqInt64SS.f kj34 bt231.1 t202).bind fun t235 => (if t235 = true then (laws_FnExactSoundParts.j2 kj34 bt224.2 bt224.1 (bt231.2 != t205)) else (laws_FnExactSoundParts.j2 kj34 bt224.2 bt224.1 true))))) else (some false))))) = some r := by rw [if_neg (show ¬ (false = true) by decide)] at H; exact H
         clear H
         have H := H1
         clear H1
         replace H := Option.bind_eq_some_iff.mp H
         obtain ⟨⟨t224, t225⟩, A510, H⟩ := H
         replace H : ((laws_heldInt64SS.f kj34 t225 1).bind fun t226 => (if t226 < 0 then (some false) else (if t226 = t224 then ((laws_toBolt.f kj34 a0_0 l0_1).bind fun bt227 => ((impl_SoundParts.f kj34 bt227.1 bt227.2).bind fun bt231 => ((laws_eqInt64SS.f kj34 bt231.1 t202).bind fun t235 => (if t235 = true then (laws_FnExactSoundParts.j2 kj34 t225 t224 (bt231.2 != t205)) else (laws_FnExactSoundParts.j2 kj34 t225 t224 true))))) else (some false)))) = some r := H
         have A51 := Aside0.mk A510
         clear A510
         replace H := Option.bind_eq_some_iff.mp H
         obtain ⟨t226, A520, H⟩ := H
         replace H : (if t226 < 0 then (some false) else (if t226 = t224 then ((laws_toBolt.f kj34 a0_0 l0_1).bind fun bt227 => ((impl_SoundParts.f kj34 bt227.1 bt227.2).bind fun bt231 => ((laws_eqInt64SS.f kj34 bt231.1 t202).bind fun t235 => (if t235 = true then (laws_FnExactSoundParts.j2 kj34 t225 t224 (bt231.2 != t205)) else (laws_FnExactSoundParts.j2 kj34 t225 t224 true))))) else (some false))) = some r := H
         have A52 := Aside0.mk A520
         clear A520
         by_cases c53 : t226 < 0
         ·rw [if_pos c53] at H
          have c53b0 : decide (t226 < 0) = true := decide_eq_true c53
          clear c53
          obtain rfl := Option.some.inj H
          exact absurd HRT.out (by decide)
         ·rw [if_neg c53] at H
          have c53b0 : decide (t226 < 0) = false := decide_eq_false c53
          clear c53
          by_cases c54 : t226 = t224
          ·rw [if_pos c54] at H
           have c54b0 : (t226 == t224) = true := beq_iff_eq.mpr c54
           have c54b1 : (t226 != t224) = false := bne_eq_false_iff_eq.mpr c54
           clear c54
           replace H := Option.bind_eq_some_iff.mp H
           obtain ⟨⟨t227, t228⟩, A550, H⟩ := H
           replace H : ((impl_SoundParts.f kj34 t227 t228).bind fun bt231 => ((laws_eqInt64SS.f kj34 bt231.1 t202).bind fun t235 => (if t235 = true then (laws_FnExactSoundParts.j2 kj34 t225 t224 (bt231.2 != t205)) else (laws_FnExactSoundParts.j2 kj34 t225 t224 true)))) = some r := H
           have A55 := Aside0.mk A550
           clear A550
           replace H := Option.bind_eq_some_iff.mp H
           obtain ⟨⟨t231, t234⟩, A560, H⟩ := H
           replace H : ((laws_eqInt64SS.f kj34 t231 t202).bind fun t235 => (if t235 = true then (laws_FnExactSoundParts.j2 kj34 t225 t224 (t234 != t205)) else (laws_FnExactSoundParts.j2 kj34 t225 t224 true))) = some r := H
           have A56 := Aside0.mk A560
           clear A560
           have HC57 := Aside0.mk H
           clear H
           obtain ⟨Ao58, co58, eo58⟩ := Kd.S_slice HO_7.out
           subst eo58
           go_upto_region 25 with (first | ((with_reducible refine gate_callee (f := 18) rfl ?_); refine goesL_ (some 64) rfl rfl Try.func18 (by kernel_rfl) rfl #[.slice Ao58 t211.length co58, .int .i64 1] rfl (by (try simp only [List.map_toArray, List.map_cons, List.map_nil]); first | done | rfl | (simp only [List.length_drop, List.length_take]; rfl)) ?_; obtain ⟨PSHO_7_, hs1HO_7_, hs2HO_7_, hs3HO_7_⟩ := S_hand (HO_7.out); (with_reducible refine (laws_markInt64SS.calls kj34 PSHO_7_ (.slice Ao58 t211.length co58) t211 1 t224 t225 w _ ?side1 ?side2 A51.out).mono ?_); (case side1 => repeat (first | (with_reducible first | exact HB.out | apply below_alloc | apply pw_below_drewN | apply below_drew1 | refine below_set ?_ GE196.out | refine below_set ?_ GE210.out) | exact HB.out)); (case side2 => exact hs1HO_7_); rintro e w59 ⟨rfl, hy0, hb, hkp⟩; refine ⟨_, rfl, ?_⟩; have n0_ := Aside0.mk (Kd.S_mono (ok' := fun k_ => some k_ ≠ (.slice Ao58 t211.length co58 : Value).ownBlock ∧ some k_ ≠ (.slice Ao21 t222.length co21 : Value).ownBlock ∧ k_ ≠ (ltN N23 k_)) (Kd.S_keptB ((Kd.S_mono HO_4.out (fun k_ hk => (⟨hk, fun e_ => gapN (hk.2.2) ((hs2HO_7_ k_ e_).2.2)⟩ : _ ∧ ¬ PSHO_7_ k_)))) hkp (fun k_ hk_ hs_ => (hk_.2) hs_)) (fun k_ hk_ => ⟨hk_.1.1.1, hk_.1.1.2.1, hk_.1.1.2.2⟩)); have n1_ := Aside0.mk (Kd.S_mono hy0 (fun k_ hk_ => hs2HO_7_ k_ hk_)); have n2_ := Aside0.mk (Kd.R_mono (ok' := fun k_ => True) (Kd.R_keptB ((Kd.R_mono (Kd.R_tight2 rfl HO_211001.out) (fun k_ hk => (⟨hk.2, fun e_ => ((hs2HO_7_ k_ e_).2.1) hk.1⟩ : _ ∧ ¬ PSHO_7_ k_)))) hkp (fun k_ hk_ hs_ => (hk_.2) hs_)) (fun k_ hk_ => trivial)); have n3_ := Aside0.mk (blk_kept (by (with_reducible repeat (first | refine blk_drewN ?_ _ | refine blk_drew ?_ | refine blk_alloc ?_ _)); exact BK196.out) hkp (fun hs_ => (fun e_ => typed_blk (hs3HO_7_ _ e_).2.2 (by (with_reducible repeat (first | refine blk_drewN ?_ _ | refine blk_drew ?_ | refine blk_alloc ?_ _)); exact BK196.out) (by decide)) hs_)); have n4_ := Aside0.mk (blk_kept (by (with_reducible repeat (first | refine blk_drewN ?_ _ | refine blk_drew ?_ | refine blk_alloc ?_ _)); exact BK210.out) hkp (fun hs_ => (fun e_ => typed_blk (hs3HO_7_ _ e_).2.2 (by (with_reducible repeat (first | refine blk_drewN ?_ _ | refine blk_drew ?_ | refine blk_alloc ?_ _)); exact BK210.out) (by decide)) hs_)); have n5_ := Aside0.mk (hb); clear HO_4 HO_7; clear HO_211001 BK196; clear BK210 HB; have HO_4 := n0_; have HO_7 := n1_; have HO_211001 := n2_; have BK196 := n3_; have BK210 := n4_; have HB := n5_; clear n0_ n1_ n2_ n3_ n4_ n5_; (try clear hb); (try clear hkp); (try clear hy0); (try clear hs1HO_7_ hs2HO_7_ hs3HO_7_)) | ((with_reducible refine gate_callee (f := 19) rfl ?_); refine goesL_ (some 67) rfl rfl Try.func19 (by kernel_rfl) rfl #[.slice Ao58 t225.length co58, .int .i64 1] rfl (by (try simp only [List.map_toArray, List.map_cons, List.map_nil]); first | done | (rw [show t225.length = t211.length from (Kd.S_reads' HO_7.out).1.symm] <;> rfl) | rfl | (simp only [List.length_drop, List.length_take]; rfl)) ?_; (with_reducible refine (laws_heldInt64SS.calls kj34 _ _ t225 1 t226 _ ?side1 ?side2 A52.out).mono ?_); (case side1 => repeat (first | exact (Kd.S_reads' HO_7.out).2.2 | (with_reducible refine Kd.C_alloc ?_ _) | (with_reducible refine Kd.C_drewN ?_ _) | (with_reducible refine Kd.C_drew ?_))); (case side2 => rw [show t225.length = t211.length from (Kd.S_reads' HO_7.out).1.symm]; exact (Kd.S_reads' HO_7.out).2.1); rintro e w' ⟨rfl, ⟨nd, rfl⟩⟩; refine ⟨_, rfl, ?_⟩; have hnb60 := NB196_210.out; have hnc60 := NB210_196.out; obtain ⟨hcz61_0, hcz61_1, hfz61_0, hfz61_1⟩ := cz2 BK196) | ((with_reducible refine gate_callee (f := 13) rfl ?_); refine goesL_ (some 75) rfl rfl Try.func13 (by kernel_rfl) rfl #[.agg #[.int .i64 a0_0, .slice A0_1 l0_1.length c0_1]] rfl (by (try simp only [List.map_toArray, List.map_cons, List.map_nil]); first | done | rfl | (simp only [List.length_drop, List.length_take]; rfl)) ?_; (with_reducible refine (laws_toBolt.calls kj34 a0_0 _ _ l0_1 t227 t228 _ ?side1 ?side2 A55.out).mono ?_); (case side1 => repeat (first | exact (Kd.C_below HR0_1.out (by repeat (first | (with_reducible first | exact HB.out | apply below_alloc | apply pw_below_drewN | apply below_drew1 | refine below_set ?_ GE196.out | refine below_set ?_ GE210.out) | exact HB.out))) | (with_reducible refine Kd.C_alloc ?_ _) | (with_reducible refine Kd.C_drewN ?_ _) | (with_reducible refine Kd.C_drew ?_))); (case side2 => exact HC0_1.out); rintro e w62 ⟨v229, rfl, ho0, hb⟩; refine ⟨_, rfl, ?_⟩; have n0_ := Aside0.mk (Kd.S_elder' (by (with_reducible repeat (first | apply Kd.S_alloc | apply Kd.S_drewN | apply Kd.S_drew)); exact HO_4.out) (Kd.R_base ho0) hb); have n1_ := Aside0.mk (Kd.S_elder' (by (with_reducible repeat (first | apply Kd.S_alloc | apply Kd.S_drewN | apply Kd.S_drew)); exact HO_7.out) (Kd.R_base ho0) hb); have n2_ := Aside0.mk (Kd.R_elder' (by (with_reducible repeat (first | apply Kd.R_alloc | apply Kd.R_drewN | apply Kd.R_drew)); exact HO_211001.out) (Kd.R_base ho0) hb); have n3_ := Aside0.mk (Kd.R_lower (Kd.R_new' ho0 (Kd.R_lt (by (with_reducible repeat (first | apply Kd.R_alloc | apply Kd.R_drewN | apply Kd.R_drew)); exact HO_211001.out))) (below_size (by repeat (first | (with_reducible first | exact HB.out | apply below_alloc | apply pw_below_drewN | apply below_drew1 | refine below_set ?_ GE196.out | refine below_set ?_ GE210.out) | exact HB.out)))); have n4_ := pB BK196 hb; have n5_ := pB BK210 hb; have n6_ := pS HB hb; clear HO_4 HO_7; clear HO_211001 BK196; clear BK210 HB; have HO_4 := n0_; have HO_7 := n1_; have HO_211001 := n2_; have HO230 := n3_; have BK196 := n4_; have BK210 := n5_; have HB := n6_; clear n0_ n1_ n2_ n3_ n4_ n5_ n6_; (try clear hb); (try clear hb2); (try clear hk); (try clear hi); (try clear ho0); obtain ⟨Ao63, co63, eo63⟩ := Kd.R_slice HO230.out; subst eo63) | ((with_reducible refine gate_callee (f := 14) rfl ?_); refine goesL_ (some 76) rfl rfl Try.func14 (by kernel_rfl) rfl #[.agg #[.int .i64 t227, .slice Ao63 t228.length co63]] rfl (by (try simp only [List.map_toArray, List.map_cons, List.map_nil]); first | done | rfl | (simp only [List.length_drop, List.length_take]; rfl)) ?_; obtain ⟨N65, hN65⟩ : ∃ N_ : Nat, N_ = w62.heap.size := ⟨_, rfl⟩; have n0_ := Aside0.mk (S_ltN HO_4.out hN65); clear HO_4; have HO_4 := n0_; clear n0_; have n0_ := Aside0.mk (S_ltN HO_7.out hN65); clear HO_7; have HO_7 := n0_; clear n0_; (with_reducible refine (impl_SoundParts.calls kj34 t227 _ _ t228 t231 t234 _ ?side1 ?side2 A56.out).mono ?_); (case side1 => repeat (first | exact (Kd.R_reads' HO230.out).2.2 | (with_reducible refine Kd.C_alloc ?_ _) | (with_reducible refine Kd.C_drewN ?_ _) | (with_reducible refine Kd.C_drew ?_))); (case side2 => exact (Kd.R_reads' HO230.out).2.1); rintro e w64 ⟨v232, rfl, ho0, hb⟩; refine ⟨_, rfl, ?_⟩; have n0_ := Aside0.mk (Kd.S_elder' (by (with_reducible repeat (first | apply Kd.S_alloc | apply Kd.S_drewN | apply Kd.S_drew)); exact HO_4.out) (Kd.S_base ho0) hb); have n1_ := Aside0.mk (Kd.S_elder' (by (with_reducible repeat (first | apply Kd.S_alloc | apply Kd.S_drewN | apply Kd.S_drew)); exact HO_7.out) (Kd.S_base ho0) hb); have n2_ := Aside0.mk (Kd.R_below (by (with_reducible repeat (first | apply Kd.R_alloc | apply Kd.R_drewN | apply Kd.R_drew)); exact HO_211001.out) hb); have n3_ := Aside0.mk (Kd.R_below (by (with_reducible repeat (first | apply Kd.R_alloc | apply Kd.R_drewN | apply Kd.R_drew)); exact HO230.out) hb); have n4_ := Aside0.mk (Kd.S_lower (S_geN (N := N65) (Kd.S_new' (Kd.S_new' (Kd.S_new' (Kd.S_new' ho0 (Kd.S_lt (by (with_reducible repeat (first | apply Kd.S_alloc | apply Kd.S_drewN | apply Kd.S_drew)); exact HO_4.out))) (Kd.S_lt (by (with_reducible repeat (first | apply Kd.S_alloc | apply Kd.S_drewN | apply Kd.S_drew)); exact HO_7.out))) (Kd.R_lt (by (with_reducible repeat (first | apply Kd.R_alloc | apply Kd.R_drewN | apply Kd.R_drew)); exact HO_211001.out))) (Kd.R_lt (by (with_reducible repeat (first | apply Kd.R_alloc | apply Kd.R_drewN | apply Kd.R_drew)); exact HO230.out))) (by rw [hN65]; (try simp only [sz_set, sz_drewN, sz_drew]); first | exact Nat.le_refl _ | exact below_size (by repeat (first | exact Below.refl _ _ | apply below_alloc | apply pw_below_drewN | apply below_drew1)))) (below_size (by repeat (first | (with_reducible first | exact HB.out | apply below_alloc | apply pw_below_drewN | apply below_drew1 | refine below_set ?_ GE196.out | refine below_set ?_ GE210.out) | exact HB.out)))); have n5_ := pB BK196 hb; have n6_ := pB BK210 hb; have n7_ := pS HB hb; clear HO_4 HO_7; clear HO_211001 HO230; clear BK196 BK210 HB; have HO_4 := n0_; have HO_7 := n1_; have HO_211001 := n2_; have HO230 := n3_; have HO233 := n4_; have BK196 := n5_; have BK210 := n6_; have HB := n7_; clear n0_ n1_ n2_ n3_ n4_ n5_ n6_ n7_; (try clear hb); (try clear hb2); (try clear hk); (try clear hi); (try clear ho0); (try clear hN65)))
           (try simp only [Act.put, List.setIfInBounds_toArray, List.set_cons_zero, List.set_cons_succ])
           go_cut [87] (fun v87 wc => ∃ (kq : Nat) (x87_56 : Bool), v87 = .bool x87_56 ∧ Aside0 (laws_FnExactSoundParts.j2 kq t225 t224 x87_56 = some r) ∧ Aside0 (kq ≤ kj34) ∧ Aside0 (Kd.S (Kd.slice 2 (Kd.int .i64)) 22 wc w.heap.size (fun k_ => some k_ ≠ ((.slice Ao21 t222.length co21) : Value).ownBlock ∧ k_ ≠ (geN N23 k_) ∧ k_ ≠ (ltN N65 k_)) (.slice Ao58 t211.length co58) t225) ∧ Aside0 (Kd.R (Kd.int .i64) 2 wc w.heap.size (fun _ => True) (.slice Ao21 t222.length co21) t222) ∧ Aside0 (wc.heap[gb196]? = some (.cells #[.int .i64 a0_0, (.slice A0_1 l0_1.length c0_1)] 24 (0, 0))) ∧ Aside0 (wc.heap[gb210]? = some (.cells #[.int .i64 t206, (.slice Ao21 t222.length co21)] 29 (0, 0))) ∧ Aside0 (Below w.heap.size w wc))
           case first =>
            have H := HC57.out
            clear HC57
            replace H := Option.bind_eq_some_iff.mp H
            obtain ⟨t235, A660, H⟩ := H
            replace H : (if t235 = true then (laws_FnExactSoundParts.j2 kj34 t225 t224 (t234 != t205)) else (laws_FnExactSoundParts.j2 kj34 t225 t224 true)) = some r := H
            have A66 := Aside0.mk A660
            clear A660
            by_cases c67 : t235 = true
            ·subst c67
             have H1 : (laws_FnExactSoundParts.j2 kj34 t225 t224 (t234 != t205)) = some r := by rw [if_pos rfl] at H; exact H
             clear H
             have H := H1
             clear H1
             have H' := Aside0.mk H
             clear H
             obtain ⟨Ao68, co68, eo68⟩ := Kd.S_slice HO233.out
             subst eo68
             obtain ⟨Ao69, co69, eo69⟩ := Kd.S_slice HO_4.out
             subst eo69
             go_wp2_with (first | ((with_reducible refine gate_callee (f := 15) rfl ?_); refine goesL_ (some 81) rfl rfl Try.func15 (by kernel_rfl) rfl #[.slice Ao68 t231.length co68, .slice Ao69 t202.length co69] rfl (by (try simp only [List.map_toArray, List.map_cons, List.map_nil]); first | done | rfl | (simp only [List.length_drop, List.length_take]; rfl)) ?_; (with_reducible refine (laws_eqInt64SS.calls kj34 _ _ t231 _ _ t202 true _ ?side1 ?side2 ?side3 ?side4 A66.out).mono ?_); (case side1 => repeat (first | exact (Kd.S_reads' HO233.out).2.2 | (with_reducible refine Kd.C_alloc ?_ _) | (with_reducible refine Kd.C_drewN ?_ _) | (with_reducible refine Kd.C_drew ?_))); (case side2 => exact (Kd.S_reads' HO233.out).2.1); (case side3 => repeat (first | exact (Kd.S_reads' HO_4.out).2.2 | (with_reducible refine Kd.C_alloc ?_ _) | (with_reducible refine Kd.C_drewN ?_ _) | (with_reducible refine Kd.C_drew ?_))); (case side4 => exact (Kd.S_reads' HO_4.out).2.1); rintro e w' ⟨rfl, ⟨nd, rfl⟩⟩; refine ⟨_, rfl, ?_⟩))
             go_meet
             case rel => exact ⟨_, ((t234 != t205)), (by first | rfl | (simp; done) | (simp [*]; done)), H', ⟨by have := HJ10.out; have := HJ34.out; first | omega | exact Nat.le_refl _⟩, ⟨by (try simp only [hl211001_34]); (with_reducible repeat (first | apply Kd.S_alloc | apply Kd.S_drewN | apply Kd.S_drew)); exact Kd.S_mono HO_7.out (fun _ hk => ⟨hk.1.1.1.2.1, ⟨hk.1.1.1.2.2, hk.1.2⟩⟩)⟩, ⟨by (try simp only [hl211001_34]); (with_reducible repeat (first | apply Kd.R_alloc | apply Kd.R_drewN | apply Kd.R_drew)); exact Kd.R_mono HO_211001.out (fun _ hk => trivial)⟩, ⟨by (try simp only [hl211001_34]); (with_reducible repeat (first | refine blk_drewN ?_ _ | refine blk_drew ?_ | refine blk_alloc ?_ _)); exact BK196.out⟩, ⟨by (try simp only [hl211001_34]); (with_reducible repeat (first | refine blk_drewN ?_ _ | refine blk_drew ?_ | refine blk_alloc ?_ _)); exact BK210.out⟩, ⟨by repeat (first | (with_reducible first | exact HB.out | apply below_alloc | apply pw_below_drewN | apply below_drew1 | refine below_set ?_ GE196.out | refine below_set ?_ GE210.out) | exact HB.out)⟩⟩
            ·replace c67 := Bool.eq_false_iff.mpr c67
             subst c67
             have H1 : (laws_FnExactSoundParts.j2 kj34 t225 t224 true) = some r := by rw [if_neg (show ¬ (false = true) by decide)] at H; exact H
             clear H
             have H := H1
             clear H1
             have H' := Aside0.mk H
             clear H
             obtain ⟨Ao70, co70, eo70⟩ := Kd.S_slice HO233.out
             subst eo70
             obtain ⟨Ao71, co71, eo71⟩ := Kd.S_slice HO_4.out
             subst eo71
             go_wp2_with (first | ((with_reducible refine gate_callee (f := 15) rfl ?_); refine goesL_ (some 81) rfl rfl Try.func15 (by kernel_rfl) rfl #[.slice Ao70 t231.length co70, .slice Ao71 t202.length co71] rfl (by (try simp only [List.map_toArray, List.map_cons, List.map_nil]); first | done | rfl | (simp only [List.length_drop, List.length_take]; rfl)) ?_; (with_reducible refine (laws_eqInt64SS.calls kj34 _ _ t231 _ _ t202 false _ ?side1 ?side2 ?side3 ?side4 A66.out).mono ?_); (case side1 => repeat (first | exact (Kd.S_reads' HO233.out).2.2 | (with_reducible refine Kd.C_alloc ?_ _) | (with_reducible refine Kd.C_drewN ?_ _) | (with_reducible refine Kd.C_drew ?_))); (case side2 => exact (Kd.S_reads' HO233.out).2.1); (case side3 => repeat (first | exact (Kd.S_reads' HO_4.out).2.2 | (with_reducible refine Kd.C_alloc ?_ _) | (with_reducible refine Kd.C_drewN ?_ _) | (with_reducible refine Kd.C_drew ?_))); (case side4 => exact (Kd.S_reads' HO_4.out).2.1); rintro e w' ⟨rfl, ⟨nd, rfl⟩⟩; refine ⟨_, rfl, ?_⟩))
             go_meet
             case rel => exact ⟨_, (true), (by first | rfl | (simp; done) | (simp [*]; done)), H', ⟨by have := HJ10.out; have := HJ34.out; first | omega | exact Nat.le_refl _⟩, ⟨by (try simp only [hl211001_34]); (with_reducible repeat (first | apply Kd.S_alloc | apply Kd.S_drewN | apply Kd.S_drew)); exact Kd.S_mono HO_7.out (fun _ hk => ⟨hk.1.1.1.2.1, ⟨hk.1.1.1.2.2, hk.1.2⟩⟩)⟩, ⟨by (try simp only [hl211001_34]); (with_reducible repeat (first | apply Kd.R_alloc | apply Kd.R_drewN | apply Kd.R_drew)); exact Kd.R_mono HO_211001.out (fun _ hk => trivial)⟩, ⟨by (try simp only [hl211001_34]); (with_reducible repeat (first | refine blk_drewN ?_ _ | refine blk_drew ?_ | refine blk_alloc ?_ _)); exact BK196.out⟩, ⟨by (try simp only [hl211001_34]); (with_reducible repeat (first | refine blk_drewN ?_ _ | refine blk_drew ?_ | refine blk_alloc ?_ _)); exact BK210.out⟩, ⟨by repeat (first | (with_reducible first | exact HB.out | apply below_alloc | apply pw_below_drewN | apply below_drew1 | refine below_set ?_ GE196.out | refine below_set ?_ GE210.out) | exact HB.out)⟩⟩
           case rest =>
            clear HC57
            try clear c1
            try clear c2
            try clear p2
            try clear c3
            try clear c4
            try clear c5
            try clear c6
            try clear c6b0
            try clear c11
            try clear c12
            try clear c13
            try clear c14
            try clear c15
            try clear c16
            try clear c17
            try clear c18
            try clear c19
            try clear c25
            try clear c30
            try clear c33
            try clear c40
            try clear c43
            try clear c43b0
            try clear c45
            try clear c50
            try clear c53
            try clear c53b0
            try clear c54
            try clear c54b0
            try clear c54b1
            try clear c60
            try clear c67
            try clear hcz12_0
            try clear hcz12_1
            try clear hcz16_0
            try clear hcz16_1
            try clear hcz20_0
            try clear hcz20_1
            try clear hcz41_0
            try clear hcz41_1
            try clear hcz4_0
            try clear hcz4_1
            try clear hcz61_0
            try clear hcz61_1
            try clear hfz12_0
            try clear hfz12_1
            try clear hfz16_0
            try clear hfz16_1
            try clear hfz20_0
            try clear hfz20_1
            try clear hfz41_0
            try clear hfz41_1
            try clear hfz4_0
            try clear hfz4_1
            try clear hfz61_0
            try clear hfz61_1
            try clear p2
            obtain ⟨kq, x87_56, rfl, HA, HJ56, HO_7, HO_211001, BK196, BK210, HB⟩ := hcut
            have hl7_56 := (Kd.S_reads' HO_7.out).1
            rw [hl7_56] at HO_7
            (try simp only [hl7_56])
            (try simp only [hl7_56] at BK196)
            (try simp only [hl7_56] at BK210)
            (try simp only [hl7_56] at HO_211001)
            cases kq with
            | zero => exact absurd HA.out (by simp [laws_FnExactSoundParts.j2])
            | succ kj56 =>
             have H := HA.out
             clear HA
             simp only [laws_FnExactSoundParts.j2] at H
             by_cases c72 : x87_56 = true
             ·subst c72
              have H1 : (some false) = some r := by rw [if_pos rfl] at H; exact H
              clear H
              have H := H1
              clear H1
              obtain rfl := Option.some.inj H
              exact absurd HRT.out (by decide)
             ·replace c72 := Bool.eq_false_iff.mpr c72
              subst c72
              have H1 : ((laws_heldInt64SS.f kj56 t225 1).bind fun t236 => (if t236 < 0 then (some false) else (if t236 = t224 then (some true) else (some false)))) = some r := by rw [if_neg (show ¬ (false = true) by decide)] at H; exact H
              clear H
              have H := H1
              clear H1
              replace H := Option.bind_eq_some_iff.mp H
              obtain ⟨t236, A730, H⟩ := H
              replace H : (if t236 < 0 then (some false) else (if t236 = t224 then (some true) else (some false))) = some r := H
              have A73 := Aside0.mk A730
              clear A730
              by_cases c74 : t236 < 0
              ·rw [if_pos c74] at H
               have c74b0 : decide (t236 < 0) = true := decide_eq_true c74
               clear c74
               obtain rfl := Option.some.inj H
               exact absurd HRT.out (by decide)
              ·rw [if_neg c74] at H
               have c74b0 : decide (t236 < 0) = false := decide_eq_false c74
               clear c74
               by_cases c75 : t236 = t224
               ·rw [if_pos c75] at H
                have c75b0 : (t236 == t224) = true := beq_iff_eq.mpr c75
                have c75b1 : (t236 != t224) = false := bne_eq_false_iff_eq.mpr c75
                clear c75
                obtain rfl := Option.some.inj H
                simp only [Option.some.injEq, Prod.mk.injEq] at H
                obtain ⟨rfl⟩ := H
                go_wp2_with (first | ((with_reducible refine gate_callee (f := 19) rfl ?_); refine goesL_ (some 90) rfl rfl Try.func19 (by kernel_rfl) rfl #[.slice Ao58 t225.length co58, .int .i64 1] rfl (by (try simp only [List.map_toArray, List.map_cons, List.map_nil]); first | done | rfl | (simp only [List.length_drop, List.length_take]; rfl)) ?_; (with_reducible refine (laws_heldInt64SS.calls kj56 _ _ t225 1 t236 _ ?side1 ?side2 A73.out).mono ?_); (case side1 => repeat (first | exact (Kd.S_reads' HO_7.out).2.2 | (with_reducible refine Kd.C_alloc ?_ _) | (with_reducible refine Kd.C_drewN ?_ _) | (with_reducible refine Kd.C_drew ?_))); (case side2 => exact (Kd.S_reads' HO_7.out).2.1); rintro e w' ⟨rfl, ⟨nd, rfl⟩⟩; refine ⟨_, rfl, ?_⟩))
                go_ret
                exact ⟨by first | rfl | (simp [errW_none, errW_some] <;> rfl) | (simp [*, errW_none, errW_some] <;> rfl), pR HB⟩
               ·rw [if_neg c75] at H
                have c75b0 : (t236 == t224) = false := beq_eq_false_iff_ne.mpr c75
                have c75b1 : (t236 != t224) = true := bne_iff_ne.mpr c75
                obtain rfl := Option.some.inj H
                exact absurd HRT.out (by decide)
          ·rw [if_neg c54] at H
           have c54b0 : (t226 == t224) = false := beq_eq_false_iff_ne.mpr c54
           have c54b1 : (t226 != t224) = true := bne_iff_ne.mpr c54
           obtain rfl := Option.some.inj H
           exact absurd HRT.out (by decide)
     ·replace c33 := Bool.eq_false_iff.mpr c33
      subst c33
      have H1 : (some false) = some r := by rw [if_neg (show ¬ (false = true) by decide)] at H; exact H
      clear H
      have H := H1
      clear H1
      obtain rfl := Option.some.inj H
      exact absurd HRT.out (by decide)

def laws_FnExactSoundParts.Pure : Prop := ∀ (a0_0 : Int) (l0_1 : List Int), ((Lit.int .i64 a0_0).wf = true) → (l0_1.length ≤ 9223372036854775807 ∧ ∀ y0 ∈ l0_1, (Lit.int .i64 y0).wf = true) → ∃ k, laws_FnExactSoundParts.f k a0_0 l0_1 = some true

end Go.Proofs.Ytlphfgbeeckjnaa.PFnExactSoundParts
