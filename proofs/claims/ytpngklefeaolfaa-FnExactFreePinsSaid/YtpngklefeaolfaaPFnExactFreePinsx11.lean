-- Written by a program of this session (wip/tools/pp.sh).
import Derived.Test.YtpngklefeaolfaaPFnExactFreePinsx0
import Derived.Test.YtpngklefeaolfaaPFnExactFreePinsx1
import Derived.Test.YtpngklefeaolfaaPFnExactFreePinsx2
import Derived.Test.YtpngklefeaolfaaPFnExactFreePinsx3
import Derived.Test.YtpngklefeaolfaaPFnExactFreePinsx4
import Derived.Test.YtpngklefeaolfaaPFnExactFreePinsx6
import Derived.Test.YtpngklefeaolfaaPFnExactFreePinsx9
import Derived.Test.YtpngklefeaolfaaPFnExactFreePinsx10
namespace Go.Proofs.Ytpngklefeaolfaa.PFnExactFreePins
open Go.RowKit Go.Proofs.YtpngklefeaolfaaW.PrintWords Go.Proofs.YtpngklefeaolfaaW.PrintLast Go.Proofs.YtpngklefeaolfaaW.PrintMore Go.Proofs.Ytpngklefeaolfaa.Small
open Bool renaming true → T, false → F
attribute [local go_sem] max2_int min2_int max_two min_two max_three min_three max_four min_four   -- for this text's walks alone
set_option linter.unusedVariables false
set_option linter.unusedSimpArgs false

/-! ### laws_FnExactFreePins: function 8 -/
mutual
def laws_FnExactFreePins.j0 : Nat → ByteArray → List Int → Int → List Int → Int → Bool → List (S92) → List ByteArray → List (S55) → List (S69) → List ByteArray → List (S40) → Option (Bool)
 | 0, _, _, _, _, _, _, _, _, _, _, _, _ => none
 | k + 1, x1, x6, x7, x9, x10, x47, x257000, x257001, x257002, x281000, x281001, x281002 => if x47 = true then (some false) else ((laws_toRig.f k x257000 x257001 x257002).bind fun bt286 => ((laws_eqRig.f k x281000 x281001 x281002 bt286.1 bt286.2.1 bt286.2.2).bind fun t295 => (if t295 = true then ((laws_markRig.f k x281000 x281001 x281002 1).bind fun bt296 => (if bt296.1 < 0 then (laws_FnExactFreePins.j1 k x1 x6 x7 x9 true x257000 x257001 x257002) else ((laws_eqInt64S.f k x9 x6).bind fun t300 => (if t300 = true then (laws_FnExactFreePins.j1 k x1 x6 x7 x9 (x10 != x7) x257000 x257001 x257002) else (laws_FnExactFreePins.j1 k x1 x6 x7 x9 true x257000 x257001 x257002))))) else (some false))))
def laws_FnExactFreePins.j1 : Nat → ByteArray → List Int → Int → List Int → Bool → List (S92) → List ByteArray → List (S55) → Option (Bool)
 | 0, _, _, _, _, _, _, _, _ => none
 | k + 1, x1, x6, x7, x9, x68, x257000, x257001, x257002 => if x68 = true then (some false) else ((laws_markInt64S.f k x9 1).bind fun bt301 => ((laws_heldInt64S.f k bt301.2 1).bind fun t303 => (if t303 < 0 then (some false) else (if t303 = bt301.1 then ((laws_toRig.f k x257000 x257001 x257002).bind fun bt304 => ((impl_FreePins.f k bt304.1 bt304.2.1 bt304.2.2 x1).bind fun bt313 => ((laws_eqInt64S.f k bt313.1 x6).bind fun t317 => (if t317 = true then (laws_FnExactFreePins.j2 k bt301.2 bt301.1 (bt313.2 != x7)) else (laws_FnExactFreePins.j2 k bt301.2 bt301.1 true))))) else (some false)))))
def laws_FnExactFreePins.j2 : Nat → List Int → Int → Bool → Option (Bool)
 | 0, _, _, _ => none
 | k + 1, x9, x12, x95 => if x95 = true then (some false) else ((laws_heldInt64S.f k x9 1).bind fun t318 => (if t318 < 0 then (some false) else (if t318 = x12 then (some true) else (some false))))
end
def laws_FnExactFreePins.f (k : Nat) (l0_0 : List (S92)) (l0_1 : List ByteArray) (l0_2 : List (S55)) (a1 : ByteArray) : Option (Bool) := if (a1.size : Int) > 1048576 then (some true) else ((laws_szRig.f k l0_0 l0_1 l0_2 1048576).bind fun t257 => (if t257 < 0 then (some true) else ((laws_toRig.f k l0_0 l0_1 l0_2).bind fun bt258 => ((spec_FreePins.f k bt258.1 bt258.2.1 bt258.2.2 a1).bind fun bt267 => ((laws_toRig.f k l0_0 l0_1 l0_2).bind fun bt271 => ((impl_FreePins.f k bt271.1 bt271.2.1 bt271.2.2 a1).bind fun bt281 => ((laws_eqInt64S.f k bt281.1 bt267.1).bind fun t285 => (if t285 = true then (laws_FnExactFreePins.j0 k a1 bt267.1 bt267.2 bt281.1 bt281.2 (bt281.2 != bt267.2) l0_0 l0_1 l0_2 bt271.1 bt271.2.1 bt271.2.2) else (laws_FnExactFreePins.j0 k a1 bt267.1 bt267.2 bt281.1 bt281.2 true l0_0 l0_1 l0_2 bt271.1 bt271.2.1 bt271.2.2)))))))))
theorem laws_FnExactFreePins.mono_l : ∀ k, (∀ y0 y1 y2 y3 y4 y5 y6 y7 y8 y9 y10 y11, LeO (laws_FnExactFreePins.j0 k y0 y1 y2 y3 y4 y5 y6 y7 y8 y9 y10 y11) (laws_FnExactFreePins.j0 (k + 1) y0 y1 y2 y3 y4 y5 y6 y7 y8 y9 y10 y11)) ∧ (∀ y0 y1 y2 y3 y4 y5 y6 y7, LeO (laws_FnExactFreePins.j1 k y0 y1 y2 y3 y4 y5 y6 y7) (laws_FnExactFreePins.j1 (k + 1) y0 y1 y2 y3 y4 y5 y6 y7)) ∧ (∀ y0 y1 y2, LeO (laws_FnExactFreePins.j2 k y0 y1 y2) (laws_FnExactFreePins.j2 (k + 1) y0 y1 y2))
 | 0 => ⟨fun _ _ _ _ _ _ _ _ _ _ _ _ r h => by simp [laws_FnExactFreePins.j0] at h, fun _ _ _ _ _ _ _ _ r h => by simp [laws_FnExactFreePins.j1] at h, fun _ _ _ r h => by simp [laws_FnExactFreePins.j2] at h⟩
 | k + 1 => by
  obtain ⟨ih0, ih1, ih2⟩ := laws_FnExactFreePins.mono_l k
  refine ⟨?_, ?_, ?_⟩
  ·intro y0 y1 y2 y3 y4 y5 y6 y7 y8 y9 y10 y11
   unfold laws_FnExactFreePins.j0
   repeat' first
   | (with_reducible exact ih0 _ _ _ _ _ _ _ _ _ _ _ _)
   | (with_reducible exact ih1 _ _ _ _ _ _ _ _)
   | (with_reducible exact ih2 _ _ _)
   | (with_reducible exact impl_FreePins.mono _ _ _ _ _)
   | (with_reducible exact laws_eqInt64S.mono _ _ _)
   | (with_reducible exact laws_eqRig.mono _ _ _ _ _ _ _)
   | (with_reducible exact laws_heldInt64S.mono _ _ _)
   | (with_reducible exact laws_markInt64S.mono _ _ _)
   | (with_reducible exact laws_markRig.mono _ _ _ _ _)
   | (with_reducible exact laws_szRig.mono _ _ _ _ _)
   | (with_reducible exact laws_toRig.mono _ _ _ _)
   | (with_reducible exact spec_FreePins.mono _ _ _ _ _)
   | (with_reducible exact LeO.refl _)
   | (with_reducible exact LeO.none _)
   | (with_reducible refine LeO.ite ?_ ?_)
   | (with_reducible refine LeO.bind ?_ (fun _ => ?_))
   | exact ih0 _ _ _ _ _ _ _ _ _ _ _ _
   | exact ih1 _ _ _ _ _ _ _ _
   | exact ih2 _ _ _
   | exact impl_FreePins.mono _ _ _ _ _
   | exact laws_eqInt64S.mono _ _ _
   | exact laws_eqRig.mono _ _ _ _ _ _ _
   | exact laws_heldInt64S.mono _ _ _
   | exact laws_markInt64S.mono _ _ _
   | exact laws_markRig.mono _ _ _ _ _
   | exact laws_szRig.mono _ _ _ _ _
   | exact laws_toRig.mono _ _ _ _
   | exact spec_FreePins.mono _ _ _ _ _
   | exact LeO.none _
   | refine LeO.ite ?_ ?_
   | refine LeO.bind ?_ (fun _ => ?_)
  ·intro y0 y1 y2 y3 y4 y5 y6 y7
   unfold laws_FnExactFreePins.j1
   repeat' first
   | (with_reducible exact ih0 _ _ _ _ _ _ _ _ _ _ _ _)
   | (with_reducible exact ih1 _ _ _ _ _ _ _ _)
   | (with_reducible exact ih2 _ _ _)
   | (with_reducible exact impl_FreePins.mono _ _ _ _ _)
   | (with_reducible exact laws_eqInt64S.mono _ _ _)
   | (with_reducible exact laws_eqRig.mono _ _ _ _ _ _ _)
   | (with_reducible exact laws_heldInt64S.mono _ _ _)
   | (with_reducible exact laws_markInt64S.mono _ _ _)
   | (with_reducible exact laws_markRig.mono _ _ _ _ _)
   | (with_reducible exact laws_szRig.mono _ _ _ _ _)
   | (with_reducible exact laws_toRig.mono _ _ _ _)
   | (with_reducible exact spec_FreePins.mono _ _ _ _ _)
   | (with_reducible exact LeO.refl _)
   | (with_reducible exact LeO.none _)
   | (with_reducible refine LeO.ite ?_ ?_)
   | (with_reducible refine LeO.bind ?_ (fun _ => ?_))
   | exact ih0 _ _ _ _ _ _ _ _ _ _ _ _
   | exact ih1 _ _ _ _ _ _ _ _
   | exact ih2 _ _ _
   | exact impl_FreePins.mono _ _ _ _ _
   | exact laws_eqInt64S.mono _ _ _
   | exact laws_eqRig.mono _ _ _ _ _ _ _
   | exact laws_heldInt64S.mono _ _ _
   | exact laws_markInt64S.mono _ _ _
   | exact laws_markRig.mono _ _ _ _ _
   | exact laws_szRig.mono _ _ _ _ _
   | exact laws_toRig.mono _ _ _ _
   | exact spec_FreePins.mono _ _ _ _ _
   | exact LeO.none _
   | refine LeO.ite ?_ ?_
   | refine LeO.bind ?_ (fun _ => ?_)
  ·intro y0 y1 y2
   unfold laws_FnExactFreePins.j2
   repeat' first
   | (with_reducible exact ih0 _ _ _ _ _ _ _ _ _ _ _ _)
   | (with_reducible exact ih1 _ _ _ _ _ _ _ _)
   | (with_reducible exact ih2 _ _ _)
   | (with_reducible exact impl_FreePins.mono _ _ _ _ _)
   | (with_reducible exact laws_eqInt64S.mono _ _ _)
   | (with_reducible exact laws_eqRig.mono _ _ _ _ _ _ _)
   | (with_reducible exact laws_heldInt64S.mono _ _ _)
   | (with_reducible exact laws_markInt64S.mono _ _ _)
   | (with_reducible exact laws_markRig.mono _ _ _ _ _)
   | (with_reducible exact laws_szRig.mono _ _ _ _ _)
   | (with_reducible exact laws_toRig.mono _ _ _ _)
   | (with_reducible exact spec_FreePins.mono _ _ _ _ _)
   | (with_reducible exact LeO.refl _)
   | (with_reducible exact LeO.none _)
   | (with_reducible refine LeO.ite ?_ ?_)
   | (with_reducible refine LeO.bind ?_ (fun _ => ?_))
   | exact ih0 _ _ _ _ _ _ _ _ _ _ _ _
   | exact ih1 _ _ _ _ _ _ _ _
   | exact ih2 _ _ _
   | exact impl_FreePins.mono _ _ _ _ _
   | exact laws_eqInt64S.mono _ _ _
   | exact laws_eqRig.mono _ _ _ _ _ _ _
   | exact laws_heldInt64S.mono _ _ _
   | exact laws_markInt64S.mono _ _ _
   | exact laws_markRig.mono _ _ _ _ _
   | exact laws_szRig.mono _ _ _ _ _
   | exact laws_toRig.mono _ _ _ _
   | exact spec_FreePins.mono _ _ _ _ _
   | exact LeO.none _
   | refine LeO.ite ?_ ?_
   | refine LeO.bind ?_ (fun _ => ?_)
theorem laws_FnExactFreePins.mono : ∀ a0 a1 a2 a3 k, LeO (laws_FnExactFreePins.f k a0 a1 a2 a3) (laws_FnExactFreePins.f (k + 1) a0 a1 a2 a3) := by
 intro a0 a1 a2 a3 k
 obtain ⟨ih0, ih1, ih2⟩ := laws_FnExactFreePins.mono_l k
 unfold laws_FnExactFreePins.f
 repeat' first
   | (with_reducible exact ih0 _ _ _ _ _ _ _ _ _ _ _ _)
   | (with_reducible exact ih1 _ _ _ _ _ _ _ _)
   | (with_reducible exact ih2 _ _ _)
   | (with_reducible exact impl_FreePins.mono _ _ _ _ _)
   | (with_reducible exact laws_eqInt64S.mono _ _ _)
   | (with_reducible exact laws_eqRig.mono _ _ _ _ _ _ _)
   | (with_reducible exact laws_heldInt64S.mono _ _ _)
   | (with_reducible exact laws_markInt64S.mono _ _ _)
   | (with_reducible exact laws_markRig.mono _ _ _ _ _)
   | (with_reducible exact laws_szRig.mono _ _ _ _ _)
   | (with_reducible exact laws_toRig.mono _ _ _ _)
   | (with_reducible exact spec_FreePins.mono _ _ _ _ _)
   | (with_reducible exact LeO.refl _)
   | (with_reducible exact LeO.none _)
   | (with_reducible refine LeO.ite ?_ ?_)
   | (with_reducible refine LeO.bind ?_ (fun _ => ?_))
   | exact ih0 _ _ _ _ _ _ _ _ _ _ _ _
   | exact ih1 _ _ _ _ _ _ _ _
   | exact ih2 _ _ _
   | exact impl_FreePins.mono _ _ _ _ _
   | exact laws_eqInt64S.mono _ _ _
   | exact laws_eqRig.mono _ _ _ _ _ _ _
   | exact laws_heldInt64S.mono _ _ _
   | exact laws_markInt64S.mono _ _ _
   | exact laws_markRig.mono _ _ _ _ _
   | exact laws_szRig.mono _ _ _ _ _
   | exact laws_toRig.mono _ _ _ _
   | exact spec_FreePins.mono _ _ _ _ _
   | exact LeO.none _
   | refine LeO.ite ?_ ?_
   | refine LeO.bind ?_ (fun _ => ?_)
set_option maxHeartbeats 8000000 in
set_option maxRecDepth 100000 in
theorem laws_FnExactFreePins.calls (k : Nat) (A0_0 : Option Addr) (c0_0 : Nat) (l0_0 : List (S92)) (A0_1 : Option Addr) (c0_1 : Nat) (l0_1 : List ByteArray) (A0_2 : Option Addr) (c0_2 : Nat) (l0_2 : List (S55)) (a1 : ByteArray) (r : Bool) (w : World) (hr0_0 : Kd.C k92 w A0_0 l0_0.length l0_0) (hc0_0 : l0_0.length ≤ c0_0) (hr0_1 : Kd.C Kd.string w A0_1 l0_1.length l0_1) (hc0_1 : l0_1.length ≤ c0_1) (hr0_2 : Kd.C k55 w A0_2 l0_2.length l0_2) (hc0_2 : l0_2.length ≤ c0_2) (hrt : r = true) (h : laws_FnExactFreePins.f k l0_0 l0_1 l0_2 a1 = some r) :
  Calls Try.prog 8 #[.agg #[.slice A0_0 l0_0.length c0_0, .slice A0_1 l0_1.length c0_1, .slice A0_2 l0_2.length c0_2], .string a1] w fun e w' => e = .returned (.bool r) ∧ Below w.heap.size w w' := by
 have hu26 := Try.underlying26
 have hu32 := Try.underlying32
 have HRT := Aside0.mk hrt
 clear hrt
 have HR0_0 := Aside0.mk hr0_0
 have HC0_0 := Aside0.mk hc0_0
 clear hr0_0 hc0_0
 have HR0_1 := Aside0.mk hr0_1
 have HC0_1 := Aside0.mk hc0_1
 clear hr0_1 hc0_1
 have HR0_2 := Aside0.mk hr0_2
 have HC0_2 := Aside0.mk hc0_2
 clear hr0_2 hc0_2
 have HB := Aside0.mk (Below.refl w.heap.size w)
 have H : (if (a1.size : Int) > 1048576 then (some true) else ((laws_szRig.f k l0_0 l0_1 l0_2 1048576).bind fun t257 => (if t257 < 0 then (some true) else ((laws_toRig.f k l0_0 l0_1 l0_2).bind fun bt258 => ((spec_FreePins.f k bt258.1 bt258.2.1 bt258.2.2 a1).bind fun bt267 => ((laws_toRig.f k l0_0 l0_1 l0_2).bind fun bt271 => ((impl_FreePins.f k bt271.1 bt271.2.1 bt271.2.2 a1).bind fun bt281 => ((laws_eqInt64S.f k bt281.1 bt267.1).bind fun t285 => (if t285 = true then (laws_FnExactFreePins.j0 k a1 bt267.1 bt267.2 bt281.1 bt281.2 (bt281.2 != bt267.2) l0_0 l0_1 l0_2 bt271.1 bt271.2.1 bt271.2.2) else (laws_FnExactFreePins.j0 k a1 bt267.1 bt267.2 bt281.1 bt281.2 true l0_0 l0_1 l0_2 bt271.1 bt271.2.1 bt271.2.2)))))))))) = some r := h
 clear h
 have HF_ := Aside0.mk H
 clear H
 go_enter Try.func8, Try.ntmps8
 go_upto_if 18 with (first | ((with_reducible refine gate_dst (N := 2) rfl ?_); refine box_event ?hg (N := 2) ?hd (cs := #[.slice A0_0 l0_0.length c0_0, .slice A0_1 l0_1.length c0_1, .slice A0_2 l0_2.length c0_2]) (t := 26) ?hr ?_; (case hd => rfl); (case hg => rfl); (case hr => first | (go_simp; done) | (go_simp; rfl)); intro gb256 hg w3 hbox hb; have n0_ := pS HB hb; have n1_ := Aside0.mk (hbox); have n2_ := pG HB hg; have n3_ := pG HB hg; clear HB; have HB := n0_; have BK256 := n1_; have GW256 := n2_; have GE256 := n3_; clear n0_ n1_ n2_ n3_; clear hb hbox hg))
 (try simp only [Act.put, List.setIfInBounds_toArray, List.set_cons_zero, List.set_cons_succ])
 have H := HF_.out
 clear HF_
 by_cases c4 : (a1.size : Int) > 1048576
 ·rw [if_pos c4] at H
  have c4b0 : decide (1048576 < (a1.size : Int)) = true := decide_eq_true c4
  have c4b1 : decide (1048576 < a1.size) = true := decide_eq_true (by omega)
  clear c4
  (first | rw [c4b0] | (simp only [i64_w, i32_w]; rw [c4b0]) | skip)
  obtain rfl := Option.some.inj H
  simp only [Option.some.injEq, Prod.mk.injEq] at H
  obtain ⟨rfl⟩ := H
  go_wp2
  go_ret
  exact ⟨by first | rfl | (simp [errW_none, errW_some] <;> rfl) | (simp [*, errW_none, errW_some] <;> rfl), pR HB⟩
 ·rw [if_neg c4] at H
  have c4b0 : decide (1048576 < (a1.size : Int)) = false := decide_eq_false c4
  have c4b1 : decide (1048576 < a1.size) = false := decide_eq_false (by omega)
  clear c4
  (first | rw [c4b0] | (simp only [i64_w, i32_w]; rw [c4b0]) | skip)
  replace H := Option.bind_eq_some_iff.mp H
  obtain ⟨t257, A50, H⟩ := H
  replace H : (if t257 < 0 then (some true) else ((laws_toRig.f k l0_0 l0_1 l0_2).bind fun bt258 => ((spec_FreePins.f k bt258.1 bt258.2.1 bt258.2.2 a1).bind fun bt267 => ((laws_toRig.f k l0_0 l0_1 l0_2).bind fun bt271 => ((impl_FreePins.f k bt271.1 bt271.2.1 bt271.2.2 a1).bind fun bt281 => ((laws_eqInt64S.f k bt281.1 bt267.1).bind fun t285 => (if t285 = true then (laws_FnExactFreePins.j0 k a1 bt267.1 bt267.2 bt281.1 bt281.2 (bt281.2 != bt267.2) l0_0 l0_1 l0_2 bt271.1 bt271.2.1 bt271.2.2) else (laws_FnExactFreePins.j0 k a1 bt267.1 bt267.2 bt281.1 bt281.2 true l0_0 l0_1 l0_2 bt271.1 bt271.2.1 bt271.2.2)))))))) = some r := H
  have A5 := Aside0.mk A50
  clear A50
  by_cases c6 : t257 < 0
  ·rw [if_pos c6] at H
   have c6b0 : decide (t257 < 0) = true := decide_eq_true c6
   clear c6
   obtain rfl := Option.some.inj H
   simp only [Option.some.injEq, Prod.mk.injEq] at H
   obtain ⟨rfl⟩ := H
   obtain ⟨hcz7_0, hcz7_1, hcz7_2, hfz7_0, hfz7_1, hfz7_2⟩ := cz3 BK256
   go_wp2_with (first | ((with_reducible refine gate_callee (f := 10) rfl ?_); refine goesL_ (some 21) rfl rfl Try.func10 (by kernel_rfl) rfl #[.agg #[.slice A0_0 l0_0.length c0_0, .slice A0_1 l0_1.length c0_1, .slice A0_2 l0_2.length c0_2], .int .i64 1048576] rfl (by (try simp only [List.map_toArray, List.map_cons, List.map_nil]); first | done | rfl | (simp only [List.length_drop, List.length_take]; rfl)) ?_; (with_reducible refine (laws_szRig.calls k _ _ l0_0 _ _ l0_1 _ _ l0_2 1048576 t257 _ ?side1 ?side2 ?side3 ?side4 ?side5 ?side6 A5.out).mono ?_); (case side1 => repeat (first | exact (Kd.C_below HR0_0.out HB.out) | (with_reducible refine Kd.C_alloc ?_ _) | (with_reducible refine Kd.C_drewN ?_ _) | (with_reducible refine Kd.C_drew ?_))); (case side2 => exact HC0_0.out); (case side3 => repeat (first | exact (Kd.C_below HR0_1.out HB.out) | (with_reducible refine Kd.C_alloc ?_ _) | (with_reducible refine Kd.C_drewN ?_ _) | (with_reducible refine Kd.C_drew ?_))); (case side4 => exact HC0_1.out); (case side5 => repeat (first | exact (Kd.C_below HR0_2.out HB.out) | (with_reducible refine Kd.C_alloc ?_ _) | (with_reducible refine Kd.C_drewN ?_ _) | (with_reducible refine Kd.C_drew ?_))); (case side6 => exact HC0_2.out); rintro e w8 ⟨rfl, hb⟩; refine ⟨_, rfl, ?_⟩; have n0_ := pB BK256 hb; have n1_ := pS HB hb; clear BK256 HB; have BK256 := n0_; have HB := n1_; clear n0_ n1_; (try clear hb); (try clear hb2); (try clear hk); (try clear hi)))
   go_ret
   exact ⟨by first | rfl | (simp [errW_none, errW_some] <;> rfl) | (simp [*, errW_none, errW_some] <;> rfl), pR HB⟩
  ·rw [if_neg c6] at H
   have c6b0 : decide (t257 < 0) = false := decide_eq_false c6
   clear c6
   replace H := Option.bind_eq_some_iff.mp H
   obtain ⟨⟨t258, t261, t264⟩, A90, H⟩ := H
   replace H : ((spec_FreePins.f k t258 t261 t264 a1).bind fun bt267 => ((laws_toRig.f k l0_0 l0_1 l0_2).bind fun bt271 => ((impl_FreePins.f k bt271.1 bt271.2.1 bt271.2.2 a1).bind fun bt281 => ((laws_eqInt64S.f k bt281.1 bt267.1).bind fun t285 => (if t285 = true then (laws_FnExactFreePins.j0 k a1 bt267.1 bt267.2 bt281.1 bt281.2 (bt281.2 != bt267.2) l0_0 l0_1 l0_2 bt271.1 bt271.2.1 bt271.2.2) else (laws_FnExactFreePins.j0 k a1 bt267.1 bt267.2 bt281.1 bt281.2 true l0_0 l0_1 l0_2 bt271.1 bt271.2.1 bt271.2.2)))))) = some r := H
   have A9 := Aside0.mk A90
   clear A90
   replace H := Option.bind_eq_some_iff.mp H
   obtain ⟨⟨t267, t270⟩, A100, H⟩ := H
   replace H : ((laws_toRig.f k l0_0 l0_1 l0_2).bind fun bt271 => ((impl_FreePins.f k bt271.1 bt271.2.1 bt271.2.2 a1).bind fun bt281 => ((laws_eqInt64S.f k bt281.1 t267).bind fun t285 => (if t285 = true then (laws_FnExactFreePins.j0 k a1 t267 t270 bt281.1 bt281.2 (bt281.2 != t270) l0_0 l0_1 l0_2 bt271.1 bt271.2.1 bt271.2.2) else (laws_FnExactFreePins.j0 k a1 t267 t270 bt281.1 bt281.2 true l0_0 l0_1 l0_2 bt271.1 bt271.2.1 bt271.2.2))))) = some r := H
   have A10 := Aside0.mk A100
   clear A100
   replace H := Option.bind_eq_some_iff.mp H
   obtain ⟨⟨t271, t274, t277⟩, A110, H⟩ := H
   replace H : ((impl_FreePins.f k t271 t274 t277 a1).bind fun bt281 => ((laws_eqInt64S.f k bt281.1 t267).bind fun t285 => (if t285 = true then (laws_FnExactFreePins.j0 k a1 t267 t270 bt281.1 bt281.2 (bt281.2 != t270) l0_0 l0_1 l0_2 t271 t274 t277) else (laws_FnExactFreePins.j0 k a1 t267 t270 bt281.1 bt281.2 true l0_0 l0_1 l0_2 t271 t274 t277)))) = some r := H
   have A11 := Aside0.mk A110
   clear A110
   replace H := Option.bind_eq_some_iff.mp H
   obtain ⟨⟨t281, t284⟩, A120, H⟩ := H
   replace H : ((laws_eqInt64S.f k t281 t267).bind fun t285 => (if t285 = true then (laws_FnExactFreePins.j0 k a1 t267 t270 t281 t284 (t284 != t270) l0_0 l0_1 l0_2 t271 t274 t277) else (laws_FnExactFreePins.j0 k a1 t267 t270 t281 t284 true l0_0 l0_1 l0_2 t271 t274 t277))) = some r := H
   have A12 := Aside0.mk A120
   clear A120
   have HC13 := Aside0.mk H
   clear H
   obtain ⟨hcz14_0, hcz14_1, hcz14_2, hfz14_0, hfz14_1, hfz14_2⟩ := cz3 BK256
   go_upto_region 10 with (first | ((with_reducible refine gate_callee (f := 10) rfl ?_); refine goesL_ (some 21) rfl rfl Try.func10 (by kernel_rfl) rfl #[.agg #[.slice A0_0 l0_0.length c0_0, .slice A0_1 l0_1.length c0_1, .slice A0_2 l0_2.length c0_2], .int .i64 1048576] rfl (by (try simp only [List.map_toArray, List.map_cons, List.map_nil]); first | done | rfl | (simp only [List.length_drop, List.length_take]; rfl)) ?_; (with_reducible refine (laws_szRig.calls k _ _ l0_0 _ _ l0_1 _ _ l0_2 1048576 t257 _ ?side1 ?side2 ?side3 ?side4 ?side5 ?side6 A5.out).mono ?_); (case side1 => repeat (first | exact (Kd.C_below HR0_0.out HB.out) | (with_reducible refine Kd.C_alloc ?_ _) | (with_reducible refine Kd.C_drewN ?_ _) | (with_reducible refine Kd.C_drew ?_))); (case side2 => exact HC0_0.out); (case side3 => repeat (first | exact (Kd.C_below HR0_1.out HB.out) | (with_reducible refine Kd.C_alloc ?_ _) | (with_reducible refine Kd.C_drewN ?_ _) | (with_reducible refine Kd.C_drew ?_))); (case side4 => exact HC0_1.out); (case side5 => repeat (first | exact (Kd.C_below HR0_2.out HB.out) | (with_reducible refine Kd.C_alloc ?_ _) | (with_reducible refine Kd.C_drewN ?_ _) | (with_reducible refine Kd.C_drew ?_))); (case side6 => exact HC0_2.out); rintro e w15 ⟨rfl, hb⟩; refine ⟨_, rfl, ?_⟩; have n0_ := pB BK256 hb; have n1_ := pS HB hb; clear BK256 HB; have BK256 := n0_; have HB := n1_; clear n0_ n1_; (try clear hb); (try clear hb2); (try clear hk); (try clear hi); obtain ⟨hcz16_0, hcz16_1, hcz16_2, hfz16_0, hfz16_1, hfz16_2⟩ := cz3 BK256) | ((with_reducible refine gate_callee (f := 12) rfl ?_); refine goesL_ (some 26) rfl rfl Try.func12 (by kernel_rfl) rfl #[.agg #[.slice A0_0 l0_0.length c0_0, .slice A0_1 l0_1.length c0_1, .slice A0_2 l0_2.length c0_2]] rfl (by (try simp only [List.map_toArray, List.map_cons, List.map_nil]); first | done | rfl | (simp only [List.length_drop, List.length_take]; rfl)) ?_; (with_reducible refine (laws_toRig.calls k _ _ l0_0 _ _ l0_1 _ _ l0_2 t258 t261 t264 _ ?side1 ?side2 ?side3 ?side4 ?side5 ?side6 A9.out).mono ?_); (case side1 => repeat (first | exact (Kd.C_below HR0_0.out HB.out) | (with_reducible refine Kd.C_alloc ?_ _) | (with_reducible refine Kd.C_drewN ?_ _) | (with_reducible refine Kd.C_drew ?_))); (case side2 => exact HC0_0.out); (case side3 => repeat (first | exact (Kd.C_below HR0_1.out HB.out) | (with_reducible refine Kd.C_alloc ?_ _) | (with_reducible refine Kd.C_drewN ?_ _) | (with_reducible refine Kd.C_drew ?_))); (case side4 => exact HC0_1.out); (case side5 => repeat (first | exact (Kd.C_below HR0_2.out HB.out) | (with_reducible refine Kd.C_alloc ?_ _) | (with_reducible refine Kd.C_drewN ?_ _) | (with_reducible refine Kd.C_drew ?_))); (case side6 => exact HC0_2.out); rintro e w17 ⟨v259, v262, v265, rfl, ho0, ho1, ho2, hb⟩; refine ⟨_, rfl, ?_⟩; have n0_ := Aside0.mk (Kd.R_lower ho0 (below_size (by repeat (first | (with_reducible first | exact HB.out | apply below_alloc | apply pw_below_drewN | apply below_drew1 | refine below_set ?_ GE256.out) | exact HB.out)))); have n1_ := Aside0.mk (Kd.R_lower ho1 (below_size (by repeat (first | (with_reducible first | exact HB.out | apply below_alloc | apply pw_below_drewN | apply below_drew1 | refine below_set ?_ GE256.out) | exact HB.out)))); have n2_ := Aside0.mk (Kd.R_lower ho2 (below_size (by repeat (first | (with_reducible first | exact HB.out | apply below_alloc | apply pw_below_drewN | apply below_drew1 | refine below_set ?_ GE256.out) | exact HB.out)))); have n3_ := pB BK256 hb; have n4_ := pS HB hb; clear BK256 HB; have HO260 := n0_; have HO263 := n1_; have HO266 := n2_; have BK256 := n3_; have HB := n4_; clear n0_ n1_ n2_ n3_ n4_; (try clear hb); (try clear hb2); (try clear hk); (try clear hi); (try clear ho0); (try clear ho1); (try clear ho2); obtain ⟨Ao18, co18, eo18⟩ := Kd.R_slice HO260.out; subst eo18; obtain ⟨Ao19, co19, eo19⟩ := Kd.R_slice HO263.out; subst eo19; obtain ⟨Ao20, co20, eo20⟩ := Kd.R_slice HO266.out; subst eo20) | ((with_reducible refine gate_callee (f := 28) rfl ?_); refine goesL_ (some 28) rfl rfl Try.func28 (by kernel_rfl) rfl #[.agg #[.slice Ao18 t258.length co18, .slice Ao19 t261.length co19, .slice Ao20 t264.length co20], .string a1] rfl (by (try simp only [List.map_toArray, List.map_cons, List.map_nil]); first | done | rfl | (simp only [List.length_drop, List.length_take]; rfl)) ?_; (with_reducible refine (spec_FreePins.calls k _ _ t258 _ _ t261 _ _ t264 a1 t267 t270 _ ?side1 ?side2 ?side3 ?side4 ?side5 ?side6 A10.out).mono ?_); (case side1 => repeat (first | exact (Kd.R_reads' HO260.out).2.2 | (with_reducible refine Kd.C_alloc ?_ _) | (with_reducible refine Kd.C_drewN ?_ _) | (with_reducible refine Kd.C_drew ?_))); (case side2 => exact (Kd.R_reads' HO260.out).2.1); (case side3 => repeat (first | exact (Kd.R_reads' HO263.out).2.2 | (with_reducible refine Kd.C_alloc ?_ _) | (with_reducible refine Kd.C_drewN ?_ _) | (with_reducible refine Kd.C_drew ?_))); (case side4 => exact (Kd.R_reads' HO263.out).2.1); (case side5 => repeat (first | exact (Kd.R_reads' HO266.out).2.2 | (with_reducible refine Kd.C_alloc ?_ _) | (with_reducible refine Kd.C_drewN ?_ _) | (with_reducible refine Kd.C_drew ?_))); (case side6 => exact (Kd.R_reads' HO266.out).2.1); rintro e w21 ⟨v268, rfl, ho0, hb⟩; refine ⟨_, rfl, ?_⟩; have n0_ := Aside0.mk (Kd.R_below (by (with_reducible repeat (first | apply Kd.R_alloc | apply Kd.R_drewN | apply Kd.R_drew)); exact HO260.out) hb); have n1_ := Aside0.mk (Kd.R_below (by (with_reducible repeat (first | apply Kd.R_alloc | apply Kd.R_drewN | apply Kd.R_drew)); exact HO263.out) hb); have n2_ := Aside0.mk (Kd.R_below (by (with_reducible repeat (first | apply Kd.R_alloc | apply Kd.R_drewN | apply Kd.R_drew)); exact HO266.out) hb); have n3_ := Aside0.mk (Kd.R_lower ho0 (below_size (by repeat (first | (with_reducible first | exact HB.out | apply below_alloc | apply pw_below_drewN | apply below_drew1 | refine below_set ?_ GE256.out) | exact HB.out)))); have n4_ := pB BK256 hb; have n5_ := pS HB hb; clear HO260 HO263; clear HO266 BK256 HB; have HO260 := n0_; have HO263 := n1_; have HO266 := n2_; have HO269 := n3_; have BK256 := n4_; have HB := n5_; clear n0_ n1_ n2_ n3_ n4_ n5_; (try clear hb); (try clear hb2); (try clear hk); (try clear hi); (try clear ho0); obtain ⟨hcz22_0, hcz22_1, hcz22_2, hfz22_0, hfz22_1, hfz22_2⟩ := cz3 BK256) | ((with_reducible refine gate_callee (f := 12) rfl ?_); refine goesL_ (some 32) rfl rfl Try.func12 (by kernel_rfl) rfl #[.agg #[.slice A0_0 l0_0.length c0_0, .slice A0_1 l0_1.length c0_1, .slice A0_2 l0_2.length c0_2]] rfl (by (try simp only [List.map_toArray, List.map_cons, List.map_nil]); first | done | rfl | (simp only [List.length_drop, List.length_take]; rfl)) ?_; (with_reducible refine (laws_toRig.calls k _ _ l0_0 _ _ l0_1 _ _ l0_2 t271 t274 t277 _ ?side1 ?side2 ?side3 ?side4 ?side5 ?side6 A11.out).mono ?_); (case side1 => repeat (first | exact (Kd.C_below HR0_0.out HB.out) | (with_reducible refine Kd.C_alloc ?_ _) | (with_reducible refine Kd.C_drewN ?_ _) | (with_reducible refine Kd.C_drew ?_))); (case side2 => exact HC0_0.out); (case side3 => repeat (first | exact (Kd.C_below HR0_1.out HB.out) | (with_reducible refine Kd.C_alloc ?_ _) | (with_reducible refine Kd.C_drewN ?_ _) | (with_reducible refine Kd.C_drew ?_))); (case side4 => exact HC0_1.out); (case side5 => repeat (first | exact (Kd.C_below HR0_2.out HB.out) | (with_reducible refine Kd.C_alloc ?_ _) | (with_reducible refine Kd.C_drewN ?_ _) | (with_reducible refine Kd.C_drew ?_))); (case side6 => exact HC0_2.out); rintro e w23 ⟨v272, v275, v278, rfl, ho0, ho1, ho2, hb⟩; refine ⟨_, rfl, ?_⟩; have n0_ := Aside0.mk (Kd.R_elder' (by (with_reducible repeat (first | apply Kd.R_alloc | apply Kd.R_drewN | apply Kd.R_drew)); exact HO260.out) (Kd.R_base ho0) hb); have n1_ := Aside0.mk (Kd.R_elder' (by (with_reducible repeat (first | apply Kd.R_alloc | apply Kd.R_drewN | apply Kd.R_drew)); exact HO263.out) (Kd.R_base ho1) hb); have n2_ := Aside0.mk (Kd.R_elder' (by (with_reducible repeat (first | apply Kd.R_alloc | apply Kd.R_drewN | apply Kd.R_drew)); exact HO266.out) (Kd.R_base ho2) hb); have n3_ := Aside0.mk (Kd.R_below (by (with_reducible repeat (first | apply Kd.R_alloc | apply Kd.R_drewN | apply Kd.R_drew)); exact HO269.out) hb); have n4_ := Aside0.mk (Kd.R_lower (Kd.R_new' ho0 (Kd.R_lt (by (with_reducible repeat (first | apply Kd.R_alloc | apply Kd.R_drewN | apply Kd.R_drew)); exact HO260.out))) (below_size (by repeat (first | (with_reducible first | exact HB.out | apply below_alloc | apply pw_below_drewN | apply below_drew1 | refine below_set ?_ GE256.out) | exact HB.out)))); have n5_ := Aside0.mk (Kd.R_lower (Kd.R_new' ho1 (Kd.R_lt (by (with_reducible repeat (first | apply Kd.R_alloc | apply Kd.R_drewN | apply Kd.R_drew)); exact HO263.out))) (below_size (by repeat (first | (with_reducible first | exact HB.out | apply below_alloc | apply pw_below_drewN | apply below_drew1 | refine below_set ?_ GE256.out) | exact HB.out)))); have n6_ := Aside0.mk (Kd.R_lower (Kd.R_new' ho2 (Kd.R_lt (by (with_reducible repeat (first | apply Kd.R_alloc | apply Kd.R_drewN | apply Kd.R_drew)); exact HO266.out))) (below_size (by repeat (first | (with_reducible first | exact HB.out | apply below_alloc | apply pw_below_drewN | apply below_drew1 | refine below_set ?_ GE256.out) | exact HB.out)))); have n7_ := pB BK256 hb; have n8_ := pS HB hb; clear HO260 HO263; clear HO266 HO269; clear BK256 HB; have HO260 := n0_; have HO263 := n1_; have HO266 := n2_; have HO269 := n3_; have HO273 := n4_; have HO276 := n5_; have HO279 := n6_; have BK256 := n7_; have HB := n8_; clear n0_ n1_ n2_ n3_ n4_ n5_ n6_ n7_ n8_; (try clear hb); (try clear hb2); (try clear hk); (try clear hi); (try clear ho0); (try clear ho1); (try clear ho2)) | ((with_reducible refine gate_dst (N := 8) rfl ?_); refine box_event ?hg (N := 8) ?hd (cs := #[.slice none 0 0, .slice none 0 0, .slice none 0 0]) (t := 32) ?hr ?_; (case hd => rfl); (case hg => rfl); (case hr => first | (go_simp; done) | (go_simp; rfl)); intro gb280 hg w24 hbox hb; have n0_ := Aside0.mk (Kd.R_below (by (with_reducible repeat (first | apply Kd.R_alloc | apply Kd.R_drewN | apply Kd.R_drew)); exact HO260.out) hb); have n1_ := Aside0.mk (Kd.R_below (by (with_reducible repeat (first | apply Kd.R_alloc | apply Kd.R_drewN | apply Kd.R_drew)); exact HO263.out) hb); have n2_ := Aside0.mk (Kd.R_below (by (with_reducible repeat (first | apply Kd.R_alloc | apply Kd.R_drewN | apply Kd.R_drew)); exact HO266.out) hb); have n3_ := Aside0.mk (Kd.R_below (by (with_reducible repeat (first | apply Kd.R_alloc | apply Kd.R_drewN | apply Kd.R_drew)); exact HO269.out) hb); have n4_ := Aside0.mk (Kd.R_below (by (with_reducible repeat (first | apply Kd.R_alloc | apply Kd.R_drewN | apply Kd.R_drew)); exact HO273.out) hb); have n5_ := Aside0.mk (Kd.R_below (by (with_reducible repeat (first | apply Kd.R_alloc | apply Kd.R_drewN | apply Kd.R_drew)); exact HO276.out) hb); have n6_ := Aside0.mk (Kd.R_below (by (with_reducible repeat (first | apply Kd.R_alloc | apply Kd.R_drewN | apply Kd.R_drew)); exact HO279.out) hb); have n7_ := pB BK256 hb; have n8_ := pS HB hb; have n9_ := Aside0.mk (hbox); have n10_ := pG HB hg; have n11_ := pG HB hg; have n12_ := pN BK256 hg; have n13_ := pM BK256 hg; clear HO260 HO263; clear HO266 HO269; clear HO273 HO276; clear HO279 BK256 HB; have HO260 := n0_; have HO263 := n1_; have HO266 := n2_; have HO269 := n3_; have HO273 := n4_; have HO276 := n5_; have HO279 := n6_; have BK256 := n7_; have HB := n8_; have BK280 := n9_; have GW280 := n10_; have GE280 := n11_; have NB256_280 := n12_; have NB280_256 := n13_; clear n0_ n1_ n2_ n3_ n4_ n5_ n6_ n7_ n8_ n9_ n10_ n11_ n12_ n13_; clear hb hbox hg; obtain ⟨Ao25, co25, eo25⟩ := Kd.R_slice HO273.out; subst eo25; have hnb26 := NB280_256.out; have hnc26 := NB256_280.out; obtain ⟨hcz27_0, hcz27_1, hcz27_2, hfz27_0, hfz27_1, hfz27_2⟩ := cz3 BK280; obtain ⟨Ao28, co28, eo28⟩ := Kd.R_slice HO276.out; subst eo28; obtain ⟨Ao29, co29, eo29⟩ := Kd.R_slice HO279.out; subst eo29) | ((with_reducible refine gate_callee (f := 29) rfl ?_); refine goesL_ (some 36) rfl rfl Try.func29 (by kernel_rfl) rfl #[.agg #[.slice Ao25 t271.length co25, .slice Ao28 t274.length co28, .slice Ao29 t277.length co29], .string a1] rfl (by (try simp only [List.map_toArray, List.map_cons, List.map_nil]); first | done | rfl | (simp only [List.length_drop, List.length_take]; rfl)) ?_; (with_reducible refine (impl_FreePins.calls k _ _ t271 _ _ t274 _ _ t277 a1 t281 t284 _ ?side1 ?side2 ?side3 ?side4 ?side5 ?side6 A12.out).mono ?_); (case side1 => refine (Kd.R_reads' (e := 69) (base := w.heap.size) (ok := fun k_ => (True ∧ some k_ ≠ (.slice Ao18 t258.length co18 : Value).ownBlock)) (n := t271.length) (c := co25) ?_).2.2; exact (by (with_reducible repeat (first | apply Kd.R_alloc | apply Kd.R_drewN | apply Kd.R_drew)); exact (Kd.R_mono (Kd.R_far (p := ⟨gb280, 2, none⟩) (Kd.R_far (p := ⟨gb280, 1, none⟩) (Kd.R_far (p := ⟨gb280, 0, none⟩) (Kd.R_types HO273.out BK280.out (by decide)) (fun _ hk => hk.2) (.slice Ao25 t271.length co25)) (fun _ hk => hk.2) (.slice Ao28 t274.length co28)) (fun _ hk => hk.2) (.slice Ao29 t277.length co29)) (fun _ h_ => h_.1)))); (case side2 => exact (Kd.R_reads' HO273.out).2.1); (case side3 => refine (Kd.R_reads' (e := 9) (base := w.heap.size) (ok := fun k_ => (True ∧ some k_ ≠ (.slice Ao19 t261.length co19 : Value).ownBlock)) (n := t274.length) (c := co28) ?_).2.2; exact (by (with_reducible repeat (first | apply Kd.R_alloc | apply Kd.R_drewN | apply Kd.R_drew)); exact (Kd.R_mono (Kd.R_far (p := ⟨gb280, 2, none⟩) (Kd.R_far (p := ⟨gb280, 1, none⟩) (Kd.R_far (p := ⟨gb280, 0, none⟩) (Kd.R_types HO276.out BK280.out (by decide)) (fun _ hk => hk.2) (.slice Ao25 t271.length co25)) (fun _ hk => hk.2) (.slice Ao28 t274.length co28)) (fun _ hk => hk.2) (.slice Ao29 t277.length co29)) (fun _ h_ => h_.1)))); (case side4 => exact (Kd.R_reads' HO276.out).2.1); (case side5 => refine (Kd.R_reads' (e := 40) (base := w.heap.size) (ok := fun k_ => (True ∧ some k_ ≠ (.slice Ao20 t264.length co20 : Value).ownBlock)) (n := t277.length) (c := co29) ?_).2.2; exact (by (with_reducible repeat (first | apply Kd.R_alloc | apply Kd.R_drewN | apply Kd.R_drew)); exact (Kd.R_mono (Kd.R_far (p := ⟨gb280, 2, none⟩) (Kd.R_far (p := ⟨gb280, 1, none⟩) (Kd.R_far (p := ⟨gb280, 0, none⟩) (Kd.R_types HO279.out BK280.out (by decide)) (fun _ hk => hk.2) (.slice Ao25 t271.length co25)) (fun _ hk => hk.2) (.slice Ao28 t274.length co28)) (fun _ hk => hk.2) (.slice Ao29 t277.length co29)) (fun _ h_ => h_.1)))); (case side6 => exact (Kd.R_reads' HO279.out).2.1); rintro e w30 ⟨v282, rfl, ho0, hb⟩; refine ⟨_, rfl, ?_⟩; have n0_ := Aside0.mk (Kd.R_below (by (with_reducible repeat (first | apply Kd.R_alloc | apply Kd.R_drewN | apply Kd.R_drew)); exact (Kd.R_mono (Kd.R_far (p := ⟨gb280, 2, none⟩) (Kd.R_far (p := ⟨gb280, 1, none⟩) (Kd.R_far (p := ⟨gb280, 0, none⟩) (Kd.R_types HO260.out BK280.out (by decide)) (fun _ hk => hk.2) (.slice Ao25 t271.length co25)) (fun _ hk => hk.2) (.slice Ao28 t274.length co28)) (fun _ hk => hk.2) (.slice Ao29 t277.length co29)) (fun _ h_ => h_.1))) hb); have n1_ := Aside0.mk (Kd.R_below (by (with_reducible repeat (first | apply Kd.R_alloc | apply Kd.R_drewN | apply Kd.R_drew)); exact (Kd.R_mono (Kd.R_far (p := ⟨gb280, 2, none⟩) (Kd.R_far (p := ⟨gb280, 1, none⟩) (Kd.R_far (p := ⟨gb280, 0, none⟩) (Kd.R_types HO263.out BK280.out (by decide)) (fun _ hk => hk.2) (.slice Ao25 t271.length co25)) (fun _ hk => hk.2) (.slice Ao28 t274.length co28)) (fun _ hk => hk.2) (.slice Ao29 t277.length co29)) (fun _ h_ => h_.1))) hb); have n2_ := Aside0.mk (Kd.R_below (by (with_reducible repeat (first | apply Kd.R_alloc | apply Kd.R_drewN | apply Kd.R_drew)); exact (Kd.R_mono (Kd.R_far (p := ⟨gb280, 2, none⟩) (Kd.R_far (p := ⟨gb280, 1, none⟩) (Kd.R_far (p := ⟨gb280, 0, none⟩) (Kd.R_types HO266.out BK280.out (by decide)) (fun _ hk => hk.2) (.slice Ao25 t271.length co25)) (fun _ hk => hk.2) (.slice Ao28 t274.length co28)) (fun _ hk => hk.2) (.slice Ao29 t277.length co29)) (fun _ h_ => h_.1))) hb); have n3_ := Aside0.mk (Kd.R_elder' (by (with_reducible repeat (first | apply Kd.R_alloc | apply Kd.R_drewN | apply Kd.R_drew)); exact (Kd.R_mono (Kd.R_far (p := ⟨gb280, 2, none⟩) (Kd.R_far (p := ⟨gb280, 1, none⟩) (Kd.R_far (p := ⟨gb280, 0, none⟩) (Kd.R_types HO269.out BK280.out (by decide)) (fun _ hk => hk.2) (.slice Ao25 t271.length co25)) (fun _ hk => hk.2) (.slice Ao28 t274.length co28)) (fun _ hk => hk.2) (.slice Ao29 t277.length co29)) (fun _ h_ => h_.1))) (Kd.R_base ho0) hb); have n4_ := Aside0.mk (Kd.R_below (by (with_reducible repeat (first | apply Kd.R_alloc | apply Kd.R_drewN | apply Kd.R_drew)); exact (Kd.R_mono (Kd.R_far (p := ⟨gb280, 2, none⟩) (Kd.R_far (p := ⟨gb280, 1, none⟩) (Kd.R_far (p := ⟨gb280, 0, none⟩) (Kd.R_types HO273.out BK280.out (by decide)) (fun _ hk => hk.2) (.slice Ao25 t271.length co25)) (fun _ hk => hk.2) (.slice Ao28 t274.length co28)) (fun _ hk => hk.2) (.slice Ao29 t277.length co29)) (fun _ h_ => h_.1))) hb); have n5_ := Aside0.mk (Kd.R_below (by (with_reducible repeat (first | apply Kd.R_alloc | apply Kd.R_drewN | apply Kd.R_drew)); exact (Kd.R_mono (Kd.R_far (p := ⟨gb280, 2, none⟩) (Kd.R_far (p := ⟨gb280, 1, none⟩) (Kd.R_far (p := ⟨gb280, 0, none⟩) (Kd.R_types HO276.out BK280.out (by decide)) (fun _ hk => hk.2) (.slice Ao25 t271.length co25)) (fun _ hk => hk.2) (.slice Ao28 t274.length co28)) (fun _ hk => hk.2) (.slice Ao29 t277.length co29)) (fun _ h_ => h_.1))) hb); have n6_ := Aside0.mk (Kd.R_below (by (with_reducible repeat (first | apply Kd.R_alloc | apply Kd.R_drewN | apply Kd.R_drew)); exact (Kd.R_mono (Kd.R_far (p := ⟨gb280, 2, none⟩) (Kd.R_far (p := ⟨gb280, 1, none⟩) (Kd.R_far (p := ⟨gb280, 0, none⟩) (Kd.R_types HO279.out BK280.out (by decide)) (fun _ hk => hk.2) (.slice Ao25 t271.length co25)) (fun _ hk => hk.2) (.slice Ao28 t274.length co28)) (fun _ hk => hk.2) (.slice Ao29 t277.length co29)) (fun _ h_ => h_.1))) hb); have n7_ := Aside0.mk (Kd.R_lower (Kd.R_new' ho0 (Kd.R_lt (by (with_reducible repeat (first | apply Kd.R_alloc | apply Kd.R_drewN | apply Kd.R_drew)); exact (Kd.R_mono (Kd.R_far (p := ⟨gb280, 2, none⟩) (Kd.R_far (p := ⟨gb280, 1, none⟩) (Kd.R_far (p := ⟨gb280, 0, none⟩) (Kd.R_types HO269.out BK280.out (by decide)) (fun _ hk => hk.2) (.slice Ao25 t271.length co25)) (fun _ hk => hk.2) (.slice Ao28 t274.length co28)) (fun _ hk => hk.2) (.slice Ao29 t277.length co29)) (fun _ h_ => h_.1))))) (below_size (by repeat (first | (with_reducible first | exact HB.out | apply below_alloc | apply pw_below_drewN | apply below_drew1 | refine below_set ?_ GE256.out | refine below_set ?_ GE280.out) | exact HB.out)))); have n8_ := Aside0.mk (blk_below (g := gb256) (o := .cells #[.slice A0_0 l0_0.length c0_0, .slice A0_1 l0_1.length c0_1, .slice A0_2 l0_2.length c0_2] 26 (0, 0)) (by (with_reducible repeat (first | refine blk_drewN ?_ _ | refine blk_drew ?_ | refine blk_alloc ?_ _)); refine blk_far ?_ NB256_280.out _; (with_reducible repeat (first | refine blk_drewN ?_ _ | refine blk_drew ?_ | refine blk_alloc ?_ _)); refine blk_far ?_ NB256_280.out _; (with_reducible repeat (first | refine blk_drewN ?_ _ | refine blk_drew ?_ | refine blk_alloc ?_ _)); refine blk_far ?_ NB256_280.out _; (with_reducible repeat (first | refine blk_drewN ?_ _ | refine blk_drew ?_ | refine blk_alloc ?_ _)); exact BK256.out) hb); have n9_ := Aside0.mk (blk_below (g := gb280) (o := .cells #[.slice Ao25 t271.length co25, .slice Ao28 t274.length co28, .slice Ao29 t277.length co29] 32 (0, 0)) (by (with_reducible repeat (first | refine blk_drewN ?_ _ | refine blk_drew ?_ | refine blk_alloc ?_ _)); refine blk_put (cs := #[.slice Ao25 t271.length co25, .slice Ao28 t274.length co28, .slice none 0 0]) ?_ 2 _ rfl; (with_reducible repeat (first | refine blk_drewN ?_ _ | refine blk_drew ?_ | refine blk_alloc ?_ _)); refine blk_put (cs := #[.slice Ao25 t271.length co25, .slice none 0 0, .slice none 0 0]) ?_ 1 _ rfl; (with_reducible repeat (first | refine blk_drewN ?_ _ | refine blk_drew ?_ | refine blk_alloc ?_ _)); refine blk_put (cs := #[.slice none 0 0, .slice none 0 0, .slice none 0 0]) ?_ 0 _ rfl; (with_reducible repeat (first | refine blk_drewN ?_ _ | refine blk_drew ?_ | refine blk_alloc ?_ _)); exact BK280.out) hb); have n10_ := pS HB hb; clear HO260 HO263; clear HO266 HO269; clear HO273 HO276; clear HO279 BK256; clear BK280 HB; have HO260 := n0_; have HO263 := n1_; have HO266 := n2_; have HO269 := n3_; have HO273 := n4_; have HO276 := n5_; have HO279 := n6_; have HO283 := n7_; have BK256 := n8_; have BK280 := n9_; have HB := n10_; clear n0_ n1_ n2_ n3_ n4_ n5_ n6_ n7_ n8_ n9_ n10_; (try clear hb); (try clear hb2); (try clear hk); (try clear hi); (try clear ho0)))
   (try simp only [Act.put, List.setIfInBounds_toArray, List.set_cons_zero, List.set_cons_succ])
   go_cut [47] (fun v47 wc => ∃ (kq : Nat) (x47_12 : Bool), v47 = .bool x47_12 ∧ Aside0 (laws_FnExactFreePins.j0 kq a1 t267 t270 t281 t284 x47_12 l0_0 l0_1 l0_2 t271 t274 t277 = some r) ∧ Aside0 (kq ≤ k) ∧ Aside0 (Kd.R (Kd.int .i64) 2 wc w.heap.size (fun k_ => some k_ ≠ (v282 : Value).ownBlock) v268 t267) ∧ Aside0 (Kd.R (Kd.int .i64) 2 wc w.heap.size (fun k_ => some k_ ≠ (v268 : Value).ownBlock) v282 t281) ∧ Aside0 (Kd.R k69 69 wc w.heap.size (fun _ => True) (.slice Ao25 t271.length co25) t271) ∧ Aside0 (Kd.R Kd.string 9 wc w.heap.size (fun _ => True) (.slice Ao28 t274.length co28) t274) ∧ Aside0 (Kd.R k40 40 wc w.heap.size (fun _ => True) (.slice Ao29 t277.length co29) t277) ∧ Aside0 (wc.heap[gb256]? = some (.cells #[(.slice A0_0 l0_0.length c0_0), (.slice A0_1 l0_1.length c0_1), (.slice A0_2 l0_2.length c0_2)] 26 (0, 0))) ∧ Aside0 (wc.heap[gb280]? = some (.cells #[(.slice Ao25 t271.length co25), (.slice Ao28 t274.length co28), (.slice Ao29 t277.length co29)] 32 (0, 0))) ∧ Aside0 (Below w.heap.size w wc))
   case first =>
    have H := HC13.out
    clear HC13
    replace H := Option.bind_eq_some_iff.mp H
    obtain ⟨t285, A310, H⟩ := H
    replace H : (if t285 = true then (laws_FnExactFreePins.j0 k a1 t267 t270 t281 t284 (t284 != t270) l0_0 l0_1 l0_2 t271 t274 t277) else (laws_FnExactFreePins.j0 k a1 t267 t270 t281 t284 true l0_0 l0_1 l0_2 t271 t274 t277)) = some r := H
    have A31 := Aside0.mk A310
    clear A310
    by_cases c32 : t285 = true
    ·subst c32
     have H1 : (laws_FnExactFreePins.j0 k a1 t267 t270 t281 t284 (t284 != t270) l0_0 l0_1 l0_2 t271 t274 t277) = some r := by rw [if_pos rfl] at H; exact H
     clear H
     have H := H1
     clear H1
     have H' := Aside0.mk H
     clear H
     obtain ⟨Ao33, co33, eo33⟩ := Kd.R_slice HO283.out
     subst eo33
     obtain ⟨Ao34, co34, eo34⟩ := Kd.R_slice HO269.out
     subst eo34
     go_wp2_with (first | ((with_reducible refine gate_callee (f := 30) rfl ?_); refine goesL_ (some 41) rfl rfl Try.func30 (by kernel_rfl) rfl #[.slice Ao33 t281.length co33, .slice Ao34 t267.length co34] rfl (by (try simp only [List.map_toArray, List.map_cons, List.map_nil]); first | done | rfl | (simp only [List.length_drop, List.length_take]; rfl)) ?_; (with_reducible refine (laws_eqInt64S.calls k _ _ t281 _ _ t267 true _ ?side1 ?side2 ?side3 ?side4 A31.out).mono ?_); (case side1 => repeat (first | exact (Kd.R_reads' HO283.out).2.2 | (with_reducible refine Kd.C_alloc ?_ _) | (with_reducible refine Kd.C_drewN ?_ _) | (with_reducible refine Kd.C_drew ?_))); (case side2 => exact (Kd.R_reads' HO283.out).2.1); (case side3 => repeat (first | exact (Kd.R_reads' HO269.out).2.2 | (with_reducible refine Kd.C_alloc ?_ _) | (with_reducible refine Kd.C_drewN ?_ _) | (with_reducible refine Kd.C_drew ?_))); (case side4 => exact (Kd.R_reads' HO269.out).2.1); rintro e w' ⟨rfl, ⟨nd, rfl⟩⟩; refine ⟨_, rfl, ?_⟩))
     go_meet
     case rel => exact ⟨_, ((t284 != t270)), (by first | rfl | (simp; done) | (simp [*]; done)), H', ⟨by first | omega | exact Nat.le_refl _⟩, ⟨by (with_reducible repeat (first | apply Kd.R_alloc | apply Kd.R_drewN | apply Kd.R_drew)); exact Kd.R_mono HO269.out (fun _ hk => hk.2)⟩, ⟨by (with_reducible repeat (first | apply Kd.R_alloc | apply Kd.R_drewN | apply Kd.R_drew)); exact Kd.R_mono HO283.out (fun _ hk => hk.2)⟩, ⟨by (with_reducible repeat (first | apply Kd.R_alloc | apply Kd.R_drewN | apply Kd.R_drew)); exact Kd.R_mono HO273.out (fun _ hk => trivial)⟩, ⟨by (with_reducible repeat (first | apply Kd.R_alloc | apply Kd.R_drewN | apply Kd.R_drew)); exact Kd.R_mono HO276.out (fun _ hk => trivial)⟩, ⟨by (with_reducible repeat (first | apply Kd.R_alloc | apply Kd.R_drewN | apply Kd.R_drew)); exact Kd.R_mono HO279.out (fun _ hk => trivial)⟩, ⟨by (with_reducible repeat (first | refine blk_drewN ?_ _ | refine blk_drew ?_ | refine blk_alloc ?_ _)); exact BK256.out⟩, ⟨by (with_reducible repeat (first | refine blk_drewN ?_ _ | refine blk_drew ?_ | refine blk_alloc ?_ _)); exact BK280.out⟩, ⟨by repeat (first | (with_reducible first | exact HB.out | apply below_alloc | apply pw_below_drewN | apply below_drew1 | refine below_set ?_ GE256.out | refine below_set ?_ GE280.out) | exact HB.out)⟩⟩
    ·replace c32 := Bool.eq_false_iff.mpr c32
     subst c32
     have H1 : (laws_FnExactFreePins.j0 k a1 t267 t270 t281 t284 true l0_0 l0_1 l0_2 t271 t274 t277) = some r := by rw [if_neg (show ¬ (false = true) by decide)] at H; exact H
     clear H
     have H := H1
     clear H1
     have H' := Aside0.mk H
     clear H
     obtain ⟨Ao35, co35, eo35⟩ := Kd.R_slice HO283.out
     subst eo35
     obtain ⟨Ao36, co36, eo36⟩ := Kd.R_slice HO269.out
     subst eo36
     go_wp2_with (first | ((with_reducible refine gate_callee (f := 30) rfl ?_); refine goesL_ (some 41) rfl rfl Try.func30 (by kernel_rfl) rfl #[.slice Ao35 t281.length co35, .slice Ao36 t267.length co36] rfl (by (try simp only [List.map_toArray, List.map_cons, List.map_nil]); first | done | rfl | (simp only [List.length_drop, List.length_take]; rfl)) ?_; (with_reducible refine (laws_eqInt64S.calls k _ _ t281 _ _ t267 false _ ?side1 ?side2 ?side3 ?side4 A31.out).mono ?_); (case side1 => repeat (first | exact (Kd.R_reads' HO283.out).2.2 | (with_reducible refine Kd.C_alloc ?_ _) | (with_reducible refine Kd.C_drewN ?_ _) | (with_reducible refine Kd.C_drew ?_))); (case side2 => exact (Kd.R_reads' HO283.out).2.1); (case side3 => repeat (first | exact (Kd.R_reads' HO269.out).2.2 | (with_reducible refine Kd.C_alloc ?_ _) | (with_reducible refine Kd.C_drewN ?_ _) | (with_reducible refine Kd.C_drew ?_))); (case side4 => exact (Kd.R_reads' HO269.out).2.1); rintro e w' ⟨rfl, ⟨nd, rfl⟩⟩; refine ⟨_, rfl, ?_⟩))
     go_meet
     case rel => exact ⟨_, (true), (by first | rfl | (simp; done) | (simp [*]; done)), H', ⟨by first | omega | exact Nat.le_refl _⟩, ⟨by (with_reducible repeat (first | apply Kd.R_alloc | apply Kd.R_drewN | apply Kd.R_drew)); exact Kd.R_mono HO269.out (fun _ hk => hk.2)⟩, ⟨by (with_reducible repeat (first | apply Kd.R_alloc | apply Kd.R_drewN | apply Kd.R_drew)); exact Kd.R_mono HO283.out (fun _ hk => hk.2)⟩, ⟨by (with_reducible repeat (first | apply Kd.R_alloc | apply Kd.R_drewN | apply Kd.R_drew)); exact Kd.R_mono HO273.out (fun _ hk => trivial)⟩, ⟨by (with_reducible repeat (first | apply Kd.R_alloc | apply Kd.R_drewN | apply Kd.R_drew)); exact Kd.R_mono HO276.out (fun _ hk => trivial)⟩, ⟨by (with_reducible repeat (first | apply Kd.R_alloc | apply Kd.R_drewN | apply Kd.R_drew)); exact Kd.R_mono HO279.out (fun _ hk => trivial)⟩, ⟨by (with_reducible repeat (first | refine blk_drewN ?_ _ | refine blk_drew ?_ | refine blk_alloc ?_ _)); exact BK256.out⟩, ⟨by (with_reducible repeat (first | refine blk_drewN ?_ _ | refine blk_drew ?_ | refine blk_alloc ?_ _)); exact BK280.out⟩, ⟨by repeat (first | (with_reducible first | exact HB.out | apply below_alloc | apply pw_below_drewN | apply below_drew1 | refine below_set ?_ GE256.out | refine below_set ?_ GE280.out) | exact HB.out)⟩⟩
   case rest =>
    clear HC13
    try clear c1
    try clear c2
    try clear p2
    try clear c3
    try clear c4
    try clear c4b0
    try clear c4b1
    try clear c6
    try clear c6b0
    try clear c8
    try clear c10
    try clear c12
    try clear c26
    try clear c28
    try clear c29
    try clear c30
    try clear c32
    try clear hcz14_0
    try clear hcz14_1
    try clear hcz14_2
    try clear hcz16_0
    try clear hcz16_1
    try clear hcz16_2
    try clear hcz22_0
    try clear hcz22_1
    try clear hcz22_2
    try clear hcz27_0
    try clear hcz27_1
    try clear hcz27_2
    try clear hcz7_0
    try clear hcz7_1
    try clear hcz7_2
    try clear hfz14_0
    try clear hfz14_1
    try clear hfz14_2
    try clear hfz16_0
    try clear hfz16_1
    try clear hfz16_2
    try clear hfz22_0
    try clear hfz22_1
    try clear hfz22_2
    try clear hfz27_0
    try clear hfz27_1
    try clear hfz27_2
    try clear hfz7_0
    try clear hfz7_1
    try clear hfz7_2
    obtain ⟨kq, x47_12, rfl, HA, HJ12, HO_6, HO_9, HO_281000, HO_281001, HO_281002, BK256, BK280, HB⟩ := hcut
    cases kq with
    | zero => exact absurd HA.out (by simp [laws_FnExactFreePins.j0])
    | succ kj12 =>
     have H := HA.out
     clear HA
     simp only [laws_FnExactFreePins.j0] at H
     by_cases c37 : x47_12 = true
     ·subst c37
      have H1 : (some false) = some r := by rw [if_pos rfl] at H; exact H
      clear H
      have H := H1
      clear H1
      obtain rfl := Option.some.inj H
      exact absurd HRT.out (by decide)
     ·replace c37 := Bool.eq_false_iff.mpr c37
      subst c37
      have H1 : ((laws_toRig.f kj12 l0_0 l0_1 l0_2).bind fun bt286 => ((laws_eqRig.f kj12 t271 t274 t277 bt286.1 bt286.2.1 bt286.2.2).bind fun t295 => (if t295 = true then ((laws_markRig.f kj12 t271 t274 t277 1).bind fun bt296 => (if bt296.1 < 0 then (laws_FnExactFreePins.j1 kj12 a1 t267 t270 t281 true l0_0 l0_1 l0_2) else ((laws_eqInt64S.f kj12 t281 t267).bind fun t300 => (if t300 = true then (laws_FnExactFreePins.j1 kj12 a1 t267 t270 t281 (t284 != t270) l0_0 l0_1 l0_2) else (laws_FnExactFreePins.j1 kj12 a1 t267 t270 t281 true l0_0 l0_1 l0_2))))) else (some false)))) = some r := by rw [if_neg (show ¬ (false = true) by decide)] at H; exact H
      clear H
      have H := H1
      clear H1
      replace H := Option.bind_eq_some_iff.mp H
      obtain ⟨⟨t286, t289, t292⟩, A380, H⟩ := H
      replace H : ((laws_eqRig.f kj12 t271 t274 t277 t286 t289 t292).bind fun t295 => (if t295 = true then ((laws_markRig.f kj12 t271 t274 t277 1).bind fun bt296 => (if bt296.1 < 0 then (laws_FnExactFreePins.j1 kj12 a1 t267 t270 t281 true l0_0 l0_1 l0_2) else ((laws_eqInt64S.f kj12 t281 t267).bind fun t300 => (if t300 = true then (laws_FnExactFreePins.j1 kj12 a1 t267 t270 t281 (t284 != t270) l0_0 l0_1 l0_2) else (laws_FnExactFreePins.j1 kj12 a1 t267 t270 t281 true l0_0 l0_1 l0_2))))) else (some false))) = some r := H
      have A38 := Aside0.mk A380
      clear A380
      replace H := Option.bind_eq_some_iff.mp H
      obtain ⟨t295, A390, H⟩ := H
      replace H : (if t295 = true then ((laws_markRig.f kj12 t271 t274 t277 1).bind fun bt296 => (if bt296.1 < 0 then (laws_FnExactFreePins.j1 kj12 a1 t267 t270 t281 true l0_0 l0_1 l0_2) else ((laws_eqInt64S.f kj12 t281 t267).bind fun t300 => (if t300 = true then (laws_FnExactFreePins.j1 kj12 a1 t267 t270 t281 (t284 != t270) l0_0 l0_1 l0_2) else (laws_FnExactFreePins.j1 kj12 a1 t267 t270 t281 true l0_0 l0_1 l0_2))))) else (some false)) = some r := H
      have A39 := Aside0.mk A390
      clear A390
      by_cases c40 : t295 = true
      ·subst c40
       have H1 : ((laws_markRig.f kj12 t271 t274 t277 1).bind fun bt296 => (if bt296.1 < 0 then (laws_FnExactFreePins.j1 kj12 a1 t267 t270 t281 true l0_0 l0_1 l0_2) else ((laws_eqInt64S.f kj12 t281 t267).bind fun t300 => (if t300 = true then (laws_FnExactFreePins.j1 kj12 a1 t267 t270 t281 (t284 != t270) l0_0 l0_1 l0_2) else (laws_FnExactFreePins.j1 kj12 a1 t267 t270 t281 true l0_0 l0_1 l0_2))))) = some r := by rw [if_pos rfl] at H; exact H
       clear H
       have H := H1
       clear H1
       replace H := Option.bind_eq_some_iff.mp H
       obtain ⟨⟨t296, t297, t298, t299⟩, A410, H⟩ := H
       replace H : (if t296 < 0 then (laws_FnExactFreePins.j1 kj12 a1 t267 t270 t281 true l0_0 l0_1 l0_2) else ((laws_eqInt64S.f kj12 t281 t267).bind fun t300 => (if t300 = true then (laws_FnExactFreePins.j1 kj12 a1 t267 t270 t281 (t284 != t270) l0_0 l0_1 l0_2) else (laws_FnExactFreePins.j1 kj12 a1 t267 t270 t281 true l0_0 l0_1 l0_2)))) = some r := H
       have A41 := Aside0.mk A410
       clear A410
       have HC42 := Aside0.mk H
       clear H
       try go_wp2
       have n0_ := Aside0.mk (Kd.R_drew HO_6.out)
       have n1_ := Aside0.mk (Kd.R_drew HO_9.out)
       have n2_ := Aside0.mk (Kd.R_drew HO_281000.out)
       have n3_ := Aside0.mk (Kd.R_drew HO_281001.out)
       have n4_ := Aside0.mk (Kd.R_drew HO_281002.out)
       have n5_ := Aside0.mk (blk_drew BK256.out)
       have n6_ := Aside0.mk (blk_drew BK280.out)
       have n7_ := Aside0.mk (below_drew1 HB.out)
       clear HO_6
       clear HO_9
       clear HO_281000
       clear HO_281001
       clear HO_281002
       clear BK256
       clear BK280
       clear HB
       have HO_6 := n0_
       have HO_9 := n1_
       have HO_281000 := n2_
       have HO_281001 := n3_
       have HO_281002 := n4_
       have BK256 := n5_
       have BK280 := n6_
       have HB := n7_
       clear n0_ n1_ n2_ n3_ n4_ n5_ n6_ n7_
       refine start_ (n := 5) (S := fun w' => w'.cell? ⟨gb280, 0, none⟩ = some (.slice Ao25 t271.length co25) ∧ w'.cell? ⟨gb280, 1, none⟩ = some (.slice Ao28 t274.length co28) ∧ w'.cell? ⟨gb280, 2, none⟩ = some (.slice Ao29 t277.length co29) ∧ w'.cell? ⟨gb256, 0, none⟩ = some (.slice A0_0 l0_0.length c0_0) ∧ w'.cell? ⟨gb256, 1, none⟩ = some (.slice A0_1 l0_1.length c0_1) ∧ w'.cell? ⟨gb256, 2, none⟩ = some (.slice A0_2 l0_2.length c0_2)) (ds := []) #[F,F,F,F,F] (by kernel_rfl) rfl rfl ⟨(blk_cell BK280.out 0).trans rfl, (blk_cell BK280.out 1).trans rfl, (blk_cell BK280.out 2).trans rfl, (blk_cell BK256.out 0).trans rfl, (blk_cell BK256.out 1).trans rfl, (blk_cell BK256.out 2).trans rfl⟩ (fun hHeld => ?_)
       generalize wc.drew = w43 at HO_6 HO_9 HO_281000 HO_281001 HO_281002 BK256 BK280 HB hHeld ⊢
       refine take_ (i := 0) (N := some 48) (v := ?_) (a' := ?_) #[T,F,F,F,F] rfl rfl (by kernel_rfl) (fun _ _ _ h => h) (Or.inl ⟨by rfl, ?_⟩) hHeld ?_ ?_
       rotate_left
       ·rintro w' ⟨s0, s1, s2, s3, s4, s5⟩
        go_simp
        with_reducible rfl
       rotate_left
       ·simp only [NS]
        rfl
       refine take_ (i := 1) (N := some 49) (v := ?_) (a' := ?_) #[T,T,F,F,F] rfl rfl (by kernel_rfl) (fun _ _ _ h => h) (Or.inl ⟨by rfl, ?_⟩) hHeld ?_ ?_
       rotate_left
       ·rintro w' ⟨s0, s1, s2, s3, s4, s5⟩
        go_simp
        with_reducible rfl
       rotate_left
       ·simp only [NS]
        rfl
       refine one_ (i := 2) (N := some 50) #[T,T,T,F,F] rfl rfl (by kernel_rfl) (by decide) (fun K hK => ?_)
       refine goes_ Try.func12 (by kernel_rfl) rfl #[.agg #[.slice A0_0 l0_0.length c0_0, .slice A0_1 l0_1.length c0_1, .slice A0_2 l0_2.length c0_2]] (by rfl) rfl rfl (by (try simp only [List.map_toArray, List.map_cons, List.map_nil]); first | done | rfl | (simp only [List.length_drop, List.length_take]; rfl)) ?_
       with_reducible refine (laws_toRig.calls kj12 _ _ l0_0 _ _ l0_1 _ _ l0_2 t286 t289 t292 _ ?side1 ?side2 ?side3 ?side4 ?side5 ?side6 A38.out).mono ?_
       (case side1 => repeat (first | exact (Kd.C_below HR0_0.out HB.out) | (with_reducible refine Kd.C_alloc ?_ _) | (with_reducible refine Kd.C_drewN ?_ _) | (with_reducible refine Kd.C_drew ?_)))
       (case side2 => exact HC0_0.out)
       (case side3 => repeat (first | exact (Kd.C_below HR0_1.out HB.out) | (with_reducible refine Kd.C_alloc ?_ _) | (with_reducible refine Kd.C_drewN ?_ _) | (with_reducible refine Kd.C_drew ?_)))
       (case side4 => exact HC0_1.out)
       (case side5 => repeat (first | exact (Kd.C_below HR0_2.out HB.out) | (with_reducible refine Kd.C_alloc ?_ _) | (with_reducible refine Kd.C_drewN ?_ _) | (with_reducible refine Kd.C_drew ?_)))
       (case side6 => exact HC0_2.out)
       rintro e w44 ⟨v287, v290, v293, rfl, ho0, ho1, ho2, hb⟩
       refine ⟨_, rfl, ?_⟩
       have n0_ := Aside0.mk (Kd.R_below (by (with_reducible repeat (first | apply Kd.R_alloc | apply Kd.R_drewN | apply Kd.R_drew)); exact HO_6.out) hb)
       have n1_ := Aside0.mk (Kd.R_below (by (with_reducible repeat (first | apply Kd.R_alloc | apply Kd.R_drewN | apply Kd.R_drew)); exact HO_9.out) hb)
       have n2_ := Aside0.mk (Kd.R_elder' (by (with_reducible repeat (first | apply Kd.R_alloc | apply Kd.R_drewN | apply Kd.R_drew)); exact HO_281000.out) (Kd.R_base ho0) hb)
       have n3_ := Aside0.mk (Kd.R_elder' (by (with_reducible repeat (first | apply Kd.R_alloc | apply Kd.R_drewN | apply Kd.R_drew)); exact HO_281001.out) (Kd.R_base ho1) hb)
       have n4_ := Aside0.mk (Kd.R_elder' (by (with_reducible repeat (first | apply Kd.R_alloc | apply Kd.R_drewN | apply Kd.R_drew)); exact HO_281002.out) (Kd.R_base ho2) hb)
       have n5_ := Aside0.mk (Kd.R_lower (Kd.R_new' ho0 (Kd.R_lt (by (with_reducible repeat (first | apply Kd.R_alloc | apply Kd.R_drewN | apply Kd.R_drew)); exact HO_281000.out))) (below_size (by repeat (first | (with_reducible first | exact HB.out | apply below_alloc | apply pw_below_drewN | apply below_drew1 | refine below_set ?_ GE256.out | refine below_set ?_ GE280.out) | exact HB.out))))
       have n6_ := Aside0.mk (Kd.R_lower (Kd.R_new' ho1 (Kd.R_lt (by (with_reducible repeat (first | apply Kd.R_alloc | apply Kd.R_drewN | apply Kd.R_drew)); exact HO_281001.out))) (below_size (by repeat (first | (with_reducible first | exact HB.out | apply below_alloc | apply pw_below_drewN | apply below_drew1 | refine below_set ?_ GE256.out | refine below_set ?_ GE280.out) | exact HB.out))))
       have n7_ := Aside0.mk (Kd.R_lower (Kd.R_new' ho2 (Kd.R_lt (by (with_reducible repeat (first | apply Kd.R_alloc | apply Kd.R_drewN | apply Kd.R_drew)); exact HO_281002.out))) (below_size (by repeat (first | (with_reducible first | exact HB.out | apply below_alloc | apply pw_below_drewN | apply below_drew1 | refine below_set ?_ GE256.out | refine below_set ?_ GE280.out) | exact HB.out))))
       have n8_ := pB BK256 hb
       have n9_ := pB BK280 hb
       have n10_ := pS HB hb
       clear HO_6
       clear HO_9
       clear HO_281000
       clear HO_281001
       clear HO_281002
       clear BK256
       clear BK280
       clear HB
       have HO_6 := n0_
       have HO_9 := n1_
       have HO_281000 := n2_
       have HO_281001 := n3_
       have HO_281002 := n4_
       have HO288 := n5_
       have HO291 := n6_
       have HO294 := n7_
       have BK256 := n8_
       have BK280 := n9_
       have HB := n10_
       clear n0_ n1_ n2_ n3_ n4_ n5_ n6_ n7_ n8_ n9_ n10_
       (try clear hb)
       (try clear hb2)
       (try clear hk)
       (try clear hi)
       (try clear ho0)
       (try clear ho1)
       (try clear ho2)
       obtain ⟨Ao45, co45, eo45⟩ := Kd.R_slice HO288.out
       (first | subst eo45 | (injection eo45 with f1_ f2_ f3_; have f4_ := f1_.symm; have f5_ := f3_.symm; clear f1_ f2_ f3_; subst f4_; subst f5_))
       obtain ⟨Ao46, co46, eo46⟩ := Kd.R_slice HO291.out
       (first | subst eo46 | (injection eo46 with f1_ f2_ f3_; have f4_ := f1_.symm; have f5_ := f3_.symm; clear f1_ f2_ f3_; subst f4_; subst f5_))
       obtain ⟨Ao47, co47, eo47⟩ := Kd.R_slice HO294.out
       (first | subst eo47 | (injection eo47 with f1_ f2_ f3_; have f4_ := f1_.symm; have f5_ := f3_.symm; clear f1_ f2_ f3_; subst f4_; subst f5_))
       refine hK.out _ _ ⟨(blk_cell BK280.out 0).trans rfl, (blk_cell BK280.out 1).trans rfl, (blk_cell BK280.out 2).trans rfl, (blk_cell BK256.out 0).trans rfl, (blk_cell BK256.out 1).trans rfl, (blk_cell BK256.out 2).trans rfl⟩ (fun hHeld => ?_)
       clear hK K
       refine norm_ (a' := ?_) ?_ ?_
       rotate_left
       ·show Act.put _ (some 50) _ = _
        simp only [NS]
        rfl
       refine one_ (i := 3) (N := some 51) #[T,T,T,T,F] rfl rfl (by kernel_rfl) (by decide) (fun K hK => ?_)
       refine goes_ Try.func14 (by kernel_rfl) rfl #[.agg #[.slice Ao25 t271.length co25, .slice Ao28 t274.length co28, .slice Ao29 t277.length co29], .agg #[.slice Ao45 t286.length co45, .slice Ao46 t289.length co46, .slice Ao47 t292.length co47]] (by rfl) rfl rfl (by (try simp only [List.map_toArray, List.map_cons, List.map_nil]); first | done | rfl | (simp only [List.length_drop, List.length_take]; rfl)) ?_
       with_reducible refine (laws_eqRig.calls kj12 _ _ t271 _ _ t274 _ _ t277 _ _ t286 _ _ t289 _ _ t292 true _ ?side1 ?side2 ?side3 ?side4 ?side5 ?side6 ?side7 ?side8 ?side9 ?side10 ?side11 ?side12 A39.out).mono ?_
       (case side1 => repeat (first | exact (Kd.R_reads' HO_281000.out).2.2 | (with_reducible refine Kd.C_alloc ?_ _) | (with_reducible refine Kd.C_drewN ?_ _) | (with_reducible refine Kd.C_drew ?_)))
       (case side2 => exact (Kd.R_reads' HO_281000.out).2.1)
       (case side3 => repeat (first | exact (Kd.R_reads' HO_281001.out).2.2 | (with_reducible refine Kd.C_alloc ?_ _) | (with_reducible refine Kd.C_drewN ?_ _) | (with_reducible refine Kd.C_drew ?_)))
       (case side4 => exact (Kd.R_reads' HO_281001.out).2.1)
       (case side5 => repeat (first | exact (Kd.R_reads' HO_281002.out).2.2 | (with_reducible refine Kd.C_alloc ?_ _) | (with_reducible refine Kd.C_drewN ?_ _) | (with_reducible refine Kd.C_drew ?_)))
       (case side6 => exact (Kd.R_reads' HO_281002.out).2.1)
       (case side7 => repeat (first | exact (Kd.R_reads' HO288.out).2.2 | (with_reducible refine Kd.C_alloc ?_ _) | (with_reducible refine Kd.C_drewN ?_ _) | (with_reducible refine Kd.C_drew ?_)))
       (case side8 => exact (Kd.R_reads' HO288.out).2.1)
       (case side9 => repeat (first | exact (Kd.R_reads' HO291.out).2.2 | (with_reducible refine Kd.C_alloc ?_ _) | (with_reducible refine Kd.C_drewN ?_ _) | (with_reducible refine Kd.C_drew ?_)))
       (case side10 => exact (Kd.R_reads' HO291.out).2.1)
       (case side11 => repeat (first | exact (Kd.R_reads' HO294.out).2.2 | (with_reducible refine Kd.C_alloc ?_ _) | (with_reducible refine Kd.C_drewN ?_ _) | (with_reducible refine Kd.C_drew ?_)))
       (case side12 => exact (Kd.R_reads' HO294.out).2.1)
       rintro e w48 ⟨rfl, hb⟩
       refine ⟨_, rfl, ?_⟩
       have n0_ := Aside0.mk (Kd.R_below (by (with_reducible repeat (first | apply Kd.R_alloc | apply Kd.R_drewN | apply Kd.R_drew)); exact HO_6.out) hb)
       have n1_ := Aside0.mk (Kd.R_below (by (with_reducible repeat (first | apply Kd.R_alloc | apply Kd.R_drewN | apply Kd.R_drew)); exact HO_9.out) hb)
       have n2_ := Aside0.mk (Kd.R_below (by (with_reducible repeat (first | apply Kd.R_alloc | apply Kd.R_drewN | apply Kd.R_drew)); exact HO_281000.out) hb)
       have n3_ := Aside0.mk (Kd.R_below (by (with_reducible repeat (first | apply Kd.R_alloc | apply Kd.R_drewN | apply Kd.R_drew)); exact HO_281001.out) hb)
       have n4_ := Aside0.mk (Kd.R_below (by (with_reducible repeat (first | apply Kd.R_alloc | apply Kd.R_drewN | apply Kd.R_drew)); exact HO_281002.out) hb)
       have n5_ := Aside0.mk (Kd.R_below (by (with_reducible repeat (first | apply Kd.R_alloc | apply Kd.R_drewN | apply Kd.R_drew)); exact HO288.out) hb)
       have n6_ := Aside0.mk (Kd.R_below (by (with_reducible repeat (first | apply Kd.R_alloc | apply Kd.R_drewN | apply Kd.R_drew)); exact HO291.out) hb)
       have n7_ := Aside0.mk (Kd.R_below (by (with_reducible repeat (first | apply Kd.R_alloc | apply Kd.R_drewN | apply Kd.R_drew)); exact HO294.out) hb)
       have n8_ := pB BK256 hb
       have n9_ := pB BK280 hb
       have n10_ := pS HB hb
       clear HO_6
       clear HO_9
       clear HO_281000
       clear HO_281001
       clear HO_281002
       clear HO288
       clear HO291
       clear HO294
       clear BK256
       clear BK280
       clear HB
       have HO_6 := n0_
       have HO_9 := n1_
       have HO_281000 := n2_
       have HO_281001 := n3_
       have HO_281002 := n4_
       have HO288 := n5_
       have HO291 := n6_
       have HO294 := n7_
       have BK256 := n8_
       have BK280 := n9_
       have HB := n10_
       clear n0_ n1_ n2_ n3_ n4_ n5_ n6_ n7_ n8_ n9_ n10_
       (try clear hb)
       (try clear hb2)
       (try clear hk)
       (try clear hi)
       refine hK.out _ _ ⟨(blk_cell BK280.out 0).trans rfl, (blk_cell BK280.out 1).trans rfl, (blk_cell BK280.out 2).trans rfl, (blk_cell BK256.out 0).trans rfl, (blk_cell BK256.out 1).trans rfl, (blk_cell BK256.out 2).trans rfl⟩ (fun hHeld => ?_)
       clear hK K
       refine norm_ (a' := ?_) ?_ ?_
       rotate_left
       ·show Act.put _ (some 51) _ = _
        simp only [NS]
        rfl
       refine pure_ (i := 4) (N := some 52) (v := ?_) (a' := ?_) #[T,T,T,T,T] rfl rfl (by kernel_rfl) (fun _ _ _ h => h) (Or.inl ⟨by rfl, ?_⟩) ?_ ?_
       rotate_left
       ·intro w'
        go_simp
        with_reducible rfl
       rotate_left
       ·simp only [NS]
        rfl
       refine done_ (by kernel_rfl) ?_
       have hnb49 := NB280_256.out
       have hnc49 := NB256_280.out
       obtain ⟨hcz50_0, hcz50_1, hcz50_2, hfz50_0, hfz50_1, hfz50_2⟩ := cz3 BK280
       go_upto_region 16 with (first | ((with_reducible refine gate_callee (f := 23) rfl ?_); refine goesL_ (some 55) rfl rfl Try.func23 (by kernel_rfl) rfl #[.agg #[.slice Ao25 t271.length co25, .slice Ao28 t274.length co28, .slice Ao29 t277.length co29], .int .i64 1] rfl (by (try simp only [List.map_toArray, List.map_cons, List.map_nil]); first | done | rfl | (simp only [List.length_drop, List.length_take]; rfl)) ?_; (with_reducible refine (laws_markRig.calls kj12 (fun k_ => some k_ = (.slice Ao25 t271.length co25 : Value).ownBlock) (.slice Ao25 t271.length co25) t271 (fun k_ => some k_ = (.slice Ao28 t274.length co28 : Value).ownBlock) (.slice Ao28 t274.length co28) t274 (fun k_ => some k_ = (.slice Ao29 t277.length co29 : Value).ownBlock) (.slice Ao29 t277.length co29) t277 1 t296 t297 t298 t299 w _ ?side1 ?side2 ?side3 ?side4 A41.out).mono ?_); (case side1 => repeat (first | (with_reducible first | exact HB.out | apply below_alloc | apply pw_below_drewN | apply below_drew1 | refine below_set ?_ GE256.out | refine below_set ?_ GE280.out) | exact HB.out)); (case side2 => exact Kd.R_tight rfl HO_281000.out); (case side3 => exact Kd.R_tight rfl HO_281001.out); (case side4 => exact Kd.R_tight rfl HO_281002.out); rintro e w51 ⟨rfl, hy0, hy1, hy2, hb, hkp⟩; refine ⟨_, rfl, ?_⟩; have n0_ := Aside0.mk (Kd.R_mono (ok' := fun k_ => some k_ ≠ (v282 : Value).ownBlock) (Kd.R_keptB ((Kd.R_apart' (Kd.R_apart' (Kd.R_apart' HO_6.out (Kd.R_typed HO_281000.out) (by decide)) (Kd.R_typed HO_281001.out) (by decide)) (Kd.R_typed HO_281002.out) (by decide))) hkp (fun k_ hk_ hs_ => Or.elim hs_ (fun e_ => (hk_.1.1.2) e_) (fun e_ => Or.elim e_ (fun e_ => (hk_.1.2) e_) (fun e_ => (hk_.2) e_)))) (fun k_ hk_ => hk_.1.1.1.1)); have n1_ := Aside0.mk (Kd.R_mono (ok' := fun k_ => some k_ ≠ (v268 : Value).ownBlock) (Kd.R_keptB ((Kd.R_apart' (Kd.R_apart' (Kd.R_apart' HO_9.out (Kd.R_typed HO_281000.out) (by decide)) (Kd.R_typed HO_281001.out) (by decide)) (Kd.R_typed HO_281002.out) (by decide))) hkp (fun k_ hk_ hs_ => Or.elim hs_ (fun e_ => (hk_.1.1.2) e_) (fun e_ => Or.elim e_ (fun e_ => (hk_.1.2) e_) (fun e_ => (hk_.2) e_)))) (fun k_ hk_ => hk_.1.1.1.1)); have n2_ := Aside0.mk (Kd.R_reok rfl hy0 (fun k_ e_ => HO_281000.out.1 k_ e_)); have n3_ := Aside0.mk (Kd.R_reok rfl hy1 (fun k_ e_ => HO_281001.out.1 k_ e_)); have n4_ := Aside0.mk (Kd.R_reok rfl hy2 (fun k_ e_ => HO_281002.out.1 k_ e_)); have n5_ := Aside0.mk (blk_kept (by (with_reducible repeat (first | refine blk_drewN ?_ _ | refine blk_drew ?_ | refine blk_alloc ?_ _)); exact BK256.out) hkp (fun hs_ => Or.elim hs_ (fun e_ => (fun e_ => (Kd.R_ne HO_281000.out BK256.out (by decide)) e_) e_) (fun e_ => Or.elim e_ (fun e_ => (fun e_ => (Kd.R_ne HO_281001.out BK256.out (by decide)) e_) e_) (fun e_ => (fun e_ => (Kd.R_ne HO_281002.out BK256.out (by decide)) e_) e_)))); have n6_ := Aside0.mk (blk_kept (by (with_reducible repeat (first | refine blk_drewN ?_ _ | refine blk_drew ?_ | refine blk_alloc ?_ _)); exact BK280.out) hkp (fun hs_ => Or.elim hs_ (fun e_ => (fun e_ => (Kd.R_ne HO_281000.out BK280.out (by decide)) e_) e_) (fun e_ => Or.elim e_ (fun e_ => (fun e_ => (Kd.R_ne HO_281001.out BK280.out (by decide)) e_) e_) (fun e_ => (fun e_ => (Kd.R_ne HO_281002.out BK280.out (by decide)) e_) e_)))); have n7_ := Aside0.mk (Kd.R_mono (ok' := fun k_ => some k_ ≠ (.slice Ao25 t271.length co25 : Value).ownBlock) (Kd.R_keptB ((Kd.R_apart' (Kd.R_apart' HO288.out (Kd.R_typed HO_281001.out) (by decide)) (Kd.R_typed HO_281002.out) (by decide))) hkp (fun k_ hk_ hs_ => Or.elim hs_ (fun e_ => (hk_.1.1.2) e_) (fun e_ => Or.elim e_ (fun e_ => (hk_.1.2) e_) (fun e_ => (hk_.2) e_)))) (fun k_ hk_ => hk_.1.1.1.2)); have n8_ := Aside0.mk (Kd.R_mono (ok' := fun k_ => some k_ ≠ (.slice Ao28 t274.length co28 : Value).ownBlock) (Kd.R_keptB ((Kd.R_apart' (Kd.R_apart' HO291.out (Kd.R_typed HO_281000.out) (by decide)) (Kd.R_typed HO_281002.out) (by decide))) hkp (fun k_ hk_ hs_ => Or.elim hs_ (fun e_ => (hk_.1.2) e_) (fun e_ => Or.elim e_ (fun e_ => (hk_.1.1.2) e_) (fun e_ => (hk_.2) e_)))) (fun k_ hk_ => hk_.1.1.1.2)); have n9_ := Aside0.mk (Kd.R_mono (ok' := fun k_ => some k_ ≠ (.slice Ao29 t277.length co29 : Value).ownBlock) (Kd.R_keptB ((Kd.R_apart' (Kd.R_apart' HO294.out (Kd.R_typed HO_281000.out) (by decide)) (Kd.R_typed HO_281001.out) (by decide))) hkp (fun k_ hk_ hs_ => Or.elim hs_ (fun e_ => (hk_.1.2) e_) (fun e_ => Or.elim e_ (fun e_ => (hk_.2) e_) (fun e_ => (hk_.1.1.2) e_)))) (fun k_ hk_ => hk_.1.1.1.2)); have n10_ := Aside0.mk (hb); clear HO_6 HO_9; clear HO_281000 HO_281001; clear HO_281002 BK256; clear BK280 HO288; clear HO291 HO294 HB; have HO_6 := n0_; have HO_9 := n1_; have HO_281000 := n2_; have HO_281001 := n3_; have HO_281002 := n4_; have BK256 := n5_; have BK280 := n6_; have HO288 := n7_; have HO291 := n8_; have HO294 := n9_; have HB := n10_; clear n0_ n1_ n2_ n3_ n4_ n5_ n6_ n7_ n8_ n9_ n10_; (try clear hb); (try clear hkp); (try clear hy0); (try clear hy1); (try clear hy2)))
       (try simp only [Act.put, List.setIfInBounds_toArray, List.set_cons_zero, List.set_cons_succ])
       go_cut [68] (fun v68 wc => ∃ (kq : Nat) (x68_41 : Bool), v68 = .bool x68_41 ∧ Aside0 (laws_FnExactFreePins.j1 kq a1 t267 t270 t281 x68_41 l0_0 l0_1 l0_2 = some r) ∧ Aside0 (kq ≤ kj12) ∧ Aside0 (Kd.R (Kd.int .i64) 2 wc w.heap.size (fun k_ => some k_ ≠ (v282 : Value).ownBlock) v268 t267) ∧ Aside0 (Kd.R (Kd.int .i64) 2 wc w.heap.size (fun k_ => some k_ ≠ (v268 : Value).ownBlock) v282 t281) ∧ Aside0 (Kd.R k69 69 wc w.heap.size (fun _ => True) (.slice Ao25 t271.length co25) t297) ∧ Aside0 (Kd.R Kd.string 9 wc w.heap.size (fun _ => True) (.slice Ao28 t274.length co28) t298) ∧ Aside0 (Kd.R k40 40 wc w.heap.size (fun _ => True) (.slice Ao29 t277.length co29) t299) ∧ Aside0 (wc.heap[gb256]? = some (.cells #[(.slice A0_0 l0_0.length c0_0), (.slice A0_1 l0_1.length c0_1), (.slice A0_2 l0_2.length c0_2)] 26 (0, 0))) ∧ Aside0 (wc.heap[gb280]? = some (.cells #[(.slice Ao25 t271.length co25), (.slice Ao28 t274.length co28), (.slice Ao29 t277.length co29)] 32 (0, 0))) ∧ Aside0 (Below w.heap.size w wc))
       case first =>
        have H := HC42.out
        clear HC42
        by_cases c52 : t296 < 0
        ·rw [if_pos c52] at H
         have c52b0 : decide (t296 < 0) = true := decide_eq_true c52
         clear c52
         (first | rw [c52b0] | (simp only [i64_w, i32_w]; rw [c52b0]) | skip)
         have H' := Aside0.mk H
         clear H
         go_wp2
         go_meet
         case rel => exact ⟨_, (true), (by first | rfl | (simp; done) | (simp [*]; done)), H', ⟨by have := HJ12.out; first | omega | exact Nat.le_refl _⟩, ⟨by (with_reducible repeat (first | apply Kd.R_alloc | apply Kd.R_drewN | apply Kd.R_drew)); exact HO_6.out⟩, ⟨by (with_reducible repeat (first | apply Kd.R_alloc | apply Kd.R_drewN | apply Kd.R_drew)); exact HO_9.out⟩, ⟨by (with_reducible repeat (first | apply Kd.R_alloc | apply Kd.R_drewN | apply Kd.R_drew)); exact Kd.R_mono HO_281000.out (fun _ hk => trivial)⟩, ⟨by (with_reducible repeat (first | apply Kd.R_alloc | apply Kd.R_drewN | apply Kd.R_drew)); exact Kd.R_mono HO_281001.out (fun _ hk => trivial)⟩, ⟨by (with_reducible repeat (first | apply Kd.R_alloc | apply Kd.R_drewN | apply Kd.R_drew)); exact Kd.R_mono HO_281002.out (fun _ hk => trivial)⟩, ⟨by (with_reducible repeat (first | refine blk_drewN ?_ _ | refine blk_drew ?_ | refine blk_alloc ?_ _)); exact BK256.out⟩, ⟨by (with_reducible repeat (first | refine blk_drewN ?_ _ | refine blk_drew ?_ | refine blk_alloc ?_ _)); exact BK280.out⟩, ⟨by repeat (first | (with_reducible first | exact HB.out | apply below_alloc | apply pw_below_drewN | apply below_drew1 | refine below_set ?_ GE256.out | refine below_set ?_ GE280.out) | exact HB.out)⟩⟩
        ·rw [if_neg c52] at H
         have c52b0 : decide (t296 < 0) = false := decide_eq_false c52
         clear c52
         (first | rw [c52b0] | (simp only [i64_w, i32_w]; rw [c52b0]) | skip)
         replace H := Option.bind_eq_some_iff.mp H
         obtain ⟨t300, A530, H⟩ := H
         replace H : (if t300 = true then (laws_FnExactFreePins.j1 kj12 a1 t267 t270 t281 (t284 != t270) l0_0 l0_1 l0_2) else (laws_FnExactFreePins.j1 kj12 a1 t267 t270 t281 true l0_0 l0_1 l0_2)) = some r := H
         have A53 := Aside0.mk A530
         clear A530
         by_cases c54 : t300 = true
         ·subst c54
          have H1 : (laws_FnExactFreePins.j1 kj12 a1 t267 t270 t281 (t284 != t270) l0_0 l0_1 l0_2) = some r := by rw [if_pos rfl] at H; exact H
          clear H
          have H := H1
          clear H1
          have H' := Aside0.mk H
          clear H
          obtain ⟨Ao55, co55, eo55⟩ := Kd.R_slice HO_9.out
          subst eo55
          obtain ⟨Ao56, co56, eo56⟩ := Kd.R_slice HO_6.out
          subst eo56
          go_wp2_with (first | (go_at_call 30; (with_reducible refine (laws_eqInt64S.calls kj12 _ _ t281 _ _ t267 true _ ?side1 ?side2 ?side3 ?side4 A53.out).mono ?_); (case side1 => repeat (first | exact (Kd.R_reads' HO_9.out).2.2 | (with_reducible refine Kd.C_alloc ?_ _) | (with_reducible refine Kd.C_drewN ?_ _) | (with_reducible refine Kd.C_drew ?_))); (case side2 => exact (Kd.R_reads' HO_9.out).2.1); (case side3 => repeat (first | exact (Kd.R_reads' HO_6.out).2.2 | (with_reducible refine Kd.C_alloc ?_ _) | (with_reducible refine Kd.C_drewN ?_ _) | (with_reducible refine Kd.C_drew ?_))); (case side4 => exact (Kd.R_reads' HO_6.out).2.1); rintro e w' ⟨rfl, ⟨nd, rfl⟩⟩))
          go_meet
          case rel => exact ⟨_, ((t284 != t270)), (by first | rfl | (simp; done) | (simp [*]; done)), H', ⟨by have := HJ12.out; first | omega | exact Nat.le_refl _⟩, ⟨by (with_reducible repeat (first | apply Kd.R_alloc | apply Kd.R_drewN | apply Kd.R_drew)); exact HO_6.out⟩, ⟨by (with_reducible repeat (first | apply Kd.R_alloc | apply Kd.R_drewN | apply Kd.R_drew)); exact HO_9.out⟩, ⟨by (with_reducible repeat (first | apply Kd.R_alloc | apply Kd.R_drewN | apply Kd.R_drew)); exact Kd.R_mono HO_281000.out (fun _ hk => trivial)⟩, ⟨by (with_reducible repeat (first | apply Kd.R_alloc | apply Kd.R_drewN | apply Kd.R_drew)); exact Kd.R_mono HO_281001.out (fun _ hk => trivial)⟩, ⟨by (with_reducible repeat (first | apply Kd.R_alloc | apply Kd.R_drewN | apply Kd.R_drew)); exact Kd.R_mono HO_281002.out (fun _ hk => trivial)⟩, ⟨by (with_reducible repeat (first | refine blk_drewN ?_ _ | refine blk_drew ?_ | refine blk_alloc ?_ _)); exact BK256.out⟩, ⟨by (with_reducible repeat (first | refine blk_drewN ?_ _ | refine blk_drew ?_ | refine blk_alloc ?_ _)); exact BK280.out⟩, ⟨by repeat (first | (with_reducible first | exact HB.out | apply below_alloc | apply pw_below_drewN | apply below_drew1 | refine below_set ?_ GE256.out | refine below_set ?_ GE280.out) | exact HB.out)⟩⟩
         ·replace c54 := Bool.eq_false_iff.mpr c54
          subst c54
          have H1 : (laws_FnExactFreePins.j1 kj12 a1 t267 t270 t281 true l0_0 l0_1 l0_2) = some r := by rw [if_neg (show ¬ (false = true) by decide)] at H; exact H
          clear H
          have H := H1
          clear H1
          have H' := Aside0.mk H
          clear H
          obtain ⟨Ao57, co57, eo57⟩ := Kd.R_slice HO_9.out
          subst eo57
          obtain ⟨Ao58, co58, eo58⟩ := Kd.R_slice HO_6.out
          subst eo58
          go_wp2_with (first | (go_at_call 30; (with_reducible refine (laws_eqInt64S.calls kj12 _ _ t281 _ _ t267 false _ ?side1 ?side2 ?side3 ?side4 A53.out).mono ?_); (case side1 => repeat (first | exact (Kd.R_reads' HO_9.out).2.2 | (with_reducible refine Kd.C_alloc ?_ _) | (with_reducible refine Kd.C_drewN ?_ _) | (with_reducible refine Kd.C_drew ?_))); (case side2 => exact (Kd.R_reads' HO_9.out).2.1); (case side3 => repeat (first | exact (Kd.R_reads' HO_6.out).2.2 | (with_reducible refine Kd.C_alloc ?_ _) | (with_reducible refine Kd.C_drewN ?_ _) | (with_reducible refine Kd.C_drew ?_))); (case side4 => exact (Kd.R_reads' HO_6.out).2.1); rintro e w' ⟨rfl, ⟨nd, rfl⟩⟩))
          go_meet
          case rel => exact ⟨_, (true), (by first | rfl | (simp; done) | (simp [*]; done)), H', ⟨by have := HJ12.out; first | omega | exact Nat.le_refl _⟩, ⟨by (with_reducible repeat (first | apply Kd.R_alloc | apply Kd.R_drewN | apply Kd.R_drew)); exact HO_6.out⟩, ⟨by (with_reducible repeat (first | apply Kd.R_alloc | apply Kd.R_drewN | apply Kd.R_drew)); exact HO_9.out⟩, ⟨by (with_reducible repeat (first | apply Kd.R_alloc | apply Kd.R_drewN | apply Kd.R_drew)); exact Kd.R_mono HO_281000.out (fun _ hk => trivial)⟩, ⟨by (with_reducible repeat (first | apply Kd.R_alloc | apply Kd.R_drewN | apply Kd.R_drew)); exact Kd.R_mono HO_281001.out (fun _ hk => trivial)⟩, ⟨by (with_reducible repeat (first | apply Kd.R_alloc | apply Kd.R_drewN | apply Kd.R_drew)); exact Kd.R_mono HO_281002.out (fun _ hk => trivial)⟩, ⟨by (with_reducible repeat (first | refine blk_drewN ?_ _ | refine blk_drew ?_ | refine blk_alloc ?_ _)); exact BK256.out⟩, ⟨by (with_reducible repeat (first | refine blk_drewN ?_ _ | refine blk_drew ?_ | refine blk_alloc ?_ _)); exact BK280.out⟩, ⟨by repeat (first | (with_reducible first | exact HB.out | apply below_alloc | apply pw_below_drewN | apply below_drew1 | refine below_set ?_ GE256.out | refine below_set ?_ GE280.out) | exact HB.out)⟩⟩
       case rest =>
        clear HC42
        try clear c1
        try clear c2
        try clear p2
        try clear c3
        try clear c4
        try clear c4b0
        try clear c4b1
        try clear c5
        try clear c6
        try clear c6b0
        try clear c8
        try clear c10
        try clear c12
        try clear c14
        try clear c23
        try clear c26
        try clear c28
        try clear c29
        try clear c30
        try clear c32
        try clear c37
        try clear c40
        try clear c49
        try clear c52
        try clear c52b0
        try clear c54
        try clear hcz14_0
        try clear hcz14_1
        try clear hcz14_2
        try clear hcz16_0
        try clear hcz16_1
        try clear hcz16_2
        try clear hcz22_0
        try clear hcz22_1
        try clear hcz22_2
        try clear hcz27_0
        try clear hcz27_1
        try clear hcz27_2
        try clear hcz50_0
        try clear hcz50_1
        try clear hcz50_2
        try clear hcz7_0
        try clear hcz7_1
        try clear hcz7_2
        try clear hfz14_0
        try clear hfz14_1
        try clear hfz14_2
        try clear hfz16_0
        try clear hfz16_1
        try clear hfz16_2
        try clear hfz22_0
        try clear hfz22_1
        try clear hfz22_2
        try clear hfz27_0
        try clear hfz27_1
        try clear hfz27_2
        try clear hfz50_0
        try clear hfz50_1
        try clear hfz50_2
        try clear hfz7_0
        try clear hfz7_1
        try clear hfz7_2
        try clear p2
        obtain ⟨kq, x68_41, rfl, HA, HJ41, HO_6, HO_9, HO_281000, HO_281001, HO_281002, BK256, BK280, HB⟩ := hcut
        have hl281000_41 := (Kd.R_reads' HO_281000.out).1
        rw [hl281000_41] at HO_281000
        (try simp only [hl281000_41])
        (try simp only [hl281000_41] at BK256)
        (try simp only [hl281000_41] at BK280)
        (try simp only [hl281000_41] at HO_6)
        (try simp only [hl281000_41] at HO_9)
        (try simp only [hl281000_41] at HO_281001)
        (try simp only [hl281000_41] at HO_281002)
        have hl281001_41 := (Kd.R_reads' HO_281001.out).1
        rw [hl281001_41] at HO_281001
        (try simp only [hl281001_41])
        (try simp only [hl281001_41] at BK256)
        (try simp only [hl281001_41] at BK280)
        (try simp only [hl281001_41] at HO_6)
        (try simp only [hl281001_41] at HO_9)
        (try simp only [hl281001_41] at HO_281000)
        (try simp only [hl281001_41] at HO_281002)
        have hl281002_41 := (Kd.R_reads' HO_281002.out).1
        rw [hl281002_41] at HO_281002
        (try simp only [hl281002_41])
        (try simp only [hl281002_41] at BK256)
        (try simp only [hl281002_41] at BK280)
        (try simp only [hl281002_41] at HO_6)
        (try simp only [hl281002_41] at HO_9)
        (try simp only [hl281002_41] at HO_281000)
        (try simp only [hl281002_41] at HO_281001)
        cases kq with
        | zero => exact absurd HA.out (by simp [laws_FnExactFreePins.j1])
        | succ kj41 =>
         have H := HA.out
         clear HA
         simp only [laws_FnExactFreePins.j1] at H
         by_cases c59 : x68_41 = true
         ·subst c59
          have H1 : (some false) = some r := by rw [if_pos rfl] at H; exact H
          clear H
          have H := H1
          clear H1
          obtain rfl := Option.some.inj H
          exact absurd HRT.out (by decide)
         ·replace c59 := Bool.eq_false_iff.mpr c59
          subst c59
          have H1 : ((laws_markInt64S.f kj41 t281 1).bind fun bt301 => ((laws_heldInt64S.f kj41 bt301.2 1).bind fun t303 => (if t303 < 0 then (some false) else (if t303 = bt301.1 then ((laws_toRig.f kj41 l0_0 l0_1 l0_2).bind fun bt304 => ((impl_FreePins.f kj41 bt304.1 bt304.2.1 bt304.2.2 a1).bind fun bt313 => ((laws_eqInt64S.f kj41 bt313.1 t267).bind fun t317 => (if t317 = true then (laws_FnExactFreePins.j2 kj41 bt301.2 bt301.1 (bt313.2 != t270)) else (laws_FnExactFreePins.j2 kj41 bt301.2 bt301.1 true))))) else (some false))))) = some r := by rw [if_neg (show ¬ (false = true) by decide)] at H; exact H
          clear H
          have H := H1
          clear H1
          replace H := Option.bind_eq_some_iff.mp H
          obtain ⟨⟨t301, t302⟩, A600, H⟩ := H
          replace H : ((laws_heldInt64S.f kj41 t302 1).bind fun t303 => (if t303 < 0 then (some false) else (if t303 = t301 then ((laws_toRig.f kj41 l0_0 l0_1 l0_2).bind fun bt304 => ((impl_FreePins.f kj41 bt304.1 bt304.2.1 bt304.2.2 a1).bind fun bt313 => ((laws_eqInt64S.f kj41 bt313.1 t267).bind fun t317 => (if t317 = true then (laws_FnExactFreePins.j2 kj41 t302 t301 (bt313.2 != t270)) else (laws_FnExactFreePins.j2 kj41 t302 t301 true))))) else (some false)))) = some r := H
          have A60 := Aside0.mk A600
          clear A600
          replace H := Option.bind_eq_some_iff.mp H
          obtain ⟨t303, A610, H⟩ := H
          replace H : (if t303 < 0 then (some false) else (if t303 = t301 then ((laws_toRig.f kj41 l0_0 l0_1 l0_2).bind fun bt304 => ((impl_FreePins.f kj41 bt304.1 bt304.2.1 bt304.2.2 a1).bind fun bt313 => ((laws_eqInt64S.f kj41 bt313.1 t267).bind fun t317 => (if t317 = true then (laws_FnExactFreePins.j2 kj41 t302 t301 (bt313.2 != t270)) else (laws_FnExactFreePins.j2 kj41 t302 t301 true))))) else (some false))) = some r := H
          have A61 := Aside0.mk A610
          clear A610
          by_cases c62 : t303 < 0
          ·rw [if_pos c62] at H
           have c62b0 : decide (t303 < 0) = true := decide_eq_true c62
           clear c62
           obtain rfl := Option.some.inj H
           exact absurd HRT.out (by decide)
          ·rw [if_neg c62] at H
           have c62b0 : decide (t303 < 0) = false := decide_eq_false c62
           clear c62
           by_cases c63 : t303 = t301
           ·rw [if_pos c63] at H
            have c63b0 : (t303 == t301) = true := beq_iff_eq.mpr c63
            have c63b1 : (t303 != t301) = false := bne_eq_false_iff_eq.mpr c63
            clear c63
            replace H := Option.bind_eq_some_iff.mp H
            obtain ⟨⟨t304, t307, t310⟩, A640, H⟩ := H
            replace H : ((impl_FreePins.f kj41 t304 t307 t310 a1).bind fun bt313 => ((laws_eqInt64S.f kj41 bt313.1 t267).bind fun t317 => (if t317 = true then (laws_FnExactFreePins.j2 kj41 t302 t301 (bt313.2 != t270)) else (laws_FnExactFreePins.j2 kj41 t302 t301 true)))) = some r := H
            have A64 := Aside0.mk A640
            clear A640
            replace H := Option.bind_eq_some_iff.mp H
            obtain ⟨⟨t313, t316⟩, A650, H⟩ := H
            replace H : ((laws_eqInt64S.f kj41 t313 t267).bind fun t317 => (if t317 = true then (laws_FnExactFreePins.j2 kj41 t302 t301 (t316 != t270)) else (laws_FnExactFreePins.j2 kj41 t302 t301 true))) = some r := H
            have A65 := Aside0.mk A650
            clear A650
            have HC66 := Aside0.mk H
            clear H
            obtain ⟨Ao67, co67, eo67⟩ := Kd.R_slice HO_9.out
            subst eo67
            go_upto_region 27 with (first | ((with_reducible refine gate_callee (f := 31) rfl ?_); refine goesL_ (some 71) rfl rfl Try.func31 (by kernel_rfl) rfl #[.slice Ao67 t281.length co67, .int .i64 1] rfl (by (try simp only [List.map_toArray, List.map_cons, List.map_nil]); first | done | rfl | (simp only [List.length_drop, List.length_take]; rfl)) ?_; (with_reducible refine (laws_markInt64S.calls kj41 (fun k_ => some k_ = (.slice Ao67 t281.length co67 : Value).ownBlock) (.slice Ao67 t281.length co67) t281 1 t301 t302 w _ ?side1 ?side2 A60.out).mono ?_); (case side1 => repeat (first | (with_reducible first | exact HB.out | apply below_alloc | apply pw_below_drewN | apply below_drew1 | refine below_set ?_ GE256.out | refine below_set ?_ GE280.out) | exact HB.out)); (case side2 => exact Kd.R_tight rfl HO_9.out); rintro e w68 ⟨rfl, hy0, hb, hkp⟩; refine ⟨_, rfl, ?_⟩; have n0_ := Aside0.mk (Kd.R_mono (ok' := fun k_ => some k_ ≠ (.slice Ao67 t281.length co67 : Value).ownBlock) (Kd.R_keptB (HO_6.out) hkp (fun k_ hk_ hs_ => (hk_) hs_)) (fun k_ hk_ => hk_.1)); have n1_ := Aside0.mk (Kd.R_reok rfl hy0 (fun k_ e_ => HO_9.out.1 k_ e_)); have n2_ := Aside0.mk (Kd.R_mono (ok' := fun k_ => True) (Kd.R_keptB ((Kd.R_apart' HO_281000.out (Kd.R_typed HO_9.out) (by decide))) hkp (fun k_ hk_ hs_ => (hk_.2) hs_)) (fun k_ hk_ => trivial)); have n3_ := Aside0.mk (Kd.R_mono (ok' := fun k_ => True) (Kd.R_keptB ((Kd.R_apart' HO_281001.out (Kd.R_typed HO_9.out) (by decide))) hkp (fun k_ hk_ hs_ => (hk_.2) hs_)) (fun k_ hk_ => trivial)); have n4_ := Aside0.mk (Kd.R_mono (ok' := fun k_ => True) (Kd.R_keptB ((Kd.R_apart' HO_281002.out (Kd.R_typed HO_9.out) (by decide))) hkp (fun k_ hk_ hs_ => (hk_.2) hs_)) (fun k_ hk_ => trivial)); have n5_ := Aside0.mk (blk_kept (by (with_reducible repeat (first | refine blk_drewN ?_ _ | refine blk_drew ?_ | refine blk_alloc ?_ _)); exact BK256.out) hkp (fun hs_ => (fun e_ => (Kd.R_ne HO_9.out BK256.out (by decide)) e_) hs_)); have n6_ := Aside0.mk (blk_kept (by (with_reducible repeat (first | refine blk_drewN ?_ _ | refine blk_drew ?_ | refine blk_alloc ?_ _)); exact BK280.out) hkp (fun hs_ => (fun e_ => (Kd.R_ne HO_9.out BK280.out (by decide)) e_) hs_)); have n7_ := Aside0.mk (hb); clear HO_6 HO_9; clear HO_281000 HO_281001; clear HO_281002 BK256; clear BK280 HB; have HO_6 := n0_; have HO_9 := n1_; have HO_281000 := n2_; have HO_281001 := n3_; have HO_281002 := n4_; have BK256 := n5_; have BK280 := n6_; have HB := n7_; clear n0_ n1_ n2_ n3_ n4_ n5_ n6_ n7_; (try clear hb); (try clear hkp); (try clear hy0)) | ((with_reducible refine gate_callee (f := 32) rfl ?_); refine goesL_ (some 74) rfl rfl Try.func32 (by kernel_rfl) rfl #[.slice Ao67 t302.length co67, .int .i64 1] rfl (by (try simp only [List.map_toArray, List.map_cons, List.map_nil]); first | done | (rw [show t302.length = t281.length from (Kd.R_reads' HO_9.out).1.symm] <;> rfl) | rfl | (simp only [List.length_drop, List.length_take]; rfl)) ?_; (with_reducible refine (laws_heldInt64S.calls kj41 _ _ t302 1 t303 _ ?side1 ?side2 A61.out).mono ?_); (case side1 => repeat (first | exact (Kd.R_reads' HO_9.out).2.2 | (with_reducible refine Kd.C_alloc ?_ _) | (with_reducible refine Kd.C_drewN ?_ _) | (with_reducible refine Kd.C_drew ?_))); (case side2 => rw [show t302.length = t281.length from (Kd.R_reads' HO_9.out).1.symm]; exact (Kd.R_reads' HO_9.out).2.1); rintro e w' ⟨rfl, ⟨nd, rfl⟩⟩; refine ⟨_, rfl, ?_⟩; have hnb69 := NB256_280.out; have hnc69 := NB280_256.out; obtain ⟨hcz70_0, hcz70_1, hcz70_2, hfz70_0, hfz70_1, hfz70_2⟩ := cz3 BK256) | ((with_reducible refine gate_callee (f := 12) rfl ?_); refine goesL_ (some 82) rfl rfl Try.func12 (by kernel_rfl) rfl #[.agg #[.slice A0_0 l0_0.length c0_0, .slice A0_1 l0_1.length c0_1, .slice A0_2 l0_2.length c0_2]] rfl (by (try simp only [List.map_toArray, List.map_cons, List.map_nil]); first | done | rfl | (simp only [List.length_drop, List.length_take]; rfl)) ?_; (with_reducible refine (laws_toRig.calls kj41 _ _ l0_0 _ _ l0_1 _ _ l0_2 t304 t307 t310 _ ?side1 ?side2 ?side3 ?side4 ?side5 ?side6 A64.out).mono ?_); (case side1 => repeat (first | exact (Kd.C_below HR0_0.out (by repeat (first | (with_reducible first | exact HB.out | apply below_alloc | apply pw_below_drewN | apply below_drew1 | refine below_set ?_ GE256.out | refine below_set ?_ GE280.out) | exact HB.out))) | (with_reducible refine Kd.C_alloc ?_ _) | (with_reducible refine Kd.C_drewN ?_ _) | (with_reducible refine Kd.C_drew ?_))); (case side2 => exact HC0_0.out); (case side3 => repeat (first | exact (Kd.C_below HR0_1.out (by repeat (first | (with_reducible first | exact HB.out | apply below_alloc | apply pw_below_drewN | apply below_drew1 | refine below_set ?_ GE256.out | refine below_set ?_ GE280.out) | exact HB.out))) | (with_reducible refine Kd.C_alloc ?_ _) | (with_reducible refine Kd.C_drewN ?_ _) | (with_reducible refine Kd.C_drew ?_))); (case side4 => exact HC0_1.out); (case side5 => repeat (first | exact (Kd.C_below HR0_2.out (by repeat (first | (with_reducible first | exact HB.out | apply below_alloc | apply pw_below_drewN | apply below_drew1 | refine below_set ?_ GE256.out | refine below_set ?_ GE280.out) | exact HB.out))) | (with_reducible refine Kd.C_alloc ?_ _) | (with_reducible refine Kd.C_drewN ?_ _) | (with_reducible refine Kd.C_drew ?_))); (case side6 => exact HC0_2.out); rintro e w71 ⟨v305, v308, v311, rfl, ho0, ho1, ho2, hb⟩; refine ⟨_, rfl, ?_⟩; have n0_ := Aside0.mk (Kd.R_below (by (with_reducible repeat (first | apply Kd.R_alloc | apply Kd.R_drewN | apply Kd.R_drew)); exact HO_6.out) hb); have n1_ := Aside0.mk (Kd.R_below (by (with_reducible repeat (first | apply Kd.R_alloc | apply Kd.R_drewN | apply Kd.R_drew)); exact HO_9.out) hb); have n2_ := Aside0.mk (Kd.R_elder' (by (with_reducible repeat (first | apply Kd.R_alloc | apply Kd.R_drewN | apply Kd.R_drew)); exact HO_281000.out) (Kd.R_base ho0) hb); have n3_ := Aside0.mk (Kd.R_elder' (by (with_reducible repeat (first | apply Kd.R_alloc | apply Kd.R_drewN | apply Kd.R_drew)); exact HO_281001.out) (Kd.R_base ho1) hb); have n4_ := Aside0.mk (Kd.R_elder' (by (with_reducible repeat (first | apply Kd.R_alloc | apply Kd.R_drewN | apply Kd.R_drew)); exact HO_281002.out) (Kd.R_base ho2) hb); have n5_ := Aside0.mk (Kd.R_lower (Kd.R_new' ho0 (Kd.R_lt (by (with_reducible repeat (first | apply Kd.R_alloc | apply Kd.R_drewN | apply Kd.R_drew)); exact HO_281000.out))) (below_size (by repeat (first | (with_reducible first | exact HB.out | apply below_alloc | apply pw_below_drewN | apply below_drew1 | refine below_set ?_ GE256.out | refine below_set ?_ GE280.out) | exact HB.out)))); have n6_ := Aside0.mk (Kd.R_lower (Kd.R_new' ho1 (Kd.R_lt (by (with_reducible repeat (first | apply Kd.R_alloc | apply Kd.R_drewN | apply Kd.R_drew)); exact HO_281001.out))) (below_size (by repeat (first | (with_reducible first | exact HB.out | apply below_alloc | apply pw_below_drewN | apply below_drew1 | refine below_set ?_ GE256.out | refine below_set ?_ GE280.out) | exact HB.out)))); have n7_ := Aside0.mk (Kd.R_lower (Kd.R_new' ho2 (Kd.R_lt (by (with_reducible repeat (first | apply Kd.R_alloc | apply Kd.R_drewN | apply Kd.R_drew)); exact HO_281002.out))) (below_size (by repeat (first | (with_reducible first | exact HB.out | apply below_alloc | apply pw_below_drewN | apply below_drew1 | refine below_set ?_ GE256.out | refine below_set ?_ GE280.out) | exact HB.out)))); have n8_ := pB BK256 hb; have n9_ := pB BK280 hb; have n10_ := pS HB hb; clear HO_6 HO_9; clear HO_281000 HO_281001; clear HO_281002 BK256; clear BK280 HB; have HO_6 := n0_; have HO_9 := n1_; have HO_281000 := n2_; have HO_281001 := n3_; have HO_281002 := n4_; have HO306 := n5_; have HO309 := n6_; have HO312 := n7_; have BK256 := n8_; have BK280 := n9_; have HB := n10_; clear n0_ n1_ n2_ n3_ n4_ n5_ n6_ n7_ n8_ n9_ n10_; (try clear hb); (try clear hb2); (try clear hk); (try clear hi); (try clear ho0); (try clear ho1); (try clear ho2); obtain ⟨Ao72, co72, eo72⟩ := Kd.R_slice HO306.out; subst eo72; obtain ⟨Ao73, co73, eo73⟩ := Kd.R_slice HO309.out; subst eo73; obtain ⟨Ao74, co74, eo74⟩ := Kd.R_slice HO312.out; subst eo74) | ((with_reducible refine gate_callee (f := 29) rfl ?_); refine goesL_ (some 84) rfl rfl Try.func29 (by kernel_rfl) rfl #[.agg #[.slice Ao72 t304.length co72, .slice Ao73 t307.length co73, .slice Ao74 t310.length co74], .string a1] rfl (by (try simp only [List.map_toArray, List.map_cons, List.map_nil]); first | done | rfl | (simp only [List.length_drop, List.length_take]; rfl)) ?_; (with_reducible refine (impl_FreePins.calls kj41 _ _ t304 _ _ t307 _ _ t310 a1 t313 t316 _ ?side1 ?side2 ?side3 ?side4 ?side5 ?side6 A65.out).mono ?_); (case side1 => repeat (first | exact (Kd.R_reads' HO306.out).2.2 | (with_reducible refine Kd.C_alloc ?_ _) | (with_reducible refine Kd.C_drewN ?_ _) | (with_reducible refine Kd.C_drew ?_))); (case side2 => exact (Kd.R_reads' HO306.out).2.1); (case side3 => repeat (first | exact (Kd.R_reads' HO309.out).2.2 | (with_reducible refine Kd.C_alloc ?_ _) | (with_reducible refine Kd.C_drewN ?_ _) | (with_reducible refine Kd.C_drew ?_))); (case side4 => exact (Kd.R_reads' HO309.out).2.1); (case side5 => repeat (first | exact (Kd.R_reads' HO312.out).2.2 | (with_reducible refine Kd.C_alloc ?_ _) | (with_reducible refine Kd.C_drewN ?_ _) | (with_reducible refine Kd.C_drew ?_))); (case side6 => exact (Kd.R_reads' HO312.out).2.1); rintro e w75 ⟨v314, rfl, ho0, hb⟩; refine ⟨_, rfl, ?_⟩; have n0_ := Aside0.mk (Kd.R_elder' (by (with_reducible repeat (first | apply Kd.R_alloc | apply Kd.R_drewN | apply Kd.R_drew)); exact HO_6.out) (Kd.R_base ho0) hb); have n1_ := Aside0.mk (Kd.R_elder' (by (with_reducible repeat (first | apply Kd.R_alloc | apply Kd.R_drewN | apply Kd.R_drew)); exact HO_9.out) (Kd.R_base ho0) hb); have n2_ := Aside0.mk (Kd.R_below (by (with_reducible repeat (first | apply Kd.R_alloc | apply Kd.R_drewN | apply Kd.R_drew)); exact HO_281000.out) hb); have n3_ := Aside0.mk (Kd.R_below (by (with_reducible repeat (first | apply Kd.R_alloc | apply Kd.R_drewN | apply Kd.R_drew)); exact HO_281001.out) hb); have n4_ := Aside0.mk (Kd.R_below (by (with_reducible repeat (first | apply Kd.R_alloc | apply Kd.R_drewN | apply Kd.R_drew)); exact HO_281002.out) hb); have n5_ := Aside0.mk (Kd.R_below (by (with_reducible repeat (first | apply Kd.R_alloc | apply Kd.R_drewN | apply Kd.R_drew)); exact HO306.out) hb); have n6_ := Aside0.mk (Kd.R_below (by (with_reducible repeat (first | apply Kd.R_alloc | apply Kd.R_drewN | apply Kd.R_drew)); exact HO309.out) hb); have n7_ := Aside0.mk (Kd.R_below (by (with_reducible repeat (first | apply Kd.R_alloc | apply Kd.R_drewN | apply Kd.R_drew)); exact HO312.out) hb); have n8_ := Aside0.mk (Kd.R_lower (Kd.R_new' (Kd.R_new' ho0 (Kd.R_lt (by (with_reducible repeat (first | apply Kd.R_alloc | apply Kd.R_drewN | apply Kd.R_drew)); exact HO_6.out))) (Kd.R_lt (by (with_reducible repeat (first | apply Kd.R_alloc | apply Kd.R_drewN | apply Kd.R_drew)); exact HO_9.out))) (below_size (by repeat (first | (with_reducible first | exact HB.out | apply below_alloc | apply pw_below_drewN | apply below_drew1 | refine below_set ?_ GE256.out | refine below_set ?_ GE280.out) | exact HB.out)))); have n9_ := pB BK256 hb; have n10_ := pB BK280 hb; have n11_ := pS HB hb; clear HO_6 HO_9; clear HO_281000 HO_281001; clear HO_281002 HO306; clear HO309 HO312; clear BK256 BK280 HB; have HO_6 := n0_; have HO_9 := n1_; have HO_281000 := n2_; have HO_281001 := n3_; have HO_281002 := n4_; have HO306 := n5_; have HO309 := n6_; have HO312 := n7_; have HO315 := n8_; have BK256 := n9_; have BK280 := n10_; have HB := n11_; clear n0_ n1_ n2_ n3_ n4_ n5_ n6_ n7_ n8_ n9_ n10_ n11_; (try clear hb); (try clear hb2); (try clear hk); (try clear hi); (try clear ho0)))
            (try simp only [Act.put, List.setIfInBounds_toArray, List.set_cons_zero, List.set_cons_succ])
            go_cut [95] (fun v95 wc => ∃ (kq : Nat) (x95_65 : Bool), v95 = .bool x95_65 ∧ Aside0 (laws_FnExactFreePins.j2 kq t302 t301 x95_65 = some r) ∧ Aside0 (kq ≤ kj41) ∧ Aside0 (Kd.R (Kd.int .i64) 2 wc w.heap.size (fun _ => True) (.slice Ao67 t281.length co67) t302) ∧ Aside0 (Kd.R k69 69 wc w.heap.size (fun _ => True) (.slice Ao25 t297.length co25) t297) ∧ Aside0 (Kd.R Kd.string 9 wc w.heap.size (fun _ => True) (.slice Ao28 t298.length co28) t298) ∧ Aside0 (Kd.R k40 40 wc w.heap.size (fun _ => True) (.slice Ao29 t299.length co29) t299) ∧ Aside0 (wc.heap[gb256]? = some (.cells #[(.slice A0_0 l0_0.length c0_0), (.slice A0_1 l0_1.length c0_1), (.slice A0_2 l0_2.length c0_2)] 26 (0, 0))) ∧ Aside0 (wc.heap[gb280]? = some (.cells #[(.slice Ao25 t297.length co25), (.slice Ao28 t298.length co28), (.slice Ao29 t299.length co29)] 32 (0, 0))) ∧ Aside0 (Below w.heap.size w wc))
            case first =>
             have H := HC66.out
             clear HC66
             replace H := Option.bind_eq_some_iff.mp H
             obtain ⟨t317, A760, H⟩ := H
             replace H : (if t317 = true then (laws_FnExactFreePins.j2 kj41 t302 t301 (t316 != t270)) else (laws_FnExactFreePins.j2 kj41 t302 t301 true)) = some r := H
             have A76 := Aside0.mk A760
             clear A760
             by_cases c77 : t317 = true
             ·subst c77
              have H1 : (laws_FnExactFreePins.j2 kj41 t302 t301 (t316 != t270)) = some r := by rw [if_pos rfl] at H; exact H
              clear H
              have H := H1
              clear H1
              have H' := Aside0.mk H
              clear H
              obtain ⟨Ao78, co78, eo78⟩ := Kd.R_slice HO315.out
              subst eo78
              obtain ⟨Ao79, co79, eo79⟩ := Kd.R_slice HO_6.out
              subst eo79
              go_wp2_with (first | ((with_reducible refine gate_callee (f := 30) rfl ?_); refine goesL_ (some 89) rfl rfl Try.func30 (by kernel_rfl) rfl #[.slice Ao78 t313.length co78, .slice Ao79 t267.length co79] rfl (by (try simp only [List.map_toArray, List.map_cons, List.map_nil]); first | done | rfl | (simp only [List.length_drop, List.length_take]; rfl)) ?_; (with_reducible refine (laws_eqInt64S.calls kj41 _ _ t313 _ _ t267 true _ ?side1 ?side2 ?side3 ?side4 A76.out).mono ?_); (case side1 => repeat (first | exact (Kd.R_reads' HO315.out).2.2 | (with_reducible refine Kd.C_alloc ?_ _) | (with_reducible refine Kd.C_drewN ?_ _) | (with_reducible refine Kd.C_drew ?_))); (case side2 => exact (Kd.R_reads' HO315.out).2.1); (case side3 => repeat (first | exact (Kd.R_reads' HO_6.out).2.2 | (with_reducible refine Kd.C_alloc ?_ _) | (with_reducible refine Kd.C_drewN ?_ _) | (with_reducible refine Kd.C_drew ?_))); (case side4 => exact (Kd.R_reads' HO_6.out).2.1); rintro e w' ⟨rfl, ⟨nd, rfl⟩⟩; refine ⟨_, rfl, ?_⟩))
              go_meet
              case rel => exact ⟨_, ((t316 != t270)), (by first | rfl | (simp; done) | (simp [*]; done)), H', ⟨by have := HJ12.out; have := HJ41.out; first | omega | exact Nat.le_refl _⟩, ⟨by (try simp only [hl281000_41]); (try simp only [hl281001_41]); (try simp only [hl281002_41]); (with_reducible repeat (first | apply Kd.R_alloc | apply Kd.R_drewN | apply Kd.R_drew)); exact Kd.R_mono HO_9.out (fun _ hk => trivial)⟩, ⟨by (try simp only [hl281000_41]); (try simp only [hl281001_41]); (try simp only [hl281002_41]); (with_reducible repeat (first | apply Kd.R_alloc | apply Kd.R_drewN | apply Kd.R_drew)); exact Kd.R_mono HO_281000.out (fun _ hk => trivial)⟩, ⟨by (try simp only [hl281000_41]); (try simp only [hl281001_41]); (try simp only [hl281002_41]); (with_reducible repeat (first | apply Kd.R_alloc | apply Kd.R_drewN | apply Kd.R_drew)); exact Kd.R_mono HO_281001.out (fun _ hk => trivial)⟩, ⟨by (try simp only [hl281000_41]); (try simp only [hl281001_41]); (try simp only [hl281002_41]); (with_reducible repeat (first | apply Kd.R_alloc | apply Kd.R_drewN | apply Kd.R_drew)); exact Kd.R_mono HO_281002.out (fun _ hk => trivial)⟩, ⟨by (try simp only [hl281000_41]); (try simp only [hl281001_41]); (try simp only [hl281002_41]); (with_reducible repeat (first | refine blk_drewN ?_ _ | refine blk_drew ?_ | refine blk_alloc ?_ _)); exact BK256.out⟩, ⟨by (try simp only [hl281000_41]); (try simp only [hl281001_41]); (try simp only [hl281002_41]); (with_reducible repeat (first | refine blk_drewN ?_ _ | refine blk_drew ?_ | refine blk_alloc ?_ _)); exact BK280.out⟩, ⟨by repeat (first | (with_reducible first | exact HB.out | apply below_alloc | apply pw_below_drewN | apply below_drew1 | refine below_set ?_ GE256.out | refine below_set ?_ GE280.out) | exact HB.out)⟩⟩
             ·replace c77 := Bool.eq_false_iff.mpr c77
              subst c77
              have H1 : (laws_FnExactFreePins.j2 kj41 t302 t301 true) = some r := by rw [if_neg (show ¬ (false = true) by decide)] at H; exact H
              clear H
              have H := H1
              clear H1
              have H' := Aside0.mk H
              clear H
              obtain ⟨Ao80, co80, eo80⟩ := Kd.R_slice HO315.out
              subst eo80
              obtain ⟨Ao81, co81, eo81⟩ := Kd.R_slice HO_6.out
              subst eo81
              go_wp2_with (first | ((with_reducible refine gate_callee (f := 30) rfl ?_); refine goesL_ (some 89) rfl rfl Try.func30 (by kernel_rfl) rfl #[.slice Ao80 t313.length co80, .slice Ao81 t267.length co81] rfl (by (try simp only [List.map_toArray, List.map_cons, List.map_nil]); first | done | rfl | (simp only [List.length_drop, List.length_take]; rfl)) ?_; (with_reducible refine (laws_eqInt64S.calls kj41 _ _ t313 _ _ t267 false _ ?side1 ?side2 ?side3 ?side4 A76.out).mono ?_); (case side1 => repeat (first | exact (Kd.R_reads' HO315.out).2.2 | (with_reducible refine Kd.C_alloc ?_ _) | (with_reducible refine Kd.C_drewN ?_ _) | (with_reducible refine Kd.C_drew ?_))); (case side2 => exact (Kd.R_reads' HO315.out).2.1); (case side3 => repeat (first | exact (Kd.R_reads' HO_6.out).2.2 | (with_reducible refine Kd.C_alloc ?_ _) | (with_reducible refine Kd.C_drewN ?_ _) | (with_reducible refine Kd.C_drew ?_))); (case side4 => exact (Kd.R_reads' HO_6.out).2.1); rintro e w' ⟨rfl, ⟨nd, rfl⟩⟩; refine ⟨_, rfl, ?_⟩))
              go_meet
              case rel => exact ⟨_, (true), (by first | rfl | (simp; done) | (simp [*]; done)), H', ⟨by have := HJ12.out; have := HJ41.out; first | omega | exact Nat.le_refl _⟩, ⟨by (try simp only [hl281000_41]); (try simp only [hl281001_41]); (try simp only [hl281002_41]); (with_reducible repeat (first | apply Kd.R_alloc | apply Kd.R_drewN | apply Kd.R_drew)); exact Kd.R_mono HO_9.out (fun _ hk => trivial)⟩, ⟨by (try simp only [hl281000_41]); (try simp only [hl281001_41]); (try simp only [hl281002_41]); (with_reducible repeat (first | apply Kd.R_alloc | apply Kd.R_drewN | apply Kd.R_drew)); exact Kd.R_mono HO_281000.out (fun _ hk => trivial)⟩, ⟨by (try simp only [hl281000_41]); (try simp only [hl281001_41]); (try simp only [hl281002_41]); (with_reducible repeat (first | apply Kd.R_alloc | apply Kd.R_drewN | apply Kd.R_drew)); exact Kd.R_mono HO_281001.out (fun _ hk => trivial)⟩, ⟨by (try simp only [hl281000_41]); (try simp only [hl281001_41]); (try simp only [hl281002_41]); (with_reducible repeat (first | apply Kd.R_alloc | apply Kd.R_drewN | apply Kd.R_drew)); exact Kd.R_mono HO_281002.out (fun _ hk => trivial)⟩, ⟨by (try simp only [hl281000_41]); (try simp only [hl281001_41]); (try simp only [hl281002_41]); (with_reducible repeat (first | refine blk_drewN ?_ _ | refine blk_drew ?_ | refine blk_alloc ?_ _)); exact BK256.out⟩, ⟨by (try simp only [hl281000_41]); (try simp only [hl281001_41]); (try simp only [hl281002_41]); (with_reducible repeat (first | refine blk_drewN ?_ _ | refine blk_drew ?_ | refine blk_alloc ?_ _)); exact BK280.out⟩, ⟨by repeat (first | (with_reducible first | exact HB.out | apply below_alloc | apply pw_below_drewN | apply below_drew1 | refine below_set ?_ GE256.out | refine below_set ?_ GE280.out) | exact HB.out)⟩⟩
            case rest =>
             clear HC66
             try clear c1
             try clear c2
             try clear p2
             try clear c3
             try clear c4
             try clear c4b0
             try clear c4b1
             try clear c5
             try clear c6
             try clear c6b0
             try clear c7
             try clear c8
             try clear c10
             try clear c12
             try clear c14
             try clear c23
             try clear c26
             try clear c28
             try clear c29
             try clear c30
             try clear c31
             try clear c32
             try clear c37
             try clear c40
             try clear c49
             try clear c52
             try clear c52b0
             try clear c54
             try clear c59
             try clear c62
             try clear c62b0
             try clear c63
             try clear c63b0
             try clear c63b1
             try clear c69
             try clear c77
             try clear hcz14_0
             try clear hcz14_1
             try clear hcz14_2
             try clear hcz16_0
             try clear hcz16_1
             try clear hcz16_2
             try clear hcz22_0
             try clear hcz22_1
             try clear hcz22_2
             try clear hcz27_0
             try clear hcz27_1
             try clear hcz27_2
             try clear hcz50_0
             try clear hcz50_1
             try clear hcz50_2
             try clear hcz70_0
             try clear hcz70_1
             try clear hcz70_2
             try clear hcz7_0
             try clear hcz7_1
             try clear hcz7_2
             try clear hfz14_0
             try clear hfz14_1
             try clear hfz14_2
             try clear hfz16_0
             try clear hfz16_1
             try clear hfz16_2
             try clear hfz22_0
             try clear hfz22_1
             try clear hfz22_2
             try clear hfz27_0
             try clear hfz27_1
             try clear hfz27_2
             try clear hfz50_0
             try clear hfz50_1
             try clear hfz50_2
             try clear hfz70_0
             try clear hfz70_1
             try clear hfz70_2
             try clear hfz7_0
             try clear hfz7_1
             try clear hfz7_2
             try clear p2
             obtain ⟨kq, x95_65, rfl, HA, HJ65, HO_9, HO_281000, HO_281001, HO_281002, BK256, BK280, HB⟩ := hcut
             have hl9_65 := (Kd.R_reads' HO_9.out).1
             rw [hl9_65] at HO_9
             (try simp only [hl9_65])
             (try simp only [hl9_65] at BK256)
             (try simp only [hl9_65] at BK280)
             (try simp only [hl9_65] at HO_281000)
             (try simp only [hl9_65] at HO_281001)
             (try simp only [hl9_65] at HO_281002)
             cases kq with
             | zero => exact absurd HA.out (by simp [laws_FnExactFreePins.j2])
             | succ kj65 =>
              have H := HA.out
              clear HA
              simp only [laws_FnExactFreePins.j2] at H
              by_cases c82 : x95_65 = true
              ·subst c82
               have H1 : (some false) = some r := by rw [if_pos rfl] at H; exact H
               clear H
               have H := H1
               clear H1
               obtain rfl := Option.some.inj H
               exact absurd HRT.out (by decide)
              ·replace c82 := Bool.eq_false_iff.mpr c82
               subst c82
               have H1 : ((laws_heldInt64S.f kj65 t302 1).bind fun t318 => (if t318 < 0 then (some false) else (if t318 = t301 then (some true) else (some false)))) = some r := by rw [if_neg (show ¬ (false = true) by decide)] at H; exact H
               clear H
               have H := H1
               clear H1
               replace H := Option.bind_eq_some_iff.mp H
               obtain ⟨t318, A830, H⟩ := H
               replace H : (if t318 < 0 then (some false) else (if t318 = t301 then (some true) else (some false))) = some r := H
               have A83 := Aside0.mk A830
               clear A830
               by_cases c84 : t318 < 0
               ·rw [if_pos c84] at H
                have c84b0 : decide (t318 < 0) = true := decide_eq_true c84
                clear c84
                obtain rfl := Option.some.inj H
                exact absurd HRT.out (by decide)
               ·rw [if_neg c84] at H
                have c84b0 : decide (t318 < 0) = false := decide_eq_false c84
                clear c84
                by_cases c85 : t318 = t301
                ·rw [if_pos c85] at H
                 have c85b0 : (t318 == t301) = true := beq_iff_eq.mpr c85
                 have c85b1 : (t318 != t301) = false := bne_eq_false_iff_eq.mpr c85
                 clear c85
                 obtain rfl := Option.some.inj H
                 simp only [Option.some.injEq, Prod.mk.injEq] at H
                 obtain ⟨rfl⟩ := H
                 go_wp2_with (first | ((with_reducible refine gate_callee (f := 32) rfl ?_); refine goesL_ (some 98) rfl rfl Try.func32 (by kernel_rfl) rfl #[.slice Ao67 t302.length co67, .int .i64 1] rfl (by (try simp only [List.map_toArray, List.map_cons, List.map_nil]); first | done | rfl | (simp only [List.length_drop, List.length_take]; rfl)) ?_; (with_reducible refine (laws_heldInt64S.calls kj65 _ _ t302 1 t318 _ ?side1 ?side2 A83.out).mono ?_); (case side1 => repeat (first | exact (Kd.R_reads' HO_9.out).2.2 | (with_reducible refine Kd.C_alloc ?_ _) | (with_reducible refine Kd.C_drewN ?_ _) | (with_reducible refine Kd.C_drew ?_))); (case side2 => exact (Kd.R_reads' HO_9.out).2.1); rintro e w' ⟨rfl, ⟨nd, rfl⟩⟩; refine ⟨_, rfl, ?_⟩))
                 go_ret
                 exact ⟨by first | rfl | (simp [errW_none, errW_some] <;> rfl) | (simp [*, errW_none, errW_some] <;> rfl), pR HB⟩
                ·rw [if_neg c85] at H
                 have c85b0 : (t318 == t301) = false := beq_eq_false_iff_ne.mpr c85
                 have c85b1 : (t318 != t301) = true := bne_iff_ne.mpr c85
                 obtain rfl := Option.some.inj H
                 exact absurd HRT.out (by decide)
           ·rw [if_neg c63] at H
            have c63b0 : (t303 == t301) = false := beq_eq_false_iff_ne.mpr c63
            have c63b1 : (t303 != t301) = true := bne_iff_ne.mpr c63
            obtain rfl := Option.some.inj H
            exact absurd HRT.out (by decide)
      ·replace c40 := Bool.eq_false_iff.mpr c40
       subst c40
       have H1 : (some false) = some r := by rw [if_neg (show ¬ (false = true) by decide)] at H; exact H
       clear H
       have H := H1
       clear H1
       obtain rfl := Option.some.inj H
       exact absurd HRT.out (by decide)

def laws_FnExactFreePins.Pure : Prop := ∀ (l0_0 : List (S92)) (l0_1 : List ByteArray) (l0_2 : List (S55)) (a1 : ByteArray), (l0_0.length ≤ 9223372036854775807 ∧ ∀ y0 ∈ l0_0, (y0.f0.size ≤ 9223372036854775807) ∧ (y0.f1.size ≤ 9223372036854775807) ∧ ((Lit.int .i64 y0.f2).wf = true)) → (l0_1.length ≤ 9223372036854775807 ∧ ∀ y0 ∈ l0_1, y0.size ≤ 9223372036854775807) → (l0_2.length ≤ 9223372036854775807 ∧ ∀ y0 ∈ l0_2, (y0.f0.size ≤ 9223372036854775807) ∧ (y0.f1.size ≤ 9223372036854775807) ∧ ((Lit.int .i64 y0.f2).wf = true)) → (a1.size ≤ 9223372036854775807) → ∃ k, laws_FnExactFreePins.f k l0_0 l0_1 l0_2 a1 = some true

end Go.Proofs.Ytpngklefeaolfaa.PFnExactFreePins
