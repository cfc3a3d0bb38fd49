-- Written by a program of this session (wip/tools/pp.sh).
import Derived.Test.YtpngklefeaolfaaPFnExactMoveLinex0
namespace Go.Proofs.Ytpngklefeaolfaa.PFnExactMoveLine
open Go.RowKit Go.Proofs.YtpngklefeaolfaaW.PrintWords Go.Proofs.YtpngklefeaolfaaW.PrintLast Go.Proofs.YtpngklefeaolfaaW.PrintMore Go.Proofs.Ytpngklefeaolfaa.Small
open Bool renaming true → T, false → F
attribute [local go_sem] max2_int min2_int max_two min_two max_three min_three max_four min_four   -- for this text's walks alone
set_option linter.unusedVariables false
set_option linter.unusedSimpArgs false

/-! ### laws_szRail: function 69 -/
def laws_szRail.f (a0_0 : ByteArray) (a0_1 : ByteArray) (a0_2 : Int) (a1 : Int) : Option (Int) := if (wrap64 (a1 - (a0_0.size : Int))) < 0 then (some (-1)) else (if (wrap64 ((wrap64 (a1 - (a0_0.size : Int))) - (a0_1.size : Int))) < 0 then (some (-1)) else (some (wrap64 ((wrap64 (a1 - (a0_0.size : Int))) - (a0_1.size : Int)))))
set_option maxHeartbeats 8000000 in
set_option maxRecDepth 100000 in
theorem laws_szRail.calls (b : ByteArray) (l : ByteArray) (q : Int) (m : Int) (r : Int) (w : World) (h : laws_szRail.f b l q m = some r) :
  Calls Try.prog 69 #[.agg #[.string b, .string l, .int .i64 q], .int .i64 m] w fun e w' => e = .returned (.int .i64 r) ∧ Below w.heap.size w w' := by
 have ai := Try.underlying92; have HB := Aside0.mk (Below.refl w.heap.size w); have H : (if (wrap64 (m - (b.size : Int))) < 0 then (some (-1)) else (if (wrap64 ((wrap64 (m - (b.size : Int))) - (l.size : Int))) < 0 then (some (-1)) else (some (wrap64 ((wrap64 (m - (b.size : Int))) - (l.size : Int)))))) = some r := h; clear h; have HF_ := Aside0.mk H; clear H; (go_enter Try.func69, Try.ntmps69); (go_upto_if 11 with (first | ((with_reducible refine gate_dst (N := 2) rfl ?_); refine box_event ?hg (N := 2) ?hd (cs := #[.string b, .string l, .int .i64 q]) (t := 92) ?hr ?_; (case hd | hg => rfl); (case hr => go_simp; try rfl); intro af hg w3 hbox hb; have o := Aside0.mk (hbox); have ag := pG HB hg; have ah := pG HB hg; replace HB := pS HB hb; clear hb hbox hg; obtain ⟨u, x, y, z, B, D⟩ := cz3 o))); (try simp only [Act.put, List.setIfInBounds_toArray, List.set_cons_zero, List.set_cons_succ]); have H := HF_.out; clear HF_; by_cases c5 : (wrap64 (m - (b.size : Int))) < 0
 ·rw [if_pos c5] at H; have n : decide ((wrap64 (m - (b.size : Int))) < 0) = true := decide_eq_true c5; clear c5; (first | rw [n] | (simp only [i64_w, i32_w]; rw [n]) | skip); obtain rfl := Option.some.inj H; simp only [Option.some.injEq, Prod.mk.injEq] at H; obtain ⟨rfl⟩ := H; (go_wp2); (go_ret); exact ⟨zE, pR HB⟩
 ·rw [if_neg c5] at H; have n : decide ((wrap64 (m - (b.size : Int))) < 0) = false := decide_eq_false c5; clear c5; (first | rw [n] | (simp only [i64_w, i32_w]; rw [n]) | skip); by_cases c6 : (wrap64 ((wrap64 (m - (b.size : Int))) - (l.size : Int))) < 0
  ·rw [if_pos c6] at H; have s : decide ((wrap64 ((wrap64 (m - (b.size : Int))) - (l.size : Int))) < 0) = true := decide_eq_true c6; clear c6; obtain rfl := Option.some.inj H; simp only [Option.some.injEq, Prod.mk.injEq] at H; obtain ⟨rfl⟩ := H; obtain ⟨E, I, O, U, X, Y⟩ := cz3 o; (go_wp2); (go_ret); exact ⟨zE, pR HB⟩
  ·rw [if_neg c6] at H; have s : decide ((wrap64 ((wrap64 (m - (b.size : Int))) - (l.size : Int))) < 0) = false := decide_eq_false c6; clear c6; obtain rfl := Option.some.inj H; simp only [Option.some.injEq, Prod.mk.injEq] at H; obtain ⟨rfl⟩ := H; obtain ⟨Z, aa, ab, ac, ad, ae⟩ := cz3 o; (go_wp2); (go_ret); exact ⟨zE, pR HB⟩

/-! ### laws_szRailS: function 38 -/
def laws_szRailS.l0 : Nat → List (S92) → Int → Int → Option (Int)
 | 0, _, _, _ => none
 | k + 1, x0, x1, x5 => if x5 < (x0.length : Int) then (if 0 ≤ x5 then ((laws_szRail.f ((rd_T92 x0 x5).f0) ((rd_T92 x0 x5).f1) ((rd_T92 x0 x5).f2) x1).bind fun t103 => (if t103 < 0 then (some (-1)) else (laws_szRailS.l0 k x0 t103 (wrap64 (x5 + 1))))) else (none)) else (some x1)
def laws_szRailS.f (k : Nat) (l0 : List (S92)) (a1 : Int) : Option (Int) := if (wrap64 (a1 - (l0.length : Int))) < 0 then (some (-1)) else (laws_szRailS.l0 k l0 (wrap64 (a1 - (l0.length : Int))) 0)
theorem laws_szRailS.mono_l : ∀ k, (∀ y0 y1 y2, LeO (laws_szRailS.l0 k y0 y1 y2) (laws_szRailS.l0 (k + 1) y0 y1 y2))
 | 0 => fun _ _ _ r h => by simp [laws_szRailS.l0] at h
 | k + 1 => by
  have ih0 := laws_szRailS.mono_l k
  ·intro y0 y1 y2
   unfold laws_szRailS.l0
   repeat' with_reducible first | exact ih0 _ _ _ | exact LeO.refl _ | exact LeO.none _ | refine LeO.ite ?_ ?_ | refine LeO.bind ?_ (fun _ => ?_)
theorem laws_szRailS.mono : ∀ a0 a1 k, LeO (laws_szRailS.f k a0 a1) (laws_szRailS.f (k + 1) a0 a1) := by
 intro a0 a1 k; have ih0 := laws_szRailS.mono_l k; unfold laws_szRailS.f; repeat' with_reducible first | exact ih0 _ _ _ | exact LeO.refl _ | exact LeO.none _ | refine LeO.ite ?_ ?_ | refine LeO.bind ?_ (fun _ => ?_)
set_option maxHeartbeats 8000000 in
set_option maxRecDepth 100000 in
theorem laws_szRailS.calls (k : Nat) (X : Option Addr) (c0 : Nat) (l0 : List (S92)) (u : Int) (r : Int) (w : World) (B : Kd.C k92 w X l0.length l0) (D : l0.length ≤ c0) (h : laws_szRailS.f k l0 u = some r) :
  Calls Try.prog 38 #[.slice X l0.length c0, .int .i64 u] w fun e w' => e = .returned (.int .i64 r) ∧ Below w.heap.size w w' := by
 have aa := Try.underlying92; have Y := Aside0.mk B; have ac := Aside0.mk D; clear B D; have HB := Aside0.mk (Below.refl w.heap.size w); have H : (if (wrap64 (u - (l0.length : Int))) < 0 then (some (-1)) else (laws_szRailS.l0 k l0 (wrap64 (u - (l0.length : Int))) 0)) = some r := h; clear h; by_cases c3 : (wrap64 (u - (l0.length : Int))) < 0
 ·rw [if_pos c3] at H; have z : decide ((wrap64 (u - (l0.length : Int))) < 0) = true := decide_eq_true c3; clear c3; obtain rfl := Option.some.inj H; simp only [Option.some.injEq, Prod.mk.injEq] at H; obtain ⟨rfl⟩ := H; (go_enter Try.func38, Try.ntmps38); (go_wp2); (go_ret); exact ⟨zE, pR HB⟩
 ·rw [if_neg c3] at H; have z : decide ((wrap64 (u - (l0.length : Int))) < 0) = false := decide_eq_false c3; clear c3; have H' := Aside0.mk H; clear H; (go_enter Try.func38, Try.ntmps38); (go_wp2); go_loopg [1, 5] k (fun kq v1 v5 w' => ∃ (l : Int) (b : Int), v1 = .int .i64 l ∧ v5 = .int .i64 b ∧ Aside0 (laws_szRailS.l0 kq l0 l b = some r) ∧ Aside0 (kq ≤ k) ∧ Aside0 (Below w.heap.size w w'))
  case atStart => exact ⟨(wrap64 (u - (l0.length : Int))), (0), zF, zF, H', ⟨Nat.le_refl _⟩, ⟨pR HB⟩⟩
  case round =>
   clear H'; (try clear p2); (try clear c3); (try clear z); obtain ⟨l, b, rfl, rfl, HA, E, HB⟩ := hrel
   cases gk with
   | zero => exact absurd HA.out (by simp [laws_szRailS.l0])
   | succ k1 =>
    have H := HA.out; clear HA; simp only [laws_szRailS.l0] at H; by_cases c4 : b < (l0.length : Int)
    ·rw [if_pos c4] at H; have O : decide (b < (l0.length : Int)) = true := decide_eq_true c4; clear c4; by_cases c5 : 0 ≤ b
     ·rw [if_pos c5] at H; have ab : decide (0 ≤ b) = true := decide_eq_true c5; clear c5; replace H := Option.bind_eq_some_iff.mp H; obtain ⟨m, I, H⟩ := H; (try dsimp only at H); have A6 := Aside0.mk I; clear I; have HF_ := Aside0.mk H; clear H; have x : 0 ≤ (b : Int) := zd; have y : b < (l0.length : Int) := zd; obtain ⟨Z, U, o, q, s⟩ := at_T92 Y.out b x y
      cases U
      replace o := bC HB o; replace q := bC HB q; replace s := bC HB s; replace x := eq_true x; replace y := eq_true y; (go_upto_if 25 with (first | ((with_reducible refine gate_callee (f := 69) rfl ?_); refine goesL_ (some 23) rfl rfl Try.func69 (by kernel_rfl) rfl #[.agg #[.string ((rd_T92 l0 b).f0), .string ((rd_T92 l0 b).f1), .int .i64 ((rd_T92 l0 b).f2)], .int .i64 l] rfl zM ?_; (with_reducible refine (laws_szRail.calls ((rd_T92 l0 b).f0) ((rd_T92 l0 b).f1) ((rd_T92 l0 b).f2) l m _ A6.out).mono ?_); rintro e w7 ⟨rfl, hb⟩; refine ⟨_, rfl, ?_⟩; replace HB := pS HB hb; (try clear hb)))); (try simp only [Act.put, List.setIfInBounds_toArray, List.set_cons_zero, List.set_cons_succ]); have H := HF_.out; clear HF_; by_cases c8 : m < 0
      ·rw [if_pos c8] at H; have n : decide (m < 0) = true := decide_eq_true c8; clear c8; (first | rw [n] | (simp only [i64_w, i32_w]; rw [n]) | skip); obtain rfl := Option.some.inj H; simp only [Option.some.injEq, Prod.mk.injEq] at H; obtain ⟨rfl⟩ := H; (go_wp2); (go_ret); exact ⟨zE, pR HB⟩
      ·rw [if_neg c8] at H; have n : decide (m < 0) = false := decide_eq_false c8; clear c8; (first | rw [n] | (simp only [i64_w, i32_w]; rw [n]) | skip); have H' := Aside0.mk H; clear H; (go_wp2); go_roundg k1
       case measure => have := E.out; omega
       case rel => exact ⟨(m), (wrap64 (b + 1)), zF, zF, H', ⟨by have := E.out; omega⟩, ⟨pR HB⟩⟩
     ·rw [if_neg c5] at H; exact absurd H (by simp)
    ·rw [if_neg c4] at H; have O : decide (b < (l0.length : Int)) = false := decide_eq_false c4; clear c4; obtain rfl := Option.some.inj H; simp only [Option.some.injEq, Prod.mk.injEq] at H; obtain ⟨rfl⟩ := H; (go_wp2); (go_ret); exact ⟨zE, pR HB⟩

/-! ### laws_szStringS: function 39 -/
def laws_szStringS.l0 : Nat → List ByteArray → Int → Int → Option (Int)
 | 0, _, _, _ => none
 | k + 1, x0, x1, x5 => if x5 < (x0.length : Int) then (if 0 ≤ x5 then (if (wrap64 (x1 - ((rdOf ByteArray.empty x0 x5).size : Int))) < 0 then (some (-1)) else (laws_szStringS.l0 k x0 (wrap64 (x1 - ((rdOf ByteArray.empty x0 x5).size : Int))) (wrap64 (x5 + 1)))) else (none)) else (some x1)
def laws_szStringS.f (k : Nat) (l0 : List ByteArray) (a1 : Int) : Option (Int) := if (wrap64 (a1 - (l0.length : Int))) < 0 then (some (-1)) else (laws_szStringS.l0 k l0 (wrap64 (a1 - (l0.length : Int))) 0)
theorem laws_szStringS.mono_l : ∀ k, (∀ y0 y1 y2, LeO (laws_szStringS.l0 k y0 y1 y2) (laws_szStringS.l0 (k + 1) y0 y1 y2))
 | 0 => fun _ _ _ r h => by simp [laws_szStringS.l0] at h
 | k + 1 => by
  have ih0 := laws_szStringS.mono_l k
  ·intro y0 y1 y2
   unfold laws_szStringS.l0
   repeat' with_reducible first | exact ih0 _ _ _ | exact LeO.refl _ | exact LeO.none _ | refine LeO.ite ?_ ?_ | refine LeO.bind ?_ (fun _ => ?_)
theorem laws_szStringS.mono : ∀ a0 a1 k, LeO (laws_szStringS.f k a0 a1) (laws_szStringS.f (k + 1) a0 a1) := by
 intro a0 a1 k; have ih0 := laws_szStringS.mono_l k; unfold laws_szStringS.f; repeat' with_reducible first | exact ih0 _ _ _ | exact LeO.refl _ | exact LeO.none _ | refine LeO.ite ?_ ?_ | refine LeO.bind ?_ (fun _ => ?_)
set_option maxHeartbeats 8000000 in
set_option maxRecDepth 100000 in
theorem laws_szStringS.calls (k : Nat) (O : Option Addr) (c0 : Nat) (l0 : List ByteArray) (o : Int) (r : Int) (w : World) (y : Kd.C Kd.string w O l0.length l0) (z : l0.length ≤ c0) (h : laws_szStringS.f k l0 o = some r) :
  Calls Try.prog 39 #[.slice O l0.length c0, .int .i64 o] w fun e w' => e = .returned (.int .i64 r) ∧ Drawn0 w w' := by
 have B := Aside0.mk y; have aa := Aside0.mk z; clear y z; have H : (if (wrap64 (o - (l0.length : Int))) < 0 then (some (-1)) else (laws_szStringS.l0 k l0 (wrap64 (o - (l0.length : Int))) 0)) = some r := h; clear h; by_cases c3 : (wrap64 (o - (l0.length : Int))) < 0
 ·rw [if_pos c3] at H; have u : decide ((wrap64 (o - (l0.length : Int))) < 0) = true := decide_eq_true c3; clear c3; obtain rfl := Option.some.inj H; simp only [Option.some.injEq, Prod.mk.injEq] at H; obtain ⟨rfl⟩ := H; (go_enter Try.func39, Try.ntmps39); (go_wp2); (go_ret); exact ⟨zF, zD⟩
 ·rw [if_neg c3] at H; have u : decide ((wrap64 (o - (l0.length : Int))) < 0) = false := decide_eq_false c3; clear c3; have H' := Aside0.mk H; clear H; (go_enter Try.func39, Try.ntmps39); (go_wp2); go_loopg [1, 5] k (fun kq U X w' => ∃ (l : Int) (b : Int), U = .int .i64 l ∧ X = .int .i64 b ∧ Aside0 (laws_szStringS.l0 kq l0 l b = some r) ∧ Aside0 (kq ≤ k) ∧ Drawn0 w w')
  case atStart => exact ⟨(wrap64 (o - (l0.length : Int))), (0), zF, zF, H', ⟨Nat.le_refl _⟩, zD⟩
  case round =>
   clear H'; (try clear p2); (try clear c3); (try clear u); obtain ⟨l, b, rfl, rfl, HA, D, ⟨m1, rfl⟩⟩ := hrel
   cases gk with
   | zero => exact absurd HA.out (by simp [laws_szStringS.l0])
   | succ Y =>
    have H := HA.out; clear HA; simp only [laws_szStringS.l0] at H; by_cases c4 : b < (l0.length : Int)
    ·rw [if_pos c4] at H; have E : decide (b < (l0.length : Int)) = true := decide_eq_true c4; clear c4; by_cases c5 : 0 ≤ b
     ·rw [if_pos c5] at H; have Z : decide (0 ≤ b) = true := decide_eq_true c5; clear c5; by_cases c6 : (wrap64 (l - ((rdOf ByteArray.empty l0 b).size : Int))) < 0
      ·rw [if_pos c6] at H; have I : decide ((wrap64 (l - ((rdOf ByteArray.empty l0 b).size : Int))) < 0) = true := decide_eq_true c6; clear c6; obtain rfl := Option.some.inj H; simp only [Option.some.injEq, Prod.mk.injEq] at H; obtain ⟨rfl⟩ := H; have m : 0 ≤ (b : Int) := zd; have n : b < (l0.length : Int) := zd; obtain ⟨x, q, s⟩ := Kd.at_string B.out b m n
       cases q
       replace m := eq_true m; replace n := eq_true n; (go_wp2); (go_ret); exact ⟨zF, zD⟩
      ·rw [if_neg c6] at H; have I : decide ((wrap64 (l - ((rdOf ByteArray.empty l0 b).size : Int))) < 0) = false := decide_eq_false c6; clear c6; have H' := Aside0.mk H; clear H; have m : 0 ≤ (b : Int) := zd; have n : b < (l0.length : Int) := zd; obtain ⟨x, q, s⟩ := Kd.at_string B.out b m n
       cases q
       replace m := eq_true m; replace n := eq_true n; (go_wp2); go_roundg Y
       case measure => have := D.out; omega
       case rel => exact ⟨(wrap64 (l - ((rdOf ByteArray.empty l0 b).size : Int))), (wrap64 (b + 1)), zF, zF, H', ⟨by have := D.out; omega⟩, zD⟩
     ·rw [if_neg c5] at H; exact absurd H (by simp)
    ·rw [if_neg c4] at H; have E : decide (b < (l0.length : Int)) = false := decide_eq_false c4; clear c4; obtain rfl := Option.some.inj H; simp only [Option.some.injEq, Prod.mk.injEq] at H; obtain ⟨rfl⟩ := H; (go_wp2); (go_ret); exact ⟨zF, zD⟩

/-! ### laws_szBelay: function 33 -/
def laws_szBelay.f (a0_0 : ByteArray) (a0_1 : ByteArray) (a0_2 : Int) (a1 : Int) : Option (Int) := if (wrap64 (a1 - (a0_0.size : Int))) < 0 then (some (-1)) else (if (wrap64 ((wrap64 (a1 - (a0_0.size : Int))) - (a0_1.size : Int))) < 0 then (some (-1)) else (some (wrap64 ((wrap64 (a1 - (a0_0.size : Int))) - (a0_1.size : Int)))))
set_option maxHeartbeats 8000000 in
set_option maxRecDepth 100000 in
theorem laws_szBelay.calls (b : ByteArray) (l : ByteArray) (q : Int) (m : Int) (r : Int) (w : World) (h : laws_szBelay.f b l q m = some r) :
  Calls Try.prog 33 #[.agg #[.string b, .string l, .int .i64 q], .int .i64 m] w fun e w' => e = .returned (.int .i64 r) ∧ Below w.heap.size w w' := by
 have ai := Try.underlying55; have HB := Aside0.mk (Below.refl w.heap.size w); have H : (if (wrap64 (m - (b.size : Int))) < 0 then (some (-1)) else (if (wrap64 ((wrap64 (m - (b.size : Int))) - (l.size : Int))) < 0 then (some (-1)) else (some (wrap64 ((wrap64 (m - (b.size : Int))) - (l.size : Int)))))) = some r := h; clear h; have HF_ := Aside0.mk H; clear H; (go_enter Try.func33, Try.ntmps33); (go_upto_if 11 with (first | ((with_reducible refine gate_dst (N := 2) rfl ?_); refine box_event ?hg (N := 2) ?hd (cs := #[.string b, .string l, .int .i64 q]) (t := 55) ?hr ?_; (case hd | hg => rfl); (case hr => go_simp; try rfl); intro af hg w3 hbox hb; have o := Aside0.mk (hbox); have ag := pG HB hg; have ah := pG HB hg; replace HB := pS HB hb; clear hb hbox hg; obtain ⟨u, x, y, z, B, D⟩ := cz3 o))); (try simp only [Act.put, List.setIfInBounds_toArray, List.set_cons_zero, List.set_cons_succ]); have H := HF_.out; clear HF_; by_cases c5 : (wrap64 (m - (b.size : Int))) < 0
 ·rw [if_pos c5] at H; have n : decide ((wrap64 (m - (b.size : Int))) < 0) = true := decide_eq_true c5; clear c5; (first | rw [n] | (simp only [i64_w, i32_w]; rw [n]) | skip); obtain rfl := Option.some.inj H; simp only [Option.some.injEq, Prod.mk.injEq] at H; obtain ⟨rfl⟩ := H; (go_wp2); (go_ret); exact ⟨zE, pR HB⟩
 ·rw [if_neg c5] at H; have n : decide ((wrap64 (m - (b.size : Int))) < 0) = false := decide_eq_false c5; clear c5; (first | rw [n] | (simp only [i64_w, i32_w]; rw [n]) | skip); by_cases c6 : (wrap64 ((wrap64 (m - (b.size : Int))) - (l.size : Int))) < 0
  ·rw [if_pos c6] at H; have s : decide ((wrap64 ((wrap64 (m - (b.size : Int))) - (l.size : Int))) < 0) = true := decide_eq_true c6; clear c6; obtain rfl := Option.some.inj H; simp only [Option.some.injEq, Prod.mk.injEq] at H; obtain ⟨rfl⟩ := H; obtain ⟨E, I, O, U, X, Y⟩ := cz3 o; (go_wp2); (go_ret); exact ⟨zE, pR HB⟩
  ·rw [if_neg c6] at H; have s : decide ((wrap64 ((wrap64 (m - (b.size : Int))) - (l.size : Int))) < 0) = false := decide_eq_false c6; clear c6; obtain rfl := Option.some.inj H; simp only [Option.some.injEq, Prod.mk.injEq] at H; obtain ⟨rfl⟩ := H; obtain ⟨Z, aa, ab, ac, ad, ae⟩ := cz3 o; (go_wp2); (go_ret); exact ⟨zE, pR HB⟩

/-! ### laws_szBelayS: function 40 -/
def laws_szBelayS.l0 : Nat → List (S55) → Int → Int → Option (Int)
 | 0, _, _, _ => none
 | k + 1, x0, x1, x5 => if x5 < (x0.length : Int) then (if 0 ≤ x5 then ((laws_szBelay.f ((rd_T55 x0 x5).f0) ((rd_T55 x0 x5).f1) ((rd_T55 x0 x5).f2) x1).bind fun t107 => (if t107 < 0 then (some (-1)) else (laws_szBelayS.l0 k x0 t107 (wrap64 (x5 + 1))))) else (none)) else (some x1)
def laws_szBelayS.f (k : Nat) (l0 : List (S55)) (a1 : Int) : Option (Int) := if (wrap64 (a1 - (l0.length : Int))) < 0 then (some (-1)) else (laws_szBelayS.l0 k l0 (wrap64 (a1 - (l0.length : Int))) 0)
theorem laws_szBelayS.mono_l : ∀ k, (∀ y0 y1 y2, LeO (laws_szBelayS.l0 k y0 y1 y2) (laws_szBelayS.l0 (k + 1) y0 y1 y2))
 | 0 => fun _ _ _ r h => by simp [laws_szBelayS.l0] at h
 | k + 1 => by
  have ih0 := laws_szBelayS.mono_l k
  ·intro y0 y1 y2
   unfold laws_szBelayS.l0
   repeat' with_reducible first | exact ih0 _ _ _ | exact LeO.refl _ | exact LeO.none _ | refine LeO.ite ?_ ?_ | refine LeO.bind ?_ (fun _ => ?_)
theorem laws_szBelayS.mono : ∀ a0 a1 k, LeO (laws_szBelayS.f k a0 a1) (laws_szBelayS.f (k + 1) a0 a1) := by
 intro a0 a1 k; have ih0 := laws_szBelayS.mono_l k; unfold laws_szBelayS.f; repeat' with_reducible first | exact ih0 _ _ _ | exact LeO.refl _ | exact LeO.none _ | refine LeO.ite ?_ ?_ | refine LeO.bind ?_ (fun _ => ?_)
set_option maxHeartbeats 8000000 in
set_option maxRecDepth 100000 in
theorem laws_szBelayS.calls (k : Nat) (X : Option Addr) (c0 : Nat) (l0 : List (S55)) (u : Int) (r : Int) (w : World) (B : Kd.C k55 w X l0.length l0) (D : l0.length ≤ c0) (h : laws_szBelayS.f k l0 u = some r) :
  Calls Try.prog 40 #[.slice X l0.length c0, .int .i64 u] w fun e w' => e = .returned (.int .i64 r) ∧ Below w.heap.size w w' := by
 have aa := Try.underlying55; have Y := Aside0.mk B; have ac := Aside0.mk D; clear B D; have HB := Aside0.mk (Below.refl w.heap.size w); have H : (if (wrap64 (u - (l0.length : Int))) < 0 then (some (-1)) else (laws_szBelayS.l0 k l0 (wrap64 (u - (l0.length : Int))) 0)) = some r := h; clear h; by_cases c3 : (wrap64 (u - (l0.length : Int))) < 0
 ·rw [if_pos c3] at H; have z : decide ((wrap64 (u - (l0.length : Int))) < 0) = true := decide_eq_true c3; clear c3; obtain rfl := Option.some.inj H; simp only [Option.some.injEq, Prod.mk.injEq] at H; obtain ⟨rfl⟩ := H; (go_enter Try.func40, Try.ntmps40); (go_wp2); (go_ret); exact ⟨zE, pR HB⟩
 ·rw [if_neg c3] at H; have z : decide ((wrap64 (u - (l0.length : Int))) < 0) = false := decide_eq_false c3; clear c3; have H' := Aside0.mk H; clear H; (go_enter Try.func40, Try.ntmps40); (go_wp2); go_loopg [1, 5] k (fun kq v1 v5 w' => ∃ (l : Int) (b : Int), v1 = .int .i64 l ∧ v5 = .int .i64 b ∧ Aside0 (laws_szBelayS.l0 kq l0 l b = some r) ∧ Aside0 (kq ≤ k) ∧ Aside0 (Below w.heap.size w w'))
  case atStart => exact ⟨(wrap64 (u - (l0.length : Int))), (0), zF, zF, H', ⟨Nat.le_refl _⟩, ⟨pR HB⟩⟩
  case round =>
   clear H'; (try clear p2); (try clear c3); (try clear z); obtain ⟨l, b, rfl, rfl, HA, E, HB⟩ := hrel
   cases gk with
   | zero => exact absurd HA.out (by simp [laws_szBelayS.l0])
   | succ k1 =>
    have H := HA.out; clear HA; simp only [laws_szBelayS.l0] at H; by_cases c4 : b < (l0.length : Int)
    ·rw [if_pos c4] at H; have O : decide (b < (l0.length : Int)) = true := decide_eq_true c4; clear c4; by_cases c5 : 0 ≤ b
     ·rw [if_pos c5] at H; have ab : decide (0 ≤ b) = true := decide_eq_true c5; clear c5; replace H := Option.bind_eq_some_iff.mp H; obtain ⟨m, I, H⟩ := H; (try dsimp only at H); have A6 := Aside0.mk I; clear I; have HF_ := Aside0.mk H; clear H; have x : 0 ≤ (b : Int) := zd; have y : b < (l0.length : Int) := zd; obtain ⟨Z, U, o, q, s⟩ := at_T55 Y.out b x y
      cases U
      replace o := bC HB o; replace q := bC HB q; replace s := bC HB s; replace x := eq_true x; replace y := eq_true y; (go_upto_if 25 with (first | ((with_reducible refine gate_callee (f := 33) rfl ?_); refine goesL_ (some 23) rfl rfl Try.func33 (by kernel_rfl) rfl #[.agg #[.string ((rd_T55 l0 b).f0), .string ((rd_T55 l0 b).f1), .int .i64 ((rd_T55 l0 b).f2)], .int .i64 l] rfl zM ?_; (with_reducible refine (laws_szBelay.calls ((rd_T55 l0 b).f0) ((rd_T55 l0 b).f1) ((rd_T55 l0 b).f2) l m _ A6.out).mono ?_); rintro e w7 ⟨rfl, hb⟩; refine ⟨_, rfl, ?_⟩; replace HB := pS HB hb; (try clear hb)))); (try simp only [Act.put, List.setIfInBounds_toArray, List.set_cons_zero, List.set_cons_succ]); have H := HF_.out; clear HF_; by_cases c8 : m < 0
      ·rw [if_pos c8] at H; have n : decide (m < 0) = true := decide_eq_true c8; clear c8; (first | rw [n] | (simp only [i64_w, i32_w]; rw [n]) | skip); obtain rfl := Option.some.inj H; simp only [Option.some.injEq, Prod.mk.injEq] at H; obtain ⟨rfl⟩ := H; (go_wp2); (go_ret); exact ⟨zE, pR HB⟩
      ·rw [if_neg c8] at H; have n : decide (m < 0) = false := decide_eq_false c8; clear c8; (first | rw [n] | (simp only [i64_w, i32_w]; rw [n]) | skip); have H' := Aside0.mk H; clear H; (go_wp2); go_roundg k1
       case measure => have := E.out; omega
       case rel => exact ⟨(m), (wrap64 (b + 1)), zF, zF, H', ⟨by have := E.out; omega⟩, ⟨pR HB⟩⟩
     ·rw [if_neg c5] at H; exact absurd H (by simp)
    ·rw [if_neg c4] at H; have O : decide (b < (l0.length : Int)) = false := decide_eq_false c4; clear c4; obtain rfl := Option.some.inj H; simp only [Option.some.injEq, Prod.mk.injEq] at H; obtain ⟨rfl⟩ := H; (go_wp2); (go_ret); exact ⟨zE, pR HB⟩

/-! ### laws_szRig: function 10 -/
def laws_szRig.f (k : Nat) (l0_0 : List (S92)) (l0_1 : List ByteArray) (l0_2 : List (S55)) (a1 : Int) : Option (Int) := (laws_szRailS.f k l0_0 a1).bind fun t109 => (if t109 < 0 then (some (-1)) else ((laws_szStringS.f k l0_1 t109).bind fun t110 => (if t110 < 0 then (some (-1)) else ((laws_szBelayS.f k l0_2 t110).bind fun t111 => (if t111 < 0 then (some (-1)) else (some t111))))))
theorem laws_szRig.mono : ∀ a0 a1 a2 a3 k, LeO (laws_szRig.f k a0 a1 a2 a3) (laws_szRig.f (k + 1) a0 a1 a2 a3) := by
 intro a0 a1 a2 a3 k; unfold laws_szRig.f; repeat' with_reducible first | exact laws_szBelayS.mono _ _ _ | exact laws_szRailS.mono _ _ _ | exact laws_szStringS.mono _ _ _ | exact LeO.refl _ | exact LeO.none _ | refine LeO.ite ?_ ?_ | refine LeO.bind ?_ (fun _ => ?_)
set_option maxHeartbeats 8000000 in
set_option maxRecDepth 100000 in
theorem laws_szRig.calls (k : Nat) (D : Option Addr) (E : Nat) (n : List (S92)) (x : Option Addr) (y : Nat) (b : List ByteArray) (I : Option Addr) (O : Nat) (o : List (S55)) (a1 : Int) (r : Int) (w : World) (U : Kd.C k92 w D n.length n) (X : n.length ≤ E) (Y : Kd.C Kd.string w x b.length b) (Z : b.length ≤ y) (aa : Kd.C k55 w I o.length o) (ab : o.length ≤ O) (h : laws_szRig.f k n b o a1 = some r) :
  Calls Try.prog 10 #[.agg #[.slice D n.length E, .slice x b.length y, .slice I o.length O], .int .i64 a1] w fun e w' => e = .returned (.int .i64 r) ∧ Below w.heap.size w w' := by
 have aL := Try.underlying26; have af := Aside0.mk U; have ag := Aside0.mk X; clear U X; have ac := Aside0.mk Y; have ad := Aside0.mk Z; clear Y Z; have ah := Aside0.mk aa; have ai := Aside0.mk ab; clear aa ab; have HB := Aside0.mk (Below.refl w.heap.size w); have H : ((laws_szRailS.f k n a1).bind fun l => (if l < 0 then (some (-1)) else ((laws_szStringS.f k b l).bind fun m => (if m < 0 then (some (-1)) else ((laws_szBelayS.f k o m).bind fun s => (if s < 0 then (some (-1)) else (some s))))))) = some r := h; clear h; replace H := Option.bind_eq_some_iff.mp H; obtain ⟨l, aj, H⟩ := H; (try dsimp only at H); have A3 := Aside0.mk aj; clear aj; have HF_ := Aside0.mk H; clear H; (go_enter Try.func10, Try.ntmps10); (go_upto_if 10 with (first | ((with_reducible refine gate_dst (N := 2) rfl ?_); refine box_event ?hg (N := 2) ?hd (cs := #[.slice D n.length E, .slice x b.length y, .slice I o.length O]) (t := 26) ?hr ?_; (case hd | hg => rfl); (case hr => go_simp; try rfl); intro aI hg w4 hbox hb; have q := Aside0.mk (hbox); have aJ := pG HB hg; have aK := pG HB hg; replace HB := pS HB hb; clear hb hbox hg; obtain ⟨aB, aC, aD, aE, aF, aG⟩ := cz3 q) | ((with_reducible refine gate_callee (f := 38) rfl ?_); refine goesL_ (some 8) rfl rfl Try.func38 (by kernel_rfl) rfl #[.slice D n.length E, .int .i64 a1] rfl zM ?_; (with_reducible refine (laws_szRailS.calls k _ _ n a1 l _ ?side1 ?side2 A3.out).mono ?_); (case side1 => (refine zC ?_; exact (Kd.C_below af.out HB.out))); (case side2 => exact ag.out); rintro e w6 ⟨rfl, hb⟩; refine ⟨_, rfl, ?_⟩; replace q := pB q hb; replace HB := pS HB hb; (try clear hb)))); (try simp only [Act.put, List.setIfInBounds_toArray, List.set_cons_zero, List.set_cons_succ]); have H := HF_.out; clear HF_; by_cases c7 : l < 0
 ·rw [if_pos c7] at H; have z : decide (l < 0) = true := decide_eq_true c7; clear c7; (first | rw [z] | (simp only [i64_w, i32_w]; rw [z]) | skip); obtain rfl := Option.some.inj H; simp only [Option.some.injEq, Prod.mk.injEq] at H; obtain ⟨rfl⟩ := H; (go_wp2); (go_ret); exact ⟨zE, pR HB⟩
 ·rw [if_neg c7] at H; have z : decide (l < 0) = false := decide_eq_false c7; clear c7; (first | rw [z] | (simp only [i64_w, i32_w]; rw [z]) | skip); replace H := Option.bind_eq_some_iff.mp H; obtain ⟨m, ak, H⟩ := H; (try dsimp only at H); have A8 := Aside0.mk ak; clear ak; by_cases c9 : m < 0
  ·rw [if_pos c9] at H; have al : decide (m < 0) = true := decide_eq_true c9; clear c9; obtain rfl := Option.some.inj H; simp only [Option.some.injEq, Prod.mk.injEq] at H; obtain ⟨rfl⟩ := H; obtain ⟨am, an, ao, ap, ar, au⟩ := cz3 q; (go_wp2_with (first | ((with_reducible refine gate_callee (f := 39) rfl ?_); refine goesL_ (some 14) rfl rfl Try.func39 (by kernel_rfl) rfl #[.slice x b.length y, .int .i64 l] rfl zM ?_; (with_reducible refine (laws_szStringS.calls k _ _ b l m _ ?side1 ?side2 A8.out).mono ?_); (case side1 => (refine zC ?_; exact (Kd.C_below ac.out HB.out))); (case side2 => exact ad.out); rintro e w' ⟨rfl, ⟨nd, rfl⟩⟩; refine ⟨_, rfl, ?_⟩))); (go_ret); exact ⟨zE, pR HB⟩
  ·rw [if_neg c9] at H; have al : decide (m < 0) = false := decide_eq_false c9; clear c9; replace H := Option.bind_eq_some_iff.mp H; obtain ⟨s, ae, H⟩ := H; (try dsimp only at H); have aH := Aside0.mk ae; clear ae; have HF_ := Aside0.mk H; clear H; obtain ⟨av, aw, ax, ay, az, aA⟩ := cz3 q; (go_upto_if 22 with (first | ((with_reducible refine gate_callee (f := 39) rfl ?_); refine goesL_ (some 14) rfl rfl Try.func39 (by kernel_rfl) rfl #[.slice x b.length y, .int .i64 l] rfl zM ?_; (with_reducible refine (laws_szStringS.calls k _ _ b l m _ ?side1 ?side2 A8.out).mono ?_); (case side1 => (refine zC ?_; exact (Kd.C_below ac.out HB.out))); (case side2 => exact ad.out); rintro e w' ⟨rfl, ⟨nd, rfl⟩⟩; refine ⟨_, rfl, ?_⟩) | ((with_reducible refine gate_callee (f := 40) rfl ?_); refine goesL_ (some 20) rfl rfl Try.func40 (by kernel_rfl) rfl #[.slice I o.length O, .int .i64 m] rfl zM ?_; (with_reducible refine (laws_szBelayS.calls k _ _ o m s _ ?side1 ?side2 aH.out).mono ?_); (case side1 => (refine zC ?_; exact (Kd.C_below ah.out (pR HB)))); (case side2 => exact ai.out); rintro e aM ⟨rfl, hb⟩; refine ⟨_, rfl, ?_⟩; replace q := pB q hb; replace HB := pS HB hb; (try clear hb)))); (try simp only [Act.put, List.setIfInBounds_toArray, List.set_cons_zero, List.set_cons_succ]); have H := HF_.out; clear HF_; by_cases B : s < 0
   ·rw [if_pos B] at H; have u : decide (s < 0) = true := decide_eq_true B; clear B; (first | rw [u] | (simp only [i64_w, i32_w]; rw [u]) | skip); obtain rfl := Option.some.inj H; simp only [Option.some.injEq, Prod.mk.injEq] at H; obtain ⟨rfl⟩ := H; (go_wp2); (go_ret); exact ⟨zE, pR HB⟩
   ·rw [if_neg B] at H; have u : decide (s < 0) = false := decide_eq_false B; clear B; (first | rw [u] | (simp only [i64_w, i32_w]; rw [u]) | skip); obtain rfl := Option.some.inj H; simp only [Option.some.injEq, Prod.mk.injEq] at H; obtain ⟨rfl⟩ := H; (go_wp2); (go_ret); exact ⟨zE, pR HB⟩

/-! ### laws_toRail: function 74 -/
def laws_toRail.f (a0_0 : ByteArray) (a0_1 : ByteArray) (a0_2 : Int) : Option (ByteArray × ByteArray × Int) := some (a0_0, a0_1, a0_2)
set_option maxHeartbeats 8000000 in
set_option maxRecDepth 100000 in
theorem laws_toRail.calls (n : ByteArray) (o : ByteArray) (q : Int) (E : ByteArray) (I : ByteArray) (O : Int) (w : World) (h : laws_toRail.f n o q = some (E, I, O)) :
  Calls Try.prog 74 #[.agg #[.string n, .string o, .int .i64 q]] w fun e w' => e = .returned (.agg #[.string E, .string I, .int .i64 O]) ∧ Below w.heap.size w w' := by
 have az := Try.underlying92; have aA := Try.underlying69; have HB := Aside0.mk (Below.refl w.heap.size w); have H : (some (n, o, q)) = some (E, I, O) := h; clear h; simp only [Option.some.injEq, Prod.mk.injEq] at H; obtain ⟨rfl, rfl, rfl⟩ := H; (go_enter Try.func74, Try.ntmps74); (go_wp2_with (first | ((with_reducible refine gate_dst (N := 1) rfl ?_); refine box_event ?hg (N := 1) ?hd (cs := #[.string n, .string o, .int .i64 q]) (t := 92) ?hr ?_; (case hd | hg => rfl); (case hr => go_simp; try rfl); intro ao hg w2 hbox hb; have b := Aside0.mk (hbox); have ap := pG HB hg; have ar := pG HB hg; replace HB := pS HB hb; clear hb hbox hg) | ((with_reducible refine gate_dst (N := 2) rfl ?_); refine box_event ?hg (N := 2) ?hd (cs := #[.string (⟨#[]⟩ : ByteArray), .string (⟨#[]⟩ : ByteArray), .int .i64 0]) (t := 69) ?hr ?_; (case hd | hg => rfl); (case hr => go_simp; try rfl); intro B hg w3 hbox hb; have m := Aside0.mk (hbox); have au := pG HB hg; have av := pG HB hg; replace HB := pS HB hb; have s := pN b hg; have u := pM b hg; replace b := pB b hb; clear hb hbox hg) | ((with_reducible refine gate_dst (N := 3) rfl ?_); refine box_event ?hg (N := 3) ?hd (cs := #[.string (⟨#[]⟩ : ByteArray), .string (⟨#[]⟩ : ByteArray), .int .i64 0]) (t := 69) ?hr ?_; (case hd | hg => rfl); (case hr => go_simp; try rfl); intro aw hg w4 hbox hb; have D := Aside0.mk (hbox); have ax := pG HB hg; have ay := pG HB hg; replace HB := pS HB hb; have x := pN b hg; have y := pM b hg; replace b := pB b hb; have l := pN m hg; have z := pM m hg; replace m := pB m hb; clear hb hbox hg; have aB := s.out; have aC := u.out; have aD := x.out; have aE := y.out; obtain ⟨ac, ad, ae, af, ag, ah⟩ := cz3 b; have aF := z.out; have aG := l.out; obtain ⟨ai, aj, ak, al, am, an⟩ := cz3 D; obtain ⟨U, X, Y, Z, aa, ab⟩ := cz3 m))); refine bodyPost_ret (results_cell_row rfl _ _ B 69 #[.string n, .string o, .int .i64 q] (0, 0) _ rfl (by refine zB ?_; refine blk_put (cs := #[.string n, .string o, .int .i64 0]) ?_ 2 _ rfl; refine zB ?_; refine blk_put (cs := #[.string n, .string (⟨#[]⟩ : ByteArray), .int .i64 0]) ?_ 1 _ rfl; refine zB ?_; refine blk_put (cs := #[.string (⟨#[]⟩ : ByteArray), .string (⟨#[]⟩ : ByteArray), .int .i64 0]) ?_ 0 _ rfl; refine zB ?_; refine blk_far ?_ l.out _; refine zB ?_; refine blk_far ?_ l.out _; refine zB ?_; refine blk_far ?_ l.out _; refine zB ?_; exact m.out) Try.underlying69 rfl (by kernel_rfl)) rfl ?_; exact ⟨zE, pR HB⟩

/-! ### laws_toRailS: function 42 -/
def laws_toRailS.l0 : Nat → List (S92) → List (S69) → Int → Option ((List (S69)))
 | 0, _, _, _ => none
 | k + 1, x0, x3, x4 => if x4 < (x0.length : Int) then (if 0 ≤ x4 then ((laws_toRail.f ((rd_T92 x0 x4).f0) ((rd_T92 x0 x4).f1) ((rd_T92 x0 x4).f2)).bind fun bt119 => (if x4 < (x3.length : Int) then (laws_toRailS.l0 k x0 (x3.set (x4 : Int).toNat (⟨bt119.1, bt119.2.1, bt119.2.2⟩ : S69)) (wrap64 (x4 + 1))) else (none))) else (none)) else (some x3)
def laws_toRailS.f (k : Nat) (l0 : List (S92)) : Option ((List (S69))) := if 0 ≤ (l0.length : Int) then (if ((l0.length : Int) : Int).toNat ≤ 7036874417766 then (laws_toRailS.l0 k l0 (List.replicate ((l0.length : Int) : Int).toNat z69) 0) else (none)) else (none)
theorem laws_toRailS.mono_l : ∀ k, (∀ y0 y1 y2, LeO (laws_toRailS.l0 k y0 y1 y2) (laws_toRailS.l0 (k + 1) y0 y1 y2))
 | 0 => fun _ _ _ r h => by simp [laws_toRailS.l0] at h
 | k + 1 => by
  have ih0 := laws_toRailS.mono_l k
  ·intro y0 y1 y2
   unfold laws_toRailS.l0
   repeat' with_reducible first | exact ih0 _ _ _ | exact LeO.refl _ | exact LeO.none _ | refine LeO.ite ?_ ?_ | refine LeO.bind ?_ (fun _ => ?_)
theorem laws_toRailS.mono : ∀ a0 k, LeO (laws_toRailS.f k a0) (laws_toRailS.f (k + 1) a0) := by
 intro a0 k; have ih0 := laws_toRailS.mono_l k; unfold laws_toRailS.f; repeat' with_reducible first | exact ih0 _ _ _ | exact LeO.refl _ | exact LeO.none _ | refine LeO.ite ?_ ?_ | refine LeO.bind ?_ (fun _ => ?_)
set_option maxHeartbeats 8000000 in
set_option maxRecDepth 100000 in
theorem laws_toRailS.calls (k : Nat) (A0 : Option Addr) (c0 : Nat) (l0 : List (S92)) (r : List (S69)) (w : World) (aD : Kd.C k92 w A0 l0.length l0) (aE : l0.length ≤ c0) (h : laws_toRailS.f k l0 = some r) :
  Calls Try.prog 42 #[.slice A0 l0.length c0] w fun e w' => ∃ aF : Value, e = .returned (aF) ∧ Kd.R k69 69 w' w.heap.size (fun _ => True) aF r ∧ Below w.heap.size w w' := by
 have aY := Try.underlying92; have aZ := Try.underlying69; have aQ := Aside0.mk aD; have a6 := Aside0.mk aE; clear aD aE; have HB := Aside0.mk (Below.refl w.heap.size w); have H : (if 0 ≤ (l0.length : Int) then (if ((l0.length : Int) : Int).toNat ≤ 7036874417766 then (laws_toRailS.l0 k l0 (List.replicate ((l0.length : Int) : Int).toNat z69) 0) else (none)) else (none)) = some r := h; clear h; by_cases c2 : 0 ≤ (l0.length : Int)
 ·rw [if_pos c2] at H; have aI := eq_true c2; have aJ : decide (0 ≤ (l0.length : Int)) = true := decide_eq_true c2; clear c2; by_cases c3 : ((l0.length : Int) : Int).toNat ≤ 7036874417766
  ·rw [if_pos c3] at H; have aK := eq_true c3; have aL : decide (((l0.length : Int) : Int).toNat ≤ 7036874417766) = true := decide_eq_true c3; clear c3; obtain ⟨ag, o⟩ : ∃ y_ : List (S69), y_ = (List.replicate ((l0.length : Int) : Int).toNat z69) := ⟨_, rfl⟩; (replace H : (laws_toRailS.l0 k l0 ag 0) = some r := by first | (rw [o]; with_reducible exact H) | (have I := (Option.bind_some _ _).symm.trans H; rw [o]; with_reducible exact I) | (have I := (Option.bind_some _ _).symm.trans H; with_reducible exact I) | with_reducible exact H | (rw [o]; exact H) | exact H); have ae := Aside0.mk o; clear o; have H' := Aside0.mk H; clear H; (go_enter Try.func42, Try.ntmps42); (go_wp2_with (first | ((with_reducible refine gate_dst (N := 7) rfl ?_); refine Kd.R_make k69 _ 69 rfl (N := 7) rfl 29 _ _ rfl (l0.length : Int) rfl rfl Try.underlying29 (.agg #[(.string ⟨#[]⟩), (.string ⟨#[]⟩), (.int .i64 0)]) 40 info69 rfl (by decide) (by omega) z69 (ok := fun _ => True) (okp := fun _ => True) (k69_mkM _ _ _ z69 ) (fun _ hk => hk) trivial (zd) (Nat.le_trans (Nat.mul_le_mul_right _ (zd : (l0.length : Int).toNat ≤ 7036874417766)) (by omega)) (Below.refl _ _) (Nat.le_refl _) ?_; intro aM w4 Y hb hg_ hnew_; clear hg_ hnew_; (first | rw [← ae.out] at Y | (simp only [Int.reduceToNat] at Y; rw [← ae.out] at Y)); have aA := Aside0.mk (Kd.R_lower Y (below_size (pR HB))); replace HB := pS HB hb; clear hb Y))); go_loopg [4] k (fun kq v4 w' => ∃ (l : List (S69)) (b : Int), v4 = .int .i64 b ∧ Aside0 (laws_toRailS.l0 kq l0 l b = some r) ∧ Aside0 (kq ≤ k) ∧ Aside0 (Kd.R k69 69 w' w.heap.size (fun _ => True) aM l) ∧ Aside0 (Below w.heap.size w w'))
   case atStart => exact ⟨(ag), (0), zF, H', ⟨Nat.le_refl _⟩, ⟨by refine zR ?_; exact aA.out⟩, ⟨pR HB⟩⟩
   case round =>
    clear H'; (try clear c2); (try clear aI); (try clear aJ); (try clear p2); (try clear c3); (try clear aK); (try clear aL); (try clear c4); obtain ⟨l, b, rfl, HA, aG, n, HB⟩ := hrel
    cases gk with
    | zero => exact absurd HA.out (by simp [laws_toRailS.l0])
    | succ k1 =>
     have H := HA.out; clear HA; simp only [laws_toRailS.l0] at H; by_cases c6 : b < (l0.length : Int)
     ·rw [if_pos c6] at H; have aN : decide (b < (l0.length : Int)) = true := decide_eq_true c6; clear c6; by_cases c7 : 0 ≤ b
      ·rw [if_pos c7] at H; have a0 : decide (0 ≤ b) = true := decide_eq_true c7; clear c7; replace H := Option.bind_eq_some_iff.mp H; obtain ⟨⟨x, y, z⟩, aH, H⟩ := H; (try dsimp only at H); have A8 := Aside0.mk aH; clear aH; by_cases c9 : b < (l.length : Int)
       ·rw [if_pos c9] at H; have a1 : decide (b < (l.length : Int)) = true := decide_eq_true c9; clear c9; obtain ⟨Z, q⟩ : ∃ y_ : List (S69), y_ = (l.set (b : Int).toNat (⟨x, y, z⟩ : S69)) := ⟨_, rfl⟩; (replace H : (laws_toRailS.l0 k1 l0 Z (wrap64 (b + 1))) = some r := by first | (rw [q]; with_reducible exact H) | (have I := (Option.bind_some _ _).symm.trans H; rw [q]; with_reducible exact I) | (have I := (Option.bind_some _ _).symm.trans H; with_reducible exact I) | with_reducible exact H | (rw [q]; exact H) | exact H); have aB := Aside0.mk q; clear q; have H' := Aside0.mk H; clear H; have aa : 0 ≤ (b : Int) := zd; have ab : b < (l0.length : Int) := zd; obtain ⟨aX, aO, O, U, X⟩ := at_T92 aQ.out b aa ab
        cases aO
        replace O := bC HB O; replace U := bC HB U; replace X := bC HB X; replace aa := eq_true aa; replace ab := eq_true ab; (go_wp2_with (first | ((with_reducible refine gate_callee (f := 74) rfl ?_); refine goesL_ (some 20) rfl rfl Try.func74 (by kernel_rfl) rfl #[.agg #[.string ((rd_T92 l0 b).f0), .string ((rd_T92 l0 b).f1), .int .i64 ((rd_T92 l0 b).f2)]] rfl zM ?_; (with_reducible refine (laws_toRail.calls ((rd_T92 l0 b).f0) ((rd_T92 l0 b).f1) ((rd_T92 l0 b).f2) x y z _ A8.out).mono ?_); rintro e s ⟨rfl, hb⟩; refine ⟨_, rfl, ?_⟩; replace n := zLR n hb; replace HB := pS HB hb; (try clear hb); have ah : 0 ≤ (b : Int) := zd; have ai : (b : Int) < ((l.length : Int) : Int) := zd; obtain ⟨m, aj, ak, al, aP, a2, am⟩ := Kd.R_form n.out (by omega); (first | cases ak | (injection ak with ea_ en_ ec_; (first | subst ea_ | (injection ea_ with ea_; subst ea_)); subst ec_; clear en_)); have ac := Aside0.mk al; have a3 := Aside0.mk am; clear al aP am; obtain ⟨a4, aC, an, B, D⟩ := Kd.R_elem n.out z69 (b : Int) ah ai; obtain rfl := k69_openM an; have aR : s.cell? ⟨m, (b : Int).toNat * 3, none⟩ = some (.string ((rd_T69 l b).f0)) := B 0 _ rfl; have aS : s.cell? ⟨m, (b : Int).toNat * 3 + 1, none⟩ = some (.string ((rd_T69 l b).f1)) := B 1 _ rfl; have aT : s.cell? ⟨m, (b : Int).toNat * 3 + 2, none⟩ = some (.int .i64 ((rd_T69 l b).f2)) := B 2 _ rfl; have aU : s.frozen? ⟨m, (b : Int).toNat * 3, none⟩ = false := D 0; have aV : s.frozen? ⟨m, (b : Int).toNat * 3 + 1, none⟩ = false := D 1; have aW : s.frozen? ⟨m, (b : Int).toNat * 3 + 2, none⟩ = false := D 2; clear aC B D an; replace ah := eq_true ah; replace ai := eq_true ai; have ao := Aside0.mk (show Kd.R k69 69 s w.heap.size (fun _ => True) (.slice (some ⟨m, 0, none⟩) l.length aj) l from (by refine zR ?_; exact n.out)); obtain ⟨a5, af, ap, u, E⟩ := Kd.R_elem ao.out z69 (b : Int) (zd) (by have h_ : (b : Int) < ((l.length : Int) : Int) := zd; first | exact h_ | (have e_ := (Kd.R_reads' n.out).1; omega) | simpa using h_); obtain rfl := k69_openM ap; have ad := Kd.R_seg ao.out (b : Int) (zd) (by have h_ : (b : Int) < ((l.length : Int) : Int) := zd; first | exact h_ | (have e_ := (Kd.R_reads' n.out).1; omega) | simpa using h_) (seg := [.string x, .string y, .int .i64 z]) (j := 0) af u (show 3 ≤ 3 from by decide) (x' := (⟨x, y, z⟩ : S69)) (k69_mkM _ _ _ (⟨x, y, z⟩ : S69) ) (fun _ hk => hk); have ar := u 0 _ rfl; (try simp only [show (k69).sz = 3 from rfl, Nat.mul_one, Nat.add_zero] at ar); have au := E 0; (try simp only [show (k69).sz = 3 from rfl, Nat.mul_one, Nat.add_zero] at au); have av := u 1 _ rfl; (try simp only [show (k69).sz = 3 from rfl, Nat.mul_one, Nat.add_zero] at av); have aw := E 1; (try simp only [show (k69).sz = 3 from rfl, Nat.mul_one, Nat.add_zero] at aw); have ax := u 2 _ rfl; (try simp only [show (k69).sz = 3 from rfl, Nat.mul_one, Nat.add_zero] at ax); have ay := E 2; (try simp only [show (k69).sz = 3 from rfl, Nat.mul_one, Nat.add_zero] at ay); clear af u E ap) | ((with_reducible refine gate_store (t := 69) (p := 21) rfl ?_); refine store_event (t := 69) (p := 21) (v := ?vo_w13) (w1 := (((s.setCell ⟨m, (b : Int).toNat * 3, none⟩ (.string x)).setCell ⟨m, (b : Int).toNat * 3 + 1, none⟩ (.string y)).setCell ⟨m, (b : Int).toNat * 3 + 2, none⟩ (.int .i64 z))) ?hg ?ho ?hn ?hr ?_; (case ho | hg | hn => rfl); (case hr => go_simp; try rfl); intro az hw; have hg : s.grownBy az (some m) := (by rw [hw]; exact ad.2); have hp_ : Kd.R k69 69 az w.heap.size (fun _ => True) (.slice (some ⟨m, 0, none⟩) l.length aj) Z := (by rw [hw, aB.out]; exact ad.1); clear ad; replace n := Aside0.mk (hp_); replace HB := Aside0.mk ((by rw [hw]; exact below_set (below_set (below_set (HB.out) ac.out) ac.out) ac.out : Below w.heap.size w az)); clear hg hw hp_))); go_roundg k1
        case measure => have := aG.out; omega
        case rel => exact ⟨(Z), (wrap64 (b + 1)), zF, H', ⟨by have := aG.out; omega⟩, ⟨by refine zR ?_; exact n.out⟩, ⟨pR HB⟩⟩
       ·rw [if_neg c9] at H; exact absurd H (by simp)
      ·rw [if_neg c7] at H; exact absurd H (by simp)
     ·rw [if_neg c6] at H; have aN : decide (b < (l0.length : Int)) = false := decide_eq_false c6; clear c6; obtain rfl := Option.some.inj H; simp only [Option.some.injEq, Prod.mk.injEq] at H; obtain ⟨rfl⟩ := H; (go_wp2); (go_ret); exact ⟨_, zE, by refine zR ?_; exact n.out, pR HB⟩
  ·rw [if_neg c3] at H; exact absurd H (by simp)
 ·rw [if_neg c2] at H; exact absurd H (by simp)

end Go.Proofs.Ytpngklefeaolfaa.PFnExactMoveLine
