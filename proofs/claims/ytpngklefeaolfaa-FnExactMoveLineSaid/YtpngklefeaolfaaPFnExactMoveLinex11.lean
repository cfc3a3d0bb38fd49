-- Written by a program of this session (wip/tools/pp.sh).
import Derived.Test.YtpngklefeaolfaaPFnExactMoveLinex0
import Derived.Test.YtpngklefeaolfaaPFnExactMoveLinex5
import Derived.Test.YtpngklefeaolfaaPFnExactMoveLinex6
import Derived.Test.YtpngklefeaolfaaPFnExactMoveLinex9
import Derived.Test.YtpngklefeaolfaaPFnExactMoveLinex10
namespace Go.Proofs.Ytpngklefeaolfaa.PFnExactMoveLine
open Go.RowKit Go.Proofs.YtpngklefeaolfaaW.PrintWords Go.Proofs.YtpngklefeaolfaaW.PrintLast Go.Proofs.YtpngklefeaolfaaW.PrintMore Go.Proofs.Ytpngklefeaolfaa.Small
open Bool renaming true → T, false → F
attribute [local go_sem] max2_int min2_int max_two min_two max_three min_three max_four min_four   -- for this text's walks alone
set_option linter.unusedVariables false
set_option linter.unusedSimpArgs false

/-! ### impl_ValidRig: function 13, by hand -/
def impl_ValidRig.l2 : Nat → List (S69) → List ByteArray → List (S40) → Int → Option (Bool)
 | 0, _, _, _, _ => none
 | k + 1, x0, x1, x2, x3 => if x3 < (x2.length : Int) then (if 0 ≤ x3 then ((impl_addBelay.f k x0 x1 (x2.take x3.toNat) ((rd_T40 x2 x3).f0) ((rd_T40 x2 x3).f1) ((rd_T40 x2 x3).f2)).bind fun t1 => (if t1 = 0 then (impl_ValidRig.l2 k x0 x1 x2 (wrap64 (x3 + 1))) else (some false))) else (none)) else (some true)
def impl_ValidRig.l1 : Nat → List (S69) → List ByteArray → List (S40) → Int → Option (Bool)
 | 0, _, _, _, _ => none
 | k + 1, x0, x1, x2, x3 => if x3 < (x1.length : Int) then (if 0 ≤ x3 then ((impl_addLine.f k (x1.take x3.toNat) (rdOf ByteArray.empty x1 x3)).bind fun t1 => (if t1 = 0 then (impl_ValidRig.l1 k x0 x1 x2 (wrap64 (x3 + 1))) else (some false))) else (none)) else (impl_ValidRig.l2 k x0 x1 x2 0)
def impl_ValidRig.l0 : Nat → List (S69) → List ByteArray → List (S40) → Int → Option (Bool)
 | 0, _, _, _, _ => none
 | k + 1, x0, x1, x2, x3 => if x3 < (x0.length : Int) then (if 0 ≤ x3 then ((impl_addRail.f k (x0.take x3.toNat) ((rd_T69 x0 x3).f0) ((rd_T69 x0 x3).f1) ((rd_T69 x0 x3).f2)).bind fun t1 => (if t1 = 0 then (impl_ValidRig.l0 k x0 x1 x2 (wrap64 (x3 + 1))) else (some false))) else (none)) else (impl_ValidRig.l1 k x0 x1 x2 0)
theorem impl_ValidRig.mono_l : ∀ k, (∀ y0 y1 y2 y3, LeO (impl_ValidRig.l2 k y0 y1 y2 y3) (impl_ValidRig.l2 (k + 1) y0 y1 y2 y3)) ∧ (∀ y0 y1 y2 y3, LeO (impl_ValidRig.l1 k y0 y1 y2 y3) (impl_ValidRig.l1 (k + 1) y0 y1 y2 y3)) ∧ (∀ y0 y1 y2 y3, LeO (impl_ValidRig.l0 k y0 y1 y2 y3) (impl_ValidRig.l0 (k + 1) y0 y1 y2 y3))
 | 0 => ⟨fun _ _ _ _ r h => by simp [impl_ValidRig.l2] at h, fun _ _ _ _ r h => by simp [impl_ValidRig.l1] at h, fun _ _ _ _ r h => by simp [impl_ValidRig.l0] at h⟩
 | k + 1 => by
  obtain ⟨ih2, ih1, ih0⟩ := impl_ValidRig.mono_l k
  refine ⟨?_, ?_, ?_⟩
  ·intro y0 y1 y2 y3
   unfold impl_ValidRig.l2
   repeat' with_reducible first | exact ih0 _ _ _ _ | exact ih1 _ _ _ _ | exact ih2 _ _ _ _ | exact impl_addRail.mono _ _ _ _ _ | exact impl_addLine.mono _ _ _ | exact impl_addBelay.mono _ _ _ _ _ _ _ | exact LeO.refl _ | exact LeO.none _ | refine LeO.ite ?_ ?_ | refine LeO.bind ?_ (fun _ => ?_)
  ·intro y0 y1 y2 y3
   unfold impl_ValidRig.l1
   repeat' with_reducible first | exact ih0 _ _ _ _ | exact ih1 _ _ _ _ | exact ih2 _ _ _ _ | exact impl_addRail.mono _ _ _ _ _ | exact impl_addLine.mono _ _ _ | exact impl_addBelay.mono _ _ _ _ _ _ _ | exact LeO.refl _ | exact LeO.none _ | refine LeO.ite ?_ ?_ | refine LeO.bind ?_ (fun _ => ?_)
  ·intro y0 y1 y2 y3
   unfold impl_ValidRig.l0
   repeat' with_reducible first | exact ih0 _ _ _ _ | exact ih1 _ _ _ _ | exact ih2 _ _ _ _ | exact impl_addRail.mono _ _ _ _ _ | exact impl_addLine.mono _ _ _ | exact impl_addBelay.mono _ _ _ _ _ _ _ | exact LeO.refl _ | exact LeO.none _ | refine LeO.ite ?_ ?_ | refine LeO.bind ?_ (fun _ => ?_)
def impl_ValidRig.f (k : Nat) (l0_0 : List (S69)) (l0_1 : List ByteArray) (l0_2 : List (S40)) : Option (Bool) := if l0_0.length ≤ 1048576 ∧ l0_1.length ≤ 1048576 ∧ l0_2.length ≤ 1048576 then (impl_ValidRig.l0 k l0_0 l0_1 l0_2 0) else (none)
theorem impl_ValidRig.mono : ∀ a0 a1 a2 k, LeO (impl_ValidRig.f k a0 a1 a2) (impl_ValidRig.f (k + 1) a0 a1 a2) := by
 intro a0 a1 a2 k; unfold impl_ValidRig.f; obtain ⟨ih2, ih1, ih0⟩ := impl_ValidRig.mono_l k; exact LeO.ite (ih0 _ _ _ _) (LeO.none _)
set_option maxHeartbeats 8000000 in
set_option maxRecDepth 100000 in
theorem impl_ValidRig.calls (k : Nat) (ak : Option Addr) (al : Nat) (b : List (S69)) (am : Option Addr) (an : Nat) (l : List ByteArray) (ao : Option Addr) (ap : Nat) (m : List (S40)) (r : Bool) (w : World) (ar : Kd.C k69 w ak b.length b) (aw : b.length ≤ al) (au : Kd.C Kd.string w am l.length l) (ax : l.length ≤ an) (av : Kd.C k40 w ao m.length m) (ay : m.length ≤ ap) (h : impl_ValidRig.f k b l m = some r) :
  Calls Try.prog 13 #[.agg #[.slice ak b.length al, .slice am l.length an, .slice ao m.length ap]] w fun e w' => e = .returned (.bool r) ∧ Below w.heap.size w w' := by
 unfold impl_ValidRig.f at h; by_cases hlb : b.length ≤ 1048576 ∧ l.length ≤ 1048576 ∧ m.length ≤ 1048576
 ·rw [if_pos hlb] at h; have H' := Aside0.mk h; have HLN := Aside0.mk hlb; have aF := Aside0.mk ar; have aG := Aside0.mk au; have aH := Aside0.mk av; clear h hlb ar au av aw ax ay; have HB := Aside0.mk (Below.refl w.heap.size w); (go_enter Try.func13, Try.ntmps13); (go_wp2_with (first | ((with_reducible refine gate_dst (N := 1) rfl ?_); refine box_event ?hg (N := 1) ?hd (cs := #[.slice ak b.length al, .slice am l.length an, .slice ao m.length ap]) (t := 32) ?hr ?_; (case hd | hg => rfl); (case hr => go_simp; try rfl); intro gx hg w1 hbox hb; have o := pS HB hb; have ag := Aside0.mk hbox; clear HB hbox hb hg; have O := o; have BX := ag; have az := ag; clear o ag; obtain ⟨n, q, s, U, X, Y⟩ := cz3 BX) | ((with_reducible refine gate_dst (N := 3) rfl ?_); refine box_event ?hg (N := 3) ?hd (cs := #[.slice none 0 0, .slice none 0 0, .slice none 0 0]) (t := 32) ?hr ?_; (case hd | hg => rfl); (case hr => go_simp; try rfl); intro gy hg w2 hbox hb; have HBY := Aside0.mk hb; have GY := Aside0.mk (Nat.le_of_eq hg.symm); have ag := Aside0.mk hbox; have aA := pB BX hb; have aB := pN BX hg; have aC := pM BX hg; clear n q s U X Y hbox BX hb hg; have BY := ag; have BX := aA; have nb := aB.out; have nc := aC.out; clear ag aA aB aC; obtain ⟨n, q, s, U, X, Y⟩ := cz3 BX; obtain ⟨aI, aJ, aK, aL, aM, aN⟩ := cz3 BY))); have HI := Aside0.mk (RigAt.begin BY.out GY.out HBY.out); clear BX BY n q s U X Y aI aJ aK aL aM aN nb nc; go_loopg [14] k (fun kq vi w' => ∃ (x : Nat) (v1 : Value), vi = .int .i64 x ∧ x ≤ b.length ∧ Aside0 (impl_ValidRig.l0 kq b l m x = some r) ∧ Aside0 (kq ≤ k) ∧ Aside0 (RigAt w1 w' gy v1 (.slice none 0 0) (.slice none 0 0) (b.take x) [] []) ∧ Aside0 (x ≤ 10))
  case atStart => exact ⟨0, _, rfl, Nat.zero_le _, H', ⟨Nat.le_refl _⟩, HI, ⟨by omega⟩⟩
  case round =>
   clear H' HI; obtain ⟨x, v1, rfl, hil, HA, I, HI, HN⟩ := hrel
   cases gk with
   | zero => exact absurd HA.out (by simp [impl_ValidRig.l0])
   | succ k1 =>
    have H := HA.out; clear HA; simp only [impl_ValidRig.l0] at H; have HBW := Aside0.mk (below_step O.out HI.out.below); by_cases hlt : (x : Int) < (b.length : Int)
    ·rw [if_pos hlt, if_pos (Int.natCast_nonneg x)] at H; obtain ⟨t1, E, H⟩ := Option.bind_eq_some_iff.mp H; (try dsimp only at H); (try rw [Int.toNat_natCast] at E); (have u : x < b.length := by omega); have ah : decide ((x : Int) < (b.length : Int)) = true := decide_eq_true hlt; have ai : decide (x < b.length) = true := decide_eq_true u; have aj : 0 ≤ (x : Int) := Int.natCast_nonneg x; (have aD : (x : Int) ≤ 1048576 := by have := HLN.out.1; have := HLN.out.2.1; have := HLN.out.2.2; omega); obtain ⟨ad, e0, n, q, s⟩ := at_T69 aF.out (x : Int) aj hlt
     cases e0
     replace n := bC HBW n; replace q := bC HBW q; replace s := bC HBW s; (have ey : b[x]? = some (rd_T69 b (x : Int)) := by simp [rd_T69, u]); generalize rd_T69 b (x : Int) = y at n q s E ey; rw [Int.toNat_natCast] at n q s; have EY := Aside0.mk ey; have TA := Aside0.mk E; have LT := Aside0.mk u; clear ey E u; by_cases ht : t1 = 0
     ·subst ht; rw [if_pos rfl] at H; rw [show wrap64 ((x : Int) + 1) = ((x + 1 : Nat) : Int) from by unfold wrap64; have := LT.out; have := HLN.out.1; have := HLN.out.2.1; have := HLN.out.2.2; omega] at H; have H' := Aside0.mk H; clear H; (go_wp2_with (first | ((with_reducible refine gate_dst (N := 5) rfl ?_); refine box_event ?hg (N := 5) ?hd (cs := #[.string ⟨#[]⟩, .string ⟨#[]⟩, .int .i64 0]) (t := 69) ?hr ?_; (case hd | hg => rfl); (case hr => go_simp; try rfl); intro gr hg w3 hbox hb; have HC := Aside0.mk hb; have GR := Aside0.mk (Nat.le_of_eq hg.symm); have BR := Aside0.mk hbox; clear hbox hb hg; obtain ⟨Z, aa, ab, ac, ae, af⟩ := cz3 BR) | (go_at_call 45; have o := impl_addRail.at k1 w1 _ gy v1 _ _ _ _ _ y _ (HI.out.late HC.out GR.out (.string y.f0) (.string y.f1) (.int .i64 y.f2)) (take_len _ _ _ HN.out) TA.out; (with_reducible refine o.2.mono ?_); rintro e w4 ⟨aO, rfl, hi⟩; have HG := Aside0.mk o.1; clear o Z aa ab ac ae af n q s HC GR BR HI; have HI := Aside0.mk hi; clear hi))); go_roundg k1
      case measure => have := I.out; omega
      case rel => exact ⟨x + 1, _, by go_num, LT.out, H', ⟨by have := I.out; omega⟩, ⟨by rw [← take_more b x y EY.out]; exact HI.out⟩, ⟨by have := HG.out (by first | rfl | trivial); rwa [take_full _ _ LT.out] at this⟩⟩
     ·rw [if_neg ht] at H; obtain rfl := Option.some.inj H; clear H; (have aE : (t1 != 0) = true := by simpa using ht); have HT := Aside0.mk ht; clear ht; (go_wp2_with (first | ((with_reducible refine gate_dst (N := 5) rfl ?_); refine box_event ?hg (N := 5) ?hd (cs := #[.string ⟨#[]⟩, .string ⟨#[]⟩, .int .i64 0]) (t := 69) ?hr ?_; (case hd | hg => rfl); (case hr => go_simp; try rfl); intro gr hg w3 hbox hb; have HC := Aside0.mk hb; have GR := Aside0.mk (Nat.le_of_eq hg.symm); have BR := Aside0.mk hbox; clear hbox hb hg; obtain ⟨Z, aa, ab, ac, ae, af⟩ := cz3 BR) | (go_at_call 45; have o := impl_addRail.at k1 w1 _ gy v1 _ _ _ _ _ y _ (HI.out.late HC.out GR.out (.string y.f0) (.string y.f1) (.int .i64 y.f2)) (take_len _ _ _ HN.out) TA.out; (with_reducible refine o.2.mono ?_); rintro e w4 ⟨aO, rfl, hi⟩; have HG := Aside0.mk o.1; clear o Z aa ab ac ae af n q s HC GR BR HI; have HI := Aside0.mk hi; clear hi))); (go_ret); exact ⟨rfl, below_step O.out HI.out.below⟩
    ·rw [if_neg hlt] at H; have ah : decide ((x : Int) < (b.length : Int)) = false := decide_eq_false hlt; have ai : decide (x < b.length) = false := decide_eq_false (by omega); (have D : x = b.length := by omega); have H' := Aside0.mk H; have o := HI.out; rw [D, List.take_length] at o; have HIL := Aside0.mk D; clear H HI D hil hlt; have HI := Aside0.mk o; clear o; have BX := Aside0.mk (blk_below az.out HI.out.below); obtain ⟨n, q, s, U, X, Y⟩ := cz3 BX; clear BX; (go_wp2); clear n q s U X Y; obtain ⟨aR, hwo⟩ : ∃ wo : World, wo = wr := ⟨_, rfl⟩; subst hwo; go_loopg [25] k1 (fun kq vi w' => ∃ (z : Nat) (v2 : Value), vi = .int .i64 z ∧ z ≤ l.length ∧ Aside0 (impl_ValidRig.l1 kq b l m z = some r) ∧ Aside0 (kq ≤ k1) ∧ Aside0 (RigAt w1 w' gy v1 v2 (.slice none 0 0) b (l.take z) []) ∧ Aside0 (z ≤ 60))
     case atStart => exact ⟨0, _, rfl, Nat.zero_le _, H', ⟨Nat.le_refl _⟩, HI, ⟨by omega⟩⟩
     case round =>
      clear H' HI; obtain ⟨z, v2, rfl, hil, HA, I, HI, HN⟩ := hrel
      cases gk with
      | zero => exact absurd HA.out (by simp [impl_ValidRig.l1])
      | succ k2 =>
       have H := HA.out; clear HA; simp only [impl_ValidRig.l1] at H; have HBW := Aside0.mk (below_step O.out HI.out.below); by_cases hlt : (z : Int) < (l.length : Int)
       ·rw [if_pos hlt, if_pos (Int.natCast_nonneg z)] at H; obtain ⟨t1, E, H⟩ := Option.bind_eq_some_iff.mp H; (try dsimp only at H); (try rw [Int.toNat_natCast] at E); (have u : z < l.length := by omega); have ah : decide ((z : Int) < (l.length : Int)) = true := decide_eq_true hlt; have ai : decide (z < l.length) = true := decide_eq_true u; have aj : 0 ≤ (z : Int) := Int.natCast_nonneg z; (have aD : (z : Int) ≤ 1048576 := by have := HLN.out.1; have := HLN.out.2.1; have := HLN.out.2.2; omega); obtain ⟨ad, e0, n⟩ := Kd.at_string aG.out (z : Int) aj hlt
        cases e0
        replace n := bC HBW n; (have ey : l[z]? = some (rdOf ByteArray.empty l (z : Int)) := by simp [rdOf, u]); generalize rdOf ByteArray.empty l (z : Int) = y at n E ey; rw [Int.toNat_natCast] at n; have EY := Aside0.mk ey; have TA := Aside0.mk E; have LT := Aside0.mk u; clear ey E u; by_cases ht : t1 = 0
        ·subst ht; rw [if_pos rfl] at H; rw [show wrap64 ((z : Int) + 1) = ((z + 1 : Nat) : Int) from by unfold wrap64; have := LT.out; have := HLN.out.1; have := HLN.out.2.1; have := HLN.out.2.2; omega] at H; have H' := Aside0.mk H; clear H; (go_wp2_with (first | (go_at_call 46; have o := impl_addLine.at k2 w1 _ gy v1 v2 _ _ _ _ y _ HI.out (take_len _ _ _ HN.out) TA.out; (with_reducible refine o.2.mono ?_); rintro e w4 ⟨aP, rfl, hi⟩; have HG := Aside0.mk o.1; clear o n HI; have HI := Aside0.mk hi; clear hi))); go_roundg k2
         case measure => have := I.out; omega
         case rel => exact ⟨z + 1, _, by go_num, LT.out, H', ⟨by have := I.out; omega⟩, ⟨by rw [← take_more l z y EY.out]; exact HI.out⟩, ⟨by have := HG.out (by first | rfl | trivial); rwa [take_full _ _ LT.out] at this⟩⟩
        ·rw [if_neg ht] at H; obtain rfl := Option.some.inj H; clear H; (have aE : (t1 != 0) = true := by simpa using ht); have HT := Aside0.mk ht; clear ht; (go_wp2_with (first | (go_at_call 46; have o := impl_addLine.at k2 w1 _ gy v1 v2 _ _ _ _ y _ HI.out (take_len _ _ _ HN.out) TA.out; (with_reducible refine o.2.mono ?_); rintro e w4 ⟨aP, rfl, hi⟩; have HG := Aside0.mk o.1; clear o n HI; have HI := Aside0.mk hi; clear hi))); (go_ret); exact ⟨rfl, below_step O.out HI.out.below⟩
       ·rw [if_neg hlt] at H; have ah : decide ((z : Int) < (l.length : Int)) = false := decide_eq_false hlt; have ai : decide (z < l.length) = false := decide_eq_false (by omega); (have D : z = l.length := by omega); have H' := Aside0.mk H; have o := HI.out; rw [D, List.take_length] at o; have HIL := Aside0.mk D; clear H HI D hil hlt; have HI := Aside0.mk o; clear o; have BX := Aside0.mk (blk_below az.out HI.out.below); obtain ⟨n, q, s, U, X, Y⟩ := cz3 BX; clear BX; (go_wp2); clear n q s U X Y; obtain ⟨aS, hwo⟩ : ∃ wo : World, wo = wr := ⟨_, rfl⟩; subst hwo; go_loopg [36] k2 (fun kq vi w' => ∃ (B : Nat) (v3 : Value), vi = .int .i64 B ∧ B ≤ m.length ∧ Aside0 (impl_ValidRig.l2 kq b l m B = some r) ∧ Aside0 (kq ≤ k2) ∧ Aside0 (RigAt w1 w' gy v1 v2 v3 b l (m.take B)))
        case atStart => exact ⟨0, _, rfl, Nat.zero_le _, H', ⟨Nat.le_refl _⟩, HI⟩
        case round =>
         clear H' HI; obtain ⟨B, v3, rfl, hil, HA, I, HI⟩ := hrel
         cases gk with
         | zero => exact absurd HA.out (by simp [impl_ValidRig.l2])
         | succ k3 =>
          have H := HA.out; clear HA; simp only [impl_ValidRig.l2] at H; have HBW := Aside0.mk (below_step O.out HI.out.below); by_cases hlt : (B : Int) < (m.length : Int)
          ·rw [if_pos hlt, if_pos (Int.natCast_nonneg B)] at H; obtain ⟨t1, E, H⟩ := Option.bind_eq_some_iff.mp H; (try dsimp only at H); (try rw [Int.toNat_natCast] at E); (have u : B < m.length := by omega); have ah : decide ((B : Int) < (m.length : Int)) = true := decide_eq_true hlt; have ai : decide (B < m.length) = true := decide_eq_true u; have aj : 0 ≤ (B : Int) := Int.natCast_nonneg B; (have aD : (B : Int) ≤ 1048576 := by have := HLN.out.1; have := HLN.out.2.1; have := HLN.out.2.2; omega); obtain ⟨ad, e0, n, q, s⟩ := at_T40 aH.out (B : Int) aj hlt
           cases e0
           replace n := bC HBW n; replace q := bC HBW q; replace s := bC HBW s; (have ey : m[B]? = some (rd_T40 m (B : Int)) := by simp [rd_T40, u]); generalize rd_T40 m (B : Int) = y at n q s E ey; rw [Int.toNat_natCast] at n q s; have EY := Aside0.mk ey; have TA := Aside0.mk E; have LT := Aside0.mk u; clear ey E u; by_cases ht : t1 = 0
           ·subst ht; rw [if_pos rfl] at H; rw [show wrap64 ((B : Int) + 1) = ((B + 1 : Nat) : Int) from by unfold wrap64; have := LT.out; have := HLN.out.1; have := HLN.out.2.1; have := HLN.out.2.2; omega] at H; have H' := Aside0.mk H; clear H; (go_wp2_with (first | ((with_reducible refine gate_dst (N := 9) rfl ?_); refine box_event ?hg (N := 9) ?hd (cs := #[.string ⟨#[]⟩, .string ⟨#[]⟩, .int .i64 0]) (t := 40) ?hr ?_; (case hd | hg => rfl); (case hr => go_simp; try rfl); intro gr hg w3 hbox hb; have HC := Aside0.mk hb; have GR := Aside0.mk (Nat.le_of_eq hg.symm); have BR := Aside0.mk hbox; clear hbox hb hg; obtain ⟨Z, aa, ab, ac, ae, af⟩ := cz3 BR) | (go_at_call 47; (with_reducible refine (impl_addBelay.at k3 w1 _ gy v1 v2 v3 _ _ _ y _ (HI.out.late HC.out GR.out (.string y.f0) (.string y.f1) (.int .i64 y.f2)) (take_len _ _ _ (by have := HLN.out.2.2; have := LT.out; omega)) TA.out).mono ?_); rintro e w4 ⟨aQ, rfl, hi⟩; clear Z aa ab ac ae af n q s HC GR BR HI; have HI := Aside0.mk hi; clear hi))); go_roundg k3
            case measure => have := I.out; omega
            case rel => exact ⟨B + 1, _, by go_num, LT.out, H', ⟨by have := I.out; omega⟩, ⟨by rw [← take_more m B y EY.out]; exact HI.out⟩⟩
           ·rw [if_neg ht] at H; obtain rfl := Option.some.inj H; clear H; (have aE : (t1 != 0) = true := by simpa using ht); have HT := Aside0.mk ht; clear ht; (go_wp2_with (first | ((with_reducible refine gate_dst (N := 9) rfl ?_); refine box_event ?hg (N := 9) ?hd (cs := #[.string ⟨#[]⟩, .string ⟨#[]⟩, .int .i64 0]) (t := 40) ?hr ?_; (case hd | hg => rfl); (case hr => go_simp; try rfl); intro gr hg w3 hbox hb; have HC := Aside0.mk hb; have GR := Aside0.mk (Nat.le_of_eq hg.symm); have BR := Aside0.mk hbox; clear hbox hb hg; obtain ⟨Z, aa, ab, ac, ae, af⟩ := cz3 BR) | (go_at_call 47; (with_reducible refine (impl_addBelay.at k3 w1 _ gy v1 v2 v3 _ _ _ y _ (HI.out.late HC.out GR.out (.string y.f0) (.string y.f1) (.int .i64 y.f2)) (take_len _ _ _ (by have := HLN.out.2.2; have := LT.out; omega)) TA.out).mono ?_); rintro e w4 ⟨aQ, rfl, hi⟩; clear Z aa ab ac ae af n q s HC GR BR HI; have HI := Aside0.mk hi; clear hi))); (go_ret); exact ⟨rfl, below_step O.out HI.out.below⟩
          ·rw [if_neg hlt] at H; have ah : decide ((B : Int) < (m.length : Int)) = false := decide_eq_false hlt; have ai : decide (B < m.length) = false := decide_eq_false (by omega); (have D : B = m.length := by omega); clear D; obtain rfl := Option.some.inj H; (go_wp2); (go_ret); exact ⟨rfl, below_step O.out HI.out.below⟩
 ·rw [if_neg hlb] at h
  cases h

end Go.Proofs.Ytpngklefeaolfaa.PFnExactMoveLine
