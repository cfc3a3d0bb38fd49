/-
  The pure side of FnExactPlanText: the program's PlanText gives what the reference's gives. No conditions.
-/
import Derived.Test.YtdlckliobloodaaDoorQFnExactPlanText
set_option linter.unusedVariables false
set_option linter.unusedSimpArgs false
set_option linter.unnecessarySimpa false
namespace Go.Proofs.YtdlckliobloodaaDoor.PFnExactPlanText
open Go.RowKit Go.Proofs.YtdlckliobloodaaDoor.Kit Go.Proofs.YtdlckliobloodaaDoorW.PrintWords Go.Proofs.YtdlckliobloodaaDoorW.PrintLast Go.Proofs.YtdlckliobloodaaDoorW.PrintMore

theorem laws_szSpotS_val (l : List S125) (n : Int) (h : l.length ≤ 9223372036854775807) (hn : 0 ≤ n) (hn2 : n ≤ 1048576) : ∃ r, laws_szSpotS.f l n = some r ∧ (r < 0 ∨ 0 ≤ r ∧ r ≤ n ∧ (l.length : Int) ≤ n) := by
  unfold laws_szSpotS.f
  rw [w64 (by omega) (by omega)]
  by_cases hc : n < l.length
  · exact ⟨-1, by rw [if_pos (by omega)], Or.inl (by omega)⟩
  · exact ⟨n - l.length, by rw [if_neg (by omega)], Or.inr (by omega)⟩
theorem laws_szHung_val (s : ByteArray) (l : List S125) (b : Bool) (n : Int) (hs : s.size ≤ 9223372036854775807) (h : l.length ≤ 9223372036854775807) (hn : 0 ≤ n) (hn2 : n ≤ 1048576) : ∃ r, laws_szHung.f s l b n = some r ∧ (r < 0 ∨ 0 ≤ r ∧ r ≤ n ∧ (s.size : Int) ≤ n ∧ (l.length : Int) ≤ n) := by
  unfold laws_szHung.f
  rw [w64 (by omega) (by omega)]
  by_cases hc : n - (s.size : Int) < 0
  · exact ⟨-1, by rw [if_pos hc], Or.inl (by omega)⟩
  · rw [if_neg hc]
    obtain ⟨r, hr, h1⟩ := laws_szSpotS_val l (n - (s.size : Int)) h (by omega) (by omega)
    rw [hr]; simp only [Option.bind_some]
    rcases h1 with h1 | h1
    · exact ⟨-1, by rw [if_pos h1], Or.inl (by omega)⟩
    · exact ⟨r, by rw [if_neg (by omega)], Or.inr (by omega)⟩
/-- What a sum of sizes tells: it is less than 0, or all that it adds up is small. -/
theorem szLoop {α : Type} (l : List α) (small : α → Prop) (n : Int) (hn0 : 0 ≤ n) (g : Int → Int → Option Int) (h : ∀ (i : Nat) (s : Int) (hi : i < l.length), 0 ≤ s → s ≤ n → g s (i : Int) = some (-1) ∨ ∃ s', g s (i : Int) = g s' ((i + 1 : Nat) : Int) ∧ 0 ≤ s' ∧ s' ≤ s ∧ small l[i]) (he : ∀ s, g s (l.length : Int) = some s) :
    ∃ r, g n 0 = some r ∧ (r < 0 ∨ 0 ≤ r ∧ r ≤ n ∧ ∀ y ∈ l, small y) := by
  have key : ∀ (d i : Nat) (s : Int), i + d = l.length → 0 ≤ s → s ≤ n → (∀ y ∈ l.take i, small y) → ∃ r, g s (i : Int) = some r ∧ (r < 0 ∨ 0 ≤ r ∧ r ≤ n ∧ ∀ y ∈ l, small y) := by
    intro d
    induction d with
    | zero =>
      intro i s hd h0 h1 hs
      rw [show (i : Int) = (l.length : Int) by omega, he]
      rw [List.take_of_length_le (by omega)] at hs
      exact ⟨s, rfl, Or.inr ⟨h0, h1, hs⟩⟩
    | succ d ih =>
      intro i s hd h0 h1 hs
      have hi : i < l.length := by omega
      rcases h i s hi h0 h1 with h2 | ⟨s', h2, h3, h4, h5⟩
      · exact ⟨-1, h2, Or.inl (by omega)⟩
      · rw [h2]
        refine ih (i + 1) s' (by omega) h3 (by omega) (fun y hy => ?_)
        rw [List.take_succ_eq_append_getElem hi, List.mem_append, List.mem_singleton] at hy
        rcases hy with h6 | rfl
        · exact hs y h6
        · exact h5
  exact key l.length 0 n (by omega) hn0 (Int.le_refl _) (by simp)
theorem rdLHung (l : List S82) (i : Nat) (h : i < l.length) : rd_T82 l (i : Int) = l[i] := by simp [rd_T82, h]
theorem laws_szHungS_val (l : List S82) (n : Int) (h : l.length ≤ 9223372036854775807) (hy : ∀ y ∈ l, y.f0.size ≤ 9223372036854775807 ∧ y.f1.length ≤ 9223372036854775807) (hn : 0 ≤ n) (hn2 : n ≤ 1048576) : ∃ r, laws_szHungS.F l n = some r ∧ (r < 0 ∨ 0 ≤ r ∧ r ≤ n ∧ (l.length : Int) ≤ n ∧ ∀ y ∈ l, (y.f0.size : Int) ≤ n ∧ (y.f1.length : Int) ≤ n) := by
  rw [laws_szHungS.F_eq, w64 (by omega) (by omega)]
  by_cases hc : n - (l.length : Int) < 0
  · exact ⟨-1, by rw [if_pos hc], Or.inl (by omega)⟩
  · rw [if_neg hc]
    obtain ⟨r, hr, h1⟩ := szLoop l (fun y => (y.f0.size : Int) ≤ n ∧ (y.f1.length : Int) ≤ n) (n - (l.length : Int)) (by omega) (fun s i => laws_szHungS.L0 l s i) (fun i s hi h0 h2 => by
      show laws_szHungS.L0 l s i = _ ∨ ∃ s', laws_szHungS.L0 l s i = laws_szHungS.L0 l s' _ ∧ _
      rw [laws_szHungS.L0_eq, if_pos (by omega), if_pos (by omega), rdLHung l i hi, wS (by omega)]
      have hyi := hy _ (List.getElem_mem hi)
      obtain ⟨q, hq, h3⟩ := laws_szHung_val l[i].f0 l[i].f1 l[i].f2 s hyi.1 hyi.2 h0 (by omega)
      rw [hq]
      simp only [Option.bind_some]
      rcases h3 with h3 | ⟨h3, h4, h5, h6⟩
      · left; rw [if_pos h3]
      · right; exact ⟨q, by rw [if_neg (by omega)], h3, h4, by omega, by omega⟩) (fun s => by
      show laws_szHungS.L0 l s _ = _
      rw [laws_szHungS.L0_eq, if_neg (by omega)])
    refine ⟨r, hr, ?_⟩
    rcases h1 with h1 | ⟨h1, h2, h3⟩
    · exact Or.inl h1
    · exact Or.inr ⟨h1, by omega, by omega, h3⟩
theorem rdLSpot (l : List S125) (i : Nat) (h : i < l.length) : rd_T125 l (i : Int) = l[i] := by simp [rd_T125, h]
def spotTo (p : S125) : S89 := ⟨p.f0, p.f1⟩
theorem laws_toSpotS_val (l : List S125) (hl : l.length ≤ 1048576) : laws_toSpotS.F l = some (l.map spotTo) := by
  rw [laws_toSpotS.F_eq, if_pos (by omega), if_pos (by omega), Int.toNat_natCast]
  have := fillLoop (l.map spotTo) z89 (fun s i => laws_toSpotS.L0 l s i) (fun i s hi hs => by
    rw [List.length_map] at hi hs
    show laws_toSpotS.L0 l s i = _
    rw [laws_toSpotS.L0_eq, if_pos (by omega), if_pos (by omega), rdLSpot l i hi, wS (by omega)]
    unfold laws_toSpot.f
    simp only [Option.bind_some]
    rw [if_pos (by omega), Int.toNat_natCast, List.getElem_map]
    rfl)
  rw [List.length_map] at this
  refine this.trans ?_
  show laws_toSpotS.L0 l _ _ = _
  rw [laws_toSpotS.L0_eq, if_neg (by omega)]
theorem laws_toHung_val (s : ByteArray) (l : List S125) (b : Bool) (hl : l.length ≤ 1048576) : laws_toHung.F s l b = some (s, l.map spotTo, b) := by
  rw [laws_toHung.F_eq, laws_toSpotS_val l hl]; rfl
def hungTo (p : S82) : S57 := ⟨p.f0, p.f1.map spotTo, p.f2⟩
theorem laws_toHungS_val (l : List S82) (hl : l.length ≤ 1048576) (hy : ∀ y ∈ l, y.f1.length ≤ 1048576) : laws_toHungS.F l = some (l.map hungTo) := by
  rw [laws_toHungS.F_eq, if_pos (by omega), if_pos (by omega), Int.toNat_natCast]
  have := fillLoop (l.map hungTo) z57 (fun s i => laws_toHungS.L0 l s i) (fun i s hi hs => by
    rw [List.length_map] at hi hs
    show laws_toHungS.L0 l s i = _
    rw [laws_toHungS.L0_eq, if_pos (by omega), if_pos (by omega), rdLHung l i hi, wS (by omega), laws_toHung_val _ _ _ (hy _ (List.getElem_mem hi))]
    simp only [Option.bind_some]
    rw [if_pos (by omega), Int.toNat_natCast, List.getElem_map]
    rfl)
  rw [List.length_map] at this
  refine this.trans ?_
  show laws_toHungS.L0 l _ _ = _
  rw [laws_toHungS.L0_eq, if_neg (by omega)]
theorem laws_eqSpotS_val (l : List S89) (hl : l.length < 4611686018427387904) : laws_eqSpotS.F l l = some true := by
  rw [laws_eqSpotS.F_eq, if_pos rfl]
  have := allLoop l (fun _ => true) (fun i => laws_eqSpotS.L0 l l i) true (fun i hi => by
    show laws_eqSpotS.L0 l l i = _
    rw [laws_eqSpotS.L0_eq, if_pos (by omega), if_pos (by omega), if_pos (by omega), wS (by omega)]
    unfold laws_eqSpot.f
    simp) (by
    show laws_eqSpotS.L0 l l _ = _
    rw [laws_eqSpotS.L0_eq, if_neg (by omega)])
  rw [this]; simp
theorem laws_eqHung_val (s : ByteArray) (l : List S89) (b : Bool) (hl : l.length < 4611686018427387904) : laws_eqHung.F s l b s l b = some true := by
  rw [laws_eqHung.F_eq, if_pos rfl, laws_eqSpotS_val l hl]
  simp
theorem rdIHung (l : List S57) (i : Nat) (h : i < l.length) : rd_T57 l (i : Int) = l[i] := by simp [rd_T57, h]
theorem laws_eqHungS_val (l : List S57) (hl : l.length < 4611686018427387904) (hy : ∀ y ∈ l, y.f1.length < 4611686018427387904) : laws_eqHungS.F l l = some true := by
  rw [laws_eqHungS.F_eq, if_pos rfl]
  have := allLoop l (fun _ => true) (fun i => laws_eqHungS.L0 l l i) true (fun i hi => by
    show laws_eqHungS.L0 l l i = _
    rw [laws_eqHungS.L0_eq, if_pos (by omega), if_pos (by omega), if_pos (by omega), wS (by omega), rdIHung l i hi, laws_eqHung_val _ _ _ (hy _ (List.getElem_mem hi))]
    rfl) (by
    show laws_eqHungS.L0 l l _ = _
    rw [laws_eqHungS.L0_eq, if_neg (by omega)])
  rw [this]; simp
/-- What the laws do with a plan that came in. -/
theorem plan_args (l : List S82) (c d n : Int) (hn0 : 0 ≤ n) (hn1 : n ≤ 1048576) (h : l.length ≤ 9223372036854775807) (hy : ∀ y ∈ l, y.f0.size ≤ 9223372036854775807 ∧ y.f1.length ≤ 9223372036854775807) : ∃ r, laws_szPlan.F l c d n = some r ∧ (r < 0 ∨ ¬ r < 0 ∧ r ≤ n ∧ l.length ≤ 1048576 ∧ ∃ m : List S57, m = l.map hungTo ∧ m.length = l.length ∧ (∀ y ∈ m, y.f0.size ≤ 1048576 ∧ y.f1.length ≤ 1048576) ∧ laws_toPlan.F l c d = some (m, c, d) ∧ laws_eqPlan.F m c d m c d = some true) := by
  obtain ⟨r, hr, h1⟩ := laws_szHungS_val l n h hy hn0 hn1
  rw [laws_szPlan.F_eq, hr]
  simp only [Option.bind_some]
  rcases h1 with h1 | ⟨h1, h2, h3, h4⟩
  · exact ⟨-1, by rw [if_pos h1], Or.inl (by omega)⟩
  · have h5 : ∀ y ∈ l.map hungTo, y.f0.size ≤ 1048576 ∧ y.f1.length ≤ 1048576 := by
      intro y hy2
      obtain ⟨z, hz, rfl⟩ := List.mem_map.1 hy2
      have := h4 z hz
      show z.f0.size ≤ _ ∧ (z.f1.map spotTo).length ≤ _
      rw [List.length_map]
      omega
    refine ⟨r, by rw [if_neg (by omega)], Or.inr ⟨by omega, h2, by omega, l.map hungTo, rfl, by simp, h5, ?_, ?_⟩⟩
    · rw [laws_toPlan.F_eq, laws_toHungS_val l (by omega) (fun y hy2 => by have := h4 y hy2; omega)]; rfl
    · rw [laws_eqPlan.F_eq, laws_eqHungS_val _ (by rw [List.length_map]; omega) (fun y hy2 => by have := h5 y hy2; omega)]
      simp
theorem mul_bd (a b A B : Int) (h1 : -A ≤ a) (h2 : a ≤ A) (h3 : -B ≤ b) (h4 : b ≤ B) : -(A * B) ≤ a * b ∧ a * b ≤ A * B := by
  constructor
  · have x1 := Int.mul_nonneg (show 0 ≤ A + a by omega) (show 0 ≤ B + b by omega)
    have x2 := Int.mul_nonneg (show 0 ≤ A - a by omega) (show 0 ≤ B - b by omega)
    grind
  · have x1 := Int.mul_nonneg (show 0 ≤ A + a by omega) (show 0 ≤ B - b by omega)
    have x2 := Int.mul_nonneg (show 0 ≤ A - a by omega) (show 0 ≤ B + b by omega)
    grind
def R2 (x : Int) : Prop := 0 ≤ x ∧ x ≤ 2000
theorem R2.w {x y : Int} (hx : R2 x) (hy : R2 y) : wrap64 (x - y) = x - y := w64 (by unfold R2 at *; omega) (by unfold R2 at *; omega)
theorem R2.ww {a b c d e f g h : Int} (ha : R2 a) (hb : R2 b) (hc : R2 c) (hd : R2 d) (he : R2 e) (hf : R2 f) (hg : R2 g) (hh : R2 h) : wrap64 ((wrap64 ((wrap64 (a - b)) * (wrap64 (c - d)))) - (wrap64 ((wrap64 (e - f)) * (wrap64 (g - h))))) = (a - b) * (c - d) - (e - f) * (g - h) := by
  rw [ha.w hb, hc.w hd, he.w hf, hg.w hh]
  unfold R2 at *
  have h1 := mul_bd (a - b) (c - d) 2000 2000 (by omega) (by omega) (by omega) (by omega)
  have h2 := mul_bd (e - f) (g - h) 2000 2000 (by omega) (by omega) (by omega) (by omega)
  rw [w64 (n := (a - b) * (c - d)) (by omega) (by omega), w64 (n := (e - f) * (g - h)) (by omega) (by omega), w64 (by omega) (by omega)]
def crossZ (ax ay bx b_y cx cy : Int) : Int := (bx - ax) * (cy - ay) - (b_y - ay) * (cx - ax)
def inB (n a b : Int) : Bool := decide (a ≤ n) && decide (n ≤ b)
theorem inB_iff (n a b : Int) : inB n a b = true ↔ a ≤ n ∧ n ≤ b := by simp [inB]
theorem inB_no (n a b : Int) : inB n a b = false ↔ ¬ (a ≤ n ∧ n ≤ b) := by rw [← inB_iff]; simp
def betB (ax ay bx b_y px py : Int) : Bool := inB px (min ax bx) (max ax bx) && inB py (min ay b_y) (max ay b_y)
def onB (ax ay bx b_y px py : Int) : Bool := decide (crossZ ax ay bx b_y px py = 0) && betB ax ay bx b_y px py
def sidesB (a b c d e f g h : Int) : Bool := (decide (crossZ a b c d e f < 0) && decide (crossZ a b c d g h > 0)) || (decide (crossZ a b c d e f > 0) && decide (crossZ a b c d g h < 0))
def meetB (a b c d e f g h : Int) : Bool := onB a b c d e f || onB a b c d g h || onB e f g h a b || onB e f g h c d || (sidesB a b c d e f g h && sidesB e f g h a b c d)
theorem rdISpot (l : List S89) (i : Nat) (h : i < l.length) : rd_T89 l (i : Int) = l[i] := by simp [rd_T89, h]
/-- A loop from m to n that ends with 'no' at the first place that isn't as it should be. -/
theorem stepLoop {β : Type} (m n : Nat) (p : Nat → Bool) (g : Int → β) (no r : β) (h : ∀ k, m ≤ k → k < n → g (k : Int) = if p k = true then g ((k + 1 : Nat) : Int) else no) (he : ∀ k, n ≤ k → g (k : Int) = r) : g (m : Int) = if (List.range' m (n - m)).all p = true then r else no := by
  have key : ∀ (d i : Nat), n - i = d → m ≤ i → g (i : Int) = if (List.range' i (n - i)).all p = true then r else no := by
    intro d
    induction d with
    | zero =>
      intro i hd hi
      rw [hd, he i (by omega)]; rfl
    | succ d ih =>
      intro i hd hi
      rw [h i hi (by omega), ih (i + 1) (by omega) (by omega), show n - i = (n - (i + 1)) + 1 by omega, List.range'_succ, List.all_cons]
      by_cases hp : p i = true
      · rw [if_pos hp, hp, Bool.true_and]
      · rw [if_neg hp, if_neg (by simp [hp])]
  exact key _ m rfl (Nat.le_refl _)
/-- The x and the y of a sail's spot. -/
def sx (l : List S89) (i : Nat) : Int := (rd_T89 l (i : Int)).f0
def sy (l : List S89) (i : Nat) : Int := (rd_T89 l (i : Int)).f1
theorem sx_def (l : List S89) (i : Nat) : (rd_T89 l (i : Int)).f0 = sx l i := rfl
theorem sy_def (l : List S89) (i : Nat) : (rd_T89 l (i : Int)).f1 = sy l i := rfl
def spotIn (p : S89) : Bool := inB p.f0 0 2000 && inB p.f1 0 2000
theorem spots_R (l : List S89) (h : l.all spotIn = true) (i : Nat) (hi : i < l.length) : R2 (sx l i) ∧ R2 (sy l i) := by
  have := List.all_eq_true.1 h l[i] (List.getElem_mem hi)
  simp only [spotIn, Bool.and_eq_true, inB_iff] at this
  unfold sx sy
  rw [rdISpot l i hi]
  exact this
def crossAt (l : List S89) (i j k : Nat) : Int := crossZ (sx l i) (sy l i) (sx l j) (sy l j) (sx l k) (sy l k)
def meetAt (l : List S89) (i j h k : Nat) : Bool := meetB (sx l i) (sy l i) (sx l j) (sy l j) (sx l h) (sy l h) (sx l k) (sy l k)
theorem tmodN (i n : Nat) (h : i < 4611686018427387904) : Int.tmod (wrap64 ((i : Int) + 1)) (n : Int) = (((i + 1) % n : Nat) : Int) := by
  rw [w64 (by omega) (by omega), Int.tmod_eq_emod_of_nonneg (by omega)]; push_cast; rfl
theorem tmodN2 (i n : Nat) (h : i < 4611686018427387904) : Int.tmod (wrap64 ((i : Int) + 2)) (n : Int) = (((i + 2) % n : Nat) : Int) := by
  rw [w64 (by omega) (by omega), Int.tmod_eq_emod_of_nonneg (by omega)]; push_cast; rfl
/-- Twice a sail's area, as the machine sums it up. -/
def twZ (l : List S89) : Nat → Int
  | 0 => 0
  | i + 1 => wrap64 (twZ l i + wrap64 (wrap64 (sx l i * sy l ((i + 1) % l.length)) - wrap64 (sx l ((i + 1) % l.length) * sy l i)))
def pairsOk (l : List S89) (i : Nat) : Bool := (List.range' (i + 2) (l.length - (i + 2))).all fun k => !((decide (i > 0) || decide (k < l.length - 1)) && meetAt l i ((i + 1) % l.length) k ((k + 1) % l.length))
def sailB (l : List S89) : Bool := decide (3 ≤ l.length) && decide (l.length ≤ 8) && (l.all spotIn && ((List.range l.length).all (fun i => decide (crossAt l i ((i + 1) % l.length) ((i + 2) % l.length) ≠ 0) && pairsOk l i) && decide (twZ l l.length > 0)))
theorem sailB_len {l : List S89} (h : sailB l = true) : 3 ≤ l.length ∧ l.length ≤ 8 ∧ l.all spotIn = true := by
  simp only [sailB, Bool.and_eq_true, decide_eq_true_eq] at h
  exact ⟨h.1.1, h.1.2, h.2.1⟩
/-- A number's decimal form. -/
def dec (n : Int) : ByteArray := ⟨(Lib.itoa n).toArray⟩
def digN (u : Nat) : List Int := (Lib.decDigits u).map fun b => (b.toNat : Int)
theorem digN_small {u : Nat} (h : u < 10) : digN u = [48 + (u : Int)] := by
  unfold digN
  rw [Lib.decDigits_one h, List.map_cons, List.map_nil]
  congr 1
  rw [UInt8.toNat_ofNat_of_lt' (by show 48 + u < 256; omega)]
  push_cast; rfl
theorem digN_big {u : Nat} (h : ¬ u < 10) : digN u = digN (u / 10) ++ [48 + ((u % 10 : Nat) : Int)] := by
  unfold digN
  rw [Lib.decDigits, dif_neg h, List.map_append, List.map_cons, List.map_nil, UInt8.toNat_ofNat_of_lt' (by show 48 + u % 10 < 256; omega)]
  push_cast; rfl
theorem nD_le (k : Nat) : ∀ u, u < 10 ^ (k + 1) → Lib.nDigits u ≤ k + 1 := by
  induction k with
  | zero => intro u h; rw [Lib.nDigits_small (by omega)]; omega
  | succ k ih =>
    intro u h
    by_cases hu : u < 10
    · rw [Lib.nDigits_small hu]; omega
    · rw [Lib.nDigits_big hu]
      have := ih (u / 10) (by rw [Nat.pow_succ] at h; omega)
      omega
theorem nD_20 (u : Nat) (h : u < 18446744073709551616) : Lib.nDigits u ≤ 20 := nD_le 19 u (by omega)
theorem nD_1 (u : Nat) : 1 ≤ Lib.nDigits u := by
  by_cases h : u < 10
  · rw [Lib.nDigits_small h]; omega
  · rw [Lib.nDigits_big h]; omega
theorem digN_len (u : Nat) : (digN u).length = Lib.nDigits u := by unfold digN; rw [List.length_map, Lib.decDigits_length]
theorem digN_str (u : Nat) : strOfNums (digN u) = ⟨(Lib.decDigits u).toArray⟩ := by
  unfold digN strOfNums
  rw [List.map_map]
  congr 2
  rw [show ((fun z : Int => UInt8.ofNat z.toNat) ∘ fun b : UInt8 => (b.toNat : Int)) = id from funext fun b => by simp]
  exact List.map_id _
theorem itoa_len (n : Int) (h0 : -9223372036854775808 ≤ n) (h1 : n ≤ 9223372036854775807) : (dec n).size ≤ 21 := by
  show (Lib.itoa n).toArray.size ≤ 21
  rw [List.size_toArray]
  by_cases hneg : n < 0
  · obtain ⟨u, rfl⟩ : ∃ u : Nat, n = -(u : Int) := ⟨n.natAbs, by omega⟩
    rw [Lib.itoa_neg u (by omega), List.length_cons, Lib.decDigits_length]
    have := nD_20 u (by omega)
    omega
  · obtain ⟨u, rfl⟩ : ∃ u : Nat, n = u := ⟨n.toNat, by omega⟩
    rw [Lib.itoa_nonneg, Lib.decDigits_length]
    have := nD_20 u (by omega)
    omega
theorem l01Dec_loop (n : Int) (u : Nat) : ∀ (k : Int) (out : List Int), k.natAbs = u → u ≠ 0 → -9223372036854775808 ≤ k → k ≤ 9223372036854775807 → out.length + Lib.nDigits u ≤ 1000 → spec_l01Dec.L0 n out k = spec_l01Dec.L0 n (digN u ++ out) 0 := by
  induction u using Nat.strongRecOn with
  | _ u ih =>
    intro k out hk hu h0 h1 hl
    have hd := nD_1 u
    have hm : (Int.tmod k 10).natAbs = u % 10 := by rw [Int.natAbs_tmod, hk]; rfl
    have hq : (Int.tdiv k 10).natAbs = u / 10 := by rw [Int.natAbs_tdiv, hk]; rfl
    have hstep : spec_l01Dec.L0 n out k = spec_l01Dec.L0 n ([48 + ((u % 10 : Nat) : Int)] ++ out) (Int.tdiv k 10) := by
      rw [spec_l01Dec.L0_eq, if_neg (by omega)]
      simp only [Option.bind_some]
      rw [w64 (n := Int.tdiv k 10) (by omega) (by omega)]
      by_cases h : Int.tmod k 10 < 0
      · rw [if_pos h, w64 (n := -(Int.tmod k 10)) (by omega) (by omega), w64 (by omega) (by omega), show (48 + -(Int.tmod k 10)) % 256 = 48 + ((u % 10 : Nat) : Int) by omega, if_pos (by simp only [List.length_singleton]; omega)]
      · rw [if_neg h, w64 (n := 48 + Int.tmod k 10) (by omega) (by omega), show (48 + (Int.tmod k 10)) % 256 = 48 + ((u % 10 : Nat) : Int) by omega, if_pos (by simp only [List.length_singleton]; omega)]
    rw [hstep]
    by_cases h : u < 10
    · rw [digN_small h, show Int.tdiv k 10 = 0 by omega, show u % 10 = u by omega]
    · rw [Lib.nDigits_big h] at hl
      rw [ih (u / 10) (by omega) (Int.tdiv k 10) _ hq (by omega) (by omega) (by omega) (by rw [List.length_append, List.length_singleton]; omega), digN_big h, List.append_assoc]
theorem spec_l01Dec_val (n : Int) (h0 : -9223372036854775808 ≤ n) (h1 : n ≤ 9223372036854775807) : spec_l01Dec.F n = some (dec n) := by
  rw [spec_l01Dec.F_eq]
  by_cases hz : n = 0
  · subst hz
    rw [spec_l01Dec.L0_eq, if_pos rfl, if_pos (by simp)]
    unfold dec
    rw [show (0 : Int) = ((0 : Nat) : Int) from rfl, Lib.itoa_nonneg, Lib.decDigits_one (by omega)]
    rfl
  · have hl := nD_20 n.natAbs (by omega)
    have hd := nD_1 n.natAbs
    have hz2 := digN_len n.natAbs
    have hsz : (strOfNums (digN n.natAbs)).size = Lib.nDigits n.natAbs := by rw [digN_str]; show (Lib.decDigits _).toArray.size = _; rw [List.size_toArray, Lib.decDigits_length]
    rw [l01Dec_loop n n.natAbs n [] rfl (by omega) h0 h1 (by simp only [List.length_nil]; omega), List.append_nil, spec_l01Dec.L0_eq, if_pos rfl, if_neg (by omega)]
    unfold dec
    by_cases hneg : n < 0
    · rw [if_pos hneg, if_pos (by rw [hsz]; omega), digN_str]
      have e : Lib.itoa n = 45 :: Lib.decDigits n.natAbs := by unfold Lib.itoa; rw [if_pos hneg]
      rw [e]
      congr 1
    · have e : Lib.itoa n = Lib.decDigits n.natAbs := by unfold Lib.itoa; rw [if_neg hneg, show n.toNat = n.natAbs by omega]
      rw [if_neg hneg, digN_str, e]
theorem impl_Decimal_val (n : Int) (h0 : -9223372036854775808 ≤ n) (h1 : n ≤ 9223372036854775807) : impl_Decimal.f n = some (dec n) := by
  unfold impl_Decimal.f strconv_FormatInt.f
  rw [if_pos ⟨rfl, h0, h1⟩]
  rfl
/-- Words with blanks between them. -/
def txt (W : Nat → ByteArray) : Nat → ByteArray
  | 0 => ⟨#[]⟩
  | i + 1 => (if 0 < i then txt W i ++ (⟨#[32]⟩ : ByteArray) else txt W i) ++ W i
theorem txt_join (W : Nat → ByteArray) (n : Nat) : Lib.join (((List.range n).map W).map (·.data.toList)) [32] = (txt W n).data.toList := by
  induction n with
  | zero => rfl
  | succ n ih =>
    rw [List.range_succ, List.map_append, List.map_append, List.map_cons, List.map_nil, List.map_cons, List.map_nil]
    cases n with
    | zero =>
      rw [show (List.map (fun x : ByteArray => x.data.toList) (List.map W (List.range 0))) = [] from rfl, List.nil_append, Lib.join_one]
      show _ = ((if 0 < 0 then _ else txt W 0) ++ W 0).data.toList
      rw [if_neg (by omega)]
      simp [txt]
    | succ n =>
      cases hL : List.map (fun x : ByteArray => x.data.toList) (List.map W (List.range (n + 1))) with
      | nil => have := congrArg List.length hL; simp at this
      | cons a t =>
        rw [hL, Lib.join_cons] at ih
        rw [List.cons_append, Lib.join_cons]
        show _ = ((if 0 < n + 1 then txt W (n + 1) ++ (⟨#[32]⟩ : ByteArray) else txt W (n + 1)) ++ W (n + 1)).data.toList
        rw [if_pos (by omega)]
        unfold Lib.joinTail at *
        rw [List.map_append, List.flatten_append, ← List.append_assoc, ih]
        simp
theorem txt_size (W : Nat → ByteArray) (n : Nat) (h : ∀ i, i < n → (W i).size ≤ 100) : (txt W n).size ≤ n * 101 := by
  induction n with
  | zero => show (⟨#[]⟩ : ByteArray).size ≤ _; exact Nat.zero_le _
  | succ n ih =>
    have h1 := ih (fun i hi => h i (by omega))
    have h2 := h n (by omega)
    show ((if 0 < n then txt W n ++ (⟨#[32]⟩ : ByteArray) else txt W n) ++ W n).size ≤ _
    rw [ByteArray.size_append]
    split
    · rw [ByteArray.size_append, show (⟨#[32]⟩ : ByteArray).size = 1 from rfl]; omega
    · omega
theorem join_val (W : Nat → ByteArray) (n : Nat) (hn : n ≤ 1000) (h : ∀ i, i < n → (W i).size ≤ 100) : strings_Join.f ((List.range n).map W) (⟨#[32]⟩ : ByteArray) = some (txt W n) := by
  have hs := txt_size W n h
  have e : Lib.join (((List.range n).map W).map (·.data.toList)) ((⟨#[32]⟩ : ByteArray).data.toList) = (txt W n).data.toList := txt_join W n
  have hl : (txt W n).data.toList.length = (txt W n).size := by rw [Array.length_toList]; rfl
  unfold strings_Join.f
  rw [e, if_pos ⟨by rw [List.length_map, List.length_range]; omega, by rw [hl]; omega⟩]
/-- Two numbers with a sign between them. -/
def pairT (s : UInt8) (a b : Int) : ByteArray := (dec a ++ (⟨#[s]⟩ : ByteArray)) ++ dec b
theorem pairT_size (s : UInt8) {a b : Int} (ha : 0 ≤ a ∧ a ≤ 100000) (hb : 0 ≤ b ∧ b ≤ 100000) : (dec a).size ≤ 21 ∧ (dec b).size ≤ 21 ∧ (pairT s a b).size ≤ 43 := by
  have h1 := itoa_len a (by omega) (by omega)
  have h2 := itoa_len b (by omega) (by omega)
  refine ⟨h1, h2, ?_⟩
  unfold pairT
  rw [ByteArray.size_append, ByteArray.size_append, show (⟨#[s]⟩ : ByteArray).size = 1 from rfl]
  omega
theorem impl_twiceSail_val (l : List S89) (hn : 0 < l.length) (hl : l.length < 4611686018427387904) : impl_twiceSail.F l = some (twZ l l.length) := by
  rw [impl_twiceSail.F_eq]
  have := iterF (fun s i => impl_twiceSail.L0 l s l (l.length : Int) i) l.length (twZ l) (fun i hi => by
    show impl_twiceSail.L0 l _ _ _ _ = impl_twiceSail.L0 l _ _ _ _
    have hm := Nat.mod_lt (i + 1) hn
    rw [impl_twiceSail.L0_eq, if_pos (by omega), if_pos (by omega), if_pos (by omega), if_neg (by omega), tmodN i l.length (by omega), if_pos (by omega), if_pos (by omega), wS (by omega)]
    rfl)
  refine Eq.trans this ?_
  show impl_twiceSail.L0 l _ _ _ _ = _
  rw [impl_twiceSail.L0_eq, if_neg (by omega)]
theorem crossZ_bd {a b c d e f : Int} (ha : R2 a) (hb : R2 b) (hc : R2 c) (hd : R2 d) (he : R2 e) (hf : R2 f) : -8000000 ≤ crossZ a b c d e f ∧ crossZ a b c d e f ≤ 8000000 := by
  unfold crossZ R2 at *
  have h1 := mul_bd (c - a) (f - b) 2000 2000 (by omega) (by omega) (by omega) (by omega)
  have h2 := mul_bd (d - b) (e - a) 2000 2000 (by omega) (by omega) (by omega) (by omega)
  omega
theorem impl_turnAt_val {a b c d e f : Int} (ha : R2 a) (hb : R2 b) (hc : R2 c) (hd : R2 d) (he : R2 e) (hf : R2 f) : impl_turnAt.f a b c d e f = some (crossZ a b c d e f) := by
  unfold impl_turnAt.f
  rw [hc.ww ha hf hd hd hb he hc]
  unfold crossZ
  congr 1
  grind
theorem mn_min (a b : Int) : mn a b = min a b := by unfold mn; rw [Int.min_def]; split <;> split <;> omega
theorem mx_max (a b : Int) : mx a b = max a b := by unfold mx; rw [Int.max_def]; split <;> split <;> omega
theorem impl_within_val (n a b : Int) : impl_within.f n a b = some (inB n a b) := by
  unfold impl_within.f inB
  by_cases h : n ≥ a
  · rw [if_pos h]; simp [show a ≤ n from h]
  · rw [if_neg h]; simp; omega
theorem impl_sign_val (x : Int) : impl_sign.f x = some x.sign := by
  unfold impl_sign.f
  by_cases h : x > 0
  · rw [if_pos h, Int.sign_eq_one_of_pos h]
  · by_cases h2 : x < 0
    · rw [if_neg h, if_pos h2, Int.sign_eq_neg_one_of_neg h2]
    · rw [if_neg h, if_neg h2, show x = 0 by omega]; rfl
theorem sign_cross (x y : Int) : decide (wrap64 (x.sign * y.sign) < 0) = ((decide (x < 0) && decide (y > 0)) || (decide (x > 0) && decide (y < 0))) := by
  rcases Int.lt_trichotomy x 0 with hx | hx | hx <;> rcases Int.lt_trichotomy y 0 with hy | hy | hy <;>
    simp only [hx, hy, Int.sign_eq_neg_one_of_neg, Int.sign_eq_one_of_pos, Int.sign_zero] <;> (have := hx; have := hy; simp [wrap64]; try omega)
theorem impl_between_val (a b c d e f : Int) : impl_between.f a b c d e f = some (betB a b c d e f) := by
  unfold impl_between.f betB
  simp only [impl_within_val, mn_min, mx_max, Option.bind_some]
  cases inB e (min a c) (max a c) <;> simp
theorem impl_edgesMeet_val {a b c d e f g h : Int} (ha : R2 a) (hb : R2 b) (hc : R2 c) (hd : R2 d) (he : R2 e) (hf : R2 f) (hg : R2 g) (hh : R2 h) : impl_edgesMeet.F a b c d e f g h = some (meetB a b c d e f g h) := by
  rw [impl_edgesMeet.F_eq]
  simp only [impl_turnAt_val ha hb hc hd he hf, impl_turnAt_val ha hb hc hd hg hh, impl_turnAt_val he hf hg hh ha hb, impl_turnAt_val he hf hg hh hc hd, Option.bind_some, impl_sign_val, impl_edgesMeet.J0_eq, impl_between_val]
  have s1 := sign_cross (crossZ a b c d e f) (crossZ a b c d g h)
  have s2 := sign_cross (crossZ e f g h a b) (crossZ e f g h c d)
  rw [s2]
  unfold meetB onB sidesB
  rw [← s2, ← s1]
  generalize crossZ a b c d e f = x1 at *
  generalize crossZ a b c d g h = x2 at *
  generalize crossZ e f g h a b = x3 at *
  generalize crossZ e f g h c d = x4 at *
  generalize betB a b c d e f = b1
  generalize betB a b c d g h = b2
  generalize betB e f g h a b = b3
  generalize betB e f g h c d = b4
  by_cases hs : wrap64 (x1.sign * x2.sign) < 0
  · rw [if_pos hs]
    by_cases hs2 : wrap64 (x3.sign * x4.sign) < 0
    · simp [hs, hs2]
    · simp only [hs2, decide_false, nf, if_false]
      by_cases h1 : x1 = 0 <;> by_cases h2 : x2 = 0 <;> by_cases h3 : x3 = 0 <;> by_cases h4 : x4 = 0 <;> cases b1 <;> cases b2 <;> cases b3 <;> cases b4 <;> simp [h1, h2, h3, h4]
  · rw [if_neg hs]
    simp only [hs, decide_false, nf, if_false]
    by_cases h1 : x1 = 0 <;> by_cases h2 : x2 = 0 <;> by_cases h3 : x3 = 0 <;> by_cases h4 : x4 = 0 <;> cases b1 <;> cases b2 <;> cases b3 <;> cases b4 <;> simp [h1, h2, h3, h4]
/-- A loop that ends with one answer at the first element that isn't as it should be, with another one behind the last. -/
theorem allTo {α β : Type} (l : List α) (p : α → Bool) (g : Int → β) (no r : β) (h : ∀ i (hi : i < l.length), g (i : Int) = if p l[i] = true then g ((i + 1 : Nat) : Int) else no) (he : g (l.length : Int) = r) : g 0 = if l.all p = true then r else no := by
  have key : ∀ (d i : Nat), l.length - i = d → i ≤ l.length → g (i : Int) = if (l.drop i).all p = true then r else no := by
    intro d
    induction d with
    | zero =>
      intro i hd hi
      obtain rfl : i = l.length := by omega
      rw [he]; simp
    | succ d ih =>
      intro i hd hi
      have hlt : i < l.length := by omega
      rw [h i hlt, ih (i + 1) (by omega) (by omega), List.drop_eq_getElem_cons hlt, List.all_cons]
      by_cases hp : p l[i] = true
      · rw [if_pos hp, hp, Bool.true_and]
      · rw [if_neg hp, if_neg (by simp [hp])]
  have := key l.length 0 (by omega) (by omega)
  simpa using this
theorem impl_ValidSail_val (l : List S89) (hl : l.length < 2305843009213693952) : impl_ValidSail.F l = some (sailB l) := by
  rw [impl_ValidSail.F_eq]
  simp only [impl_ValidSail.J0_eq]
  by_cases hc : 3 ≤ l.length ∧ l.length ≤ 8
  · obtain ⟨h3, h8⟩ := hc
    rw [if_neg (by omega), if_neg (by simp; omega)]
    unfold sailB
    rw [show (decide (3 ≤ l.length) && decide (l.length ≤ 8)) = true by simp [h3, h8], Bool.true_and]
    have e0 := allTo l spotIn (fun i => impl_ValidSail.L0 l (l.length : Int) l (l.length : Int) i) (some false) _ (fun i hi => by
      show impl_ValidSail.L0 l _ _ _ _ = if _ then impl_ValidSail.L0 l _ _ _ _ else _
      rw [impl_ValidSail.L0_eq, if_pos (by omega), if_pos (by omega), if_pos (by omega), rdISpot l i hi, wS (by omega)]
      simp only [impl_within_val, Option.bind_some]
      unfold spotIn
      rw [ite_band]) (by
      show impl_ValidSail.L0 l _ _ _ _ = _
      rw [impl_ValidSail.L0_eq, if_neg (by omega)])
    refine e0.trans ?_
    by_cases ha : l.all spotIn = true
    · rw [if_pos ha, ha, Bool.true_and]
      have hR := spots_R l ha
      have hM : ∀ i, i % l.length < l.length := fun i => Nat.mod_lt i (by omega)
      have e1 := allTo (List.range l.length) (fun i => decide (crossAt l i ((i + 1) % l.length) ((i + 2) % l.length) ≠ 0)) (fun i => impl_ValidSail.L1 l (l.length : Int) (l.length : Int) i) (some false) (impl_ValidSail.L2 l (l.length : Int) (l.length : Int) 0) (fun i hi => by
        rw [List.length_range] at hi
        rw [List.getElem_range]
        show impl_ValidSail.L1 l _ _ _ = if _ then impl_ValidSail.L1 l _ _ _ else _
        have hm1 := hM (i + 1)
        have hm2 := hM (i + 2)
        rw [impl_ValidSail.L1_eq, if_pos (by omega), if_pos (by omega), if_pos (by omega), if_neg (by omega), tmodN i l.length (by omega), tmodN2 i l.length (by omega), if_pos (by omega), if_pos (by omega), if_pos (by omega), if_pos (by omega)]
        simp only [sx_def, sy_def]
        rw [impl_turnAt_val (hR i hi).1 (hR i hi).2 (hR _ hm1).1 (hR _ hm1).2 (hR _ hm2).1 (hR _ hm2).2, wS (by omega)]
        simp only [Option.bind_some]
        show (if crossAt l i _ _ = 0 then _ else _) = _
        by_cases hcr : crossAt l i ((i + 1) % l.length) ((i + 2) % l.length) = 0
        · rw [if_pos hcr, if_neg (by simp [hcr])]
        · rw [if_neg hcr, if_pos (by simp [hcr])]) (by
        rw [List.length_range]
        show impl_ValidSail.L1 l _ _ _ = _
        rw [impl_ValidSail.L1_eq, if_neg (by omega)])
      refine e1.trans ?_
      have e2 : impl_ValidSail.L2 l (l.length : Int) (l.length : Int) 0 = some ((List.range l.length).all (pairsOk l) && decide (twZ l l.length > 0)) := by
        refine allRange l.length _ (fun i => impl_ValidSail.L2 l (l.length : Int) (l.length : Int) i) _ (fun i hi => ?_) ?_
        · show impl_ValidSail.L2 l _ _ _ = if _ then impl_ValidSail.L2 l _ _ _ else _
          have hm1 := hM (i + 1)
          rw [impl_ValidSail.L2_eq, if_pos (by omega), w64 (n := (i : Int) + 2) (by omega) (by omega), show ((i : Int) + 2) = ((i + 2 : Nat) : Int) by omega]
          refine stepLoop (i + 2) l.length _ (fun k => impl_ValidSail.L3 l (l.length : Int) i k _ _) _ _ (fun k hk1 hk => ?_) (fun k hk => ?_)
          · show impl_ValidSail.L3 l _ _ _ _ _ = if _ then impl_ValidSail.L3 l _ _ _ _ _ else _
            have hk3 := hM (k + 1)
            have hi1 : (i + 1) % l.length = i + 1 := Nat.mod_eq_of_lt (by omega)
            rw [hi1] at hm1
            rw [impl_ValidSail.L3_eq, if_pos (by omega), if_neg (by omega), tmodN k l.length (by omega), wS (i := k) (by omega), wS (i := i) (by omega), if_pos (show (0 : Int) ≤ (i : Int) by omega), if_pos (show (i : Int) < (l.length : Int) by omega), if_pos (show (0 : Int) ≤ ((i + 1 : Nat) : Int) by omega), if_pos (show ((i + 1 : Nat) : Int) < (l.length : Int) by omega), if_pos (show (0 : Int) ≤ (k : Int) by omega), if_pos (show (k : Int) < (l.length : Int) by omega), if_pos (show (0 : Int) ≤ (((k + 1) % l.length : Nat) : Int) by omega), if_pos (show (((k + 1) % l.length : Nat) : Int) < (l.length : Int) by omega)]
            simp only [sx_def, sy_def, impl_edgesMeet_val (hR i hi).1 (hR i hi).2 (hR _ hm1).1 (hR _ hm1).2 (hR k hk).1 (hR k hk).2 (hR _ hk3).1 (hR _ hk3).2, Option.bind_some]
            rw [hi1]
            rw [show meetB (sx l i) (sy l i) (sx l (i + 1)) (sy l (i + 1)) (sx l k) (sy l k) (sx l ((k + 1) % l.length)) (sy l ((k + 1) % l.length)) = meetAt l i (i + 1) k ((k + 1) % l.length) from rfl]
            have hcase : ((((k + 1) % l.length : Nat) : Int) = (i : Int)) ↔ ¬ (i > 0 ∨ k < l.length - 1) := by
              by_cases hlast : k + 1 = l.length
              · rw [hlast, Nat.mod_self]; omega
              · rw [Nat.mod_eq_of_lt (by omega)]; omega
            by_cases hq : i > 0 ∨ k < l.length - 1
            · rw [if_neg (by rw [hcase]; exact fun h => h hq)]
              have : (decide (i > 0) || decide (k < l.length - 1)) = true := by simpa using hq
              rw [this]
              cases meetAt l i (i + 1) k ((k + 1) % l.length) <;> simp
            · rw [if_pos (hcase.2 hq)]
              have : (decide (i > 0) || decide (k < l.length - 1)) = false := by rw [← Bool.not_eq_true]; simpa using hq
              rw [this]; simp
          · show impl_ValidSail.L3 l _ _ _ _ _ = _
            rw [impl_ValidSail.L3_eq, if_neg (by omega), wS (by omega)]
        · show impl_ValidSail.L2 l _ _ _ = _
          rw [impl_ValidSail.L2_eq, if_neg (by omega), impl_twiceSail_val l (by omega) (by omega)]
          rfl
      rw [e2]
      generalize decide (twZ l l.length > 0) = t
      by_cases hA : (List.range l.length).all (fun i => decide (crossAt l i ((i + 1) % l.length) ((i + 2) % l.length) ≠ 0)) = true
      · rw [if_pos hA]
        congr 2
        rw [Bool.eq_iff_iff]
        simp only [List.all_eq_true, Bool.and_eq_true] at hA ⊢
        exact ⟨fun h x hx => ⟨hA x hx, h x hx⟩, fun h x hx => (h x hx).2⟩
      · rw [if_neg hA]
        have : (List.range l.length).all (fun i => decide (crossAt l i ((i + 1) % l.length) ((i + 2) % l.length) ≠ 0) && pairsOk l i) = false := by
          rw [← Bool.not_eq_true]
          intro h
          apply hA
          simp only [List.all_eq_true, Bool.and_eq_true] at h ⊢
          exact fun x hx => (h x hx).1
        rw [this]; rfl
    · rw [if_neg ha]; simp [ha]
  · unfold sailB
    have : (decide (3 ≤ l.length) && decide (l.length ≤ 8)) = false := by
      rw [← Bool.not_eq_true]; simp only [Bool.and_eq_true, decide_eq_true_eq]; exact hc
    rw [this, Bool.false_and]
    by_cases h3 : (l.length : Int) < 3
    · rw [if_pos h3]; rfl
    · rw [if_neg h3, if_pos (by simp; omega)]
def spotW (l : List S89) (i : Nat) : ByteArray := pairT 44 (rd_T89 l (i : Int)).f0 (rd_T89 l (i : Int)).f1
theorem spotW_bd {l : List S89} (h : sailB l = true) (i : Nat) (hi : i < l.length) : (0 ≤ (rd_T89 l (i : Int)).f0 ∧ (rd_T89 l (i : Int)).f0 ≤ 100000) ∧ (0 ≤ (rd_T89 l (i : Int)).f1 ∧ (rd_T89 l (i : Int)).f1 ≤ 100000) := by
  have h1 := (spots_R l (sailB_len h).2.2 i hi).1
  have h2 := (spots_R l (sailB_len h).2.2 i hi).2
  unfold sx at h1
  unfold sy at h2
  unfold R2 at *
  omega
def sailT (l : List S89) : ByteArray := txt (spotW l) l.length
theorem spotW_size {l : List S89} (h : sailB l = true) (i : Nat) (hi : i < l.length) : (spotW l i).size ≤ 100 := by
  have hb := spotW_bd h i hi
  have := (pairT_size 44 hb.1 hb.2).2.2
  unfold spotW
  omega
theorem sailT_size {l : List S89} (h : sailB l = true) : (sailT l).size ≤ 808 := by
  have h8 := (sailB_len h).2.1
  have := txt_size (spotW l) l.length (spotW_size h)
  unfold sailT
  omega
theorem spec_l13Text_val (l : List S89) (h : sailB l = true) : spec_l13Text.F l = some (sailT l) := by
  have h8 := (sailB_len h).2.1
  rw [spec_l13Text.F_eq]
  have := iterF (fun (s : ByteArray) i => spec_l13Text.L0 l s i) l.length (txt (spotW l)) (fun i hi => by
    obtain ⟨hb1, hb2⟩ := spotW_bd h i hi
    have hz := pairT_size 44 hb1 hb2
    have hs := txt_size (spotW l) i (fun j hj => spotW_size h j (by omega))
    show spec_l13Text.L0 l (txt (spotW l) i) (i : Int) = spec_l13Text.L0 l ((if 0 < i then txt (spotW l) i ++ (⟨#[32]⟩ : ByteArray) else txt (spotW l) i) ++ spotW l i) ((i + 1 : Nat) : Int)
    rw [spec_l13Text.L0_eq, spec_l01Dec_val _ (by omega) (by omega), spec_l01Dec_val (rd_T89 l (i : Int)).f1 (by omega) (by omega), if_pos (by omega), wS (by omega)]
    simp only [Option.bind_some]
    by_cases h0 : 0 < i
    · rw [if_pos (by omega), if_pos h0, if_pos (by omega), if_pos (by omega), if_pos (by omega), if_pos (by omega), if_pos (by omega)]
      rfl
    · rw [if_neg (by omega), if_neg h0, if_pos (by omega), if_pos (by omega), if_pos (by omega), if_pos (by omega)]
      rfl)
  refine Eq.trans this ?_
  show spec_l13Text.L0 l (txt (spotW l) l.length) (l.length : Int) = _
  rw [spec_l13Text.L0_eq, if_neg (by omega)]
  rfl
theorem impl_SailText_val (l : List S89) (h : sailB l = true) : impl_SailText.F l = some (sailT l) := by
  have h8 := (sailB_len h).2.1
  rw [impl_SailText.F_eq, impl_ValidSail_val l (by omega), h]
  simp only [Option.bind_some, if_true]
  have := iterF (fun (s : List ByteArray) i => impl_SailText.L0 s l (l.length : Int) i) l.length (fun i => (List.range i).map (spotW l)) (fun i hi => by
    obtain ⟨hb1, hb2⟩ := spotW_bd h i hi
    have hz := pairT_size 44 hb1 hb2
    show impl_SailText.L0 ((List.range i).map (spotW l)) l (l.length : Int) (i : Int) = impl_SailText.L0 ((List.range (i + 1)).map (spotW l)) l (l.length : Int) ((i + 1 : Nat) : Int)
    rw [impl_SailText.L0_eq, if_pos (by omega), if_pos (by omega), if_pos (by omega), impl_Decimal_val _ (by omega) (by omega), impl_Decimal_val (rd_T89 l (i : Int)).f1 (by omega) (by omega)]
    simp only [Option.bind_some]
    rw [if_pos (by omega), if_pos (by omega), if_pos (by rw [List.length_map, List.length_range]; omega), wS (by omega), List.range_succ, List.map_append]
    rfl)
  refine Eq.trans this ?_
  show impl_SailText.L0 ((List.range l.length).map (spotW l)) l (l.length : Int) (l.length : Int) = _
  rw [impl_SailText.L0_eq, if_neg (by omega), join_val (spotW l) l.length (by omega) (spotW_size h)]
  rfl
def charB (n : Int) : Bool := inB n 97 122 || (inB n 48 57 || decide (n = 45))
theorem charB_iff (n : Int) : charB n = true ↔ (97 ≤ n ∧ n ≤ 122) ∨ (48 ≤ n ∧ n ≤ 57) ∨ n = 45 := by
  simp only [charB, Bool.or_eq_true, inB_iff, decide_eq_true_eq]
/-- Whether a text is a name. -/
def nameB (s : ByteArray) : Bool := decide (1 ≤ s.size) && (decide (s.size ≤ 12) && (inB (bt s 0) 97 122 && (List.range s.size).all fun i => charB (bt s (i : Int))))
theorem idxF_cases {α : Type} (p : α → Bool) (l : List α) : (∃ k, ∃ hk : k < l.length, p l[k] = true ∧ (∀ j (hj : j < k), p (l[j]'(by omega)) = false) ∧ idxF p l = (k : Int)) ∨ ((∀ j (hj : j < l.length), p l[j] = false) ∧ idxF p l = -1) := by
  cases h : l.findIdx? p with
  | some k =>
    left
    obtain ⟨hk, h1, h2⟩ := List.findIdx?_eq_some_iff_getElem.1 h
    exact ⟨k, hk, h1, fun j hj => by simpa using h2 j hj, by unfold idxF; rw [h]⟩
  | none =>
    right
    rw [List.findIdx?_eq_none_iff] at h
    exact ⟨fun j hj => h _ (List.getElem_mem hj), by unfold idxF; rw [List.findIdx?_eq_none_iff.2 h]⟩
theorem idxF_first {α : Type} (p : α → Bool) (l : List α) (i : Nat) (hi : i < l.length) (hp : p l[i] = true) (ha : ∀ j (hj : j < i), p (l[j]'(by omega)) = false) : idxF p l = (i : Int) := by
  rcases idxF_cases p l with ⟨k, hk, h1, h2, e⟩ | ⟨h1, e⟩
  · by_cases h3 : k < i
    · have := ha k h3
      rw [h1] at this; cases this
    · by_cases h4 : i < k
      · have := h2 i h4
        rw [hp] at this; cases this
      · rw [e]; omega
  · have := h1 i hi
    rw [hp] at this; cases this
theorem idxF_take {α : Type} (p : α → Bool) (l : List α) (i : Nat) (hi : i < l.length) (hp : p l[i] = true) : (idxF p l = (i : Int)) ↔ ¬ (idxF p (l.take i) ≥ 0) := by
  have hlen : (l.take i).length = i := by rw [List.length_take]; omega
  rcases idxF_cases p (l.take i) with ⟨k, hk, h1, h2, e⟩ | ⟨h1, e⟩
  · have hk2 : k < i := by omega
    rw [List.getElem_take] at h1
    constructor
    · intro h
      rcases idxF_cases p l with ⟨k', hk', h3, h4, e'⟩ | ⟨h3, e'⟩
      · have : k' = i := by omega
        subst this
        have := h4 k hk2
        rw [h1] at this
        cases this
      · omega
    · intro h; omega
  · constructor
    · intro _; omega
    · intro _
      exact idxF_first p l i hi hp (fun j hj => by have := h1 j (by omega); rwa [List.getElem_take] at this)
/-- A loop that finds the first. -/
theorem findLoop {α : Type} (l : List α) (p : α → Bool) (g : Int → Option Int) (h : ∀ i (hi : i < l.length), g (i : Int) = if p l[i] = true then some (i : Int) else g ((i + 1 : Nat) : Int)) (he : g (l.length : Int) = some (-1)) : g 0 = some (idxF p l) := by
  have key : ∀ (d i : Nat), l.length - i = d → i ≤ l.length → (∀ j (hj : j < i) (hl : j < l.length), p l[j] = false) → g (i : Int) = some (idxF p l) := by
    intro d
    induction d with
    | zero =>
      intro i hd hi ha
      obtain rfl : i = l.length := by omega
      rcases idxF_cases p l with ⟨k, hk, h1, h2, e⟩ | ⟨h1, e⟩
      · have := ha k hk hk
        rw [h1] at this; cases this
      · rw [he, e]
    | succ d ih =>
      intro i hd hi ha
      have hlt : i < l.length := by omega
      rw [h i hlt]
      by_cases hp : p l[i] = true
      · rw [if_pos hp, idxF_first p l i hlt hp (fun j hj => ha j hj (by omega))]
      · rw [if_neg hp]
        refine ih (i + 1) (by omega) (by omega) (fun j hj hl => ?_)
        by_cases e : j = i
        · subst e; simpa using hp
        · exact ha j (by omega) hl
  exact key l.length 0 (by omega) (by omega) (fun j hj => absurd hj (Nat.not_lt_zero _))
def hungAt (m : List S57) (i : Nat) : Bool := match m[i]? with
  | some x => nameB x.f0 && (sailB x.f1 && decide (¬ idxF (fun y : S57 => decide (y.f0 = x.f0)) (m.take i) ≥ 0))
  | none => true
def planB (m : List S57) (c d : Int) : Bool := (List.range m.length).all (hungAt m) && (decide (m.length ≤ 8) && (inB d 1 5000 && inB c 0 d))
theorem planB_sails {m : List S57} {c d : Int} (h : planB m c d = true) : m.length ≤ 8 ∧ (1 ≤ d ∧ d ≤ 5000) ∧ (0 ≤ c ∧ c ≤ d) ∧ ∀ y ∈ m, sailB y.f1 = true := by
  simp only [planB, Bool.and_eq_true, decide_eq_true_eq, inB_iff, List.all_eq_true, List.mem_range] at h
  refine ⟨h.2.1, h.2.2.1, h.2.2.2, fun y hy => ?_⟩
  obtain ⟨i, hi, rfl⟩ := List.getElem_of_mem hy
  have := h.1 i hi
  simp only [hungAt, List.getElem?_eq_getElem hi, Bool.and_eq_true] at this
  exact this.2.1
theorem hungAt_eq (m : List S57) (i : Nat) (hi : i < m.length) : hungAt m i = (nameB m[i].f0 && (sailB m[i].f1 && decide (¬ idxF (fun y : S57 => decide (y.f0 = m[i].f0)) (m.take i) ≥ 0))) := by
  unfold hungAt
  rw [List.getElem?_eq_getElem hi]
theorem l17Find_L0 (m : List S57) (c d : Int) (s : ByteArray) (i : Int) : spec_l17Find.L0 [⟨m, c, d⟩] s i = if i < (m.length : Int) then (if 0 ≤ i then (if ((rd_T57 m i).f0).toList = s.toList then some i else spec_l17Find.L0 [⟨m, c, d⟩] s (wrap64 (i + 1))) else none) else some (-1) := spec_l17Find.L0_eq [⟨m, c, d⟩] s i
theorem spec_l17Find_val (m : List S57) (c d : Int) (s : ByteArray) (hl : m.length ≤ 1048576) : spec_l17Find.F [⟨m, c, d⟩] s = some (idxF (fun y : S57 => decide (y.f0 = s)) m) := by
  rw [spec_l17Find.F_eq, if_pos (by simp)]
  refine findLoop m _ (fun i => spec_l17Find.L0 [⟨m, c, d⟩] s i) (fun i hi => ?_) ?_
  · show spec_l17Find.L0 _ _ _ = if _ then _ else spec_l17Find.L0 _ _ _
    rw [l17Find_L0, if_pos (by omega), if_pos (by omega), rdIHung m i hi, wS (by omega)]
    have : (m[i].f0.toList = s.toList) ↔ m[i].f0 = s := by
      rw [ByteArray.toList_eq, ByteArray.toList_eq]
      exact ⟨fun h => ByteArray.ext (Array.toList_inj.mp h), fun h => by rw [h]⟩
    by_cases h : m[i].f0 = s
    · rw [if_pos (this.2 h), if_pos (by simpa using h)]
    · rw [if_neg (fun z => h (this.1 z)), if_neg (by simpa using h)]
  · show spec_l17Find.L0 _ _ _ = _
    rw [l17Find_L0, if_neg (by omega)]
theorem toList_nil (s : ByteArray) : s.toList = ([] : List UInt8) ↔ s.size = 0 := by
  rw [ByteArray.toList_eq]
  constructor
  · intro h
    have := congrArg List.length h
    simpa using this
  · intro h
    apply List.eq_nil_of_length_eq_zero
    simpa using h
theorem spec_l01Small_val (n : Int) : spec_l01Small.f n = some (inB n 97 122) := by
  unfold spec_l01Small.f inB
  by_cases h : n ≥ 97
  · rw [if_pos h]; simp [show 97 ≤ n from h]
  · rw [if_neg h]; simp; omega
theorem spec_l01Digit_val (n : Int) : spec_l01Digit.f n = some (inB n 48 57) := by
  unfold spec_l01Digit.f inB
  by_cases h : n ≥ 48
  · rw [if_pos h]; simp [show 48 ≤ n from h]
  · rw [if_neg h]; simp; omega
theorem spec_IsName_val (s : ByteArray) (hs : s.size ≤ 1048576) : spec_IsName.F s = some (nameB s) := by
  rw [spec_IsName.F_eq]
  unfold nameB
  by_cases h0 : s.size = 0
  · rw [if_pos ((toList_nil s).2 h0), spec_IsName.J0_eq, if_pos rfl]
    simp [h0]
  · rw [if_neg (fun h => h0 ((toList_nil s).1 h)), show decide (1 ≤ s.size) = true from decide_eq_true (by omega), Bool.true_and]
    by_cases h1 : (s.size : Int) > 12
    · rw [if_pos h1, spec_IsName.J0_eq, if_pos rfl, show decide (s.size ≤ 12) = false from decide_eq_false (by omega), Bool.false_and]
    · rw [if_neg h1, if_pos (by omega), spec_l01Small_val]
      simp only [Option.bind_some]
      rw [show decide (s.size ≤ 12) = true from decide_eq_true (by omega), Bool.true_and, spec_IsName.J0_eq]
      cases h2 : inB (bt s 0) 97 122
      · simp
      · rw [if_neg (by simp), Bool.true_and, ← Bool.and_true (List.all _ _)]
        refine allRange s.size _ (fun i => spec_IsName.L0 s i) true (fun i hi => ?_) ?_
        · show spec_IsName.L0 s _ = if _ then spec_IsName.L0 s _ else _
          rw [spec_IsName.L0_eq, if_pos (by omega), if_pos (by omega), wS (by omega)]
          simp only [spec_l01Small_val, spec_l01Digit_val, Option.bind_some]
          unfold charB
          cases inB (bt s (i : Int)) 97 122 <;> cases inB (bt s (i : Int)) 48 57 <;> by_cases h3 : bt s (i : Int) = 45 <;> simp [h3]
        · show spec_IsName.L0 s _ = _
          rw [spec_IsName.L0_eq, if_neg (by omega)]
theorem spec_l13Twice_val (l : List S89) (hn : 0 < l.length) (hl : l.length < 4611686018427387904) : spec_l13Twice.F l = some (twZ l l.length) := by
  rw [spec_l13Twice.F_eq]
  have := iterF (fun s i => spec_l13Twice.L0 l s i) l.length (twZ l) (fun i hi => by
    show spec_l13Twice.L0 l _ _ = spec_l13Twice.L0 l _ _
    have hm := Nat.mod_lt (i + 1) hn
    rw [spec_l13Twice.L0_eq, if_pos (by omega), if_neg (by omega), tmodN i l.length (by omega), if_pos (by omega), if_pos (by omega), if_pos (by omega), wS (by omega)]
    rfl)
  refine Eq.trans this ?_
  show spec_l13Twice.L0 l _ _ = _
  rw [spec_l13Twice.L0_eq, if_neg (by omega)]
theorem spec_l13Cross_val {a b c d e f : Int} (ha : R2 a) (hb : R2 b) (hc : R2 c) (hd : R2 d) (he : R2 e) (hf : R2 f) : spec_l13Cross.f a b c d e f = some (crossZ a b c d e f) := by
  unfold spec_l13Cross.f crossZ
  rw [hc.ww ha hf hb hd hb he ha]
theorem spec_l00Min_val (a b : Int) : spec_l00Min.f a b = some (min a b) := by unfold spec_l00Min.f; rw [Int.min_def]; split <;> split <;> first | rfl | (congr 1; omega)
theorem spec_l00Max_val (a b : Int) : spec_l00Max.f a b = some (max a b) := by unfold spec_l00Max.f; rw [Int.max_def]; split <;> split <;> first | rfl | (congr 1; omega)
theorem spec_l00In_val (n a b : Int) : spec_l00In.f n a b = some (inB n a b) := by
  unfold spec_l00In.f inB
  by_cases h : n ≥ a
  · rw [if_pos h]; simp [show a ≤ n from h]
  · rw [if_neg h]; simp; omega
theorem spec_l13On_val {a b c d e f : Int} (ha : R2 a) (hb : R2 b) (hc : R2 c) (hd : R2 d) (he : R2 e) (hf : R2 f) : spec_l13On.f a b c d e f = some (onB a b c d e f) := by
  unfold spec_l13On.f onB betB
  simp only [spec_l13Cross_val ha hb hc hd he hf, Option.bind_some, spec_l00Min_val, spec_l00Max_val, spec_l00In_val]
  by_cases h : crossZ a b c d e f = 0
  · rw [if_pos h]
    cases inB e (min a c) (max a c) <;> simp [h]
  · rw [if_neg h]; simp [h]
theorem spec_l13Sides_val {a b c d e f g h : Int} (ha : R2 a) (hb : R2 b) (hc : R2 c) (hd : R2 d) (he : R2 e) (hf : R2 f) (hg : R2 g) (hh : R2 h) : spec_l13Sides.f a b c d e f g h = some (sidesB a b c d e f g h) := by
  unfold spec_l13Sides.f sidesB
  simp only [spec_l13Cross_val ha hb hc hd he hf, spec_l13Cross_val ha hb hc hd hg hh, Option.bind_some]
  generalize crossZ a b c d e f = x
  generalize crossZ a b c d g h = y
  by_cases h1 : x < 0 <;> by_cases h2 : y > 0 <;> by_cases h3 : x > 0 <;> simp [h1, h2, h3] <;> omega
theorem spec_l13Meet_val {a b c d e f g h : Int} (ha : R2 a) (hb : R2 b) (hc : R2 c) (hd : R2 d) (he : R2 e) (hf : R2 f) (hg : R2 g) (hh : R2 h) : spec_l13Meet.F a b c d e f g h = some (meetB a b c d e f g h) := by
  rw [spec_l13Meet.F_eq]
  simp only [spec_l13On_val ha hb hc hd he hf, spec_l13On_val ha hb hc hd hg hh, spec_l13On_val he hf hg hh ha hb, spec_l13On_val he hf hg hh hc hd, Option.bind_some, spec_l13Meet.J0_eq, spec_l13Sides_val ha hb hc hd he hf hg hh, spec_l13Sides_val he hf hg hh ha hb hc hd]
  unfold meetB
  cases onB a b c d e f <;> cases onB a b c d g h <;> cases onB e f g h a b <;> cases onB e f g h c d <;> cases sidesB a b c d e f g h <;> simp
theorem spec_l13Ok_val (l : List S89) (hl : l.length < 2305843009213693952) : spec_l13Ok.F l = some (sailB l) := by
  rw [spec_l13Ok.F_eq, spec_l00In_val]
  simp only [Option.bind_some]
  by_cases hc : 3 ≤ l.length ∧ l.length ≤ 8
  · obtain ⟨h3, h8⟩ := hc
    rw [if_pos ((inB_iff _ _ _).2 (by omega))]
    unfold sailB
    rw [show (decide (3 ≤ l.length) && decide (l.length ≤ 8)) = true by simp [h3, h8], Bool.true_and]
    have e0 := allTo l spotIn (fun i => spec_l13Ok.L0 l (l.length : Int) i) (some false) _ (fun i hi => by
      show spec_l13Ok.L0 l _ _ = if _ then spec_l13Ok.L0 l _ _ else _
      rw [spec_l13Ok.L0_eq, if_pos (by omega), if_pos (by omega), if_pos (by omega), rdISpot l i hi, wS (by omega)]
      simp only [spec_l00In_val, Option.bind_some]
      unfold spotIn
      rw [ite_band]) (by
      show spec_l13Ok.L0 l _ _ = _
      rw [spec_l13Ok.L0_eq, if_neg (by omega)])
    refine e0.trans ?_
    by_cases ha : l.all spotIn = true
    · rw [if_pos ha, ha, Bool.true_and]
      have hR := spots_R l ha
      have hM : ∀ i, i % l.length < l.length := fun i => Nat.mod_lt i (by omega)
      refine allRange l.length _ (fun i => spec_l13Ok.L1 l (l.length : Int) i) _ (fun i hi => ?_) ?_
      · show spec_l13Ok.L1 l _ _ = if _ then spec_l13Ok.L1 l _ _ else _
        have hm1 := hM (i + 1)
        have hm2 := hM (i + 2)
        rw [spec_l13Ok.L1_eq, if_pos (by omega), if_pos (by omega), if_pos (by omega), if_neg (by omega), tmodN i l.length (by omega), tmodN2 i l.length (by omega), if_pos (by omega), if_pos (by omega), if_pos (by omega), if_pos (by omega)]
        simp only [sx_def, sy_def]
        rw [spec_l13Cross_val (hR i hi).1 (hR i hi).2 (hR _ hm1).1 (hR _ hm1).2 (hR _ hm2).1 (hR _ hm2).2]
        simp only [Option.bind_some]
        rw [ite_band]
        show (if crossAt l i _ _ = 0 then _ else _) = _
        by_cases hcr : crossAt l i ((i + 1) % l.length) ((i + 2) % l.length) = 0
        · rw [if_pos hcr, if_neg (by simp [hcr])]
        · rw [if_neg hcr, if_pos (by simp [hcr]), w64 (by omega) (by omega), show ((i : Int) + 2) = ((i + 2 : Nat) : Int) by omega]
          refine stepLoop (i + 2) l.length _ (fun k => spec_l13Ok.L2 l (l.length : Int) i k _ _ _ _) _ _ (fun k hk1 hk => ?_) (fun k hk => ?_)
          · show spec_l13Ok.L2 l _ _ _ _ _ _ _ = if _ then spec_l13Ok.L2 l _ _ _ _ _ _ _ else _
            have hk3 := hM (k + 1)
            rw [spec_l13Ok.L2_eq, if_pos (by omega), tmodN k l.length (by omega), w64 (n := (l.length : Int) - 1) (by omega) (by omega), wS (i := k) (by omega)]
            simp only [sx_def, sy_def, spec_l13Meet_val (hR i hi).1 (hR i hi).2 (hR _ hm1).1 (hR _ hm1).2 (hR k hk).1 (hR k hk).2 (hR _ hk3).1 (hR _ hk3).2, Option.bind_some]
            rw [show meetB (sx l i) (sy l i) (sx l ((i + 1) % l.length)) (sy l ((i + 1) % l.length)) (sx l k) (sy l k) (sx l ((k + 1) % l.length)) (sy l ((k + 1) % l.length)) = meetAt l i ((i + 1) % l.length) k ((k + 1) % l.length) from rfl]
            have c1 : ((i : Int) > 0) ↔ i > 0 := by omega
            have c2 : ((k : Int) < (l.length : Int) - 1) ↔ k < l.length - 1 := by omega
            rw [if_pos (show (0 : Int) ≤ (k : Int) by omega), if_pos (show (k : Int) < (l.length : Int) by omega), if_neg (show ¬ (l.length : Int) = 0 by omega), if_pos (show (0 : Int) ≤ (((k + 1) % l.length : Nat) : Int) by omega), if_pos (show (((k + 1) % l.length : Nat) : Int) < (l.length : Int) by omega)]
            simp only [c1, c2]
            cases meetAt l i ((i + 1) % l.length) k ((k + 1) % l.length) <;> by_cases h1 : i > 0 <;> by_cases h2 : k < l.length - 1 <;> simp [h1, h2]
          · show spec_l13Ok.L2 l _ _ _ _ _ _ _ = _
            rw [spec_l13Ok.L2_eq, if_neg (by omega), wS (by omega)]
      · show spec_l13Ok.L1 l _ _ = _
        rw [spec_l13Ok.L1_eq, if_neg (by omega), spec_l13Twice_val l (by omega) (by omega)]
        rfl
    · rw [if_neg ha]; simp [ha]
  · rw [if_neg (by rw [inB_iff]; omega)]
    unfold sailB
    have : (decide (3 ≤ l.length) && decide (l.length ≤ 8)) = false := by
      rw [← Bool.not_eq_true]; simp only [Bool.and_eq_true, decide_eq_true_eq]; exact hc
    rw [this, Bool.false_and]
theorem l17Ok_L0 (m : List S57) (c d : Int) (i : Int) : spec_l17Ok.L0 [⟨m, c, d⟩] i = if i < (m.length : Int) then (if 0 ≤ i then ((spec_IsName.F ((rd_T57 m i).f0)).bind fun t => (if t = true then ((spec_l17Find.F [⟨m, c, d⟩] ((rd_T57 m i).f0)).bind fun u => (if u = i then ((spec_l13Ok.F ((rd_T57 m i).f1)).bind fun v => (if v = true then (spec_l17Ok.L0 [⟨m, c, d⟩] (wrap64 (i + 1))) else (some false))) else (some false))) else (some false))) else none) else (if (m.length : Int) ≤ 8 then ((spec_l00In.f d 1 5000).bind fun t => (if t = true then ((spec_l00In.f c 0 d).bind fun u => (some u)) else (some false))) else (some false)) := spec_l17Ok.L0_eq [⟨m, c, d⟩] i
theorem spec_l17Ok_val (m : List S57) (c d : Int) (hl : m.length ≤ 1048576) (hy : ∀ y ∈ m, y.f0.size ≤ 1048576 ∧ y.f1.length ≤ 1048576) : spec_l17Ok.F [⟨m, c, d⟩] = some (planB m c d) := by
  rw [spec_l17Ok.F_eq, if_pos (by simp)]
  unfold planB
  refine allRange m.length _ (fun i => spec_l17Ok.L0 [⟨m, c, d⟩] i) _ (fun i hi => ?_) ?_
  · show spec_l17Ok.L0 _ _ = if _ then spec_l17Ok.L0 _ _ else _
    have h1 := hy m[i] (List.getElem_mem hi)
    rw [l17Ok_L0, if_pos (by omega), if_pos (by omega), rdIHung m i hi, wS (by omega), spec_IsName_val _ h1.1, spec_l17Find_val m c d _ hl, spec_l13Ok_val _ (by omega), hungAt_eq m i hi]
    simp only [Option.bind_some]
    have h2 := idxF_take (fun y : S57 => decide (y.f0 = m[i].f0)) m i hi (by simp)
    cases nameB m[i].f0
    · simp
    · by_cases h3 : idxF (fun y : S57 => decide (y.f0 = m[i].f0)) m = (i : Int)
      · rw [if_pos rfl, if_pos h3, show decide (¬ idxF (fun y : S57 => decide (y.f0 = m[i].f0)) (m.take i) ≥ 0) = true from decide_eq_true (h2.1 h3)]
        simp
      · rw [if_pos rfl, if_neg h3, show decide (¬ idxF (fun y : S57 => decide (y.f0 = m[i].f0)) (m.take i) ≥ 0) = false from decide_eq_false (fun z => h3 (h2.2 z))]
        simp
  · show spec_l17Ok.L0 _ _ = _
    rw [l17Ok_L0, if_neg (by omega), spec_l00In_val, spec_l00In_val]
    simp only [Option.bind_some]
    by_cases h : (m.length : Int) ≤ 8
    · rw [if_pos h, show decide (m.length ≤ 8) = true from decide_eq_true (by omega)]
      cases inB d 1 5000 <;> simp
    · rw [if_neg h, show decide (m.length ≤ 8) = false from decide_eq_false (by omega)]; rfl
theorem impl_IsName_val (s : ByteArray) (hs : s.size ≤ 1048576) : impl_IsName.F s = some (nameB s) := by
  rw [impl_IsName.F_eq]
  unfold nameB
  by_cases h0 : (s.size : Int) < 1
  · rw [if_pos h0, impl_IsName.J0_eq, if_pos rfl, show decide (1 ≤ s.size) = false from decide_eq_false (by omega), Bool.false_and]
  · rw [if_neg h0, show decide (1 ≤ s.size) = true from decide_eq_true (by omega), Bool.true_and]
    by_cases h1 : (s.size : Int) > 12
    · rw [if_pos h1, impl_IsName.J0_eq, if_pos rfl, show decide (s.size ≤ 12) = false from decide_eq_false (by omega), Bool.false_and]
    · rw [if_neg h1, if_pos (by omega), show decide (s.size ≤ 12) = true from decide_eq_true (by omega), Bool.true_and]
      have hl : impl_IsName.L0 s 0 = some ((List.range s.size).all (fun i => charB (bt s (i : Int))) && true) := by
        refine allRange s.size _ (fun i => impl_IsName.L0 s i) true (fun i hi => ?_) ?_
        · show impl_IsName.L0 s _ = if _ then impl_IsName.L0 s _ else _
          rw [impl_IsName.L0_eq, if_pos (by omega), if_pos (by omega), wS (by omega)]
          generalize bt s (i : Int) = n
          have hc := charB_iff n
          by_cases h : charB n = true
          · have h' := hc.1 h
            rw [if_pos h]
            repeat' split
            all_goals first | rfl | (exfalso; omega)
          · have h' := fun z => h (hc.2 z)
            rw [if_neg h]
            repeat' split
            all_goals first | rfl | (exfalso; apply h'; omega)
        · show impl_IsName.L0 s _ = _
          rw [impl_IsName.L0_eq, if_neg (by omega)]
      rw [Bool.and_true] at hl
      simp only [impl_IsName.J0_eq, hl]
      unfold inB
      by_cases a1 : bt s 0 < 97
      · rw [if_pos a1, if_pos trivial, show decide (97 ≤ bt s 0) = false from decide_eq_false (by omega)]; rfl
      · rw [if_neg a1]
        by_cases a2 : bt s 0 > 122
        · rw [if_pos (by simpa using a2), show decide (bt s 0 ≤ 122) = false from decide_eq_false (by omega), Bool.and_false]; rfl
        · rw [if_neg (by simpa using a2), show decide (97 ≤ bt s 0) = true from decide_eq_true (by omega), show decide (bt s 0 ≤ 122) = true from decide_eq_true (by omega)]; rfl
theorem impl_ValidPlan_val (m : List S57) (c d : Int) (hl : m.length ≤ 1048576) (hy : ∀ y ∈ m, y.f0.size ≤ 1048576 ∧ y.f1.length ≤ 1048576) : impl_ValidPlan.F m c d = some (planB m c d) := by
  have hloop : impl_ValidPlan.L0 m (m.length : Int) 0 m c d = some ((List.range m.length).all (hungAt m) && true) := by
    refine allRange m.length _ (fun i => impl_ValidPlan.L0 m (m.length : Int) i m c d) _ (fun i hi => ?_) ?_
    · show impl_ValidPlan.L0 _ _ _ _ _ _ = if _ then impl_ValidPlan.L0 _ _ _ _ _ _ else _
      have h1 := hy m[i] (List.getElem_mem hi)
      rw [impl_ValidPlan.L0_eq, if_pos (by omega), if_pos (by omega), if_pos (by omega), rdIHung m i hi, wS (by omega), impl_IsName_val _ h1.1, impl_ValidSail_val _ (by omega), if_pos (show (i : Int) ≤ (m.length : Int) by omega), hungAt_eq m i hi, Int.toNat_natCast]
      unfold impl_sailNamed.f
      rw [if_pos (by rw [List.length_take]; omega)]
      simp only [Option.bind_some]
      cases nameB m[i].f0
      · simp
      · cases sailB m[i].f1
        · simp
        · by_cases h3 : idxF (fun y : S57 => decide (y.f0 = m[i].f0)) (m.take i) ≥ 0
          · rw [if_pos rfl, if_pos rfl, if_pos h3, if_neg (by simp [h3])]
          · rw [if_pos rfl, if_pos rfl, if_neg h3, if_pos (by simp [h3])]
    · show impl_ValidPlan.L0 _ _ _ _ _ _ = _
      rw [impl_ValidPlan.L0_eq, if_neg (by omega)]
  rw [Bool.and_true] at hloop
  rw [impl_ValidPlan.F_eq]
  unfold planB
  simp only [impl_within_val, impl_ValidPlan.J0_eq, hloop, Option.bind_some]
  by_cases h : (m.length : Int) > 8
  · rw [if_pos h, if_pos trivial, show decide (m.length ≤ 8) = false from decide_eq_false (by omega)]; simp
  · rw [if_neg h, show decide (m.length ≤ 8) = true from decide_eq_true (by omega)]
    cases inB d 1 5000 <;> cases inB c 0 d <;> simp
theorem planB_parts {m : List S57} {c d : Int} (h : planB m c d = true) : m.length ≤ 8 ∧ (1 ≤ d ∧ d ≤ 5000) ∧ (0 ≤ c ∧ c ≤ d) ∧ ∀ i (hi : i < m.length), sailB m[i].f1 = true ∧ m[i].f0.size ≤ 12 := by
  simp only [planB, Bool.and_eq_true, decide_eq_true_eq, inB_iff, List.all_eq_true, List.mem_range] at h
  refine ⟨h.2.1, h.2.2.1, h.2.2.2, fun i hi => ?_⟩
  have := h.1 i hi
  simp only [hungAt, List.getElem?_eq_getElem hi, Bool.and_eq_true] at this
  have hn := this.1
  simp only [nameB, Bool.and_eq_true, decide_eq_true_eq] at hn
  exact ⟨this.2.1, hn.2.1⟩
def planH (c d : Int) : ByteArray := (((⟨#[104, 117, 108, 108, 32]⟩ : ByteArray) ++ dec d) ++ (⟨#[32, 99, 101, 110, 116, 114, 101, 32]⟩ : ByteArray)) ++ dec c
/-- A plan's text up to the i-th sail. -/
def planT (m : List S57) (c d : Int) : Nat → ByteArray
  | 0 => planH c d
  | i + 1 => if (rd_T57 m (i : Int)).f2 = true then ((planT m c d i ++ ((⟨#[59, 32]⟩ : ByteArray) ++ (rd_T57 m (i : Int)).f0)) ++ (⟨#[32, 115, 101, 116]⟩ : ByteArray)) ++ ((⟨#[32]⟩ : ByteArray) ++ sailT (rd_T57 m (i : Int)).f1) else (planT m c d i ++ ((⟨#[59, 32]⟩ : ByteArray) ++ (rd_T57 m (i : Int)).f0)) ++ ((⟨#[32]⟩ : ByteArray) ++ sailT (rd_T57 m (i : Int)).f1)
theorem planH_size {c d : Int} (hd : 1 ≤ d ∧ d ≤ 5000) (hc : 0 ≤ c ∧ c ≤ d) : (dec c).size ≤ 21 ∧ (dec d).size ≤ 21 ∧ (planH c d).size ≤ 100 := by
  have h1 := itoa_len c (by omega) (by omega)
  have h2 := itoa_len d (by omega) (by omega)
  refine ⟨h1, h2, ?_⟩
  unfold planH
  rw [ByteArray.size_append, ByteArray.size_append, ByteArray.size_append, show (⟨#[104, 117, 108, 108, 32]⟩ : ByteArray).size = 5 from rfl, show (⟨#[32, 99, 101, 110, 116, 114, 101, 32]⟩ : ByteArray).size = 8 from rfl]
  omega
theorem planT_size {m : List S57} {c d : Int} (h : planB m c d = true) (i : Nat) (hi : i ≤ m.length) : (planT m c d i).size ≤ 100 + i * 1000 := by
  obtain ⟨p1, p2, p3, p4⟩ := planB_parts h
  induction i with
  | zero => exact (planH_size p2 p3).2.2
  | succ i ih =>
    have h1 := ih (by omega)
    obtain ⟨h2, h3⟩ := p4 i (by omega)
    have h4 := sailT_size h2
    unfold planT
    rw [rdIHung m i (by omega)]
    split <;> simp only [ByteArray.size_append, show (⟨#[59, 32]⟩ : ByteArray).size = 2 from rfl, show (⟨#[32, 115, 101, 116]⟩ : ByteArray).size = 4 from rfl, show (⟨#[32]⟩ : ByteArray).size = 1 from rfl] <;> omega
theorem plan_text (m : List S57) (c d : Int) (hl : m.length ≤ 1048576) (hy : ∀ y ∈ m, y.f0.size ≤ 1048576 ∧ y.f1.length ≤ 1048576) : ∃ y, spec_PlanText.F m c d = some y ∧ impl_PlanText.F m c d = some y := by
  rw [spec_PlanText.F_eq, impl_PlanText.F_eq, spec_l17Ok_val m c d hl hy, impl_ValidPlan_val m c d hl hy]
  simp only [Option.bind_some]
  by_cases h : planB m c d = true
  · obtain ⟨p1, p2, p3, p4⟩ := planB_parts h
    obtain ⟨z1, z2, z3⟩ := planH_size p2 p3
    rw [if_pos h, if_pos h, spec_l01Dec_val d (by omega) (by omega), impl_Decimal_val d (by omega) (by omega), spec_l01Dec_val c (by omega) (by omega), impl_Decimal_val c (by omega) (by omega)]
    simp only [Option.bind_some]
    have w1 : 5 + (dec d).size ≤ 9223372036854775807 := by omega
    have w2 : 5 + (dec d).size + 8 ≤ 9223372036854775807 := by omega
    have w3 : 5 + (dec d).size + 8 + (dec c).size ≤ 9223372036854775807 := by omega
    simp only [if_pos w1, if_pos w2, if_pos w3]
    have hS := iterF (fun (s : ByteArray) i => spec_PlanText.L0 s i m c d) m.length (planT m c d) (fun i hi => by
      obtain ⟨q1, q2⟩ := p4 i hi
      have hz := planT_size h i (by omega)
      have ht := sailT_size q1
      show spec_PlanText.L0 (planT m c d i) (i : Int) m c d = spec_PlanText.L0 (planT m c d (i + 1)) ((i + 1 : Nat) : Int) m c d
      rw [spec_PlanText.L0_eq, planT, if_pos (by omega), if_pos (by omega), rdIHung m i hi, spec_l13Text_val _ q1, wS (by omega)]
      simp only [Option.bind_some]
      rw [if_pos (by omega), if_pos (by omega)]
      by_cases hf : m[i].f2 = true
      · rw [if_pos hf, if_pos hf, if_pos (by omega), if_pos (by omega), if_pos (by omega)]
      · rw [if_neg hf, if_neg hf, if_pos (by omega), if_pos (by omega)])
    have hI := iterF (fun (s : ByteArray) i => impl_PlanText.L0 s m (m.length : Int) i) m.length (planT m c d) (fun i hi => by
      obtain ⟨q1, q2⟩ := p4 i hi
      have hz := planT_size h i (by omega)
      have ht := sailT_size q1
      show impl_PlanText.L0 (planT m c d i) m (m.length : Int) (i : Int) = impl_PlanText.L0 (planT m c d (i + 1)) m (m.length : Int) ((i + 1 : Nat) : Int)
      rw [impl_PlanText.L0_eq, planT, if_pos (by omega), if_pos (by omega), if_pos (by omega), rdIHung m i hi, impl_SailText_val _ q1, wS (by omega)]
      simp only [Option.bind_some]
      rw [if_pos (by omega), if_pos (by omega)]
      by_cases hf : m[i].f2 = true
      · rw [if_pos hf, if_pos hf, if_pos (by omega), if_pos (by omega), if_pos (by omega)]
      · rw [if_neg hf, if_neg hf, if_pos (by omega), if_pos (by omega)])
    refine ⟨planT m c d m.length, Eq.trans hS ?_, Eq.trans hI ?_⟩
    · show spec_PlanText.L0 _ (m.length : Int) m c d = _
      rw [spec_PlanText.L0_eq, if_neg (by omega)]
    · show impl_PlanText.L0 _ m (m.length : Int) (m.length : Int) = _
      rw [impl_PlanText.L0_eq, if_neg (by omega)]
  · rw [if_neg h, if_neg h]; exact ⟨_, rfl, rfl⟩
theorem pure_FnExactPlanText : laws_FnExactPlanText.Pure := by
  intro a c d hga hc hd
  refine of_lim (g := fun k => laws_FnExactPlanText.f k a c d) ?_
  show laws_FnExactPlanText.F a c d = some true
  obtain ⟨r, hr, h⟩ := plan_args a c d 1048576 (by omega) (by omega) hga.1 (fun y hy => ⟨(hga.2 y hy).1, (hga.2 y hy).2.1.1⟩)
  rcases h with h | ⟨h1, h2, h3, m, _, hm, hy, et, ee⟩
  · rw [laws_FnExactPlanText.F_eq, hr]; simp only [Option.bind_some]; rw [if_pos h]
  · obtain ⟨y, e1, e2⟩ := plan_text m c d (by omega) hy
    simp [laws_FnExactPlanText.F_eq, hr, h1, et, ee, e1, e2]
end Go.Proofs.YtdlckliobloodaaDoor.PFnExactPlanText
namespace Go.Proofs.YtdlckliobloodaaDoor.Pure
theorem FnExactPlanText : PFnExactPlanText.laws_FnExactPlanText.Pure := PFnExactPlanText.pure_FnExactPlanText
end Go.Proofs.YtdlckliobloodaaDoor.Pure
