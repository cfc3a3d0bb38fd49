/-
  The pure side of FnExactPanelEdges: the program's PanelEdges gives what the reference's gives. No conditions.
-/
import Derived.Test.YtmljmfepnlpgfaaQFnExactPanelEdges
set_option linter.unusedVariables false
set_option linter.unusedSimpArgs false
set_option linter.unnecessarySimpa false
namespace Go.Proofs.Ytmljmfepnlpgfaa.PFnExactPanelEdges
open Go.RowKit Go.Proofs.Ytmljmfepnlpgfaa.Kit Go.Proofs.YtmljmfepnlpgfaaW.PrintWords Go.Proofs.YtmljmfepnlpgfaaW.PrintLast Go.Proofs.YtmljmfepnlpgfaaW.PrintMore

theorem laws_szSpotS_val (l : List S53) (n : Int) (h : l.length ≤ 9223372036854775807) (hn : 0 ≤ n) (hn2 : n ≤ 1048576) : ∃ r, laws_szSpotS.f l n = some r ∧ (r < 0 ∨ 0 ≤ r ∧ r ≤ n ∧ (l.length : Int) ≤ n) := by
  unfold laws_szSpotS.f
  rw [w64 (by omega) (by omega)]
  by_cases hc : n < l.length
  · exact ⟨-1, by rw [if_pos (by omega)], Or.inl (by omega)⟩
  · exact ⟨n - l.length, by rw [if_neg (by omega)], Or.inr (by omega)⟩
theorem rdLSpot (l : List S53) (i : Nat) (h : i < l.length) : rd_T53 l (i : Int) = l[i] := by simp [rd_T53, h]
def spotTo (p : S53) : S51 := ⟨p.f0, p.f1⟩
theorem laws_toSpotS_val (l : List S53) (hl : l.length ≤ 1048576) : laws_toSpotS.F l = some (l.map spotTo) := by
  rw [laws_toSpotS.F_eq, if_pos (by omega), if_pos (by omega), Int.toNat_natCast]
  have := fillLoop (l.map spotTo) z51 (fun s i => laws_toSpotS.L0 l s i) (fun i s hi hs => by
    rw [List.length_map] at hi hs
    show laws_toSpotS.L0 l s i = _
    rw [laws_toSpotS.L0_eq, if_pos (by omega), if_pos (by omega), rdLSpot l i hi, wS (by omega)]
    unfold laws_toSpot.f
    simp only [Option.bind_some]
    rw [if_pos (by omega), Int.toNat_natCast, List.getElem_map]
    rfl)
  rw [List.length_map] at this
  refine this.trans ?_
  show laws_toSpotS.L0 l _ _ = _
  rw [laws_toSpotS.L0_eq, if_neg (by omega)]
theorem laws_eqSpotS_val (l : List S51) (hl : l.length < 4611686018427387904) : laws_eqSpotS.F l l = some true := by
  rw [laws_eqSpotS.F_eq, if_pos rfl]
  have := allLoop l (fun _ => true) (fun i => laws_eqSpotS.L0 l l i) true (fun i hi => by
    show laws_eqSpotS.L0 l l i = _
    rw [laws_eqSpotS.L0_eq, if_pos (by omega), if_pos (by omega), if_pos (by omega), wS (by omega)]
    unfold laws_eqSpot.f
    simp) (by
    show laws_eqSpotS.L0 l l _ = _
    rw [laws_eqSpotS.L0_eq, if_neg (by omega)])
  rw [this]; simp
theorem mul_bd (a b A B : Int) (h1 : -A ≤ a) (h2 : a ≤ A) (h3 : -B ≤ b) (h4 : b ≤ B) : -(A * B) ≤ a * b ∧ a * b ≤ A * B := by
  constructor
  · have x1 := Int.mul_nonneg (show 0 ≤ A + a by omega) (show 0 ≤ B + b by omega)
    have x2 := Int.mul_nonneg (show 0 ≤ A - a by omega) (show 0 ≤ B - b by omega)
    grind
  · have x1 := Int.mul_nonneg (show 0 ≤ A + a by omega) (show 0 ≤ B - b by omega)
    have x2 := Int.mul_nonneg (show 0 ≤ A - a by omega) (show 0 ≤ B + b by omega)
    grind
def R2 (x : Int) : Prop := 0 ≤ x ∧ x ≤ 2000
theorem R2.w {x y : Int} (hx : R2 x) (hy : R2 y) : wrap64 (x - y) = x - y := w64 (by unfold R2 at *; omega) (by unfold R2 at *; omega)
theorem R2.ww {a b c d e f g h : Int} (ha : R2 a) (hb : R2 b) (hc : R2 c) (hd : R2 d) (he : R2 e) (hf : R2 f) (hg : R2 g) (hh : R2 h) : wrap64 ((wrap64 ((wrap64 (a - b)) * (wrap64 (c - d)))) - (wrap64 ((wrap64 (e - f)) * (wrap64 (g - h))))) = (a - b) * (c - d) - (e - f) * (g - h) := by
  rw [ha.w hb, hc.w hd, he.w hf, hg.w hh]
  unfold R2 at *
  have h1 := mul_bd (a - b) (c - d) 2000 2000 (by omega) (by omega) (by omega) (by omega)
  have h2 := mul_bd (e - f) (g - h) 2000 2000 (by omega) (by omega) (by omega) (by omega)
  rw [w64 (n := (a - b) * (c - d)) (by omega) (by omega), w64 (n := (e - f) * (g - h)) (by omega) (by omega), w64 (by omega) (by omega)]
def crossZ (ax ay bx b_y cx cy : Int) : Int := (bx - ax) * (cy - ay) - (b_y - ay) * (cx - ax)
def inB (n a b : Int) : Bool := decide (a ≤ n) && decide (n ≤ b)
theorem inB_iff (n a b : Int) : inB n a b = true ↔ a ≤ n ∧ n ≤ b := by simp [inB]
theorem inB_no (n a b : Int) : inB n a b = false ↔ ¬ (a ≤ n ∧ n ≤ b) := by rw [← inB_iff]; simp
def betB (ax ay bx b_y px py : Int) : Bool := inB px (min ax bx) (max ax bx) && inB py (min ay b_y) (max ay b_y)
def onB (ax ay bx b_y px py : Int) : Bool := decide (crossZ ax ay bx b_y px py = 0) && betB ax ay bx b_y px py
def sidesB (a b c d e f g h : Int) : Bool := (decide (crossZ a b c d e f < 0) && decide (crossZ a b c d g h > 0)) || (decide (crossZ a b c d e f > 0) && decide (crossZ a b c d g h < 0))
def meetB (a b c d e f g h : Int) : Bool := onB a b c d e f || onB a b c d g h || onB e f g h a b || onB e f g h c d || (sidesB a b c d e f g h && sidesB e f g h a b c d)
theorem rdISpot (l : List S51) (i : Nat) (h : i < l.length) : rd_T51 l (i : Int) = l[i] := by simp [rd_T51, h]
/-- A loop from m to n that ends with 'no' at the first place that isn't as it should be. -/
theorem stepLoop {β : Type} (m n : Nat) (p : Nat → Bool) (g : Int → β) (no r : β) (h : ∀ k, m ≤ k → k < n → g (k : Int) = if p k = true then g ((k + 1 : Nat) : Int) else no) (he : ∀ k, n ≤ k → g (k : Int) = r) : g (m : Int) = if (List.range' m (n - m)).all p = true then r else no := by
  have key : ∀ (d i : Nat), n - i = d → m ≤ i → g (i : Int) = if (List.range' i (n - i)).all p = true then r else no := by
    intro d
    induction d with
    | zero =>
      intro i hd hi
      rw [hd, he i (by omega)]; rfl
    | succ d ih =>
      intro i hd hi
      rw [h i hi (by omega), ih (i + 1) (by omega) (by omega), show n - i = (n - (i + 1)) + 1 by omega, List.range'_succ, List.all_cons]
      by_cases hp : p i = true
      · rw [if_pos hp, hp, Bool.true_and]
      · rw [if_neg hp, if_neg (by simp [hp])]
  exact key _ m rfl (Nat.le_refl _)
/-- The x and the y of a sail's spot. -/
def sx (l : List S51) (i : Nat) : Int := (rd_T51 l (i : Int)).f0
def sy (l : List S51) (i : Nat) : Int := (rd_T51 l (i : Int)).f1
theorem sx_def (l : List S51) (i : Nat) : (rd_T51 l (i : Int)).f0 = sx l i := rfl
theorem sy_def (l : List S51) (i : Nat) : (rd_T51 l (i : Int)).f1 = sy l i := rfl
def spotIn (p : S51) : Bool := inB p.f0 0 2000 && inB p.f1 0 2000
theorem spots_R (l : List S51) (h : l.all spotIn = true) (i : Nat) (hi : i < l.length) : R2 (sx l i) ∧ R2 (sy l i) := by
  have := List.all_eq_true.1 h l[i] (List.getElem_mem hi)
  simp only [spotIn, Bool.and_eq_true, inB_iff] at this
  unfold sx sy
  rw [rdISpot l i hi]
  exact this
def crossAt (l : List S51) (i j k : Nat) : Int := crossZ (sx l i) (sy l i) (sx l j) (sy l j) (sx l k) (sy l k)
def meetAt (l : List S51) (i j h k : Nat) : Bool := meetB (sx l i) (sy l i) (sx l j) (sy l j) (sx l h) (sy l h) (sx l k) (sy l k)
theorem tmodN (i n : Nat) (h : i < 4611686018427387904) : Int.tmod (wrap64 ((i : Int) + 1)) (n : Int) = (((i + 1) % n : Nat) : Int) := by
  rw [w64 (by omega) (by omega), Int.tmod_eq_emod_of_nonneg (by omega)]; push_cast; rfl
theorem tmodN2 (i n : Nat) (h : i < 4611686018427387904) : Int.tmod (wrap64 ((i : Int) + 2)) (n : Int) = (((i + 2) % n : Nat) : Int) := by
  rw [w64 (by omega) (by omega), Int.tmod_eq_emod_of_nonneg (by omega)]; push_cast; rfl
/-- Twice a sail's area, as the machine sums it up. -/
def twZ (l : List S51) : Nat → Int
  | 0 => 0
  | i + 1 => wrap64 (twZ l i + wrap64 (wrap64 (sx l i * sy l ((i + 1) % l.length)) - wrap64 (sx l ((i + 1) % l.length) * sy l i)))
def pairsOk (l : List S51) (i : Nat) : Bool := (List.range' (i + 2) (l.length - (i + 2))).all fun k => !((decide (i > 0) || decide (k < l.length - 1)) && meetAt l i ((i + 1) % l.length) k ((k + 1) % l.length))
def sailB (l : List S51) : Bool := decide (3 ≤ l.length) && decide (l.length ≤ 8) && (l.all spotIn && ((List.range l.length).all (fun i => decide (crossAt l i ((i + 1) % l.length) ((i + 2) % l.length) ≠ 0) && pairsOk l i) && decide (twZ l l.length > 0)))
theorem sailB_len {l : List S51} (h : sailB l = true) : 3 ≤ l.length ∧ l.length ≤ 8 ∧ l.all spotIn = true := by
  simp only [sailB, Bool.and_eq_true, decide_eq_true_eq] at h
  exact ⟨h.1.1, h.1.2, h.2.1⟩
def bulgedB (l : List S51) : Bool := (List.range l.length).all fun i => decide (¬ crossAt l i ((i + 1) % l.length) ((i + 2) % l.length) < 0)
/-- The least and the greatest y of the first i spots. -/
def limZ (l : List S51) : Nat → Int × Int
  | 0 => (sy l 0, sy l 0)
  | i + 1 => (min (limZ l i).1 (sy l i), max (limZ l i).2 (sy l i))
def loZ (l : List S51) : Int := (limZ l l.length).1
def hiZ (l : List S51) : Int := (limZ l l.length).2
theorem limZ_R (l : List S51) (h3 : 0 < l.length) (ha : l.all spotIn = true) (i : Nat) (hi : i ≤ l.length) : R2 (limZ l i).1 ∧ R2 (limZ l i).2 ∧ (limZ l i).1 ≤ (limZ l i).2 := by
  have hR := spots_R l ha
  induction i with
  | zero => exact ⟨(hR 0 h3).2, (hR 0 h3).2, Int.le_refl _⟩
  | succ i ih =>
    have h1 := ih (by omega)
    have h2 := (hR i (by omega)).2
    show R2 (min _ _) ∧ R2 (max _ _) ∧ min _ _ ≤ max _ _
    unfold R2 at *
    omega
theorem lohi (l : List S51) (hs : sailB l = true) : R2 (loZ l) ∧ R2 (hiZ l) ∧ loZ l ≤ hiZ l := by
  obtain ⟨h3, h8, ha⟩ := sailB_len hs
  exact limZ_R l (by omega) ha l.length (Nat.le_refl _)
/-- How many panels' heads lie below hi. -/
def manyN (lo hi each : Int) : Nat := ((hi - lo + each - 1) / each).toNat
def edgesF (lo hi each : Int) : List Int := ((List.range (manyN lo hi each)).map fun (i : Nat) => lo + (i : Int) * each) ++ [hi]
theorem many_bd {lo hi each : Int} (h1 : R2 lo) (h2 : R2 hi) (h3 : lo ≤ hi) (h4 : 1 ≤ each) (h5 : each ≤ 200) : ((hi - lo + each - 1) / each) = (manyN lo hi each : Int) ∧ manyN lo hi each ≤ 2200 := by
  have hn : 0 ≤ (hi - lo + each - 1) / each := Int.ediv_nonneg (by omega) (by omega)
  have hle : (hi - lo + each - 1) / each ≤ hi - lo + each - 1 := Int.ediv_le_self _ (by omega)
  unfold manyN R2 at *
  omega
theorem many_lt {lo hi each : Int} (h3 : lo ≤ hi) (h4 : 1 ≤ each) (i : Nat) : lo + (i : Int) * each < hi ↔ i < manyN lo hi each := by
  have hn : 0 ≤ (hi - lo + each - 1) / each := Int.ediv_nonneg (by omega) (by omega)
  have h0 : ((manyN lo hi each : Nat) : Int) = (hi - lo + each - 1) / each := Int.toNat_of_nonneg hn
  have key : ((i : Int) + 1 ≤ (hi - lo + each - 1) / each) ↔ ((i : Int) + 1) * each ≤ hi - lo + each - 1 := Int.le_ediv_iff_mul_le (by omega)
  have e : ((i : Int) + 1) * each = (i : Int) * each + each := by grind
  rw [e] at key
  generalize (i : Int) * each = z at *
  omega
theorem edges_loop (L : Int → List Int → Int → Option (List Int)) (lo hi each : Int) (h1 : R2 lo) (h2 : R2 hi) (h3 : lo ≤ hi) (h4 : 1 ≤ each) (h5 : each ≤ 200)
    (hL : ∀ x7 x8, L hi x7 x8 = if x8 < hi then (if x7.length < 17592186044416 then L hi (x7 ++ [x8]) (wrap64 (x8 + each)) else none) else (if x7.length < 17592186044416 then some (x7 ++ [hi]) else none)) :
    L hi [] lo = some (edgesF lo hi each) := by
  have hb := (many_bd h1 h2 h3 h4 h5).2
  have := iterF (fun (s : List Int) i => L hi s (lo + i * each)) (manyN lo hi each) (fun k => (List.range k).map fun (i : Nat) => lo + (i : Int) * each) (fun i hi' => by
    show L hi _ _ = L hi _ _
    have hlt := (many_lt h3 h4 i).2 hi'
    have hlen : ((List.range i).map fun (i : Nat) => lo + (i : Int) * each).length = i := by simp
    have hz : 0 ≤ (i : Int) * each := Int.mul_nonneg (by omega) (by omega)
    rw [hL, if_pos hlt, if_pos (by rw [hlen]; omega), List.range_succ, List.map_append, List.map_cons, List.map_nil]
    have e : ((i + 1 : Nat) : Int) * each = (i : Int) * each + each := by push_cast; grind
    rw [e]
    generalize (i : Int) * each = z at *
    unfold R2 at *
    rw [w64 (by omega) (by omega), Int.add_assoc])
  simp only [Int.zero_mul, Int.add_zero, List.range_zero, List.map_nil] at this
  refine this.trans ?_
  rw [hL, if_neg (by rw [many_lt h3 h4]; omega), if_pos (by simp; omega)]
  rfl
theorem edges_len (lo hi each : Int) : (edgesF lo hi each).length = manyN lo hi each + 1 := by simp [edgesF]
def weaveB (a b c : Int) : Bool := inB a 2 200 && inB b 0 20 && decide (b < a) && inB c 0 100
theorem weaveB_iff {a b c : Int} : weaveB a b c = true ↔ (2 ≤ a ∧ a ≤ 200) ∧ (0 ≤ b ∧ b ≤ 20) ∧ b < a ∧ (0 ≤ c ∧ c ≤ 100) := by
  simp only [weaveB, Bool.and_eq_true, inB_iff, decide_eq_true_eq, and_assoc]
def weaveCodeZ (l : List S51) (a b c : Int) : Int := if sailB l = true then (if weaveB a b c = true then (if bulgedB l = true then (if manyN (loZ l) (hiZ l) (a - b) > 40 then 5 else 0) else 6) else 1) else 1
theorem weaveCode_0 {l : List S51} {a b c : Int} (h : weaveCodeZ l a b c = 0) : sailB l = true ∧ weaveB a b c = true ∧ bulgedB l = true ∧ manyN (loZ l) (hiZ l) (a - b) ≤ 40 := by
  unfold weaveCodeZ at h
  split at h <;> rename_i h1
  · split at h <;> rename_i h2
    · split at h <;> rename_i h3
      · split at h <;> rename_i h4
        · omega
        · exact ⟨h1, h2, h3, by omega⟩
      · omega
    · omega
  · omega
theorem spec_l13Twice_val (l : List S51) (hn : 0 < l.length) (hl : l.length < 4611686018427387904) : spec_l13Twice.F l = some (twZ l l.length) := by
  rw [spec_l13Twice.F_eq]
  have := iterF (fun s i => spec_l13Twice.L0 l s i) l.length (twZ l) (fun i hi => by
    show spec_l13Twice.L0 l _ _ = spec_l13Twice.L0 l _ _
    have hm := Nat.mod_lt (i + 1) hn
    rw [spec_l13Twice.L0_eq, if_pos (by omega), if_neg (by omega), tmodN i l.length (by omega), if_pos (by omega), if_pos (by omega), if_pos (by omega), wS (by omega)]
    rfl)
  refine Eq.trans this ?_
  show spec_l13Twice.L0 l _ _ = _
  rw [spec_l13Twice.L0_eq, if_neg (by omega)]
theorem spec_l13Cross_val {a b c d e f : Int} (ha : R2 a) (hb : R2 b) (hc : R2 c) (hd : R2 d) (he : R2 e) (hf : R2 f) : spec_l13Cross.f a b c d e f = some (crossZ a b c d e f) := by
  unfold spec_l13Cross.f crossZ
  rw [hc.ww ha hf hb hd hb he ha]
theorem spec_l00Min_val (a b : Int) : spec_l00Min.f a b = some (min a b) := by unfold spec_l00Min.f; rw [Int.min_def]; split <;> split <;> first | rfl | (congr 1; omega)
theorem spec_l00Max_val (a b : Int) : spec_l00Max.f a b = some (max a b) := by unfold spec_l00Max.f; rw [Int.max_def]; split <;> split <;> first | rfl | (congr 1; omega)
theorem spec_l00In_val (n a b : Int) : spec_l00In.f n a b = some (inB n a b) := by
  unfold spec_l00In.f inB
  by_cases h : n ≥ a
  · rw [if_pos h]; simp [show a ≤ n from h]
  · rw [if_neg h]; simp; omega
theorem spec_l13On_val {a b c d e f : Int} (ha : R2 a) (hb : R2 b) (hc : R2 c) (hd : R2 d) (he : R2 e) (hf : R2 f) : spec_l13On.f a b c d e f = some (onB a b c d e f) := by
  unfold spec_l13On.f onB betB
  simp only [spec_l13Cross_val ha hb hc hd he hf, Option.bind_some, spec_l00Min_val, spec_l00Max_val, spec_l00In_val]
  by_cases h : crossZ a b c d e f = 0
  · rw [if_pos h]
    cases inB e (min a c) (max a c) <;> simp [h]
  · rw [if_neg h]; simp [h]
theorem spec_l13Sides_val {a b c d e f g h : Int} (ha : R2 a) (hb : R2 b) (hc : R2 c) (hd : R2 d) (he : R2 e) (hf : R2 f) (hg : R2 g) (hh : R2 h) : spec_l13Sides.f a b c d e f g h = some (sidesB a b c d e f g h) := by
  unfold spec_l13Sides.f sidesB
  simp only [spec_l13Cross_val ha hb hc hd he hf, spec_l13Cross_val ha hb hc hd hg hh, Option.bind_some]
  generalize crossZ a b c d e f = x
  generalize crossZ a b c d g h = y
  by_cases h1 : x < 0 <;> by_cases h2 : y > 0 <;> by_cases h3 : x > 0 <;> simp [h1, h2, h3] <;> omega
theorem spec_l13Meet_val {a b c d e f g h : Int} (ha : R2 a) (hb : R2 b) (hc : R2 c) (hd : R2 d) (he : R2 e) (hf : R2 f) (hg : R2 g) (hh : R2 h) : spec_l13Meet.F a b c d e f g h = some (meetB a b c d e f g h) := by
  rw [spec_l13Meet.F_eq]
  simp only [spec_l13On_val ha hb hc hd he hf, spec_l13On_val ha hb hc hd hg hh, spec_l13On_val he hf hg hh ha hb, spec_l13On_val he hf hg hh hc hd, Option.bind_some, spec_l13Meet.J0_eq, spec_l13Sides_val ha hb hc hd he hf hg hh, spec_l13Sides_val he hf hg hh ha hb hc hd]
  unfold meetB
  cases onB a b c d e f <;> cases onB a b c d g h <;> cases onB e f g h a b <;> cases onB e f g h c d <;> cases sidesB a b c d e f g h <;> simp
/-- A loop that ends with one answer at the first element that isn't as it should be, with another one behind the last. -/
theorem allTo {α β : Type} (l : List α) (p : α → Bool) (g : Int → β) (no r : β) (h : ∀ i (hi : i < l.length), g (i : Int) = if p l[i] = true then g ((i + 1 : Nat) : Int) else no) (he : g (l.length : Int) = r) : g 0 = if l.all p = true then r else no := by
  have key : ∀ (d i : Nat), l.length - i = d → i ≤ l.length → g (i : Int) = if (l.drop i).all p = true then r else no := by
    intro d
    induction d with
    | zero =>
      intro i hd hi
      obtain rfl : i = l.length := by omega
      rw [he]; simp
    | succ d ih =>
      intro i hd hi
      have hlt : i < l.length := by omega
      rw [h i hlt, ih (i + 1) (by omega) (by omega), List.drop_eq_getElem_cons hlt, List.all_cons]
      by_cases hp : p l[i] = true
      · rw [if_pos hp, hp, Bool.true_and]
      · rw [if_neg hp, if_neg (by simp [hp])]
  have := key l.length 0 (by omega) (by omega)
  simpa using this
theorem spec_l13Ok_val (l : List S51) (hl : l.length < 2305843009213693952) : spec_l13Ok.F l = some (sailB l) := by
  rw [spec_l13Ok.F_eq, spec_l00In_val]
  simp only [Option.bind_some]
  by_cases hc : 3 ≤ l.length ∧ l.length ≤ 8
  · obtain ⟨h3, h8⟩ := hc
    rw [if_pos ((inB_iff _ _ _).2 (by omega))]
    unfold sailB
    rw [show (decide (3 ≤ l.length) && decide (l.length ≤ 8)) = true by simp [h3, h8], Bool.true_and]
    have e0 := allTo l spotIn (fun i => spec_l13Ok.L0 l (l.length : Int) i) (some false) _ (fun i hi => by
      show spec_l13Ok.L0 l _ _ = if _ then spec_l13Ok.L0 l _ _ else _
      rw [spec_l13Ok.L0_eq, if_pos (by omega), if_pos (by omega), if_pos (by omega), rdISpot l i hi, wS (by omega)]
      simp only [spec_l00In_val, Option.bind_some]
      unfold spotIn
      rw [ite_band]) (by
      show spec_l13Ok.L0 l _ _ = _
      rw [spec_l13Ok.L0_eq, if_neg (by omega)])
    refine e0.trans ?_
    by_cases ha : l.all spotIn = true
    · rw [if_pos ha, ha, Bool.true_and]
      have hR := spots_R l ha
      have hM : ∀ i, i % l.length < l.length := fun i => Nat.mod_lt i (by omega)
      refine allRange l.length _ (fun i => spec_l13Ok.L1 l (l.length : Int) i) _ (fun i hi => ?_) ?_
      · show spec_l13Ok.L1 l _ _ = if _ then spec_l13Ok.L1 l _ _ else _
        have hm1 := hM (i + 1)
        have hm2 := hM (i + 2)
        rw [spec_l13Ok.L1_eq, if_pos (by omega), if_pos (by omega), if_pos (by omega), if_neg (by omega), tmodN i l.length (by omega), tmodN2 i l.length (by omega), if_pos (by omega), if_pos (by omega), if_pos (by omega), if_pos (by omega)]
        simp only [sx_def, sy_def]
        rw [spec_l13Cross_val (hR i hi).1 (hR i hi).2 (hR _ hm1).1 (hR _ hm1).2 (hR _ hm2).1 (hR _ hm2).2]
        simp only [Option.bind_some]
        rw [ite_band]
        show (if crossAt l i _ _ = 0 then _ else _) = _
        by_cases hcr : crossAt l i ((i + 1) % l.length) ((i + 2) % l.length) = 0
        · rw [if_pos hcr, if_neg (by simp [hcr])]
        · rw [if_neg hcr, if_pos (by simp [hcr]), w64 (by omega) (by omega), show ((i : Int) + 2) = ((i + 2 : Nat) : Int) by omega]
          refine stepLoop (i + 2) l.length _ (fun k => spec_l13Ok.L2 l (l.length : Int) i k _ _ _ _) _ _ (fun k hk1 hk => ?_) (fun k hk => ?_)
          · show spec_l13Ok.L2 l _ _ _ _ _ _ _ = if _ then spec_l13Ok.L2 l _ _ _ _ _ _ _ else _
            have hk3 := hM (k + 1)
            rw [spec_l13Ok.L2_eq, if_pos (by omega), tmodN k l.length (by omega), w64 (n := (l.length : Int) - 1) (by omega) (by omega), wS (i := k) (by omega)]
            simp only [sx_def, sy_def, spec_l13Meet_val (hR i hi).1 (hR i hi).2 (hR _ hm1).1 (hR _ hm1).2 (hR k hk).1 (hR k hk).2 (hR _ hk3).1 (hR _ hk3).2, Option.bind_some]
            rw [show meetB (sx l i) (sy l i) (sx l ((i + 1) % l.length)) (sy l ((i + 1) % l.length)) (sx l k) (sy l k) (sx l ((k + 1) % l.length)) (sy l ((k + 1) % l.length)) = meetAt l i ((i + 1) % l.length) k ((k + 1) % l.length) from rfl]
            have c1 : ((i : Int) > 0) ↔ i > 0 := by omega
            have c2 : ((k : Int) < (l.length : Int) - 1) ↔ k < l.length - 1 := by omega
            rw [if_pos (show (0 : Int) ≤ (k : Int) by omega), if_pos (show (k : Int) < (l.length : Int) by omega), if_neg (show ¬ (l.length : Int) = 0 by omega), if_pos (show (0 : Int) ≤ (((k + 1) % l.length : Nat) : Int) by omega), if_pos (show (((k + 1) % l.length : Nat) : Int) < (l.length : Int) by omega)]
            simp only [c1, c2]
            cases meetAt l i ((i + 1) % l.length) k ((k + 1) % l.length) <;> by_cases h1 : i > 0 <;> by_cases h2 : k < l.length - 1 <;> simp [h1, h2]
          · show spec_l13Ok.L2 l _ _ _ _ _ _ _ = _
            rw [spec_l13Ok.L2_eq, if_neg (by omega), wS (by omega)]
      · show spec_l13Ok.L1 l _ _ = _
        rw [spec_l13Ok.L1_eq, if_neg (by omega), spec_l13Twice_val l (by omega) (by omega)]
        rfl
    · rw [if_neg ha]; simp [ha]
  · rw [if_neg (by rw [inB_iff]; omega)]
    unfold sailB
    have : (decide (3 ≤ l.length) && decide (l.length ≤ 8)) = false := by
      rw [← Bool.not_eq_true]; simp only [Bool.and_eq_true, decide_eq_true_eq]; exact hc
    rw [this, Bool.false_and]
theorem spec_l15Ok_val (a b c : Int) : spec_l15Ok.f a b c = some (weaveB a b c) := by
  unfold spec_l15Ok.f weaveB
  simp only [spec_l00In_val, Option.bind_some]
  cases inB a 2 200 <;> cases inB b 0 20 <;> by_cases h : b < a <;> simp [h]
theorem spec_l13Bulged_val (l : List S51) (hs : sailB l = true) : spec_l13Bulged.F l = some (bulgedB l) := by
  obtain ⟨h3, h8, ha⟩ := sailB_len hs
  have hR := spots_R l ha
  have hM : ∀ i, i % l.length < l.length := fun i => Nat.mod_lt i (by omega)
  rw [spec_l13Bulged.F_eq]
  unfold bulgedB
  rw [← Bool.and_true (List.all _ _)]
  refine allRange l.length _ (fun i => spec_l13Bulged.L0 l (l.length : Int) i) true (fun i hi => ?_) ?_
  · show spec_l13Bulged.L0 l _ _ = if _ then spec_l13Bulged.L0 l _ _ else _
    have hm1 := hM (i + 1)
    have hm2 := hM (i + 2)
    rw [spec_l13Bulged.L0_eq, if_pos (by omega), if_pos (by omega), if_pos (by omega), if_neg (by omega), tmodN i l.length (by omega), tmodN2 i l.length (by omega), if_pos (by omega), if_pos (by omega), if_pos (by omega), if_pos (by omega)]
    simp only [sx_def, sy_def]
    rw [spec_l13Cross_val (hR i hi).1 (hR i hi).2 (hR _ hm1).1 (hR _ hm1).2 (hR _ hm2).1 (hR _ hm2).2, wS (by omega)]
    simp only [Option.bind_some]
    show (if crossAt l i _ _ < 0 then _ else _) = _
    by_cases hcr : crossAt l i ((i + 1) % l.length) ((i + 2) % l.length) < 0
    · rw [if_pos hcr, if_neg (by simp [hcr])]
    · rw [if_neg hcr, if_pos (by simpa using hcr)]
  · show spec_l13Bulged.L0 l _ _ = _
    rw [spec_l13Bulged.L0_eq, if_neg (by omega)]
theorem spec_l13Limits_val (l : List S51) (h0 : 0 < l.length) (hl : l.length < 4611686018427387904) : spec_l13Limits.F l = some (loZ l, hiZ l) := by
  rw [spec_l13Limits.F_eq, if_pos (by omega)]
  have hst : ∀ i s t, i < l.length → spec_l13Limits.L0 l s t (i : Int) = spec_l13Limits.L0 l (min s (sy l i)) (max t (sy l i)) ((i + 1 : Nat) : Int) := fun i s t hi => by
    rw [spec_l13Limits.L0_eq, if_pos (by omega), if_pos (by omega), wS (by omega)]
    simp only [spec_l00Min_val, spec_l00Max_val, Option.bind_some]
    rfl
  have e1 : spec_l13Limits.L0 l (sy l 0) (sy l 0) 1 = spec_l13Limits.L0 l (sy l 0) (sy l 0) 0 := by
    have := hst 0 (sy l 0) (sy l 0) h0
    rw [Int.min_self, Int.max_self] at this
    exact this.symm
  have := iterF (fun (s : Int × Int) i => spec_l13Limits.L0 l s.1 s.2 i) l.length (limZ l) (fun i hi => hst i _ _ hi)
  refine Eq.trans e1 (Eq.trans this ?_)
  show spec_l13Limits.L0 l _ _ _ = _
  rw [spec_l13Limits.L0_eq, if_neg (by omega)]
  rfl
theorem spec_l15Code_val (l : List S51) (a b c : Int) (hl : l.length < 2305843009213693952) : spec_l15Code.F l a b c = some (weaveCodeZ l a b c) := by
  rw [spec_l15Code.F_eq, spec_l13Ok_val l hl]
  simp only [Option.bind_some]
  unfold weaveCodeZ
  by_cases hs : sailB l = true
  · rw [if_pos hs, if_pos hs, spec_l15Ok_val]
    simp only [Option.bind_some]
    rw [spec_l15Code.J0_eq]
    by_cases hw : weaveB a b c = true
    · rw [if_pos hw, if_neg (by simp [hw]), spec_l13Bulged_val l hs]
      simp only [Option.bind_some]
      by_cases hg : bulgedB l = true
      · rw [if_pos hg, if_pos hg, spec_l13Limits_val l (by have := sailB_len hs; omega) (by omega)]
        simp only [Option.bind_some]
        obtain ⟨r1, r2, r3⟩ := lohi l hs
        have hw := weaveB_iff.1 hw
        have hb := many_bd r1 r2 r3 (each := a - b) (by omega) (by omega)
        unfold spec_l15Many.f
        unfold R2 at r1 r2
        rw [w64 (n := a - b) (by omega) (by omega), if_neg (by omega), w64 (n := hiZ l - loZ l) (by omega) (by omega), w64 (n := hiZ l - loZ l + (a - b)) (by omega) (by omega), w64 (n := hiZ l - loZ l + (a - b) - 1) (by omega) (by omega), Int.tdiv_eq_ediv_of_nonneg (by omega), hb.1, w64 (by omega) (by omega)]
        simp only [Option.bind_some]
        by_cases h4 : manyN (loZ l) (hiZ l) (a - b) > 40
        · rw [if_pos h4, if_pos (by omega)]
        · rw [if_neg h4, if_neg (by omega)]
      · rw [if_neg hg, if_neg hg]
    · rw [if_neg hw, if_pos (by simp [hw])]
  · rw [if_neg hs, if_neg hs, spec_l15Code.J0_eq, if_pos rfl]
theorem impl_twiceSail_val (l : List S51) (hn : 0 < l.length) (hl : l.length < 4611686018427387904) : impl_twiceSail.F l = some (twZ l l.length) := by
  rw [impl_twiceSail.F_eq]
  have := iterF (fun s i => impl_twiceSail.L0 l s l (l.length : Int) i) l.length (twZ l) (fun i hi => by
    show impl_twiceSail.L0 l _ _ _ _ = impl_twiceSail.L0 l _ _ _ _
    have hm := Nat.mod_lt (i + 1) hn
    rw [impl_twiceSail.L0_eq, if_pos (by omega), if_pos (by omega), if_pos (by omega), if_neg (by omega), tmodN i l.length (by omega), if_pos (by omega), if_pos (by omega), wS (by omega)]
    rfl)
  refine Eq.trans this ?_
  show impl_twiceSail.L0 l _ _ _ _ = _
  rw [impl_twiceSail.L0_eq, if_neg (by omega)]
theorem crossZ_bd {a b c d e f : Int} (ha : R2 a) (hb : R2 b) (hc : R2 c) (hd : R2 d) (he : R2 e) (hf : R2 f) : -8000000 ≤ crossZ a b c d e f ∧ crossZ a b c d e f ≤ 8000000 := by
  unfold crossZ R2 at *
  have h1 := mul_bd (c - a) (f - b) 2000 2000 (by omega) (by omega) (by omega) (by omega)
  have h2 := mul_bd (d - b) (e - a) 2000 2000 (by omega) (by omega) (by omega) (by omega)
  omega
theorem impl_turnAt_val {a b c d e f : Int} (ha : R2 a) (hb : R2 b) (hc : R2 c) (hd : R2 d) (he : R2 e) (hf : R2 f) : impl_turnAt.f a b c d e f = some (crossZ a b c d e f) := by
  unfold impl_turnAt.f
  rw [hc.ww ha hf hd hd hb he hc]
  unfold crossZ
  congr 1
  grind
theorem mn_min (a b : Int) : mn a b = min a b := by unfold mn; rw [Int.min_def]; split <;> split <;> omega
theorem mx_max (a b : Int) : mx a b = max a b := by unfold mx; rw [Int.max_def]; split <;> split <;> omega
theorem impl_within_val (n a b : Int) : impl_within.f n a b = some (inB n a b) := by
  unfold impl_within.f inB
  by_cases h : n ≥ a
  · rw [if_pos h]; simp [show a ≤ n from h]
  · rw [if_neg h]; simp; omega
theorem impl_sign_val (x : Int) : impl_sign.f x = some x.sign := by
  unfold impl_sign.f
  by_cases h : x > 0
  · rw [if_pos h, Int.sign_eq_one_of_pos h]
  · by_cases h2 : x < 0
    · rw [if_neg h, if_pos h2, Int.sign_eq_neg_one_of_neg h2]
    · rw [if_neg h, if_neg h2, show x = 0 by omega]; rfl
theorem sign_cross (x y : Int) : decide (wrap64 (x.sign * y.sign) < 0) = ((decide (x < 0) && decide (y > 0)) || (decide (x > 0) && decide (y < 0))) := by
  rcases Int.lt_trichotomy x 0 with hx | hx | hx <;> rcases Int.lt_trichotomy y 0 with hy | hy | hy <;>
    simp only [hx, hy, Int.sign_eq_neg_one_of_neg, Int.sign_eq_one_of_pos, Int.sign_zero] <;> (have := hx; have := hy; simp [wrap64]; try omega)
theorem impl_between_val (a b c d e f : Int) : impl_between.f a b c d e f = some (betB a b c d e f) := by
  unfold impl_between.f betB
  simp only [impl_within_val, mn_min, mx_max, Option.bind_some]
  cases inB e (min a c) (max a c) <;> simp
theorem impl_edgesMeet_val {a b c d e f g h : Int} (ha : R2 a) (hb : R2 b) (hc : R2 c) (hd : R2 d) (he : R2 e) (hf : R2 f) (hg : R2 g) (hh : R2 h) : impl_edgesMeet.F a b c d e f g h = some (meetB a b c d e f g h) := by
  rw [impl_edgesMeet.F_eq]
  simp only [impl_turnAt_val ha hb hc hd he hf, impl_turnAt_val ha hb hc hd hg hh, impl_turnAt_val he hf hg hh ha hb, impl_turnAt_val he hf hg hh hc hd, Option.bind_some, impl_sign_val, impl_edgesMeet.J0_eq, impl_between_val]
  have s1 := sign_cross (crossZ a b c d e f) (crossZ a b c d g h)
  have s2 := sign_cross (crossZ e f g h a b) (crossZ e f g h c d)
  rw [s2]
  unfold meetB onB sidesB
  rw [← s2, ← s1]
  generalize crossZ a b c d e f = x1 at *
  generalize crossZ a b c d g h = x2 at *
  generalize crossZ e f g h a b = x3 at *
  generalize crossZ e f g h c d = x4 at *
  generalize betB a b c d e f = b1
  generalize betB a b c d g h = b2
  generalize betB e f g h a b = b3
  generalize betB e f g h c d = b4
  by_cases hs : wrap64 (x1.sign * x2.sign) < 0
  · rw [if_pos hs]
    by_cases hs2 : wrap64 (x3.sign * x4.sign) < 0
    · simp [hs, hs2]
    · simp only [hs2, decide_false, nf, if_false]
      by_cases h1 : x1 = 0 <;> by_cases h2 : x2 = 0 <;> by_cases h3 : x3 = 0 <;> by_cases h4 : x4 = 0 <;> cases b1 <;> cases b2 <;> cases b3 <;> cases b4 <;> simp [h1, h2, h3, h4]
  · rw [if_neg hs]
    simp only [hs, decide_false, nf, if_false]
    by_cases h1 : x1 = 0 <;> by_cases h2 : x2 = 0 <;> by_cases h3 : x3 = 0 <;> by_cases h4 : x4 = 0 <;> cases b1 <;> cases b2 <;> cases b3 <;> cases b4 <;> simp [h1, h2, h3, h4]
theorem impl_ValidSail_val (l : List S51) (hl : l.length < 2305843009213693952) : impl_ValidSail.F l = some (sailB l) := by
  rw [impl_ValidSail.F_eq]
  simp only [impl_ValidSail.J0_eq]
  by_cases hc : 3 ≤ l.length ∧ l.length ≤ 8
  · obtain ⟨h3, h8⟩ := hc
    rw [if_neg (by omega), if_neg (by simp; omega)]
    unfold sailB
    rw [show (decide (3 ≤ l.length) && decide (l.length ≤ 8)) = true by simp [h3, h8], Bool.true_and]
    have e0 := allTo l spotIn (fun i => impl_ValidSail.L0 l (l.length : Int) l (l.length : Int) i) (some false) _ (fun i hi => by
      show impl_ValidSail.L0 l _ _ _ _ = if _ then impl_ValidSail.L0 l _ _ _ _ else _
      rw [impl_ValidSail.L0_eq, if_pos (by omega), if_pos (by omega), if_pos (by omega), rdISpot l i hi, wS (by omega)]
      simp only [impl_within_val, Option.bind_some]
      unfold spotIn
      rw [ite_band]) (by
      show impl_ValidSail.L0 l _ _ _ _ = _
      rw [impl_ValidSail.L0_eq, if_neg (by omega)])
    refine e0.trans ?_
    by_cases ha : l.all spotIn = true
    · rw [if_pos ha, ha, Bool.true_and]
      have hR := spots_R l ha
      have hM : ∀ i, i % l.length < l.length := fun i => Nat.mod_lt i (by omega)
      have e1 := allTo (List.range l.length) (fun i => decide (crossAt l i ((i + 1) % l.length) ((i + 2) % l.length) ≠ 0)) (fun i => impl_ValidSail.L1 l (l.length : Int) (l.length : Int) i) (some false) (impl_ValidSail.L2 l (l.length : Int) (l.length : Int) 0) (fun i hi => by
        rw [List.length_range] at hi
        rw [List.getElem_range]
        show impl_ValidSail.L1 l _ _ _ = if _ then impl_ValidSail.L1 l _ _ _ else _
        have hm1 := hM (i + 1)
        have hm2 := hM (i + 2)
        rw [impl_ValidSail.L1_eq, if_pos (by omega), if_pos (by omega), if_pos (by omega), if_neg (by omega), tmodN i l.length (by omega), tmodN2 i l.length (by omega), if_pos (by omega), if_pos (by omega), if_pos (by omega), if_pos (by omega)]
        simp only [sx_def, sy_def]
        rw [impl_turnAt_val (hR i hi).1 (hR i hi).2 (hR _ hm1).1 (hR _ hm1).2 (hR _ hm2).1 (hR _ hm2).2, wS (by omega)]
        simp only [Option.bind_some]
        show (if crossAt l i _ _ = 0 then _ else _) = _
        by_cases hcr : crossAt l i ((i + 1) % l.length) ((i + 2) % l.length) = 0
        · rw [if_pos hcr, if_neg (by simp [hcr])]
        · rw [if_neg hcr, if_pos (by simp [hcr])]) (by
        rw [List.length_range]
        show impl_ValidSail.L1 l _ _ _ = _
        rw [impl_ValidSail.L1_eq, if_neg (by omega)])
      refine e1.trans ?_
      have e2 : impl_ValidSail.L2 l (l.length : Int) (l.length : Int) 0 = some ((List.range l.length).all (pairsOk l) && decide (twZ l l.length > 0)) := by
        refine allRange l.length _ (fun i => impl_ValidSail.L2 l (l.length : Int) (l.length : Int) i) _ (fun i hi => ?_) ?_
        · show impl_ValidSail.L2 l _ _ _ = if _ then impl_ValidSail.L2 l _ _ _ else _
          have hm1 := hM (i + 1)
          rw [impl_ValidSail.L2_eq, if_pos (by omega), w64 (n := (i : Int) + 2) (by omega) (by omega), show ((i : Int) + 2) = ((i + 2 : Nat) : Int) by omega]
          refine stepLoop (i + 2) l.length _ (fun k => impl_ValidSail.L3 l (l.length : Int) i k _ _) _ _ (fun k hk1 hk => ?_) (fun k hk => ?_)
          · show impl_ValidSail.L3 l _ _ _ _ _ = if _ then impl_ValidSail.L3 l _ _ _ _ _ else _
            have hk3 := hM (k + 1)
            have hi1 : (i + 1) % l.length = i + 1 := Nat.mod_eq_of_lt (by omega)
            rw [hi1] at hm1
            rw [impl_ValidSail.L3_eq, if_pos (by omega), if_neg (by omega), tmodN k l.length (by omega), wS (i := k) (by omega), wS (i := i) (by omega), if_pos (show (0 : Int) ≤ (i : Int) by omega), if_pos (show (i : Int) < (l.length : Int) by omega), if_pos (show (0 : Int) ≤ ((i + 1 : Nat) : Int) by omega), if_pos (show ((i + 1 : Nat) : Int) < (l.length : Int) by omega), if_pos (show (0 : Int) ≤ (k : Int) by omega), if_pos (show (k : Int) < (l.length : Int) by omega), if_pos (show (0 : Int) ≤ (((k + 1) % l.length : Nat) : Int) by omega), if_pos (show (((k + 1) % l.length : Nat) : Int) < (l.length : Int) by omega)]
            simp only [sx_def, sy_def, impl_edgesMeet_val (hR i hi).1 (hR i hi).2 (hR _ hm1).1 (hR _ hm1).2 (hR k hk).1 (hR k hk).2 (hR _ hk3).1 (hR _ hk3).2, Option.bind_some]
            rw [hi1]
            rw [show meetB (sx l i) (sy l i) (sx l (i + 1)) (sy l (i + 1)) (sx l k) (sy l k) (sx l ((k + 1) % l.length)) (sy l ((k + 1) % l.length)) = meetAt l i (i + 1) k ((k + 1) % l.length) from rfl]
            have hcase : ((((k + 1) % l.length : Nat) : Int) = (i : Int)) ↔ ¬ (i > 0 ∨ k < l.length - 1) := by
              by_cases hlast : k + 1 = l.length
              · rw [hlast, Nat.mod_self]; omega
              · rw [Nat.mod_eq_of_lt (by omega)]; omega
            by_cases hq : i > 0 ∨ k < l.length - 1
            · rw [if_neg (by rw [hcase]; exact fun h => h hq)]
              have : (decide (i > 0) || decide (k < l.length - 1)) = true := by simpa using hq
              rw [this]
              cases meetAt l i (i + 1) k ((k + 1) % l.length) <;> simp
            · rw [if_pos (hcase.2 hq)]
              have : (decide (i > 0) || decide (k < l.length - 1)) = false := by rw [← Bool.not_eq_true]; simpa using hq
              rw [this]; simp
          · show impl_ValidSail.L3 l _ _ _ _ _ = _
            rw [impl_ValidSail.L3_eq, if_neg (by omega), wS (by omega)]
        · show impl_ValidSail.L2 l _ _ _ = _
          rw [impl_ValidSail.L2_eq, if_neg (by omega), impl_twiceSail_val l (by omega) (by omega)]
          rfl
      rw [e2]
      generalize decide (twZ l l.length > 0) = t
      by_cases hA : (List.range l.length).all (fun i => decide (crossAt l i ((i + 1) % l.length) ((i + 2) % l.length) ≠ 0)) = true
      · rw [if_pos hA]
        congr 2
        rw [Bool.eq_iff_iff]
        simp only [List.all_eq_true, Bool.and_eq_true] at hA ⊢
        exact ⟨fun h x hx => ⟨hA x hx, h x hx⟩, fun h x hx => (h x hx).2⟩
      · rw [if_neg hA]
        have : (List.range l.length).all (fun i => decide (crossAt l i ((i + 1) % l.length) ((i + 2) % l.length) ≠ 0) && pairsOk l i) = false := by
          rw [← Bool.not_eq_true]
          intro h
          apply hA
          simp only [List.all_eq_true, Bool.and_eq_true] at h ⊢
          exact fun x hx => (h x hx).1
        rw [this]; rfl
    · rw [if_neg ha]; simp [ha]
  · unfold sailB
    have : (decide (3 ≤ l.length) && decide (l.length ≤ 8)) = false := by
      rw [← Bool.not_eq_true]; simp only [Bool.and_eq_true, decide_eq_true_eq]; exact hc
    rw [this, Bool.false_and]
    by_cases h3 : (l.length : Int) < 3
    · rw [if_pos h3]; rfl
    · rw [if_neg h3, if_pos (by simp; omega)]
theorem impl_ValidWeave_val (a b c : Int) : impl_ValidWeave.f a b c = some (weaveB a b c) := by
  unfold impl_ValidWeave.f weaveB
  simp only [impl_within_val, Option.bind_some]
  cases inB a 2 200 <;> cases inB b 0 20 <;> by_cases h : b < a <;> simp [h]
theorem impl_isBulged_val (l : List S51) (hs : sailB l = true) : impl_isBulged.F l = some (bulgedB l) := by
  obtain ⟨h3, h8, ha⟩ := sailB_len hs
  have hR := spots_R l ha
  have hM : ∀ i, i % l.length < l.length := fun i => Nat.mod_lt i (by omega)
  rw [impl_isBulged.F_eq]
  unfold bulgedB
  rw [← Bool.and_true (List.all _ _)]
  refine allRange l.length _ (fun i => impl_isBulged.L0 l (l.length : Int) (l.length : Int) i) true (fun i hi => ?_) ?_
  · show impl_isBulged.L0 l _ _ _ = if _ then impl_isBulged.L0 l _ _ _ else _
    have hm1 := hM (i + 1)
    have hm2 := hM (i + 2)
    rw [impl_isBulged.L0_eq, if_pos (by omega), if_pos (by omega), if_pos (by omega), if_neg (by omega), tmodN i l.length (by omega), tmodN2 i l.length (by omega), if_pos (by omega), if_pos (by omega), if_pos (by omega), if_pos (by omega)]
    simp only [sx_def, sy_def]
    rw [impl_turnAt_val (hR i hi).1 (hR i hi).2 (hR _ hm1).1 (hR _ hm1).2 (hR _ hm2).1 (hR _ hm2).2, wS (by omega)]
    simp only [Option.bind_some]
    show (if crossAt l i _ _ < 0 then _ else _) = _
    by_cases hcr : crossAt l i ((i + 1) % l.length) ((i + 2) % l.length) < 0
    · rw [if_pos hcr, if_neg (by simp [hcr])]
    · rw [if_neg hcr, if_pos (by simpa using hcr)]
  · show impl_isBulged.L0 l _ _ _ = _
    rw [impl_isBulged.L0_eq, if_neg (by omega)]
theorem impl_heightsOf_val (l : List S51) (h0 : 0 < l.length) (hl : l.length < 4611686018427387904) : impl_heightsOf.F l = some (loZ l, hiZ l) := by
  rw [impl_heightsOf.F_eq, if_pos (by omega)]
  have := iterF (fun (s : Int × Int) i => impl_heightsOf.L0 s.1 s.2 l (l.length : Int) i) l.length (limZ l) (fun i hi => by
    show impl_heightsOf.L0 _ _ _ _ _ = impl_heightsOf.L0 _ _ _ _ _
    rw [impl_heightsOf.L0_eq, if_pos (by omega), if_pos (by omega), if_pos (by omega), wS (by omega), mn_min, mx_max]
    rfl)
  refine Eq.trans this ?_
  show impl_heightsOf.L0 _ _ _ _ _ = _
  rw [impl_heightsOf.L0_eq, if_neg (by omega)]
  rfl
theorem impl_panelEdges_val (l : List S51) (a b c : Int) (hs : sailB l = true) (hw : weaveB a b c = true) : impl_panelEdges.F l a b c = some (edgesF (loZ l) (hiZ l) (a - b)) := by
  have h := sailB_len hs
  obtain ⟨r1, r2, r3⟩ := lohi l hs
  have hw := weaveB_iff.1 hw
  rw [impl_panelEdges.F_eq, impl_heightsOf_val l (by omega) (by omega)]
  simp only [Option.bind_some]
  refine edges_loop (fun x6 x7 x8 => impl_panelEdges.L0 x6 x7 x8 a b c) _ _ _ r1 r2 r3 (by omega) (by omega) (fun x7 x8 => ?_)
  show impl_panelEdges.L0 _ _ _ _ _ _ = _
  rw [impl_panelEdges.L0_eq, w64 (n := a - b) (by omega) (by omega)]
theorem impl_weaveCode_val (l : List S51) (a b c : Int) (hl : l.length < 2305843009213693952) : impl_weaveCode.F l a b c = some (weaveCodeZ l a b c) := by
  rw [impl_weaveCode.F_eq, impl_ValidSail_val l hl]
  simp only [Option.bind_some]
  unfold weaveCodeZ
  by_cases hs : sailB l = true
  · rw [if_pos hs, if_pos hs, impl_ValidWeave_val]
    simp only [Option.bind_some]
    rw [impl_weaveCode.J0_eq]
    by_cases hw : weaveB a b c = true
    · rw [if_pos hw, if_neg (by simp [hw]), impl_isBulged_val l hs]
      simp only [Option.bind_some]
      by_cases hg : bulgedB l = true
      · rw [if_pos hg, if_pos hg, impl_panelEdges_val l a b c hs hw]
        simp only [Option.bind_some]
        rw [edges_len]
        by_cases h4 : manyN (loZ l) (hiZ l) (a - b) > 40
        · rw [if_pos h4, if_pos (by omega)]
        · rw [if_neg h4, if_neg (by omega)]
      · rw [if_neg hg, if_neg hg]
    · rw [if_neg hw, if_pos (by simp [hw])]
  · rw [if_neg hs, if_neg hs, impl_weaveCode.J0_eq, if_pos rfl]
theorem spec_l15Edges_val (l : List S51) (a b c : Int) (hs : sailB l = true) (hw : weaveB a b c = true) : spec_l15Edges.F l a b c = some (edgesF (loZ l) (hiZ l) (a - b)) := by
  have h := sailB_len hs
  obtain ⟨r1, r2, r3⟩ := lohi l hs
  have hw := weaveB_iff.1 hw
  rw [spec_l15Edges.F_eq, spec_l13Limits_val l (by omega) (by omega)]
  simp only [Option.bind_some]
  refine edges_loop (fun x6 x7 x8 => spec_l15Edges.L0 x6 x7 x8 a b c) _ _ _ r1 r2 r3 (by omega) (by omega) (fun x7 x8 => ?_)
  show spec_l15Edges.L0 _ _ _ _ _ _ = _
  rw [spec_l15Edges.L0_eq, w64 (n := a - b) (by omega) (by omega)]
/-- Spots that bear the numbers from k on. -/
def spotsFrom (k : Int) (n : Nat) : List S51 := (List.range n).map fun (j : Nat) => (⟨k + 2 * (j : Int), k + 2 * (j : Int) + 1⟩ : S51)
theorem laws_markSpotS_val (l : List S51) (k : Int) (h0 : 0 ≤ k) (h1 : k + 2 * l.length ≤ 4611686018427387904) : laws_markSpotS.F l k = some (k + 2 * l.length, spotsFrom k l.length) := by
  rw [laws_markSpotS.F_eq]
  have hlen : ∀ i, i ≤ l.length → (spotsFrom k i ++ l.drop i).length = l.length := fun i hi => by simp [spotsFrom]; omega
  have := iterF (fun (s : List S51 × Int) i => laws_markSpotS.L0 s.1 s.2 i) l.length (fun i => (spotsFrom k i ++ l.drop i, k + 2 * (i : Int))) (fun i hi => by
    show laws_markSpotS.L0 _ _ _ = laws_markSpotS.L0 _ _ _
    have hl1 := hlen i (by omega)
    have hlu : (spotsFrom k i).length = i := by simp [spotsFrom]
    rw [laws_markSpotS.L0_eq, if_pos (by rw [hl1]; omega), if_pos (by omega), wS (by omega), w64 (n := k + 2 * (i : Int) + 1) (by omega) (by omega), w64 (by omega) (by omega), Int.toNat_natCast]
    simp only [Option.bind_some]
    have hr : ∀ v : S51, rd_T51 ((spotsFrom k i ++ l.drop i).set i v) (i : Int) = v := by
      intro v
      rw [rdISpot _ i (by rw [List.length_set, hl1]; exact hi), List.getElem_set_self]
    rw [hr, List.set_set]
    have e1 : (spotsFrom k i ++ l.drop i).set i (⟨k + 2 * (i : Int), k + 2 * (i : Int) + 1⟩ : S51) = spotsFrom k (i + 1) ++ l.drop (i + 1) := by
      rw [List.set_append, hlu, if_neg (Nat.lt_irrefl i), Nat.sub_self, List.drop_eq_getElem_cons hi, List.set_cons_zero]
      unfold spotsFrom
      rw [List.range_succ, List.map_append, List.append_assoc]
      rfl
    show laws_markSpotS.L0 ((spotsFrom k i ++ l.drop i).set i (⟨k + 2 * (i : Int), k + 2 * (i : Int) + 1⟩ : S51)) _ _ = _
    rw [e1]
    congr 1
    omega)
  have e0 : spotsFrom k 0 ++ l.drop 0 = l := by simp [spotsFrom]
  simp only [e0] at this
  rw [show k + 2 * ((0 : Nat) : Int) = k by omega] at this
  refine this.trans ?_
  rw [laws_markSpotS.L0_eq, if_neg (by rw [hlen l.length (Nat.le_refl _)]; omega)]
  simp
/-- The numbers from k on. -/
def upFrom (k : Int) (n : Nat) : List Int := (List.range n).map fun (j : Nat) => k + (j : Int)
theorem laws_markInt64S_val (l : List Int) (k : Int) (h0 : 0 ≤ k) (h1 : k + l.length ≤ 4611686018427387904) : laws_markInt64S.F l k = some (k + l.length, upFrom k l.length) := by
  rw [laws_markInt64S.F_eq]
  have hlen : ∀ i, i ≤ l.length → (upFrom k i ++ l.drop i).length = l.length := fun i hi => by simp [upFrom]; omega
  have := iterF (fun (s : List Int × Int) i => laws_markInt64S.L0 s.1 s.2 i) l.length (fun i => (upFrom k i ++ l.drop i, k + (i : Int))) (fun i hi => by
    show laws_markInt64S.L0 _ _ _ = laws_markInt64S.L0 _ _ _
    have hl1 := hlen i (by omega)
    rw [laws_markInt64S.L0_eq, if_pos (by rw [hl1]; omega), if_pos (by omega), wS (by omega), w64 (by omega) (by omega), Int.toNat_natCast]
    have e1 : (upFrom k i ++ l.drop i).set i (k + (i : Int)) = upFrom k (i + 1) ++ l.drop (i + 1) := by
      have hlu : (upFrom k i).length = i := by simp [upFrom]
      rw [List.set_append, hlu, if_neg (Nat.lt_irrefl i), Nat.sub_self, List.drop_eq_getElem_cons hi, List.set_cons_zero]
      unfold upFrom
      rw [List.range_succ, List.map_append, List.append_assoc]
      rfl
    rw [e1]
    congr 1
    omega)
  have e0 : upFrom k 0 ++ l.drop 0 = l := by simp [upFrom]
  simp only [e0] at this
  rw [show k + ((0 : Nat) : Int) = k by omega] at this
  refine this.trans ?_
  rw [laws_markInt64S.L0_eq, if_neg (by rw [hlen l.length (Nat.le_refl _)]; omega)]
  simp
theorem laws_heldInt64S_val (n : Nat) (k : Int) (h0 : 0 ≤ k) (h1 : k + n ≤ 4611686018427387904) : laws_heldInt64S.F (upFrom k n) k = some (k + n) := by
  rw [laws_heldInt64S.F_eq]
  have hlen : (upFrom k n).length = n := by simp [upFrom]
  have := iterF (fun (s : Int) i => laws_heldInt64S.L0 (upFrom k n) s i) n (fun i => k + (i : Int)) (fun i hi => by
    show laws_heldInt64S.L0 _ _ _ = laws_heldInt64S.L0 _ _ _
    have hr : rd (upFrom k n) (i : Int) = k + (i : Int) := by
      rw [rd_get _ i (by omega)]
      simp [upFrom]
    rw [laws_heldInt64S.L0_eq, if_pos (by rw [hlen]; omega), if_pos (by omega), hr, if_pos rfl, wS (by omega), w64 (by omega) (by omega)]
    congr 1
    omega)
  rw [show k + ((0 : Nat) : Int) = k by omega] at this
  refine this.trans ?_
  show laws_heldInt64S.L0 _ _ _ = _
  rw [laws_heldInt64S.L0_eq, if_neg (by rw [hlen]; omega)]
theorem laws_eqInt64S_val (l : List Int) (hl : l.length < 4611686018427387904) : laws_eqInt64S.F l l = some true := by
  rw [laws_eqInt64S.F_eq, if_pos rfl]
  have := allLoop l (fun _ => true) (fun i => laws_eqInt64S.L0 l l i) true (fun i hi => by
    show laws_eqInt64S.L0 l l i = _
    rw [laws_eqInt64S.L0_eq, if_pos (by omega), if_pos (by omega), if_pos (by omega), wS (by omega)]
    simp) (by
    show laws_eqInt64S.L0 l l _ = _
    rw [laws_eqInt64S.L0_eq, if_neg (by omega)])
  rw [this]; simp
theorem pure_FnExactPanelEdges : laws_FnExactPanelEdges.Pure := by
  intro q a b c hq ha hb hc
  refine of_lim (g := fun k => laws_FnExactPanelEdges.f k q a b c) ?_
  show laws_FnExactPanelEdges.F q a b c = some true
  obtain ⟨r, hr, h⟩ := laws_szSpotS_val q 1048576 hq.1 (by omega) (by omega)
  rcases h with h | ⟨h1, h2, h3⟩
  · rw [laws_FnExactPanelEdges.F_eq, hr]; simp only [Option.bind_some]; rw [if_pos h]
  · have hm : (q.map spotTo).length ≤ 1048576 := by rw [List.length_map]; omega
    have e3 := laws_toSpotS_val q (by omega)
    generalize q.map spotTo = l at e3 hm
    have e4 := laws_eqSpotS_val l (by omega)
    have e5 := laws_markSpotS_val l 1 (by omega) (by omega)
    obtain ⟨y, z, e1, e2, hy⟩ : ∃ y z, spec_PanelEdges.F l a b c = some (y, z) ∧ impl_PanelEdges.F l a b c = some (y, z) ∧ y.length ≤ 41 := by
      rw [spec_PanelEdges.F_eq, impl_PanelEdges.F_eq, spec_l15Code_val l a b c (by omega), impl_weaveCode_val l a b c (by omega)]
      simp only [Option.bind_some]
      by_cases hz : weaveCodeZ l a b c = 0
      · obtain ⟨hs, hw, _, hk⟩ := weaveCode_0 hz
        rw [if_pos hz, if_pos hz, spec_l15Edges_val l a b c hs hw, impl_panelEdges_val l a b c hs hw]
        exact ⟨_, _, rfl, rfl, by rw [edges_len]; omega⟩
      · rw [if_neg hz, if_neg hz]
        exact ⟨_, _, rfl, rfl, by simp⟩
    have e6 := laws_eqInt64S_val y (by omega)
    have e7 := laws_markInt64S_val y 1 (by omega) (by omega)
    have e8 := laws_heldInt64S_val y.length 1 (by omega) (by omega)
    have n2 : ¬ r < 0 := by omega
    have n3 : ¬ (1 + 2 * (l.length : Int) < 0) := by omega
    have n4 : ¬ (1 + (y.length : Int) < 0) := by omega
    simp [laws_FnExactPanelEdges.F_eq, laws_FnExactPanelEdges.J0_eq, laws_FnExactPanelEdges.J1_eq, laws_FnExactPanelEdges.J2_eq, laws_toWeave.f, hr, n2, e3, e4, e1, e2, e5, n3, e6, e7, e8, n4]
end Go.Proofs.Ytmljmfepnlpgfaa.PFnExactPanelEdges
namespace Go.Proofs.Ytmljmfepnlpgfaa.Pure
theorem FnExactPanelEdges : PFnExactPanelEdges.laws_FnExactPanelEdges.Pure := PFnExactPanelEdges.pure_FnExactPanelEdges
end Go.Proofs.Ytmljmfepnlpgfaa.Pure
