/-
  The pure side of FnExactOverlapsOf: the program's OverlapsOf tells what the reference's tells. No conditions.
-/
import Derived.Test.YtlphfgbeeckjnaaQFnExactOverlapsOf
set_option linter.unusedVariables false
set_option linter.unusedSimpArgs false
set_option linter.unnecessarySimpa false
namespace Go.Proofs.Ytlphfgbeeckjnaa.PFnExactOverlapsOf
open Go.RowKit Go.Proofs.Ytlphfgbeeckjnaa.Kit Go.Proofs.YtlphfgbeeckjnaaW.PrintWords Go.Proofs.YtlphfgbeeckjnaaW.PrintLast Go.Proofs.YtlphfgbeeckjnaaW.PrintMore

theorem laws_szSpotS_val (l : List S176) (n : Int) (h : l.length ≤ 9223372036854775807) (hn : 0 ≤ n) (hn2 : n ≤ 1048576) : ∃ r, laws_szSpotS.f l n = some r ∧ (r < 0 ∨ 0 ≤ r ∧ r ≤ n ∧ (l.length : Int) ≤ n) := by
  unfold laws_szSpotS.f
  rw [w64 (by omega) (by omega)]
  by_cases hc : n < l.length
  · exact ⟨-1, by rw [if_pos (by omega)], Or.inl (by omega)⟩
  · exact ⟨n - l.length, by rw [if_neg (by omega)], Or.inr (by omega)⟩
theorem laws_szHung_val (s : ByteArray) (l : List S176) (b : Bool) (n : Int) (hs : s.size ≤ 9223372036854775807) (h : l.length ≤ 9223372036854775807) (hn : 0 ≤ n) (hn2 : n ≤ 1048576) : ∃ r, laws_szHung.f s l b n = some r ∧ (r < 0 ∨ 0 ≤ r ∧ r ≤ n ∧ (s.size : Int) ≤ n ∧ (l.length : Int) ≤ n) := by
  unfold laws_szHung.f
  rw [w64 (by omega) (by omega)]
  by_cases hc : n - (s.size : Int) < 0
  · exact ⟨-1, by rw [if_pos hc], Or.inl (by omega)⟩
  · rw [if_neg hc]
    obtain ⟨r, hr, h1⟩ := laws_szSpotS_val l (n - (s.size : Int)) h (by omega) (by omega)
    rw [hr]; simp only [Option.bind_some]
    rcases h1 with h1 | h1
    · exact ⟨-1, by rw [if_pos h1], Or.inl (by omega)⟩
    · exact ⟨r, by rw [if_neg (by omega)], Or.inr (by omega)⟩
/-- What a sum of sizes tells: it is less than 0, or all that it adds up is small. -/
theorem szLoop {α : Type} (l : List α) (small : α → Prop) (n : Int) (hn0 : 0 ≤ n) (g : Int → Int → Option Int) (h : ∀ (i : Nat) (s : Int) (hi : i < l.length), 0 ≤ s → s ≤ n → g s (i : Int) = some (-1) ∨ ∃ s', g s (i : Int) = g s' ((i + 1 : Nat) : Int) ∧ 0 ≤ s' ∧ s' ≤ s ∧ small l[i]) (he : ∀ s, g s (l.length : Int) = some s) :
    ∃ r, g n 0 = some r ∧ (r < 0 ∨ 0 ≤ r ∧ r ≤ n ∧ ∀ y ∈ l, small y) := by
  have key : ∀ (d i : Nat) (s : Int), i + d = l.length → 0 ≤ s → s ≤ n → (∀ y ∈ l.take i, small y) → ∃ r, g s (i : Int) = some r ∧ (r < 0 ∨ 0 ≤ r ∧ r ≤ n ∧ ∀ y ∈ l, small y) := by
    intro d
    induction d with
    | zero =>
      intro i s hd h0 h1 hs
      rw [show (i : Int) = (l.length : Int) by omega, he]
      rw [List.take_of_length_le (by omega)] at hs
      exact ⟨s, rfl, Or.inr ⟨h0, h1, hs⟩⟩
    | succ d ih =>
      intro i s hd h0 h1 hs
      have hi : i < l.length := by omega
      rcases h i s hi h0 h1 with h2 | ⟨s', h2, h3, h4, h5⟩
      · exact ⟨-1, h2, Or.inl (by omega)⟩
      · rw [h2]
        refine ih (i + 1) s' (by omega) h3 (by omega) (fun y hy => ?_)
        rw [List.take_succ_eq_append_getElem hi, List.mem_append, List.mem_singleton] at hy
        rcases hy with h6 | rfl
        · exact hs y h6
        · exact h5
  exact key l.length 0 n (by omega) hn0 (Int.le_refl _) (by simp)
theorem rdLHung (l : List S74) (i : Nat) (h : i < l.length) : rd_T74 l (i : Int) = l[i] := by simp [rd_T74, h]
theorem laws_szHungS_val (l : List S74) (n : Int) (h : l.length ≤ 9223372036854775807) (hy : ∀ y ∈ l, y.f0.size ≤ 9223372036854775807 ∧ y.f1.length ≤ 9223372036854775807) (hn : 0 ≤ n) (hn2 : n ≤ 1048576) : ∃ r, laws_szHungS.F l n = some r ∧ (r < 0 ∨ 0 ≤ r ∧ r ≤ n ∧ (l.length : Int) ≤ n ∧ ∀ y ∈ l, (y.f0.size : Int) ≤ n ∧ (y.f1.length : Int) ≤ n) := by
  rw [laws_szHungS.F_eq, w64 (by omega) (by omega)]
  by_cases hc : n - (l.length : Int) < 0
  · exact ⟨-1, by rw [if_pos hc], Or.inl (by omega)⟩
  · rw [if_neg hc]
    obtain ⟨r, hr, h1⟩ := szLoop l (fun y => (y.f0.size : Int) ≤ n ∧ (y.f1.length : Int) ≤ n) (n - (l.length : Int)) (by omega) (fun s i => laws_szHungS.L0 l s i) (fun i s hi h0 h2 => by
      show laws_szHungS.L0 l s i = _ ∨ ∃ s', laws_szHungS.L0 l s i = laws_szHungS.L0 l s' _ ∧ _
      rw [laws_szHungS.L0_eq, if_pos (by omega), if_pos (by omega), rdLHung l i hi, wS (by omega)]
      have hyi := hy _ (List.getElem_mem hi)
      obtain ⟨q, hq, h3⟩ := laws_szHung_val l[i].f0 l[i].f1 l[i].f2 s hyi.1 hyi.2 h0 (by omega)
      rw [hq]
      simp only [Option.bind_some]
      rcases h3 with h3 | ⟨h3, h4, h5, h6⟩
      · left; rw [if_pos h3]
      · right; exact ⟨q, by rw [if_neg (by omega)], h3, h4, by omega, by omega⟩) (fun s => by
      show laws_szHungS.L0 l s _ = _
      rw [laws_szHungS.L0_eq, if_neg (by omega)])
    refine ⟨r, hr, ?_⟩
    rcases h1 with h1 | ⟨h1, h2, h3⟩
    · exact Or.inl h1
    · exact Or.inr ⟨h1, by omega, by omega, h3⟩
theorem rdLSpot (l : List S176) (i : Nat) (h : i < l.length) : rd_T176 l (i : Int) = l[i] := by simp [rd_T176, h]
def spotTo (p : S176) : S129 := ⟨p.f0, p.f1⟩
theorem laws_toSpotS_val (l : List S176) (hl : l.length ≤ 1048576) : laws_toSpotS.F l = some (l.map spotTo) := by
  rw [laws_toSpotS.F_eq, if_pos (by omega), if_pos (by omega), Int.toNat_natCast]
  have := fillLoop (l.map spotTo) z129 (fun s i => laws_toSpotS.L0 l s i) (fun i s hi hs => by
    rw [List.length_map] at hi hs
    show laws_toSpotS.L0 l s i = _
    rw [laws_toSpotS.L0_eq, if_pos (by omega), if_pos (by omega), rdLSpot l i hi, wS (by omega)]
    unfold laws_toSpot.f
    simp only [Option.bind_some]
    rw [if_pos (by omega), Int.toNat_natCast, List.getElem_map]
    rfl)
  rw [List.length_map] at this
  refine this.trans ?_
  show laws_toSpotS.L0 l _ _ = _
  rw [laws_toSpotS.L0_eq, if_neg (by omega)]
theorem laws_toHung_val (s : ByteArray) (l : List S176) (b : Bool) (hl : l.length ≤ 1048576) : laws_toHung.F s l b = some (s, l.map spotTo, b) := by
  rw [laws_toHung.F_eq, laws_toSpotS_val l hl]; rfl
def hungTo (p : S74) : S79 := ⟨p.f0, p.f1.map spotTo, p.f2⟩
theorem laws_toHungS_val (l : List S74) (hl : l.length ≤ 1048576) (hy : ∀ y ∈ l, y.f1.length ≤ 1048576) : laws_toHungS.F l = some (l.map hungTo) := by
  rw [laws_toHungS.F_eq, if_pos (by omega), if_pos (by omega), Int.toNat_natCast]
  have := fillLoop (l.map hungTo) z79 (fun s i => laws_toHungS.L0 l s i) (fun i s hi hs => by
    rw [List.length_map] at hi hs
    show laws_toHungS.L0 l s i = _
    rw [laws_toHungS.L0_eq, if_pos (by omega), if_pos (by omega), rdLHung l i hi, wS (by omega), laws_toHung_val _ _ _ (hy _ (List.getElem_mem hi))]
    simp only [Option.bind_some]
    rw [if_pos (by omega), Int.toNat_natCast, List.getElem_map]
    rfl)
  rw [List.length_map] at this
  refine this.trans ?_
  show laws_toHungS.L0 l _ _ = _
  rw [laws_toHungS.L0_eq, if_neg (by omega)]
theorem laws_eqSpotS_val (l : List S129) (hl : l.length < 4611686018427387904) : laws_eqSpotS.F l l = some true := by
  rw [laws_eqSpotS.F_eq, if_pos rfl]
  have := allLoop l (fun _ => true) (fun i => laws_eqSpotS.L0 l l i) true (fun i hi => by
    show laws_eqSpotS.L0 l l i = _
    rw [laws_eqSpotS.L0_eq, if_pos (by omega), if_pos (by omega), if_pos (by omega), wS (by omega)]
    unfold laws_eqSpot.f
    simp) (by
    show laws_eqSpotS.L0 l l _ = _
    rw [laws_eqSpotS.L0_eq, if_neg (by omega)])
  rw [this]; simp
theorem laws_eqHung_val (s : ByteArray) (l : List S129) (b : Bool) (hl : l.length < 4611686018427387904) : laws_eqHung.F s l b s l b = some true := by
  rw [laws_eqHung.F_eq, if_pos rfl, laws_eqSpotS_val l hl]
  simp
theorem rdIHung (l : List S79) (i : Nat) (h : i < l.length) : rd_T79 l (i : Int) = l[i] := by simp [rd_T79, h]
theorem laws_eqHungS_val (l : List S79) (hl : l.length < 4611686018427387904) (hy : ∀ y ∈ l, y.f1.length < 4611686018427387904) : laws_eqHungS.F l l = some true := by
  rw [laws_eqHungS.F_eq, if_pos rfl]
  have := allLoop l (fun _ => true) (fun i => laws_eqHungS.L0 l l i) true (fun i hi => by
    show laws_eqHungS.L0 l l i = _
    rw [laws_eqHungS.L0_eq, if_pos (by omega), if_pos (by omega), if_pos (by omega), wS (by omega), rdIHung l i hi, laws_eqHung_val _ _ _ (hy _ (List.getElem_mem hi))]
    rfl) (by
    show laws_eqHungS.L0 l l _ = _
    rw [laws_eqHungS.L0_eq, if_neg (by omega)])
  rw [this]; simp
/-- What the laws do with a plan that came in. -/
theorem plan_args (l : List S74) (c d n : Int) (hn0 : 0 ≤ n) (hn1 : n ≤ 1048576) (h : l.length ≤ 9223372036854775807) (hy : ∀ y ∈ l, y.f0.size ≤ 9223372036854775807 ∧ y.f1.length ≤ 9223372036854775807) : ∃ r, laws_szPlan.F l c d n = some r ∧ (r < 0 ∨ ¬ r < 0 ∧ r ≤ n ∧ l.length ≤ 1048576 ∧ ∃ m : List S79, m = l.map hungTo ∧ m.length = l.length ∧ (∀ y ∈ m, y.f0.size ≤ 1048576 ∧ y.f1.length ≤ 1048576) ∧ laws_toPlan.F l c d = some (m, c, d) ∧ laws_eqPlan.F m c d m c d = some true) := by
  obtain ⟨r, hr, h1⟩ := laws_szHungS_val l n h hy hn0 hn1
  rw [laws_szPlan.F_eq, hr]
  simp only [Option.bind_some]
  rcases h1 with h1 | ⟨h1, h2, h3, h4⟩
  · exact ⟨-1, by rw [if_pos h1], Or.inl (by omega)⟩
  · have h5 : ∀ y ∈ l.map hungTo, y.f0.size ≤ 1048576 ∧ y.f1.length ≤ 1048576 := by
      intro y hy2
      obtain ⟨z, hz, rfl⟩ := List.mem_map.1 hy2
      have := h4 z hz
      show z.f0.size ≤ _ ∧ (z.f1.map spotTo).length ≤ _
      rw [List.length_map]
      omega
    refine ⟨r, by rw [if_neg (by omega)], Or.inr ⟨by omega, h2, by omega, l.map hungTo, rfl, by simp, h5, ?_, ?_⟩⟩
    · rw [laws_toPlan.F_eq, laws_toHungS_val l (by omega) (fun y hy2 => by have := h4 y hy2; omega)]; rfl
    · rw [laws_eqPlan.F_eq, laws_eqHungS_val _ (by rw [List.length_map]; omega) (fun y hy2 => by have := h5 y hy2; omega)]
      simp
def inB (n a b : Int) : Bool := decide (a ≤ n) && decide (n ≤ b)
theorem inB_iff (n a b : Int) : inB n a b = true ↔ a ≤ n ∧ n ≤ b := by simp [inB]
theorem inB_no (n a b : Int) : inB n a b = false ↔ ¬ (a ≤ n ∧ n ≤ b) := by rw [← inB_iff]; simp
def charB (n : Int) : Bool := inB n 97 122 || (inB n 48 57 || decide (n = 45))
theorem charB_iff (n : Int) : charB n = true ↔ (97 ≤ n ∧ n ≤ 122) ∨ (48 ≤ n ∧ n ≤ 57) ∨ n = 45 := by
  simp only [charB, Bool.or_eq_true, inB_iff, decide_eq_true_eq]
/-- Whether a text is a name. -/
def nameB (s : ByteArray) : Bool := decide (1 ≤ s.size) && (decide (s.size ≤ 12) && (inB (bt s 0) 97 122 && (List.range s.size).all fun i => charB (bt s (i : Int))))
theorem mul_bd (a b A B : Int) (h1 : -A ≤ a) (h2 : a ≤ A) (h3 : -B ≤ b) (h4 : b ≤ B) : -(A * B) ≤ a * b ∧ a * b ≤ A * B := by
  constructor
  · have x1 := Int.mul_nonneg (show 0 ≤ A + a by omega) (show 0 ≤ B + b by omega)
    have x2 := Int.mul_nonneg (show 0 ≤ A - a by omega) (show 0 ≤ B - b by omega)
    grind
  · have x1 := Int.mul_nonneg (show 0 ≤ A + a by omega) (show 0 ≤ B - b by omega)
    have x2 := Int.mul_nonneg (show 0 ≤ A - a by omega) (show 0 ≤ B + b by omega)
    grind
def R2 (x : Int) : Prop := 0 ≤ x ∧ x ≤ 2000
theorem R2.w {x y : Int} (hx : R2 x) (hy : R2 y) : wrap64 (x - y) = x - y := w64 (by unfold R2 at *; omega) (by unfold R2 at *; omega)
theorem R2.ww {a b c d e f g h : Int} (ha : R2 a) (hb : R2 b) (hc : R2 c) (hd : R2 d) (he : R2 e) (hf : R2 f) (hg : R2 g) (hh : R2 h) : wrap64 ((wrap64 ((wrap64 (a - b)) * (wrap64 (c - d)))) - (wrap64 ((wrap64 (e - f)) * (wrap64 (g - h))))) = (a - b) * (c - d) - (e - f) * (g - h) := by
  rw [ha.w hb, hc.w hd, he.w hf, hg.w hh]
  unfold R2 at *
  have h1 := mul_bd (a - b) (c - d) 2000 2000 (by omega) (by omega) (by omega) (by omega)
  have h2 := mul_bd (e - f) (g - h) 2000 2000 (by omega) (by omega) (by omega) (by omega)
  rw [w64 (n := (a - b) * (c - d)) (by omega) (by omega), w64 (n := (e - f) * (g - h)) (by omega) (by omega), w64 (by omega) (by omega)]
def crossZ (ax ay bx b_y cx cy : Int) : Int := (bx - ax) * (cy - ay) - (b_y - ay) * (cx - ax)
def betB (ax ay bx b_y px py : Int) : Bool := inB px (min ax bx) (max ax bx) && inB py (min ay b_y) (max ay b_y)
def onB (ax ay bx b_y px py : Int) : Bool := decide (crossZ ax ay bx b_y px py = 0) && betB ax ay bx b_y px py
def sidesB (a b c d e f g h : Int) : Bool := (decide (crossZ a b c d e f < 0) && decide (crossZ a b c d g h > 0)) || (decide (crossZ a b c d e f > 0) && decide (crossZ a b c d g h < 0))
def meetB (a b c d e f g h : Int) : Bool := onB a b c d e f || onB a b c d g h || onB e f g h a b || onB e f g h c d || (sidesB a b c d e f g h && sidesB e f g h a b c d)
theorem rdISpot (l : List S129) (i : Nat) (h : i < l.length) : rd_T129 l (i : Int) = l[i] := by simp [rd_T129, h]
/-- A loop from m to n that ends with 'no' at the first place that isn't as it should be. -/
theorem stepLoop {β : Type} (m n : Nat) (p : Nat → Bool) (g : Int → β) (no r : β) (h : ∀ k, m ≤ k → k < n → g (k : Int) = if p k = true then g ((k + 1 : Nat) : Int) else no) (he : ∀ k, n ≤ k → g (k : Int) = r) : g (m : Int) = if (List.range' m (n - m)).all p = true then r else no := by
  have key : ∀ (d i : Nat), n - i = d → m ≤ i → g (i : Int) = if (List.range' i (n - i)).all p = true then r else no := by
    intro d
    induction d with
    | zero =>
      intro i hd hi
      rw [hd, he i (by omega)]; rfl
    | succ d ih =>
      intro i hd hi
      rw [h i hi (by omega), ih (i + 1) (by omega) (by omega), show n - i = (n - (i + 1)) + 1 by omega, List.range'_succ, List.all_cons]
      by_cases hp : p i = true
      · rw [if_pos hp, hp, Bool.true_and]
      · rw [if_neg hp, if_neg (by simp [hp])]
  exact key _ m rfl (Nat.le_refl _)
/-- The x and the y of a sail's spot. -/
def sx (l : List S129) (i : Nat) : Int := (rd_T129 l (i : Int)).f0
def sy (l : List S129) (i : Nat) : Int := (rd_T129 l (i : Int)).f1
theorem sx_def (l : List S129) (i : Nat) : (rd_T129 l (i : Int)).f0 = sx l i := rfl
theorem sy_def (l : List S129) (i : Nat) : (rd_T129 l (i : Int)).f1 = sy l i := rfl
def spotIn (p : S129) : Bool := inB p.f0 0 2000 && inB p.f1 0 2000
theorem spots_R (l : List S129) (h : l.all spotIn = true) (i : Nat) (hi : i < l.length) : R2 (sx l i) ∧ R2 (sy l i) := by
  have := List.all_eq_true.1 h l[i] (List.getElem_mem hi)
  simp only [spotIn, Bool.and_eq_true, inB_iff] at this
  unfold sx sy
  rw [rdISpot l i hi]
  exact this
def crossAt (l : List S129) (i j k : Nat) : Int := crossZ (sx l i) (sy l i) (sx l j) (sy l j) (sx l k) (sy l k)
def meetAt (l : List S129) (i j h k : Nat) : Bool := meetB (sx l i) (sy l i) (sx l j) (sy l j) (sx l h) (sy l h) (sx l k) (sy l k)
theorem tmodN (i n : Nat) (h : i < 4611686018427387904) : Int.tmod (wrap64 ((i : Int) + 1)) (n : Int) = (((i + 1) % n : Nat) : Int) := by
  rw [w64 (by omega) (by omega), Int.tmod_eq_emod_of_nonneg (by omega)]; push_cast; rfl
theorem tmodN2 (i n : Nat) (h : i < 4611686018427387904) : Int.tmod (wrap64 ((i : Int) + 2)) (n : Int) = (((i + 2) % n : Nat) : Int) := by
  rw [w64 (by omega) (by omega), Int.tmod_eq_emod_of_nonneg (by omega)]; push_cast; rfl
/-- Twice a sail's area, as the machine sums it up. -/
def twZ (l : List S129) : Nat → Int
  | 0 => 0
  | i + 1 => wrap64 (twZ l i + wrap64 (wrap64 (sx l i * sy l ((i + 1) % l.length)) - wrap64 (sx l ((i + 1) % l.length) * sy l i)))
def pairsOk (l : List S129) (i : Nat) : Bool := (List.range' (i + 2) (l.length - (i + 2))).all fun k => !((decide (i > 0) || decide (k < l.length - 1)) && meetAt l i ((i + 1) % l.length) k ((k + 1) % l.length))
def sailB (l : List S129) : Bool := decide (3 ≤ l.length) && decide (l.length ≤ 8) && (l.all spotIn && ((List.range l.length).all (fun i => decide (crossAt l i ((i + 1) % l.length) ((i + 2) % l.length) ≠ 0) && pairsOk l i) && decide (twZ l l.length > 0)))
theorem sailB_len {l : List S129} (h : sailB l = true) : 3 ≤ l.length ∧ l.length ≤ 8 ∧ l.all spotIn = true := by
  simp only [sailB, Bool.and_eq_true, decide_eq_true_eq] at h
  exact ⟨h.1.1, h.1.2, h.2.1⟩
theorem idxF_cases {α : Type} (p : α → Bool) (l : List α) : (∃ k, ∃ hk : k < l.length, p l[k] = true ∧ (∀ j (hj : j < k), p (l[j]'(by omega)) = false) ∧ idxF p l = (k : Int)) ∨ ((∀ j (hj : j < l.length), p l[j] = false) ∧ idxF p l = -1) := by
  cases h : l.findIdx? p with
  | some k =>
    left
    obtain ⟨hk, h1, h2⟩ := List.findIdx?_eq_some_iff_getElem.1 h
    exact ⟨k, hk, h1, fun j hj => by simpa using h2 j hj, by unfold idxF; rw [h]⟩
  | none =>
    right
    rw [List.findIdx?_eq_none_iff] at h
    exact ⟨fun j hj => h _ (List.getElem_mem hj), by unfold idxF; rw [List.findIdx?_eq_none_iff.2 h]⟩
theorem idxF_first {α : Type} (p : α → Bool) (l : List α) (i : Nat) (hi : i < l.length) (hp : p l[i] = true) (ha : ∀ j (hj : j < i), p (l[j]'(by omega)) = false) : idxF p l = (i : Int) := by
  rcases idxF_cases p l with ⟨k, hk, h1, h2, e⟩ | ⟨h1, e⟩
  · by_cases h3 : k < i
    · have := ha k h3
      rw [h1] at this; cases this
    · by_cases h4 : i < k
      · have := h2 i h4
        rw [hp] at this; cases this
      · rw [e]; omega
  · have := h1 i hi
    rw [hp] at this; cases this
theorem idxF_take {α : Type} (p : α → Bool) (l : List α) (i : Nat) (hi : i < l.length) (hp : p l[i] = true) : (idxF p l = (i : Int)) ↔ ¬ (idxF p (l.take i) ≥ 0) := by
  have hlen : (l.take i).length = i := by rw [List.length_take]; omega
  rcases idxF_cases p (l.take i) with ⟨k, hk, h1, h2, e⟩ | ⟨h1, e⟩
  · have hk2 : k < i := by omega
    rw [List.getElem_take] at h1
    constructor
    · intro h
      rcases idxF_cases p l with ⟨k', hk', h3, h4, e'⟩ | ⟨h3, e'⟩
      · have : k' = i := by omega
        subst this
        have := h4 k hk2
        rw [h1] at this
        cases this
      · omega
    · intro h; omega
  · constructor
    · intro _; omega
    · intro _
      exact idxF_first p l i hi hp (fun j hj => by have := h1 j (by omega); rwa [List.getElem_take] at this)
/-- A loop that finds the first. -/
theorem findLoop {α : Type} (l : List α) (p : α → Bool) (g : Int → Option Int) (h : ∀ i (hi : i < l.length), g (i : Int) = if p l[i] = true then some (i : Int) else g ((i + 1 : Nat) : Int)) (he : g (l.length : Int) = some (-1)) : g 0 = some (idxF p l) := by
  have key : ∀ (d i : Nat), l.length - i = d → i ≤ l.length → (∀ j (hj : j < i) (hl : j < l.length), p l[j] = false) → g (i : Int) = some (idxF p l) := by
    intro d
    induction d with
    | zero =>
      intro i hd hi ha
      obtain rfl : i = l.length := by omega
      rcases idxF_cases p l with ⟨k, hk, h1, h2, e⟩ | ⟨h1, e⟩
      · have := ha k hk hk
        rw [h1] at this; cases this
      · rw [he, e]
    | succ d ih =>
      intro i hd hi ha
      have hlt : i < l.length := by omega
      rw [h i hlt]
      by_cases hp : p l[i] = true
      · rw [if_pos hp, idxF_first p l i hlt hp (fun j hj => ha j hj (by omega))]
      · rw [if_neg hp]
        refine ih (i + 1) (by omega) (by omega) (fun j hj hl => ?_)
        by_cases e : j = i
        · subst e; simpa using hp
        · exact ha j (by omega) hl
  exact key l.length 0 (by omega) (by omega) (fun j hj => absurd hj (Nat.not_lt_zero _))
def hungAt (m : List S79) (i : Nat) : Bool := match m[i]? with
  | some x => nameB x.f0 && (sailB x.f1 && decide (¬ idxF (fun y : S79 => decide (y.f0 = x.f0)) (m.take i) ≥ 0))
  | none => true
def planB (m : List S79) (c d : Int) : Bool := (List.range m.length).all (hungAt m) && (decide (m.length ≤ 8) && (inB d 1 5000 && inB c 0 d))
theorem planB_sails {m : List S79} {c d : Int} (h : planB m c d = true) : m.length ≤ 8 ∧ (1 ≤ d ∧ d ≤ 5000) ∧ (0 ≤ c ∧ c ≤ d) ∧ ∀ y ∈ m, sailB y.f1 = true := by
  simp only [planB, Bool.and_eq_true, decide_eq_true_eq, inB_iff, List.all_eq_true, List.mem_range] at h
  refine ⟨h.2.1, h.2.2.1, h.2.2.2, fun y hy => ?_⟩
  obtain ⟨i, hi, rfl⟩ := List.getElem_of_mem hy
  have := h.1 i hi
  simp only [hungAt, List.getElem?_eq_getElem hi, Bool.and_eq_true] at this
  exact this.2.1
theorem hungAt_eq (m : List S79) (i : Nat) (hi : i < m.length) : hungAt m i = (nameB m[i].f0 && (sailB m[i].f1 && decide (¬ idxF (fun y : S79 => decide (y.f0 = m[i].f0)) (m.take i) ≥ 0))) := by
  unfold hungAt
  rw [List.getElem?_eq_getElem hi]
theorem l17Find_L0 (m : List S79) (c d : Int) (s : ByteArray) (i : Int) : spec_l17Find.L0 [⟨m, c, d⟩] s i = if i < (m.length : Int) then (if 0 ≤ i then (if ((rd_T79 m i).f0).toList = s.toList then some i else spec_l17Find.L0 [⟨m, c, d⟩] s (wrap64 (i + 1))) else none) else some (-1) := spec_l17Find.L0_eq [⟨m, c, d⟩] s i
theorem spec_l17Find_val (m : List S79) (c d : Int) (s : ByteArray) (hl : m.length ≤ 1048576) : spec_l17Find.F [⟨m, c, d⟩] s = some (idxF (fun y : S79 => decide (y.f0 = s)) m) := by
  rw [spec_l17Find.F_eq, if_pos (by simp)]
  refine findLoop m _ (fun i => spec_l17Find.L0 [⟨m, c, d⟩] s i) (fun i hi => ?_) ?_
  · show spec_l17Find.L0 _ _ _ = if _ then _ else spec_l17Find.L0 _ _ _
    rw [l17Find_L0, if_pos (by omega), if_pos (by omega), rdIHung m i hi, wS (by omega)]
    have : (m[i].f0.toList = s.toList) ↔ m[i].f0 = s := by
      rw [ByteArray.toList_eq, ByteArray.toList_eq]
      exact ⟨fun h => ByteArray.ext (Array.toList_inj.mp h), fun h => by rw [h]⟩
    by_cases h : m[i].f0 = s
    · rw [if_pos (this.2 h), if_pos (by simpa using h)]
    · rw [if_neg (fun z => h (this.1 z)), if_neg (by simpa using h)]
  · show spec_l17Find.L0 _ _ _ = _
    rw [l17Find_L0, if_neg (by omega)]
theorem toList_nil (s : ByteArray) : s.toList = ([] : List UInt8) ↔ s.size = 0 := by
  rw [ByteArray.toList_eq]
  constructor
  · intro h
    have := congrArg List.length h
    simpa using this
  · intro h
    apply List.eq_nil_of_length_eq_zero
    simpa using h
theorem spec_l01Small_val (n : Int) : spec_l01Small.f n = some (inB n 97 122) := by
  unfold spec_l01Small.f inB
  by_cases h : n ≥ 97
  · rw [if_pos h]; simp [show 97 ≤ n from h]
  · rw [if_neg h]; simp; omega
theorem spec_l01Digit_val (n : Int) : spec_l01Digit.f n = some (inB n 48 57) := by
  unfold spec_l01Digit.f inB
  by_cases h : n ≥ 48
  · rw [if_pos h]; simp [show 48 ≤ n from h]
  · rw [if_neg h]; simp; omega
theorem spec_IsName_val (s : ByteArray) (hs : s.size ≤ 1048576) : spec_IsName.F s = some (nameB s) := by
  rw [spec_IsName.F_eq]
  unfold nameB
  by_cases h0 : s.size = 0
  · rw [if_pos ((toList_nil s).2 h0), spec_IsName.J0_eq, if_pos rfl]
    simp [h0]
  · rw [if_neg (fun h => h0 ((toList_nil s).1 h)), show decide (1 ≤ s.size) = true from decide_eq_true (by omega), Bool.true_and]
    by_cases h1 : (s.size : Int) > 12
    · rw [if_pos h1, spec_IsName.J0_eq, if_pos rfl, show decide (s.size ≤ 12) = false from decide_eq_false (by omega), Bool.false_and]
    · rw [if_neg h1, if_pos (by omega), spec_l01Small_val]
      simp only [Option.bind_some]
      rw [show decide (s.size ≤ 12) = true from decide_eq_true (by omega), Bool.true_and, spec_IsName.J0_eq]
      cases h2 : inB (bt s 0) 97 122
      · simp
      · rw [if_neg (by simp), Bool.true_and, ← Bool.and_true (List.all _ _)]
        refine allRange s.size _ (fun i => spec_IsName.L0 s i) true (fun i hi => ?_) ?_
        · show spec_IsName.L0 s _ = if _ then spec_IsName.L0 s _ else _
          rw [spec_IsName.L0_eq, if_pos (by omega), if_pos (by omega), wS (by omega)]
          simp only [spec_l01Small_val, spec_l01Digit_val, Option.bind_some]
          unfold charB
          cases inB (bt s (i : Int)) 97 122 <;> cases inB (bt s (i : Int)) 48 57 <;> by_cases h3 : bt s (i : Int) = 45 <;> simp [h3]
        · show spec_IsName.L0 s _ = _
          rw [spec_IsName.L0_eq, if_neg (by omega)]
theorem spec_l13Twice_val (l : List S129) (hn : 0 < l.length) (hl : l.length < 4611686018427387904) : spec_l13Twice.F l = some (twZ l l.length) := by
  rw [spec_l13Twice.F_eq]
  have := iterF (fun s i => spec_l13Twice.L0 l s i) l.length (twZ l) (fun i hi => by
    show spec_l13Twice.L0 l _ _ = spec_l13Twice.L0 l _ _
    have hm := Nat.mod_lt (i + 1) hn
    rw [spec_l13Twice.L0_eq, if_pos (by omega), if_neg (by omega), tmodN i l.length (by omega), if_pos (by omega), if_pos (by omega), if_pos (by omega), wS (by omega)]
    rfl)
  refine Eq.trans this ?_
  show spec_l13Twice.L0 l _ _ = _
  rw [spec_l13Twice.L0_eq, if_neg (by omega)]
theorem spec_l13Cross_val {a b c d e f : Int} (ha : R2 a) (hb : R2 b) (hc : R2 c) (hd : R2 d) (he : R2 e) (hf : R2 f) : spec_l13Cross.f a b c d e f = some (crossZ a b c d e f) := by
  unfold spec_l13Cross.f crossZ
  rw [hc.ww ha hf hb hd hb he ha]
theorem spec_l00Min_val (a b : Int) : spec_l00Min.f a b = some (min a b) := by unfold spec_l00Min.f; rw [Int.min_def]; split <;> split <;> first | rfl | (congr 1; omega)
theorem spec_l00Max_val (a b : Int) : spec_l00Max.f a b = some (max a b) := by unfold spec_l00Max.f; rw [Int.max_def]; split <;> split <;> first | rfl | (congr 1; omega)
theorem spec_l00In_val (n a b : Int) : spec_l00In.f n a b = some (inB n a b) := by
  unfold spec_l00In.f inB
  by_cases h : n ≥ a
  · rw [if_pos h]; simp [show a ≤ n from h]
  · rw [if_neg h]; simp; omega
theorem spec_l13On_val {a b c d e f : Int} (ha : R2 a) (hb : R2 b) (hc : R2 c) (hd : R2 d) (he : R2 e) (hf : R2 f) : spec_l13On.f a b c d e f = some (onB a b c d e f) := by
  unfold spec_l13On.f onB betB
  simp only [spec_l13Cross_val ha hb hc hd he hf, Option.bind_some, spec_l00Min_val, spec_l00Max_val, spec_l00In_val]
  by_cases h : crossZ a b c d e f = 0
  · rw [if_pos h]
    cases inB e (min a c) (max a c) <;> simp [h]
  · rw [if_neg h]; simp [h]
theorem spec_l13Sides_val {a b c d e f g h : Int} (ha : R2 a) (hb : R2 b) (hc : R2 c) (hd : R2 d) (he : R2 e) (hf : R2 f) (hg : R2 g) (hh : R2 h) : spec_l13Sides.f a b c d e f g h = some (sidesB a b c d e f g h) := by
  unfold spec_l13Sides.f sidesB
  simp only [spec_l13Cross_val ha hb hc hd he hf, spec_l13Cross_val ha hb hc hd hg hh, Option.bind_some]
  generalize crossZ a b c d e f = x
  generalize crossZ a b c d g h = y
  by_cases h1 : x < 0 <;> by_cases h2 : y > 0 <;> by_cases h3 : x > 0 <;> simp [h1, h2, h3] <;> omega
theorem spec_l13Meet_val {a b c d e f g h : Int} (ha : R2 a) (hb : R2 b) (hc : R2 c) (hd : R2 d) (he : R2 e) (hf : R2 f) (hg : R2 g) (hh : R2 h) : spec_l13Meet.F a b c d e f g h = some (meetB a b c d e f g h) := by
  rw [spec_l13Meet.F_eq]
  simp only [spec_l13On_val ha hb hc hd he hf, spec_l13On_val ha hb hc hd hg hh, spec_l13On_val he hf hg hh ha hb, spec_l13On_val he hf hg hh hc hd, Option.bind_some, spec_l13Meet.J0_eq, spec_l13Sides_val ha hb hc hd he hf hg hh, spec_l13Sides_val he hf hg hh ha hb hc hd]
  unfold meetB
  cases onB a b c d e f <;> cases onB a b c d g h <;> cases onB e f g h a b <;> cases onB e f g h c d <;> cases sidesB a b c d e f g h <;> simp
/-- A loop that ends with one answer at the first element that isn't as it should be, with another one behind the last. -/
theorem allTo {α β : Type} (l : List α) (p : α → Bool) (g : Int → β) (no r : β) (h : ∀ i (hi : i < l.length), g (i : Int) = if p l[i] = true then g ((i + 1 : Nat) : Int) else no) (he : g (l.length : Int) = r) : g 0 = if l.all p = true then r else no := by
  have key : ∀ (d i : Nat), l.length - i = d → i ≤ l.length → g (i : Int) = if (l.drop i).all p = true then r else no := by
    intro d
    induction d with
    | zero =>
      intro i hd hi
      obtain rfl : i = l.length := by omega
      rw [he]; simp
    | succ d ih =>
      intro i hd hi
      have hlt : i < l.length := by omega
      rw [h i hlt, ih (i + 1) (by omega) (by omega), List.drop_eq_getElem_cons hlt, List.all_cons]
      by_cases hp : p l[i] = true
      · rw [if_pos hp, hp, Bool.true_and]
      · rw [if_neg hp, if_neg (by simp [hp])]
  have := key l.length 0 (by omega) (by omega)
  simpa using this
theorem spec_l13Ok_val (l : List S129) (hl : l.length < 2305843009213693952) : spec_l13Ok.F l = some (sailB l) := by
  rw [spec_l13Ok.F_eq, spec_l00In_val]
  simp only [Option.bind_some]
  by_cases hc : 3 ≤ l.length ∧ l.length ≤ 8
  · obtain ⟨h3, h8⟩ := hc
    rw [if_pos ((inB_iff _ _ _).2 (by omega))]
    unfold sailB
    rw [show (decide (3 ≤ l.length) && decide (l.length ≤ 8)) = true by simp [h3, h8], Bool.true_and]
    have e0 := allTo l spotIn (fun i => spec_l13Ok.L0 l (l.length : Int) i) (some false) _ (fun i hi => by
      show spec_l13Ok.L0 l _ _ = if _ then spec_l13Ok.L0 l _ _ else _
      rw [spec_l13Ok.L0_eq, if_pos (by omega), if_pos (by omega), if_pos (by omega), rdISpot l i hi, wS (by omega)]
      simp only [spec_l00In_val, Option.bind_some]
      unfold spotIn
      rw [ite_band]) (by
      show spec_l13Ok.L0 l _ _ = _
      rw [spec_l13Ok.L0_eq, if_neg (by omega)])
    refine e0.trans ?_
    by_cases ha : l.all spotIn = true
    · rw [if_pos ha, ha, Bool.true_and]
      have hR := spots_R l ha
      have hM : ∀ i, i % l.length < l.length := fun i => Nat.mod_lt i (by omega)
      refine allRange l.length _ (fun i => spec_l13Ok.L1 l (l.length : Int) i) _ (fun i hi => ?_) ?_
      · show spec_l13Ok.L1 l _ _ = if _ then spec_l13Ok.L1 l _ _ else _
        have hm1 := hM (i + 1)
        have hm2 := hM (i + 2)
        rw [spec_l13Ok.L1_eq, if_pos (by omega), if_pos (by omega), if_pos (by omega), if_neg (by omega), tmodN i l.length (by omega), tmodN2 i l.length (by omega), if_pos (by omega), if_pos (by omega), if_pos (by omega), if_pos (by omega)]
        simp only [sx_def, sy_def]
        rw [spec_l13Cross_val (hR i hi).1 (hR i hi).2 (hR _ hm1).1 (hR _ hm1).2 (hR _ hm2).1 (hR _ hm2).2]
        simp only [Option.bind_some]
        rw [ite_band]
        show (if crossAt l i _ _ = 0 then _ else _) = _
        by_cases hcr : crossAt l i ((i + 1) % l.length) ((i + 2) % l.length) = 0
        · rw [if_pos hcr, if_neg (by simp [hcr])]
        · rw [if_neg hcr, if_pos (by simp [hcr]), w64 (by omega) (by omega), show ((i : Int) + 2) = ((i + 2 : Nat) : Int) by omega]
          refine stepLoop (i + 2) l.length _ (fun k => spec_l13Ok.L2 l (l.length : Int) i k _ _ _ _) _ _ (fun k hk1 hk => ?_) (fun k hk => ?_)
          · show spec_l13Ok.L2 l _ _ _ _ _ _ _ = if _ then spec_l13Ok.L2 l _ _ _ _ _ _ _ else _
            have hk3 := hM (k + 1)
            rw [spec_l13Ok.L2_eq, if_pos (by omega), tmodN k l.length (by omega), w64 (n := (l.length : Int) - 1) (by omega) (by omega), wS (i := k) (by omega)]
            simp only [sx_def, sy_def, spec_l13Meet_val (hR i hi).1 (hR i hi).2 (hR _ hm1).1 (hR _ hm1).2 (hR k hk).1 (hR k hk).2 (hR _ hk3).1 (hR _ hk3).2, Option.bind_some]
            rw [show meetB (sx l i) (sy l i) (sx l ((i + 1) % l.length)) (sy l ((i + 1) % l.length)) (sx l k) (sy l k) (sx l ((k + 1) % l.length)) (sy l ((k + 1) % l.length)) = meetAt l i ((i + 1) % l.length) k ((k + 1) % l.length) from rfl]
            have c1 : ((i : Int) > 0) ↔ i > 0 := by omega
            have c2 : ((k : Int) < (l.length : Int) - 1) ↔ k < l.length - 1 := by omega
            rw [if_pos (show (0 : Int) ≤ (k : Int) by omega), if_pos (show (k : Int) < (l.length : Int) by omega), if_neg (show ¬ (l.length : Int) = 0 by omega), if_pos (show (0 : Int) ≤ (((k + 1) % l.length : Nat) : Int) by omega), if_pos (show (((k + 1) % l.length : Nat) : Int) < (l.length : Int) by omega)]
            simp only [c1, c2]
            cases meetAt l i ((i + 1) % l.length) k ((k + 1) % l.length) <;> by_cases h1 : i > 0 <;> by_cases h2 : k < l.length - 1 <;> simp [h1, h2]
          · show spec_l13Ok.L2 l _ _ _ _ _ _ _ = _
            rw [spec_l13Ok.L2_eq, if_neg (by omega), wS (by omega)]
      · show spec_l13Ok.L1 l _ _ = _
        rw [spec_l13Ok.L1_eq, if_neg (by omega), spec_l13Twice_val l (by omega) (by omega)]
        rfl
    · rw [if_neg ha]; simp [ha]
  · rw [if_neg (by rw [inB_iff]; omega)]
    unfold sailB
    have : (decide (3 ≤ l.length) && decide (l.length ≤ 8)) = false := by
      rw [← Bool.not_eq_true]; simp only [Bool.and_eq_true, decide_eq_true_eq]; exact hc
    rw [this, Bool.false_and]
theorem l17Ok_L0 (m : List S79) (c d : Int) (i : Int) : spec_l17Ok.L0 [⟨m, c, d⟩] i = if i < (m.length : Int) then (if 0 ≤ i then ((spec_IsName.F ((rd_T79 m i).f0)).bind fun t => (if t = true then ((spec_l17Find.F [⟨m, c, d⟩] ((rd_T79 m i).f0)).bind fun u => (if u = i then ((spec_l13Ok.F ((rd_T79 m i).f1)).bind fun v => (if v = true then (spec_l17Ok.L0 [⟨m, c, d⟩] (wrap64 (i + 1))) else (some false))) else (some false))) else (some false))) else none) else (if (m.length : Int) ≤ 8 then ((spec_l00In.f d 1 5000).bind fun t => (if t = true then ((spec_l00In.f c 0 d).bind fun u => (some u)) else (some false))) else (some false)) := spec_l17Ok.L0_eq [⟨m, c, d⟩] i
theorem spec_l17Ok_val (m : List S79) (c d : Int) (hl : m.length ≤ 1048576) (hy : ∀ y ∈ m, y.f0.size ≤ 1048576 ∧ y.f1.length ≤ 1048576) : spec_l17Ok.F [⟨m, c, d⟩] = some (planB m c d) := by
  rw [spec_l17Ok.F_eq, if_pos (by simp)]
  unfold planB
  refine allRange m.length _ (fun i => spec_l17Ok.L0 [⟨m, c, d⟩] i) _ (fun i hi => ?_) ?_
  · show spec_l17Ok.L0 _ _ = if _ then spec_l17Ok.L0 _ _ else _
    have h1 := hy m[i] (List.getElem_mem hi)
    rw [l17Ok_L0, if_pos (by omega), if_pos (by omega), rdIHung m i hi, wS (by omega), spec_IsName_val _ h1.1, spec_l17Find_val m c d _ hl, spec_l13Ok_val _ (by omega), hungAt_eq m i hi]
    simp only [Option.bind_some]
    have h2 := idxF_take (fun y : S79 => decide (y.f0 = m[i].f0)) m i hi (by simp)
    cases nameB m[i].f0
    · simp
    · by_cases h3 : idxF (fun y : S79 => decide (y.f0 = m[i].f0)) m = (i : Int)
      · rw [if_pos rfl, if_pos h3, show decide (¬ idxF (fun y : S79 => decide (y.f0 = m[i].f0)) (m.take i) ≥ 0) = true from decide_eq_true (h2.1 h3)]
        simp
      · rw [if_pos rfl, if_neg h3, show decide (¬ idxF (fun y : S79 => decide (y.f0 = m[i].f0)) (m.take i) ≥ 0) = false from decide_eq_false (fun z => h3 (h2.2 z))]
        simp
  · show spec_l17Ok.L0 _ _ = _
    rw [l17Ok_L0, if_neg (by omega), spec_l00In_val, spec_l00In_val]
    simp only [Option.bind_some]
    by_cases h : (m.length : Int) ≤ 8
    · rw [if_pos h, show decide (m.length ≤ 8) = true from decide_eq_true (by omega)]
      cases inB d 1 5000 <;> simp
    · rw [if_neg h, show decide (m.length ≤ 8) = false from decide_eq_false (by omega)]; rfl
theorem impl_IsName_val (s : ByteArray) (hs : s.size ≤ 1048576) : impl_IsName.F s = some (nameB s) := by
  rw [impl_IsName.F_eq]
  unfold nameB
  by_cases h0 : (s.size : Int) < 1
  · rw [if_pos h0, impl_IsName.J0_eq, if_pos rfl, show decide (1 ≤ s.size) = false from decide_eq_false (by omega), Bool.false_and]
  · rw [if_neg h0, show decide (1 ≤ s.size) = true from decide_eq_true (by omega), Bool.true_and]
    by_cases h1 : (s.size : Int) > 12
    · rw [if_pos h1, impl_IsName.J0_eq, if_pos rfl, show decide (s.size ≤ 12) = false from decide_eq_false (by omega), Bool.false_and]
    · rw [if_neg h1, if_pos (by omega), show decide (s.size ≤ 12) = true from decide_eq_true (by omega), Bool.true_and]
      have hl : impl_IsName.L0 s 0 = some ((List.range s.size).all (fun i => charB (bt s (i : Int))) && true) := by
        refine allRange s.size _ (fun i => impl_IsName.L0 s i) true (fun i hi => ?_) ?_
        · show impl_IsName.L0 s _ = if _ then impl_IsName.L0 s _ else _
          rw [impl_IsName.L0_eq, if_pos (by omega), if_pos (by omega), wS (by omega)]
          generalize bt s (i : Int) = n
          have hc := charB_iff n
          by_cases h : charB n = true
          · have h' := hc.1 h
            rw [if_pos h]
            repeat' split
            all_goals first | rfl | (exfalso; omega)
          · have h' := fun z => h (hc.2 z)
            rw [if_neg h]
            repeat' split
            all_goals first | rfl | (exfalso; apply h'; omega)
        · show impl_IsName.L0 s _ = _
          rw [impl_IsName.L0_eq, if_neg (by omega)]
      rw [Bool.and_true] at hl
      simp only [impl_IsName.J0_eq, hl]
      unfold inB
      by_cases a1 : bt s 0 < 97
      · rw [if_pos a1, if_pos trivial, show decide (97 ≤ bt s 0) = false from decide_eq_false (by omega)]; rfl
      · rw [if_neg a1]
        by_cases a2 : bt s 0 > 122
        · rw [if_pos (by simpa using a2), show decide (bt s 0 ≤ 122) = false from decide_eq_false (by omega), Bool.and_false]; rfl
        · rw [if_neg (by simpa using a2), show decide (97 ≤ bt s 0) = true from decide_eq_true (by omega), show decide (bt s 0 ≤ 122) = true from decide_eq_true (by omega)]; rfl
theorem impl_twiceSail_val (l : List S129) (hn : 0 < l.length) (hl : l.length < 4611686018427387904) : impl_twiceSail.F l = some (twZ l l.length) := by
  rw [impl_twiceSail.F_eq]
  have := iterF (fun s i => impl_twiceSail.L0 l s l (l.length : Int) i) l.length (twZ l) (fun i hi => by
    show impl_twiceSail.L0 l _ _ _ _ = impl_twiceSail.L0 l _ _ _ _
    have hm := Nat.mod_lt (i + 1) hn
    rw [impl_twiceSail.L0_eq, if_pos (by omega), if_pos (by omega), if_pos (by omega), if_neg (by omega), tmodN i l.length (by omega), if_pos (by omega), if_pos (by omega), wS (by omega)]
    rfl)
  refine Eq.trans this ?_
  show impl_twiceSail.L0 l _ _ _ _ = _
  rw [impl_twiceSail.L0_eq, if_neg (by omega)]
theorem crossZ_bd {a b c d e f : Int} (ha : R2 a) (hb : R2 b) (hc : R2 c) (hd : R2 d) (he : R2 e) (hf : R2 f) : -8000000 ≤ crossZ a b c d e f ∧ crossZ a b c d e f ≤ 8000000 := by
  unfold crossZ R2 at *
  have h1 := mul_bd (c - a) (f - b) 2000 2000 (by omega) (by omega) (by omega) (by omega)
  have h2 := mul_bd (d - b) (e - a) 2000 2000 (by omega) (by omega) (by omega) (by omega)
  omega
theorem impl_turnAt_val {a b c d e f : Int} (ha : R2 a) (hb : R2 b) (hc : R2 c) (hd : R2 d) (he : R2 e) (hf : R2 f) : impl_turnAt.f a b c d e f = some (crossZ a b c d e f) := by
  unfold impl_turnAt.f
  rw [hc.ww ha hf hd hd hb he hc]
  unfold crossZ
  congr 1
  grind
theorem mn_min (a b : Int) : mn a b = min a b := by unfold mn; rw [Int.min_def]; split <;> split <;> omega
theorem mx_max (a b : Int) : mx a b = max a b := by unfold mx; rw [Int.max_def]; split <;> split <;> omega
theorem impl_within_val (n a b : Int) : impl_within.f n a b = some (inB n a b) := by
  unfold impl_within.f inB
  by_cases h : n ≥ a
  · rw [if_pos h]; simp [show a ≤ n from h]
  · rw [if_neg h]; simp; omega
theorem impl_sign_val (x : Int) : impl_sign.f x = some x.sign := by
  unfold impl_sign.f
  by_cases h : x > 0
  · rw [if_pos h, Int.sign_eq_one_of_pos h]
  · by_cases h2 : x < 0
    · rw [if_neg h, if_pos h2, Int.sign_eq_neg_one_of_neg h2]
    · rw [if_neg h, if_neg h2, show x = 0 by omega]; rfl
theorem sign_cross (x y : Int) : decide (wrap64 (x.sign * y.sign) < 0) = ((decide (x < 0) && decide (y > 0)) || (decide (x > 0) && decide (y < 0))) := by
  rcases Int.lt_trichotomy x 0 with hx | hx | hx <;> rcases Int.lt_trichotomy y 0 with hy | hy | hy <;>
    simp only [hx, hy, Int.sign_eq_neg_one_of_neg, Int.sign_eq_one_of_pos, Int.sign_zero] <;> (have := hx; have := hy; simp [wrap64]; try omega)
theorem impl_between_val (a b c d e f : Int) : impl_between.f a b c d e f = some (betB a b c d e f) := by
  unfold impl_between.f betB
  simp only [impl_within_val, mn_min, mx_max, Option.bind_some]
  cases inB e (min a c) (max a c) <;> simp
theorem impl_edgesMeet_val {a b c d e f g h : Int} (ha : R2 a) (hb : R2 b) (hc : R2 c) (hd : R2 d) (he : R2 e) (hf : R2 f) (hg : R2 g) (hh : R2 h) : impl_edgesMeet.F a b c d e f g h = some (meetB a b c d e f g h) := by
  rw [impl_edgesMeet.F_eq]
  simp only [impl_turnAt_val ha hb hc hd he hf, impl_turnAt_val ha hb hc hd hg hh, impl_turnAt_val he hf hg hh ha hb, impl_turnAt_val he hf hg hh hc hd, Option.bind_some, impl_sign_val, impl_edgesMeet.J0_eq, impl_between_val]
  have s1 := sign_cross (crossZ a b c d e f) (crossZ a b c d g h)
  have s2 := sign_cross (crossZ e f g h a b) (crossZ e f g h c d)
  rw [s2]
  unfold meetB onB sidesB
  rw [← s2, ← s1]
  generalize crossZ a b c d e f = x1 at *
  generalize crossZ a b c d g h = x2 at *
  generalize crossZ e f g h a b = x3 at *
  generalize crossZ e f g h c d = x4 at *
  generalize betB a b c d e f = b1
  generalize betB a b c d g h = b2
  generalize betB e f g h a b = b3
  generalize betB e f g h c d = b4
  by_cases hs : wrap64 (x1.sign * x2.sign) < 0
  · rw [if_pos hs]
    by_cases hs2 : wrap64 (x3.sign * x4.sign) < 0
    · simp [hs, hs2]
    · simp only [hs2, decide_false, nf, if_false]
      by_cases h1 : x1 = 0 <;> by_cases h2 : x2 = 0 <;> by_cases h3 : x3 = 0 <;> by_cases h4 : x4 = 0 <;> cases b1 <;> cases b2 <;> cases b3 <;> cases b4 <;> simp [h1, h2, h3, h4]
  · rw [if_neg hs]
    simp only [hs, decide_false, nf, if_false]
    by_cases h1 : x1 = 0 <;> by_cases h2 : x2 = 0 <;> by_cases h3 : x3 = 0 <;> by_cases h4 : x4 = 0 <;> cases b1 <;> cases b2 <;> cases b3 <;> cases b4 <;> simp [h1, h2, h3, h4]
theorem impl_ValidSail_val (l : List S129) (hl : l.length < 2305843009213693952) : impl_ValidSail.F l = some (sailB l) := by
  rw [impl_ValidSail.F_eq]
  simp only [impl_ValidSail.J0_eq]
  by_cases hc : 3 ≤ l.length ∧ l.length ≤ 8
  · obtain ⟨h3, h8⟩ := hc
    rw [if_neg (by omega), if_neg (by simp; omega)]
    unfold sailB
    rw [show (decide (3 ≤ l.length) && decide (l.length ≤ 8)) = true by simp [h3, h8], Bool.true_and]
    have e0 := allTo l spotIn (fun i => impl_ValidSail.L0 l (l.length : Int) l (l.length : Int) i) (some false) _ (fun i hi => by
      show impl_ValidSail.L0 l _ _ _ _ = if _ then impl_ValidSail.L0 l _ _ _ _ else _
      rw [impl_ValidSail.L0_eq, if_pos (by omega), if_pos (by omega), if_pos (by omega), rdISpot l i hi, wS (by omega)]
      simp only [impl_within_val, Option.bind_some]
      unfold spotIn
      rw [ite_band]) (by
      show impl_ValidSail.L0 l _ _ _ _ = _
      rw [impl_ValidSail.L0_eq, if_neg (by omega)])
    refine e0.trans ?_
    by_cases ha : l.all spotIn = true
    · rw [if_pos ha, ha, Bool.true_and]
      have hR := spots_R l ha
      have hM : ∀ i, i % l.length < l.length := fun i => Nat.mod_lt i (by omega)
      have e1 := allTo (List.range l.length) (fun i => decide (crossAt l i ((i + 1) % l.length) ((i + 2) % l.length) ≠ 0)) (fun i => impl_ValidSail.L1 l (l.length : Int) (l.length : Int) i) (some false) (impl_ValidSail.L2 l (l.length : Int) (l.length : Int) 0) (fun i hi => by
        rw [List.length_range] at hi
        rw [List.getElem_range]
        show impl_ValidSail.L1 l _ _ _ = if _ then impl_ValidSail.L1 l _ _ _ else _
        have hm1 := hM (i + 1)
        have hm2 := hM (i + 2)
        rw [impl_ValidSail.L1_eq, if_pos (by omega), if_pos (by omega), if_pos (by omega), if_neg (by omega), tmodN i l.length (by omega), tmodN2 i l.length (by omega), if_pos (by omega), if_pos (by omega), if_pos (by omega), if_pos (by omega)]
        simp only [sx_def, sy_def]
        rw [impl_turnAt_val (hR i hi).1 (hR i hi).2 (hR _ hm1).1 (hR _ hm1).2 (hR _ hm2).1 (hR _ hm2).2, wS (by omega)]
        simp only [Option.bind_some]
        show (if crossAt l i _ _ = 0 then _ else _) = _
        by_cases hcr : crossAt l i ((i + 1) % l.length) ((i + 2) % l.length) = 0
        · rw [if_pos hcr, if_neg (by simp [hcr])]
        · rw [if_neg hcr, if_pos (by simp [hcr])]) (by
        rw [List.length_range]
        show impl_ValidSail.L1 l _ _ _ = _
        rw [impl_ValidSail.L1_eq, if_neg (by omega)])
      refine e1.trans ?_
      have e2 : impl_ValidSail.L2 l (l.length : Int) (l.length : Int) 0 = some ((List.range l.length).all (pairsOk l) && decide (twZ l l.length > 0)) := by
        refine allRange l.length _ (fun i => impl_ValidSail.L2 l (l.length : Int) (l.length : Int) i) _ (fun i hi => ?_) ?_
        · show impl_ValidSail.L2 l _ _ _ = if _ then impl_ValidSail.L2 l _ _ _ else _
          have hm1 := hM (i + 1)
          rw [impl_ValidSail.L2_eq, if_pos (by omega), w64 (n := (i : Int) + 2) (by omega) (by omega), show ((i : Int) + 2) = ((i + 2 : Nat) : Int) by omega]
          refine stepLoop (i + 2) l.length _ (fun k => impl_ValidSail.L3 l (l.length : Int) i k _ _) _ _ (fun k hk1 hk => ?_) (fun k hk => ?_)
          · show impl_ValidSail.L3 l _ _ _ _ _ = if _ then impl_ValidSail.L3 l _ _ _ _ _ else _
            have hk3 := hM (k + 1)
            have hi1 : (i + 1) % l.length = i + 1 := Nat.mod_eq_of_lt (by omega)
            rw [hi1] at hm1
            rw [impl_ValidSail.L3_eq, if_pos (by omega), if_neg (by omega), tmodN k l.length (by omega), wS (i := k) (by omega), wS (i := i) (by omega), if_pos (show (0 : Int) ≤ (i : Int) by omega), if_pos (show (i : Int) < (l.length : Int) by omega), if_pos (show (0 : Int) ≤ ((i + 1 : Nat) : Int) by omega), if_pos (show ((i + 1 : Nat) : Int) < (l.length : Int) by omega), if_pos (show (0 : Int) ≤ (k : Int) by omega), if_pos (show (k : Int) < (l.length : Int) by omega), if_pos (show (0 : Int) ≤ (((k + 1) % l.length : Nat) : Int) by omega), if_pos (show (((k + 1) % l.length : Nat) : Int) < (l.length : Int) by omega)]
            simp only [sx_def, sy_def, impl_edgesMeet_val (hR i hi).1 (hR i hi).2 (hR _ hm1).1 (hR _ hm1).2 (hR k hk).1 (hR k hk).2 (hR _ hk3).1 (hR _ hk3).2, Option.bind_some]
            rw [hi1]
            rw [show meetB (sx l i) (sy l i) (sx l (i + 1)) (sy l (i + 1)) (sx l k) (sy l k) (sx l ((k + 1) % l.length)) (sy l ((k + 1) % l.length)) = meetAt l i (i + 1) k ((k + 1) % l.length) from rfl]
            have hcase : ((((k + 1) % l.length : Nat) : Int) = (i : Int)) ↔ ¬ (i > 0 ∨ k < l.length - 1) := by
              by_cases hlast : k + 1 = l.length
              · rw [hlast, Nat.mod_self]; omega
              · rw [Nat.mod_eq_of_lt (by omega)]; omega
            by_cases hq : i > 0 ∨ k < l.length - 1
            · rw [if_neg (by rw [hcase]; exact fun h => h hq)]
              have : (decide (i > 0) || decide (k < l.length - 1)) = true := by simpa using hq
              rw [this]
              cases meetAt l i (i + 1) k ((k + 1) % l.length) <;> simp
            · rw [if_pos (hcase.2 hq)]
              have : (decide (i > 0) || decide (k < l.length - 1)) = false := by rw [← Bool.not_eq_true]; simpa using hq
              rw [this]; simp
          · show impl_ValidSail.L3 l _ _ _ _ _ = _
            rw [impl_ValidSail.L3_eq, if_neg (by omega), wS (by omega)]
        · show impl_ValidSail.L2 l _ _ _ = _
          rw [impl_ValidSail.L2_eq, if_neg (by omega), impl_twiceSail_val l (by omega) (by omega)]
          rfl
      rw [e2]
      generalize decide (twZ l l.length > 0) = t
      by_cases hA : (List.range l.length).all (fun i => decide (crossAt l i ((i + 1) % l.length) ((i + 2) % l.length) ≠ 0)) = true
      · rw [if_pos hA]
        congr 2
        rw [Bool.eq_iff_iff]
        simp only [List.all_eq_true, Bool.and_eq_true] at hA ⊢
        exact ⟨fun h x hx => ⟨hA x hx, h x hx⟩, fun h x hx => (h x hx).2⟩
      · rw [if_neg hA]
        have : (List.range l.length).all (fun i => decide (crossAt l i ((i + 1) % l.length) ((i + 2) % l.length) ≠ 0) && pairsOk l i) = false := by
          rw [← Bool.not_eq_true]
          intro h
          apply hA
          simp only [List.all_eq_true, Bool.and_eq_true] at h ⊢
          exact fun x hx => (h x hx).1
        rw [this]; rfl
    · rw [if_neg ha]; simp [ha]
  · unfold sailB
    have : (decide (3 ≤ l.length) && decide (l.length ≤ 8)) = false := by
      rw [← Bool.not_eq_true]; simp only [Bool.and_eq_true, decide_eq_true_eq]; exact hc
    rw [this, Bool.false_and]
    by_cases h3 : (l.length : Int) < 3
    · rw [if_pos h3]; rfl
    · rw [if_neg h3, if_pos (by simp; omega)]
theorem impl_ValidPlan_val (m : List S79) (c d : Int) (hl : m.length ≤ 1048576) (hy : ∀ y ∈ m, y.f0.size ≤ 1048576 ∧ y.f1.length ≤ 1048576) : impl_ValidPlan.F m c d = some (planB m c d) := by
  have hloop : impl_ValidPlan.L0 m (m.length : Int) 0 m c d = some ((List.range m.length).all (hungAt m) && true) := by
    refine allRange m.length _ (fun i => impl_ValidPlan.L0 m (m.length : Int) i m c d) _ (fun i hi => ?_) ?_
    · show impl_ValidPlan.L0 _ _ _ _ _ _ = if _ then impl_ValidPlan.L0 _ _ _ _ _ _ else _
      have h1 := hy m[i] (List.getElem_mem hi)
      rw [impl_ValidPlan.L0_eq, if_pos (by omega), if_pos (by omega), if_pos (by omega), rdIHung m i hi, wS (by omega), impl_IsName_val _ h1.1, impl_ValidSail_val _ (by omega), if_pos (show (i : Int) ≤ (m.length : Int) by omega), hungAt_eq m i hi, Int.toNat_natCast]
      unfold impl_sailNamed.f
      rw [if_pos (by rw [List.length_take]; omega)]
      simp only [Option.bind_some]
      cases nameB m[i].f0
      · simp
      · cases sailB m[i].f1
        · simp
        · by_cases h3 : idxF (fun y : S79 => decide (y.f0 = m[i].f0)) (m.take i) ≥ 0
          · rw [if_pos rfl, if_pos rfl, if_pos h3, if_neg (by simp [h3])]
          · rw [if_pos rfl, if_pos rfl, if_neg h3, if_pos (by simp [h3])]
    · show impl_ValidPlan.L0 _ _ _ _ _ _ = _
      rw [impl_ValidPlan.L0_eq, if_neg (by omega)]
  rw [Bool.and_true] at hloop
  rw [impl_ValidPlan.F_eq]
  unfold planB
  simp only [impl_within_val, impl_ValidPlan.J0_eq, hloop, Option.bind_some]
  by_cases h : (m.length : Int) > 8
  · rw [if_pos h, if_pos trivial, show decide (m.length ≤ 8) = false from decide_eq_false (by omega)]; simp
  · rw [if_neg h, show decide (m.length ≤ 8) = true from decide_eq_true (by omega)]
    cases inB d 1 5000 <;> cases inB c 0 d <;> simp
theorem strOfNums_one (n : Int) : (strOfNums [n]).size = 1 := rfl
theorem markText_L0 : ∀ (n : Nat) (x : Int) (s : ByteArray), 0 ≤ x → x.toNat ≤ n → s.size + n ≤ 4611686018427387904 → ∃ t, laws_markText.L0 x s = some t := by
  intro n
  induction n with
  | zero =>
    intro x s h0 h1 h2
    rw [laws_markText.L0_eq, if_neg (by omega), if_pos (by omega)]
    exact ⟨_, rfl⟩
  | succ n ih =>
    intro x s h0 h1 h2
    rw [laws_markText.L0_eq]
    by_cases hx : x > 0
    · rw [if_pos hx]
      simp only [Option.bind_some]
      rw [if_pos (by rw [strOfNums_one]; omega), Int.tdiv_eq_ediv_of_nonneg h0, w64 (n := x / 10) (by omega) (by omega)]
      exact ih (x / 10) _ (by omega) (by omega) (by rw [ByteArray.size_append, strOfNums_one]; omega)
    · rw [if_neg hx, if_pos (by omega)]
      exact ⟨_, rfl⟩
noncomputable def markT (k : Int) : ByteArray := (laws_markText.F k).getD ByteArray.empty
theorem laws_markText_val (k : Int) (h : k ≤ 2305843009213693952) : laws_markText.F k = some (markT k) := by
  have : ∃ t, laws_markText.F k = some t := by
    rw [laws_markText.F_eq]
    by_cases h0 : k ≤ 0
    · rw [if_pos h0]; exact ⟨_, rfl⟩
    · rw [if_neg h0]
      exact markText_L0 k.toNat k _ (by omega) (Nat.le_refl _) (by have : (⟨#[]⟩ : ByteArray).size = 0 := rfl; omega)
  obtain ⟨t, ht⟩ := this
  unfold markT
  rw [ht]; rfl
/-- Spots that bear the numbers from k on. -/
def spotsFrom (k : Int) (n : Nat) : List S129 := (List.range n).map fun (j : Nat) => (⟨k + 2 * (j : Int), k + 2 * (j : Int) + 1⟩ : S129)
theorem laws_markSpotS_val (l : List S129) (k : Int) (h0 : 0 ≤ k) (h1 : k + 2 * l.length ≤ 4611686018427387904) : laws_markSpotS.F l k = some (k + 2 * l.length, spotsFrom k l.length) := by
  rw [laws_markSpotS.F_eq]
  have hlen : ∀ i, i ≤ l.length → (spotsFrom k i ++ l.drop i).length = l.length := fun i hi => by simp [spotsFrom]; omega
  have := iterF (fun (s : List S129 × Int) i => laws_markSpotS.L0 s.1 s.2 i) l.length (fun i => (spotsFrom k i ++ l.drop i, k + 2 * (i : Int))) (fun i hi => by
    show laws_markSpotS.L0 _ _ _ = laws_markSpotS.L0 _ _ _
    have hl1 := hlen i (by omega)
    have hlu : (spotsFrom k i).length = i := by simp [spotsFrom]
    rw [laws_markSpotS.L0_eq, if_pos (by rw [hl1]; omega), if_pos (by omega), wS (by omega), w64 (n := k + 2 * (i : Int) + 1) (by omega) (by omega), w64 (by omega) (by omega), Int.toNat_natCast]
    simp only [Option.bind_some]
    have hr : ∀ v : S129, rd_T129 ((spotsFrom k i ++ l.drop i).set i v) (i : Int) = v := by
      intro v
      rw [rdISpot _ i (by rw [List.length_set, hl1]; exact hi), List.getElem_set_self]
    rw [hr, List.set_set]
    have e1 : (spotsFrom k i ++ l.drop i).set i (⟨k + 2 * (i : Int), k + 2 * (i : Int) + 1⟩ : S129) = spotsFrom k (i + 1) ++ l.drop (i + 1) := by
      rw [List.set_append, hlu, if_neg (Nat.lt_irrefl i), Nat.sub_self, List.drop_eq_getElem_cons hi, List.set_cons_zero]
      unfold spotsFrom
      rw [List.range_succ, List.map_append, List.append_assoc]
      rfl
    show laws_markSpotS.L0 ((spotsFrom k i ++ l.drop i).set i (⟨k + 2 * (i : Int), k + 2 * (i : Int) + 1⟩ : S129)) _ _ = _
    rw [e1]
    congr 1
    omega)
  have e0 : spotsFrom k 0 ++ l.drop 0 = l := by simp [spotsFrom]
  simp only [e0] at this
  rw [show k + 2 * ((0 : Nat) : Int) = k by omega] at this
  refine this.trans ?_
  rw [laws_markSpotS.L0_eq, if_neg (by rw [hlen l.length (Nat.le_refl _)]; omega)]
  simp
/-- Sails that bear the numbers from k on, in the shape of a row of sails. -/
noncomputable def upHung (k : Int) : List S79 → List S79
  | [] => []
  | y :: t => (⟨markT k, spotsFrom (k + 1) y.f1.length, (Int.tmod (k + 1 + 2 * (y.f1.length : Int)) 3) == 0⟩ : S79) :: upHung (k + 2 + 2 * (y.f1.length : Int)) t
def hungSz : List S79 → Nat
  | [] => 0
  | y :: t => 2 + 2 * y.f1.length + hungSz t
theorem hungSz_le (l : List S79) (n : Nat) (h : ∀ r ∈ l, r.f1.length ≤ n) : hungSz l ≤ (2 + 2 * n) * l.length := by
  induction l with
  | nil => simp [hungSz]
  | cons r t ih =>
    have h1 := h r List.mem_cons_self
    have h2 := ih (fun q hq => h q (List.mem_cons_of_mem _ hq))
    simp only [hungSz, List.length_cons, Nat.mul_add (2 + 2 * n)]
    omega
theorem spotsFrom_len (k : Int) (n : Nat) : (spotsFrom k n).length = n := by simp [spotsFrom]
theorem laws_markHungS_val (l : List S79) (k : Int) (hl : l.length ≤ 1048576) (h0 : 0 ≤ k) (h1 : k + hungSz l ≤ 2305843009213693952) : laws_markHungS.F l k = some (k + hungSz l, upHung k l) := by
  have key : ∀ (l : List S79) (p : List S79) (k : Int), p.length + l.length ≤ 1048576 → 0 ≤ k → k + hungSz l ≤ 2305843009213693952 → laws_markHungS.L0 (p ++ l) k (p.length : Int) = some (k + hungSz l, p ++ upHung k l) := by
    intro l
    induction l with
    | nil =>
      intro p k hp h0 h1
      rw [laws_markHungS.L0_eq, if_neg (by simp)]
      simp [hungSz, upHung]
    | cons r t ih =>
      intro p k hp h0 h1
      simp only [List.length_cons, hungSz] at hp h1
      have hlt : p.length < (p ++ r :: t).length := by simp
      have hg : (p ++ r :: t)[p.length] = r := by simp
      rw [laws_markHungS.L0_eq, if_pos (by omega), if_pos (by omega), rdIHung _ _ hlt, hg, laws_markText_val k (by omega), w64 (n := k + 1) (by omega) (by omega), laws_markSpotS_val r.f1 (k + 1) (by omega) (by omega), wS (by omega)]
      simp only [Option.bind_some, Int.toNat_natCast]
      rw [List.set_append, if_neg (Nat.lt_irrefl _), Nat.sub_self, List.set_cons_zero, w64 (n := k + 1 + 2 * (r.f1.length : Int) + 1) (by omega) (by omega)]
      have := ih (p ++ [(⟨markT k, spotsFrom (k + 1) r.f1.length, (Int.tmod (k + 1 + 2 * (r.f1.length : Int)) 3) == 0⟩ : S79)]) (k + 2 + 2 * (r.f1.length : Int)) (by simp; omega) (by omega) (by omega)
      simp only [List.length_append, List.length_cons, List.length_nil, List.append_assoc, List.singleton_append] at this
      rw [show (p.length + 1 : Nat) = p.length + (0 + 1) by omega, show k + 1 + 2 * (r.f1.length : Int) + 1 = k + 2 + 2 * (r.f1.length : Int) by omega, this]
      simp only [hungSz, upHung]
      congr 2
      omega
  rw [laws_markHungS.F_eq]
  have := key l [] k (by simpa using hl) h0 h1
  simpa using this
theorem laws_markPlan_val (l : List S79) (c d k : Int) (hl : l.length ≤ 1048576) (h0 : 0 ≤ k) (h1 : k + hungSz l ≤ 2305843009213693952) : laws_markPlan.F l c d k = some (k + hungSz l, upHung k l) := by
  rw [laws_markPlan.F_eq, laws_markHungS_val l k hl h0 h1]
theorem laws_eqInt64S_val (l : List Int) (hl : l.length < 4611686018427387904) : laws_eqInt64S.F l l = some true := by
  rw [laws_eqInt64S.F_eq, if_pos rfl]
  have := allLoop l (fun _ => true) (fun i => laws_eqInt64S.L0 l l i) true (fun i hi => by
    show laws_eqInt64S.L0 l l i = _
    rw [laws_eqInt64S.L0_eq, if_pos (by omega), if_pos (by omega), if_pos (by omega), wS (by omega)]
    simp) (by
    show laws_eqInt64S.L0 l l _ = _
    rw [laws_eqInt64S.L0_eq, if_neg (by omega)])
  rw [this]; simp
theorem rdLL (l : List (List Int)) (i : Nat) (h : i < l.length) : rd_L1 l (i : Int) = l[i] := by simp [rd_L1, h]
theorem laws_eqInt64SS_val (l : List (List Int)) (hl : l.length < 4611686018427387904) (hr : ∀ r ∈ l, r.length < 4611686018427387904) : laws_eqInt64SS.F l l = some true := by
  rw [laws_eqInt64SS.F_eq, if_pos rfl]
  have := allLoop l (fun _ => true) (fun i => laws_eqInt64SS.L0 l l i) true (fun i hi => by
    show laws_eqInt64SS.L0 l l i = _
    rw [laws_eqInt64SS.L0_eq, if_pos (by omega), if_pos (by omega), if_pos (by omega), rdLL l i hi, laws_eqInt64S_val _ (hr _ (List.getElem_mem hi)), wS (by omega)]
    simp) (by
    show laws_eqInt64SS.L0 l l _ = _
    rw [laws_eqInt64SS.L0_eq, if_neg (by omega)])
  rw [this]; simp
/-- The numbers from k on. -/
def upFrom (k : Int) (n : Nat) : List Int := (List.range n).map fun (j : Nat) => k + (j : Int)
theorem laws_markInt64S_val (l : List Int) (k : Int) (h0 : 0 ≤ k) (h1 : k + l.length ≤ 4611686018427387904) : laws_markInt64S.F l k = some (k + l.length, upFrom k l.length) := by
  rw [laws_markInt64S.F_eq]
  have hlen : ∀ i, i ≤ l.length → (upFrom k i ++ l.drop i).length = l.length := fun i hi => by simp [upFrom]; omega
  have := iterF (fun (s : List Int × Int) i => laws_markInt64S.L0 s.1 s.2 i) l.length (fun i => (upFrom k i ++ l.drop i, k + (i : Int))) (fun i hi => by
    show laws_markInt64S.L0 _ _ _ = laws_markInt64S.L0 _ _ _
    have hl1 := hlen i (by omega)
    rw [laws_markInt64S.L0_eq, if_pos (by rw [hl1]; omega), if_pos (by omega), wS (by omega), w64 (by omega) (by omega), Int.toNat_natCast]
    have e1 : (upFrom k i ++ l.drop i).set i (k + (i : Int)) = upFrom k (i + 1) ++ l.drop (i + 1) := by
      have hlu : (upFrom k i).length = i := by simp [upFrom]
      rw [List.set_append, hlu, if_neg (Nat.lt_irrefl i), Nat.sub_self, List.drop_eq_getElem_cons hi, List.set_cons_zero]
      unfold upFrom
      rw [List.range_succ, List.map_append, List.append_assoc]
      rfl
    rw [e1]
    congr 1
    omega)
  have e0 : upFrom k 0 ++ l.drop 0 = l := by simp [upFrom]
  simp only [e0] at this
  rw [show k + ((0 : Nat) : Int) = k by omega] at this
  refine this.trans ?_
  rw [laws_markInt64S.L0_eq, if_neg (by rw [hlen l.length (Nat.le_refl _)]; omega)]
  simp
/-- The numbers from k on, in the shape of a row of rows. -/
def upSS (k : Int) : List (List Int) → List (List Int)
  | [] => []
  | r :: t => upFrom k r.length :: upSS (k + r.length) t
def sumLen : List (List Int) → Nat
  | [] => 0
  | r :: t => r.length + sumLen t
theorem sumLen_le (l : List (List Int)) (n : Nat) (h : ∀ r ∈ l, r.length ≤ n) : sumLen l ≤ n * l.length := by
  induction l with
  | nil => simp [sumLen]
  | cons r t ih =>
    have h1 := h r List.mem_cons_self
    have h2 := ih (fun q hq => h q (List.mem_cons_of_mem _ hq))
    simp only [sumLen, List.length_cons, Nat.mul_add]
    omega
theorem laws_markInt64SS_val (l : List (List Int)) (k : Int) (hl : l.length ≤ 1048576) (h0 : 0 ≤ k) (h1 : k + sumLen l ≤ 4611686018427387904) : laws_markInt64SS.F l k = some (k + sumLen l, upSS k l) := by
  have key : ∀ (l : List (List Int)) (p : List (List Int)) (k : Int), p.length + l.length ≤ 1048576 → 0 ≤ k → k + sumLen l ≤ 4611686018427387904 → laws_markInt64SS.L0 (p ++ l) k (p.length : Int) = some (k + sumLen l, p ++ upSS k l) := by
    intro l
    induction l with
    | nil =>
      intro p k hp h0 h1
      rw [laws_markInt64SS.L0_eq, if_neg (by simp)]
      simp [sumLen, upSS]
    | cons r t ih =>
      intro p k hp h0 h1
      simp only [List.length_cons, sumLen] at hp h1
      have hlt : p.length < (p ++ r :: t).length := by simp
      have hg : (p ++ r :: t)[p.length] = r := by simp
      rw [laws_markInt64SS.L0_eq, if_pos (by omega), if_pos (by omega), rdLL _ _ hlt, hg, laws_markInt64S_val r k h0 (by omega), wS (by omega)]
      simp only [Option.bind_some, Int.toNat_natCast]
      rw [List.set_append, if_neg (Nat.lt_irrefl _), Nat.sub_self, List.set_cons_zero]
      have := ih (p ++ [upFrom k r.length]) (k + r.length) (by simp; omega) (by omega) (by omega)
      simp only [List.length_append, List.length_cons, List.length_nil, List.append_assoc, List.singleton_append] at this
      rw [show (p.length + 1 : Nat) = p.length + (0 + 1) by omega, this]
      simp only [sumLen, upSS]
      congr 2
      omega
  rw [laws_markInt64SS.F_eq]
  have := key l [] k (by simpa using hl) h0 h1
  simpa using this
theorem laws_heldInt64S_val (n : Nat) (k : Int) (h0 : 0 ≤ k) (h1 : k + n ≤ 4611686018427387904) : laws_heldInt64S.F (upFrom k n) k = some (k + n) := by
  rw [laws_heldInt64S.F_eq]
  have hlen : (upFrom k n).length = n := by simp [upFrom]
  have := iterF (fun (s : Int) i => laws_heldInt64S.L0 (upFrom k n) s i) n (fun i => k + (i : Int)) (fun i hi => by
    show laws_heldInt64S.L0 _ _ _ = laws_heldInt64S.L0 _ _ _
    have hr : rd (upFrom k n) (i : Int) = k + (i : Int) := by
      rw [rd_get _ i (by omega)]
      simp [upFrom]
    rw [laws_heldInt64S.L0_eq, if_pos (by rw [hlen]; omega), if_pos (by omega), hr, if_pos rfl, wS (by omega), w64 (by omega) (by omega)]
    congr 1
    omega)
  rw [show k + ((0 : Nat) : Int) = k by omega] at this
  refine this.trans ?_
  show laws_heldInt64S.L0 _ _ _ = _
  rw [laws_heldInt64S.L0_eq, if_neg (by rw [hlen]; omega)]
theorem laws_heldInt64SS_val (l : List (List Int)) (k : Int) (hl : l.length ≤ 1048576) (h0 : 0 ≤ k) (h1 : k + sumLen l ≤ 4611686018427387904) : laws_heldInt64SS.F (upSS k l) k = some (k + sumLen l) := by
  have key : ∀ (l : List (List Int)) (p : List (List Int)) (k : Int), p.length + l.length ≤ 1048576 → 0 ≤ k → k + sumLen l ≤ 4611686018427387904 → laws_heldInt64SS.L0 (p ++ upSS k l) k (p.length : Int) = some (k + sumLen l) := by
    intro l
    induction l with
    | nil =>
      intro p k hp h0 h1
      rw [laws_heldInt64SS.L0_eq, if_neg (by simp [upSS])]
      simp [sumLen]
    | cons r t ih =>
      intro p k hp h0 h1
      simp only [List.length_cons, sumLen] at hp h1
      simp only [upSS]
      have hlt : p.length < (p ++ upFrom k r.length :: upSS (k + r.length) t).length := by simp
      have hg : (p ++ upFrom k r.length :: upSS (k + r.length) t)[p.length] = upFrom k r.length := by simp
      rw [laws_heldInt64SS.L0_eq, if_pos (by omega), if_pos (by omega), rdLL _ _ hlt, hg, laws_heldInt64S_val r.length k h0 (by omega), wS (by omega)]
      simp only [Option.bind_some]
      rw [if_neg (by omega)]
      have := ih (p ++ [upFrom k r.length]) (k + r.length) (by simp; omega) (by omega) (by omega)
      simp only [List.length_append, List.length_cons, List.length_nil, List.append_assoc, List.singleton_append] at this
      rw [show (p.length + 1 : Nat) = p.length + (0 + 1) by omega, this]
      simp only [sumLen]
      congr 1
      omega
  rw [laws_heldInt64SS.F_eq]
  have := key l [] k (by simpa using hl) h0 h1
  simpa using this
def bMn (f : S129 → Int) (l : List S129) (z : Int) : Int := l.foldl (fun a x => min a (f x)) z
def bMx (f : S129 → Int) (l : List S129) (z : Int) : Int := l.foldl (fun a x => max a (f x)) z
def pX (p : S129) : Int := p.f0
def pY (p : S129) : Int := p.f1
/-- The box of a sail: least places, greatest places. -/
def boxOf : List S129 → Int × Int × Int × Int
  | [] => (0, 0, 0, 0)
  | x :: t => (bMn pX t x.f0, bMn pY t x.f1, bMx pX t x.f0, bMx pY t x.f1)
theorem bMn_le (f : S129 → Int) (l : List S129) : ∀ z, bMn f l z ≤ z ∧ ∀ y ∈ l, bMn f l z ≤ f y := by
  induction l with
  | nil => intro z; exact ⟨Int.le_refl _, fun y hy => by simp at hy⟩
  | cons x t ih =>
    intro z
    have h := ih (min z (f x))
    show bMn f t (min z (f x)) ≤ z ∧ ∀ y ∈ x :: t, bMn f t (min z (f x)) ≤ f y
    refine ⟨by omega, fun y hy => ?_⟩
    rcases List.mem_cons.1 hy with rfl | hy
    · omega
    · exact h.2 y hy
theorem bMx_ge (f : S129 → Int) (l : List S129) : ∀ z, z ≤ bMx f l z ∧ ∀ y ∈ l, f y ≤ bMx f l z := by
  induction l with
  | nil => intro z; exact ⟨Int.le_refl _, fun y hy => by simp at hy⟩
  | cons x t ih =>
    intro z
    have h := ih (max z (f x))
    show z ≤ bMx f t (max z (f x)) ∧ ∀ y ∈ x :: t, f y ≤ bMx f t (max z (f x))
    refine ⟨by omega, fun y hy => ?_⟩
    rcases List.mem_cons.1 hy with rfl | hy
    · omega
    · exact h.2 y hy
theorem boxOf_all {l : List S129} {y : S129} (hy : y ∈ l) : (boxOf l).1 ≤ y.f0 ∧ (boxOf l).2.1 ≤ y.f1 ∧ y.f0 ≤ (boxOf l).2.2.1 ∧ y.f1 ≤ (boxOf l).2.2.2 := by
  cases l with
  | nil => simp at hy
  | cons x t =>
    have a := bMn_le pX t x.f0
    have b := bMn_le pY t x.f1
    have c := bMx_ge pX t x.f0
    have d := bMx_ge pY t x.f1
    show bMn pX t x.f0 ≤ _ ∧ bMn pY t x.f1 ≤ _ ∧ _ ≤ bMx pX t x.f0 ∧ _ ≤ bMx pY t x.f1
    rcases List.mem_cons.1 hy with rfl | hy
    · exact ⟨a.1, b.1, c.1, d.1⟩
    · exact ⟨a.2 y hy, b.2 y hy, c.2 y hy, d.2 y hy⟩
/-- A sail's box has a width and a height. -/
theorem boxOf_wide {l : List S129} (hs : sailB l = true) : (boxOf l).1 < (boxOf l).2.2.1 ∧ (boxOf l).2.1 < (boxOf l).2.2.2 := by
  obtain ⟨h3, h8, ha⟩ := sailB_len hs
  simp only [sailB, Bool.and_eq_true, decide_eq_true_eq, List.all_eq_true (l := List.range l.length), List.mem_range] at hs
  have hc := (hs.2.2.1 0 (by omega)).1
  rw [Nat.mod_eq_of_lt (show 0 + 1 < l.length by omega), Nat.mod_eq_of_lt (show 0 + 2 < l.length by omega)] at hc
  unfold crossAt crossZ sx sy at hc
  rw [rdISpot l 0 (by omega), rdISpot l (0 + 1) (by omega), rdISpot l (0 + 2) (by omega)] at hc
  have b0 := boxOf_all (List.getElem_mem (l := l) (show 0 < l.length by omega))
  have b1 := boxOf_all (List.getElem_mem (l := l) (show 0 + 1 < l.length by omega))
  have b2 := boxOf_all (List.getElem_mem (l := l) (show 0 + 2 < l.length by omega))
  generalize l[0] = p0 at *
  generalize l[0 + 1] = p1 at *
  generalize l[0 + 2] = p2 at *
  constructor
  · by_cases h : (boxOf l).1 < (boxOf l).2.2.1
    · exact h
    · exfalso; apply hc
      rw [show p1.f0 - p0.f0 = 0 by omega, show p2.f0 - p0.f0 = 0 by omega]; simp
  · by_cases h : (boxOf l).2.1 < (boxOf l).2.2.2
    · exact h
    · exfalso; apply hc
      rw [show p1.f1 - p0.f1 = 0 by omega, show p2.f1 - p0.f1 = 0 by omega]; simp
theorem spec_l17Box_val (l : List S129) (h0 : 0 < l.length) (hl : l.length ≤ 1048576) : spec_l17Box.F l = some (boxOf l) := by
  have mn : ∀ a b : Int, spec_l00Min.f a b = some (min a b) := fun a b => by
    unfold spec_l00Min.f
    split
    · rw [show min a b = a by omega]
    · rw [show min a b = b by omega]
  have mx : ∀ a b : Int, spec_l00Max.f a b = some (max a b) := fun a b => by
    unfold spec_l00Max.f
    split
    · rw [show max a b = a by omega]
    · rw [show max a b = b by omega]
  have key : ∀ (t p : List S129) (a b c e : Int), p ++ t = l → spec_l17Box.L0 l (p.length : Int) a b c e = some (bMn pX t a, bMn pY t b, bMx pX t c, bMx pY t e) := by
    intro t
    induction t with
    | nil =>
      intro p a b c e hp
      have : p.length = l.length := by rw [← hp]; simp
      rw [spec_l17Box.L0_eq, if_neg (by omega)]
      rfl
    | cons x t ih =>
      intro p a b c e hp
      have hlt : p.length < l.length := by rw [← hp]; simp
      have hg : l[p.length] = x := by simp [← hp]
      rw [spec_l17Box.L0_eq, if_pos (by omega), if_pos (by omega), rdISpot l _ hlt, hg, wS (by omega)]
      simp only [mn, mx, Option.bind_some]
      have := ih (p ++ [x]) (min a x.f0) (min b x.f1) (max c x.f0) (max e x.f1) (by rw [← hp]; simp)
      simp only [List.length_append, List.length_cons, List.length_nil, Nat.zero_add] at this
      exact this
  rw [spec_l17Box.F_eq, if_pos (by omega)]
  cases l with
  | nil => simp at h0
  | cons x t =>
    have e0 : rd_T129 (x :: t) 0 = x := rfl
    rw [e0]
    exact key t [x] _ _ _ _ rfl
theorem best_mn (f : S129 → Int) (p : S129 → S129 → Int) (hp : ∀ x m : S129, spotIn x = true → spotIn m = true → p x m = f x - f m) (l : List S129) (hl : l.all spotIn = true) : ∀ z, spotIn z = true → f (l.foldl (fun m x => if decide (p x m < 0) = true then x else m) z) = bMn f l (f z) := by
  induction l with
  | nil => intro z _; rfl
  | cons x t ih =>
    intro z hz
    simp only [List.all_cons, Bool.and_eq_true] at hl
    have h1 := hp x z hl.1 hz
    show f (t.foldl _ (if decide (p x z < 0) = true then x else z)) = bMn f t (min (f z) (f x))
    by_cases h : p x z < 0
    · rw [if_pos (decide_eq_true h), ih hl.2 x hl.1, show min (f z) (f x) = f x by omega]
    · rw [if_neg (by simpa using h), ih hl.2 z hz, show min (f z) (f x) = f z by omega]
theorem best_mx (f : S129 → Int) (p : S129 → S129 → Int) (hp : ∀ x m : S129, spotIn x = true → spotIn m = true → p x m = f x - f m) (l : List S129) (hl : l.all spotIn = true) : ∀ z, spotIn z = true → f (l.foldl (fun m x => if decide (p x m > 0) = true then x else m) z) = bMx f l (f z) := by
  induction l with
  | nil => intro z _; rfl
  | cons x t ih =>
    intro z hz
    simp only [List.all_cons, Bool.and_eq_true] at hl
    have h1 := hp x z hl.1 hz
    show f (t.foldl _ (if decide (p x z > 0) = true then x else z)) = bMx f t (max (f z) (f x))
    by_cases h : p x z > 0
    · rw [if_pos (decide_eq_true h), ih hl.2 x hl.1, show max (f z) (f x) = f x by omega]
    · rw [if_neg (by simpa using h), ih hl.2 z hz, show max (f z) (f x) = f z by omega]
theorem leftP_val (x m : S129) (hx : spotIn x = true) (hm : spotIn m = true) : leftP x m = pX x - pX m := by
  simp only [spotIn, Bool.and_eq_true, inB_iff] at hx hm
  unfold leftP pX
  rw [w64 (by omega) (by omega)]
theorem lowP_val (x m : S129) (hx : spotIn x = true) (hm : spotIn m = true) : lowP x m = pY x - pY m := by
  simp only [spotIn, Bool.and_eq_true, inB_iff] at hx hm
  unfold lowP pY
  rw [w64 (by omega) (by omega)]
theorem minP_val (f : S129 → Int) (p : S129 → S129 → Int) (hp : ∀ x m : S129, spotIn x = true → spotIn m = true → p x m = f x - f m) (x : S129) (t : List S129) (hl : (x :: t).all spotIn = true) (h : 0 < (x :: t).length) : f (minP p (x :: t) h) = bMn f t (f x) := by
  have hx : spotIn x = true := by simp only [List.all_cons, Bool.and_eq_true] at hl; exact hl.1
  have := best_mn f p hp (x :: t) hl x hx
  unfold minP bestF
  rw [List.take_length]
  refine this.trans ?_
  show bMn f t (min (f x) (f x)) = _
  rw [Int.min_self]
theorem maxP_val (f : S129 → Int) (p : S129 → S129 → Int) (hp : ∀ x m : S129, spotIn x = true → spotIn m = true → p x m = f x - f m) (x : S129) (t : List S129) (hl : (x :: t).all spotIn = true) (h : 0 < (x :: t).length) : f (maxP p (x :: t) h) = bMx f t (f x) := by
  have hx : spotIn x = true := by simp only [List.all_cons, Bool.and_eq_true] at hl; exact hl.1
  have := best_mx f p hp (x :: t) hl x hx
  unfold maxP bestF
  rw [List.take_length]
  refine this.trans ?_
  show bMx f t (max (f x) (f x)) = _
  rw [Int.max_self]
theorem impl_boxesMeet_val (a b : List S129) (ha : sailB a = true) (hb : sailB b = true) : impl_boxesMeet.f a b = some (decide ((boxOf a).1 < (boxOf b).2.2.1 ∧ (boxOf b).1 < (boxOf a).2.2.1 ∧ (boxOf a).2.1 < (boxOf b).2.2.2 ∧ (boxOf b).2.1 < (boxOf a).2.2.2)) := by
  have wa := boxOf_wide ha
  have wb := boxOf_wide hb
  obtain ⟨a3, a8, aa⟩ := sailB_len ha
  obtain ⟨b3, b8, ba⟩ := sailB_len hb
  unfold impl_boxesMeet.f
  rw [dif_pos (show 0 < a.length by omega), dif_pos (show 0 < b.length by omega), if_pos ⟨by omega, by omega⟩]
  cases a with
  | nil => simp at a3
  | cons x t =>
    cases b with
    | nil => simp at b3
    | cons y s =>
      have e1 := minP_val pX leftP leftP_val x t aa (by simp)
      have e2 := minP_val pX leftP leftP_val y s ba (by simp)
      have e3 := maxP_val pX leftP leftP_val x t aa (by simp)
      have e4 := maxP_val pX leftP leftP_val y s ba (by simp)
      have e5 := minP_val pY lowP lowP_val x t aa (by simp)
      have e6 := minP_val pY lowP lowP_val y s ba (by simp)
      have e7 := maxP_val pY lowP lowP_val x t aa (by simp)
      have e8 := maxP_val pY lowP lowP_val y s ba (by simp)
      have wa1 : bMn pX t x.f0 < bMx pX t x.f0 := wa.1
      have wa2 : bMn pY t x.f1 < bMx pY t x.f1 := wa.2
      have wb1 : bMn pX s y.f0 < bMx pX s y.f0 := wb.1
      have wb2 : bMn pY s y.f1 < bMx pY s y.f1 := wb.2
      show some (decide (max (pX (minP leftP (x :: t) _)) (pX (minP leftP (y :: s) _)) < min (pX (maxP leftP (x :: t) _)) (pX (maxP leftP (y :: s) _))) && decide (max (pY (minP lowP (x :: t) _)) (pY (minP lowP (y :: s) _)) < min (pY (maxP lowP (x :: t) _)) (pY (maxP lowP (y :: s) _)))) = some (decide (bMn pX t x.f0 < bMx pX s y.f0 ∧ bMn pX s y.f0 < bMx pX t x.f0 ∧ bMn pY t x.f1 < bMx pY s y.f1 ∧ bMn pY s y.f1 < bMx pY t x.f1))
      rw [e1, e2, e3, e4, e5, e6, e7, e8]
      have f1 : pX x = x.f0 := rfl
      have f2 : pX y = y.f0 := rfl
      have f3 : pY x = x.f1 := rfl
      have f4 : pY y = y.f1 := rfl
      rw [f1, f2, f3, f4]
      congr 1
      rw [Bool.eq_iff_iff]
      simp only [Bool.and_eq_true, decide_eq_true_eq]
      omega
def pairOn (m : List S79) (i k : Nat) : Bool := (rd_T79 m (i : Int)).f2 && ((rd_T79 m (k : Int)).f2 && decide ((boxOf (rd_T79 m (i : Int)).f1).1 < (boxOf (rd_T79 m (k : Int)).f1).2.2.1 ∧ (boxOf (rd_T79 m (k : Int)).f1).1 < (boxOf (rd_T79 m (i : Int)).f1).2.2.1 ∧ (boxOf (rd_T79 m (i : Int)).f1).2.1 < (boxOf (rd_T79 m (k : Int)).f1).2.2.2 ∧ (boxOf (rd_T79 m (k : Int)).f1).2.1 < (boxOf (rd_T79 m (i : Int)).f1).2.2.2))
theorem spec_one (m : List S79) (c d : Int) (h8 : m.length ≤ 8) (hs : ∀ y ∈ m, sailB y.f1 = true) (out : List (List Int)) (ho : out.length ≤ 100) (i k : Nat) (hi : i < m.length) (hk : k < m.length) :
    spec_OverlapsOf.L1 out i k m c d (boxOf (rd_T79 m (i : Int)).f1).1 (boxOf (rd_T79 m (i : Int)).f1).2.1 (boxOf (rd_T79 m (i : Int)).f1).2.2.1 (boxOf (rd_T79 m (i : Int)).f1).2.2.2 = spec_OverlapsOf.L1 (if pairOn m i k = true then out ++ [[(i : Int), (k : Int)]] else out) i ((k + 1 : Nat) : Int) m c d (boxOf (rd_T79 m (i : Int)).f1).1 (boxOf (rd_T79 m (i : Int)).f1).2.1 (boxOf (rd_T79 m (i : Int)).f1).2.2.1 (boxOf (rd_T79 m (i : Int)).f1).2.2.2 := by
  have hb : sailB (rd_T79 m (k : Int)).f1 = true := by rw [rdIHung m k hk]; exact hs _ (List.getElem_mem hk)
  have h3 := sailB_len hb
  rw [spec_OverlapsOf.L1_eq, if_pos (by omega), if_pos (by omega), spec_l17Box_val _ (by omega) (by omega), wS (by omega)]
  simp only [Option.bind_some]
  rw [if_pos (show (0 : Int) ≤ (i : Int) by omega), if_pos (show (i : Int) < (m.length : Int) by omega)]
  unfold pairOn
  cases (rd_T79 m (i : Int)).f2
  · simp
  · cases (rd_T79 m (k : Int)).f2
    · simp
    · rw [if_pos rfl, if_pos rfl]
      split
      · split
        · split
          · split
            · rename_i g1 g2 g3 g4
              rw [if_pos (show out.length < 5864062014805 by omega), if_pos (by simp [g1, g2, g3, g4])]
            · rename_i g1 g2 g3 g4
              rw [if_neg (by simp [g4])]
          · rename_i g1 g2 g3
            rw [if_neg (by simp [g3])]
        · rename_i g1 g2
          rw [if_neg (by simp [g2])]
      · rename_i g1
        rw [if_neg (by simp [g1])]
theorem impl_one (m : List S79) (c d : Int) (h8 : m.length ≤ 8) (hs : ∀ y ∈ m, sailB y.f1 = true) (out : List (List Int)) (ho : out.length ≤ 100) (i k : Nat) (hi : i < m.length) (hk : k < m.length) :
    impl_OverlapsOf.L1 out i k m (m.length : Int) i m c d (rd_T79 m (i : Int)).f0 (rd_T79 m (i : Int)).f1 (rd_T79 m (i : Int)).f2 = impl_OverlapsOf.L1 (if pairOn m i k = true then out ++ [[(i : Int), (k : Int)]] else out) i ((k + 1 : Nat) : Int) m (m.length : Int) i m c d (rd_T79 m (i : Int)).f0 (rd_T79 m (i : Int)).f1 (rd_T79 m (i : Int)).f2 := by
  have hb : sailB (rd_T79 m (k : Int)).f1 = true := by rw [rdIHung m k hk]; exact hs _ (List.getElem_mem hk)
  have ha : sailB (rd_T79 m (i : Int)).f1 = true := by rw [rdIHung m i hi]; exact hs _ (List.getElem_mem hi)
  rw [impl_OverlapsOf.L1_eq, if_pos (by omega), impl_boxesMeet_val _ _ ha hb, wS (by omega)]
  simp only [Option.bind_some]
  unfold pairOn
  cases hi2 : (rd_T79 m (i : Int)).f2
  · simp
  · rw [if_pos rfl, if_pos (show (0 : Int) ≤ (k : Int) by omega)]
    cases hk2 : (rd_T79 m (k : Int)).f2
    · simp
    · rw [if_pos rfl]
      simp only [Bool.true_and]
      split
      · rw [if_pos (show out.length < 5864062014805 by omega)]
      · rfl
theorem pair_len (m : List S79) (i k : Nat) (out : List (List Int)) (h : ∀ r ∈ out, r.length ≤ 2) : (if pairOn m i k = true then out ++ [[(i : Int), (k : Int)]] else out).length ≤ out.length + 1 ∧ ∀ r ∈ (if pairOn m i k = true then out ++ [[(i : Int), (k : Int)]] else out), r.length ≤ 2 := by
  split
  · refine ⟨by simp, fun r hr => ?_⟩
    rcases List.mem_append.1 hr with hr | hr
    · exact h r hr
    · rw [List.mem_singleton] at hr; rw [hr]; simp
  · exact ⟨by omega, h⟩
def Good (m : List S79) (c d : Int) (i : Nat) (out : List (List Int)) : Prop := ∃ y, spec_OverlapsOf.L0 out (i : Int) m c d = some (y, 0) ∧ impl_OverlapsOf.L0 out m (m.length : Int) (i : Int) m c d = some (y, 0) ∧ y.length ≤ 100 ∧ ∀ r ∈ y, r.length ≤ 2
theorem inner (m : List S79) (c d : Int) (h8 : m.length ≤ 8) (hs : ∀ y ∈ m, sailB y.f1 = true) (i : Nat) (hi : i < m.length) (hn : ∀ out : List (List Int), out.length ≤ 8 * (i + 1) → (∀ r ∈ out, r.length ≤ 2) → Good m c d (i + 1) out) :
    ∀ (e k : Nat) (out : List (List Int)), k + e = m.length → out.length + e ≤ 8 * (i + 1) → (∀ r ∈ out, r.length ≤ 2) → ∃ y, spec_OverlapsOf.L1 out i k m c d (boxOf (rd_T79 m (i : Int)).f1).1 (boxOf (rd_T79 m (i : Int)).f1).2.1 (boxOf (rd_T79 m (i : Int)).f1).2.2.1 (boxOf (rd_T79 m (i : Int)).f1).2.2.2 = some (y, 0) ∧ impl_OverlapsOf.L1 out i k m (m.length : Int) i m c d (rd_T79 m (i : Int)).f0 (rd_T79 m (i : Int)).f1 (rd_T79 m (i : Int)).f2 = some (y, 0) ∧ y.length ≤ 100 ∧ ∀ r ∈ y, r.length ≤ 2 := by
  intro e
  induction e with
  | zero =>
    intro k out hk ho hr
    rw [spec_OverlapsOf.L1_eq, if_neg (by omega), impl_OverlapsOf.L1_eq, if_neg (by omega), wS (by omega)]
    exact hn out (by omega) hr
  | succ e ih =>
    intro k out hk ho hr
    have hp := pair_len m i k out hr
    rw [spec_one m c d h8 hs out (by omega) i k hi (by omega), impl_one m c d h8 hs out (by omega) i k hi (by omega)]
    exact ih (k + 1) _ (by omega) (by omega) hp.2
theorem outer (m : List S79) (c d : Int) (h8 : m.length ≤ 8) (hs : ∀ y ∈ m, sailB y.f1 = true) : ∀ (e i : Nat) (out : List (List Int)), i + e = m.length → out.length ≤ 8 * i → (∀ r ∈ out, r.length ≤ 2) → Good m c d i out := by
  intro e
  induction e with
  | zero =>
    intro i out hi ho hr
    unfold Good
    rw [spec_OverlapsOf.L0_eq, if_neg (by omega), impl_OverlapsOf.L0_eq, if_neg (by omega)]
    exact ⟨_, rfl, rfl, by omega, hr⟩
  | succ e ih =>
    intro i out hi ho hr
    have hlt : i < m.length := by omega
    have ha : sailB (rd_T79 m (i : Int)).f1 = true := by rw [rdIHung m i hlt]; exact hs _ (List.getElem_mem hlt)
    have h3 := sailB_len ha
    unfold Good
    rw [spec_OverlapsOf.L0_eq, if_pos (by omega), if_pos (by omega), spec_l17Box_val _ (by omega) (by omega), impl_OverlapsOf.L0_eq, if_pos (by omega), if_pos (by omega), if_pos (by omega), wS (by omega)]
    simp only [Option.bind_some]
    exact inner m c d h8 hs i hlt (fun out' h1 h2 => ih (i + 1) out' (by omega) h1 h2) (m.length - (i + 1)) (i + 1) out (by omega) (by omega) hr
theorem pure_FnExactOverlapsOf : laws_FnExactOverlapsOf.Pure := by
  intro a c d hga hc hd
  refine of_lim (g := fun k => laws_FnExactOverlapsOf.f k a c d) ?_
  show laws_FnExactOverlapsOf.F a c d = some true
  obtain ⟨r, hr, h⟩ := plan_args a c d 1048576 (by omega) (by omega) hga.1 (fun y hy => ⟨(hga.2 y hy).1, (hga.2 y hy).2.1.1⟩)
  rcases h with h | ⟨h1, h2, h3, m, _, hm, hy, et, ee⟩
  · rw [laws_FnExactOverlapsOf.F_eq, hr]; simp only [Option.bind_some]; rw [if_pos h]
  · obtain ⟨y, e, e1, e2, hl, hz⟩ : ∃ y e, spec_OverlapsOf.F m c d = some (y, e) ∧ impl_OverlapsOf.F m c d = some (y, e) ∧ y.length ≤ 100 ∧ ∀ r ∈ y, r.length ≤ 2 := by
      rw [spec_OverlapsOf.F_eq, impl_OverlapsOf.F_eq, spec_l17Ok_val m c d (by omega) hy, impl_ValidPlan_val m c d (by omega) hy]
      simp only [Option.bind_some]
      by_cases hp : planB m c d = true
      · obtain ⟨p1, p2, p3, p4⟩ := planB_sails hp
        rw [if_pos hp, if_pos hp]
        obtain ⟨y, q1, q2, q3, q4⟩ := outer m c d p1 p4 m.length 0 [] (by omega) (by simp) (by simp)
        exact ⟨y, 0, q1, q2, q3, q4⟩
      · rw [if_neg hp, if_neg hp]
        exact ⟨_, _, rfl, rfl, by simp, by simp⟩
    have hszm := hungSz_le m 1048576 (fun q hq => (hy q hq).2)
    have e6 := laws_markPlan_val m c d 1 (by omega) (by omega) (by omega)
    have n4 : ¬ (1 + (hungSz m : Int) < 0) := by omega
    have hs := sumLen_le y 2 hz
    have e3 := laws_eqInt64SS_val y (by omega) (fun q hq => by have := hz q hq; omega)
    have e4 := laws_markInt64SS_val y 1 (by omega) (by omega) (by omega)
    have e5 := laws_heldInt64SS_val y 1 (by omega) (by omega) (by omega)
    have n3 : ¬ (1 + (sumLen y : Int) < 0) := by omega
    simp [laws_FnExactOverlapsOf.F_eq, laws_FnExactOverlapsOf.J0_eq, laws_FnExactOverlapsOf.J1_eq, laws_FnExactOverlapsOf.J2_eq, hr, h1, et, ee, e1, e2, e3, e4, e5, e6, n3, n4]
end Go.Proofs.Ytlphfgbeeckjnaa.PFnExactOverlapsOf
namespace Go.Proofs.Ytlphfgbeeckjnaa.Pure
theorem FnExactOverlapsOf : PFnExactOverlapsOf.laws_FnExactOverlapsOf.Pure := PFnExactOverlapsOf.pure_FnExactOverlapsOf
end Go.Proofs.Ytlphfgbeeckjnaa.Pure
