/-
  The pure side of FnExactBestSails: the program's BestSails tells what the reference's tells. No conditions.
-/
import Derived.Test.YtlphfgbeeckjnaaQFnExactBestSails
set_option linter.unusedVariables false
set_option linter.unusedSimpArgs false
set_option linter.unnecessarySimpa false
namespace Go.Proofs.Ytlphfgbeeckjnaa.PFnExactBestSails
open Go.RowKit Go.Proofs.Ytlphfgbeeckjnaa.Kit Go.Proofs.YtlphfgbeeckjnaaW.PrintWords Go.Proofs.YtlphfgbeeckjnaaW.PrintLast Go.Proofs.YtlphfgbeeckjnaaW.PrintMore

theorem laws_szSpotS_val (l : List S176) (n : Int) (h : l.length ≤ 9223372036854775807) (hn : 0 ≤ n) (hn2 : n ≤ 1048576) : ∃ r, laws_szSpotS.f l n = some r ∧ (r < 0 ∨ 0 ≤ r ∧ r ≤ n ∧ (l.length : Int) ≤ n) := by
  unfold laws_szSpotS.f
  rw [w64 (by omega) (by omega)]
  by_cases hc : n < l.length
  · exact ⟨-1, by rw [if_pos (by omega)], Or.inl (by omega)⟩
  · exact ⟨n - l.length, by rw [if_neg (by omega)], Or.inr (by omega)⟩
theorem laws_szHung_val (s : ByteArray) (l : List S176) (b : Bool) (n : Int) (hs : s.size ≤ 9223372036854775807) (h : l.length ≤ 9223372036854775807) (hn : 0 ≤ n) (hn2 : n ≤ 1048576) : ∃ r, laws_szHung.f s l b n = some r ∧ (r < 0 ∨ 0 ≤ r ∧ r ≤ n ∧ (s.size : Int) ≤ n ∧ (l.length : Int) ≤ n) := by
  unfold laws_szHung.f
  rw [w64 (by omega) (by omega)]
  by_cases hc : n - (s.size : Int) < 0
  · exact ⟨-1, by rw [if_pos hc], Or.inl (by omega)⟩
  · rw [if_neg hc]
    obtain ⟨r, hr, h1⟩ := laws_szSpotS_val l (n - (s.size : Int)) h (by omega) (by omega)
    rw [hr]; simp only [Option.bind_some]
    rcases h1 with h1 | h1
    · exact ⟨-1, by rw [if_pos h1], Or.inl (by omega)⟩
    · exact ⟨r, by rw [if_neg (by omega)], Or.inr (by omega)⟩
/-- What a sum of sizes tells: it is less than 0, or all that it adds up is small. -/
theorem szLoop {α : Type} (l : List α) (small : α → Prop) (n : Int) (hn0 : 0 ≤ n) (g : Int → Int → Option Int) (h : ∀ (i : Nat) (s : Int) (hi : i < l.length), 0 ≤ s → s ≤ n → g s (i : Int) = some (-1) ∨ ∃ s', g s (i : Int) = g s' ((i + 1 : Nat) : Int) ∧ 0 ≤ s' ∧ s' ≤ s ∧ small l[i]) (he : ∀ s, g s (l.length : Int) = some s) :
    ∃ r, g n 0 = some r ∧ (r < 0 ∨ 0 ≤ r ∧ r ≤ n ∧ ∀ y ∈ l, small y) := by
  have key : ∀ (d i : Nat) (s : Int), i + d = l.length → 0 ≤ s → s ≤ n → (∀ y ∈ l.take i, small y) → ∃ r, g s (i : Int) = some r ∧ (r < 0 ∨ 0 ≤ r ∧ r ≤ n ∧ ∀ y ∈ l, small y) := by
    intro d
    induction d with
    | zero =>
      intro i s hd h0 h1 hs
      rw [show (i : Int) = (l.length : Int) by omega, he]
      rw [List.take_of_length_le (by omega)] at hs
      exact ⟨s, rfl, Or.inr ⟨h0, h1, hs⟩⟩
    | succ d ih =>
      intro i s hd h0 h1 hs
      have hi : i < l.length := by omega
      rcases h i s hi h0 h1 with h2 | ⟨s', h2, h3, h4, h5⟩
      · exact ⟨-1, h2, Or.inl (by omega)⟩
      · rw [h2]
        refine ih (i + 1) s' (by omega) h3 (by omega) (fun y hy => ?_)
        rw [List.take_succ_eq_append_getElem hi, List.mem_append, List.mem_singleton] at hy
        rcases hy with h6 | rfl
        · exact hs y h6
        · exact h5
  exact key l.length 0 n (by omega) hn0 (Int.le_refl _) (by simp)
theorem rdLHung (l : List S74) (i : Nat) (h : i < l.length) : rd_T74 l (i : Int) = l[i] := by simp [rd_T74, h]
theorem laws_szHungS_val (l : List S74) (n : Int) (h : l.length ≤ 9223372036854775807) (hy : ∀ y ∈ l, y.f0.size ≤ 9223372036854775807 ∧ y.f1.length ≤ 9223372036854775807) (hn : 0 ≤ n) (hn2 : n ≤ 1048576) : ∃ r, laws_szHungS.F l n = some r ∧ (r < 0 ∨ 0 ≤ r ∧ r ≤ n ∧ (l.length : Int) ≤ n ∧ ∀ y ∈ l, (y.f0.size : Int) ≤ n ∧ (y.f1.length : Int) ≤ n) := by
  rw [laws_szHungS.F_eq, w64 (by omega) (by omega)]
  by_cases hc : n - (l.length : Int) < 0
  · exact ⟨-1, by rw [if_pos hc], Or.inl (by omega)⟩
  · rw [if_neg hc]
    obtain ⟨r, hr, h1⟩ := szLoop l (fun y => (y.f0.size : Int) ≤ n ∧ (y.f1.length : Int) ≤ n) (n - (l.length : Int)) (by omega) (fun s i => laws_szHungS.L0 l s i) (fun i s hi h0 h2 => by
      show laws_szHungS.L0 l s i = _ ∨ ∃ s', laws_szHungS.L0 l s i = laws_szHungS.L0 l s' _ ∧ _
      rw [laws_szHungS.L0_eq, if_pos (by omega), if_pos (by omega), rdLHung l i hi, wS (by omega)]
      have hyi := hy _ (List.getElem_mem hi)
      obtain ⟨q, hq, h3⟩ := laws_szHung_val l[i].f0 l[i].f1 l[i].f2 s hyi.1 hyi.2 h0 (by omega)
      rw [hq]
      simp only [Option.bind_some]
      rcases h3 with h3 | ⟨h3, h4, h5, h6⟩
      · left; rw [if_pos h3]
      · right; exact ⟨q, by rw [if_neg (by omega)], h3, h4, by omega, by omega⟩) (fun s => by
      show laws_szHungS.L0 l s _ = _
      rw [laws_szHungS.L0_eq, if_neg (by omega)])
    refine ⟨r, hr, ?_⟩
    rcases h1 with h1 | ⟨h1, h2, h3⟩
    · exact Or.inl h1
    · exact Or.inr ⟨h1, by omega, by omega, h3⟩
theorem rdLSpot (l : List S176) (i : Nat) (h : i < l.length) : rd_T176 l (i : Int) = l[i] := by simp [rd_T176, h]
def spotTo (p : S176) : S129 := ⟨p.f0, p.f1⟩
theorem laws_toSpotS_val (l : List S176) (hl : l.length ≤ 1048576) : laws_toSpotS.F l = some (l.map spotTo) := by
  rw [laws_toSpotS.F_eq, if_pos (by omega), if_pos (by omega), Int.toNat_natCast]
  have := fillLoop (l.map spotTo) z129 (fun s i => laws_toSpotS.L0 l s i) (fun i s hi hs => by
    rw [List.length_map] at hi hs
    show laws_toSpotS.L0 l s i = _
    rw [laws_toSpotS.L0_eq, if_pos (by omega), if_pos (by omega), rdLSpot l i hi, wS (by omega)]
    unfold laws_toSpot.f
    simp only [Option.bind_some]
    rw [if_pos (by omega), Int.toNat_natCast, List.getElem_map]
    rfl)
  rw [List.length_map] at this
  refine this.trans ?_
  show laws_toSpotS.L0 l _ _ = _
  rw [laws_toSpotS.L0_eq, if_neg (by omega)]
theorem laws_toHung_val (s : ByteArray) (l : List S176) (b : Bool) (hl : l.length ≤ 1048576) : laws_toHung.F s l b = some (s, l.map spotTo, b) := by
  rw [laws_toHung.F_eq, laws_toSpotS_val l hl]; rfl
def hungTo (p : S74) : S79 := ⟨p.f0, p.f1.map spotTo, p.f2⟩
theorem laws_toHungS_val (l : List S74) (hl : l.length ≤ 1048576) (hy : ∀ y ∈ l, y.f1.length ≤ 1048576) : laws_toHungS.F l = some (l.map hungTo) := by
  rw [laws_toHungS.F_eq, if_pos (by omega), if_pos (by omega), Int.toNat_natCast]
  have := fillLoop (l.map hungTo) z79 (fun s i => laws_toHungS.L0 l s i) (fun i s hi hs => by
    rw [List.length_map] at hi hs
    show laws_toHungS.L0 l s i = _
    rw [laws_toHungS.L0_eq, if_pos (by omega), if_pos (by omega), rdLHung l i hi, wS (by omega), laws_toHung_val _ _ _ (hy _ (List.getElem_mem hi))]
    simp only [Option.bind_some]
    rw [if_pos (by omega), Int.toNat_natCast, List.getElem_map]
    rfl)
  rw [List.length_map] at this
  refine this.trans ?_
  show laws_toHungS.L0 l _ _ = _
  rw [laws_toHungS.L0_eq, if_neg (by omega)]
theorem laws_eqSpotS_val (l : List S129) (hl : l.length < 4611686018427387904) : laws_eqSpotS.F l l = some true := by
  rw [laws_eqSpotS.F_eq, if_pos rfl]
  have := allLoop l (fun _ => true) (fun i => laws_eqSpotS.L0 l l i) true (fun i hi => by
    show laws_eqSpotS.L0 l l i = _
    rw [laws_eqSpotS.L0_eq, if_pos (by omega), if_pos (by omega), if_pos (by omega), wS (by omega)]
    unfold laws_eqSpot.f
    simp) (by
    show laws_eqSpotS.L0 l l _ = _
    rw [laws_eqSpotS.L0_eq, if_neg (by omega)])
  rw [this]; simp
theorem laws_eqHung_val (s : ByteArray) (l : List S129) (b : Bool) (hl : l.length < 4611686018427387904) : laws_eqHung.F s l b s l b = some true := by
  rw [laws_eqHung.F_eq, if_pos rfl, laws_eqSpotS_val l hl]
  simp
theorem rdIHung (l : List S79) (i : Nat) (h : i < l.length) : rd_T79 l (i : Int) = l[i] := by simp [rd_T79, h]
theorem laws_eqHungS_val (l : List S79) (hl : l.length < 4611686018427387904) (hy : ∀ y ∈ l, y.f1.length < 4611686018427387904) : laws_eqHungS.F l l = some true := by
  rw [laws_eqHungS.F_eq, if_pos rfl]
  have := allLoop l (fun _ => true) (fun i => laws_eqHungS.L0 l l i) true (fun i hi => by
    show laws_eqHungS.L0 l l i = _
    rw [laws_eqHungS.L0_eq, if_pos (by omega), if_pos (by omega), if_pos (by omega), wS (by omega), rdIHung l i hi, laws_eqHung_val _ _ _ (hy _ (List.getElem_mem hi))]
    rfl) (by
    show laws_eqHungS.L0 l l _ = _
    rw [laws_eqHungS.L0_eq, if_neg (by omega)])
  rw [this]; simp
/-- What the laws do with a plan that came in. -/
theorem plan_args (l : List S74) (c d n : Int) (hn0 : 0 ≤ n) (hn1 : n ≤ 1048576) (h : l.length ≤ 9223372036854775807) (hy : ∀ y ∈ l, y.f0.size ≤ 9223372036854775807 ∧ y.f1.length ≤ 9223372036854775807) : ∃ r, laws_szPlan.F l c d n = some r ∧ (r < 0 ∨ ¬ r < 0 ∧ r ≤ n ∧ l.length ≤ 1048576 ∧ ∃ m : List S79, m = l.map hungTo ∧ m.length = l.length ∧ (∀ y ∈ m, y.f0.size ≤ 1048576 ∧ y.f1.length ≤ 1048576) ∧ laws_toPlan.F l c d = some (m, c, d) ∧ laws_eqPlan.F m c d m c d = some true) := by
  obtain ⟨r, hr, h1⟩ := laws_szHungS_val l n h hy hn0 hn1
  rw [laws_szPlan.F_eq, hr]
  simp only [Option.bind_some]
  rcases h1 with h1 | ⟨h1, h2, h3, h4⟩
  · exact ⟨-1, by rw [if_pos h1], Or.inl (by omega)⟩
  · have h5 : ∀ y ∈ l.map hungTo, y.f0.size ≤ 1048576 ∧ y.f1.length ≤ 1048576 := by
      intro y hy2
      obtain ⟨z, hz, rfl⟩ := List.mem_map.1 hy2
      have := h4 z hz
      show z.f0.size ≤ _ ∧ (z.f1.map spotTo).length ≤ _
      rw [List.length_map]
      omega
    refine ⟨r, by rw [if_neg (by omega)], Or.inr ⟨by omega, h2, by omega, l.map hungTo, rfl, by simp, h5, ?_, ?_⟩⟩
    · rw [laws_toPlan.F_eq, laws_toHungS_val l (by omega) (fun y hy2 => by have := h4 y hy2; omega)]; rfl
    · rw [laws_eqPlan.F_eq, laws_eqHungS_val _ (by rw [List.length_map]; omega) (fun y hy2 => by have := h5 y hy2; omega)]
      simp
theorem mul_bd (a b A B : Int) (h1 : -A ≤ a) (h2 : a ≤ A) (h3 : -B ≤ b) (h4 : b ≤ B) : -(A * B) ≤ a * b ∧ a * b ≤ A * B := by
  constructor
  · have x1 := Int.mul_nonneg (show 0 ≤ A + a by omega) (show 0 ≤ B + b by omega)
    have x2 := Int.mul_nonneg (show 0 ≤ A - a by omega) (show 0 ≤ B - b by omega)
    grind
  · have x1 := Int.mul_nonneg (show 0 ≤ A + a by omega) (show 0 ≤ B - b by omega)
    have x2 := Int.mul_nonneg (show 0 ≤ A - a by omega) (show 0 ≤ B + b by omega)
    grind
def R2 (x : Int) : Prop := 0 ≤ x ∧ x ≤ 2000
theorem R2.w {x y : Int} (hx : R2 x) (hy : R2 y) : wrap64 (x - y) = x - y := w64 (by unfold R2 at *; omega) (by unfold R2 at *; omega)
theorem R2.ww {a b c d e f g h : Int} (ha : R2 a) (hb : R2 b) (hc : R2 c) (hd : R2 d) (he : R2 e) (hf : R2 f) (hg : R2 g) (hh : R2 h) : wrap64 ((wrap64 ((wrap64 (a - b)) * (wrap64 (c - d)))) - (wrap64 ((wrap64 (e - f)) * (wrap64 (g - h))))) = (a - b) * (c - d) - (e - f) * (g - h) := by
  rw [ha.w hb, hc.w hd, he.w hf, hg.w hh]
  unfold R2 at *
  have h1 := mul_bd (a - b) (c - d) 2000 2000 (by omega) (by omega) (by omega) (by omega)
  have h2 := mul_bd (e - f) (g - h) 2000 2000 (by omega) (by omega) (by omega) (by omega)
  rw [w64 (n := (a - b) * (c - d)) (by omega) (by omega), w64 (n := (e - f) * (g - h)) (by omega) (by omega), w64 (by omega) (by omega)]
def crossZ (ax ay bx b_y cx cy : Int) : Int := (bx - ax) * (cy - ay) - (b_y - ay) * (cx - ax)
def inB (n a b : Int) : Bool := decide (a ≤ n) && decide (n ≤ b)
theorem inB_iff (n a b : Int) : inB n a b = true ↔ a ≤ n ∧ n ≤ b := by simp [inB]
theorem inB_no (n a b : Int) : inB n a b = false ↔ ¬ (a ≤ n ∧ n ≤ b) := by rw [← inB_iff]; simp
def betB (ax ay bx b_y px py : Int) : Bool := inB px (min ax bx) (max ax bx) && inB py (min ay b_y) (max ay b_y)
def onB (ax ay bx b_y px py : Int) : Bool := decide (crossZ ax ay bx b_y px py = 0) && betB ax ay bx b_y px py
def sidesB (a b c d e f g h : Int) : Bool := (decide (crossZ a b c d e f < 0) && decide (crossZ a b c d g h > 0)) || (decide (crossZ a b c d e f > 0) && decide (crossZ a b c d g h < 0))
def meetB (a b c d e f g h : Int) : Bool := onB a b c d e f || onB a b c d g h || onB e f g h a b || onB e f g h c d || (sidesB a b c d e f g h && sidesB e f g h a b c d)
theorem rdISpot (l : List S129) (i : Nat) (h : i < l.length) : rd_T129 l (i : Int) = l[i] := by simp [rd_T129, h]
/-- A loop from m to n that ends with 'no' at the first place that isn't as it should be. -/
theorem stepLoop {β : Type} (m n : Nat) (p : Nat → Bool) (g : Int → β) (no r : β) (h : ∀ k, m ≤ k → k < n → g (k : Int) = if p k = true then g ((k + 1 : Nat) : Int) else no) (he : ∀ k, n ≤ k → g (k : Int) = r) : g (m : Int) = if (List.range' m (n - m)).all p = true then r else no := by
  have key : ∀ (d i : Nat), n - i = d → m ≤ i → g (i : Int) = if (List.range' i (n - i)).all p = true then r else no := by
    intro d
    induction d with
    | zero =>
      intro i hd hi
      rw [hd, he i (by omega)]; rfl
    | succ d ih =>
      intro i hd hi
      rw [h i hi (by omega), ih (i + 1) (by omega) (by omega), show n - i = (n - (i + 1)) + 1 by omega, List.range'_succ, List.all_cons]
      by_cases hp : p i = true
      · rw [if_pos hp, hp, Bool.true_and]
      · rw [if_neg hp, if_neg (by simp [hp])]
  exact key _ m rfl (Nat.le_refl _)
/-- The x and the y of a sail's spot. -/
def sx (l : List S129) (i : Nat) : Int := (rd_T129 l (i : Int)).f0
def sy (l : List S129) (i : Nat) : Int := (rd_T129 l (i : Int)).f1
theorem sx_def (l : List S129) (i : Nat) : (rd_T129 l (i : Int)).f0 = sx l i := rfl
theorem sy_def (l : List S129) (i : Nat) : (rd_T129 l (i : Int)).f1 = sy l i := rfl
def spotIn (p : S129) : Bool := inB p.f0 0 2000 && inB p.f1 0 2000
theorem spots_R (l : List S129) (h : l.all spotIn = true) (i : Nat) (hi : i < l.length) : R2 (sx l i) ∧ R2 (sy l i) := by
  have := List.all_eq_true.1 h l[i] (List.getElem_mem hi)
  simp only [spotIn, Bool.and_eq_true, inB_iff] at this
  unfold sx sy
  rw [rdISpot l i hi]
  exact this
def crossAt (l : List S129) (i j k : Nat) : Int := crossZ (sx l i) (sy l i) (sx l j) (sy l j) (sx l k) (sy l k)
def meetAt (l : List S129) (i j h k : Nat) : Bool := meetB (sx l i) (sy l i) (sx l j) (sy l j) (sx l h) (sy l h) (sx l k) (sy l k)
theorem tmodN (i n : Nat) (h : i < 4611686018427387904) : Int.tmod (wrap64 ((i : Int) + 1)) (n : Int) = (((i + 1) % n : Nat) : Int) := by
  rw [w64 (by omega) (by omega), Int.tmod_eq_emod_of_nonneg (by omega)]; push_cast; rfl
theorem tmodN2 (i n : Nat) (h : i < 4611686018427387904) : Int.tmod (wrap64 ((i : Int) + 2)) (n : Int) = (((i + 2) % n : Nat) : Int) := by
  rw [w64 (by omega) (by omega), Int.tmod_eq_emod_of_nonneg (by omega)]; push_cast; rfl
/-- Twice a sail's area, as the machine sums it up. -/
def twZ (l : List S129) : Nat → Int
  | 0 => 0
  | i + 1 => wrap64 (twZ l i + wrap64 (wrap64 (sx l i * sy l ((i + 1) % l.length)) - wrap64 (sx l ((i + 1) % l.length) * sy l i)))
def pairsOk (l : List S129) (i : Nat) : Bool := (List.range' (i + 2) (l.length - (i + 2))).all fun k => !((decide (i > 0) || decide (k < l.length - 1)) && meetAt l i ((i + 1) % l.length) k ((k + 1) % l.length))
def sailB (l : List S129) : Bool := decide (3 ≤ l.length) && decide (l.length ≤ 8) && (l.all spotIn && ((List.range l.length).all (fun i => decide (crossAt l i ((i + 1) % l.length) ((i + 2) % l.length) ≠ 0) && pairsOk l i) && decide (twZ l l.length > 0)))
theorem sailB_len {l : List S129} (h : sailB l = true) : 3 ≤ l.length ∧ l.length ≤ 8 ∧ l.all spotIn = true := by
  simp only [sailB, Bool.and_eq_true, decide_eq_true_eq] at h
  exact ⟨h.1.1, h.1.2, h.2.1⟩
/-- The sum of the first k. -/
def sumN (f : Nat → Int) : Nat → Int
  | 0 => 0
  | k + 1 => sumN f k + f k
theorem sumN_bd (f : Nat → Int) (B : Int) (k : Nat) (h : ∀ i, i < k → -B ≤ f i ∧ f i ≤ B) : -((k : Int) * B) ≤ sumN f k ∧ sumN f k ≤ (k : Int) * B := by
  induction k with
  | zero => simp [sumN]
  | succ k ih =>
    have h1 := ih (fun i hi => h i (by omega))
    have h2 := h k (by omega)
    have e : ((k + 1 : Nat) : Int) * B = (k : Int) * B + B := by push_cast; grind
    rw [e]
    show -((k : Int) * B + B) ≤ sumN f k + f k ∧ sumN f k + f k ≤ (k : Int) * B + B
    generalize (k : Int) * B = z at *
    omega
theorem sumN_bd8 (f : Nat → Int) (B : Int) (k : Nat) (h0 : 0 ≤ B) (hk : k ≤ 8) (h : ∀ i, i < k → -B ≤ f i ∧ f i ≤ B) : -(8 * B) ≤ sumN f k ∧ sumN f k ≤ 8 * B := by
  have h1 := sumN_bd f B k h
  have h2 : (k : Int) * B ≤ 8 * B := Int.mul_le_mul_of_nonneg_right (by omega) h0
  omega
def cAt (l : List S129) (i : Nat) : Int := sx l i * sy l ((i + 1) % l.length) - sx l ((i + 1) % l.length) * sy l i
def mxt (l : List S129) (i : Nat) : Int := (sx l i + sx l ((i + 1) % l.length)) * cAt l i
def myt (l : List S129) (i : Nat) : Int := (sy l i + sy l ((i + 1) % l.length)) * cAt l i
theorem sail_ts (l : List S129) (hs : sailB l = true) (i : Nat) (hi : i < l.length) :
    (wrap64 (wrap64 (sx l i * sy l ((i + 1) % l.length)) - wrap64 (sx l ((i + 1) % l.length) * sy l i)) = cAt l i) ∧ (-8000000 ≤ cAt l i ∧ cAt l i ≤ 8000000)
    ∧ (wrap64 (wrap64 (sx l i + sx l ((i + 1) % l.length)) * cAt l i) = mxt l i) ∧ (-32000000000 ≤ mxt l i ∧ mxt l i ≤ 32000000000)
    ∧ (wrap64 (wrap64 (sy l i + sy l ((i + 1) % l.length)) * cAt l i) = myt l i) ∧ (-32000000000 ≤ myt l i ∧ myt l i ≤ 32000000000) := by
  obtain ⟨h3, h8, ha⟩ := sailB_len hs
  have hR := spots_R l ha
  have a1 := hR i hi
  have a2 := hR ((i + 1) % l.length) (Nat.mod_lt _ (by omega))
  unfold R2 at a1 a2
  have p1 := mul_bd (sx l i) (sy l ((i + 1) % l.length)) 2000 2000 (by omega) (by omega) (by omega) (by omega)
  have p2 := mul_bd (sx l ((i + 1) % l.length)) (sy l i) 2000 2000 (by omega) (by omega) (by omega) (by omega)
  have hc : -8000000 ≤ cAt l i ∧ cAt l i ≤ 8000000 := by unfold cAt; omega
  have p3 := mul_bd (sx l i + sx l ((i + 1) % l.length)) (cAt l i) 4000 8000000 (by omega) (by omega) (by omega) (by omega)
  have p4 := mul_bd (sy l i + sy l ((i + 1) % l.length)) (cAt l i) 4000 8000000 (by omega) (by omega) (by omega) (by omega)
  refine ⟨?_, hc, ?_, ⟨by unfold mxt; omega, by unfold mxt; omega⟩, ?_, ⟨by unfold myt; omega, by unfold myt; omega⟩⟩
  · rw [w64 (n := sx l i * sy l ((i + 1) % l.length)) (by omega) (by omega), w64 (n := sx l ((i + 1) % l.length) * sy l i) (by omega) (by omega), w64 (by omega) (by omega)]; rfl
  · rw [w64 (n := sx l i + sx l ((i + 1) % l.length)) (by omega) (by omega), w64 (by omega) (by omega)]; rfl
  · rw [w64 (n := sy l i + sy l ((i + 1) % l.length)) (by omega) (by omega), w64 (by omega) (by omega)]; rfl
theorem sail_sums (l : List S129) (hs : sailB l = true) (k : Nat) (hk : k ≤ l.length) : (-64000000 ≤ sumN (cAt l) k ∧ sumN (cAt l) k ≤ 64000000) ∧ (-256000000000 ≤ sumN (mxt l) k ∧ sumN (mxt l) k ≤ 256000000000) ∧ (-256000000000 ≤ sumN (myt l) k ∧ sumN (myt l) k ≤ 256000000000) := by
  obtain ⟨h3, h8, ha⟩ := sailB_len hs
  have h1 := sumN_bd8 (cAt l) 8000000 k (by omega) (by omega) (fun i hi => (sail_ts l hs i (by omega)).2.1)
  have h2 := sumN_bd8 (mxt l) 32000000000 k (by omega) (by omega) (fun i hi => (sail_ts l hs i (by omega)).2.2.2.1)
  have h3 := sumN_bd8 (myt l) 32000000000 k (by omega) (by omega) (fun i hi => (sail_ts l hs i (by omega)).2.2.2.2.2)
  omega
theorem twZ_sum (l : List S129) (hs : sailB l = true) (k : Nat) (hk : k ≤ l.length) : twZ l k = sumN (cAt l) k := by
  induction k with
  | zero => rfl
  | succ k ih =>
    show wrap64 (twZ l k + wrap64 (wrap64 (sx l k * sy l ((k + 1) % l.length)) - wrap64 (sx l ((k + 1) % l.length) * sy l k))) = sumN (cAt l) k + cAt l k
    rw [ih (by omega), (sail_ts l hs k (by omega)).1]
    have h1 := (sail_sums l hs k (by omega)).1
    have h2 := (sail_ts l hs k (by omega)).2.1
    rw [w64 (by omega) (by omega)]
theorem twZ_pos {l : List S129} (hs : sailB l = true) : 0 < twZ l l.length := by
  simp only [sailB, Bool.and_eq_true, decide_eq_true_eq] at hs
  exact hs.2.2.2
/-- The sums over the sails that are set. -/
def hArea (m : List S79) (i : Nat) : Int := if (rd_T79 m (i : Int)).f2 = true then twZ (rd_T79 m (i : Int)).f1 (rd_T79 m (i : Int)).f1.length else 0
def hMx (m : List S79) (i : Nat) : Int := if (rd_T79 m (i : Int)).f2 = true then sumN (mxt (rd_T79 m (i : Int)).f1) (rd_T79 m (i : Int)).f1.length else 0
def hMy (m : List S79) (i : Nat) : Int := if (rd_T79 m (i : Int)).f2 = true then sumN (myt (rd_T79 m (i : Int)).f1) (rd_T79 m (i : Int)).f1.length else 0
def charB (n : Int) : Bool := inB n 97 122 || (inB n 48 57 || decide (n = 45))
theorem charB_iff (n : Int) : charB n = true ↔ (97 ≤ n ∧ n ≤ 122) ∨ (48 ≤ n ∧ n ≤ 57) ∨ n = 45 := by
  simp only [charB, Bool.or_eq_true, inB_iff, decide_eq_true_eq]
/-- Whether a text is a name. -/
def nameB (s : ByteArray) : Bool := decide (1 ≤ s.size) && (decide (s.size ≤ 12) && (inB (bt s 0) 97 122 && (List.range s.size).all fun i => charB (bt s (i : Int))))
theorem idxF_cases {α : Type} (p : α → Bool) (l : List α) : (∃ k, ∃ hk : k < l.length, p l[k] = true ∧ (∀ j (hj : j < k), p (l[j]'(by omega)) = false) ∧ idxF p l = (k : Int)) ∨ ((∀ j (hj : j < l.length), p l[j] = false) ∧ idxF p l = -1) := by
  cases h : l.findIdx? p with
  | some k =>
    left
    obtain ⟨hk, h1, h2⟩ := List.findIdx?_eq_some_iff_getElem.1 h
    exact ⟨k, hk, h1, fun j hj => by simpa using h2 j hj, by unfold idxF; rw [h]⟩
  | none =>
    right
    rw [List.findIdx?_eq_none_iff] at h
    exact ⟨fun j hj => h _ (List.getElem_mem hj), by unfold idxF; rw [List.findIdx?_eq_none_iff.2 h]⟩
theorem idxF_first {α : Type} (p : α → Bool) (l : List α) (i : Nat) (hi : i < l.length) (hp : p l[i] = true) (ha : ∀ j (hj : j < i), p (l[j]'(by omega)) = false) : idxF p l = (i : Int) := by
  rcases idxF_cases p l with ⟨k, hk, h1, h2, e⟩ | ⟨h1, e⟩
  · by_cases h3 : k < i
    · have := ha k h3
      rw [h1] at this; cases this
    · by_cases h4 : i < k
      · have := h2 i h4
        rw [hp] at this; cases this
      · rw [e]; omega
  · have := h1 i hi
    rw [hp] at this; cases this
theorem idxF_take {α : Type} (p : α → Bool) (l : List α) (i : Nat) (hi : i < l.length) (hp : p l[i] = true) : (idxF p l = (i : Int)) ↔ ¬ (idxF p (l.take i) ≥ 0) := by
  have hlen : (l.take i).length = i := by rw [List.length_take]; omega
  rcases idxF_cases p (l.take i) with ⟨k, hk, h1, h2, e⟩ | ⟨h1, e⟩
  · have hk2 : k < i := by omega
    rw [List.getElem_take] at h1
    constructor
    · intro h
      rcases idxF_cases p l with ⟨k', hk', h3, h4, e'⟩ | ⟨h3, e'⟩
      · have : k' = i := by omega
        subst this
        have := h4 k hk2
        rw [h1] at this
        cases this
      · omega
    · intro h; omega
  · constructor
    · intro _; omega
    · intro _
      exact idxF_first p l i hi hp (fun j hj => by have := h1 j (by omega); rwa [List.getElem_take] at this)
/-- A loop that finds the first. -/
theorem findLoop {α : Type} (l : List α) (p : α → Bool) (g : Int → Option Int) (h : ∀ i (hi : i < l.length), g (i : Int) = if p l[i] = true then some (i : Int) else g ((i + 1 : Nat) : Int)) (he : g (l.length : Int) = some (-1)) : g 0 = some (idxF p l) := by
  have key : ∀ (d i : Nat), l.length - i = d → i ≤ l.length → (∀ j (hj : j < i) (hl : j < l.length), p l[j] = false) → g (i : Int) = some (idxF p l) := by
    intro d
    induction d with
    | zero =>
      intro i hd hi ha
      obtain rfl : i = l.length := by omega
      rcases idxF_cases p l with ⟨k, hk, h1, h2, e⟩ | ⟨h1, e⟩
      · have := ha k hk hk
        rw [h1] at this; cases this
      · rw [he, e]
    | succ d ih =>
      intro i hd hi ha
      have hlt : i < l.length := by omega
      rw [h i hlt]
      by_cases hp : p l[i] = true
      · rw [if_pos hp, idxF_first p l i hlt hp (fun j hj => ha j hj (by omega))]
      · rw [if_neg hp]
        refine ih (i + 1) (by omega) (by omega) (fun j hj hl => ?_)
        by_cases e : j = i
        · subst e; simpa using hp
        · exact ha j (by omega) hl
  exact key l.length 0 (by omega) (by omega) (fun j hj => absurd hj (Nat.not_lt_zero _))
def hungAt (m : List S79) (i : Nat) : Bool := match m[i]? with
  | some x => nameB x.f0 && (sailB x.f1 && decide (¬ idxF (fun y : S79 => decide (y.f0 = x.f0)) (m.take i) ≥ 0))
  | none => true
def planB (m : List S79) (c d : Int) : Bool := (List.range m.length).all (hungAt m) && (decide (m.length ≤ 8) && (inB d 1 5000 && inB c 0 d))
theorem planB_sails {m : List S79} {c d : Int} (h : planB m c d = true) : m.length ≤ 8 ∧ (1 ≤ d ∧ d ≤ 5000) ∧ (0 ≤ c ∧ c ≤ d) ∧ ∀ y ∈ m, sailB y.f1 = true := by
  simp only [planB, Bool.and_eq_true, decide_eq_true_eq, inB_iff, List.all_eq_true, List.mem_range] at h
  refine ⟨h.2.1, h.2.2.1, h.2.2.2, fun y hy => ?_⟩
  obtain ⟨i, hi, rfl⟩ := List.getElem_of_mem hy
  have := h.1 i hi
  simp only [hungAt, List.getElem?_eq_getElem hi, Bool.and_eq_true] at this
  exact this.2.1
theorem hungAt_eq (m : List S79) (i : Nat) (hi : i < m.length) : hungAt m i = (nameB m[i].f0 && (sailB m[i].f1 && decide (¬ idxF (fun y : S79 => decide (y.f0 = m[i].f0)) (m.take i) ≥ 0))) := by
  unfold hungAt
  rw [List.getElem?_eq_getElem hi]
theorem hung_bd (m : List S79) (hs : ∀ y ∈ m, sailB y.f1 = true) (i : Nat) (hi : i < m.length) : (0 ≤ hArea m i ∧ hArea m i ≤ 64000000) ∧ (-256000000000 ≤ hMx m i ∧ hMx m i ≤ 256000000000) ∧ (-256000000000 ≤ hMy m i ∧ hMy m i ≤ 256000000000) := by
  have h1 := hs m[i] (List.getElem_mem hi)
  unfold hArea hMx hMy
  rw [rdIHung m i hi]
  split
  · have h2 := sail_sums m[i].f1 h1 m[i].f1.length (Nat.le_refl _)
    have h3 := twZ_sum m[i].f1 h1 m[i].f1.length (Nat.le_refl _)
    have h4 := twZ_pos h1
    omega
  · omega
def areaZ (m : List S79) : Int := sumN (hArea m) m.length
def mxZ (m : List S79) : Int := sumN (hMx m) m.length
def myZ (m : List S79) : Int := sumN (hMy m) m.length
theorem plan_bd (m : List S79) (h8 : m.length ≤ 8) (hs : ∀ y ∈ m, sailB y.f1 = true) (k : Nat) (hk : k ≤ m.length) : (0 ≤ sumN (hArea m) k ∧ sumN (hArea m) k ≤ 512000000) ∧ (-2048000000000 ≤ sumN (hMx m) k ∧ sumN (hMx m) k ≤ 2048000000000) ∧ (-2048000000000 ≤ sumN (hMy m) k ∧ sumN (hMy m) k ≤ 2048000000000) := by
  have h1 := sumN_bd8 (hArea m) 64000000 k (by omega) (by omega) (fun i hi => by have := hung_bd m hs i (by omega); omega)
  have h2 := sumN_bd8 (hMx m) 256000000000 k (by omega) (by omega) (fun i hi => (hung_bd m hs i (by omega)).2.1)
  have h3 := sumN_bd8 (hMy m) 256000000000 k (by omega) (by omega) (fun i hi => (hung_bd m hs i (by omega)).2.2)
  have h4 : 0 ≤ sumN (hArea m) k := by
    clear h1 h2 h3
    induction k with
    | zero => exact Int.le_refl _
    | succ k ih =>
      have := hung_bd m hs k (by omega)
      have := ih (by omega)
      show 0 ≤ sumN (hArea m) k + hArea m k
      omega
  omega
/-- What the sums need of a plan. -/
def planS (m : List S79) (c d : Int) : Prop := m.length ≤ 8 ∧ (1 ≤ d ∧ d ≤ 5000) ∧ (0 ≤ c ∧ c ≤ d) ∧ ∀ y ∈ m, sailB y.f1 = true
theorem area_bdS {m : List S79} {c d : Int} (hp : planS m c d) : (0 ≤ areaZ m ∧ areaZ m ≤ 512000000) ∧ (-2048000000000 ≤ mxZ m ∧ mxZ m ≤ 2048000000000) ∧ (-2048000000000 ≤ myZ m ∧ myZ m ≤ 2048000000000) := by
  obtain ⟨p1, p2, p3, p4⟩ := id hp
  exact plan_bd m p1 p4 m.length (Nat.le_refl _)
theorem spec_l13Moments_val (l : List S129) (hs : sailB l = true) : spec_l13Moments.F l = some (sumN (mxt l) l.length, sumN (myt l) l.length) := by
  obtain ⟨h3, h8, ha⟩ := sailB_len hs
  rw [spec_l13Moments.F_eq]
  have := iterF (fun (s : Int × Int) i => spec_l13Moments.L0 l s.1 s.2 i) l.length (fun i => (sumN (mxt l) i, sumN (myt l) i)) (fun i hi => by
    show spec_l13Moments.L0 _ _ _ _ = spec_l13Moments.L0 _ (sumN (mxt l) i + mxt l i) (sumN (myt l) i + myt l i) _
    have hm := Nat.mod_lt (i + 1) (show 0 < l.length by omega)
    obtain ⟨e1, b1, e2, b2, e3, b3⟩ := sail_ts l hs i hi
    have h5 := sail_sums l hs i (by omega)
    rw [spec_l13Moments.L0_eq, if_pos (by omega), if_pos (by omega), if_neg (by omega), tmodN i l.length (by omega), if_pos (by omega), if_pos (by omega), wS (by omega)]
    simp only [sx_def, sy_def]
    rw [e1, e2, e3, w64 (n := sumN (mxt l) i + mxt l i) (by omega) (by omega), w64 (n := sumN (myt l) i + myt l i) (by omega) (by omega)])
  refine Eq.trans this ?_
  show spec_l13Moments.L0 _ _ _ _ = _
  rw [spec_l13Moments.L0_eq, if_neg (by omega)]
theorem l17Moments_L0 (m : List S79) (c d : Int) (s t i : Int) : spec_l17Moments.L0 [⟨m, c, d⟩] s t i = if i < (m.length : Int) then (if 0 ≤ i then (if (rd_T79 m i).f2 = true then ((spec_l13Moments.F ((rd_T79 m i).f1)).bind fun b => (spec_l17Moments.L0 [⟨m, c, d⟩] (wrap64 (s + b.1)) (wrap64 (t + b.2)) (wrap64 (i + 1)))) else (spec_l17Moments.L0 [⟨m, c, d⟩] s t (wrap64 (i + 1)))) else (none)) else (some (s, t)) := spec_l17Moments.L0_eq [⟨m, c, d⟩] s t i
theorem spec_l17Moments_val (m : List S79) (c d : Int) (h8 : m.length ≤ 8) (hs : ∀ y ∈ m, sailB y.f1 = true) : spec_l17Moments.F [⟨m, c, d⟩] = some (mxZ m, myZ m) := by
  rw [spec_l17Moments.F_eq, if_pos (by simp)]
  have := iterF (fun (s : Int × Int) i => spec_l17Moments.L0 [⟨m, c, d⟩] s.1 s.2 i) m.length (fun i => (sumN (hMx m) i, sumN (hMy m) i)) (fun i hi => by
    show spec_l17Moments.L0 _ _ _ _ = spec_l17Moments.L0 _ (sumN (hMx m) i + hMx m i) (sumN (hMy m) i + hMy m i) _
    have h1 := hs m[i] (List.getElem_mem hi)
    have h3 := plan_bd m h8 hs i (by omega)
    have h4 := hung_bd m hs i hi
    rw [l17Moments_L0, if_pos (by omega), if_pos (by omega), wS (by omega)]
    unfold hMx hMy at *
    rw [rdIHung m i hi] at *
    split
    · rename_i hf
      rw [spec_l13Moments_val _ h1]
      simp only [Option.bind_some]
      rw [if_pos hf, if_pos hf] at h4
      rw [w64 (n := _ + sumN (mxt _) _) (by omega) (by omega), w64 (n := _ + sumN (myt _) _) (by omega) (by omega)]
    · rw [Int.add_zero, Int.add_zero])
  refine Eq.trans this ?_
  show spec_l17Moments.L0 _ _ _ _ = _
  rw [l17Moments_L0, if_neg (by omega)]
  rfl
theorem spec_l13Twice_val (l : List S129) (hn : 0 < l.length) (hl : l.length < 4611686018427387904) : spec_l13Twice.F l = some (twZ l l.length) := by
  rw [spec_l13Twice.F_eq]
  have := iterF (fun s i => spec_l13Twice.L0 l s i) l.length (twZ l) (fun i hi => by
    show spec_l13Twice.L0 l _ _ = spec_l13Twice.L0 l _ _
    have hm := Nat.mod_lt (i + 1) hn
    rw [spec_l13Twice.L0_eq, if_pos (by omega), if_neg (by omega), tmodN i l.length (by omega), if_pos (by omega), if_pos (by omega), if_pos (by omega), wS (by omega)]
    rfl)
  refine Eq.trans this ?_
  show spec_l13Twice.L0 l _ _ = _
  rw [spec_l13Twice.L0_eq, if_neg (by omega)]
theorem l17Area_L0 (m : List S79) (c d : Int) (s i : Int) : spec_l17Area.L0 [⟨m, c, d⟩] s i = if i < (m.length : Int) then (if 0 ≤ i then (if (rd_T79 m i).f2 = true then ((spec_l13Twice.F ((rd_T79 m i).f1)).bind fun t => (spec_l17Area.L0 [⟨m, c, d⟩] (wrap64 (s + t)) (wrap64 (i + 1)))) else (spec_l17Area.L0 [⟨m, c, d⟩] s (wrap64 (i + 1)))) else (none)) else (some s) := spec_l17Area.L0_eq [⟨m, c, d⟩] s i
theorem spec_l17Area_val (m : List S79) (c d : Int) (h8 : m.length ≤ 8) (hs : ∀ y ∈ m, sailB y.f1 = true) : spec_l17Area.F [⟨m, c, d⟩] = some (areaZ m) := by
  rw [spec_l17Area.F_eq, if_pos (by simp)]
  have := iterF (fun s i => spec_l17Area.L0 [⟨m, c, d⟩] s i) m.length (sumN (hArea m)) (fun i hi => by
    show spec_l17Area.L0 _ _ _ = spec_l17Area.L0 _ (sumN (hArea m) i + hArea m i) _
    have h1 := hs m[i] (List.getElem_mem hi)
    have h2 := sailB_len h1
    have h3 := plan_bd m h8 hs i (by omega)
    have h4 := plan_bd m h8 hs (i + 1) (by omega)
    have h5 : sumN (hArea m) (i + 1) = sumN (hArea m) i + hArea m i := rfl
    rw [l17Area_L0, if_pos (by omega), if_pos (by omega), wS (by omega)]
    unfold hArea at *
    rw [rdIHung m i hi] at *
    split
    · rename_i hf
      rw [spec_l13Twice_val _ (by omega) (by omega)]
      simp only [Option.bind_some]
      rw [if_pos hf] at h5
      rw [w64 (by omega) (by omega)]
    · rw [Int.add_zero])
  refine this.trans ?_
  show spec_l17Area.L0 _ _ _ = _
  rw [l17Area_L0, if_neg (by omega)]
  rfl
theorem impl_twiceSail_val (l : List S129) (hn : 0 < l.length) (hl : l.length < 4611686018427387904) : impl_twiceSail.F l = some (twZ l l.length) := by
  rw [impl_twiceSail.F_eq]
  have := iterF (fun s i => impl_twiceSail.L0 l s l (l.length : Int) i) l.length (twZ l) (fun i hi => by
    show impl_twiceSail.L0 l _ _ _ _ = impl_twiceSail.L0 l _ _ _ _
    have hm := Nat.mod_lt (i + 1) hn
    rw [impl_twiceSail.L0_eq, if_pos (by omega), if_pos (by omega), if_pos (by omega), if_neg (by omega), tmodN i l.length (by omega), if_pos (by omega), if_pos (by omega), wS (by omega)]
    rfl)
  refine Eq.trans this ?_
  show impl_twiceSail.L0 l _ _ _ _ = _
  rw [impl_twiceSail.L0_eq, if_neg (by omega)]
theorem impl_planSums_val (m : List S79) (c d : Int) (h8 : m.length ≤ 8) (hs : ∀ y ∈ m, sailB y.f1 = true) : impl_planSums.F m c d = some (areaZ m, mxZ m, myZ m) := by
  rw [impl_planSums.F_eq]
  have := iterF (fun (s : Int × Int × Int) i => impl_planSums.L0 s.1 s.2.1 s.2.2 m (m.length : Int) i) m.length (fun i => (sumN (hArea m) i, sumN (hMx m) i, sumN (hMy m) i)) (fun i hi => by
    show impl_planSums.L0 _ _ _ _ _ _ = impl_planSums.L0 (sumN (hArea m) i + hArea m i) (sumN (hMx m) i + hMx m i) (sumN (hMy m) i + hMy m i) _ _ _
    have h1 := hs m[i] (List.getElem_mem hi)
    have h2 := sailB_len h1
    have h3 := plan_bd m h8 hs i (by omega)
    have h4 := hung_bd m hs i hi
    rw [impl_planSums.L0_eq, if_pos (by omega), if_pos (by omega), if_pos (by omega)]
    unfold hArea hMx hMy at *
    rw [rdIHung m i hi] at *
    by_cases hf : m[i].f2 = true
    · simp only [if_pos hf] at h4 ⊢
      rw [impl_twiceSail_val _ (by omega) (by omega)]
      simp only [Option.bind_some]
      rw [w64 (n := _ + twZ _ _) (by omega) (by omega)]
      generalize hA : sumN (hArea m) i + twZ m[i].f1 m[i].f1.length = A at *
      have hA2 : sumN (fun i => if (rd_T79 m (i : Int)).f2 = true then twZ (rd_T79 m (i : Int)).f1 (rd_T79 m (i : Int)).f1.length else 0) i + twZ m[i].f1 m[i].f1.length = A := hA
      simp only [hA2] at *
      generalize hX : sumN (fun i => if (rd_T79 m (i : Int)).f2 = true then sumN (mxt (rd_T79 m (i : Int)).f1) (rd_T79 m (i : Int)).f1.length else 0) i = X at *
      generalize hY : sumN (fun i => if (rd_T79 m (i : Int)).f2 = true then sumN (myt (rd_T79 m (i : Int)).f1) (rd_T79 m (i : Int)).f1.length else 0) i = Y at *
      have h3x : -2048000000000 ≤ X ∧ X ≤ 2048000000000 := h3.2.1
      have h3y : -2048000000000 ≤ Y ∧ Y ≤ 2048000000000 := h3.2.2
      generalize m[i].f0 = nm
      generalize m[i].f2 = st
      generalize hl : m[i].f1 = l at *
      clear hA2 hA hX hY hl h3 h4
      have hin := iterF (fun (s : Int × Int) j => impl_planSums.L1 A s.1 s.2 m (m.length : Int) (i : Int) l (l.length : Int) j nm l st) l.length (fun j => (X + sumN (mxt l) j, Y + sumN (myt l) j)) (fun j hj => by
        show impl_planSums.L1 _ _ _ _ _ _ _ _ _ _ _ _ = impl_planSums.L1 _ (X + (sumN (mxt l) j + mxt l j)) (Y + (sumN (myt l) j + myt l j)) _ _ _ _ _ _ _ _ _
        have hm := Nat.mod_lt (j + 1) (show 0 < l.length by omega)
        obtain ⟨e1, b1, e2, b2, e3, b3⟩ := sail_ts l h1 j hj
        have h5 := sail_sums l h1 j (by omega)
        rw [impl_planSums.L1_eq, if_pos (by omega), if_pos (by omega), if_pos (by omega), if_neg (by omega), tmodN j l.length (by omega), if_pos (by omega), if_pos (by omega), wS (by omega)]
        simp only [sx_def, sy_def]
        rw [e1, e2, e3, w64 (n := X + sumN (mxt l) j + mxt l j) (by omega) (by omega), w64 (n := Y + sumN (myt l) j + myt l j) (by omega) (by omega), Int.add_assoc, Int.add_assoc])
      simp only [sumN, Int.add_zero] at hin
      refine hin.trans ?_
      rw [impl_planSums.L1_eq, if_neg (by omega), wS (by omega)]
    · simp only [if_neg hf, Int.add_zero]
      rw [wS (by omega)])
  refine Eq.trans this ?_
  show impl_planSums.L0 _ _ _ _ _ _ = _
  rw [impl_planSums.L0_eq, if_neg (by omega)]
  rfl
theorem gcdLoop (L : Int → Int → Option Int) (hL : ∀ a b, L a b = if b = 0 then some a else L b (Int.tmod a b)) (b : Nat) : ∀ a : Nat, L (a : Int) (b : Int) = some ((Nat.gcd a b : Nat) : Int) := by
  induction b using Nat.strongRecOn with
  | _ b ih =>
    intro a
    rw [hL]
    by_cases h : b = 0
    · subst h; simp
    · rw [if_neg (by omega), ← Int.ofNat_tmod, ih (a % b) (Nat.mod_lt _ (by omega)) b, Nat.gcd_comm a b, Nat.gcd_rec b a, Nat.gcd_comm]
/-- A fraction in lowest terms. -/
def fgcd (a b : Int) : Int := ((Nat.gcd a.natAbs b.natAbs : Nat) : Int)
def fracN (a b : Int) : Int := wrap64 (Int.tdiv a (fgcd a b))
def fracD (a b : Int) : Int := wrap64 (Int.tdiv b (fgcd a b))
theorem fgcd_pos (a b : Int) (hb : 0 < b) : 0 < fgcd a b := by
  have : 0 < Nat.gcd a.natAbs b.natAbs := Nat.gcd_pos_of_pos_right _ (by omega)
  unfold fgcd; omega
theorem frac_mul (a b : Int) (ha : -9223372036854775807 ≤ a) (ha2 : a ≤ 9223372036854775807) (hb : 0 < b) (hb2 : b ≤ 9223372036854775807) : fgcd a b * fracN a b = a ∧ fgcd a b * fracD a b = b := by
  have hp := fgcd_pos a b hb
  have d1 : fgcd a b ∣ a := Int.natAbs_dvd_natAbs.1 (by unfold fgcd; exact Nat.gcd_dvd_left _ _)
  have d2 : fgcd a b ∣ b := Int.natAbs_dvd_natAbs.1 (by unfold fgcd; exact Nat.gcd_dvd_right _ _)
  have e1 := Int.mul_tdiv_cancel' d1
  have e2 := Int.mul_tdiv_cancel' d2
  have n1 : (Int.tdiv a (fgcd a b)).natAbs ≤ a.natAbs := by rw [Int.natAbs_tdiv]; exact Nat.div_le_self _ _
  have n2 : (Int.tdiv b (fgcd a b)).natAbs ≤ b.natAbs := by rw [Int.natAbs_tdiv]; exact Nat.div_le_self _ _
  unfold fracN fracD
  rw [w64 (by omega) (by omega), w64 (by omega) (by omega)]
  exact ⟨e1, e2⟩
theorem impl_fraction_val (a b : Int) (ha : -9223372036854775807 ≤ a) (ha2 : a ≤ 9223372036854775807) (hb : 0 < b) (hb2 : b ≤ 9223372036854775807) : impl_fraction.F a b = some (fracN a b, fracD a b) := by
  rw [impl_fraction.F_eq, if_neg (by omega)]
  have hg := gcdLoop (fun x y => impl_gcd.L0 x y) (fun x y => impl_gcd.L0_eq x y) b.natAbs a.natAbs
  have hg2 : impl_gcd.F a b = some (fgcd a b) := by
    rw [impl_gcd.F_eq]
    simp only [impl_gcd.J0_eq]
    rw [show b = ((b.natAbs : Nat) : Int) by omega]
    by_cases h : a < 0
    · rw [if_pos h, w64 (by omega) (by omega), show -a = ((a.natAbs : Nat) : Int) by omega]
      refine Eq.trans hg ?_
      simp [fgcd]
    · rw [if_neg h]
      refine Eq.trans (congrArg (fun z => impl_gcd.L0 z _) (show a = ((a.natAbs : Nat) : Int) by omega)) (Eq.trans hg ?_)
      simp [fgcd]
  have hp := fgcd_pos a b hb
  rw [hg2]; simp only [Option.bind_some]
  rw [if_neg (by omega)]; rfl
/-- By how much the sails' centre is in front, times thrice the area. -/
def leadZ (m : List S79) (c : Int) : Int := mxZ m - c * (3 * areaZ m)
theorem lead_bdS {m : List S79} {c d : Int} (hp : planS m c d) : (0 ≤ c * (3 * areaZ m) ∧ c * (3 * areaZ m) ≤ 7680000000000) ∧ -9728000000000 ≤ leadZ m c ∧ leadZ m c ≤ 9728000000000 := by
  have hb := area_bdS hp
  obtain ⟨p1, p2, p3, p4⟩ := id hp
  have h1 := mul_bd c (3 * areaZ m) 5000 1536000000 (by omega) (by omega) (by omega) (by omega)
  have h2 := Int.mul_nonneg p3.1 (show 0 ≤ 3 * areaZ m by omega)
  unfold leadZ
  omega
theorem spec_l17Lead_val (m : List S79) (c d : Int) (hp : planS m c d) : spec_l17Lead.F [⟨m, c, d⟩] = some (leadZ m c, 3 * areaZ m) := by
  obtain ⟨p1, p2, p3, p4⟩ := id hp
  have hb := area_bdS hp
  have hl := lead_bdS hp
  have e : spec_l17Lead.F [⟨m, c, d⟩] = if 0 < (([⟨m, c, d⟩] : List S64).length : Int) then ((spec_l17Moments.F [⟨m, c, d⟩]).bind fun b => ((spec_l17Area.F [⟨m, c, d⟩]).bind fun t => (some (wrap64 (b.1 - (wrap64 (c * (wrap64 (3 * t))))), wrap64 (3 * t))))) else (none) := spec_l17Lead.F_eq _
  rw [e, if_pos (by simp), spec_l17Moments_val m c d p1 p4]
  simp only [Option.bind_some]
  rw [spec_l17Area_val m c d p1 p4]
  simp only [Option.bind_some]
  unfold leadZ at *
  rw [w64 (n := 3 * areaZ m) (by omega) (by omega), w64 (n := c * (3 * areaZ m)) (by omega) (by omega), w64 (by omega) (by omega)]
theorem impl_leadOf_val (m : List S79) (c d : Int) (hp : planS m c d) : impl_leadOf.F m c d = some (if areaZ m = 0 then (0, 0, false) else (fracN (leadZ m c) (3 * areaZ m), fracD (leadZ m c) (3 * areaZ m), true)) := by
  obtain ⟨p1, p2, p3, p4⟩ := id hp
  have hb := area_bdS hp
  have hl := lead_bdS hp
  rw [impl_leadOf.F_eq, impl_planSums_val m c d p1 p4]
  simp only [Option.bind_some]
  by_cases h0 : areaZ m = 0
  · rw [if_pos h0, if_pos h0]
  · rw [if_neg h0, if_neg h0]
    have e : wrap64 (mxZ m - wrap64 (wrap64 (3 * areaZ m) * c)) = leadZ m c := by
      rw [w64 (n := 3 * areaZ m) (by omega) (by omega), Int.mul_comm (3 * areaZ m) c]
      unfold leadZ at *
      rw [w64 (n := c * (3 * areaZ m)) (by omega) (by omega), w64 (by omega) (by omega)]
    rw [e, w64 (n := 3 * areaZ m) (by omega) (by omega), impl_fraction_val _ _ (by omega) (by omega) (by omega) (by omega)]
    rfl
theorem spec_l00In_val (n a b : Int) : spec_l00In.f n a b = some (inB n a b) := by
  unfold spec_l00In.f inB
  by_cases h : n ≥ a
  · rw [if_pos h]; simp [show a ≤ n from h]
  · rw [if_neg h]; simp; omega
theorem spec_l00Floor_lt (a b t : Int) (hb : 0 < b) (ha : -9223372036854775807 ≤ a) (ha2 : a ≤ 9223372036854775807) : ∃ q, spec_l00Floor.f a b = some q ∧ (q < t ↔ a < t * b) := by
  have e := Int.mul_tdiv_add_tmod a b
  have u := Int.tmod_lt_of_pos a hb
  have v := Int.lt_tmod_of_pos a hb
  have n1 : (Int.tdiv a b).natAbs ≤ a.natAbs := by rw [Int.natAbs_tdiv]; exact Nat.div_le_self _ _
  unfold spec_l00Floor.f
  rw [if_neg (by omega), w64 (n := Int.tdiv a b) (by omega) (by omega)]
  generalize Int.tmod a b = r at *
  generalize Int.tdiv a b = q at *
  have key : ∀ q' r' : Int, b * q' + r' = a → 0 ≤ r' → r' < b → (q' < t ↔ a < t * b) := by
    intro q' r' e' h0 h1
    constructor
    · intro h
      have h2 : b * (q' + 1) ≤ b * t := Int.mul_le_mul_of_nonneg_left (by omega) (by omega)
      have h3 : b * (q' + 1) = b * q' + b := by grind
      rw [Int.mul_comm t b]; omega
    · intro h
      by_cases hq : q' < t
      · exact hq
      · have h2 : b * t ≤ b * q' := Int.mul_le_mul_of_nonneg_left (by omega) (by omega)
        rw [Int.mul_comm t b] at h; omega
  by_cases hr : r < 0
  · rw [if_pos hr]
    by_cases hq : q = -9223372036854775808
    · omega
    · rw [w64 (n := q - 1) (by omega) (by omega)]
      refine ⟨_, rfl, key (q - 1) (r + b) ?_ (by omega) (by omega)⟩
      have : b * (q - 1) = b * q - b := by grind
      omega
  · rw [if_neg hr]
    exact ⟨_, rfl, key q r e (by omega) (by omega)⟩
def weatherS : ByteArray := ⟨#[119, 101, 97, 116, 104, 101, 114]⟩
def leeS : ByteArray := ⟨#[108, 101, 101]⟩
def balancedS : ByteArray := ⟨#[98, 97, 108, 97, 110, 99, 101, 100]⟩
def helmZ (m : List S79) (c d a b : Int) : ByteArray := if 1000 * leadZ m c < a * d * (3 * areaZ m) then weatherS else (if b * d * (3 * areaZ m) < 1000 * leadZ m c then leeS else balancedS)
theorem spec_l17Helm_val (m : List S79) (c d a b : Int) (hp : planS m c d) (h0 : areaZ m ≠ 0) (ha : -1000 ≤ a ∧ a ≤ 1000) (hb' : -1000 ≤ b ∧ b ≤ 1000) : spec_l17Helm.F [⟨m, c, d⟩] a b = some (helmZ m c d a b) := by
  obtain ⟨p1, p2, p3, p4⟩ := id hp
  have hb := area_bdS hp
  have hl := lead_bdS hp
  have e : spec_l17Helm.F [⟨m, c, d⟩] a b = if 0 < (([⟨m, c, d⟩] : List S64).length : Int) then ((spec_l17Lead.F [⟨m, c, d⟩]).bind fun x => ((spec_l00Floor.f (wrap64 (1000 * x.1)) x.2).bind fun t => (if t < (wrap64 (a * d)) then (some weatherS) else ((spec_l00Floor.f (wrap64 ((-1000) * x.1)) x.2).bind fun u => (if u < (wrap64 ((wrap64 (-b)) * d)) then (some leeS) else (some balancedS)))))) else (none) := spec_l17Helm.F_eq _ a b
  have m1 := mul_bd a d 1000 5000 (by omega) (by omega) (by omega) (by omega)
  have m2 := mul_bd (-b) d 1000 5000 (by omega) (by omega) (by omega) (by omega)
  rw [e, if_pos (by simp), spec_l17Lead_val m c d hp]
  simp only [Option.bind_some]
  rw [w64 (n := 1000 * leadZ m c) (by omega) (by omega), w64 (n := -1000 * leadZ m c) (by omega) (by omega), w64 (n := -b) (by omega) (by omega), w64 (n := a * d) (by omega) (by omega), w64 (n := -b * d) (by omega) (by omega)]
  obtain ⟨q1, e1, i1⟩ := spec_l00Floor_lt (1000 * leadZ m c) (3 * areaZ m) (a * d) (by omega) (by omega) (by omega)
  obtain ⟨q2, e2, i2⟩ := spec_l00Floor_lt (-1000 * leadZ m c) (3 * areaZ m) (-b * d) (by omega) (by omega) (by omega)
  rw [e1]; simp only [Option.bind_some]
  rw [e2]; simp only [Option.bind_some]
  have i3 : (-1000 * leadZ m c < -b * d * (3 * areaZ m)) ↔ (b * d * (3 * areaZ m) < 1000 * leadZ m c) := by
    have : -b * d * (3 * areaZ m) = -(b * d * (3 * areaZ m)) := by grind
    rw [this]; omega
  unfold helmZ
  simp only [i1, i2, i3]
  split
  · rfl
  · split <;> rfl
theorem impl_helmOf_val (m : List S79) (c d a b : Int) (hp : planS m c d) (ha : -1000 ≤ a ∧ a ≤ 1000) (hb' : -1000 ≤ b ∧ b ≤ 1000) : impl_helmOf.F m c d a b = some (if areaZ m = 0 then ⟨#[]⟩ else helmZ m c d a b) := by
  obtain ⟨p1, p2, p3, p4⟩ := id hp
  have hb := area_bdS hp
  have hl := lead_bdS hp
  rw [impl_helmOf.F_eq, impl_leadOf_val m c d hp]
  simp only [Option.bind_some]
  by_cases h0 : areaZ m = 0
  · rw [if_pos h0, if_pos h0]; rfl
  · rw [if_neg h0, if_neg h0, if_pos rfl]
    have m1 := mul_bd a d 1000 5000 (by omega) (by omega) (by omega) (by omega)
    have m2 := mul_bd b d 1000 5000 (by omega) (by omega) (by omega) (by omega)
    obtain ⟨f1, f2⟩ := frac_mul (leadZ m c) (3 * areaZ m) (by omega) (by omega) (by omega) (by omega)
    have hg := fgcd_pos (leadZ m c) (3 * areaZ m) (by omega)
    have hN : (fracN (leadZ m c) (3 * areaZ m)).natAbs ≤ (leadZ m c).natAbs := by
      rw [← f1, Int.natAbs_mul, f1]; exact Nat.le_mul_of_pos_left _ (by omega)
    have hD : (fracD (leadZ m c) (3 * areaZ m)).natAbs ≤ (3 * areaZ m).natAbs := by
      rw [← f2, Int.natAbs_mul, f2]; exact Nat.le_mul_of_pos_left _ (by omega)
    generalize fracN (leadZ m c) (3 * areaZ m) = n' at *
    generalize fracD (leadZ m c) (3 * areaZ m) = d' at *
    generalize fgcd (leadZ m c) (3 * areaZ m) = g at *
    have m3 := mul_bd (a * d) d' 5000000 1536000000 (by omega) (by omega) (by omega) (by omega)
    have m4 := mul_bd (b * d) d' 5000000 1536000000 (by omega) (by omega) (by omega) (by omega)
    rw [w64 (n := 1000 * n') (by omega) (by omega), w64 (n := a * d) (by omega) (by omega), w64 (n := b * d) (by omega) (by omega), w64 (n := a * d * d') (by omega) (by omega), w64 (n := b * d * d') (by omega) (by omega)]
    have key : ∀ x y : Int, (x < y) ↔ (g * x < g * y) := fun x y => ⟨fun h => Int.mul_lt_mul_of_pos_left h hg, fun h => Int.lt_of_mul_lt_mul_left h (by omega)⟩
    have k1 : (1000 * n' < a * d * d') ↔ (1000 * leadZ m c < a * d * (3 * areaZ m)) := by
      rw [key, show g * (1000 * n') = 1000 * (g * n') by grind, show g * (a * d * d') = a * d * (g * d') by grind, f1, f2]
    have k2 : (1000 * n' > b * d * d') ↔ (b * d * (3 * areaZ m) < 1000 * leadZ m c) := by
      show b * d * d' < 1000 * n' ↔ _
      rw [key, show g * (1000 * n') = 1000 * (g * n') by grind, show g * (b * d * d') = b * d * (g * d') by grind, f1, f2]
    unfold helmZ
    simp only [k1, k2]
    split
    · rfl
    · split <;> rfl
theorem l17Find_L0 (m : List S79) (c d : Int) (s : ByteArray) (i : Int) : spec_l17Find.L0 [⟨m, c, d⟩] s i = if i < (m.length : Int) then (if 0 ≤ i then (if ((rd_T79 m i).f0).toList = s.toList then some i else spec_l17Find.L0 [⟨m, c, d⟩] s (wrap64 (i + 1))) else none) else some (-1) := spec_l17Find.L0_eq [⟨m, c, d⟩] s i
theorem spec_l17Find_val (m : List S79) (c d : Int) (s : ByteArray) (hl : m.length ≤ 1048576) : spec_l17Find.F [⟨m, c, d⟩] s = some (idxF (fun y : S79 => decide (y.f0 = s)) m) := by
  rw [spec_l17Find.F_eq, if_pos (by simp)]
  refine findLoop m _ (fun i => spec_l17Find.L0 [⟨m, c, d⟩] s i) (fun i hi => ?_) ?_
  · show spec_l17Find.L0 _ _ _ = if _ then _ else spec_l17Find.L0 _ _ _
    rw [l17Find_L0, if_pos (by omega), if_pos (by omega), rdIHung m i hi, wS (by omega)]
    have : (m[i].f0.toList = s.toList) ↔ m[i].f0 = s := by
      rw [ByteArray.toList_eq, ByteArray.toList_eq]
      exact ⟨fun h => ByteArray.ext (Array.toList_inj.mp h), fun h => by rw [h]⟩
    by_cases h : m[i].f0 = s
    · rw [if_pos (this.2 h), if_pos (by simpa using h)]
    · rw [if_neg (fun z => h (this.1 z)), if_neg (by simpa using h)]
  · show spec_l17Find.L0 _ _ _ = _
    rw [l17Find_L0, if_neg (by omega)]
theorem toList_nil (s : ByteArray) : s.toList = ([] : List UInt8) ↔ s.size = 0 := by
  rw [ByteArray.toList_eq]
  constructor
  · intro h
    have := congrArg List.length h
    simpa using this
  · intro h
    apply List.eq_nil_of_length_eq_zero
    simpa using h
theorem spec_l01Small_val (n : Int) : spec_l01Small.f n = some (inB n 97 122) := by
  unfold spec_l01Small.f inB
  by_cases h : n ≥ 97
  · rw [if_pos h]; simp [show 97 ≤ n from h]
  · rw [if_neg h]; simp; omega
theorem spec_l01Digit_val (n : Int) : spec_l01Digit.f n = some (inB n 48 57) := by
  unfold spec_l01Digit.f inB
  by_cases h : n ≥ 48
  · rw [if_pos h]; simp [show 48 ≤ n from h]
  · rw [if_neg h]; simp; omega
theorem spec_IsName_val (s : ByteArray) (hs : s.size ≤ 1048576) : spec_IsName.F s = some (nameB s) := by
  rw [spec_IsName.F_eq]
  unfold nameB
  by_cases h0 : s.size = 0
  · rw [if_pos ((toList_nil s).2 h0), spec_IsName.J0_eq, if_pos rfl]
    simp [h0]
  · rw [if_neg (fun h => h0 ((toList_nil s).1 h)), show decide (1 ≤ s.size) = true from decide_eq_true (by omega), Bool.true_and]
    by_cases h1 : (s.size : Int) > 12
    · rw [if_pos h1, spec_IsName.J0_eq, if_pos rfl, show decide (s.size ≤ 12) = false from decide_eq_false (by omega), Bool.false_and]
    · rw [if_neg h1, if_pos (by omega), spec_l01Small_val]
      simp only [Option.bind_some]
      rw [show decide (s.size ≤ 12) = true from decide_eq_true (by omega), Bool.true_and, spec_IsName.J0_eq]
      cases h2 : inB (bt s 0) 97 122
      · simp
      · rw [if_neg (by simp), Bool.true_and, ← Bool.and_true (List.all _ _)]
        refine allRange s.size _ (fun i => spec_IsName.L0 s i) true (fun i hi => ?_) ?_
        · show spec_IsName.L0 s _ = if _ then spec_IsName.L0 s _ else _
          rw [spec_IsName.L0_eq, if_pos (by omega), if_pos (by omega), wS (by omega)]
          simp only [spec_l01Small_val, spec_l01Digit_val, Option.bind_some]
          unfold charB
          cases inB (bt s (i : Int)) 97 122 <;> cases inB (bt s (i : Int)) 48 57 <;> by_cases h3 : bt s (i : Int) = 45 <;> simp [h3]
        · show spec_IsName.L0 s _ = _
          rw [spec_IsName.L0_eq, if_neg (by omega)]
theorem spec_l13Cross_val {a b c d e f : Int} (ha : R2 a) (hb : R2 b) (hc : R2 c) (hd : R2 d) (he : R2 e) (hf : R2 f) : spec_l13Cross.f a b c d e f = some (crossZ a b c d e f) := by
  unfold spec_l13Cross.f crossZ
  rw [hc.ww ha hf hb hd hb he ha]
theorem spec_l00Min_val (a b : Int) : spec_l00Min.f a b = some (min a b) := by unfold spec_l00Min.f; rw [Int.min_def]; split <;> split <;> first | rfl | (congr 1; omega)
theorem spec_l00Max_val (a b : Int) : spec_l00Max.f a b = some (max a b) := by unfold spec_l00Max.f; rw [Int.max_def]; split <;> split <;> first | rfl | (congr 1; omega)
theorem spec_l13On_val {a b c d e f : Int} (ha : R2 a) (hb : R2 b) (hc : R2 c) (hd : R2 d) (he : R2 e) (hf : R2 f) : spec_l13On.f a b c d e f = some (onB a b c d e f) := by
  unfold spec_l13On.f onB betB
  simp only [spec_l13Cross_val ha hb hc hd he hf, Option.bind_some, spec_l00Min_val, spec_l00Max_val, spec_l00In_val]
  by_cases h : crossZ a b c d e f = 0
  · rw [if_pos h]
    cases inB e (min a c) (max a c) <;> simp [h]
  · rw [if_neg h]; simp [h]
theorem spec_l13Sides_val {a b c d e f g h : Int} (ha : R2 a) (hb : R2 b) (hc : R2 c) (hd : R2 d) (he : R2 e) (hf : R2 f) (hg : R2 g) (hh : R2 h) : spec_l13Sides.f a b c d e f g h = some (sidesB a b c d e f g h) := by
  unfold spec_l13Sides.f sidesB
  simp only [spec_l13Cross_val ha hb hc hd he hf, spec_l13Cross_val ha hb hc hd hg hh, Option.bind_some]
  generalize crossZ a b c d e f = x
  generalize crossZ a b c d g h = y
  by_cases h1 : x < 0 <;> by_cases h2 : y > 0 <;> by_cases h3 : x > 0 <;> simp [h1, h2, h3] <;> omega
theorem spec_l13Meet_val {a b c d e f g h : Int} (ha : R2 a) (hb : R2 b) (hc : R2 c) (hd : R2 d) (he : R2 e) (hf : R2 f) (hg : R2 g) (hh : R2 h) : spec_l13Meet.F a b c d e f g h = some (meetB a b c d e f g h) := by
  rw [spec_l13Meet.F_eq]
  simp only [spec_l13On_val ha hb hc hd he hf, spec_l13On_val ha hb hc hd hg hh, spec_l13On_val he hf hg hh ha hb, spec_l13On_val he hf hg hh hc hd, Option.bind_some, spec_l13Meet.J0_eq, spec_l13Sides_val ha hb hc hd he hf hg hh, spec_l13Sides_val he hf hg hh ha hb hc hd]
  unfold meetB
  cases onB a b c d e f <;> cases onB a b c d g h <;> cases onB e f g h a b <;> cases onB e f g h c d <;> cases sidesB a b c d e f g h <;> simp
/-- A loop that ends with one answer at the first element that isn't as it should be, with another one behind the last. -/
theorem allTo {α β : Type} (l : List α) (p : α → Bool) (g : Int → β) (no r : β) (h : ∀ i (hi : i < l.length), g (i : Int) = if p l[i] = true then g ((i + 1 : Nat) : Int) else no) (he : g (l.length : Int) = r) : g 0 = if l.all p = true then r else no := by
  have key : ∀ (d i : Nat), l.length - i = d → i ≤ l.length → g (i : Int) = if (l.drop i).all p = true then r else no := by
    intro d
    induction d with
    | zero =>
      intro i hd hi
      obtain rfl : i = l.length := by omega
      rw [he]; simp
    | succ d ih =>
      intro i hd hi
      have hlt : i < l.length := by omega
      rw [h i hlt, ih (i + 1) (by omega) (by omega), List.drop_eq_getElem_cons hlt, List.all_cons]
      by_cases hp : p l[i] = true
      · rw [if_pos hp, hp, Bool.true_and]
      · rw [if_neg hp, if_neg (by simp [hp])]
  have := key l.length 0 (by omega) (by omega)
  simpa using this
theorem spec_l13Ok_val (l : List S129) (hl : l.length < 2305843009213693952) : spec_l13Ok.F l = some (sailB l) := by
  rw [spec_l13Ok.F_eq, spec_l00In_val]
  simp only [Option.bind_some]
  by_cases hc : 3 ≤ l.length ∧ l.length ≤ 8
  · obtain ⟨h3, h8⟩ := hc
    rw [if_pos ((inB_iff _ _ _).2 (by omega))]
    unfold sailB
    rw [show (decide (3 ≤ l.length) && decide (l.length ≤ 8)) = true by simp [h3, h8], Bool.true_and]
    have e0 := allTo l spotIn (fun i => spec_l13Ok.L0 l (l.length : Int) i) (some false) _ (fun i hi => by
      show spec_l13Ok.L0 l _ _ = if _ then spec_l13Ok.L0 l _ _ else _
      rw [spec_l13Ok.L0_eq, if_pos (by omega), if_pos (by omega), if_pos (by omega), rdISpot l i hi, wS (by omega)]
      simp only [spec_l00In_val, Option.bind_some]
      unfold spotIn
      rw [ite_band]) (by
      show spec_l13Ok.L0 l _ _ = _
      rw [spec_l13Ok.L0_eq, if_neg (by omega)])
    refine e0.trans ?_
    by_cases ha : l.all spotIn = true
    · rw [if_pos ha, ha, Bool.true_and]
      have hR := spots_R l ha
      have hM : ∀ i, i % l.length < l.length := fun i => Nat.mod_lt i (by omega)
      refine allRange l.length _ (fun i => spec_l13Ok.L1 l (l.length : Int) i) _ (fun i hi => ?_) ?_
      · show spec_l13Ok.L1 l _ _ = if _ then spec_l13Ok.L1 l _ _ else _
        have hm1 := hM (i + 1)
        have hm2 := hM (i + 2)
        rw [spec_l13Ok.L1_eq, if_pos (by omega), if_pos (by omega), if_pos (by omega), if_neg (by omega), tmodN i l.length (by omega), tmodN2 i l.length (by omega), if_pos (by omega), if_pos (by omega), if_pos (by omega), if_pos (by omega)]
        simp only [sx_def, sy_def]
        rw [spec_l13Cross_val (hR i hi).1 (hR i hi).2 (hR _ hm1).1 (hR _ hm1).2 (hR _ hm2).1 (hR _ hm2).2]
        simp only [Option.bind_some]
        rw [ite_band]
        show (if crossAt l i _ _ = 0 then _ else _) = _
        by_cases hcr : crossAt l i ((i + 1) % l.length) ((i + 2) % l.length) = 0
        · rw [if_pos hcr, if_neg (by simp [hcr])]
        · rw [if_neg hcr, if_pos (by simp [hcr]), w64 (by omega) (by omega), show ((i : Int) + 2) = ((i + 2 : Nat) : Int) by omega]
          refine stepLoop (i + 2) l.length _ (fun k => spec_l13Ok.L2 l (l.length : Int) i k _ _ _ _) _ _ (fun k hk1 hk => ?_) (fun k hk => ?_)
          · show spec_l13Ok.L2 l _ _ _ _ _ _ _ = if _ then spec_l13Ok.L2 l _ _ _ _ _ _ _ else _
            have hk3 := hM (k + 1)
            rw [spec_l13Ok.L2_eq, if_pos (by omega), tmodN k l.length (by omega), w64 (n := (l.length : Int) - 1) (by omega) (by omega), wS (i := k) (by omega)]
            simp only [sx_def, sy_def, spec_l13Meet_val (hR i hi).1 (hR i hi).2 (hR _ hm1).1 (hR _ hm1).2 (hR k hk).1 (hR k hk).2 (hR _ hk3).1 (hR _ hk3).2, Option.bind_some]
            rw [show meetB (sx l i) (sy l i) (sx l ((i + 1) % l.length)) (sy l ((i + 1) % l.length)) (sx l k) (sy l k) (sx l ((k + 1) % l.length)) (sy l ((k + 1) % l.length)) = meetAt l i ((i + 1) % l.length) k ((k + 1) % l.length) from rfl]
            have c1 : ((i : Int) > 0) ↔ i > 0 := by omega
            have c2 : ((k : Int) < (l.length : Int) - 1) ↔ k < l.length - 1 := by omega
            rw [if_pos (show (0 : Int) ≤ (k : Int) by omega), if_pos (show (k : Int) < (l.length : Int) by omega), if_neg (show ¬ (l.length : Int) = 0 by omega), if_pos (show (0 : Int) ≤ (((k + 1) % l.length : Nat) : Int) by omega), if_pos (show (((k + 1) % l.length : Nat) : Int) < (l.length : Int) by omega)]
            simp only [c1, c2]
            cases meetAt l i ((i + 1) % l.length) k ((k + 1) % l.length) <;> by_cases h1 : i > 0 <;> by_cases h2 : k < l.length - 1 <;> simp [h1, h2]
          · show spec_l13Ok.L2 l _ _ _ _ _ _ _ = _
            rw [spec_l13Ok.L2_eq, if_neg (by omega), wS (by omega)]
      · show spec_l13Ok.L1 l _ _ = _
        rw [spec_l13Ok.L1_eq, if_neg (by omega), spec_l13Twice_val l (by omega) (by omega)]
        rfl
    · rw [if_neg ha]; simp [ha]
  · rw [if_neg (by rw [inB_iff]; omega)]
    unfold sailB
    have : (decide (3 ≤ l.length) && decide (l.length ≤ 8)) = false := by
      rw [← Bool.not_eq_true]; simp only [Bool.and_eq_true, decide_eq_true_eq]; exact hc
    rw [this, Bool.false_and]
theorem l17Ok_L0 (m : List S79) (c d : Int) (i : Int) : spec_l17Ok.L0 [⟨m, c, d⟩] i = if i < (m.length : Int) then (if 0 ≤ i then ((spec_IsName.F ((rd_T79 m i).f0)).bind fun t => (if t = true then ((spec_l17Find.F [⟨m, c, d⟩] ((rd_T79 m i).f0)).bind fun u => (if u = i then ((spec_l13Ok.F ((rd_T79 m i).f1)).bind fun v => (if v = true then (spec_l17Ok.L0 [⟨m, c, d⟩] (wrap64 (i + 1))) else (some false))) else (some false))) else (some false))) else none) else (if (m.length : Int) ≤ 8 then ((spec_l00In.f d 1 5000).bind fun t => (if t = true then ((spec_l00In.f c 0 d).bind fun u => (some u)) else (some false))) else (some false)) := spec_l17Ok.L0_eq [⟨m, c, d⟩] i
theorem spec_l17Ok_val (m : List S79) (c d : Int) (hl : m.length ≤ 1048576) (hy : ∀ y ∈ m, y.f0.size ≤ 1048576 ∧ y.f1.length ≤ 1048576) : spec_l17Ok.F [⟨m, c, d⟩] = some (planB m c d) := by
  rw [spec_l17Ok.F_eq, if_pos (by simp)]
  unfold planB
  refine allRange m.length _ (fun i => spec_l17Ok.L0 [⟨m, c, d⟩] i) _ (fun i hi => ?_) ?_
  · show spec_l17Ok.L0 _ _ = if _ then spec_l17Ok.L0 _ _ else _
    have h1 := hy m[i] (List.getElem_mem hi)
    rw [l17Ok_L0, if_pos (by omega), if_pos (by omega), rdIHung m i hi, wS (by omega), spec_IsName_val _ h1.1, spec_l17Find_val m c d _ hl, spec_l13Ok_val _ (by omega), hungAt_eq m i hi]
    simp only [Option.bind_some]
    have h2 := idxF_take (fun y : S79 => decide (y.f0 = m[i].f0)) m i hi (by simp)
    cases nameB m[i].f0
    · simp
    · by_cases h3 : idxF (fun y : S79 => decide (y.f0 = m[i].f0)) m = (i : Int)
      · rw [if_pos rfl, if_pos h3, show decide (¬ idxF (fun y : S79 => decide (y.f0 = m[i].f0)) (m.take i) ≥ 0) = true from decide_eq_true (h2.1 h3)]
        simp
      · rw [if_pos rfl, if_neg h3, show decide (¬ idxF (fun y : S79 => decide (y.f0 = m[i].f0)) (m.take i) ≥ 0) = false from decide_eq_false (fun z => h3 (h2.2 z))]
        simp
  · show spec_l17Ok.L0 _ _ = _
    rw [l17Ok_L0, if_neg (by omega), spec_l00In_val, spec_l00In_val]
    simp only [Option.bind_some]
    by_cases h : (m.length : Int) ≤ 8
    · rw [if_pos h, show decide (m.length ≤ 8) = true from decide_eq_true (by omega)]
      cases inB d 1 5000 <;> simp
    · rw [if_neg h, show decide (m.length ≤ 8) = false from decide_eq_false (by omega)]; rfl
theorem impl_IsName_val (s : ByteArray) (hs : s.size ≤ 1048576) : impl_IsName.F s = some (nameB s) := by
  rw [impl_IsName.F_eq]
  unfold nameB
  by_cases h0 : (s.size : Int) < 1
  · rw [if_pos h0, impl_IsName.J0_eq, if_pos rfl, show decide (1 ≤ s.size) = false from decide_eq_false (by omega), Bool.false_and]
  · rw [if_neg h0, show decide (1 ≤ s.size) = true from decide_eq_true (by omega), Bool.true_and]
    by_cases h1 : (s.size : Int) > 12
    · rw [if_pos h1, impl_IsName.J0_eq, if_pos rfl, show decide (s.size ≤ 12) = false from decide_eq_false (by omega), Bool.false_and]
    · rw [if_neg h1, if_pos (by omega), show decide (s.size ≤ 12) = true from decide_eq_true (by omega), Bool.true_and]
      have hl : impl_IsName.L0 s 0 = some ((List.range s.size).all (fun i => charB (bt s (i : Int))) && true) := by
        refine allRange s.size _ (fun i => impl_IsName.L0 s i) true (fun i hi => ?_) ?_
        · show impl_IsName.L0 s _ = if _ then impl_IsName.L0 s _ else _
          rw [impl_IsName.L0_eq, if_pos (by omega), if_pos (by omega), wS (by omega)]
          generalize bt s (i : Int) = n
          have hc := charB_iff n
          by_cases h : charB n = true
          · have h' := hc.1 h
            rw [if_pos h]
            repeat' split
            all_goals first | rfl | (exfalso; omega)
          · have h' := fun z => h (hc.2 z)
            rw [if_neg h]
            repeat' split
            all_goals first | rfl | (exfalso; apply h'; omega)
        · show impl_IsName.L0 s _ = _
          rw [impl_IsName.L0_eq, if_neg (by omega)]
      rw [Bool.and_true] at hl
      simp only [impl_IsName.J0_eq, hl]
      unfold inB
      by_cases a1 : bt s 0 < 97
      · rw [if_pos a1, if_pos trivial, show decide (97 ≤ bt s 0) = false from decide_eq_false (by omega)]; rfl
      · rw [if_neg a1]
        by_cases a2 : bt s 0 > 122
        · rw [if_pos (by simpa using a2), show decide (bt s 0 ≤ 122) = false from decide_eq_false (by omega), Bool.and_false]; rfl
        · rw [if_neg (by simpa using a2), show decide (97 ≤ bt s 0) = true from decide_eq_true (by omega), show decide (bt s 0 ≤ 122) = true from decide_eq_true (by omega)]; rfl
theorem crossZ_bd {a b c d e f : Int} (ha : R2 a) (hb : R2 b) (hc : R2 c) (hd : R2 d) (he : R2 e) (hf : R2 f) : -8000000 ≤ crossZ a b c d e f ∧ crossZ a b c d e f ≤ 8000000 := by
  unfold crossZ R2 at *
  have h1 := mul_bd (c - a) (f - b) 2000 2000 (by omega) (by omega) (by omega) (by omega)
  have h2 := mul_bd (d - b) (e - a) 2000 2000 (by omega) (by omega) (by omega) (by omega)
  omega
theorem impl_turnAt_val {a b c d e f : Int} (ha : R2 a) (hb : R2 b) (hc : R2 c) (hd : R2 d) (he : R2 e) (hf : R2 f) : impl_turnAt.f a b c d e f = some (crossZ a b c d e f) := by
  unfold impl_turnAt.f
  rw [hc.ww ha hf hd hd hb he hc]
  unfold crossZ
  congr 1
  grind
theorem mn_min (a b : Int) : mn a b = min a b := by unfold mn; rw [Int.min_def]; split <;> split <;> omega
theorem mx_max (a b : Int) : mx a b = max a b := by unfold mx; rw [Int.max_def]; split <;> split <;> omega
theorem impl_within_val (n a b : Int) : impl_within.f n a b = some (inB n a b) := by
  unfold impl_within.f inB
  by_cases h : n ≥ a
  · rw [if_pos h]; simp [show a ≤ n from h]
  · rw [if_neg h]; simp; omega
theorem impl_sign_val (x : Int) : impl_sign.f x = some x.sign := by
  unfold impl_sign.f
  by_cases h : x > 0
  · rw [if_pos h, Int.sign_eq_one_of_pos h]
  · by_cases h2 : x < 0
    · rw [if_neg h, if_pos h2, Int.sign_eq_neg_one_of_neg h2]
    · rw [if_neg h, if_neg h2, show x = 0 by omega]; rfl
theorem sign_cross (x y : Int) : decide (wrap64 (x.sign * y.sign) < 0) = ((decide (x < 0) && decide (y > 0)) || (decide (x > 0) && decide (y < 0))) := by
  rcases Int.lt_trichotomy x 0 with hx | hx | hx <;> rcases Int.lt_trichotomy y 0 with hy | hy | hy <;>
    simp only [hx, hy, Int.sign_eq_neg_one_of_neg, Int.sign_eq_one_of_pos, Int.sign_zero] <;> (have := hx; have := hy; simp [wrap64]; try omega)
theorem impl_between_val (a b c d e f : Int) : impl_between.f a b c d e f = some (betB a b c d e f) := by
  unfold impl_between.f betB
  simp only [impl_within_val, mn_min, mx_max, Option.bind_some]
  cases inB e (min a c) (max a c) <;> simp
theorem impl_edgesMeet_val {a b c d e f g h : Int} (ha : R2 a) (hb : R2 b) (hc : R2 c) (hd : R2 d) (he : R2 e) (hf : R2 f) (hg : R2 g) (hh : R2 h) : impl_edgesMeet.F a b c d e f g h = some (meetB a b c d e f g h) := by
  rw [impl_edgesMeet.F_eq]
  simp only [impl_turnAt_val ha hb hc hd he hf, impl_turnAt_val ha hb hc hd hg hh, impl_turnAt_val he hf hg hh ha hb, impl_turnAt_val he hf hg hh hc hd, Option.bind_some, impl_sign_val, impl_edgesMeet.J0_eq, impl_between_val]
  have s1 := sign_cross (crossZ a b c d e f) (crossZ a b c d g h)
  have s2 := sign_cross (crossZ e f g h a b) (crossZ e f g h c d)
  rw [s2]
  unfold meetB onB sidesB
  rw [← s2, ← s1]
  generalize crossZ a b c d e f = x1 at *
  generalize crossZ a b c d g h = x2 at *
  generalize crossZ e f g h a b = x3 at *
  generalize crossZ e f g h c d = x4 at *
  generalize betB a b c d e f = b1
  generalize betB a b c d g h = b2
  generalize betB e f g h a b = b3
  generalize betB e f g h c d = b4
  by_cases hs : wrap64 (x1.sign * x2.sign) < 0
  · rw [if_pos hs]
    by_cases hs2 : wrap64 (x3.sign * x4.sign) < 0
    · simp [hs, hs2]
    · simp only [hs2, decide_false, nf, if_false]
      by_cases h1 : x1 = 0 <;> by_cases h2 : x2 = 0 <;> by_cases h3 : x3 = 0 <;> by_cases h4 : x4 = 0 <;> cases b1 <;> cases b2 <;> cases b3 <;> cases b4 <;> simp [h1, h2, h3, h4]
  · rw [if_neg hs]
    simp only [hs, decide_false, nf, if_false]
    by_cases h1 : x1 = 0 <;> by_cases h2 : x2 = 0 <;> by_cases h3 : x3 = 0 <;> by_cases h4 : x4 = 0 <;> cases b1 <;> cases b2 <;> cases b3 <;> cases b4 <;> simp [h1, h2, h3, h4]
theorem impl_ValidSail_val (l : List S129) (hl : l.length < 2305843009213693952) : impl_ValidSail.F l = some (sailB l) := by
  rw [impl_ValidSail.F_eq]
  simp only [impl_ValidSail.J0_eq]
  by_cases hc : 3 ≤ l.length ∧ l.length ≤ 8
  · obtain ⟨h3, h8⟩ := hc
    rw [if_neg (by omega), if_neg (by simp; omega)]
    unfold sailB
    rw [show (decide (3 ≤ l.length) && decide (l.length ≤ 8)) = true by simp [h3, h8], Bool.true_and]
    have e0 := allTo l spotIn (fun i => impl_ValidSail.L0 l (l.length : Int) l (l.length : Int) i) (some false) _ (fun i hi => by
      show impl_ValidSail.L0 l _ _ _ _ = if _ then impl_ValidSail.L0 l _ _ _ _ else _
      rw [impl_ValidSail.L0_eq, if_pos (by omega), if_pos (by omega), if_pos (by omega), rdISpot l i hi, wS (by omega)]
      simp only [impl_within_val, Option.bind_some]
      unfold spotIn
      rw [ite_band]) (by
      show impl_ValidSail.L0 l _ _ _ _ = _
      rw [impl_ValidSail.L0_eq, if_neg (by omega)])
    refine e0.trans ?_
    by_cases ha : l.all spotIn = true
    · rw [if_pos ha, ha, Bool.true_and]
      have hR := spots_R l ha
      have hM : ∀ i, i % l.length < l.length := fun i => Nat.mod_lt i (by omega)
      have e1 := allTo (List.range l.length) (fun i => decide (crossAt l i ((i + 1) % l.length) ((i + 2) % l.length) ≠ 0)) (fun i => impl_ValidSail.L1 l (l.length : Int) (l.length : Int) i) (some false) (impl_ValidSail.L2 l (l.length : Int) (l.length : Int) 0) (fun i hi => by
        rw [List.length_range] at hi
        rw [List.getElem_range]
        show impl_ValidSail.L1 l _ _ _ = if _ then impl_ValidSail.L1 l _ _ _ else _
        have hm1 := hM (i + 1)
        have hm2 := hM (i + 2)
        rw [impl_ValidSail.L1_eq, if_pos (by omega), if_pos (by omega), if_pos (by omega), if_neg (by omega), tmodN i l.length (by omega), tmodN2 i l.length (by omega), if_pos (by omega), if_pos (by omega), if_pos (by omega), if_pos (by omega)]
        simp only [sx_def, sy_def]
        rw [impl_turnAt_val (hR i hi).1 (hR i hi).2 (hR _ hm1).1 (hR _ hm1).2 (hR _ hm2).1 (hR _ hm2).2, wS (by omega)]
        simp only [Option.bind_some]
        show (if crossAt l i _ _ = 0 then _ else _) = _
        by_cases hcr : crossAt l i ((i + 1) % l.length) ((i + 2) % l.length) = 0
        · rw [if_pos hcr, if_neg (by simp [hcr])]
        · rw [if_neg hcr, if_pos (by simp [hcr])]) (by
        rw [List.length_range]
        show impl_ValidSail.L1 l _ _ _ = _
        rw [impl_ValidSail.L1_eq, if_neg (by omega)])
      refine e1.trans ?_
      have e2 : impl_ValidSail.L2 l (l.length : Int) (l.length : Int) 0 = some ((List.range l.length).all (pairsOk l) && decide (twZ l l.length > 0)) := by
        refine allRange l.length _ (fun i => impl_ValidSail.L2 l (l.length : Int) (l.length : Int) i) _ (fun i hi => ?_) ?_
        · show impl_ValidSail.L2 l _ _ _ = if _ then impl_ValidSail.L2 l _ _ _ else _
          have hm1 := hM (i + 1)
          rw [impl_ValidSail.L2_eq, if_pos (by omega), w64 (n := (i : Int) + 2) (by omega) (by omega), show ((i : Int) + 2) = ((i + 2 : Nat) : Int) by omega]
          refine stepLoop (i + 2) l.length _ (fun k => impl_ValidSail.L3 l (l.length : Int) i k _ _) _ _ (fun k hk1 hk => ?_) (fun k hk => ?_)
          · show impl_ValidSail.L3 l _ _ _ _ _ = if _ then impl_ValidSail.L3 l _ _ _ _ _ else _
            have hk3 := hM (k + 1)
            have hi1 : (i + 1) % l.length = i + 1 := Nat.mod_eq_of_lt (by omega)
            rw [hi1] at hm1
            rw [impl_ValidSail.L3_eq, if_pos (by omega), if_neg (by omega), tmodN k l.length (by omega), wS (i := k) (by omega), wS (i := i) (by omega), if_pos (show (0 : Int) ≤ (i : Int) by omega), if_pos (show (i : Int) < (l.length : Int) by omega), if_pos (show (0 : Int) ≤ ((i + 1 : Nat) : Int) by omega), if_pos (show ((i + 1 : Nat) : Int) < (l.length : Int) by omega), if_pos (show (0 : Int) ≤ (k : Int) by omega), if_pos (show (k : Int) < (l.length : Int) by omega), if_pos (show (0 : Int) ≤ (((k + 1) % l.length : Nat) : Int) by omega), if_pos (show (((k + 1) % l.length : Nat) : Int) < (l.length : Int) by omega)]
            simp only [sx_def, sy_def, impl_edgesMeet_val (hR i hi).1 (hR i hi).2 (hR _ hm1).1 (hR _ hm1).2 (hR k hk).1 (hR k hk).2 (hR _ hk3).1 (hR _ hk3).2, Option.bind_some]
            rw [hi1]
            rw [show meetB (sx l i) (sy l i) (sx l (i + 1)) (sy l (i + 1)) (sx l k) (sy l k) (sx l ((k + 1) % l.length)) (sy l ((k + 1) % l.length)) = meetAt l i (i + 1) k ((k + 1) % l.length) from rfl]
            have hcase : ((((k + 1) % l.length : Nat) : Int) = (i : Int)) ↔ ¬ (i > 0 ∨ k < l.length - 1) := by
              by_cases hlast : k + 1 = l.length
              · rw [hlast, Nat.mod_self]; omega
              · rw [Nat.mod_eq_of_lt (by omega)]; omega
            by_cases hq : i > 0 ∨ k < l.length - 1
            · rw [if_neg (by rw [hcase]; exact fun h => h hq)]
              have : (decide (i > 0) || decide (k < l.length - 1)) = true := by simpa using hq
              rw [this]
              cases meetAt l i (i + 1) k ((k + 1) % l.length) <;> simp
            · rw [if_pos (hcase.2 hq)]
              have : (decide (i > 0) || decide (k < l.length - 1)) = false := by rw [← Bool.not_eq_true]; simpa using hq
              rw [this]; simp
          · show impl_ValidSail.L3 l _ _ _ _ _ = _
            rw [impl_ValidSail.L3_eq, if_neg (by omega), wS (by omega)]
        · show impl_ValidSail.L2 l _ _ _ = _
          rw [impl_ValidSail.L2_eq, if_neg (by omega), impl_twiceSail_val l (by omega) (by omega)]
          rfl
      rw [e2]
      generalize decide (twZ l l.length > 0) = t
      by_cases hA : (List.range l.length).all (fun i => decide (crossAt l i ((i + 1) % l.length) ((i + 2) % l.length) ≠ 0)) = true
      · rw [if_pos hA]
        congr 2
        rw [Bool.eq_iff_iff]
        simp only [List.all_eq_true, Bool.and_eq_true] at hA ⊢
        exact ⟨fun h x hx => ⟨hA x hx, h x hx⟩, fun h x hx => (h x hx).2⟩
      · rw [if_neg hA]
        have : (List.range l.length).all (fun i => decide (crossAt l i ((i + 1) % l.length) ((i + 2) % l.length) ≠ 0) && pairsOk l i) = false := by
          rw [← Bool.not_eq_true]
          intro h
          apply hA
          simp only [List.all_eq_true, Bool.and_eq_true] at h ⊢
          exact fun x hx => (h x hx).1
        rw [this]; rfl
    · rw [if_neg ha]; simp [ha]
  · unfold sailB
    have : (decide (3 ≤ l.length) && decide (l.length ≤ 8)) = false := by
      rw [← Bool.not_eq_true]; simp only [Bool.and_eq_true, decide_eq_true_eq]; exact hc
    rw [this, Bool.false_and]
    by_cases h3 : (l.length : Int) < 3
    · rw [if_pos h3]; rfl
    · rw [if_neg h3, if_pos (by simp; omega)]
theorem impl_ValidPlan_val (m : List S79) (c d : Int) (hl : m.length ≤ 1048576) (hy : ∀ y ∈ m, y.f0.size ≤ 1048576 ∧ y.f1.length ≤ 1048576) : impl_ValidPlan.F m c d = some (planB m c d) := by
  have hloop : impl_ValidPlan.L0 m (m.length : Int) 0 m c d = some ((List.range m.length).all (hungAt m) && true) := by
    refine allRange m.length _ (fun i => impl_ValidPlan.L0 m (m.length : Int) i m c d) _ (fun i hi => ?_) ?_
    · show impl_ValidPlan.L0 _ _ _ _ _ _ = if _ then impl_ValidPlan.L0 _ _ _ _ _ _ else _
      have h1 := hy m[i] (List.getElem_mem hi)
      rw [impl_ValidPlan.L0_eq, if_pos (by omega), if_pos (by omega), if_pos (by omega), rdIHung m i hi, wS (by omega), impl_IsName_val _ h1.1, impl_ValidSail_val _ (by omega), if_pos (show (i : Int) ≤ (m.length : Int) by omega), hungAt_eq m i hi, Int.toNat_natCast]
      unfold impl_sailNamed.f
      rw [if_pos (by rw [List.length_take]; omega)]
      simp only [Option.bind_some]
      cases nameB m[i].f0
      · simp
      · cases sailB m[i].f1
        · simp
        · by_cases h3 : idxF (fun y : S79 => decide (y.f0 = m[i].f0)) (m.take i) ≥ 0
          · rw [if_pos rfl, if_pos rfl, if_pos h3, if_neg (by simp [h3])]
          · rw [if_pos rfl, if_pos rfl, if_neg h3, if_pos (by simp [h3])]
    · show impl_ValidPlan.L0 _ _ _ _ _ _ = _
      rw [impl_ValidPlan.L0_eq, if_neg (by omega)]
  rw [Bool.and_true] at hloop
  rw [impl_ValidPlan.F_eq]
  unfold planB
  simp only [impl_within_val, impl_ValidPlan.J0_eq, hloop, Option.bind_some]
  by_cases h : (m.length : Int) > 8
  · rw [if_pos h, if_pos trivial, show decide (m.length ≤ 8) = false from decide_eq_false (by omega)]; simp
  · rw [if_neg h, show decide (m.length ≤ 8) = true from decide_eq_true (by omega)]
    cases inB d 1 5000 <;> cases inB c 0 d <;> simp
/-- The sums over a row, told by the row. -/
def lsum (g : S79 → Int) : List S79 → Int
  | [] => 0
  | y :: t => g y + lsum g t
theorem lsum_append (g : S79 → Int) (a b : List S79) : lsum g (a ++ b) = lsum g a + lsum g b := by
  induction a with
  | nil => simp [lsum]
  | cons x t ih => simp only [List.cons_append, lsum, ih]; omega
theorem sumN_lsum (g : S79 → Int) (m : List S79) : ∀ k, k ≤ m.length → sumN (fun i => g (rd_T79 m (i : Int))) k = lsum g (m.take k) := by
  intro k
  induction k with
  | zero => intro _; simp [sumN, lsum]
  | succ k ih =>
    intro hk
    have hk' : k < m.length := by omega
    show sumN (fun i => g (rd_T79 m (i : Int))) k + g (rd_T79 m (k : Int)) = _
    rw [ih (by omega), rdIHung m k hk', List.take_add_one, lsum_append, List.getElem?_eq_getElem hk']
    simp [lsum]
def gA (y : S79) : Int := if y.f2 = true then twZ y.f1 y.f1.length else 0
def gX (y : S79) : Int := if y.f2 = true then sumN (mxt y.f1) y.f1.length else 0
theorem areaZ_l (m : List S79) : areaZ m = lsum gA m := by
  have := sumN_lsum gA m m.length (Nat.le_refl _)
  rw [List.take_length] at this
  exact this
theorem mxZ_l (m : List S79) : mxZ m = lsum gX m := by
  have := sumN_lsum gX m m.length (Nat.le_refl _)
  rw [List.take_length] at this
  exact this
/-- Whether a sail's bit is on. -/
def bitOn (b : Int) (i : Nat) : Bool := (Go.bits .and .i64 (shr .i64 b (i : Int)) 1) == 1
def setFrom (b : Int) (i : Nat) : List S79 → List S79
  | [] => []
  | x :: t => (⟨x.f0, x.f1, bitOn b i⟩ : S79) :: setFrom b (i + 1) t
def pickFrom (b : Int) (i : Nat) : List S79 → List S79
  | [] => []
  | x :: t => if bitOn b i = true then (⟨⟨#[]⟩, x.f1, true⟩ : S79) :: pickFrom b (i + 1) t else pickFrom b (i + 1) t
def namesFrom (b : Int) (i : Nat) : List S79 → List ByteArray
  | [] => []
  | x :: t => if bitOn b i = true then x.f0 :: namesFrom b (i + 1) t else namesFrom b (i + 1) t
theorem lsum_two (g : S79 → Int) (hg : ∀ (s s' : ByteArray) (p : List S129), g ⟨s, p, true⟩ = g ⟨s', p, true⟩) (h0 : ∀ (s : ByteArray) (p : List S129), g ⟨s, p, false⟩ = 0) (b : Int) (m : List S79) : ∀ i, lsum g (setFrom b i m) = lsum g (pickFrom b i m) := by
  induction m with
  | nil => intro i; rfl
  | cons x t ih =>
    intro i
    simp only [setFrom, pickFrom, lsum]
    cases hb : bitOn b i with
    | false => rw [h0, if_neg nf, ih]; omega
    | true => rw [if_pos rfl]; simp only [lsum]; rw [hg x.f0 ⟨#[]⟩, ih]
theorem gA_two (b : Int) (m : List S79) : areaZ (pickFrom b 0 m) = areaZ (setFrom b 0 m) := by
  rw [areaZ_l, areaZ_l]
  exact (lsum_two gA (fun _ _ _ => rfl) (fun _ _ => rfl) b m 0).symm
theorem gX_two (b : Int) (m : List S79) : mxZ (pickFrom b 0 m) = mxZ (setFrom b 0 m) := by
  rw [mxZ_l, mxZ_l]
  exact (lsum_two gX (fun _ _ _ => rfl) (fun _ _ => rfl) b m 0).symm
theorem helm_two (b : Int) (m : List S79) (c d u v : Int) : helmZ (pickFrom b 0 m) c d u v = helmZ (setFrom b 0 m) c d u v := by
  unfold helmZ leadZ
  rw [gA_two, gX_two]
theorem setFrom_len (b : Int) (m : List S79) : ∀ i, (setFrom b i m).length = m.length := by
  induction m with
  | nil => intro i; rfl
  | cons x t ih => intro i; simp [setFrom, ih]
theorem pickFrom_len (b : Int) (m : List S79) : ∀ i, (pickFrom b i m).length ≤ m.length := by
  induction m with
  | nil => intro i; exact Nat.le_refl _
  | cons x t ih =>
    intro i
    have := ih (i + 1)
    simp only [pickFrom]
    split <;> simp <;> omega
theorem namesFrom_len (b : Int) (m : List S79) : ∀ i, (namesFrom b i m).length ≤ m.length := by
  induction m with
  | nil => intro i; exact Nat.le_refl _
  | cons x t ih =>
    intro i
    have := ih (i + 1)
    simp only [namesFrom]
    split <;> simp <;> omega
theorem setFrom_ok (b : Int) (m : List S79) (h : ∀ y ∈ m, sailB y.f1 = true) : ∀ i, ∀ y ∈ setFrom b i m, sailB y.f1 = true := by
  induction m with
  | nil => intro i y hy; simp [setFrom] at hy
  | cons x t ih =>
    intro i y hy
    simp only [setFrom, List.mem_cons] at hy
    rcases hy with rfl | hy
    · exact h x List.mem_cons_self
    · exact ih (fun z hz => h z (List.mem_cons_of_mem _ hz)) (i + 1) y hy
theorem pickFrom_ok (b : Int) (m : List S79) (h : ∀ y ∈ m, sailB y.f1 = true) : ∀ i, ∀ y ∈ pickFrom b i m, sailB y.f1 = true := by
  induction m with
  | nil => intro i y hy; simp [pickFrom] at hy
  | cons x t ih =>
    intro i y hy
    simp only [pickFrom] at hy
    split at hy
    · rcases List.mem_cons.1 hy with rfl | hy
      · exact h x List.mem_cons_self
      · exact ih (fun z hz => h z (List.mem_cons_of_mem _ hz)) (i + 1) y hy
    · exact ih (fun z hz => h z (List.mem_cons_of_mem _ hz)) (i + 1) y hy
theorem setFrom_zero (m : List S79) : ∀ i, i + m.length ≤ 8 → lsum gA (setFrom 0 i m) = 0 := by
  induction m with
  | nil => intro i _; rfl
  | cons x t ih =>
    intro i hi
    simp only [List.length_cons] at hi
    have h0 : bitOn 0 i = false := by
      have : i = 0 ∨ i = 1 ∨ i = 2 ∨ i = 3 ∨ i = 4 ∨ i = 5 ∨ i = 6 ∨ i = 7 := by omega
      rcases this with rfl | rfl | rfl | rfl | rfl | rfl | rfl | rfl <;> decide
    simp only [setFrom, lsum, h0]
    rw [ih (i + 1) (by omega)]
    rfl
theorem u64w (n : Nat) (h : n ≤ 1048576) : IntKind.u64.wrap (n : Int) = (n : Int) := by
  simp only [IntKind.wrap, IntKind.signed, IntKind.bits, Bool.false_and]
  rw [if_neg nf]
  omega
theorem bit_iff (b : Int) (i : Nat) : (Go.bits .and .i64 (shr .i64 b (i : Int)) 1 = 1) ↔ bitOn b i = true := by
  unfold bitOn
  exact (beq_iff_eq).symm
theorem bal_iff (t : ByteArray) : t.toList = ([98, 97, 108, 97, 110, 99, 101, 100] : List UInt8) ↔ t = balancedS := by
  rw [ByteArray.toList_eq]
  exact ⟨fun h => ByteArray.ext (Array.toList_inj.mp h), fun h => by rw [h]; rfl⟩
theorem planS_set (b : Int) {m : List S79} {c d : Int} (h : planS m c d) : planS (setFrom b 0 m) c d := ⟨by rw [setFrom_len]; exact h.1, h.2.1, h.2.2.1, setFrom_ok b m h.2.2.2 0⟩
theorem planS_pick (b : Int) {m : List S79} {c d : Int} (h : planS m c d) : planS (pickFrom b 0 m) c d := ⟨by have := pickFrom_len b m 0; have := h.1; omega, h.2.1, h.2.2.1, pickFrom_ok b m h.2.2.2 0⟩
theorem impl_withSet_val (m : List S79) (c d b : Int) (h8 : m.length ≤ 8) : impl_withSet.F m c d b = some (setFrom b 0 m, c, d) := by
  have key : ∀ (t p s : List S79), p ++ t = m → s.length ≤ p.length → impl_withSet.L0 b m (m.length : Int) (p.length : Int) s c d = some (s ++ setFrom b p.length t, c, d) := by
    intro t
    induction t with
    | nil =>
      intro p s hm hs
      have : p.length = m.length := by rw [← hm]; simp
      rw [impl_withSet.L0_eq, if_neg (by omega)]
      simp [setFrom]
    | cons x t ih =>
      intro p s hm hs
      have hlt : p.length < m.length := by rw [← hm]; simp
      have hg : m[p.length] = x := by simp [← hm]
      rw [impl_withSet.L0_eq, if_pos (by omega), if_pos (by omega), if_pos (by omega), if_pos (by omega), rdIHung m _ hlt, hg, wS (by omega)]
      have := ih (p ++ [x]) (s ++ [(⟨x.f0, x.f1, bitOn b p.length⟩ : S79)]) (by rw [← hm]; simp) (by simp; omega)
      simp only [List.length_append, List.length_cons, List.length_nil, Nat.zero_add] at this
      refine Eq.trans this ?_
      simp [setFrom]
  rw [impl_withSet.F_eq]
  have := key m [] [] rfl (Nat.le_refl _)
  simpa using this
theorem spec_pick_val (x1 x2 x3 x10 x11 b : Int) (m : List S79) (c d : Int) (h8 : m.length ≤ 8) : spec_BestSails.L1 x1 x2 x3 x10 x11 b 0 m c d [] c d = spec_BestSails.L1 x1 x2 x3 x10 x11 b (m.length : Int) m c d (pickFrom b 0 m) c d := by
  have key : ∀ (t p s : List S79), p ++ t = m → s.length ≤ p.length → spec_BestSails.L1 x1 x2 x3 x10 x11 b (p.length : Int) m c d s c d = spec_BestSails.L1 x1 x2 x3 x10 x11 b (m.length : Int) m c d (s ++ pickFrom b p.length t) c d := by
    intro t
    induction t with
    | nil =>
      intro p s hm hs
      have : p.length = m.length := by rw [← hm]; simp
      rw [this]
      simp [pickFrom]
    | cons x t ih =>
      intro p s hm hs
      have hlt : p.length < m.length := by rw [← hm]; simp
      have hg : m[p.length] = x := by simp [← hm]
      have e := spec_BestSails.L1_eq x1 x2 x3 x10 x11 b (p.length : Int) m c d s c d
      rw [if_pos (show (p.length : Int) < (m.length : Int) by omega), u64w p.length (by omega), if_pos (show (0 : Int) ≤ (p.length : Int) by omega), rdIHung m _ hlt, hg, wS (by omega)] at e
      rw [e]
      by_cases hb : bitOn b p.length = true
      · rw [if_pos ((bit_iff b p.length).2 hb), if_pos (by omega), if_pos (by omega)]
        have := ih (p ++ [x]) (s ++ [(⟨⟨#[]⟩, x.f1, true⟩ : S79)]) (by rw [← hm]; simp) (by simp; omega)
        simp only [List.length_append, List.length_cons, List.length_nil, Nat.zero_add] at this
        refine Eq.trans this ?_
        simp [pickFrom, hb]
      · rw [if_neg (fun z => hb ((bit_iff b p.length).1 z))]
        have := ih (p ++ [x]) s (by rw [← hm]; simp) (by simp; omega)
        simp only [List.length_append, List.length_cons, List.length_nil, Nat.zero_add] at this
        refine Eq.trans this ?_
        simp [pickFrom, hb]
  have := key m [] [] rfl (Nat.le_refl _)
  simpa using this
theorem impl_names_val (b : Int) (m : List S79) (h8 : m.length ≤ 8) : impl_BestSails.L1 b [] m (m.length : Int) 0 = some (namesFrom b 0 m, 0) := by
  have key : ∀ (t p : List S79) (s : List ByteArray), p ++ t = m → s.length ≤ p.length → impl_BestSails.L1 b s m (m.length : Int) (p.length : Int) = some (s ++ namesFrom b p.length t, 0) := by
    intro t
    induction t with
    | nil =>
      intro p s hm hs
      have : p.length = m.length := by rw [← hm]; simp
      rw [impl_BestSails.L1_eq, if_neg (by omega)]
      simp [namesFrom]
    | cons x t ih =>
      intro p s hm hs
      have hlt : p.length < m.length := by rw [← hm]; simp
      have hg : m[p.length] = x := by simp [← hm]
      rw [impl_BestSails.L1_eq, if_pos (by omega), if_pos (by omega), if_pos (by omega), rdIHung m _ hlt, hg, wS (by omega)]
      by_cases hb : bitOn b p.length = true
      · rw [if_pos ((bit_iff b p.length).2 hb), if_pos (by omega)]
        have := ih (p ++ [x]) (s ++ [x.f0]) (by rw [← hm]; simp) (by simp; omega)
        simp only [List.length_append, List.length_cons, List.length_nil, Nat.zero_add] at this
        refine Eq.trans this ?_
        simp [namesFrom, hb]
      · rw [if_neg (fun z => hb ((bit_iff b p.length).1 z))]
        have := ih (p ++ [x]) s (by rw [← hm]; simp) (by simp; omega)
        simp only [List.length_append, List.length_cons, List.length_nil, Nat.zero_add] at this
        refine Eq.trans this ?_
        simp [namesFrom, hb]
  have := key m [] [] rfl (Nat.le_refl _)
  simpa using this
theorem spec_names_val (b : Int) (m : List S79) (c d : Int) (h8 : m.length ≤ 8) : spec_BestSails.L2 b [] 0 m c d = some (namesFrom b 0 m, 0) := by
  have key : ∀ (t p : List S79) (s : List ByteArray), p ++ t = m → s.length ≤ p.length → spec_BestSails.L2 b s (p.length : Int) m c d = some (s ++ namesFrom b p.length t, 0) := by
    intro t
    induction t with
    | nil =>
      intro p s hm hs
      have : p.length = m.length := by rw [← hm]; simp
      rw [spec_BestSails.L2_eq, if_neg (by omega)]
      simp [namesFrom]
    | cons x t ih =>
      intro p s hm hs
      have hlt : p.length < m.length := by rw [← hm]; simp
      have hg : m[p.length] = x := by simp [← hm]
      rw [spec_BestSails.L2_eq, if_pos (by omega), u64w p.length (by omega), if_pos (show (0 : Int) ≤ (p.length : Int) by omega), rdIHung m _ hlt, hg, wS (by omega)]
      by_cases hb : bitOn b p.length = true
      · rw [if_pos ((bit_iff b p.length).2 hb), if_pos (by omega), if_pos (by omega)]
        have := ih (p ++ [x]) (s ++ [x.f0]) (by rw [← hm]; simp) (by simp; omega)
        simp only [List.length_append, List.length_cons, List.length_nil, Nat.zero_add] at this
        refine Eq.trans this ?_
        simp [namesFrom, hb]
      · rw [if_neg (fun z => hb ((bit_iff b p.length).1 z))]
        have := ih (p ++ [x]) s (by rw [← hm]; simp) (by simp; omega)
        simp only [List.length_append, List.length_cons, List.length_nil, Nat.zero_add] at this
        refine Eq.trans this ?_
        simp [namesFrom, hb]
  have := key m [] [] rfl (Nat.le_refl _)
  simpa using this
theorem shl8 (n : Nat) (h : n ≤ 8) : 1 ≤ shl .i64 1 (n : Int) ∧ shl .i64 1 (n : Int) ≤ 256 := by
  have : n = 0 ∨ n = 1 ∨ n = 2 ∨ n = 3 ∨ n = 4 ∨ n = 5 ∨ n = 6 ∨ n = 7 ∨ n = 8 := by omega
  rcases this with rfl | rfl | rfl | rfl | rfl | rfl | rfl | rfl | rfl <;> decide
theorem strOfNums_one (n : Int) : (strOfNums [n]).size = 1 := rfl
theorem markText_L0 : ∀ (n : Nat) (x : Int) (s : ByteArray), 0 ≤ x → x.toNat ≤ n → s.size + n ≤ 4611686018427387904 → ∃ t, laws_markText.L0 x s = some t := by
  intro n
  induction n with
  | zero =>
    intro x s h0 h1 h2
    rw [laws_markText.L0_eq, if_neg (by omega), if_pos (by omega)]
    exact ⟨_, rfl⟩
  | succ n ih =>
    intro x s h0 h1 h2
    rw [laws_markText.L0_eq]
    by_cases hx : x > 0
    · rw [if_pos hx]
      simp only [Option.bind_some]
      rw [if_pos (by rw [strOfNums_one]; omega), Int.tdiv_eq_ediv_of_nonneg h0, w64 (n := x / 10) (by omega) (by omega)]
      exact ih (x / 10) _ (by omega) (by omega) (by rw [ByteArray.size_append, strOfNums_one]; omega)
    · rw [if_neg hx, if_pos (by omega)]
      exact ⟨_, rfl⟩
noncomputable def markT (k : Int) : ByteArray := (laws_markText.F k).getD ByteArray.empty
theorem laws_markText_val (k : Int) (h : k ≤ 2305843009213693952) : laws_markText.F k = some (markT k) := by
  have : ∃ t, laws_markText.F k = some t := by
    rw [laws_markText.F_eq]
    by_cases h0 : k ≤ 0
    · rw [if_pos h0]; exact ⟨_, rfl⟩
    · rw [if_neg h0]
      exact markText_L0 k.toNat k _ (by omega) (Nat.le_refl _) (by have : (⟨#[]⟩ : ByteArray).size = 0 := rfl; omega)
  obtain ⟨t, ht⟩ := this
  unfold markT
  rw [ht]; rfl
/-- Spots that bear the numbers from k on. -/
def spotsFrom (k : Int) (n : Nat) : List S129 := (List.range n).map fun (j : Nat) => (⟨k + 2 * (j : Int), k + 2 * (j : Int) + 1⟩ : S129)
theorem laws_markSpotS_val (l : List S129) (k : Int) (h0 : 0 ≤ k) (h1 : k + 2 * l.length ≤ 4611686018427387904) : laws_markSpotS.F l k = some (k + 2 * l.length, spotsFrom k l.length) := by
  rw [laws_markSpotS.F_eq]
  have hlen : ∀ i, i ≤ l.length → (spotsFrom k i ++ l.drop i).length = l.length := fun i hi => by simp [spotsFrom]; omega
  have := iterF (fun (s : List S129 × Int) i => laws_markSpotS.L0 s.1 s.2 i) l.length (fun i => (spotsFrom k i ++ l.drop i, k + 2 * (i : Int))) (fun i hi => by
    show laws_markSpotS.L0 _ _ _ = laws_markSpotS.L0 _ _ _
    have hl1 := hlen i (by omega)
    have hlu : (spotsFrom k i).length = i := by simp [spotsFrom]
    rw [laws_markSpotS.L0_eq, if_pos (by rw [hl1]; omega), if_pos (by omega), wS (by omega), w64 (n := k + 2 * (i : Int) + 1) (by omega) (by omega), w64 (by omega) (by omega), Int.toNat_natCast]
    simp only [Option.bind_some]
    have hr : ∀ v : S129, rd_T129 ((spotsFrom k i ++ l.drop i).set i v) (i : Int) = v := by
      intro v
      rw [rdISpot _ i (by rw [List.length_set, hl1]; exact hi), List.getElem_set_self]
    rw [hr, List.set_set]
    have e1 : (spotsFrom k i ++ l.drop i).set i (⟨k + 2 * (i : Int), k + 2 * (i : Int) + 1⟩ : S129) = spotsFrom k (i + 1) ++ l.drop (i + 1) := by
      rw [List.set_append, hlu, if_neg (Nat.lt_irrefl i), Nat.sub_self, List.drop_eq_getElem_cons hi, List.set_cons_zero]
      unfold spotsFrom
      rw [List.range_succ, List.map_append, List.append_assoc]
      rfl
    show laws_markSpotS.L0 ((spotsFrom k i ++ l.drop i).set i (⟨k + 2 * (i : Int), k + 2 * (i : Int) + 1⟩ : S129)) _ _ = _
    rw [e1]
    congr 1
    omega)
  have e0 : spotsFrom k 0 ++ l.drop 0 = l := by simp [spotsFrom]
  simp only [e0] at this
  rw [show k + 2 * ((0 : Nat) : Int) = k by omega] at this
  refine this.trans ?_
  rw [laws_markSpotS.L0_eq, if_neg (by rw [hlen l.length (Nat.le_refl _)]; omega)]
  simp
/-- Sails that bear the numbers from k on, in the shape of a row of sails. -/
noncomputable def upHung (k : Int) : List S79 → List S79
  | [] => []
  | y :: t => (⟨markT k, spotsFrom (k + 1) y.f1.length, (Int.tmod (k + 1 + 2 * (y.f1.length : Int)) 3) == 0⟩ : S79) :: upHung (k + 2 + 2 * (y.f1.length : Int)) t
def hungSz : List S79 → Nat
  | [] => 0
  | y :: t => 2 + 2 * y.f1.length + hungSz t
theorem hungSz_le (l : List S79) (n : Nat) (h : ∀ r ∈ l, r.f1.length ≤ n) : hungSz l ≤ (2 + 2 * n) * l.length := by
  induction l with
  | nil => simp [hungSz]
  | cons r t ih =>
    have h1 := h r List.mem_cons_self
    have h2 := ih (fun q hq => h q (List.mem_cons_of_mem _ hq))
    simp only [hungSz, List.length_cons, Nat.mul_add (2 + 2 * n)]
    omega
theorem spotsFrom_len (k : Int) (n : Nat) : (spotsFrom k n).length = n := by simp [spotsFrom]
theorem laws_markHungS_val (l : List S79) (k : Int) (hl : l.length ≤ 1048576) (h0 : 0 ≤ k) (h1 : k + hungSz l ≤ 2305843009213693952) : laws_markHungS.F l k = some (k + hungSz l, upHung k l) := by
  have key : ∀ (l : List S79) (p : List S79) (k : Int), p.length + l.length ≤ 1048576 → 0 ≤ k → k + hungSz l ≤ 2305843009213693952 → laws_markHungS.L0 (p ++ l) k (p.length : Int) = some (k + hungSz l, p ++ upHung k l) := by
    intro l
    induction l with
    | nil =>
      intro p k hp h0 h1
      rw [laws_markHungS.L0_eq, if_neg (by simp)]
      simp [hungSz, upHung]
    | cons r t ih =>
      intro p k hp h0 h1
      simp only [List.length_cons, hungSz] at hp h1
      have hlt : p.length < (p ++ r :: t).length := by simp
      have hg : (p ++ r :: t)[p.length] = r := by simp
      rw [laws_markHungS.L0_eq, if_pos (by omega), if_pos (by omega), rdIHung _ _ hlt, hg, laws_markText_val k (by omega), w64 (n := k + 1) (by omega) (by omega), laws_markSpotS_val r.f1 (k + 1) (by omega) (by omega), wS (by omega)]
      simp only [Option.bind_some, Int.toNat_natCast]
      rw [List.set_append, if_neg (Nat.lt_irrefl _), Nat.sub_self, List.set_cons_zero, w64 (n := k + 1 + 2 * (r.f1.length : Int) + 1) (by omega) (by omega)]
      have := ih (p ++ [(⟨markT k, spotsFrom (k + 1) r.f1.length, (Int.tmod (k + 1 + 2 * (r.f1.length : Int)) 3) == 0⟩ : S79)]) (k + 2 + 2 * (r.f1.length : Int)) (by simp; omega) (by omega) (by omega)
      simp only [List.length_append, List.length_cons, List.length_nil, List.append_assoc, List.singleton_append] at this
      rw [show (p.length + 1 : Nat) = p.length + (0 + 1) by omega, show k + 1 + 2 * (r.f1.length : Int) + 1 = k + 2 + 2 * (r.f1.length : Int) by omega, this]
      simp only [hungSz, upHung]
      congr 2
      omega
  rw [laws_markHungS.F_eq]
  have := key l [] k (by simpa using hl) h0 h1
  simpa using this
theorem laws_markPlan_val (l : List S79) (c d k : Int) (hl : l.length ≤ 1048576) (h0 : 0 ≤ k) (h1 : k + hungSz l ≤ 2305843009213693952) : laws_markPlan.F l c d k = some (k + hungSz l, upHung k l) := by
  rw [laws_markPlan.F_eq, laws_markHungS_val l k hl h0 h1]
theorem laws_eqStringS_val (l : List ByteArray) (hl : l.length < 4611686018427387904) : laws_eqStringS.F l l = some true := by
  rw [laws_eqStringS.F_eq, if_pos rfl]
  have := allLoop l (fun _ => true) (fun i => laws_eqStringS.L0 l l i) true (fun i hi => by
    show laws_eqStringS.L0 l l i = _
    rw [laws_eqStringS.L0_eq, if_pos (by omega), if_pos (by omega), if_pos (by omega), wS (by omega)]
    simp) (by
    show laws_eqStringS.L0 l l _ = _
    rw [laws_eqStringS.L0_eq, if_neg (by omega)])
  rw [this]; simp
theorem rdStr (l : List ByteArray) (i : Nat) (h : i < l.length) : rdOf ByteArray.empty l (i : Int) = l[i] := by simp [rdOf, h]
noncomputable def upStr (k : Int) (n : Nat) : List ByteArray := (List.range n).map fun (j : Nat) => markT (k + (j : Int))
theorem laws_markStringS_val (l : List ByteArray) (k : Int) (h0 : 0 ≤ k) (h1 : k + l.length ≤ 2305843009213693952) : laws_markStringS.F l k = some (k + l.length, upStr k l.length) := by
  rw [laws_markStringS.F_eq]
  have hlen : ∀ i, i ≤ l.length → (upStr k i ++ l.drop i).length = l.length := fun i hi => by simp [upStr]; omega
  have := iterF (fun (s : List ByteArray × Int) i => laws_markStringS.L0 s.1 s.2 i) l.length (fun i => (upStr k i ++ l.drop i, k + (i : Int))) (fun i hi => by
    show laws_markStringS.L0 _ _ _ = laws_markStringS.L0 _ _ _
    have hl1 := hlen i (by omega)
    rw [laws_markStringS.L0_eq, if_pos (by rw [hl1]; omega), laws_markText_val _ (by omega)]
    simp only [Option.bind_some]
    rw [if_pos (by omega), wS (by omega), w64 (by omega) (by omega), Int.toNat_natCast]
    have e1 : (upStr k i ++ l.drop i).set i (markT (k + (i : Int))) = upStr k (i + 1) ++ l.drop (i + 1) := by
      have hlu : (upStr k i).length = i := by simp [upStr]
      rw [List.set_append, hlu, if_neg (Nat.lt_irrefl i), Nat.sub_self, List.drop_eq_getElem_cons hi, List.set_cons_zero]
      unfold upStr
      rw [List.range_succ, List.map_append, List.append_assoc]
      rfl
    rw [e1]
    congr 1
    omega)
  have e0 : upStr k 0 ++ l.drop 0 = l := by simp [upStr]
  simp only [e0] at this
  rw [show k + ((0 : Nat) : Int) = k by omega] at this
  refine this.trans ?_
  rw [laws_markStringS.L0_eq, if_neg (by rw [hlen l.length (Nat.le_refl _)]; omega)]
  simp
theorem laws_heldStringS_val (n : Nat) (k : Int) (h0 : 0 ≤ k) (h1 : k + n ≤ 2305843009213693952) : laws_heldStringS.F (upStr k n) k = some (k + n) := by
  rw [laws_heldStringS.F_eq]
  have hlen : (upStr k n).length = n := by simp [upStr]
  have := iterF (fun (s : Int) i => laws_heldStringS.L0 (upStr k n) s i) n (fun i => k + (i : Int)) (fun i hi => by
    show laws_heldStringS.L0 _ _ _ = laws_heldStringS.L0 _ _ _
    have hr : rdOf ByteArray.empty (upStr k n) (i : Int) = markT (k + (i : Int)) := by
      rw [rdStr _ i (by omega)]
      simp [upStr]
    rw [laws_heldStringS.L0_eq, if_pos (by rw [hlen]; omega), if_pos (by omega), laws_markText_val _ (by omega), hr]
    simp only [Option.bind_some]
    rw [if_pos trivial, wS (by omega), w64 (by omega) (by omega)]
    congr 1
    omega)
  rw [show k + ((0 : Nat) : Int) = k by omega] at this
  refine this.trans ?_
  show laws_heldStringS.L0 _ _ _ = _
  rw [laws_heldStringS.L0_eq, if_neg (by rw [hlen]; omega)]
theorem impl_step (x1 u v bi gi b : Int) (m : List S79) (c d : Int) (hp : planS m c d) (hu : -1000 ≤ u ∧ u ≤ 1000) (hv : -1000 ≤ v ∧ v ≤ 1000) (hb : b < shl .i64 1 (m.length : Int)) (h0 : 0 ≤ b) :
    impl_BestSails.L0 x1 u v bi gi b m c d = if areaZ (setFrom b 0 m) ≤ x1 ∧ (areaZ (setFrom b 0 m) ≠ 0 ∧ helmZ (setFrom b 0 m) c d u v = balancedS) ∧ (bi < 0 ∨ areaZ (setFrom b 0 m) > gi) then impl_BestSails.L0 x1 u v b (areaZ (setFrom b 0 m)) (b + 1) m c d else impl_BestSails.L0 x1 u v bi gi (b + 1) m c d := by
  have hN := shl8 m.length hp.1
  have h3 := planS_set b hp
  rw [impl_BestSails.L0_eq, if_pos hb, impl_withSet_val m c d b hp.1]
  simp only [Option.bind_some]
  rw [impl_planSums_val _ c d h3.1 h3.2.2.2]
  simp only [Option.bind_some]
  rw [w64 (n := b + 1) (by omega) (by omega), impl_helmOf_val _ c d u v h3 hu hv]
  simp only [Option.bind_some]
  by_cases g1 : areaZ (setFrom b 0 m) ≤ x1
  · rw [if_pos g1]
    by_cases g2 : areaZ (setFrom b 0 m) = 0
    · rw [if_pos g2, if_neg (fun z => by have := (bal_iff _).1 z; revert this; decide), if_neg (fun z => z.2.1.1 g2)]
    · rw [if_neg g2]
      by_cases g3 : helmZ (setFrom b 0 m) c d u v = balancedS
      · rw [if_pos ((bal_iff _).2 g3)]
        by_cases g4 : bi < 0
        · rw [if_pos g4, if_pos ⟨g1, ⟨g2, g3⟩, Or.inl g4⟩]
        · rw [if_neg g4]
          by_cases g5 : areaZ (setFrom b 0 m) > gi
          · rw [if_pos g5, if_pos ⟨g1, ⟨g2, g3⟩, Or.inr g5⟩]
          · rw [if_neg g5, if_neg (fun z => by rcases z.2.2 with z | z <;> omega)]
      · rw [if_neg (fun z => g3 ((bal_iff _).1 z)), if_neg (fun z => g3 z.2.1.2)]
  · rw [if_neg g1, if_neg (fun z => g1 z.1)]
theorem spec_step (x1 u v bs gs b : Int) (m : List S79) (c d : Int) (hp : planS m c d) (hu : -1000 ≤ u ∧ u ≤ 1000) (hv : -1000 ≤ v ∧ v ≤ 1000) (hb : b < shl .i64 1 (m.length : Int)) (h0 : 0 ≤ b) (hg : 0 ≤ gs) :
    spec_BestSails.L0 x1 u v bs gs b m c d = if areaZ (setFrom b 0 m) ≤ x1 ∧ areaZ (setFrom b 0 m) > gs ∧ helmZ (setFrom b 0 m) c d u v = balancedS then spec_BestSails.L0 x1 u v b (areaZ (setFrom b 0 m)) (b + 1) m c d else spec_BestSails.L0 x1 u v bs gs (b + 1) m c d := by
  have hN := shl8 m.length hp.1
  have h3 := planS_pick b hp
  have h8 := hp.1
  rw [spec_BestSails.L0_eq, u64w m.length (by omega), if_pos (by omega), if_pos hb, spec_pick_val x1 u v bs gs b m c d hp.1, spec_BestSails.L1_eq, if_neg (by omega), spec_l17Area_val _ c d h3.1 h3.2.2.2, w64 (n := b + 1) (by omega) (by omega)]
  simp only [Option.bind_some]
  rw [gA_two]
  by_cases g1 : areaZ (setFrom b 0 m) ≤ x1
  · rw [if_pos g1]
    by_cases g2 : areaZ (setFrom b 0 m) > gs
    · rw [if_pos g2, spec_l17Helm_val _ c d u v h3 (by rw [gA_two]; omega) hu hv, helm_two]
      simp only [Option.bind_some]
      by_cases g3 : helmZ (setFrom b 0 m) c d u v = balancedS
      · rw [if_pos ((bal_iff _).2 g3), if_pos ⟨g1, g2, g3⟩]
      · rw [if_neg (fun z => g3 ((bal_iff _).1 z)), if_neg (fun z => g3 z.2.2)]
    · rw [if_neg g2, if_neg (fun z => g2 z.2.1)]
  · rw [if_neg g1, if_neg (fun z => g1 z.1)]
theorem loops (x1 u v : Int) (m : List S79) (c d : Int) (hp : planS m c d) (hu : -1000 ≤ u ∧ u ≤ 1000) (hv : -1000 ≤ v ∧ v ≤ 1000) : ∀ (n : Nat) (bi gi bs gs b : Int), 1 ≤ b → b + (n : Int) = shl .i64 1 (m.length : Int) → (bi = -1 ∧ bs = 0 ∧ gi = 0 ∧ gs = 0 ∨ 1 ≤ bi ∧ bs = bi ∧ gi = gs ∧ 0 ≤ gs) → ∃ y e, spec_BestSails.L0 x1 u v bs gs b m c d = some (y, e) ∧ impl_BestSails.L0 x1 u v bi gi b m c d = some (y, e) ∧ y.length ≤ 8 := by
  have h8 := hp.1
  intro n
  induction n with
  | zero =>
    intro bi gi bs gs b h1 h2 h3
    rw [impl_BestSails.L0_eq, if_neg (by omega), spec_BestSails.L0_eq, u64w m.length (by omega), if_pos (by omega), if_neg (by omega)]
    rcases h3 with h3 | h3
    · rw [if_pos (show bs = 0 by omega), if_pos (show bi < 0 by omega)]
      exact ⟨_, _, rfl, rfl, by simp⟩
    · rw [if_neg (show ¬ bs = 0 by omega), if_neg (show ¬ bi < 0 by omega), spec_names_val bs m c d h8, impl_names_val bi m h8, h3.2.1]
      have := namesFrom_len bi m 0
      exact ⟨_, _, rfl, rfl, by omega⟩
  | succ n ih =>
    intro bi gi bs gs b h1 h2 h3
    have hA := (area_bdS (planS_set b hp)).1
    rw [impl_step x1 u v bi gi b m c d hp hu hv (by omega) (by omega), spec_step x1 u v bs gs b m c d hp hu hv (by omega) (by omega) (by omega)]
    by_cases g1 : areaZ (setFrom b 0 m) ≤ x1
    · by_cases g3 : helmZ (setFrom b 0 m) c d u v = balancedS
      · by_cases g2 : areaZ (setFrom b 0 m) > gs
        · rw [if_pos ⟨g1, g2, g3⟩, if_pos ⟨g1, ⟨by omega, g3⟩, by omega⟩]
          exact ih _ _ _ _ (b + 1) (by omega) (by omega) (Or.inr ⟨h1, rfl, rfl, by omega⟩)
        · rw [if_neg (fun z => g2 z.2.1), if_neg (fun z => by have := z.2.1.1; have := z.2.2; omega)]
          exact ih _ _ _ _ (b + 1) (by omega) (by omega) h3
      · rw [if_neg (fun z => g3 z.2.2), if_neg (fun z => g3 z.2.1.2)]
        exact ih _ _ _ _ (b + 1) (by omega) (by omega) h3
    · rw [if_neg (fun z => g1 z.1), if_neg (fun z => g1 z.1)]
      exact ih _ _ _ _ (b + 1) (by omega) (by omega) h3
theorem pure_FnExactBestSails : laws_FnExactBestSails.Pure := by
  intro a c d x1 u v hga hc hd hx hu hv
  refine of_lim (g := fun k => laws_FnExactBestSails.f k a c d x1 u v) ?_
  show laws_FnExactBestSails.F a c d x1 u v = some true
  obtain ⟨r, hr, h⟩ := plan_args a c d 1048576 (by omega) (by omega) hga.1 (fun y hy => ⟨(hga.2 y hy).1, (hga.2 y hy).2.1.1⟩)
  rcases h with h | ⟨h1, h2, h3, m, _, hm, hy, et, ee⟩
  · rw [laws_FnExactBestSails.F_eq, hr]; simp only [Option.bind_some]; rw [if_pos h]
  · obtain ⟨y, e, e1, e2, hl⟩ : ∃ y e, spec_BestSails.F m c d x1 u v = some (y, e) ∧ impl_BestSails.F m c d x1 u v = some (y, e) ∧ y.length ≤ 8 := by
      rw [spec_BestSails.F_eq, impl_BestSails.F_eq, spec_l17Ok_val m c d (by omega) hy, impl_ValidPlan_val m c d (by omega) hy, spec_l00In_val, impl_within_val]
      simp only [Option.bind_some]
      by_cases hp : planB m c d = true
      · rw [if_pos hp, if_pos hp]
        have hs : planS m c d := planB_sails hp
        have hr2 : spec_l17Range.f u v = some (inB u (-1000) 1000 && inB v u 1000) := by
          unfold spec_l17Range.f
          simp only [spec_l00In_val, Option.bind_some]
          cases inB u (-1000) 1000 <;> rfl
        rw [hr2]
        simp only [Option.bind_some]
        have zz : ∃ y e, spec_BestSails.J0 x1 u v true m c d = some (y, e) ∧ impl_BestSails.J0 x1 u v true m c d = some (y, e) ∧ y.length ≤ 8 := by
          rw [spec_BestSails.J0_eq, impl_BestSails.J0_eq, if_pos rfl, if_pos rfl]
          exact ⟨_, _, rfl, rfl, by simp⟩
        by_cases hin : (inB u (-1000) 1000 && inB v u 1000) = true
        · have hin2 := hin
          simp only [Bool.and_eq_true, inB_iff] at hin2
          rw [if_neg (show ¬ u < -1000 by omega), if_neg (show ¬ u > v by omega), if_neg (show ¬ v > 1000 by omega), hin]
          cases hx1 : inB x1 0 100000000 with
          | false => exact zz
          | true =>
            show ∃ y e, spec_BestSails.J0 x1 u v false m c d = some (y, e) ∧ impl_BestSails.J0 x1 u v false m c d = some (y, e) ∧ y.length ≤ 8
            rw [spec_BestSails.J0_eq, impl_BestSails.J0_eq, if_neg nf, if_neg nf]
            have hN := shl8 m.length hs.1
            have h0 : areaZ (setFrom 0 0 m) = 0 := by rw [areaZ_l]; exact setFrom_zero m 0 (by have := hs.1; omega)
            rw [impl_step x1 u v (-1) 0 0 m c d hs (by omega) (by omega) (by omega) (by omega), if_neg (fun z => z.2.1.1 h0)]
            exact loops x1 u v m c d hs (by omega) (by omega) (shl .i64 1 (m.length : Int) - 1).toNat (-1) 0 0 0 (0 + 1) (by omega) (by omega) (Or.inl ⟨rfl, rfl, rfl, rfl⟩)
        · have hin2 : ¬ ((-1000 ≤ u ∧ u ≤ 1000) ∧ (u ≤ v ∧ v ≤ 1000)) := by
            intro z; apply hin; simp only [Bool.and_eq_true, inB_iff]; exact z
          have hf : (inB u (-1000) 1000 && inB v u 1000) = false := by simpa using hin
          rw [hf]
          have zs : ∃ y e, (if inB x1 0 100000000 = true then spec_BestSails.J0 x1 u v (!false) m c d else spec_BestSails.J0 x1 u v true m c d) = some (y, e) ∧ impl_BestSails.J0 x1 u v true m c d = some (y, e) ∧ y.length ≤ 8 := by
            rw [Bool.not_false, ite_self]
            exact zz
          by_cases g1 : u < -1000
          · rw [if_pos g1]; exact zs
          · rw [if_neg g1]
            by_cases g2 : u > v
            · rw [if_pos g2]; exact zs
            · rw [if_neg g2, if_pos (show v > 1000 by omega)]; exact zs
      · rw [if_neg hp, if_neg hp]
        exact ⟨_, _, rfl, rfl, by simp⟩
    have hszm := hungSz_le m 1048576 (fun q hq => (hy q hq).2)
    have e6 := laws_markPlan_val m c d 1 (by omega) (by omega) (by omega)
    have n4 : ¬ (1 + (hungSz m : Int) < 0) := by omega
    have e3 := laws_eqStringS_val y (by omega)
    have e4 := laws_markStringS_val y 1 (by omega) (by omega)
    have e5 := laws_heldStringS_val y.length 1 (by omega) (by omega)
    have n3 : ¬ (1 + (y.length : Int) < 0) := by omega
    simp [laws_FnExactBestSails.F_eq, laws_FnExactBestSails.J0_eq, laws_FnExactBestSails.J1_eq, laws_FnExactBestSails.J2_eq, hr, h1, et, ee, e1, e2, e3, e4, e5, e6, n3, n4]
end Go.Proofs.Ytlphfgbeeckjnaa.PFnExactBestSails
namespace Go.Proofs.Ytlphfgbeeckjnaa.Pure
theorem FnExactBestSails : PFnExactBestSails.laws_FnExactBestSails.Pure := PFnExactBestSails.pure_FnExactBestSails
end Go.Proofs.Ytlphfgbeeckjnaa.Pure
