/-
  The pure side of FnExactEvenReefing: the program's EvenReefing returns what the reference's returns, in memory of its own. No conditions.
-/
import Derived.Test.YtobejjbnklcgpaaQFnExactEvenReefing
set_option linter.unusedVariables false
set_option linter.unusedSimpArgs false
set_option linter.unnecessarySimpa false
namespace Go.Proofs.Ytobejjbnklcgpaa.PFnExactEvenReefing
open Go.RowKit Go.Proofs.Ytobejjbnklcgpaa.Kit Go.Proofs.YtobejjbnklcgpaaW.PrintWords Go.Proofs.YtobejjbnklcgpaaW.PrintLast Go.Proofs.YtobejjbnklcgpaaW.PrintMore

theorem laws_toInt64S_val (l : List Int) (hl : l.length ≤ 1048576) : laws_toInt64S.F l = some l := by
  rw [laws_toInt64S.F_eq, if_pos (by omega), if_pos (by omega), Int.toNat_natCast]
  have := fillLoop l 0 (fun s i => laws_toInt64S.L0 l s i) (fun i s hi hs => by
    show laws_toInt64S.L0 l s i = _
    rw [laws_toInt64S.L0_eq, if_pos (by omega), if_pos (by omega), wS (by omega), if_pos (by omega), Int.toNat_natCast, rd_get l i hi])
  refine this.trans ?_
  show laws_toInt64S.L0 l _ _ = _
  rw [laws_toInt64S.L0_eq, if_neg (by omega)]
theorem laws_eqInt64S_val (l : List Int) (hl : l.length < 4611686018427387904) : laws_eqInt64S.F l l = some true := by
  rw [laws_eqInt64S.F_eq, if_pos rfl]
  have := allLoop l (fun _ => true) (fun i => laws_eqInt64S.L0 l l i) true (fun i hi => by
    show laws_eqInt64S.L0 l l i = _
    rw [laws_eqInt64S.L0_eq, if_pos (by omega), if_pos (by omega), if_pos (by omega), wS (by omega)]
    simp) (by
    show laws_eqInt64S.L0 l l _ = _
    rw [laws_eqInt64S.L0_eq, if_neg (by omega)])
  rw [this]; simp
/-- The numbers from k on. -/
def upFrom (k : Int) (n : Nat) : List Int := (List.range n).map fun (j : Nat) => k + (j : Int)
theorem laws_markInt64S_val (l : List Int) (k : Int) (h0 : 0 ≤ k) (h1 : k + l.length ≤ 4611686018427387904) : laws_markInt64S.F l k = some (k + l.length, upFrom k l.length) := by
  rw [laws_markInt64S.F_eq]
  have hlen : ∀ i, i ≤ l.length → (upFrom k i ++ l.drop i).length = l.length := fun i hi => by simp [upFrom]; omega
  have := iterF (fun (s : List Int × Int) i => laws_markInt64S.L0 s.1 s.2 i) l.length (fun i => (upFrom k i ++ l.drop i, k + (i : Int))) (fun i hi => by
    show laws_markInt64S.L0 _ _ _ = laws_markInt64S.L0 _ _ _
    have hl1 := hlen i (by omega)
    rw [laws_markInt64S.L0_eq, if_pos (by rw [hl1]; omega), if_pos (by omega), wS (by omega), w64 (by omega) (by omega), Int.toNat_natCast]
    have e1 : (upFrom k i ++ l.drop i).set i (k + (i : Int)) = upFrom k (i + 1) ++ l.drop (i + 1) := by
      have hlu : (upFrom k i).length = i := by simp [upFrom]
      rw [List.set_append, hlu, if_neg (Nat.lt_irrefl i), Nat.sub_self, List.drop_eq_getElem_cons hi, List.set_cons_zero]
      unfold upFrom
      rw [List.range_succ, List.map_append, List.append_assoc]
      rfl
    rw [e1]
    congr 1
    omega)
  have e0 : upFrom k 0 ++ l.drop 0 = l := by simp [upFrom]
  simp only [e0] at this
  rw [show k + ((0 : Nat) : Int) = k by omega] at this
  refine this.trans ?_
  rw [laws_markInt64S.L0_eq, if_neg (by rw [hlen l.length (Nat.le_refl _)]; omega)]
  simp
theorem even_loop (l : List Int) (g : Int) (hl : l.length ≤ 1048576) (hy : ∀ y ∈ l, -1000000 ≤ y ∧ y ≤ 1000000) (hg0 : -1000000 ≤ g) (hg1 : g ≤ 1000000) (o : List Int) (d : Nat) : ∀ i : Nat, i + d = l.length → (∀ y ∈ l.take i, g ≤ y) →
    (spec_l18Even.L0 l g (i : Int) o ((l.take i).map fun y => y - g) = some (o, l.map (fun y => y - g), true) ∧ impl_evenReefing.L0 g l (l.length : Int) (i : Int) o ((l.take i).map fun y => y - g) = some (o, l.map (fun y => y - g), true) ∧ ∀ y ∈ l, g ≤ y) ∨
    (spec_l18Even.L0 l g (i : Int) o ((l.take i).map fun y => y - g) = some ([], [], false) ∧ impl_evenReefing.L0 g l (l.length : Int) (i : Int) o ((l.take i).map fun y => y - g) = some ([], [], false) ∧ ∃ y ∈ l, y < g) := by
  induction d with
  | zero =>
    intro i hd hall
    have hi : ¬ (i : Int) < (l.length : Int) := by omega
    rw [spec_l18Even.L0_eq, impl_evenReefing.L0_eq, if_neg hi, if_neg hi]
    rw [List.take_of_length_le (by omega)] at hall ⊢
    exact Or.inl ⟨rfl, rfl, hall⟩
  | succ d ih =>
    intro i hd hall
    have hlt : i < l.length := by omega
    have hi : (i : Int) < (l.length : Int) := by omega
    have hi0 : (0 : Int) ≤ (i : Int) := by omega
    have hm : l[i] ∈ l := List.getElem_mem hlt
    have hb := hy _ hm
    rw [spec_l18Even.L0_eq, impl_evenReefing.L0_eq, if_pos hi, if_pos hi, if_pos hi0, if_pos hi0, if_pos hi, rd_get l i hlt]
    by_cases h : l[i] < g
    · rw [if_pos h, if_pos h]
      exact Or.inr ⟨rfl, rfl, _, hm, h⟩
    · have ho : ((l.take i).map fun y => y - g).length < 17592186044416 := by rw [List.length_map, List.length_take]; omega
      rw [if_neg h, if_neg h, if_pos ho, if_pos ho, wS (by omega), w64 (n := l[i] - g) (by omega) (by omega)]
      have e : (l.take i).map (fun y => y - g) ++ [l[i] - g] = (l.take (i + 1)).map (fun y => y - g) := by
        rw [List.take_succ_eq_append_getElem hlt, List.map_append]; rfl
      rw [e]
      refine ih (i + 1) (by omega) (fun y hyy => ?_)
      rw [List.take_succ_eq_append_getElem hlt, List.mem_append, List.mem_singleton] at hyy
      rcases hyy with h1 | rfl
      · exact hall y h1
      · omega
theorem even_same (l : List Int) (g : Int) (hl : l.length ≤ 1048576) (hy : ∀ y ∈ l, -1000000 ≤ y ∧ y ≤ 1000000) (hg0 : -1000000 ≤ g) (hg1 : g ≤ 1000000) :
    (spec_l18Even.F l g = some (l, l.map (fun y => y - g), true) ∧ impl_evenReefing.F l g = some (l, l.map (fun y => y - g), true) ∧ ∀ y ∈ l, g ≤ y) ∨
    (spec_l18Even.F l g = some ([], [], false) ∧ impl_evenReefing.F l g = some ([], [], false) ∧ ∃ y ∈ l, y < g) := by
  rw [spec_l18Even.F_eq, impl_evenReefing.F_eq]
  unfold spec_l00Own.f
  have h1 : ([] : List Int).length + l.length < 17592186044416 := by simp; omega
  simp only [Option.bind_some]
  rw [if_pos h1, if_pos h1, List.nil_append]
  simp only [Option.bind_some]
  exact even_loop l g hl hy hg0 hg1 l l.length 0 (by omega) (by simp)
def inB (n a b : Int) : Bool := decide (a ≤ n) && decide (n ≤ b)
theorem inB_iff (n a b : Int) : inB n a b = true ↔ a ≤ n ∧ n ≤ b := by simp [inB]
theorem inB_no (n a b : Int) : inB n a b = false ↔ ¬ (a ≤ n ∧ n ≤ b) := by rw [← inB_iff]; simp
theorem spec_l00In_val (n a b : Int) : spec_l00In.f n a b = some (inB n a b) := by
  unfold spec_l00In.f inB
  by_cases h : n ≥ a
  · rw [if_pos h]; simp [show a ≤ n from h]
  · rw [if_neg h]; simp; omega
/-- At a place: within bounds, and more than the number before it. -/
def riseAt (l : List Int) (a b : Int) (i : Nat) : Bool := inB (rd l (i : Int)) a b && (decide (i = 0) || decide (rd l ((i : Int) - 1) < rd l (i : Int)))
theorem riseAt_def (l : List Int) (a b : Int) (i : Nat) : riseAt l a b i = (inB (rd l (i : Int)) a b && (decide (i = 0) || decide (rd l ((i : Int) - 1) < rd l (i : Int)))) := rfl
def rises (l : List Int) (a b : Int) : Bool := (List.range l.length).all (riseAt l a b)
theorem rises_iff (l : List Int) (a b : Int) : rises l a b = true ↔ ∀ i : Nat, i < l.length → (a ≤ rd l i ∧ rd l i ≤ b) ∧ (0 < i → rd l ((i : Int) - 1) < rd l i) := by
  unfold rises
  rw [List.all_eq_true]
  constructor
  · intro h i hi
    have := h i (List.mem_range.2 hi)
    rw [riseAt_def, Bool.and_eq_true, inB_iff, Bool.or_eq_true] at this
    refine ⟨this.1, fun h0 => ?_⟩
    rcases this.2 with h2 | h2
    · exact absurd (of_decide_eq_true h2) (by omega)
    · exact of_decide_eq_true h2
  · intro h i hi
    have := h i (List.mem_range.1 hi)
    rw [riseAt_def, Bool.and_eq_true, inB_iff, Bool.or_eq_true]
    refine ⟨this.1, ?_⟩
    by_cases h0 : i = 0
    · left; simp [h0]
    · right; exact decide_eq_true (this.2 (by omega))
theorem spec_l00Rises_val (l : List Int) (a b : Int) (hl : l.length < 4611686018427387904) : spec_l00Rises.F l a b = some (rises l a b) := by
  rw [spec_l00Rises.F_eq]
  refine (allRange l.length (riseAt l a b) (fun i => spec_l00Rises.L0 l a b i) true (fun i hi => ?_) ?_).trans (by rw [Bool.and_true]; rfl)
  · show spec_l00Rises.L0 l a b i = _
    rw [spec_l00Rises.L0_eq, if_pos (by omega), if_pos (by omega), spec_l00In_val, wS (by omega)]
    simp only [Option.bind_some]
    rw [riseAt_def, ite_band]
    by_cases h1 : inB (rd l (i : Int)) a b = true
    · rw [if_pos h1, if_pos h1]
      by_cases h0 : i = 0
      · rw [if_neg (by omega), if_pos (by simp [h0])]
      · rw [if_pos (by omega), w64 (by omega) (by omega), if_pos (by omega), if_pos (by omega)]
        by_cases h2 : rd l ((i : Int) - 1) ≥ rd l (i : Int)
        · rw [if_pos h2, if_neg (by simp [h0]; omega)]
        · rw [if_neg h2, if_pos (by simp [h0]; omega)]
    · rw [if_neg h1, if_neg h1]
  · show spec_l00Rises.L0 l a b _ = _
    rw [spec_l00Rises.L0_eq, if_neg (by omega)]
/-- A valid reefing. -/
def refAt (a b : List Int) (i : Nat) : Bool := inB (rd a (i : Int)) 1 600 && (inB (rd b (i : Int)) 0 (rd a (i : Int)) && (decide (i = 0) || (decide (rd a ((i : Int) - 1) < rd a (i : Int)) && decide (rd b ((i : Int) - 1) < rd b (i : Int)))))
theorem refAt_def (a b : List Int) (i : Nat) : refAt a b i = (inB (rd a (i : Int)) 1 600 && (inB (rd b (i : Int)) 0 (rd a (i : Int)) && (decide (i = 0) || (decide (rd a ((i : Int) - 1) < rd a (i : Int)) && decide (rd b ((i : Int) - 1) < rd b (i : Int)))))) := rfl
def refOk (a b : List Int) : Bool := decide (a.length ≤ 6) && (decide (b.length = a.length) && (List.range a.length).all (refAt a b))
theorem refOk_iff (a b : List Int) : refOk a b = true ↔ a.length ≤ 6 ∧ b.length = a.length ∧ ∀ i : Nat, i < a.length → (1 ≤ rd a i ∧ rd a i ≤ 600) ∧ (0 ≤ rd b i ∧ rd b i ≤ rd a i) ∧ (0 < i → rd a ((i : Int) - 1) < rd a i ∧ rd b ((i : Int) - 1) < rd b i) := by
  unfold refOk
  rw [Bool.and_eq_true, Bool.and_eq_true, decide_eq_true_iff, decide_eq_true_iff, List.all_eq_true]
  refine and_congr Iff.rfl (and_congr Iff.rfl ⟨fun h i hi => ?_, fun h i hi => ?_⟩)
  · have := h i (List.mem_range.2 hi)
    rw [refAt_def, Bool.and_eq_true, inB_iff, Bool.and_eq_true, inB_iff, Bool.or_eq_true] at this
    refine ⟨this.1, this.2.1, fun h0 => ?_⟩
    rcases this.2.2 with h2 | h2
    · exact absurd (of_decide_eq_true h2) (by omega)
    · simpa using h2
  · have := h i (List.mem_range.1 hi)
    rw [refAt_def, Bool.and_eq_true, inB_iff, Bool.and_eq_true, inB_iff, Bool.or_eq_true]
    refine ⟨this.1, this.2.1, ?_⟩
    by_cases h0 : i = 0
    · left; simp [h0]
    · right; simpa using this.2.2 (by omega)
/-- The reefing with the same winds twice. -/
theorem ref_self (a : List Int) : refOk a a = (decide (a.length ≤ 6) && rises a 1 600) := by
  rw [Bool.eq_iff_iff, refOk_iff, Bool.and_eq_true, decide_eq_true_iff, rises_iff]
  constructor
  · rintro ⟨h1, _, h3⟩
    exact ⟨h1, fun i hi => ⟨(h3 i hi).1, fun h0 => ((h3 i hi).2.2 h0).1⟩⟩
  · rintro ⟨h1, h3⟩
    exact ⟨h1, rfl, fun i hi => ⟨(h3 i hi).1, ⟨by have := (h3 i hi).1; omega, Int.le_refl _⟩, fun h0 => ⟨(h3 i hi).2 h0, (h3 i hi).2 h0⟩⟩⟩
theorem ref_vals {a b : List Int} (h : refOk a b = true) : ∀ y ∈ a, 1 ≤ y ∧ y ≤ 600 := by
  rw [refOk_iff] at h
  intro y hy
  obtain ⟨i, hi, rfl⟩ := List.getElem_of_mem hy
  have := (h.2.2 i hi).1
  rw [rd_get a i hi] at this
  exact this
theorem spec_l18In_val (a : List Int) (ha : a.length < 4611686018427387904) : spec_l18In.F a = some (refOk a a) := by
  rw [spec_l18In.F_eq, ref_self]
  by_cases h : (a.length : Int) ≤ 6
  · rw [if_pos h, spec_l00Rises_val a 1 600 ha, decide_eq_true (by omega)]
    simp
  · rw [if_neg h, decide_eq_false (by omega)]
    rfl
theorem impl_within_val (n a b : Int) : impl_within.f n a b = some (inB n a b) := by
  unfold impl_within.f inB
  by_cases h : n ≥ a
  · rw [if_pos h]; simp [show a ≤ n from h]
  · rw [if_neg h]; simp; omega
theorem impl_ValidReefing_val (a b : List Int) (ha : a.length < 4611686018427387904) (hb : b.length < 4611686018427387904) : impl_ValidReefing.F a b = some (refOk a b) := by
  rw [impl_ValidReefing.F_eq]
  by_cases h2 : (a.length : Int) > 6
  · rw [if_pos h2, impl_ValidReefing.J0_eq, if_pos rfl]
    congr 1; unfold refOk; rw [decide_eq_false (by omega)]; rfl
  · rw [if_neg h2, impl_ValidReefing.J0_eq]
    by_cases h1 : b.length = a.length
    · rw [if_neg (by simp [h1])]
      refine (allRange a.length (refAt a b) (fun i => impl_ValidReefing.L0 a (a.length : Int) i a b) true (fun i hi => ?_) ?_).trans ?_
      · show impl_ValidReefing.L0 _ _ i _ _ = _
        rw [impl_ValidReefing.L0_eq, if_pos (by omega), if_pos (by omega), if_pos (by omega), impl_within_val, wS (by omega)]
        simp only [Option.bind_some]
        rw [refAt_def, ite_band, ite_band]
        by_cases h3 : inB (rd a (i : Int)) 1 600 = true
        · rw [if_pos h3, if_pos h3, if_pos (by omega), impl_within_val]
          simp only [Option.bind_some]
          by_cases h4 : inB (rd b (i : Int)) 0 (rd a (i : Int)) = true
          · rw [if_pos h4, if_pos h4]
            by_cases h0 : i = 0
            · rw [if_neg (by omega), if_pos (by simp [h0])]
            · rw [if_pos (by omega), w64 (by omega) (by omega), if_pos (by omega), if_pos (by omega)]
              by_cases h5 : rd a (i : Int) ≤ rd a ((i : Int) - 1)
              · rw [if_pos h5, if_neg (by simp [h0]; omega)]
              · rw [if_neg h5, if_pos (by omega)]
                by_cases h6 : rd b (i : Int) ≤ rd b ((i : Int) - 1)
                · rw [if_pos h6, if_neg (by simp [h0]; omega)]
                · rw [if_neg h6, if_pos (by simp [h0]; omega)]
          · rw [if_neg h4, if_neg h4]
        · rw [if_neg h3, if_neg h3]
      · show impl_ValidReefing.L0 _ _ _ _ _ = _
        rw [impl_ValidReefing.L0_eq, if_neg (by omega)]
      · unfold refOk
        rw [decide_eq_true (show a.length ≤ 6 by omega), decide_eq_true h1]
        simp
    · rw [if_pos (by simp; omega)]
      congr 1; unfold refOk; rw [decide_eq_false (p := b.length = a.length) h1]; simp
theorem spec_l18Wind_val (n : Int) : spec_l18Wind.f n = some (inB n 0 600) := by
  unfold spec_l18Wind.f
  rw [spec_l00In_val]; rfl
theorem ref_len {a b : List Int} (h : refOk a b = true) : a.length ≤ 6 ∧ b.length = a.length := by
  rw [refOk_iff] at h
  exact ⟨h.1, h.2.1⟩
theorem laws_eqReefing_val (a b : List Int) (ha : a.length ≤ 1048576) (hb : b.length ≤ 1048576) : laws_eqReefing.F a b a b = some true := by
  rw [laws_eqReefing.F_eq, laws_eqInt64S_val a (by omega)]
  simp only [Option.bind_some]
  rw [laws_eqInt64S_val b (by omega)]
  rfl
theorem laws_markReefing_val (a b : List Int) (k : Int) (h0 : 0 ≤ k) (h1 : k + a.length + b.length ≤ 4611686018427387904) : laws_markReefing.F a b k = some (k + a.length + b.length, upFrom k a.length, upFrom (k + a.length) b.length) := by
  rw [laws_markReefing.F_eq, laws_markInt64S_val a k h0 (by omega)]
  simp only [Option.bind_some]
  rw [laws_markInt64S_val b _ (by omega) (by omega)]
  rfl
theorem laws_heldInt64S_val (n : Nat) (k : Int) (h0 : 0 ≤ k) (h1 : k + n ≤ 4611686018427387904) : laws_heldInt64S.F (upFrom k n) k = some (k + n) := by
  rw [laws_heldInt64S.F_eq]
  have hlen : (upFrom k n).length = n := by simp [upFrom]
  have := iterF (fun (s : Int) i => laws_heldInt64S.L0 (upFrom k n) s i) n (fun i => k + (i : Int)) (fun i hi => by
    show laws_heldInt64S.L0 _ _ _ = laws_heldInt64S.L0 _ _ _
    have hr : rd (upFrom k n) (i : Int) = k + (i : Int) := by
      rw [rd_get _ i (by omega)]
      simp [upFrom]
    rw [laws_heldInt64S.L0_eq, if_pos (by rw [hlen]; omega), if_pos (by omega), hr, if_pos rfl, wS (by omega), w64 (by omega) (by omega)]
    congr 1
    omega)
  rw [show k + ((0 : Nat) : Int) = k by omega] at this
  refine this.trans ?_
  show laws_heldInt64S.L0 _ _ _ = _
  rw [laws_heldInt64S.L0_eq, if_neg (by rw [hlen]; omega)]
theorem laws_heldReefing_val (n m : Nat) (k : Int) (h0 : 0 ≤ k) (h1 : k + n + m ≤ 4611686018427387904) : laws_heldReefing.F (upFrom k n) (upFrom (k + n) m) k = some (k + n + m) := by
  rw [laws_heldReefing.F_eq, laws_heldInt64S_val n k h0 (by omega)]
  simp only [Option.bind_some]
  rw [if_neg (by omega), laws_heldInt64S_val m _ (by omega) (by omega)]
  simp only [Option.bind_some]
  rw [if_neg (by omega)]
theorem pure_FnExactEvenReefing : laws_FnExactEvenReefing.Pure := by
  intro l g hgl hg
  refine of_lim (g := fun k => laws_FnExactEvenReefing.f k l g) ?_
  show laws_FnExactEvenReefing.F l g = some true
  by_cases hl : (l.length : Int) > 1048576
  · rw [laws_FnExactEvenReefing.F_eq, if_pos hl]
  obtain ⟨p, q, c, e1, e2, hp, hq⟩ : ∃ (p q : List Int) (c : Int), spec_EvenReefing.F l g = some (p, q, c) ∧ impl_EvenReefing.F l g = some (p, q, c) ∧ p.length ≤ 1048576 ∧ q.length ≤ 1048576 := by
    rw [spec_EvenReefing.F_eq, impl_EvenReefing.F_eq, spec_l18In_val l (by omega), impl_ValidReefing_val l l (by omega) (by omega)]
    simp only [Option.bind_some]
    by_cases h1 : refOk l l = true
    · rw [if_pos h1, if_pos h1, spec_l18Wind_val, impl_within_val]
      simp only [Option.bind_some]
      by_cases h2 : inB g 0 600 = true
      · rw [if_pos h2, if_pos h2]
        rw [inB_iff] at h2
        have h3 := ref_len h1
        rcases even_same l g (by omega) (fun y h => by have := ref_vals h1 y h; omega) (by omega) (by omega) with ⟨e1, e2, _⟩ | ⟨e1, e2, _⟩
        · rw [e1, e2]
          exact ⟨_, _, 0, rfl, rfl, by show l.length ≤ _; omega, by show (List.map _ l).length ≤ _; rw [List.length_map]; omega⟩
        · rw [e1, e2]
          exact ⟨[], [], 6, rfl, rfl, by simp, by simp⟩
      · rw [if_neg h2, if_neg h2]
        exact ⟨[], [], 2, rfl, rfl, by simp, by simp⟩
    · rw [if_neg h1, if_neg h1]
      exact ⟨[], [], 1, rfl, rfl, by simp, by simp⟩
  have hl' : ¬ (1048576 < (l.length : Int)) := hl
  have ew := laws_toInt64S_val l (by omega)
  have ee := laws_eqInt64S_val l (by omega)
  have er := laws_eqReefing_val p q hp hq
  have em := laws_markInt64S_val l 1 (by omega) (by omega)
  have em2 := laws_markReefing_val p q 1 (by omega) (by omega)
  have eh := laws_heldReefing_val p.length q.length 1 (by omega) (by omega)
  have n1 : ¬ (1 + (l.length : Int) < 0) := by omega
  have n2 : ¬ (1 + (p.length : Int) + q.length < 0) := by omega
  simp [laws_FnExactEvenReefing.F_eq, laws_FnExactEvenReefing.J0_eq, laws_FnExactEvenReefing.J1_eq, laws_FnExactEvenReefing.J2_eq, hl', ew, ee, er, e1, e2, em, em2, eh, n1, n2]
end Go.Proofs.Ytobejjbnklcgpaa.PFnExactEvenReefing
namespace Go.Proofs.Ytobejjbnklcgpaa.Pure
theorem FnExactEvenReefing : PFnExactEvenReefing.laws_FnExactEvenReefing.Pure := PFnExactEvenReefing.pure_FnExactEvenReefing
end Go.Proofs.Ytobejjbnklcgpaa.Pure
