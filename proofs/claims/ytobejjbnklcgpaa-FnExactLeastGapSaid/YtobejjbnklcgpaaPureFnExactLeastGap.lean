/-
  The pure side of FnExactLeastGap: the program's LeastGap returns what the reference's returns. No conditions.
-/
import Derived.Test.YtobejjbnklcgpaaQFnExactLeastGap
set_option linter.unusedVariables false
set_option linter.unusedSimpArgs false
set_option linter.unnecessarySimpa false
namespace Go.Proofs.Ytobejjbnklcgpaa.PFnExactLeastGap
open Go.RowKit Go.Proofs.Ytobejjbnklcgpaa.Kit Go.Proofs.YtobejjbnklcgpaaW.PrintWords Go.Proofs.YtobejjbnklcgpaaW.PrintLast Go.Proofs.YtobejjbnklcgpaaW.PrintMore

theorem even_loop (l : List Int) (g : Int) (hl : l.length ≤ 1048576) (hy : ∀ y ∈ l, -1000000 ≤ y ∧ y ≤ 1000000) (hg0 : -1000000 ≤ g) (hg1 : g ≤ 1000000) (o : List Int) (d : Nat) : ∀ i : Nat, i + d = l.length → (∀ y ∈ l.take i, g ≤ y) →
    (spec_l18Even.L0 l g (i : Int) o ((l.take i).map fun y => y - g) = some (o, l.map (fun y => y - g), true) ∧ impl_evenReefing.L0 g l (l.length : Int) (i : Int) o ((l.take i).map fun y => y - g) = some (o, l.map (fun y => y - g), true) ∧ ∀ y ∈ l, g ≤ y) ∨
    (spec_l18Even.L0 l g (i : Int) o ((l.take i).map fun y => y - g) = some ([], [], false) ∧ impl_evenReefing.L0 g l (l.length : Int) (i : Int) o ((l.take i).map fun y => y - g) = some ([], [], false) ∧ ∃ y ∈ l, y < g) := by
  induction d with
  | zero =>
    intro i hd hall
    have hi : ¬ (i : Int) < (l.length : Int) := by omega
    rw [spec_l18Even.L0_eq, impl_evenReefing.L0_eq, if_neg hi, if_neg hi]
    rw [List.take_of_length_le (by omega)] at hall ⊢
    exact Or.inl ⟨rfl, rfl, hall⟩
  | succ d ih =>
    intro i hd hall
    have hlt : i < l.length := by omega
    have hi : (i : Int) < (l.length : Int) := by omega
    have hi0 : (0 : Int) ≤ (i : Int) := by omega
    have hm : l[i] ∈ l := List.getElem_mem hlt
    have hb := hy _ hm
    rw [spec_l18Even.L0_eq, impl_evenReefing.L0_eq, if_pos hi, if_pos hi, if_pos hi0, if_pos hi0, if_pos hi, rd_get l i hlt]
    by_cases h : l[i] < g
    · rw [if_pos h, if_pos h]
      exact Or.inr ⟨rfl, rfl, _, hm, h⟩
    · have ho : ((l.take i).map fun y => y - g).length < 17592186044416 := by rw [List.length_map, List.length_take]; omega
      rw [if_neg h, if_neg h, if_pos ho, if_pos ho, wS (by omega), w64 (n := l[i] - g) (by omega) (by omega)]
      have e : (l.take i).map (fun y => y - g) ++ [l[i] - g] = (l.take (i + 1)).map (fun y => y - g) := by
        rw [List.take_succ_eq_append_getElem hlt, List.map_append]; rfl
      rw [e]
      refine ih (i + 1) (by omega) (fun y hyy => ?_)
      rw [List.take_succ_eq_append_getElem hlt, List.mem_append, List.mem_singleton] at hyy
      rcases hyy with h1 | rfl
      · exact hall y h1
      · omega
theorem even_same (l : List Int) (g : Int) (hl : l.length ≤ 1048576) (hy : ∀ y ∈ l, -1000000 ≤ y ∧ y ≤ 1000000) (hg0 : -1000000 ≤ g) (hg1 : g ≤ 1000000) :
    (spec_l18Even.F l g = some (l, l.map (fun y => y - g), true) ∧ impl_evenReefing.F l g = some (l, l.map (fun y => y - g), true) ∧ ∀ y ∈ l, g ≤ y) ∨
    (spec_l18Even.F l g = some ([], [], false) ∧ impl_evenReefing.F l g = some ([], [], false) ∧ ∃ y ∈ l, y < g) := by
  rw [spec_l18Even.F_eq, impl_evenReefing.F_eq]
  unfold spec_l00Own.f
  have h1 : ([] : List Int).length + l.length < 17592186044416 := by simp; omega
  simp only [Option.bind_some]
  rw [if_pos h1, if_pos h1, List.nil_append]
  simp only [Option.bind_some]
  exact even_loop l g hl hy hg0 hg1 l l.length 0 (by omega) (by simp)
theorem next_down (a b : List Int) (hl : b.length = a.length) (hs : a.length ≤ 1048576) (w : Int) (d : Nat) : ∀ x : Int, 0 ≤ x → x ≤ a.length → x = d → ∃ r, spec_l18Next.L1 [(⟨a, b⟩ : S40)] x w = some r ∧ impl_nextReef.L1 x w a b = some r ∧ 0 ≤ r ∧ r ≤ a.length := by
  have e : rd_T40 [(⟨a, b⟩ : S40)] 0 = ⟨a, b⟩ := rfl
  induction d with
  | zero =>
    intro x h0 h1 hd
    have hx : ¬ x > 0 := by omega
    rw [spec_l18Next.L1_eq, impl_nextReef.L1_eq, if_neg hx, if_neg hx]
    exact ⟨x, rfl, rfl, h0, h1⟩
  | succ d ih =>
    intro x h0 h1 hd
    have hx : x > 0 := by omega
    have hx1 : 0 ≤ x - 1 := by omega
    have hx2 : x - 1 < (b.length : Int) := by omega
    rw [spec_l18Next.L1_eq, impl_nextReef.L1_eq, e, if_pos hx, if_pos hx, w64 (n := x - 1) (by omega) (by omega), if_pos hx1, if_pos hx1, if_pos hx2, if_pos hx2]
    by_cases h : w < rd b (x - 1)
    · rw [if_pos h, if_pos h]
      exact ih (x - 1) (by omega) (by omega) (by omega)
    · rw [if_neg h, if_neg h]
      exact ⟨x, rfl, rfl, h0, h1⟩
theorem next_up (a b : List Int) (hl : b.length = a.length) (hs : a.length ≤ 1048576) (w : Int) (d : Nat) : ∀ x : Int, 0 ≤ x → x + d = a.length → ∃ r, spec_l18Next.L0 [(⟨a, b⟩ : S40)] x w = some r ∧ impl_nextReef.L0 x w a b = some r ∧ 0 ≤ r ∧ r ≤ a.length := by
  have e : rd_T40 [(⟨a, b⟩ : S40)] 0 = ⟨a, b⟩ := rfl
  induction d with
  | zero =>
    intro x h0 h1
    have hx : ¬ x < (a.length : Int) := by omega
    rw [spec_l18Next.L0_eq, impl_nextReef.L0_eq, e, if_neg hx, if_neg hx, spec_l18Next.J1_eq, impl_nextReef.J1_eq]
    exact next_down a b hl hs w x.toNat x h0 (by omega) (by omega)
  | succ d ih =>
    intro x h0 h1
    have hx : x < (a.length : Int) := by omega
    rw [spec_l18Next.L0_eq, impl_nextReef.L0_eq, e, if_pos hx, if_pos hx, if_pos h0, if_pos h0]
    by_cases h : w ≥ rd a x
    · rw [if_pos h, if_pos h, w64 (n := x + 1) (by omega) (by omega)]
      exact ih (x + 1) (by omega) (by omega)
    · rw [if_neg h, if_neg h, spec_l18Next.J1_eq, impl_nextReef.J1_eq]
      exact next_down a b hl hs w x.toNat x h0 (by omega) (by omega)
theorem next_same (a b : List Int) (hl : b.length = a.length) (hs : a.length ≤ 1048576) (x w : Int) (h0 : 0 ≤ x) (h1 : x ≤ a.length) : ∃ r, spec_l18Next.F [(⟨a, b⟩ : S40)] x w = some r ∧ impl_nextReef.F a b x w = some r ∧ 0 ≤ r ∧ r ≤ a.length := by
  rw [spec_l18Next.F_eq, impl_nextReef.F_eq, if_pos (by simp)]
  exact next_up a b hl hs w ((a.length : Int) - x).toNat x h0 (by omega)
theorem run_loop (a b : List Int) (hl : b.length = a.length) (hs : a.length ≤ 1048576) (ws : List Int) (hw : ws.length ≤ 1048576) (d : Nat) : ∀ (i : Int) (x : Int) (out : List Int), 0 ≤ i → i + d = ws.length → (out.length : Int) = i → 0 ≤ x → x ≤ a.length → (∀ y ∈ out, 0 ≤ y ∧ y ≤ (a.length : Int)) →
    ∃ l, spec_l18Run.L0 [(⟨a, b⟩ : S40)] x ws out i = some l ∧ impl_runReefs.L0 x out ws (ws.length : Int) i a b = some l ∧ l.length = ws.length ∧ ∀ y ∈ l, 0 ≤ y ∧ y ≤ (a.length : Int) := by
  induction d with
  | zero =>
    intro i x out h0 hd hol hx0 hx1 hout
    have hi : ¬ i < (ws.length : Int) := by omega
    rw [spec_l18Run.L0_eq, impl_runReefs.L0_eq, if_neg hi, if_neg hi]
    exact ⟨out, rfl, rfl, by omega, hout⟩
  | succ d ih =>
    intro i x out h0 hd hol hx0 hx1 hout
    have hi : i < (ws.length : Int) := by omega
    obtain ⟨r, e1, e2, hr0, hr1⟩ := next_same a b hl hs x (rd ws i) hx0 hx1
    have ho : out.length < 17592186044416 := by omega
    rw [spec_l18Run.L0_eq, impl_runReefs.L0_eq, if_pos hi, if_pos hi, if_pos h0, if_pos h0, if_pos hi, e1, e2]
    simp only [Option.bind_some]
    rw [if_pos ho, if_pos ho, w64 (n := i + 1) (by omega) (by omega)]
    refine ih (i + 1) r (out ++ [r]) (by omega) (by omega) (by rw [List.length_append]; simp; omega) hr0 hr1 (fun y hy => ?_)
    rcases List.mem_append.1 hy with h | h
    · exact hout y h
    · rw [List.mem_singleton.1 h]; exact ⟨hr0, hr1⟩
theorem run_same (a b : List Int) (hl : b.length = a.length) (hs : a.length ≤ 1048576) (ws : List Int) (hw : ws.length ≤ 1048576) (x : Int) (h0 : 0 ≤ x) (h1 : x ≤ a.length) :
    ∃ l, spec_l18Run.F [(⟨a, b⟩ : S40)] x ws = some l ∧ impl_runReefs.F a b x ws = some l ∧ l.length = ws.length ∧ ∀ y ∈ l, 0 ≤ y ∧ y ≤ (a.length : Int) := by
  rw [spec_l18Run.F_eq, impl_runReefs.F_eq, if_pos (by simp)]
  exact run_loop a b hl hs ws hw ws.length 0 x [] (by omega) (by omega) rfl h0 h1 (by simp)
theorem mx_abs (x y : Int) (h1 : -1000000 ≤ x) (h2 : x ≤ 1000000) (h3 : -1000000 ≤ y) (h4 : y ≤ 1000000) : mx (wrap64 (x - y)) (wrap64 (y - x)) = if wrap64 (x - y) < 0 then wrap64 (-(wrap64 (x - y))) else wrap64 (x - y) := by
  rw [w64 (n := x - y) (by omega) (by omega), w64 (n := y - x) (by omega) (by omega), w64 (n := -(x - y)) (by omega) (by omega)]
  unfold mx
  split <;> split <;> omega
theorem count_loop (l : List Int) (n : Int) (hn : n ≤ 1000000) (hl : l.length ≤ 1048576) (hy : ∀ y ∈ l, 0 ≤ y ∧ y ≤ n) (d : Nat) : ∀ (i x s : Int), 0 ≤ i → i + d = l.length → 0 ≤ x → x ≤ n → 0 ≤ s → s ≤ n * i → ∃ r, spec_l18Changes.L0 x l s i = some r ∧ impl_countChanges.L0 x s l (l.length : Int) i = some r ∧ 0 ≤ r ∧ r ≤ n * l.length := by
  induction d with
  | zero =>
    intro i x s h0 hd hx0 hx1 hs0 hs1
    have hi : ¬ i < (l.length : Int) := by omega
    rw [spec_l18Changes.L0_eq, impl_countChanges.L0_eq, if_neg hi, if_neg hi]
    refine ⟨s, rfl, rfl, hs0, ?_⟩
    rw [show (l.length : Int) = i by omega]; exact hs1
  | succ d ih =>
    intro i x s h0 hd hx0 hx1 hs0 hs1
    have hi : i < (l.length : Int) := by omega
    obtain ⟨j, rfl⟩ : ∃ j : Nat, i = j := ⟨i.toNat, by omega⟩
    have hj : j < l.length := by omega
    have hyj := hy l[j] (List.getElem_mem hj)
    have hsb : n * (j : Int) ≤ 1000000 * 1048576 := Int.mul_le_mul hn (by omega) (by omega) (by omega)
    rw [spec_l18Changes.L0_eq, impl_countChanges.L0_eq, if_pos hi, if_pos hi, if_pos h0, if_pos h0, if_pos hi, rd_get l j hj, mx_abs l[j] x (by omega) (by omega) (by omega) (by omega)]
    unfold spec_l00Size.f
    have e : (if wrap64 (l[j] - x) < 0 then some (wrap64 (-(wrap64 (l[j] - x)))) else some (wrap64 (l[j] - x))) = some (if wrap64 (l[j] - x) < 0 then wrap64 (-(wrap64 (l[j] - x))) else wrap64 (l[j] - x)) := by split <;> rfl
    rw [e]
    simp only [Option.bind_some]
    have hd2 : 0 ≤ (if wrap64 (l[j] - x) < 0 then wrap64 (-(wrap64 (l[j] - x))) else wrap64 (l[j] - x)) ∧ (if wrap64 (l[j] - x) < 0 then wrap64 (-(wrap64 (l[j] - x))) else wrap64 (l[j] - x)) ≤ n := by
      rw [w64 (n := l[j] - x) (by omega) (by omega), w64 (n := -(l[j] - x)) (by omega) (by omega)]
      split <;> omega
    generalize (if wrap64 (l[j] - x) < 0 then wrap64 (-(wrap64 (l[j] - x))) else wrap64 (l[j] - x)) = t at hd2 ⊢
    rw [w64 (n := s + t) (by omega) (by omega), wS (by omega)]
    refine ih _ _ _ (by omega) (by omega) hyj.1 hyj.2 (by omega) ?_
    rw [show ((j + 1 : Nat) : Int) = (j : Int) + 1 by omega, Int.mul_add, Int.mul_one]
    omega
theorem changes_same (a b : List Int) (hl : b.length = a.length) (hs : a.length ≤ 1000000) (ws : List Int) (hw : ws.length ≤ 1048576) (x : Int) (h0 : 0 ≤ x) (h1 : x ≤ a.length) :
    ∃ r, spec_l18Changes.F [(⟨a, b⟩ : S40)] x ws = some r ∧ impl_countChanges.F a b x ws = some r ∧ 0 ≤ r ∧ r ≤ (a.length : Int) * ws.length := by
  obtain ⟨l, e1, e2, hll, hy⟩ := run_same a b hl (by omega) ws hw x h0 h1
  rw [spec_l18Changes.F_eq, impl_countChanges.F_eq, if_pos (by simp), e1, e2]
  simp only [Option.bind_some]
  obtain ⟨r, e3, e4, h5, h6⟩ := count_loop l (a.length : Int) (by omega) (by omega) hy l.length 0 x 0 (by omega) (by omega) h0 h1 (by omega) (by omega)
  exact ⟨r, e3, e4, h5, by rw [← hll]; exact h6⟩
def inB (n a b : Int) : Bool := decide (a ≤ n) && decide (n ≤ b)
theorem inB_iff (n a b : Int) : inB n a b = true ↔ a ≤ n ∧ n ≤ b := by simp [inB]
theorem inB_no (n a b : Int) : inB n a b = false ↔ ¬ (a ≤ n ∧ n ≤ b) := by rw [← inB_iff]; simp
theorem spec_l00In_val (n a b : Int) : spec_l00In.f n a b = some (inB n a b) := by
  unfold spec_l00In.f inB
  by_cases h : n ≥ a
  · rw [if_pos h]; simp [show a ≤ n from h]
  · rw [if_neg h]; simp; omega
/-- At a place: within bounds, and more than the number before it. -/
def riseAt (l : List Int) (a b : Int) (i : Nat) : Bool := inB (rd l (i : Int)) a b && (decide (i = 0) || decide (rd l ((i : Int) - 1) < rd l (i : Int)))
theorem riseAt_def (l : List Int) (a b : Int) (i : Nat) : riseAt l a b i = (inB (rd l (i : Int)) a b && (decide (i = 0) || decide (rd l ((i : Int) - 1) < rd l (i : Int)))) := rfl
def rises (l : List Int) (a b : Int) : Bool := (List.range l.length).all (riseAt l a b)
theorem rises_iff (l : List Int) (a b : Int) : rises l a b = true ↔ ∀ i : Nat, i < l.length → (a ≤ rd l i ∧ rd l i ≤ b) ∧ (0 < i → rd l ((i : Int) - 1) < rd l i) := by
  unfold rises
  rw [List.all_eq_true]
  constructor
  · intro h i hi
    have := h i (List.mem_range.2 hi)
    rw [riseAt_def, Bool.and_eq_true, inB_iff, Bool.or_eq_true] at this
    refine ⟨this.1, fun h0 => ?_⟩
    rcases this.2 with h2 | h2
    · exact absurd (of_decide_eq_true h2) (by omega)
    · exact of_decide_eq_true h2
  · intro h i hi
    have := h i (List.mem_range.1 hi)
    rw [riseAt_def, Bool.and_eq_true, inB_iff, Bool.or_eq_true]
    refine ⟨this.1, ?_⟩
    by_cases h0 : i = 0
    · left; simp [h0]
    · right; exact decide_eq_true (this.2 (by omega))
theorem spec_l00Rises_val (l : List Int) (a b : Int) (hl : l.length < 4611686018427387904) : spec_l00Rises.F l a b = some (rises l a b) := by
  rw [spec_l00Rises.F_eq]
  refine (allRange l.length (riseAt l a b) (fun i => spec_l00Rises.L0 l a b i) true (fun i hi => ?_) ?_).trans (by rw [Bool.and_true]; rfl)
  · show spec_l00Rises.L0 l a b i = _
    rw [spec_l00Rises.L0_eq, if_pos (by omega), if_pos (by omega), spec_l00In_val, wS (by omega)]
    simp only [Option.bind_some]
    rw [riseAt_def, ite_band]
    by_cases h1 : inB (rd l (i : Int)) a b = true
    · rw [if_pos h1, if_pos h1]
      by_cases h0 : i = 0
      · rw [if_neg (by omega), if_pos (by simp [h0])]
      · rw [if_pos (by omega), w64 (by omega) (by omega), if_pos (by omega), if_pos (by omega)]
        by_cases h2 : rd l ((i : Int) - 1) ≥ rd l (i : Int)
        · rw [if_pos h2, if_neg (by simp [h0]; omega)]
        · rw [if_neg h2, if_pos (by simp [h0]; omega)]
    · rw [if_neg h1, if_neg h1]
  · show spec_l00Rises.L0 l a b _ = _
    rw [spec_l00Rises.L0_eq, if_neg (by omega)]
/-- A valid reefing. -/
def refAt (a b : List Int) (i : Nat) : Bool := inB (rd a (i : Int)) 1 600 && (inB (rd b (i : Int)) 0 (rd a (i : Int)) && (decide (i = 0) || (decide (rd a ((i : Int) - 1) < rd a (i : Int)) && decide (rd b ((i : Int) - 1) < rd b (i : Int)))))
theorem refAt_def (a b : List Int) (i : Nat) : refAt a b i = (inB (rd a (i : Int)) 1 600 && (inB (rd b (i : Int)) 0 (rd a (i : Int)) && (decide (i = 0) || (decide (rd a ((i : Int) - 1) < rd a (i : Int)) && decide (rd b ((i : Int) - 1) < rd b (i : Int)))))) := rfl
def refOk (a b : List Int) : Bool := decide (a.length ≤ 6) && (decide (b.length = a.length) && (List.range a.length).all (refAt a b))
theorem refOk_iff (a b : List Int) : refOk a b = true ↔ a.length ≤ 6 ∧ b.length = a.length ∧ ∀ i : Nat, i < a.length → (1 ≤ rd a i ∧ rd a i ≤ 600) ∧ (0 ≤ rd b i ∧ rd b i ≤ rd a i) ∧ (0 < i → rd a ((i : Int) - 1) < rd a i ∧ rd b ((i : Int) - 1) < rd b i) := by
  unfold refOk
  rw [Bool.and_eq_true, Bool.and_eq_true, decide_eq_true_iff, decide_eq_true_iff, List.all_eq_true]
  refine and_congr Iff.rfl (and_congr Iff.rfl ⟨fun h i hi => ?_, fun h i hi => ?_⟩)
  · have := h i (List.mem_range.2 hi)
    rw [refAt_def, Bool.and_eq_true, inB_iff, Bool.and_eq_true, inB_iff, Bool.or_eq_true] at this
    refine ⟨this.1, this.2.1, fun h0 => ?_⟩
    rcases this.2.2 with h2 | h2
    · exact absurd (of_decide_eq_true h2) (by omega)
    · simpa using h2
  · have := h i (List.mem_range.1 hi)
    rw [refAt_def, Bool.and_eq_true, inB_iff, Bool.and_eq_true, inB_iff, Bool.or_eq_true]
    refine ⟨this.1, this.2.1, ?_⟩
    by_cases h0 : i = 0
    · left; simp [h0]
    · right; simpa using this.2.2 (by omega)
/-- The reefing with the same winds twice. -/
theorem ref_self (a : List Int) : refOk a a = (decide (a.length ≤ 6) && rises a 1 600) := by
  rw [Bool.eq_iff_iff, refOk_iff, Bool.and_eq_true, decide_eq_true_iff, rises_iff]
  constructor
  · rintro ⟨h1, _, h3⟩
    exact ⟨h1, fun i hi => ⟨(h3 i hi).1, fun h0 => ((h3 i hi).2.2 h0).1⟩⟩
  · rintro ⟨h1, h3⟩
    exact ⟨h1, rfl, fun i hi => ⟨(h3 i hi).1, ⟨by have := (h3 i hi).1; omega, Int.le_refl _⟩, fun h0 => ⟨(h3 i hi).2 h0, (h3 i hi).2 h0⟩⟩⟩
theorem ref_vals {a b : List Int} (h : refOk a b = true) : ∀ y ∈ a, 1 ≤ y ∧ y ≤ 600 := by
  rw [refOk_iff] at h
  intro y hy
  obtain ⟨i, hi, rfl⟩ := List.getElem_of_mem hy
  have := (h.2.2 i hi).1
  rw [rd_get a i hi] at this
  exact this
theorem spec_l18In_val (a : List Int) (ha : a.length < 4611686018427387904) : spec_l18In.F a = some (refOk a a) := by
  rw [spec_l18In.F_eq, ref_self]
  by_cases h : (a.length : Int) ≤ 6
  · rw [if_pos h, spec_l00Rises_val a 1 600 ha, decide_eq_true (by omega)]
    simp
  · rw [if_neg h, decide_eq_false (by omega)]
    rfl
theorem spec_l18Wind_val (n : Int) : spec_l18Wind.f n = some (inB n 0 600) := by
  unfold spec_l18Wind.f
  rw [spec_l00In_val]; rfl
/-- Winds as told. -/
def windsOk (l : List Int) : Bool := l.all (fun n => inB n 0 600) && decide (l.length ≤ 60)
theorem spec_l18Winds_val (l : List Int) (hl : l.length < 4611686018427387904) : spec_l18Winds.F l = some (windsOk l) := by
  rw [spec_l18Winds.F_eq]
  refine allLoop l (fun n => inB n 0 600) (fun i => spec_l18Winds.L0 l i) _ (fun i hi => ?_) ?_
  · show spec_l18Winds.L0 l i = _
    rw [spec_l18Winds.L0_eq, if_pos (by omega), if_pos (by omega), rd_get l i hi, wS (by omega), spec_l18Wind_val]
    rfl
  · show spec_l18Winds.L0 l _ = _
    rw [spec_l18Winds.L0_eq, if_neg (by omega)]
    simp; omega
theorem impl_within_val (n a b : Int) : impl_within.f n a b = some (inB n a b) := by
  unfold impl_within.f inB
  by_cases h : n ≥ a
  · rw [if_pos h]; simp [show a ≤ n from h]
  · rw [if_neg h]; simp; omega
theorem impl_ValidReefing_val (a b : List Int) (ha : a.length < 4611686018427387904) (hb : b.length < 4611686018427387904) : impl_ValidReefing.F a b = some (refOk a b) := by
  rw [impl_ValidReefing.F_eq]
  by_cases h2 : (a.length : Int) > 6
  · rw [if_pos h2, impl_ValidReefing.J0_eq, if_pos rfl]
    congr 1; unfold refOk; rw [decide_eq_false (by omega)]; rfl
  · rw [if_neg h2, impl_ValidReefing.J0_eq]
    by_cases h1 : b.length = a.length
    · rw [if_neg (by simp [h1])]
      refine (allRange a.length (refAt a b) (fun i => impl_ValidReefing.L0 a (a.length : Int) i a b) true (fun i hi => ?_) ?_).trans ?_
      · show impl_ValidReefing.L0 _ _ i _ _ = _
        rw [impl_ValidReefing.L0_eq, if_pos (by omega), if_pos (by omega), if_pos (by omega), impl_within_val, wS (by omega)]
        simp only [Option.bind_some]
        rw [refAt_def, ite_band, ite_band]
        by_cases h3 : inB (rd a (i : Int)) 1 600 = true
        · rw [if_pos h3, if_pos h3, if_pos (by omega), impl_within_val]
          simp only [Option.bind_some]
          by_cases h4 : inB (rd b (i : Int)) 0 (rd a (i : Int)) = true
          · rw [if_pos h4, if_pos h4]
            by_cases h0 : i = 0
            · rw [if_neg (by omega), if_pos (by simp [h0])]
            · rw [if_pos (by omega), w64 (by omega) (by omega), if_pos (by omega), if_pos (by omega)]
              by_cases h5 : rd a (i : Int) ≤ rd a ((i : Int) - 1)
              · rw [if_pos h5, if_neg (by simp [h0]; omega)]
              · rw [if_neg h5, if_pos (by omega)]
                by_cases h6 : rd b (i : Int) ≤ rd b ((i : Int) - 1)
                · rw [if_pos h6, if_neg (by simp [h0]; omega)]
                · rw [if_neg h6, if_pos (by simp [h0]; omega)]
          · rw [if_neg h4, if_neg h4]
        · rw [if_neg h3, if_neg h3]
      · show impl_ValidReefing.L0 _ _ _ _ _ = _
        rw [impl_ValidReefing.L0_eq, if_neg (by omega)]
      · unfold refOk
        rw [decide_eq_true (show a.length ≤ 6 by omega), decide_eq_true h1]
        simp
    · rw [if_pos (by simp; omega)]
      congr 1; unfold refOk; rw [decide_eq_false (p := b.length = a.length) h1]; simp
theorem impl_areIn_val (l : List Int) (n a b : Int) (hl : l.length < 4611686018427387904) : impl_areIn.F l n a b = some (decide ((l.length : Int) = n) && l.all (fun x => inB x a b)) := by
  rw [impl_areIn.F_eq]
  by_cases h : (l.length : Int) = n
  · rw [if_pos h, decide_eq_true h]
    refine (allLoop l (fun x => inB x a b) (fun i => impl_areIn.L0 a b l (l.length : Int) i) true (fun i hi => ?_) ?_).trans (by simp)
    · show impl_areIn.L0 a b l _ i = _
      rw [impl_areIn.L0_eq, if_pos (by omega), if_pos (by omega), if_pos (by omega), rd_get l i hi, wS (by omega), impl_within_val]
      rfl
    · show impl_areIn.L0 a b l _ _ = _
      rw [impl_areIn.L0_eq, if_neg (by omega)]
  · rw [if_neg h, decide_eq_false h]; rfl
/-- The code of a reefing, a number of reefs and winds. -/
def reefCode (a b : List Int) (x : Int) (ws : List Int) : Int := if refOk a b = true then (if (inB x 0 (a.length : Int) && windsOk ws) = true then 0 else 2) else 1
theorem reefCode_ok {a b : List Int} {x : Int} {ws : List Int} (h : reefCode a b x ws = 0) : refOk a b = true ∧ inB x 0 (a.length : Int) = true ∧ windsOk ws = true := by
  unfold reefCode at h
  by_cases h1 : refOk a b = true
  · rw [if_pos h1] at h
    by_cases h2 : (inB x 0 (a.length : Int) && windsOk ws) = true
    · rw [Bool.and_eq_true] at h2; exact ⟨h1, h2⟩
    · rw [if_neg h2] at h; omega
  · rw [if_neg h1] at h; omega
theorem impl_reefCode_val (a b : List Int) (x : Int) (ws : List Int) (ha : a.length < 4611686018427387904) (hb : b.length < 4611686018427387904) (hw : ws.length < 4611686018427387904) : impl_reefCode.F a b x ws = some (reefCode a b x ws) := by
  rw [impl_reefCode.F_eq, impl_ValidReefing_val a b ha hb]
  simp only [Option.bind_some]
  unfold reefCode
  by_cases h1 : refOk a b = true
  · rw [if_pos h1, if_pos h1, impl_within_val]
    simp only [Option.bind_some]
    rw [ite_band]
    by_cases h2 : inB x 0 (a.length : Int) = true
    · rw [if_pos h2, if_pos h2]
      by_cases h3 : (ws.length : Int) > 60
      · rw [if_pos h3, if_neg (by unfold windsOk; simp; omega)]
      · rw [if_neg h3, impl_areIn_val ws _ 0 600 hw, decide_eq_true rfl]
        simp only [Option.bind_some]
        have e : windsOk ws = (true && ws.all fun x => inB x 0 600) := by unfold windsOk; rw [decide_eq_true (by omega)]; simp
        rw [e]
        split <;> rfl
    · rw [if_neg h2, if_neg h2]
  · rw [if_neg h1, if_neg h1]
theorem ref_len {a b : List Int} (h : refOk a b = true) : a.length ≤ 6 ∧ b.length = a.length := by
  rw [refOk_iff] at h
  exact ⟨h.1, h.2.1⟩
theorem gap_over (l : List Int) (x : Int) (ws : List Int) (c : Int) (hl : l.length ≤ 1000000) (hy : ∀ y ∈ l, 1 ≤ y ∧ y ≤ 600) (d : Nat) : ∀ g : Int, 0 ≤ g → g + d = 601 → (∃ y ∈ l, y < g) → impl_LeastGap.L0 l x ws c g = some (0, 3) := by
  induction d with
  | zero =>
    intro g h0 hd _
    rw [impl_LeastGap.L0_eq, if_neg (by omega)]
  | succ d ih =>
    intro g h0 hd hex
    rcases even_same l g (by omega) (fun y h => by have := hy y h; omega) (by omega) (by omega) with ⟨_, _, h3⟩ | ⟨_, e2, _⟩
    · obtain ⟨y, h4, h5⟩ := hex
      have := h3 y h4
      omega
    · rw [impl_LeastGap.L0_eq, if_pos (by omega), e2]
      simp only [Option.bind_some]
      rw [if_neg nf, w64 (n := g + 1) (by omega) (by omega)]
      obtain ⟨y, h4, h5⟩ := hex
      exact ih (g + 1) (by omega) (by omega) ⟨y, h4, by omega⟩
theorem gap_loop (l : List Int) (x : Int) (ws : List Int) (c : Int) (hl : l.length ≤ 1000000) (hw : ws.length ≤ 1048576) (hy : ∀ y ∈ l, 1 ≤ y ∧ y ≤ 600) (hx0 : 0 ≤ x) (hx1 : x ≤ l.length) (d : Nat) : ∀ g : Int, 0 ≤ g → g + d = 601 → ∃ r q, spec_LeastGap.L0 l x ws c g = some (r, q) ∧ impl_LeastGap.L0 l x ws c g = some (r, q) := by
  induction d with
  | zero =>
    intro g h0 hd
    have h : ¬ g ≤ 600 := by omega
    rw [spec_LeastGap.L0_eq, impl_LeastGap.L0_eq, if_neg h, if_neg h]
    exact ⟨0, 3, rfl, rfl⟩
  | succ d ih =>
    intro g h0 hd
    have h : g ≤ 600 := by omega
    rcases even_same l g (by omega) (fun y h => by have := hy y h; omega) (by omega) (by omega) with ⟨e1, e2, h3⟩ | ⟨e1, e2, hex⟩
    · obtain ⟨r, e3, e4, _, _⟩ := changes_same l (l.map fun y => y - g) (by rw [List.length_map]) hl ws hw x hx0 hx1
      rw [spec_LeastGap.L0_eq, impl_LeastGap.L0_eq, if_pos h, if_pos h, e1, e2]
      simp only [Option.bind_some]
      rw [if_pos trivial, if_pos trivial, e3, e4]
      simp only [Option.bind_some]
      by_cases hr : r ≤ c
      · rw [if_pos hr, if_pos hr]
        exact ⟨g, 0, rfl, rfl⟩
      · rw [if_neg hr, if_neg hr, w64 (n := g + 1) (by omega) (by omega)]
        exact ih (g + 1) (by omega) (by omega)
    · have e5 := gap_over l x ws c hl hy (d + 1) g h0 hd hex
      rw [spec_LeastGap.L0_eq, if_pos h, e1]
      simp only [Option.bind_some]
      rw [if_neg nf]
      exact ⟨0, 3, rfl, e5⟩
theorem LeastGap_same (l : List Int) (x : Int) (ws : List Int) (c : Int) (hl : l.length ≤ 1048576) (hw : ws.length ≤ 1048576) : ∃ r q, spec_LeastGap.F l x ws c = some (r, q) ∧ impl_LeastGap.F l x ws c = some (r, q) := by
  rw [spec_LeastGap.F_eq, impl_LeastGap.F_eq, spec_l18In_val l (by omega), impl_reefCode_val l l x ws (by omega) (by omega) (by omega)]
  simp only [Option.bind_some]
  unfold reefCode
  by_cases h1 : refOk l l = true
  · rw [if_pos h1, if_pos h1, spec_l00In_val, ite_band]
    simp only [Option.bind_some]
    have no : spec_LeastGap.J0 l x ws c true = some (0, 2) := by rw [spec_LeastGap.J0_eq, if_pos rfl]
    by_cases h2 : inB x 0 (l.length : Int) = true
    · rw [if_pos h2, if_pos h2, spec_l18Winds_val ws (by omega)]
      simp only [Option.bind_some]
      by_cases h3 : windsOk ws = true
      · rw [if_pos h3, if_pos h3, spec_l00In_val, impl_within_val]
        simp only [Option.bind_some]
        rw [if_pos trivial]
        cases h4 : inB c 0 360 with
        | false => exact ⟨0, 2, no, by rw [if_neg nf]⟩
        | true =>
          rw [if_pos rfl, Bool.not_true, spec_LeastGap.J0_eq, if_neg nf]
          rw [inB_iff] at h2
          have h5 := ref_len h1
          exact gap_loop l x ws c (by omega) hw (ref_vals h1) h2.1 h2.2 601 0 (by omega) (by omega)
      · rw [if_neg h3, if_neg h3, no, if_neg (by decide)]
        exact ⟨0, 2, rfl, rfl⟩
    · rw [if_neg h2, if_neg h2, no, if_neg (by decide)]
      exact ⟨0, 2, rfl, rfl⟩
  · rw [if_neg h1, if_neg h1, if_neg (by decide)]
    exact ⟨0, 1, rfl, rfl⟩
theorem laws_toInt64S_val (l : List Int) (hl : l.length ≤ 1048576) : laws_toInt64S.F l = some l := by
  rw [laws_toInt64S.F_eq, if_pos (by omega), if_pos (by omega), Int.toNat_natCast]
  have := fillLoop l 0 (fun s i => laws_toInt64S.L0 l s i) (fun i s hi hs => by
    show laws_toInt64S.L0 l s i = _
    rw [laws_toInt64S.L0_eq, if_pos (by omega), if_pos (by omega), wS (by omega), if_pos (by omega), Int.toNat_natCast, rd_get l i hi])
  refine this.trans ?_
  show laws_toInt64S.L0 l _ _ = _
  rw [laws_toInt64S.L0_eq, if_neg (by omega)]
theorem laws_eqInt64S_val (l : List Int) (hl : l.length < 4611686018427387904) : laws_eqInt64S.F l l = some true := by
  rw [laws_eqInt64S.F_eq, if_pos rfl]
  have := allLoop l (fun _ => true) (fun i => laws_eqInt64S.L0 l l i) true (fun i hi => by
    show laws_eqInt64S.L0 l l i = _
    rw [laws_eqInt64S.L0_eq, if_pos (by omega), if_pos (by omega), if_pos (by omega), wS (by omega)]
    simp) (by
    show laws_eqInt64S.L0 l l _ = _
    rw [laws_eqInt64S.L0_eq, if_neg (by omega)])
  rw [this]; simp
theorem pure_FnExactLeastGap : laws_FnExactLeastGap.Pure := by
  intro l x ws c hgl hx hgw hc
  refine of_lim (g := fun k => laws_FnExactLeastGap.f k l x ws c) ?_
  show laws_FnExactLeastGap.F l x ws c = some true
  by_cases hl : (l.length : Int) > 1048576
  · rw [laws_FnExactLeastGap.F_eq, if_pos hl]
  by_cases hw : (ws.length : Int) > 1048576
  · rw [laws_FnExactLeastGap.F_eq, if_neg hl, if_pos hw]
  obtain ⟨r, q, e1, e2⟩ := LeastGap_same l x ws c (by omega) (by omega)
  have hl' : ¬ (1048576 < (l.length : Int)) := hl
  have hw' : ¬ (1048576 < (ws.length : Int)) := hw
  have e3 := laws_toInt64S_val l (by omega)
  have e4 := laws_eqInt64S_val l (by omega)
  have e5 := laws_toInt64S_val ws (by omega)
  have e6 := laws_eqInt64S_val ws (by omega)
  simp [laws_FnExactLeastGap.F_eq, laws_FnExactLeastGap.J0_eq, hl', hw', e1, e2, e3, e4, e5, e6]
end Go.Proofs.Ytobejjbnklcgpaa.PFnExactLeastGap
namespace Go.Proofs.Ytobejjbnklcgpaa.Pure
theorem FnExactLeastGap : PFnExactLeastGap.laws_FnExactLeastGap.Pure := PFnExactLeastGap.pure_FnExactLeastGap
end Go.Proofs.Ytobejjbnklcgpaa.Pure
