/-
  The pure side of FnExactValidReefing: the program's ValidReefing tells what the reference's tells. No conditions.
-/
import Derived.Test.YtjehpokkbekapaaQFnExactValidReefing
set_option linter.unusedVariables false
set_option linter.unusedSimpArgs false
set_option linter.unnecessarySimpa false
namespace Go.Proofs.Ytjehpokkbekapaa.PFnExactValidReefing
open Go.RowKit Go.Proofs.Ytjehpokkbekapaa.Kit Go.Proofs.YtjehpokkbekapaaW.PrintWords Go.Proofs.YtjehpokkbekapaaW.PrintLast Go.Proofs.YtjehpokkbekapaaW.PrintMore

def inB (n a b : Int) : Bool := decide (a ≤ n) && decide (n ≤ b)
theorem inB_iff (n a b : Int) : inB n a b = true ↔ a ≤ n ∧ n ≤ b := by simp [inB]
theorem inB_no (n a b : Int) : inB n a b = false ↔ ¬ (a ≤ n ∧ n ≤ b) := by rw [← inB_iff]; simp
theorem spec_l00In_val (n a b : Int) : spec_l00In.f n a b = some (inB n a b) := by
  unfold spec_l00In.f inB
  by_cases h : n ≥ a
  · rw [if_pos h]; simp [show a ≤ n from h]
  · rw [if_neg h]; simp; omega
/-- At a place: within bounds, and more than the number before it. -/
def riseAt (l : List Int) (a b : Int) (i : Nat) : Bool := inB (rd l (i : Int)) a b && (decide (i = 0) || decide (rd l ((i : Int) - 1) < rd l (i : Int)))
theorem riseAt_def (l : List Int) (a b : Int) (i : Nat) : riseAt l a b i = (inB (rd l (i : Int)) a b && (decide (i = 0) || decide (rd l ((i : Int) - 1) < rd l (i : Int)))) := rfl
def rises (l : List Int) (a b : Int) : Bool := (List.range l.length).all (riseAt l a b)
theorem rises_iff (l : List Int) (a b : Int) : rises l a b = true ↔ ∀ i : Nat, i < l.length → (a ≤ rd l i ∧ rd l i ≤ b) ∧ (0 < i → rd l ((i : Int) - 1) < rd l i) := by
  unfold rises
  rw [List.all_eq_true]
  constructor
  · intro h i hi
    have := h i (List.mem_range.2 hi)
    rw [riseAt_def, Bool.and_eq_true, inB_iff, Bool.or_eq_true] at this
    refine ⟨this.1, fun h0 => ?_⟩
    rcases this.2 with h2 | h2
    · exact absurd (of_decide_eq_true h2) (by omega)
    · exact of_decide_eq_true h2
  · intro h i hi
    have := h i (List.mem_range.1 hi)
    rw [riseAt_def, Bool.and_eq_true, inB_iff, Bool.or_eq_true]
    refine ⟨this.1, ?_⟩
    by_cases h0 : i = 0
    · left; simp [h0]
    · right; exact decide_eq_true (this.2 (by omega))
theorem spec_l00Rises_val (l : List Int) (a b : Int) (hl : l.length < 4611686018427387904) : spec_l00Rises.F l a b = some (rises l a b) := by
  rw [spec_l00Rises.F_eq]
  refine (allRange l.length (riseAt l a b) (fun i => spec_l00Rises.L0 l a b i) true (fun i hi => ?_) ?_).trans (by rw [Bool.and_true]; rfl)
  · show spec_l00Rises.L0 l a b i = _
    rw [spec_l00Rises.L0_eq, if_pos (by omega), if_pos (by omega), spec_l00In_val, wS (by omega)]
    simp only [Option.bind_some]
    rw [riseAt_def, ite_band]
    by_cases h1 : inB (rd l (i : Int)) a b = true
    · rw [if_pos h1, if_pos h1]
      by_cases h0 : i = 0
      · rw [if_neg (by omega), if_pos (by simp [h0])]
      · rw [if_pos (by omega), w64 (by omega) (by omega), if_pos (by omega), if_pos (by omega)]
        by_cases h2 : rd l ((i : Int) - 1) ≥ rd l (i : Int)
        · rw [if_pos h2, if_neg (by simp [h0]; omega)]
        · rw [if_neg h2, if_pos (by simp [h0]; omega)]
    · rw [if_neg h1, if_neg h1]
  · show spec_l00Rises.L0 l a b _ = _
    rw [spec_l00Rises.L0_eq, if_neg (by omega)]
/-- A valid reefing. -/
def refAt (a b : List Int) (i : Nat) : Bool := inB (rd a (i : Int)) 1 600 && (inB (rd b (i : Int)) 0 (rd a (i : Int)) && (decide (i = 0) || (decide (rd a ((i : Int) - 1) < rd a (i : Int)) && decide (rd b ((i : Int) - 1) < rd b (i : Int)))))
theorem refAt_def (a b : List Int) (i : Nat) : refAt a b i = (inB (rd a (i : Int)) 1 600 && (inB (rd b (i : Int)) 0 (rd a (i : Int)) && (decide (i = 0) || (decide (rd a ((i : Int) - 1) < rd a (i : Int)) && decide (rd b ((i : Int) - 1) < rd b (i : Int)))))) := rfl
def refOk (a b : List Int) : Bool := decide (a.length ≤ 6) && (decide (b.length = a.length) && (List.range a.length).all (refAt a b))
theorem refOk_iff (a b : List Int) : refOk a b = true ↔ a.length ≤ 6 ∧ b.length = a.length ∧ ∀ i : Nat, i < a.length → (1 ≤ rd a i ∧ rd a i ≤ 600) ∧ (0 ≤ rd b i ∧ rd b i ≤ rd a i) ∧ (0 < i → rd a ((i : Int) - 1) < rd a i ∧ rd b ((i : Int) - 1) < rd b i) := by
  unfold refOk
  rw [Bool.and_eq_true, Bool.and_eq_true, decide_eq_true_iff, decide_eq_true_iff, List.all_eq_true]
  refine and_congr Iff.rfl (and_congr Iff.rfl ⟨fun h i hi => ?_, fun h i hi => ?_⟩)
  · have := h i (List.mem_range.2 hi)
    rw [refAt_def, Bool.and_eq_true, inB_iff, Bool.and_eq_true, inB_iff, Bool.or_eq_true] at this
    refine ⟨this.1, this.2.1, fun h0 => ?_⟩
    rcases this.2.2 with h2 | h2
    · exact absurd (of_decide_eq_true h2) (by omega)
    · simpa using h2
  · have := h i (List.mem_range.1 hi)
    rw [refAt_def, Bool.and_eq_true, inB_iff, Bool.and_eq_true, inB_iff, Bool.or_eq_true]
    refine ⟨this.1, this.2.1, ?_⟩
    by_cases h0 : i = 0
    · left; simp [h0]
    · right; simpa using this.2.2 (by omega)
theorem spec_l18Ok_val (a b : List Int) (ha : a.length < 4611686018427387904) (hb : b.length < 4611686018427387904) : spec_l18Ok.F [(⟨a, b⟩ : S43)] = some (refOk a b) := by
  have e : rd_T43 [(⟨a, b⟩ : S43)] 0 = ⟨a, b⟩ := rfl
  rw [spec_l18Ok.F_eq, e, if_pos (by simp)]
  by_cases h1 : (b.length : Int) = (a.length : Int)
  · rw [if_pos h1]
    by_cases h2 : (a.length : Int) > 6
    · rw [if_pos h2, spec_l18Ok.J0_eq, if_pos rfl]
      congr 1; unfold refOk; rw [decide_eq_false (by omega)]; rfl
    · rw [if_neg h2, spec_l00Rises_val a 1 600 ha]
      simp only [Option.bind_some]
      have hfin : ∀ r : Bool, (r = rises b 0 600) → rises a 1 600 = true → spec_l18Ok.J0 [(⟨a, b⟩ : S43)] (a.length : Int) (!r) = some (refOk a b) := by
        intro r hr ha2
        rw [spec_l18Ok.J0_eq]
        cases hr2 : r with
        | false =>
          rw [if_pos (show (!false) = true from rfl)]
          congr 1
          symm
          rw [← Bool.not_eq_true, refOk_iff]
          intro hbad
          have : rises b 0 600 = true := by
            rw [rises_iff]
            intro i hi
            have h3 := hbad.2.2 i (by omega)
            exact ⟨⟨h3.2.1.1, by omega⟩, fun h0 => (h3.2.2 h0).2⟩
          rw [← hr, hr2] at this
          cases this
        | true =>
          rw [if_neg (by simp)]
          have hb2 : rises b 0 600 = true := by rw [← hr, hr2]
          rw [rises_iff] at ha2 hb2
          refine (allRange a.length (fun i => decide (rd b (i : Int) ≤ rd a (i : Int))) (fun i => spec_l18Ok.L0 [(⟨a, b⟩ : S43)] (a.length : Int) i) true (fun i hi => ?_) ?_).trans ?_
          · show spec_l18Ok.L0 _ _ i = _
            rw [spec_l18Ok.L0_eq, e, if_pos (by omega), if_pos (by omega), if_pos (by show (i : Int) < (b.length : Int); omega), if_pos (by show (i : Int) < (a.length : Int); omega), wS (by omega)]
            show (if rd b (i : Int) > rd a (i : Int) then _ else _) = _
            by_cases h3 : rd b (i : Int) > rd a (i : Int)
            · rw [if_pos h3, if_neg (by simp; omega)]
            · rw [if_neg h3, if_pos (by simp; omega)]
          · show spec_l18Ok.L0 _ _ _ = _
            rw [spec_l18Ok.L0_eq, if_neg (by omega)]
          · congr 1
            rw [Bool.and_true, Bool.eq_iff_iff, List.all_eq_true, refOk_iff]
            constructor
            · intro h
              refine ⟨by omega, by omega, fun i hi => ⟨(ha2 i hi).1, ⟨(hb2 i (by omega)).1.1, ?_⟩, fun h0 => ⟨(ha2 i hi).2 h0, (hb2 i (by omega)).2 h0⟩⟩⟩
              simpa using h i (List.mem_range.2 hi)
            · intro h i hi
              simpa using (h.2.2 i (List.mem_range.1 hi)).2.1.2
      cases hra : rises a 1 600 with
      | false =>
        rw [if_neg (by simp), spec_l18Ok.J0_eq, if_pos rfl]
        congr 1
        symm
        rw [← Bool.not_eq_true, refOk_iff]
        intro hbad
        have : rises a 1 600 = true := by
          rw [rises_iff]
          intro i hi
          have h3 := hbad.2.2 i hi
          exact ⟨h3.1, fun h0 => (h3.2.2 h0).1⟩
        rw [hra] at this
        cases this
      | true =>
        rw [if_pos rfl, spec_l00Rises_val b 0 600 hb]
        simp only [Option.bind_some]
        exact hfin _ rfl hra
  · rw [if_neg h1, spec_l18Ok.J0_eq, if_pos rfl]
    congr 1; unfold refOk; rw [decide_eq_false (p := b.length = a.length) (by omega)]; simp
theorem impl_within_val (n a b : Int) : impl_within.f n a b = some (inB n a b) := by
  unfold impl_within.f inB
  by_cases h : n ≥ a
  · rw [if_pos h]; simp [show a ≤ n from h]
  · rw [if_neg h]; simp; omega
theorem impl_ValidReefing_val (a b : List Int) (ha : a.length < 4611686018427387904) (hb : b.length < 4611686018427387904) : impl_ValidReefing.F a b = some (refOk a b) := by
  rw [impl_ValidReefing.F_eq]
  by_cases h2 : (a.length : Int) > 6
  · rw [if_pos h2, impl_ValidReefing.J0_eq, if_pos rfl]
    congr 1; unfold refOk; rw [decide_eq_false (by omega)]; rfl
  · rw [if_neg h2, impl_ValidReefing.J0_eq]
    by_cases h1 : b.length = a.length
    · rw [if_neg (by simp [h1])]
      refine (allRange a.length (refAt a b) (fun i => impl_ValidReefing.L0 a (a.length : Int) i a b) true (fun i hi => ?_) ?_).trans ?_
      · show impl_ValidReefing.L0 _ _ i _ _ = _
        rw [impl_ValidReefing.L0_eq, if_pos (by omega), if_pos (by omega), if_pos (by omega), impl_within_val, wS (by omega)]
        simp only [Option.bind_some]
        rw [refAt_def, ite_band, ite_band]
        by_cases h3 : inB (rd a (i : Int)) 1 600 = true
        · rw [if_pos h3, if_pos h3, if_pos (by omega), impl_within_val]
          simp only [Option.bind_some]
          by_cases h4 : inB (rd b (i : Int)) 0 (rd a (i : Int)) = true
          · rw [if_pos h4, if_pos h4]
            by_cases h0 : i = 0
            · rw [if_neg (by omega), if_pos (by simp [h0])]
            · rw [if_pos (by omega), w64 (by omega) (by omega), if_pos (by omega), if_pos (by omega)]
              by_cases h5 : rd a (i : Int) ≤ rd a ((i : Int) - 1)
              · rw [if_pos h5, if_neg (by simp [h0]; omega)]
              · rw [if_neg h5, if_pos (by omega)]
                by_cases h6 : rd b (i : Int) ≤ rd b ((i : Int) - 1)
                · rw [if_pos h6, if_neg (by simp [h0]; omega)]
                · rw [if_neg h6, if_pos (by simp [h0]; omega)]
          · rw [if_neg h4, if_neg h4]
        · rw [if_neg h3, if_neg h3]
      · show impl_ValidReefing.L0 _ _ _ _ _ = _
        rw [impl_ValidReefing.L0_eq, if_neg (by omega)]
      · unfold refOk
        rw [decide_eq_true (show a.length ≤ 6 by omega), decide_eq_true h1]
        simp
    · rw [if_pos (by simp; omega)]
      congr 1; unfold refOk; rw [decide_eq_false (p := b.length = a.length) h1]; simp
theorem laws_szInt64S_val (l : List Int) (n : Int) (h : l.length ≤ 9223372036854775807) (hn : 0 ≤ n) (hn2 : n ≤ 1048576) : ∃ r, laws_szInt64S.f l n = some r ∧ (r < 0 ∨ 0 ≤ r ∧ r ≤ n ∧ (l.length : Int) ≤ n) := by
  unfold laws_szInt64S.f
  rw [w64 (by omega) (by omega)]
  by_cases hc : n < l.length
  · exact ⟨-1, by rw [if_pos (by omega)], Or.inl (by omega)⟩
  · exact ⟨n - l.length, by rw [if_neg (by omega)], Or.inr (by omega)⟩
theorem laws_szReefing_val (a b : List Int) (n : Int) (ha : a.length ≤ 9223372036854775807) (hb : b.length ≤ 9223372036854775807) (hn : 0 ≤ n) (hn2 : n ≤ 1048576) : ∃ r, laws_szReefing.f a b n = some r ∧ (r < 0 ∨ 0 ≤ r ∧ r ≤ n ∧ (a.length : Int) ≤ n ∧ (b.length : Int) ≤ n) := by
  unfold laws_szReefing.f
  obtain ⟨r, hr, h1⟩ := laws_szInt64S_val a n ha hn hn2
  rw [hr]; simp only [Option.bind_some]
  rcases h1 with h1 | ⟨h1, h2, h3⟩
  · exact ⟨-1, by rw [if_pos h1], Or.inl (by omega)⟩
  · rw [if_neg (by omega)]
    obtain ⟨q, hq, h4⟩ := laws_szInt64S_val b r hb h1 (by omega)
    rw [hq]; simp only [Option.bind_some]
    rcases h4 with h4 | h4
    · exact ⟨-1, by rw [if_pos h4], Or.inl (by omega)⟩
    · exact ⟨q, by rw [if_neg (by omega)], Or.inr (by omega)⟩
theorem laws_toInt64S_val (l : List Int) (hl : l.length ≤ 1048576) : laws_toInt64S.F l = some l := by
  rw [laws_toInt64S.F_eq, if_pos (by omega), if_pos (by omega), Int.toNat_natCast]
  have := fillLoop l 0 (fun s i => laws_toInt64S.L0 l s i) (fun i s hi hs => by
    show laws_toInt64S.L0 l s i = _
    rw [laws_toInt64S.L0_eq, if_pos (by omega), if_pos (by omega), wS (by omega), if_pos (by omega), Int.toNat_natCast, rd_get l i hi])
  refine this.trans ?_
  show laws_toInt64S.L0 l _ _ = _
  rw [laws_toInt64S.L0_eq, if_neg (by omega)]
theorem laws_toReefing_val (a b : List Int) (ha : a.length ≤ 1048576) (hb : b.length ≤ 1048576) : laws_toReefing.F a b = some (a, b) := by
  rw [laws_toReefing.F_eq, laws_toInt64S_val a ha, laws_toInt64S_val b hb]; rfl
theorem laws_eqInt64S_val (l : List Int) (hl : l.length < 4611686018427387904) : laws_eqInt64S.F l l = some true := by
  rw [laws_eqInt64S.F_eq, if_pos rfl]
  have := allLoop l (fun _ => true) (fun i => laws_eqInt64S.L0 l l i) true (fun i hi => by
    show laws_eqInt64S.L0 l l i = _
    rw [laws_eqInt64S.L0_eq, if_pos (by omega), if_pos (by omega), if_pos (by omega), wS (by omega)]
    simp) (by
    show laws_eqInt64S.L0 l l _ = _
    rw [laws_eqInt64S.L0_eq, if_neg (by omega)])
  rw [this]; simp
theorem laws_eqReefing_val (a b : List Int) (ha : a.length ≤ 1048576) (hb : b.length ≤ 1048576) : laws_eqReefing.F a b a b = some true := by
  rw [laws_eqReefing.F_eq, laws_eqInt64S_val a (by omega)]
  simp only [Option.bind_some]
  rw [laws_eqInt64S_val b (by omega)]
  rfl
theorem pure_FnExactValidReefing : laws_FnExactValidReefing.Pure := by
  intro a b hga hgb
  refine of_lim (g := fun k => laws_FnExactValidReefing.f k a b) ?_
  show laws_FnExactValidReefing.F a b = some true
  obtain ⟨r, hr, h⟩ := laws_szReefing_val a b 1048576 hga.1 hgb.1 (by omega) (by omega)
  rw [laws_FnExactValidReefing.F_eq, hr]
  simp only [Option.bind_some]
  rcases h with h | ⟨h1, h2, h3, h4⟩
  · rw [if_pos h]
  · rw [if_neg (by omega), laws_toReefing_val a b (by omega) (by omega)]
    simp only [Option.bind_some]
    rw [spec_ValidReefing.F_eq, spec_l18Ok_val a b (by omega) (by omega)]
    simp only [Option.bind_some]
    rw [impl_ValidReefing_val a b (by omega) (by omega)]
    simp only [Option.bind_some]
    rw [laws_eqReefing_val a b (by omega) (by omega)]
    simp
end Go.Proofs.Ytjehpokkbekapaa.PFnExactValidReefing
namespace Go.Proofs.Ytjehpokkbekapaa.Pure
theorem FnExactValidReefing : PFnExactValidReefing.laws_FnExactValidReefing.Pure := PFnExactValidReefing.pure_FnExactValidReefing
end Go.Proofs.Ytjehpokkbekapaa.Pure
