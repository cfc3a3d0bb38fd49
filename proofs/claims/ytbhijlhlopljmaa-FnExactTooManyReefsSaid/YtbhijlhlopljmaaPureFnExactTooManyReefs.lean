/-
  The pure side of FnExactTooManyReefs: the program's TooManyReefs returns what the reference's returns. No conditions.
-/
import Derived.Test.YtbhijlhlopljmaaQFnExactTooManyReefs
set_option linter.unusedVariables false
set_option linter.unusedSimpArgs false
set_option linter.unnecessarySimpa false
namespace Go.Proofs.Ytbhijlhlopljmaa.PFnExactTooManyReefs
open Go.RowKit Go.Proofs.Ytbhijlhlopljmaa.Kit Go.Proofs.YtbhijlhlopljmaaW.PrintWords Go.Proofs.YtbhijlhlopljmaaW.PrintLast Go.Proofs.YtbhijlhlopljmaaW.PrintMore

def inB (n a b : Int) : Bool := decide (a ≤ n) && decide (n ≤ b)
theorem inB_iff (n a b : Int) : inB n a b = true ↔ a ≤ n ∧ n ≤ b := by simp [inB]
theorem inB_no (n a b : Int) : inB n a b = false ↔ ¬ (a ≤ n ∧ n ≤ b) := by rw [← inB_iff]; simp
theorem spec_l00In_val (n a b : Int) : spec_l00In.f n a b = some (inB n a b) := by
  unfold spec_l00In.f inB
  by_cases h : n ≥ a
  · rw [if_pos h]; simp [show a ≤ n from h]
  · rw [if_neg h]; simp; omega
/-- At a place: within bounds, and more than the number before it. -/
def riseAt (l : List Int) (a b : Int) (i : Nat) : Bool := inB (rd l (i : Int)) a b && (decide (i = 0) || decide (rd l ((i : Int) - 1) < rd l (i : Int)))
theorem riseAt_def (l : List Int) (a b : Int) (i : Nat) : riseAt l a b i = (inB (rd l (i : Int)) a b && (decide (i = 0) || decide (rd l ((i : Int) - 1) < rd l (i : Int)))) := rfl
def rises (l : List Int) (a b : Int) : Bool := (List.range l.length).all (riseAt l a b)
theorem rises_iff (l : List Int) (a b : Int) : rises l a b = true ↔ ∀ i : Nat, i < l.length → (a ≤ rd l i ∧ rd l i ≤ b) ∧ (0 < i → rd l ((i : Int) - 1) < rd l i) := by
  unfold rises
  rw [List.all_eq_true]
  constructor
  · intro h i hi
    have := h i (List.mem_range.2 hi)
    rw [riseAt_def, Bool.and_eq_true, inB_iff, Bool.or_eq_true] at this
    refine ⟨this.1, fun h0 => ?_⟩
    rcases this.2 with h2 | h2
    · exact absurd (of_decide_eq_true h2) (by omega)
    · exact of_decide_eq_true h2
  · intro h i hi
    have := h i (List.mem_range.1 hi)
    rw [riseAt_def, Bool.and_eq_true, inB_iff, Bool.or_eq_true]
    refine ⟨this.1, ?_⟩
    by_cases h0 : i = 0
    · left; simp [h0]
    · right; exact decide_eq_true (this.2 (by omega))
theorem spec_l00Rises_val (l : List Int) (a b : Int) (hl : l.length < 4611686018427387904) : spec_l00Rises.F l a b = some (rises l a b) := by
  rw [spec_l00Rises.F_eq]
  refine (allRange l.length (riseAt l a b) (fun i => spec_l00Rises.L0 l a b i) true (fun i hi => ?_) ?_).trans (by rw [Bool.and_true]; rfl)
  · show spec_l00Rises.L0 l a b i = _
    rw [spec_l00Rises.L0_eq, if_pos (by omega), if_pos (by omega), spec_l00In_val, wS (by omega)]
    simp only [Option.bind_some]
    rw [riseAt_def, ite_band]
    by_cases h1 : inB (rd l (i : Int)) a b = true
    · rw [if_pos h1, if_pos h1]
      by_cases h0 : i = 0
      · rw [if_neg (by omega), if_pos (by simp [h0])]
      · rw [if_pos (by omega), w64 (by omega) (by omega), if_pos (by omega), if_pos (by omega)]
        by_cases h2 : rd l ((i : Int) - 1) ≥ rd l (i : Int)
        · rw [if_pos h2, if_neg (by simp [h0]; omega)]
        · rw [if_neg h2, if_pos (by simp [h0]; omega)]
    · rw [if_neg h1, if_neg h1]
  · show spec_l00Rises.L0 l a b _ = _
    rw [spec_l00Rises.L0_eq, if_neg (by omega)]
/-- A valid reefing. -/
def refAt (a b : List Int) (i : Nat) : Bool := inB (rd a (i : Int)) 1 600 && (inB (rd b (i : Int)) 0 (rd a (i : Int)) && (decide (i = 0) || (decide (rd a ((i : Int) - 1) < rd a (i : Int)) && decide (rd b ((i : Int) - 1) < rd b (i : Int)))))
theorem refAt_def (a b : List Int) (i : Nat) : refAt a b i = (inB (rd a (i : Int)) 1 600 && (inB (rd b (i : Int)) 0 (rd a (i : Int)) && (decide (i = 0) || (decide (rd a ((i : Int) - 1) < rd a (i : Int)) && decide (rd b ((i : Int) - 1) < rd b (i : Int)))))) := rfl
def refOk (a b : List Int) : Bool := decide (a.length ≤ 6) && (decide (b.length = a.length) && (List.range a.length).all (refAt a b))
theorem refOk_iff (a b : List Int) : refOk a b = true ↔ a.length ≤ 6 ∧ b.length = a.length ∧ ∀ i : Nat, i < a.length → (1 ≤ rd a i ∧ rd a i ≤ 600) ∧ (0 ≤ rd b i ∧ rd b i ≤ rd a i) ∧ (0 < i → rd a ((i : Int) - 1) < rd a i ∧ rd b ((i : Int) - 1) < rd b i) := by
  unfold refOk
  rw [Bool.and_eq_true, Bool.and_eq_true, decide_eq_true_iff, decide_eq_true_iff, List.all_eq_true]
  refine and_congr Iff.rfl (and_congr Iff.rfl ⟨fun h i hi => ?_, fun h i hi => ?_⟩)
  · have := h i (List.mem_range.2 hi)
    rw [refAt_def, Bool.and_eq_true, inB_iff, Bool.and_eq_true, inB_iff, Bool.or_eq_true] at this
    refine ⟨this.1, this.2.1, fun h0 => ?_⟩
    rcases this.2.2 with h2 | h2
    · exact absurd (of_decide_eq_true h2) (by omega)
    · simpa using h2
  · have := h i (List.mem_range.1 hi)
    rw [refAt_def, Bool.and_eq_true, inB_iff, Bool.and_eq_true, inB_iff, Bool.or_eq_true]
    refine ⟨this.1, this.2.1, ?_⟩
    by_cases h0 : i = 0
    · left; simp [h0]
    · right; simpa using this.2.2 (by omega)
theorem spec_l18Ok_val (a b : List Int) (ha : a.length < 4611686018427387904) (hb : b.length < 4611686018427387904) : spec_l18Ok.F [(⟨a, b⟩ : S28)] = some (refOk a b) := by
  have e : rd_T28 [(⟨a, b⟩ : S28)] 0 = ⟨a, b⟩ := rfl
  rw [spec_l18Ok.F_eq, e, if_pos (by simp)]
  by_cases h1 : (b.length : Int) = (a.length : Int)
  · rw [if_pos h1]
    by_cases h2 : (a.length : Int) > 6
    · rw [if_pos h2, spec_l18Ok.J0_eq, if_pos rfl]
      congr 1; unfold refOk; rw [decide_eq_false (by omega)]; rfl
    · rw [if_neg h2, spec_l00Rises_val a 1 600 ha]
      simp only [Option.bind_some]
      have hfin : ∀ r : Bool, (r = rises b 0 600) → rises a 1 600 = true → spec_l18Ok.J0 [(⟨a, b⟩ : S28)] (a.length : Int) (!r) = some (refOk a b) := by
        intro r hr ha2
        rw [spec_l18Ok.J0_eq]
        cases hr2 : r with
        | false =>
          rw [if_pos (show (!false) = true from rfl)]
          congr 1
          symm
          rw [← Bool.not_eq_true, refOk_iff]
          intro hbad
          have : rises b 0 600 = true := by
            rw [rises_iff]
            intro i hi
            have h3 := hbad.2.2 i (by omega)
            exact ⟨⟨h3.2.1.1, by omega⟩, fun h0 => (h3.2.2 h0).2⟩
          rw [← hr, hr2] at this
          cases this
        | true =>
          rw [if_neg (by simp)]
          have hb2 : rises b 0 600 = true := by rw [← hr, hr2]
          rw [rises_iff] at ha2 hb2
          refine (allRange a.length (fun i => decide (rd b (i : Int) ≤ rd a (i : Int))) (fun i => spec_l18Ok.L0 [(⟨a, b⟩ : S28)] (a.length : Int) i) true (fun i hi => ?_) ?_).trans ?_
          · show spec_l18Ok.L0 _ _ i = _
            rw [spec_l18Ok.L0_eq, e, if_pos (by omega), if_pos (by omega), if_pos (by show (i : Int) < (b.length : Int); omega), if_pos (by show (i : Int) < (a.length : Int); omega), wS (by omega)]
            show (if rd b (i : Int) > rd a (i : Int) then _ else _) = _
            by_cases h3 : rd b (i : Int) > rd a (i : Int)
            · rw [if_pos h3, if_neg (by simp; omega)]
            · rw [if_neg h3, if_pos (by simp; omega)]
          · show spec_l18Ok.L0 _ _ _ = _
            rw [spec_l18Ok.L0_eq, if_neg (by omega)]
          · congr 1
            rw [Bool.and_true, Bool.eq_iff_iff, List.all_eq_true, refOk_iff]
            constructor
            · intro h
              refine ⟨by omega, by omega, fun i hi => ⟨(ha2 i hi).1, ⟨(hb2 i (by omega)).1.1, ?_⟩, fun h0 => ⟨(ha2 i hi).2 h0, (hb2 i (by omega)).2 h0⟩⟩⟩
              simpa using h i (List.mem_range.2 hi)
            · intro h i hi
              simpa using (h.2.2 i (List.mem_range.1 hi)).2.1.2
      cases hra : rises a 1 600 with
      | false =>
        rw [if_neg (by simp), spec_l18Ok.J0_eq, if_pos rfl]
        congr 1
        symm
        rw [← Bool.not_eq_true, refOk_iff]
        intro hbad
        have : rises a 1 600 = true := by
          rw [rises_iff]
          intro i hi
          have h3 := hbad.2.2 i hi
          exact ⟨h3.1, fun h0 => (h3.2.2 h0).1⟩
        rw [hra] at this
        cases this
      | true =>
        rw [if_pos rfl, spec_l00Rises_val b 0 600 hb]
        simp only [Option.bind_some]
        exact hfin _ rfl hra
  · rw [if_neg h1, spec_l18Ok.J0_eq, if_pos rfl]
    congr 1; unfold refOk; rw [decide_eq_false (p := b.length = a.length) (by omega)]; simp
theorem spec_l18Wind_val (n : Int) : spec_l18Wind.f n = some (inB n 0 600) := by
  unfold spec_l18Wind.f
  rw [spec_l00In_val]; rfl
/-- Winds as told. -/
def windsOk (l : List Int) : Bool := l.all (fun n => inB n 0 600) && decide (l.length ≤ 60)
theorem spec_l18Winds_val (l : List Int) (hl : l.length < 4611686018427387904) : spec_l18Winds.F l = some (windsOk l) := by
  rw [spec_l18Winds.F_eq]
  refine allLoop l (fun n => inB n 0 600) (fun i => spec_l18Winds.L0 l i) _ (fun i hi => ?_) ?_
  · show spec_l18Winds.L0 l i = _
    rw [spec_l18Winds.L0_eq, if_pos (by omega), if_pos (by omega), rd_get l i hi, wS (by omega), spec_l18Wind_val]
    rfl
  · show spec_l18Winds.L0 l _ = _
    rw [spec_l18Winds.L0_eq, if_neg (by omega)]
    simp; omega
/-- The code of a reefing, a number of reefs and winds. -/
def reefCode (a b : List Int) (x : Int) (ws : List Int) : Int := if refOk a b = true then (if (inB x 0 (a.length : Int) && windsOk ws) = true then 0 else 2) else 1
theorem reefCode_ok {a b : List Int} {x : Int} {ws : List Int} (h : reefCode a b x ws = 0) : refOk a b = true ∧ inB x 0 (a.length : Int) = true ∧ windsOk ws = true := by
  unfold reefCode at h
  by_cases h1 : refOk a b = true
  · rw [if_pos h1] at h
    by_cases h2 : (inB x 0 (a.length : Int) && windsOk ws) = true
    · rw [Bool.and_eq_true] at h2; exact ⟨h1, h2⟩
    · rw [if_neg h2] at h; omega
  · rw [if_neg h1] at h; omega
theorem spec_l18Code_val (a b : List Int) (x : Int) (ws : List Int) (ha : a.length < 4611686018427387904) (hb : b.length < 4611686018427387904) (hw : ws.length < 4611686018427387904) : spec_l18Code.F [(⟨a, b⟩ : S28)] x ws = some (reefCode a b x ws) := by
  have e : rd_T28 [(⟨a, b⟩ : S28)] 0 = ⟨a, b⟩ := rfl
  rw [spec_l18Code.F_eq, e, if_pos (by simp), spec_l18Ok_val a b ha hb]
  simp only [Option.bind_some]
  unfold reefCode
  by_cases h1 : refOk a b = true
  · rw [if_pos h1, if_pos h1, spec_l00In_val]
    simp only [Option.bind_some]
    rw [ite_band]
    by_cases h2 : inB x 0 (a.length : Int) = true
    · rw [if_pos h2, if_pos h2, spec_l18Winds_val ws hw]
      simp only [Option.bind_some]
      split <;> rfl
    · rw [if_neg h2, if_neg h2]
  · rw [if_neg h1, if_neg h1]
theorem impl_within_val (n a b : Int) : impl_within.f n a b = some (inB n a b) := by
  unfold impl_within.f inB
  by_cases h : n ≥ a
  · rw [if_pos h]; simp [show a ≤ n from h]
  · rw [if_neg h]; simp; omega
theorem impl_ValidReefing_val (a b : List Int) (ha : a.length < 4611686018427387904) (hb : b.length < 4611686018427387904) : impl_ValidReefing.F a b = some (refOk a b) := by
  rw [impl_ValidReefing.F_eq]
  by_cases h2 : (a.length : Int) > 6
  · rw [if_pos h2, impl_ValidReefing.J0_eq, if_pos rfl]
    congr 1; unfold refOk; rw [decide_eq_false (by omega)]; rfl
  · rw [if_neg h2, impl_ValidReefing.J0_eq]
    by_cases h1 : b.length = a.length
    · rw [if_neg (by simp [h1])]
      refine (allRange a.length (refAt a b) (fun i => impl_ValidReefing.L0 a (a.length : Int) i a b) true (fun i hi => ?_) ?_).trans ?_
      · show impl_ValidReefing.L0 _ _ i _ _ = _
        rw [impl_ValidReefing.L0_eq, if_pos (by omega), if_pos (by omega), if_pos (by omega), impl_within_val, wS (by omega)]
        simp only [Option.bind_some]
        rw [refAt_def, ite_band, ite_band]
        by_cases h3 : inB (rd a (i : Int)) 1 600 = true
        · rw [if_pos h3, if_pos h3, if_pos (by omega), impl_within_val]
          simp only [Option.bind_some]
          by_cases h4 : inB (rd b (i : Int)) 0 (rd a (i : Int)) = true
          · rw [if_pos h4, if_pos h4]
            by_cases h0 : i = 0
            · rw [if_neg (by omega), if_pos (by simp [h0])]
            · rw [if_pos (by omega), w64 (by omega) (by omega), if_pos (by omega), if_pos (by omega)]
              by_cases h5 : rd a (i : Int) ≤ rd a ((i : Int) - 1)
              · rw [if_pos h5, if_neg (by simp [h0]; omega)]
              · rw [if_neg h5, if_pos (by omega)]
                by_cases h6 : rd b (i : Int) ≤ rd b ((i : Int) - 1)
                · rw [if_pos h6, if_neg (by simp [h0]; omega)]
                · rw [if_neg h6, if_pos (by simp [h0]; omega)]
          · rw [if_neg h4, if_neg h4]
        · rw [if_neg h3, if_neg h3]
      · show impl_ValidReefing.L0 _ _ _ _ _ = _
        rw [impl_ValidReefing.L0_eq, if_neg (by omega)]
      · unfold refOk
        rw [decide_eq_true (show a.length ≤ 6 by omega), decide_eq_true h1]
        simp
    · rw [if_pos (by simp; omega)]
      congr 1; unfold refOk; rw [decide_eq_false (p := b.length = a.length) h1]; simp
theorem impl_areIn_val (l : List Int) (n a b : Int) (hl : l.length < 4611686018427387904) : impl_areIn.F l n a b = some (decide ((l.length : Int) = n) && l.all (fun x => inB x a b)) := by
  rw [impl_areIn.F_eq]
  by_cases h : (l.length : Int) = n
  · rw [if_pos h, decide_eq_true h]
    refine (allLoop l (fun x => inB x a b) (fun i => impl_areIn.L0 a b l (l.length : Int) i) true (fun i hi => ?_) ?_).trans (by simp)
    · show impl_areIn.L0 a b l _ i = _
      rw [impl_areIn.L0_eq, if_pos (by omega), if_pos (by omega), if_pos (by omega), rd_get l i hi, wS (by omega), impl_within_val]
      rfl
    · show impl_areIn.L0 a b l _ _ = _
      rw [impl_areIn.L0_eq, if_neg (by omega)]
  · rw [if_neg h, decide_eq_false h]; rfl
theorem impl_reefCode_val (a b : List Int) (x : Int) (ws : List Int) (ha : a.length < 4611686018427387904) (hb : b.length < 4611686018427387904) (hw : ws.length < 4611686018427387904) : impl_reefCode.F a b x ws = some (reefCode a b x ws) := by
  rw [impl_reefCode.F_eq, impl_ValidReefing_val a b ha hb]
  simp only [Option.bind_some]
  unfold reefCode
  by_cases h1 : refOk a b = true
  · rw [if_pos h1, if_pos h1, impl_within_val]
    simp only [Option.bind_some]
    rw [ite_band]
    by_cases h2 : inB x 0 (a.length : Int) = true
    · rw [if_pos h2, if_pos h2]
      by_cases h3 : (ws.length : Int) > 60
      · rw [if_pos h3, if_neg (by unfold windsOk; simp; omega)]
      · rw [if_neg h3, impl_areIn_val ws _ 0 600 hw, decide_eq_true rfl]
        simp only [Option.bind_some]
        have e : windsOk ws = (true && ws.all fun x => inB x 0 600) := by unfold windsOk; rw [decide_eq_true (by omega)]; simp
        rw [e]
        split <;> rfl
    · rw [if_neg h2, if_neg h2]
  · rw [if_neg h1, if_neg h1]
theorem need_loop (a b : List Int) (hs : a.length ≤ 1048576) (w : Int) (d : Nat) : ∀ (i s : Int), 0 ≤ i → i + d = a.length → 0 ≤ s → s ≤ i → ∃ r, spec_l18Needs.L0 [(⟨a, b⟩ : S28)] w s i = some r ∧ impl_neededReefs.L0 w s a (a.length : Int) i = some r ∧ 0 ≤ r ∧ r ≤ a.length := by
  have e : rd_T28 [(⟨a, b⟩ : S28)] 0 = ⟨a, b⟩ := rfl
  induction d with
  | zero =>
    intro i s h0 hd hs0 hs1
    have hi : ¬ i < (a.length : Int) := by omega
    rw [spec_l18Needs.L0_eq, impl_neededReefs.L0_eq, e, if_neg hi, if_neg hi]
    exact ⟨s, rfl, rfl, hs0, by omega⟩
  | succ d ih =>
    intro i s h0 hd hs0 hs1
    have hi : i < (a.length : Int) := by omega
    rw [spec_l18Needs.L0_eq, impl_neededReefs.L0_eq, e, if_pos hi, if_pos hi, if_pos h0, if_pos h0, if_pos hi, w64 (n := i + 1) (by omega) (by omega)]
    by_cases h : rd a i ≤ w
    · rw [if_pos h, if_pos h, w64 (n := s + 1) (by omega) (by omega)]
      exact ih (i + 1) (s + 1) (by omega) (by omega) (by omega) (by omega)
    · rw [if_neg h, if_neg h]
      exact ih (i + 1) s (by omega) (by omega) (by omega) (by omega)
theorem need_same (a b : List Int) (hs : a.length ≤ 1048576) (w : Int) : ∃ r, spec_l18Needs.F [(⟨a, b⟩ : S28)] w = some r ∧ impl_neededReefs.F a b w = some r ∧ 0 ≤ r ∧ r ≤ a.length := by
  rw [spec_l18Needs.F_eq, impl_neededReefs.F_eq, if_pos (by simp)]
  exact need_loop a b hs w a.length 0 0 (by omega) (by omega) (by omega) (by omega)
theorem next_down (a b : List Int) (hl : b.length = a.length) (hs : a.length ≤ 1048576) (w : Int) (d : Nat) : ∀ x : Int, 0 ≤ x → x ≤ a.length → x = d → ∃ r, spec_l18Next.L1 [(⟨a, b⟩ : S28)] x w = some r ∧ impl_nextReef.L1 x w a b = some r ∧ 0 ≤ r ∧ r ≤ a.length := by
  have e : rd_T28 [(⟨a, b⟩ : S28)] 0 = ⟨a, b⟩ := rfl
  induction d with
  | zero =>
    intro x h0 h1 hd
    have hx : ¬ x > 0 := by omega
    rw [spec_l18Next.L1_eq, impl_nextReef.L1_eq, if_neg hx, if_neg hx]
    exact ⟨x, rfl, rfl, h0, h1⟩
  | succ d ih =>
    intro x h0 h1 hd
    have hx : x > 0 := by omega
    have hx1 : 0 ≤ x - 1 := by omega
    have hx2 : x - 1 < (b.length : Int) := by omega
    rw [spec_l18Next.L1_eq, impl_nextReef.L1_eq, e, if_pos hx, if_pos hx, w64 (n := x - 1) (by omega) (by omega), if_pos hx1, if_pos hx1, if_pos hx2, if_pos hx2]
    by_cases h : w < rd b (x - 1)
    · rw [if_pos h, if_pos h]
      exact ih (x - 1) (by omega) (by omega) (by omega)
    · rw [if_neg h, if_neg h]
      exact ⟨x, rfl, rfl, h0, h1⟩
theorem next_up (a b : List Int) (hl : b.length = a.length) (hs : a.length ≤ 1048576) (w : Int) (d : Nat) : ∀ x : Int, 0 ≤ x → x + d = a.length → ∃ r, spec_l18Next.L0 [(⟨a, b⟩ : S28)] x w = some r ∧ impl_nextReef.L0 x w a b = some r ∧ 0 ≤ r ∧ r ≤ a.length := by
  have e : rd_T28 [(⟨a, b⟩ : S28)] 0 = ⟨a, b⟩ := rfl
  induction d with
  | zero =>
    intro x h0 h1
    have hx : ¬ x < (a.length : Int) := by omega
    rw [spec_l18Next.L0_eq, impl_nextReef.L0_eq, e, if_neg hx, if_neg hx, spec_l18Next.J1_eq, impl_nextReef.J1_eq]
    exact next_down a b hl hs w x.toNat x h0 (by omega) (by omega)
  | succ d ih =>
    intro x h0 h1
    have hx : x < (a.length : Int) := by omega
    rw [spec_l18Next.L0_eq, impl_nextReef.L0_eq, e, if_pos hx, if_pos hx, if_pos h0, if_pos h0]
    by_cases h : w ≥ rd a x
    · rw [if_pos h, if_pos h, w64 (n := x + 1) (by omega) (by omega)]
      exact ih (x + 1) (by omega) (by omega)
    · rw [if_neg h, if_neg h, spec_l18Next.J1_eq, impl_nextReef.J1_eq]
      exact next_down a b hl hs w x.toNat x h0 (by omega) (by omega)
theorem next_same (a b : List Int) (hl : b.length = a.length) (hs : a.length ≤ 1048576) (x w : Int) (h0 : 0 ≤ x) (h1 : x ≤ a.length) : ∃ r, spec_l18Next.F [(⟨a, b⟩ : S28)] x w = some r ∧ impl_nextReef.F a b x w = some r ∧ 0 ≤ r ∧ r ≤ a.length := by
  rw [spec_l18Next.F_eq, impl_nextReef.F_eq, if_pos (by simp)]
  exact next_up a b hl hs w ((a.length : Int) - x).toNat x h0 (by omega)
theorem run_loop (a b : List Int) (hl : b.length = a.length) (hs : a.length ≤ 1048576) (ws : List Int) (hw : ws.length ≤ 1048576) (d : Nat) : ∀ (i : Int) (x : Int) (out : List Int), 0 ≤ i → i + d = ws.length → (out.length : Int) = i → 0 ≤ x → x ≤ a.length → (∀ y ∈ out, 0 ≤ y ∧ y ≤ (a.length : Int)) →
    ∃ l, spec_l18Run.L0 [(⟨a, b⟩ : S28)] x ws out i = some l ∧ impl_runReefs.L0 x out ws (ws.length : Int) i a b = some l ∧ l.length = ws.length ∧ ∀ y ∈ l, 0 ≤ y ∧ y ≤ (a.length : Int) := by
  induction d with
  | zero =>
    intro i x out h0 hd hol hx0 hx1 hout
    have hi : ¬ i < (ws.length : Int) := by omega
    rw [spec_l18Run.L0_eq, impl_runReefs.L0_eq, if_neg hi, if_neg hi]
    exact ⟨out, rfl, rfl, by omega, hout⟩
  | succ d ih =>
    intro i x out h0 hd hol hx0 hx1 hout
    have hi : i < (ws.length : Int) := by omega
    obtain ⟨r, e1, e2, hr0, hr1⟩ := next_same a b hl hs x (rd ws i) hx0 hx1
    have ho : out.length < 17592186044416 := by omega
    rw [spec_l18Run.L0_eq, impl_runReefs.L0_eq, if_pos hi, if_pos hi, if_pos h0, if_pos h0, if_pos hi, e1, e2]
    simp only [Option.bind_some]
    rw [if_pos ho, if_pos ho, w64 (n := i + 1) (by omega) (by omega)]
    refine ih (i + 1) r (out ++ [r]) (by omega) (by omega) (by rw [List.length_append]; simp; omega) hr0 hr1 (fun y hy => ?_)
    rcases List.mem_append.1 hy with h | h
    · exact hout y h
    · rw [List.mem_singleton.1 h]; exact ⟨hr0, hr1⟩
theorem run_same (a b : List Int) (hl : b.length = a.length) (hs : a.length ≤ 1048576) (ws : List Int) (hw : ws.length ≤ 1048576) (x : Int) (h0 : 0 ≤ x) (h1 : x ≤ a.length) :
    ∃ l, spec_l18Run.F [(⟨a, b⟩ : S28)] x ws = some l ∧ impl_runReefs.F a b x ws = some l ∧ l.length = ws.length ∧ ∀ y ∈ l, 0 ≤ y ∧ y ≤ (a.length : Int) := by
  rw [spec_l18Run.F_eq, impl_runReefs.F_eq, if_pos (by simp)]
  exact run_loop a b hl hs ws hw ws.length 0 x [] (by omega) (by omega) rfl h0 h1 (by simp)
theorem many_loop (a b ws l : List Int) (hs : a.length ≤ 1048576) (hw : ws.length ≤ 1048576) (hl : l.length = ws.length) (d : Nat) : ∀ i s : Int, 0 ≤ i → i + d = l.length → 0 ≤ s → s ≤ i → ∃ r, spec_TooManyReefs.L0 ws l s i a b = some (r, 0) ∧ impl_TooManyReefs.L0 ws s l (l.length : Int) i a b = some (r, 0) := by
  induction d with
  | zero =>
    intro i s h0 hd hs0 hs1
    have hi : ¬ i < (l.length : Int) := by omega
    rw [spec_TooManyReefs.L0_eq, impl_TooManyReefs.L0_eq, if_neg hi, if_neg hi]
    exact ⟨s, rfl, rfl⟩
  | succ d ih =>
    intro i s h0 hd hs0 hs1
    have hi : i < (l.length : Int) := by omega
    have hi2 : i < (ws.length : Int) := by omega
    obtain ⟨q, e1, e2, _, _⟩ := need_same a b hs (rd ws i)
    rw [spec_TooManyReefs.L0_eq, impl_TooManyReefs.L0_eq, if_pos hi, if_pos hi, if_pos h0, if_pos h0, if_pos hi2, if_pos hi, if_pos hi2, e1, e2]
    simp only [Option.bind_some]
    rw [w64 (n := i + 1) (by omega) (by omega)]
    by_cases h : rd l i > q
    · rw [if_pos h, if_pos h, w64 (n := s + 1) (by omega) (by omega)]
      exact ih (i + 1) (s + 1) (by omega) (by omega) (by omega) (by omega)
    · rw [if_neg h, if_neg h]
      exact ih (i + 1) s (by omega) (by omega) (by omega) (by omega)
theorem ref_len {a b : List Int} (h : refOk a b = true) : a.length ≤ 6 ∧ b.length = a.length := by
  rw [refOk_iff] at h
  exact ⟨h.1, h.2.1⟩
theorem laws_szInt64S_val (l : List Int) (n : Int) (h : l.length ≤ 9223372036854775807) (hn : 0 ≤ n) (hn2 : n ≤ 1048576) : ∃ r, laws_szInt64S.f l n = some r ∧ (r < 0 ∨ 0 ≤ r ∧ r ≤ n ∧ (l.length : Int) ≤ n) := by
  unfold laws_szInt64S.f
  rw [w64 (by omega) (by omega)]
  by_cases hc : n < l.length
  · exact ⟨-1, by rw [if_pos (by omega)], Or.inl (by omega)⟩
  · exact ⟨n - l.length, by rw [if_neg (by omega)], Or.inr (by omega)⟩
theorem laws_szReefing_val (a b : List Int) (n : Int) (ha : a.length ≤ 9223372036854775807) (hb : b.length ≤ 9223372036854775807) (hn : 0 ≤ n) (hn2 : n ≤ 1048576) : ∃ r, laws_szReefing.f a b n = some r ∧ (r < 0 ∨ 0 ≤ r ∧ r ≤ n ∧ (a.length : Int) ≤ n ∧ (b.length : Int) ≤ n) := by
  unfold laws_szReefing.f
  obtain ⟨r, hr, h1⟩ := laws_szInt64S_val a n ha hn hn2
  rw [hr]; simp only [Option.bind_some]
  rcases h1 with h1 | ⟨h1, h2, h3⟩
  · exact ⟨-1, by rw [if_pos h1], Or.inl (by omega)⟩
  · rw [if_neg (by omega)]
    obtain ⟨q, hq, h4⟩ := laws_szInt64S_val b r hb h1 (by omega)
    rw [hq]; simp only [Option.bind_some]
    rcases h4 with h4 | h4
    · exact ⟨-1, by rw [if_pos h4], Or.inl (by omega)⟩
    · exact ⟨q, by rw [if_neg (by omega)], Or.inr (by omega)⟩
theorem laws_toInt64S_val (l : List Int) (hl : l.length ≤ 1048576) : laws_toInt64S.F l = some l := by
  rw [laws_toInt64S.F_eq, if_pos (by omega), if_pos (by omega), Int.toNat_natCast]
  have := fillLoop l 0 (fun s i => laws_toInt64S.L0 l s i) (fun i s hi hs => by
    show laws_toInt64S.L0 l s i = _
    rw [laws_toInt64S.L0_eq, if_pos (by omega), if_pos (by omega), wS (by omega), if_pos (by omega), Int.toNat_natCast, rd_get l i hi])
  refine this.trans ?_
  show laws_toInt64S.L0 l _ _ = _
  rw [laws_toInt64S.L0_eq, if_neg (by omega)]
theorem laws_toReefing_val (a b : List Int) (ha : a.length ≤ 1048576) (hb : b.length ≤ 1048576) : laws_toReefing.F a b = some (a, b) := by
  rw [laws_toReefing.F_eq, laws_toInt64S_val a ha, laws_toInt64S_val b hb]; rfl
theorem laws_eqInt64S_val (l : List Int) (hl : l.length < 4611686018427387904) : laws_eqInt64S.F l l = some true := by
  rw [laws_eqInt64S.F_eq, if_pos rfl]
  have := allLoop l (fun _ => true) (fun i => laws_eqInt64S.L0 l l i) true (fun i hi => by
    show laws_eqInt64S.L0 l l i = _
    rw [laws_eqInt64S.L0_eq, if_pos (by omega), if_pos (by omega), if_pos (by omega), wS (by omega)]
    simp) (by
    show laws_eqInt64S.L0 l l _ = _
    rw [laws_eqInt64S.L0_eq, if_neg (by omega)])
  rw [this]; simp
theorem laws_eqReefing_val (a b : List Int) (ha : a.length ≤ 1048576) (hb : b.length ≤ 1048576) : laws_eqReefing.F a b a b = some true := by
  rw [laws_eqReefing.F_eq, laws_eqInt64S_val a (by omega)]
  simp only [Option.bind_some]
  rw [laws_eqInt64S_val b (by omega)]
  rfl
/-- What the laws do with a reefing that came in. -/
theorem reef_args (a b : List Int) (ha : a.length ≤ 9223372036854775807) (hb : b.length ≤ 9223372036854775807) : ∃ r, laws_szReefing.f a b 1048576 = some r ∧ (r < 0 ∨ ¬ r < 0 ∧ a.length ≤ 1048576 ∧ b.length ≤ 1048576 ∧ laws_toReefing.F a b = some (a, b) ∧ laws_eqReefing.F a b a b = some true) := by
  obtain ⟨r, hr, h⟩ := laws_szReefing_val a b 1048576 ha hb (by omega) (by omega)
  refine ⟨r, hr, ?_⟩
  rcases h with h | ⟨h1, h2, h3, h4⟩
  · exact Or.inl h
  · exact Or.inr ⟨by omega, by omega, by omega, laws_toReefing_val a b (by omega) (by omega), laws_eqReefing_val a b (by omega) (by omega)⟩
theorem pure_FnExactTooManyReefs : laws_FnExactTooManyReefs.Pure := by
  intro a b x ws hga hgb hx hgw
  refine of_lim (g := fun k => laws_FnExactTooManyReefs.f k a b x ws) ?_
  show laws_FnExactTooManyReefs.F a b x ws = some true
  by_cases hl : (ws.length : Int) > 1048576
  · rw [laws_FnExactTooManyReefs.F_eq, if_pos hl]
  obtain ⟨r, hr, h⟩ := reef_args a b hga.1 hgb.1
  rcases h with h | ⟨h1, h2, h3, h4, h5⟩
  · rw [laws_FnExactTooManyReefs.F_eq, if_neg hl, hr]; simp only [Option.bind_some]; rw [if_pos h]
  · obtain ⟨y, c, e1, e2⟩ : ∃ y c, spec_TooManyReefs.F a b x ws = some (y, c) ∧ impl_TooManyReefs.F a b x ws = some (y, c) := by
      rw [spec_TooManyReefs.F_eq, impl_TooManyReefs.F_eq, spec_l18Code_val a b x ws (by omega) (by omega) (by omega), impl_reefCode_val a b x ws (by omega) (by omega) (by omega)]
      simp only [Option.bind_some]
      by_cases hc : reefCode a b x ws = 0
      · obtain ⟨h6, h7, h8⟩ := reefCode_ok hc
        rw [inB_iff] at h7
        have h9 := ref_len h6
        obtain ⟨l, e3, e4, hll, _⟩ := run_same a b h9.2 (by omega) ws (by omega) x h7.1 h7.2
        obtain ⟨q, e5, e6⟩ := many_loop a b ws l (by omega) (by omega) hll l.length 0 0 (by omega) (by omega) (by omega) (by omega)
        rw [if_pos hc, if_pos hc, e3, e4]
        exact ⟨q, 0, e5, e6⟩
      · rw [if_neg hc, if_neg hc]
        exact ⟨0, _, rfl, rfl⟩
    have hl' : ¬ (1048576 < (ws.length : Int)) := hl
    have ew := laws_toInt64S_val ws (by omega)
    have ee := laws_eqInt64S_val ws (by omega)
    simp [laws_FnExactTooManyReefs.F_eq, laws_FnExactTooManyReefs.J0_eq, hl', hr, h1, h4, h5, e1, e2, ew, ee]
end Go.Proofs.Ytbhijlhlopljmaa.PFnExactTooManyReefs
namespace Go.Proofs.Ytbhijlhlopljmaa.Pure
theorem FnExactTooManyReefs : PFnExactTooManyReefs.laws_FnExactTooManyReefs.Pure := PFnExactTooManyReefs.pure_FnExactTooManyReefs
end Go.Proofs.Ytbhijlhlopljmaa.Pure
