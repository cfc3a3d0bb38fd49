/-
  The pure side of FnExactClothWidths: the program's ClothWidths returns what the reference's returns. No conditions.
-/
import Derived.Test.YtjehpokkbekapaaQFnExactClothWidths
set_option linter.unusedVariables false
set_option linter.unusedSimpArgs false
set_option linter.unnecessarySimpa false
namespace Go.Proofs.Ytjehpokkbekapaa.PFnExactClothWidths
open Go.RowKit Go.Proofs.Ytjehpokkbekapaa.Kit Go.Proofs.YtjehpokkbekapaaW.PrintWords Go.Proofs.YtjehpokkbekapaaW.PrintLast Go.Proofs.YtjehpokkbekapaaW.PrintMore

def inB (n a b : Int) : Bool := decide (a ≤ n) && decide (n ≤ b)
theorem inB_iff (n a b : Int) : inB n a b = true ↔ a ≤ n ∧ n ≤ b := by simp [inB]
theorem inB_no (n a b : Int) : inB n a b = false ↔ ¬ (a ≤ n ∧ n ≤ b) := by rw [← inB_iff]; simp
theorem spec_l00In_val (n a b : Int) : spec_l00In.f n a b = some (inB n a b) := by
  unfold spec_l00In.f inB
  by_cases h : n ≥ a
  · rw [if_pos h]; simp [show a ≤ n from h]
  · rw [if_neg h]; simp; omega
theorem impl_within_val (n a b : Int) : impl_within.f n a b = some (inB n a b) := by
  unfold impl_within.f inB
  by_cases h : n ≥ a
  · rw [if_pos h]; simp [show a ≤ n from h]
  · rw [if_neg h]; simp; omega
theorem widths_loop (f w s : Int) (hf : f ≤ 10000) (hw1 : 1 ≤ w) (hw2 : w ≤ 1000) (hs0 : 0 ≤ s) (hs1 : s ≤ w - 1) (d : Nat) : ∀ n : Int, 1 ≤ n → n + d = 10001 → ∃ r, spec_ClothWidths.L0 f w s n = some (r, 0) ∧ impl_ClothWidths.L0 f w s n = some (r, 0) := by
  induction d with
  | zero =>
    intro n h1 h2
    have e1 : n * w ≤ 10001 * 1000 := Int.mul_le_mul (by omega) hw2 (by omega) (by omega)
    have e2 : 0 ≤ n * w := Int.mul_nonneg (by omega) (by omega)
    have e3 : (n - 1) * s ≤ 10001 * 1000 := Int.mul_le_mul (by omega) (by omega) (by omega) (by omega)
    have e4 : 0 ≤ (n - 1) * s := Int.mul_nonneg (by omega) (by omega)
    have e5 : n * 1 ≤ n * (w - s) := Int.mul_le_mul_of_nonneg_left (by omega) (by omega)
    rw [Int.mul_sub] at e5
    have e6 : (n - 1) * s = n * s - s := by rw [Int.sub_mul, Int.one_mul]
    refine ⟨n, ?_, ?_⟩
    · rw [spec_ClothWidths.L0_eq, w64 (n := n * w) (by omega) (by omega), w64 (n := n - 1) (by omega) (by omega), w64 (n := (n - 1) * s) (by omega) (by omega), w64 (by omega) (by omega), if_neg (by omega)]
    · rw [impl_ClothWidths.L0_eq, w64 (n := n * w) (by omega) (by omega), w64 (n := n - 1) (by omega) (by omega), w64 (n := (n - 1) * s) (by omega) (by omega), w64 (by omega) (by omega), if_neg (by omega)]
  | succ d ih =>
    intro n h1 h2
    have e1 : n * w ≤ 10001 * 1000 := Int.mul_le_mul (by omega) hw2 (by omega) (by omega)
    have e2 : 0 ≤ n * w := Int.mul_nonneg (by omega) (by omega)
    have e3 : (n - 1) * s ≤ 10001 * 1000 := Int.mul_le_mul (by omega) (by omega) (by omega) (by omega)
    have e4 : 0 ≤ (n - 1) * s := Int.mul_nonneg (by omega) (by omega)
    rw [spec_ClothWidths.L0_eq, impl_ClothWidths.L0_eq, w64 (n := n * w) (by omega) (by omega), w64 (n := n - 1) (by omega) (by omega), w64 (n := (n - 1) * s) (by omega) (by omega), w64 (n := n * w - (n - 1) * s) (by omega) (by omega)]
    by_cases h : n * w - (n - 1) * s < f
    · rw [if_pos h, if_pos h, w64 (by omega) (by omega)]
      exact ih (n + 1) (by omega) (by omega)
    · rw [if_neg h, if_neg h]
      exact ⟨n, rfl, rfl⟩
theorem pure_FnExactClothWidths : laws_FnExactClothWidths.Pure := by
  intro f w s hf hw hs
  refine of_lim (g := fun k => laws_FnExactClothWidths.f k f w s) ?_
  show laws_FnExactClothWidths.F f w s = some true
  have hw' := wf_range hw
  obtain ⟨x, y, e1, e2⟩ : ∃ x y, spec_ClothWidths.F f w s = some (x, y) ∧ impl_ClothWidths.F f w s = some (x, y) := by
    rw [spec_ClothWidths.F_eq, impl_ClothWidths.F_eq, spec_l00In_val, spec_l00In_val, spec_l00In_val, impl_within_val, impl_within_val, impl_within_val]
    simp only [Option.bind_some]
    have no : ∀ (b : Bool), b = true → ∃ x y, spec_ClothWidths.J0 f w s b = some (x, y) ∧ impl_ClothWidths.J0 f w s b = some (x, y) := by
      intro b hb
      subst hb
      exact ⟨0, 2, by rw [spec_ClothWidths.J0_eq, if_pos rfl], by rw [impl_ClothWidths.J0_eq, if_pos rfl]⟩
    by_cases h1 : inB f 1 10000 = true
    · rw [if_pos h1, if_pos h1]
      by_cases h2 : inB w 1 1000 = true
      · rw [if_pos h2, if_pos h2]
        rw [inB_iff] at h1 h2
        rw [w64 (n := w - 1) (by omega) (by omega)]
        cases h3 : inB s 0 (w - 1) with
        | false => exact no _ rfl
        | true =>
          rw [inB_iff] at h3
          obtain ⟨r, e1, e2⟩ := widths_loop f w s h1.2 h2.1 h2.2 h3.1 h3.2 10000 1 (by omega) (by omega)
          exact ⟨r, 0, by rw [spec_ClothWidths.J0_eq, if_neg (by simp), e1], by rw [impl_ClothWidths.J0_eq, if_neg (by simp), e2]⟩
      · rw [if_neg h2, if_neg h2]; exact no _ rfl
    · rw [if_neg h1, if_neg h1]; exact no _ rfl
  rw [laws_FnExactClothWidths.F_eq, e1]
  simp only [Option.bind_some]
  rw [e2]
  simp
end Go.Proofs.Ytjehpokkbekapaa.PFnExactClothWidths
namespace Go.Proofs.Ytjehpokkbekapaa.Pure
theorem FnExactClothWidths : PFnExactClothWidths.laws_FnExactClothWidths.Pure := PFnExactClothWidths.pure_FnExactClothWidths
end Go.Proofs.Ytjehpokkbekapaa.Pure
