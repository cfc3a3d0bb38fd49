/-
  The pure side of FnExactBroadSeams: the program's BroadSeams returns what the reference's returns, in memory of its own. No conditions.
-/
import Derived.Test.YtjehpokkbekapaaQFnExactBroadSeams
set_option linter.unusedVariables false
set_option linter.unusedSimpArgs false
set_option linter.unnecessarySimpa false
namespace Go.Proofs.Ytjehpokkbekapaa.PFnExactBroadSeams
open Go.RowKit Go.Proofs.Ytjehpokkbekapaa.Kit Go.Proofs.YtjehpokkbekapaaW.PrintWords Go.Proofs.YtjehpokkbekapaaW.PrintLast Go.Proofs.YtjehpokkbekapaaW.PrintMore

def inB (n a b : Int) : Bool := decide (a ≤ n) && decide (n ≤ b)
theorem inB_iff (n a b : Int) : inB n a b = true ↔ a ≤ n ∧ n ≤ b := by simp [inB]
theorem inB_no (n a b : Int) : inB n a b = false ↔ ¬ (a ≤ n ∧ n ≤ b) := by rw [← inB_iff]; simp
theorem spec_l00In_val (n a b : Int) : spec_l00In.f n a b = some (inB n a b) := by
  unfold spec_l00In.f inB
  by_cases h : n ≥ a
  · rw [if_pos h]; simp [show a ≤ n from h]
  · rw [if_neg h]; simp; omega
theorem impl_within_val (n a b : Int) : impl_within.f n a b = some (inB n a b) := by
  unfold impl_within.f inB
  by_cases h : n ≥ a
  · rw [if_pos h]; simp [show a ≤ n from h]
  · rw [if_neg h]; simp; omega
theorem broad_loop (n x l q r : Int) (hn : n ≤ 40) (d : Nat) : ∀ (i : Int) (out : List Int), 0 ≤ i → i + d = n → (out.length : Int) = i → ∃ (o : List Int) (c : Int), spec_BroadSeams.L0 n l q r out i = some (o, c) ∧ impl_BroadSeams.L0 n l q r (wrap64 (Int.tdiv (wrap64 (n - r)) 2)) out i = some (o, c) ∧ o.length ≤ 40 := by
  induction d with
  | zero =>
    intro i out h0 hd hl
    refine ⟨out, 0, ?_, ?_, by omega⟩
    · rw [spec_BroadSeams.L0_eq, if_neg (by omega)]
    · rw [impl_BroadSeams.L0_eq, if_neg (by omega)]
  | succ d ih =>
    intro i out h0 hd hl
    have hlt : i < n := by omega
    rw [spec_BroadSeams.L0_eq, impl_BroadSeams.L0_eq, if_pos hlt, if_pos hlt]
    have key : ∀ b : Bool, ∃ (o : List Int) (c : Int), spec_BroadSeams.J2 n l q r out i q b = some (o, c) ∧ impl_BroadSeams.J2 n l q r (wrap64 (Int.tdiv (wrap64 (n - r)) 2)) out i q b = some (o, c) ∧ o.length ≤ 40 := by
      intro b
      rw [spec_BroadSeams.J2_eq, impl_BroadSeams.J2_eq]
      have put : ∀ y : Int, ∃ (o : List Int) (c : Int), (if y > 30 then some (([] : List Int), (5 : Int)) else if y > l then some (([] : List Int), 5) else if out.length < 17592186044416 then spec_BroadSeams.L0 n l q r (out ++ [y]) (wrap64 (i + 1)) else none) = some (o, c) ∧ (if y > 30 then some (([] : List Int), (5 : Int)) else if y > l then some (([] : List Int), 5) else if out.length < 17592186044416 then impl_BroadSeams.L0 n l q r (wrap64 (Int.tdiv (wrap64 (n - r)) 2)) (out ++ [y]) (wrap64 (i + 1)) else none) = some (o, c) ∧ o.length ≤ 40 := by
        intro y
        by_cases h1 : y > 30
        · rw [if_pos h1, if_pos h1]; exact ⟨[], 5, rfl, rfl, by simp⟩
        · rw [if_neg h1, if_neg h1]
          by_cases h2 : y > l
          · rw [if_pos h2, if_pos h2]; exact ⟨[], 5, rfl, rfl, by simp⟩
          · have hol : out.length < 17592186044416 := by omega
            rw [if_neg h2, if_neg h2, if_pos hol, if_pos hol, w64 (by omega) (by omega)]
            exact ih (i + 1) (out ++ [y]) (by omega) (by omega) (by rw [List.length_append]; simp; omega)
      cases b with
      | true => rw [if_pos rfl, if_pos rfl]; exact put _
      | false => rw [if_neg nf, if_neg nf]; exact put _
    by_cases h : i ≥ wrap64 (Int.tdiv (wrap64 (n - r)) 2)
    · rw [if_pos h, if_pos h]; exact key _
    · rw [if_neg h, if_neg h]; exact key _
theorem BroadSeams_same (n x l : Int) : ∃ (o : List Int) (c : Int), spec_BroadSeams.F n x l = some (o, c) ∧ impl_BroadSeams.F n x l = some (o, c) ∧ o.length ≤ 40 := by
  rw [spec_BroadSeams.F_eq, impl_BroadSeams.F_eq, spec_l00In_val, spec_l00In_val, spec_l00In_val, impl_within_val, impl_within_val, impl_within_val]
  simp only [Option.bind_some]
  have no : ∀ (b : Bool), b = true → ∃ (o : List Int) (c : Int), spec_BroadSeams.J0 n x l b = some (o, c) ∧ impl_BroadSeams.J0 n x l b = some (o, c) ∧ o.length ≤ 40 := by
    intro b hb
    subst hb
    exact ⟨[], 2, by rw [spec_BroadSeams.J0_eq, if_pos rfl], by rw [impl_BroadSeams.J0_eq, if_pos rfl], by simp⟩
  by_cases h1 : inB n 1 40 = true
  · rw [if_pos h1, if_pos h1]
    by_cases h2 : inB x 0 1000 = true
    · rw [if_pos h2, if_pos h2]
      cases h3 : inB l 1 10000 with
      | false => exact no _ rfl
      | true =>
        rw [inB_iff] at h1
        have hn0 : ¬ n = 0 := by omega
        rw [spec_BroadSeams.J0_eq, impl_BroadSeams.J0_eq, Bool.not_true, if_neg nf, if_neg nf, if_neg hn0, if_neg hn0]
        exact broad_loop n x l _ _ h1.2 n.toNat 0 [] (by omega) (by omega) rfl
    · rw [if_neg h2, if_neg h2]; exact no _ rfl
  · rw [if_neg h1, if_neg h1]; exact no _ rfl
theorem laws_eqInt64S_val (l : List Int) (hl : l.length < 4611686018427387904) : laws_eqInt64S.F l l = some true := by
  rw [laws_eqInt64S.F_eq, if_pos rfl]
  have := allLoop l (fun _ => true) (fun i => laws_eqInt64S.L0 l l i) true (fun i hi => by
    show laws_eqInt64S.L0 l l i = _
    rw [laws_eqInt64S.L0_eq, if_pos (by omega), if_pos (by omega), if_pos (by omega), wS (by omega)]
    simp) (by
    show laws_eqInt64S.L0 l l _ = _
    rw [laws_eqInt64S.L0_eq, if_neg (by omega)])
  rw [this]; simp
/-- The numbers from k on. -/
def upFrom (k : Int) (n : Nat) : List Int := (List.range n).map fun (j : Nat) => k + (j : Int)
theorem laws_markInt64S_val (l : List Int) (k : Int) (h0 : 0 ≤ k) (h1 : k + l.length ≤ 4611686018427387904) : laws_markInt64S.F l k = some (k + l.length, upFrom k l.length) := by
  rw [laws_markInt64S.F_eq]
  have hlen : ∀ i, i ≤ l.length → (upFrom k i ++ l.drop i).length = l.length := fun i hi => by simp [upFrom]; omega
  have := iterF (fun (s : List Int × Int) i => laws_markInt64S.L0 s.1 s.2 i) l.length (fun i => (upFrom k i ++ l.drop i, k + (i : Int))) (fun i hi => by
    show laws_markInt64S.L0 _ _ _ = laws_markInt64S.L0 _ _ _
    have hl1 := hlen i (by omega)
    rw [laws_markInt64S.L0_eq, if_pos (by rw [hl1]; omega), if_pos (by omega), wS (by omega), w64 (by omega) (by omega), Int.toNat_natCast]
    have e1 : (upFrom k i ++ l.drop i).set i (k + (i : Int)) = upFrom k (i + 1) ++ l.drop (i + 1) := by
      have hlu : (upFrom k i).length = i := by simp [upFrom]
      rw [List.set_append, hlu, if_neg (Nat.lt_irrefl i), Nat.sub_self, List.drop_eq_getElem_cons hi, List.set_cons_zero]
      unfold upFrom
      rw [List.range_succ, List.map_append, List.append_assoc]
      rfl
    rw [e1]
    congr 1
    omega)
  have e0 : upFrom k 0 ++ l.drop 0 = l := by simp [upFrom]
  simp only [e0] at this
  rw [show k + ((0 : Nat) : Int) = k by omega] at this
  refine this.trans ?_
  rw [laws_markInt64S.L0_eq, if_neg (by rw [hlen l.length (Nat.le_refl _)]; omega)]
  simp
theorem laws_heldInt64S_val (n : Nat) (k : Int) (h0 : 0 ≤ k) (h1 : k + n ≤ 4611686018427387904) : laws_heldInt64S.F (upFrom k n) k = some (k + n) := by
  rw [laws_heldInt64S.F_eq]
  have hlen : (upFrom k n).length = n := by simp [upFrom]
  have := iterF (fun (s : Int) i => laws_heldInt64S.L0 (upFrom k n) s i) n (fun i => k + (i : Int)) (fun i hi => by
    show laws_heldInt64S.L0 _ _ _ = laws_heldInt64S.L0 _ _ _
    have hr : rd (upFrom k n) (i : Int) = k + (i : Int) := by
      rw [rd_get _ i (by omega)]
      simp [upFrom]
    rw [laws_heldInt64S.L0_eq, if_pos (by rw [hlen]; omega), if_pos (by omega), hr, if_pos rfl, wS (by omega), w64 (by omega) (by omega)]
    congr 1
    omega)
  rw [show k + ((0 : Nat) : Int) = k by omega] at this
  refine this.trans ?_
  show laws_heldInt64S.L0 _ _ _ = _
  rw [laws_heldInt64S.L0_eq, if_neg (by rw [hlen]; omega)]
theorem pure_FnExactBroadSeams : laws_FnExactBroadSeams.Pure := by
  intro n x l hn hx hl
  refine of_lim (g := fun k => laws_FnExactBroadSeams.f k n x l) ?_
  show laws_FnExactBroadSeams.F n x l = some true
  obtain ⟨o, c, e1, e2, ho⟩ := BroadSeams_same n x l
  rw [laws_FnExactBroadSeams.F_eq, e1]
  simp only [Option.bind_some]
  rw [e2]
  simp only [Option.bind_some]
  rw [laws_eqInt64S_val o (by omega)]
  simp only [Option.bind_some]
  rw [if_pos trivial, laws_FnExactBroadSeams.J0_eq, if_neg (by simp), laws_markInt64S_val o 1 (by omega) (by omega)]
  simp only [Option.bind_some]
  rw [laws_heldInt64S_val _ 1 (by omega) (by omega)]
  simp only [Option.bind_some]
  rw [if_neg (by omega), if_pos trivial, e2]
  simp only [Option.bind_some]
  rw [laws_eqInt64S_val o (by omega)]
  simp only [Option.bind_some]
  rw [if_pos trivial, laws_FnExactBroadSeams.J1_eq, if_neg (by simp), laws_heldInt64S_val _ 1 (by omega) (by omega)]
  simp only [Option.bind_some]
  rw [if_neg (by omega), if_pos trivial]
end Go.Proofs.Ytjehpokkbekapaa.PFnExactBroadSeams
namespace Go.Proofs.Ytjehpokkbekapaa.Pure
theorem FnExactBroadSeams : PFnExactBroadSeams.laws_FnExactBroadSeams.Pure := PFnExactBroadSeams.pure_FnExactBroadSeams
end Go.Proofs.Ytjehpokkbekapaa.Pure
