/-
  The pure side of FnExactClothLength: the program's ClothLength returns what the reference's returns. No conditions.
-/
import Derived.Test.YtjehpokkbekapaaQFnExactClothLength
set_option linter.unusedVariables false
set_option linter.unusedSimpArgs false
set_option linter.unnecessarySimpa false
namespace Go.Proofs.Ytjehpokkbekapaa.PFnExactClothLength
open Go.RowKit Go.Proofs.Ytjehpokkbekapaa.Kit Go.Proofs.YtjehpokkbekapaaW.PrintWords Go.Proofs.YtjehpokkbekapaaW.PrintLast Go.Proofs.YtjehpokkbekapaaW.PrintMore

def inB (n a b : Int) : Bool := decide (a ≤ n) && decide (n ≤ b)
theorem inB_iff (n a b : Int) : inB n a b = true ↔ a ≤ n ∧ n ≤ b := by simp [inB]
theorem inB_no (n a b : Int) : inB n a b = false ↔ ¬ (a ≤ n ∧ n ≤ b) := by rw [← inB_iff]; simp
theorem spec_l00In_val (n a b : Int) : spec_l00In.f n a b = some (inB n a b) := by
  unfold spec_l00In.f inB
  by_cases h : n ≥ a
  · rw [if_pos h]; simp [show a ≤ n from h]
  · rw [if_neg h]; simp; omega
def panelOk (p : S48) : Bool := inB p.f0 1 10000 && inB p.f1 1 200
theorem panelOk_def (p : S48) : panelOk p = (inB p.f0 1 10000 && inB p.f1 1 200) := rfl
def panelsOk (l : List S48) : Bool := l.all panelOk && decide (l.length ≤ 40)
theorem rdIPanel (l : List S48) (i : Nat) (h : i < l.length) : rd_T48 l (i : Int) = l[i] := by simp [rd_T48, h]
theorem spec_l15List_val (l : List S48) (hl : l.length < 4611686018427387904) : spec_l15List.F l = some (panelsOk l) := by
  rw [spec_l15List.F_eq]
  refine allLoop l panelOk (fun i => spec_l15List.L0 l i) _ (fun i hi => ?_) ?_
  · show spec_l15List.L0 l i = _
    rw [spec_l15List.L0_eq, if_pos (by omega), if_pos (by omega), rdIPanel l i hi, wS (by omega), spec_l00In_val, spec_l00In_val]
    simp only [Option.bind_some]
    rw [panelOk_def, ite_band]
  · show spec_l15List.L0 l _ = _
    rw [spec_l15List.L0_eq, if_neg (by omega)]
    simp; omega
theorem impl_within_val (n a b : Int) : impl_within.f n a b = some (inB n a b) := by
  unfold impl_within.f inB
  by_cases h : n ≥ a
  · rw [if_pos h]; simp [show a ≤ n from h]
  · rw [if_neg h]; simp; omega
theorem impl_ValidPanels_val (l : List S48) (hl : l.length < 4611686018427387904) : impl_ValidPanels.F l = some (panelsOk l) := by
  rw [impl_ValidPanels.F_eq]
  unfold panelsOk
  by_cases h : (l.length : Int) > 40
  · rw [if_pos h]; simp; omega
  · rw [if_neg h]
    have := allLoop l panelOk (fun i => impl_ValidPanels.L0 l (l.length : Int) i) true (fun i hi => by
      show impl_ValidPanels.L0 l _ i = _
      rw [impl_ValidPanels.L0_eq, if_pos (by omega), if_pos (by omega), if_pos (by omega), rdIPanel l i hi, wS (by omega), impl_within_val, impl_within_val]
      simp only [Option.bind_some]
      rw [panelOk_def, ite_band]) (by
      show impl_ValidPanels.L0 l _ _ = _
      rw [impl_ValidPanels.L0_eq, if_neg (by omega)])
    rw [this]
    simp; omega
/-- The sum of lengths, as a machine has it. -/
def lenSum (l : List S48) (i : Nat) : Int := match i with
  | 0 => 0
  | i + 1 => wrap64 (lenSum l i + (rd_T48 l (i : Int)).f0)
theorem impl_clothLength_val (l : List S48) (hl : l.length < 4611686018427387904) : impl_clothLength.F l = some (lenSum l l.length) := by
  rw [impl_clothLength.F_eq]
  have := iterF (fun (s : Int) i => impl_clothLength.L0 s l (l.length : Int) i) l.length (lenSum l) (fun i hi => by
    show impl_clothLength.L0 _ _ _ _ = impl_clothLength.L0 _ _ _ _
    rw [impl_clothLength.L0_eq, if_pos (by omega), if_pos (by omega), if_pos (by omega), wS (by omega)]
    rfl)
  refine this.trans ?_
  show impl_clothLength.L0 _ _ _ _ = _
  rw [impl_clothLength.L0_eq, if_neg (by omega)]
theorem spec_ClothLength_sum (l : List S48) (hl : l.length < 4611686018427387904) : spec_ClothLength.L0 l 0 0 = some (lenSum l l.length, 0) := by
  have := iterF (fun (s : Int) i => spec_ClothLength.L0 l s i) l.length (lenSum l) (fun i hi => by
    show spec_ClothLength.L0 _ _ _ = spec_ClothLength.L0 _ _ _
    rw [spec_ClothLength.L0_eq, if_pos (by omega), if_pos (by omega), wS (by omega)]
    rfl)
  refine this.trans ?_
  show spec_ClothLength.L0 _ _ _ = _
  rw [spec_ClothLength.L0_eq, if_neg (by omega)]
theorem laws_szPanelS_val (l : List S50) (n : Int) (h : l.length ≤ 9223372036854775807) (hn : 0 ≤ n) (hn2 : n ≤ 1048576) : ∃ r, laws_szPanelS.f l n = some r ∧ (r < 0 ∨ 0 ≤ r ∧ r ≤ n ∧ (l.length : Int) ≤ n) := by
  unfold laws_szPanelS.f
  rw [w64 (by omega) (by omega)]
  by_cases hc : n < l.length
  · exact ⟨-1, by rw [if_pos (by omega)], Or.inl (by omega)⟩
  · exact ⟨n - l.length, by rw [if_neg (by omega)], Or.inr (by omega)⟩
theorem rdLPanel (l : List S50) (i : Nat) (h : i < l.length) : rd_T50 l (i : Int) = l[i] := by simp [rd_T50, h]
def panelTo (p : S50) : S48 := ⟨p.f0, p.f1⟩
theorem laws_toPanelS_val (l : List S50) (hl : l.length ≤ 1048576) : laws_toPanelS.F l = some (l.map panelTo) := by
  rw [laws_toPanelS.F_eq, if_pos (by omega), if_pos (by omega), Int.toNat_natCast]
  have := fillLoop (l.map panelTo) z48 (fun s i => laws_toPanelS.L0 l s i) (fun i s hi hs => by
    rw [List.length_map] at hi hs
    show laws_toPanelS.L0 l s i = _
    rw [laws_toPanelS.L0_eq, if_pos (by omega), if_pos (by omega), rdLPanel l i hi, wS (by omega)]
    unfold laws_toPanel.f
    simp only [Option.bind_some]
    rw [if_pos (by omega), Int.toNat_natCast, List.getElem_map]
    rfl)
  rw [List.length_map] at this
  refine this.trans ?_
  show laws_toPanelS.L0 l _ _ = _
  rw [laws_toPanelS.L0_eq, if_neg (by omega)]
theorem laws_eqPanelS_val (l : List S48) (hl : l.length < 4611686018427387904) : laws_eqPanelS.F l l = some true := by
  rw [laws_eqPanelS.F_eq, if_pos rfl]
  have := allLoop l (fun _ => true) (fun i => laws_eqPanelS.L0 l l i) true (fun i hi => by
    show laws_eqPanelS.L0 l l i = _
    rw [laws_eqPanelS.L0_eq, if_pos (by omega), if_pos (by omega), if_pos (by omega), wS (by omega)]
    unfold laws_eqPanel.f
    simp) (by
    show laws_eqPanelS.L0 l l _ = _
    rw [laws_eqPanelS.L0_eq, if_neg (by omega)])
  rw [this]; simp
theorem pure_FnExactClothLength : laws_FnExactClothLength.Pure := by
  intro l hg
  refine of_lim (g := fun k => laws_FnExactClothLength.f k l) ?_
  show laws_FnExactClothLength.F l = some true
  obtain ⟨r, hr, h⟩ := laws_szPanelS_val l 1048576 hg.1 (by omega) (by omega)
  rw [laws_FnExactClothLength.F_eq, hr]
  simp only [Option.bind_some]
  rcases h with h | ⟨h1, h2, h3⟩
  · rw [if_pos h]
  · have hm : (l.map panelTo).length < 4611686018427387904 := by rw [List.length_map]; omega
    rw [if_neg (by omega), laws_toPanelS_val l (by omega)]
    simp only [Option.bind_some]
    obtain ⟨x, y, e1, e2⟩ : ∃ x y, spec_ClothLength.F (l.map panelTo) = some (x, y) ∧ impl_ClothLength.F (l.map panelTo) = some (x, y) := by
      rw [spec_ClothLength.F_eq, impl_ClothLength.F_eq, spec_l15List_val _ hm, impl_ValidPanels_val _ hm]
      simp only [Option.bind_some]
      cases panelsOk (l.map panelTo) with
      | false => exact ⟨0, 1, rfl, rfl⟩
      | true =>
        rw [if_pos rfl, if_pos rfl, impl_clothLength_val _ hm, spec_ClothLength_sum _ hm]
        exact ⟨_, _, rfl, rfl⟩
    rw [e1]
    simp only [Option.bind_some]
    rw [e2]
    simp only [Option.bind_some]
    rw [if_pos trivial, laws_FnExactClothLength.J0_eq, if_neg (by simp), laws_toPanelS_val l (by omega)]
    simp only [Option.bind_some]
    rw [laws_eqPanelS_val _ hm]
    rfl
end Go.Proofs.Ytjehpokkbekapaa.PFnExactClothLength
namespace Go.Proofs.Ytjehpokkbekapaa.Pure
theorem FnExactClothLength : PFnExactClothLength.laws_FnExactClothLength.Pure := PFnExactClothLength.pure_FnExactClothLength
end Go.Proofs.Ytjehpokkbekapaa.Pure
