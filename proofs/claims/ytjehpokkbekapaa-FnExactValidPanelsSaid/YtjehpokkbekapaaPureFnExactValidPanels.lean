import Derived.Test.YtjehpokkbekapaaQFnExactValidPanels
set_option linter.unusedVariables false
set_option linter.unusedSimpArgs false
namespace Go.Proofs.Ytjehpokkbekapaa.PFnExactValidPanels
open Go.RowKit Go.Proofs.Ytjehpokkbekapaa.Kit Go.Proofs.YtjehpokkbekapaaW.PrintWords Go.Proofs.YtjehpokkbekapaaW.PrintLast Go.Proofs.YtjehpokkbekapaaW.PrintMore

def inB (n a b : Int) : Bool := decide (a ≤ n) && decide (n ≤ b)
theorem spec_l00In_val (n a b : Int) : spec_l00In.f n a b = some (inB n a b) := by
  unfold spec_l00In.f inB
  by_cases h : n ≥ a
  · rw [if_pos h]; simp [show a ≤ n from h]
  · rw [if_neg h]; simp; omega
theorem impl_within_val (n a b : Int) : impl_within.f n a b = some (inB n a b) := by
  unfold impl_within.f inB
  by_cases h : n ≥ a
  · rw [if_pos h]; simp [show a ≤ n from h]
  · rw [if_neg h]; simp; omega
theorem rdT48 (l : List S48) (i : Nat) (h : i < l.length) : rd_T48 l (i : Int) = l[i] := by simp [rd_T48, h]
theorem rdT50 (l : List S50) (i : Nat) (h : i < l.length) : rd_T50 l (i : Int) = l[i] := by simp [rd_T50, h]
def panelOk (p : S48) : Bool := inB p.f0 1 10000 && inB p.f1 1 200
theorem panelOk_def (p : S48) : panelOk p = (inB p.f0 1 10000 && inB p.f1 1 200) := rfl
theorem spec_l15List_val (l : List S48) (hl : l.length < 4611686018427387904) : spec_l15List.F l = some (l.all panelOk && decide (l.length ≤ 40)) := by
  rw [spec_l15List.F_eq]
  refine allLoop l panelOk (fun i => spec_l15List.L0 l i) _ (fun i hi => ?_) ?_
  · show spec_l15List.L0 l i = _
    rw [spec_l15List.L0_eq, if_pos (by omega), if_pos (by omega), rdT48 l i hi, wS (by omega), spec_l00In_val, spec_l00In_val]
    simp only [Option.bind_some]
    rw [panelOk_def, ite_band]
  · show spec_l15List.L0 l _ = _
    rw [spec_l15List.L0_eq, if_neg (by omega)]
    simp; omega
theorem impl_ValidPanels_val (l : List S48) (hl : l.length < 4611686018427387904) : impl_ValidPanels.F l = some (l.all panelOk && decide (l.length ≤ 40)) := by
  rw [impl_ValidPanels.F_eq]
  by_cases h : (l.length : Int) > 40
  · rw [if_pos h]; simp; omega
  · rw [if_neg h]
    have := allLoop l panelOk (fun i => impl_ValidPanels.L0 l (l.length : Int) i) true (fun i hi => by
      show impl_ValidPanels.L0 l _ i = _
      rw [impl_ValidPanels.L0_eq, if_pos (by omega), if_pos (by omega), if_pos (by omega), rdT48 l i hi, wS (by omega), impl_within_val, impl_within_val]
      simp only [Option.bind_some]
      rw [panelOk_def, ite_band]) (by
      show impl_ValidPanels.L0 l _ _ = _
      rw [impl_ValidPanels.L0_eq, if_neg (by omega)])
    rw [this]
    simp; omega
def panelTo (p : S50) : S48 := ⟨p.f0, p.f1⟩
theorem laws_toPanelS_val (l : List S50) (hl : l.length ≤ 1048576) : laws_toPanelS.F l = some (l.map panelTo) := by
  rw [laws_toPanelS.F_eq, if_pos (by omega), if_pos (by omega), Int.toNat_natCast]
  have := fillLoop (l.map panelTo) z48 (fun s i => laws_toPanelS.L0 l s i) (fun i s hi hs => by
    rw [List.length_map] at hi hs
    show laws_toPanelS.L0 l s i = _
    rw [laws_toPanelS.L0_eq, if_pos (by omega), if_pos (by omega), rdT50 l i hi, wS (by omega)]
    unfold laws_toPanel.f
    simp only [Option.bind_some]
    rw [if_pos (by omega), Int.toNat_natCast, List.getElem_map]
    rfl)
  rw [List.length_map] at this
  refine this.trans ?_
  show laws_toPanelS.L0 l _ _ = _
  rw [laws_toPanelS.L0_eq, if_neg (by omega)]
theorem laws_eqPanelS_val (l : List S48) (hl : l.length < 4611686018427387904) : laws_eqPanelS.F l l = some true := by
  rw [laws_eqPanelS.F_eq, if_pos rfl]
  have := allLoop l (fun _ => true) (fun i => laws_eqPanelS.L0 l l i) true (fun i hi => by
    show laws_eqPanelS.L0 l l i = _
    rw [laws_eqPanelS.L0_eq, if_pos (by omega), if_pos (by omega), if_pos (by omega), wS (by omega)]
    unfold laws_eqPanel.f
    simp) (by
    show laws_eqPanelS.L0 l l _ = _
    rw [laws_eqPanelS.L0_eq, if_neg (by omega)])
  rw [this]; simp
theorem laws_szPanelS_val (l : List S50) (n : Int) (h : l.length ≤ 9223372036854775807) (hn : 0 ≤ n) (hn2 : n ≤ 1048576) : laws_szPanelS.f l n = some (if n < l.length then -1 else n - l.length) := by
  unfold laws_szPanelS.f
  rw [w64 (by omega) (by omega)]
  by_cases hc : n < l.length
  · rw [if_pos (by omega), if_pos hc]
  · rw [if_neg (by omega), if_neg hc]
end Go.Proofs.Ytjehpokkbekapaa.PFnExactValidPanels
namespace Go.Proofs.Ytjehpokkbekapaa.Pure
open Go.RowKit Go.Proofs.Ytjehpokkbekapaa.PFnExactValidPanels Go.Proofs.Ytjehpokkbekapaa.Kit Go.Proofs.YtjehpokkbekapaaW.PrintWords Go.Proofs.YtjehpokkbekapaaW.PrintLast
theorem FnExactValidPanels : laws_FnExactValidPanels.Pure := by
  intro l hg
  refine of_lim (g := fun k => laws_FnExactValidPanels.f k l) ?_
  show laws_FnExactValidPanels.F l = some true
  rw [laws_FnExactValidPanels.F_eq, laws_szPanelS_val l _ hg.1 (by omega) (by omega)]
  simp only [Option.bind_some]
  by_cases hc : (1048576 : Int) < l.length
  · rw [if_pos hc]; simp
  · rw [if_neg hc, if_neg (by omega), laws_toPanelS_val l (by omega)]
    simp only [Option.bind_some]
    rw [spec_ValidPanels.F_eq]
    rw [spec_l15List_val _ (by rw [List.length_map]; omega), impl_ValidPanels_val _ (by rw [List.length_map]; omega)]
    simp only [Option.bind_some]
    rw [laws_eqPanelS_val _ (by rw [List.length_map]; omega)]
    simp
end Go.Proofs.Ytjehpokkbekapaa.Pure
