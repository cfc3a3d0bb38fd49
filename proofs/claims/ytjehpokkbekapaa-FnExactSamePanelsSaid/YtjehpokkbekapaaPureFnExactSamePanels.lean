/-
  The pure side of FnExactSamePanels: the program's SamePanels tells what the reference's tells. No conditions.
-/
import Derived.Test.YtjehpokkbekapaaQFnExactSamePanels
set_option linter.unusedVariables false
set_option linter.unusedSimpArgs false
set_option linter.unnecessarySimpa false
namespace Go.Proofs.Ytjehpokkbekapaa.PFnExactSamePanels
open Go.RowKit Go.Proofs.Ytjehpokkbekapaa.Kit Go.Proofs.YtjehpokkbekapaaW.PrintWords Go.Proofs.YtjehpokkbekapaaW.PrintLast Go.Proofs.YtjehpokkbekapaaW.PrintMore

theorem rdIPanel (l : List S48) (i : Nat) (h : i < l.length) : rd_T48 l (i : Int) = l[i] := by simp [rd_T48, h]
theorem laws_szPanelS_val (l : List S50) (n : Int) (h : l.length ≤ 9223372036854775807) (hn : 0 ≤ n) (hn2 : n ≤ 1048576) : ∃ r, laws_szPanelS.f l n = some r ∧ (r < 0 ∨ 0 ≤ r ∧ r ≤ n ∧ (l.length : Int) ≤ n) := by
  unfold laws_szPanelS.f
  rw [w64 (by omega) (by omega)]
  by_cases hc : n < l.length
  · exact ⟨-1, by rw [if_pos (by omega)], Or.inl (by omega)⟩
  · exact ⟨n - l.length, by rw [if_neg (by omega)], Or.inr (by omega)⟩
theorem rdLPanel (l : List S50) (i : Nat) (h : i < l.length) : rd_T50 l (i : Int) = l[i] := by simp [rd_T50, h]
def panelTo (p : S50) : S48 := ⟨p.f0, p.f1⟩
theorem laws_toPanelS_val (l : List S50) (hl : l.length ≤ 1048576) : laws_toPanelS.F l = some (l.map panelTo) := by
  rw [laws_toPanelS.F_eq, if_pos (by omega), if_pos (by omega), Int.toNat_natCast]
  have := fillLoop (l.map panelTo) z48 (fun s i => laws_toPanelS.L0 l s i) (fun i s hi hs => by
    rw [List.length_map] at hi hs
    show laws_toPanelS.L0 l s i = _
    rw [laws_toPanelS.L0_eq, if_pos (by omega), if_pos (by omega), rdLPanel l i hi, wS (by omega)]
    unfold laws_toPanel.f
    simp only [Option.bind_some]
    rw [if_pos (by omega), Int.toNat_natCast, List.getElem_map]
    rfl)
  rw [List.length_map] at this
  refine this.trans ?_
  show laws_toPanelS.L0 l _ _ = _
  rw [laws_toPanelS.L0_eq, if_neg (by omega)]
theorem laws_eqPanelS_val (l : List S48) (hl : l.length < 4611686018427387904) : laws_eqPanelS.F l l = some true := by
  rw [laws_eqPanelS.F_eq, if_pos rfl]
  have := allLoop l (fun _ => true) (fun i => laws_eqPanelS.L0 l l i) true (fun i hi => by
    show laws_eqPanelS.L0 l l i = _
    rw [laws_eqPanelS.L0_eq, if_pos (by omega), if_pos (by omega), if_pos (by omega), wS (by omega)]
    unfold laws_eqPanel.f
    simp) (by
    show laws_eqPanelS.L0 l l _ = _
    rw [laws_eqPanelS.L0_eq, if_neg (by omega)])
  rw [this]; simp
theorem same_step (l m : List S48) (hl : l.length < 4611686018427387904) (hm : l.length = m.length) : spec_SamePanels.F l m = impl_SamePanels.F l m ∧ ∃ b, impl_SamePanels.F l m = some b := by
  have e1 := allRange l.length (fun i => !(!((rd_T48 l (i : Int)).f0 == (rd_T48 m (i : Int)).f0) || (!((rd_T48 l (i : Int)).f1 == (rd_T48 m (i : Int)).f1)))) (fun i => spec_SamePanels.L0 l m i) true (fun i hi => by
    show spec_SamePanels.L0 l m i = _
    rw [spec_SamePanels.L0_eq, if_pos (by omega), if_pos (by omega), if_pos (by omega), wS (by omega)]
    rw [show (∀ (b : Bool) (x y : Option Bool), (if b = true then x else y) = (if (!b) = true then y else x)) from fun b x y => by cases b <;> rfl]) (by
    show spec_SamePanels.L0 l m _ = _
    rw [spec_SamePanels.L0_eq, if_neg (by omega)])
  have e2 := allRange l.length (fun i => !(!((rd_T48 l (i : Int)).f0 == (rd_T48 m (i : Int)).f0) || (!((rd_T48 l (i : Int)).f1 == (rd_T48 m (i : Int)).f1)))) (fun i => impl_Panel.L0 l m (l.length : Int) i) true (fun i hi => by
    show impl_Panel.L0 l m _ i = _
    rw [impl_Panel.L0_eq, if_pos (by omega), if_pos (by omega), if_pos (by omega), if_pos (by omega), wS (by omega)]
    rw [show (∀ (b : Bool) (x y : Option Bool), (if b = true then x else y) = (if (!b) = true then y else x)) from fun b x y => by cases b <;> rfl]) (by
    show impl_Panel.L0 l m _ _ = _
    rw [impl_Panel.L0_eq, if_neg (by omega)])
  rw [impl_SamePanels.F_eq, spec_SamePanels.F_eq, impl_Panel.F_eq, if_pos (by omega), if_pos (by omega)]
  have e1' : spec_SamePanels.L0 l m 0 = _ := e1
  have e2' : impl_Panel.L0 l m (l.length : Int) 0 = _ := e2
  rw [e1', e2']
  exact ⟨rfl, _, rfl⟩
theorem same_all (l m : List S48) (hl : l.length < 4611686018427387904) : ∃ b, spec_SamePanels.F l m = some b ∧ impl_SamePanels.F l m = some b := by
  by_cases h : l.length = m.length
  · obtain ⟨h1, b, hb⟩ := same_step l m hl h
    exact ⟨b, h1.trans hb, hb⟩
  · exact ⟨false, by rw [spec_SamePanels.F_eq, if_neg (by omega)], by rw [impl_SamePanels.F_eq, impl_Panel.F_eq, if_neg (by omega)]; rfl⟩
theorem pure_FnExactSamePanels : laws_FnExactSamePanels.Pure := by
  intro l m hl hm
  refine of_lim (g := fun k => laws_FnExactSamePanels.f k l m) ?_
  show laws_FnExactSamePanels.F l m = some true
  obtain ⟨r, hr, h⟩ := laws_szPanelS_val l 1048576 hl.1 (by omega) (by omega)
  rw [laws_FnExactSamePanels.F_eq, hr]
  simp only [Option.bind_some]
  rcases h with h | ⟨h1, h2, h3⟩
  · rw [if_pos h]
  · obtain ⟨q, hq, h4⟩ := laws_szPanelS_val m r hm.1 (by omega) (by omega)
    rw [if_neg (by omega), hq]
    simp only [Option.bind_some]
    rcases h4 with h4 | ⟨h4, h5, h6⟩
    · rw [if_pos h4]
    · rw [if_neg (by omega), laws_toPanelS_val l (by omega)]
      simp only [Option.bind_some]
      rw [laws_toPanelS_val m (by omega)]
      simp only [Option.bind_some]
      obtain ⟨b, hb1, hb2⟩ := same_all (l.map panelTo) (m.map panelTo) (by rw [List.length_map]; omega)
      rw [hb1]
      simp only [Option.bind_some]
      rw [hb2]
      simp only [Option.bind_some]
      rw [laws_eqPanelS_val _ (by rw [List.length_map]; omega), laws_eqPanelS_val _ (by rw [List.length_map]; omega)]
      simp
end Go.Proofs.Ytjehpokkbekapaa.PFnExactSamePanels
namespace Go.Proofs.Ytjehpokkbekapaa.Pure
theorem FnExactSamePanels : PFnExactSamePanels.laws_FnExactSamePanels.Pure := PFnExactSamePanels.pure_FnExactSamePanels
end Go.Proofs.Ytjehpokkbekapaa.Pure
