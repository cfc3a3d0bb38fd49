/-
  The pure side of FnExactTurnPanels: the program's TurnPanels returns what the reference's returns, in memory of its own. No conditions.
-/
import Derived.Test.YtobejjbnklcgpaaQFnExactTurnPanels
set_option linter.unusedVariables false
set_option linter.unusedSimpArgs false
set_option linter.unnecessarySimpa false
namespace Go.Proofs.Ytobejjbnklcgpaa.PFnExactTurnPanels
open Go.RowKit Go.Proofs.Ytobejjbnklcgpaa.Kit Go.Proofs.YtobejjbnklcgpaaW.PrintWords Go.Proofs.YtobejjbnklcgpaaW.PrintLast Go.Proofs.YtobejjbnklcgpaaW.PrintMore

theorem rdIPanel (l : List S97) (i : Nat) (h : i < l.length) : rd_T97 l (i : Int) = l[i] := by simp [rd_T97, h]
theorem spec_turn (l : List S97) (hl : l.length ≤ 1048576) (d : Nat) : ∀ (i : Int) (out : List S97), i + 1 = d → i < l.length → out = (l.drop (i + 1).toNat).reverse → spec_TurnPanels.L0 l out i = some (l.reverse, 0) := by
  induction d with
  | zero =>
    intro i out hd hi hout
    rw [spec_TurnPanels.L0_eq, if_neg (by omega), hout, show (i + 1).toNat = 0 by omega]
    rfl
  | succ d ih =>
    intro i out hd hi hout
    obtain ⟨j, rfl⟩ : ∃ j : Nat, i = j := ⟨i.toNat, by omega⟩
    have hj : j < l.length := by omega
    have ho : out.length < 8796093022208 := by rw [hout, List.length_reverse, List.length_drop]; omega
    rw [spec_TurnPanels.L0_eq, if_pos (by omega), if_pos (by omega), if_pos (by omega), if_pos ho, rdIPanel l j hj, w64 (by omega) (by omega)]
    refine ih ((j : Int) - 1) _ (by omega) (by omega) ?_
    rw [hout, show ((j : Int) + 1).toNat = j + 1 by omega, show ((j : Int) - 1 + 1).toNat = j by omega, List.drop_eq_getElem_cons hj, List.reverse_cons]
/-- A row of which the first and the last i have changed places. -/
def turned (l : List S97) (i : Nat) : List S97 := (List.range l.length).map fun (k : Nat) => if k < i ∨ l.length - 1 - k < i then rd_T97 l ((l.length - 1 - k : Nat) : Int) else rd_T97 l (k : Int)
theorem turned_len (l : List S97) (i : Nat) : (turned l i).length = l.length := by simp [turned]
theorem turned_get (l : List S97) (i k : Nat) (hk : k < l.length) : rd_T97 (turned l i) (k : Int) = if k < i ∨ l.length - 1 - k < i then rd_T97 l ((l.length - 1 - k : Nat) : Int) else rd_T97 l (k : Int) := by
  rw [rdIPanel _ k (by rw [turned_len]; exact hk)]
  simp [turned]
theorem panel_eta (p : S97) : (⟨p.f0, p.f1⟩ : S97) = p := rfl
theorem impl_turn (l : List S97) (hl : l.length ≤ 1048576) (d : Nat) : ∀ i : Nat, l.length - 2 * i ≤ 2 * d → 2 * i ≤ l.length + 1 → impl_Panel.L0 (turned l i) (i : Int) ((l.length : Int) - 1 - i) = some l.reverse := by
  have fin : ∀ i : Nat, l.length ≤ 2 * i + 1 → 2 * i ≤ l.length + 1 → turned l i = l.reverse := by
    intro i h1 h2
    apply List.ext_getElem
    · rw [turned_len, List.length_reverse]
    · intro k hk1 hk2
      rw [turned_len] at hk1
      have e := turned_get l i k hk1
      rw [rdIPanel _ k (by rw [turned_len]; exact hk1)] at e
      rw [e, List.getElem_reverse]
      by_cases h : k < i ∨ l.length - 1 - k < i
      · rw [if_pos h, rdIPanel l _ (by omega)]
      · rw [if_neg h, rdIPanel l k hk1]
        congr 1
        omega
  induction d with
  | zero =>
    intro i hd hi
    rw [impl_Panel.L0_eq, if_neg (by omega), fin i (by omega) hi]
  | succ d ih =>
    intro i hd hi
    by_cases hlt : 2 * i + 1 < l.length
    · have hl1 := turned_len l i
      rw [impl_Panel.L0_eq, if_pos (by omega), if_pos (by omega), if_pos (by rw [hl1]; omega), if_pos (by omega), if_pos (by rw [hl1]; omega), wS (by omega), w64 (by omega) (by omega), panel_eta, panel_eta]
      have e1 : rd_T97 (turned l i) ((l.length : Int) - 1 - i) = rd_T97 l ((l.length - 1 - i : Nat) : Int) := by
        rw [show (l.length : Int) - 1 - i = ((l.length - 1 - i : Nat) : Int) by omega, turned_get l i _ (by omega), if_neg (by omega)]
      have e2 : rd_T97 (turned l i) (i : Int) = rd_T97 l (i : Int) := by rw [turned_get l i i (by omega), if_neg (by omega)]
      rw [e1, e2]
      have e3 : ((turned l i).set ((i : Int)).toNat (rd_T97 l ((l.length - 1 - i : Nat) : Int))).set ((l.length : Int) - 1 - i).toNat (rd_T97 l (i : Int)) = turned l (i + 1) := by
        apply List.ext_getElem
        · rw [List.length_set, List.length_set, turned_len, turned_len]
        · intro k hk1 hk2
          rw [turned_len] at hk2
          rw [List.getElem_set, List.getElem_set]
          have ek := turned_get l (i + 1) k hk2
          rw [rdIPanel _ k (by rw [turned_len]; exact hk2)] at ek
          have ek0 := turned_get l i k hk2
          rw [rdIPanel _ k (by rw [turned_len]; exact hk2)] at ek0
          rw [ek, ek0]
          by_cases h1 : ((l.length : Int) - 1 - i).toNat = k
          · rw [if_pos h1, if_pos (by omega), show l.length - 1 - k = i by omega]
          · rw [if_neg h1]
            by_cases h2 : ((i : Int)).toNat = k
            · have h3 : i = k := by omega
              subst h3
              rw [if_pos h2, if_pos (by omega)]
            · rw [if_neg h2]
              by_cases h3 : k < i ∨ l.length - 1 - k < i
              · rw [if_pos h3, if_pos (by omega)]
              · rw [if_neg h3, if_neg (by omega)]
      rw [e3, show (l.length : Int) - 1 - i - 1 = (l.length : Int) - 1 - ((i + 1 : Nat) : Int) by omega]
      exact ih (i + 1) (by omega) (by omega)
    · rw [impl_Panel.L0_eq, if_neg (by omega), fin i (by omega) hi]
theorem impl_reverse_val (l : List S97) (hl : l.length ≤ 1048576) : impl_Panel.F l = some l.reverse := by
  rw [impl_Panel.F_eq, w64 (by omega) (by omega)]
  have e : turned l 0 = l := by
    apply List.ext_getElem
    · rw [turned_len]
    · intro k h1 h2
      have e := turned_get l 0 k h2
      rw [rdIPanel _ k (by rw [turned_len]; exact h2)] at e
      rw [e]
      by_cases h : k < 0 ∨ l.length - 1 - k < 0
      · omega
      · rw [if_neg h, rdIPanel l k h2]
  have := impl_turn l hl l.length 0 (by omega) (by omega)
  rw [e] at this
  simpa using this
def inB (n a b : Int) : Bool := decide (a ≤ n) && decide (n ≤ b)
theorem inB_iff (n a b : Int) : inB n a b = true ↔ a ≤ n ∧ n ≤ b := by simp [inB]
theorem inB_no (n a b : Int) : inB n a b = false ↔ ¬ (a ≤ n ∧ n ≤ b) := by rw [← inB_iff]; simp
theorem spec_l00In_val (n a b : Int) : spec_l00In.f n a b = some (inB n a b) := by
  unfold spec_l00In.f inB
  by_cases h : n ≥ a
  · rw [if_pos h]; simp [show a ≤ n from h]
  · rw [if_neg h]; simp; omega
def panelOk (p : S97) : Bool := inB p.f0 1 10000 && inB p.f1 1 200
theorem panelOk_def (p : S97) : panelOk p = (inB p.f0 1 10000 && inB p.f1 1 200) := rfl
def panelsOk (l : List S97) : Bool := l.all panelOk && decide (l.length ≤ 40)
theorem spec_l15List_val (l : List S97) (hl : l.length < 4611686018427387904) : spec_l15List.F l = some (panelsOk l) := by
  rw [spec_l15List.F_eq]
  refine allLoop l panelOk (fun i => spec_l15List.L0 l i) _ (fun i hi => ?_) ?_
  · show spec_l15List.L0 l i = _
    rw [spec_l15List.L0_eq, if_pos (by omega), if_pos (by omega), rdIPanel l i hi, wS (by omega), spec_l00In_val, spec_l00In_val]
    simp only [Option.bind_some]
    rw [panelOk_def, ite_band]
  · show spec_l15List.L0 l _ = _
    rw [spec_l15List.L0_eq, if_neg (by omega)]
    simp; omega
theorem impl_within_val (n a b : Int) : impl_within.f n a b = some (inB n a b) := by
  unfold impl_within.f inB
  by_cases h : n ≥ a
  · rw [if_pos h]; simp [show a ≤ n from h]
  · rw [if_neg h]; simp; omega
theorem impl_ValidPanels_val (l : List S97) (hl : l.length < 4611686018427387904) : impl_ValidPanels.F l = some (panelsOk l) := by
  rw [impl_ValidPanels.F_eq]
  unfold panelsOk
  by_cases h : (l.length : Int) > 40
  · rw [if_pos h]; simp; omega
  · rw [if_neg h]
    have := allLoop l panelOk (fun i => impl_ValidPanels.L0 l (l.length : Int) i) true (fun i hi => by
      show impl_ValidPanels.L0 l _ i = _
      rw [impl_ValidPanels.L0_eq, if_pos (by omega), if_pos (by omega), if_pos (by omega), rdIPanel l i hi, wS (by omega), impl_within_val, impl_within_val]
      simp only [Option.bind_some]
      rw [panelOk_def, ite_band]) (by
      show impl_ValidPanels.L0 l _ _ = _
      rw [impl_ValidPanels.L0_eq, if_neg (by omega)])
    rw [this]
    simp; omega
theorem laws_szPanelS_val (l : List S99) (n : Int) (h : l.length ≤ 9223372036854775807) (hn : 0 ≤ n) (hn2 : n ≤ 1048576) : ∃ r, laws_szPanelS.f l n = some r ∧ (r < 0 ∨ 0 ≤ r ∧ r ≤ n ∧ (l.length : Int) ≤ n) := by
  unfold laws_szPanelS.f
  rw [w64 (by omega) (by omega)]
  by_cases hc : n < l.length
  · exact ⟨-1, by rw [if_pos (by omega)], Or.inl (by omega)⟩
  · exact ⟨n - l.length, by rw [if_neg (by omega)], Or.inr (by omega)⟩
theorem rdLPanel (l : List S99) (i : Nat) (h : i < l.length) : rd_T99 l (i : Int) = l[i] := by simp [rd_T99, h]
def panelTo (p : S99) : S97 := ⟨p.f0, p.f1⟩
theorem laws_toPanelS_val (l : List S99) (hl : l.length ≤ 1048576) : laws_toPanelS.F l = some (l.map panelTo) := by
  rw [laws_toPanelS.F_eq, if_pos (by omega), if_pos (by omega), Int.toNat_natCast]
  have := fillLoop (l.map panelTo) z97 (fun s i => laws_toPanelS.L0 l s i) (fun i s hi hs => by
    rw [List.length_map] at hi hs
    show laws_toPanelS.L0 l s i = _
    rw [laws_toPanelS.L0_eq, if_pos (by omega), if_pos (by omega), rdLPanel l i hi, wS (by omega)]
    unfold laws_toPanel.f
    simp only [Option.bind_some]
    rw [if_pos (by omega), Int.toNat_natCast, List.getElem_map]
    rfl)
  rw [List.length_map] at this
  refine this.trans ?_
  show laws_toPanelS.L0 l _ _ = _
  rw [laws_toPanelS.L0_eq, if_neg (by omega)]
theorem laws_eqPanelS_val (l : List S97) (hl : l.length < 4611686018427387904) : laws_eqPanelS.F l l = some true := by
  rw [laws_eqPanelS.F_eq, if_pos rfl]
  have := allLoop l (fun _ => true) (fun i => laws_eqPanelS.L0 l l i) true (fun i hi => by
    show laws_eqPanelS.L0 l l i = _
    rw [laws_eqPanelS.L0_eq, if_pos (by omega), if_pos (by omega), if_pos (by omega), wS (by omega)]
    unfold laws_eqPanel.f
    simp) (by
    show laws_eqPanelS.L0 l l _ = _
    rw [laws_eqPanelS.L0_eq, if_neg (by omega)])
  rw [this]; simp
/-- Panels that bear the numbers from k on. -/
def panelsFrom (k : Int) (n : Nat) : List S97 := (List.range n).map fun (j : Nat) => (⟨k + 2 * (j : Int), k + 2 * (j : Int) + 1⟩ : S97)
theorem laws_markPanelS_val (l : List S97) (k : Int) (h0 : 0 ≤ k) (h1 : k + 2 * l.length ≤ 4611686018427387904) : laws_markPanelS.F l k = some (k + 2 * l.length, panelsFrom k l.length) := by
  rw [laws_markPanelS.F_eq]
  have hlen : ∀ i, i ≤ l.length → (panelsFrom k i ++ l.drop i).length = l.length := fun i hi => by simp [panelsFrom]; omega
  have := iterF (fun (s : List S97 × Int) i => laws_markPanelS.L0 s.1 s.2 i) l.length (fun i => (panelsFrom k i ++ l.drop i, k + 2 * (i : Int))) (fun i hi => by
    show laws_markPanelS.L0 _ _ _ = laws_markPanelS.L0 _ _ _
    have hl1 := hlen i (by omega)
    have hlu : (panelsFrom k i).length = i := by simp [panelsFrom]
    rw [laws_markPanelS.L0_eq, if_pos (by rw [hl1]; omega), if_pos (by omega), wS (by omega), w64 (n := k + 2 * (i : Int) + 1) (by omega) (by omega), w64 (by omega) (by omega), Int.toNat_natCast]
    simp only [Option.bind_some]
    have hr : ∀ v : S97, rd_T97 ((panelsFrom k i ++ l.drop i).set i v) (i : Int) = v := by
      intro v
      rw [rdIPanel _ i (by rw [List.length_set, hl1]; exact hi), List.getElem_set_self]
    rw [hr, List.set_set]
    have e1 : (panelsFrom k i ++ l.drop i).set i (⟨k + 2 * (i : Int), k + 2 * (i : Int) + 1⟩ : S97) = panelsFrom k (i + 1) ++ l.drop (i + 1) := by
      rw [List.set_append, hlu, if_neg (Nat.lt_irrefl i), Nat.sub_self, List.drop_eq_getElem_cons hi, List.set_cons_zero]
      unfold panelsFrom
      rw [List.range_succ, List.map_append, List.append_assoc]
      rfl
    show laws_markPanelS.L0 ((panelsFrom k i ++ l.drop i).set i (⟨k + 2 * (i : Int), k + 2 * (i : Int) + 1⟩ : S97)) _ _ = _
    rw [e1]
    congr 1
    omega)
  have e0 : panelsFrom k 0 ++ l.drop 0 = l := by simp [panelsFrom]
  simp only [e0] at this
  rw [show k + 2 * ((0 : Nat) : Int) = k by omega] at this
  refine this.trans ?_
  rw [laws_markPanelS.L0_eq, if_neg (by rw [hlen l.length (Nat.le_refl _)]; omega)]
  simp
theorem laws_heldPanelS_val (n : Nat) (k : Int) (h0 : 0 ≤ k) (h1 : k + 2 * n ≤ 4611686018427387904) : laws_heldPanelS.F (panelsFrom k n) k = some (k + 2 * n) := by
  rw [laws_heldPanelS.F_eq]
  have hlen : (panelsFrom k n).length = n := by simp [panelsFrom]
  have := iterF (fun (s : Int) i => laws_heldPanelS.L0 (panelsFrom k n) s i) n (fun i => k + 2 * (i : Int)) (fun i hi => by
    show laws_heldPanelS.L0 _ _ _ = laws_heldPanelS.L0 _ _ _
    have hr : rd_T97 (panelsFrom k n) (i : Int) = ⟨k + 2 * (i : Int), k + 2 * (i : Int) + 1⟩ := by
      rw [rdIPanel _ i (by omega)]
      simp [panelsFrom]
    rw [laws_heldPanelS.L0_eq, if_pos (by rw [hlen]; omega), if_pos (by omega), hr, if_pos rfl, w64 (n := k + 2 * (i : Int) + 1) (by omega) (by omega), if_pos rfl, wS (by omega), w64 (by omega) (by omega)]
    congr 1
    omega)
  rw [show k + 2 * ((0 : Nat) : Int) = k by omega] at this
  refine this.trans ?_
  show laws_heldPanelS.L0 _ _ _ = _
  rw [laws_heldPanelS.L0_eq, if_neg (by rw [hlen]; omega)]
theorem pure_FnExactTurnPanels : laws_FnExactTurnPanels.Pure := by
  intro l0 hg
  refine of_lim (g := fun k => laws_FnExactTurnPanels.f k l0) ?_
  show laws_FnExactTurnPanels.F l0 = some true
  obtain ⟨r, hr, h⟩ := laws_szPanelS_val l0 1048576 hg.1 (by omega) (by omega)
  rcases h with h | ⟨h1, h2, h3⟩
  · rw [laws_FnExactTurnPanels.F_eq, hr]; simp only [Option.bind_some]; rw [if_pos h]
  · have et := laws_toPanelS_val l0 (by omega)
    have hm : (l0.map panelTo).length ≤ 1048576 := by rw [List.length_map]; omega
    generalize hL : l0.map panelTo = l at et hm
    obtain ⟨o, c, e1, e2, ho⟩ : ∃ (o : List S97) (c : Int), spec_TurnPanels.F l = some (o, c) ∧ impl_TurnPanels.F l = some (o, c) ∧ o.length ≤ 1048576 := by
      rw [spec_TurnPanels.F_eq, impl_TurnPanels.F_eq, spec_l15List_val l (by omega), impl_ValidPanels_val l (by omega)]
      simp only [Option.bind_some]
      cases hp : panelsOk l with
      | false => rw [if_neg nf, if_neg nf]; exact ⟨[], 1, rfl, rfl, by simp⟩
      | true =>
        have e3 := spec_turn l hm l.length ((l.length : Int) - 1) [] (by omega) (by omega) (by rw [show ((l.length : Int) - 1 + 1).toNat = l.length by omega]; simp)
        have hll : ([] : List S97).length + l.length < 8796093022208 := by simp; omega
        rw [if_pos rfl, if_pos rfl, w64 (by omega) (by omega), e3, if_pos hll, List.nil_append, impl_reverse_val l hm]
        exact ⟨l.reverse, 0, rfl, rfl, by rw [List.length_reverse]; exact hm⟩
    have hn : ¬ r < 0 := by omega
    have ee := laws_eqPanelS_val l (by omega)
    have eo := laws_eqPanelS_val o (by omega)
    have em := laws_markPanelS_val l 1 (by omega) (by omega)
    have em2 := laws_markPanelS_val o 1 (by omega) (by omega)
    have eh := laws_heldPanelS_val o.length 1 (by omega) (by omega)
    have n1 : ¬ (1 + 2 * (l.length : Int) < 0) := by omega
    have n2 : ¬ (1 + 2 * (o.length : Int) < 0) := by omega
    simp [laws_FnExactTurnPanels.F_eq, laws_FnExactTurnPanels.J0_eq, laws_FnExactTurnPanels.J1_eq, laws_FnExactTurnPanels.J2_eq, hn, hr, et, ee, eo, e1, e2, em, em2, eh, n1, n2]
end Go.Proofs.Ytobejjbnklcgpaa.PFnExactTurnPanels
namespace Go.Proofs.Ytobejjbnklcgpaa.Pure
theorem FnExactTurnPanels : PFnExactTurnPanels.laws_FnExactTurnPanels.Pure := PFnExactTurnPanels.pure_FnExactTurnPanels
end Go.Proofs.Ytobejjbnklcgpaa.Pure
