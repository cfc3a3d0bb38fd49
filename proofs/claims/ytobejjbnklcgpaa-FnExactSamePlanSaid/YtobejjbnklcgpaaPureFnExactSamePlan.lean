/-
  The pure side of FnExactSamePlan: the program's SamePlan tells what the reference's tells. No conditions.
-/
import Derived.Test.YtobejjbnklcgpaaQFnExactSamePlan
set_option linter.unusedVariables false
set_option linter.unusedSimpArgs false
set_option linter.unnecessarySimpa false
namespace Go.Proofs.Ytobejjbnklcgpaa.PFnExactSamePlan
open Go.RowKit Go.Proofs.Ytobejjbnklcgpaa.Kit Go.Proofs.YtobejjbnklcgpaaW.PrintWords Go.Proofs.YtobejjbnklcgpaaW.PrintLast Go.Proofs.YtobejjbnklcgpaaW.PrintMore

theorem laws_szSpotS_val (l : List S160) (n : Int) (h : l.length ≤ 9223372036854775807) (hn : 0 ≤ n) (hn2 : n ≤ 1048576) : ∃ r, laws_szSpotS.f l n = some r ∧ (r < 0 ∨ 0 ≤ r ∧ r ≤ n ∧ (l.length : Int) ≤ n) := by
  unfold laws_szSpotS.f
  rw [w64 (by omega) (by omega)]
  by_cases hc : n < l.length
  · exact ⟨-1, by rw [if_pos (by omega)], Or.inl (by omega)⟩
  · exact ⟨n - l.length, by rw [if_neg (by omega)], Or.inr (by omega)⟩
theorem laws_szHung_val (s : ByteArray) (l : List S160) (b : Bool) (n : Int) (hs : s.size ≤ 9223372036854775807) (h : l.length ≤ 9223372036854775807) (hn : 0 ≤ n) (hn2 : n ≤ 1048576) : ∃ r, laws_szHung.f s l b n = some r ∧ (r < 0 ∨ 0 ≤ r ∧ r ≤ n ∧ (s.size : Int) ≤ n ∧ (l.length : Int) ≤ n) := by
  unfold laws_szHung.f
  rw [w64 (by omega) (by omega)]
  by_cases hc : n - (s.size : Int) < 0
  · exact ⟨-1, by rw [if_pos hc], Or.inl (by omega)⟩
  · rw [if_neg hc]
    obtain ⟨r, hr, h1⟩ := laws_szSpotS_val l (n - (s.size : Int)) h (by omega) (by omega)
    rw [hr]; simp only [Option.bind_some]
    rcases h1 with h1 | h1
    · exact ⟨-1, by rw [if_pos h1], Or.inl (by omega)⟩
    · exact ⟨r, by rw [if_neg (by omega)], Or.inr (by omega)⟩
/-- What a sum of sizes tells: it is less than 0, or all that it adds up is small. -/
theorem szLoop {α : Type} (l : List α) (small : α → Prop) (n : Int) (hn0 : 0 ≤ n) (g : Int → Int → Option Int) (h : ∀ (i : Nat) (s : Int) (hi : i < l.length), 0 ≤ s → s ≤ n → g s (i : Int) = some (-1) ∨ ∃ s', g s (i : Int) = g s' ((i + 1 : Nat) : Int) ∧ 0 ≤ s' ∧ s' ≤ s ∧ small l[i]) (he : ∀ s, g s (l.length : Int) = some s) :
    ∃ r, g n 0 = some r ∧ (r < 0 ∨ 0 ≤ r ∧ r ≤ n ∧ ∀ y ∈ l, small y) := by
  have key : ∀ (d i : Nat) (s : Int), i + d = l.length → 0 ≤ s → s ≤ n → (∀ y ∈ l.take i, small y) → ∃ r, g s (i : Int) = some r ∧ (r < 0 ∨ 0 ≤ r ∧ r ≤ n ∧ ∀ y ∈ l, small y) := by
    intro d
    induction d with
    | zero =>
      intro i s hd h0 h1 hs
      rw [show (i : Int) = (l.length : Int) by omega, he]
      rw [List.take_of_length_le (by omega)] at hs
      exact ⟨s, rfl, Or.inr ⟨h0, h1, hs⟩⟩
    | succ d ih =>
      intro i s hd h0 h1 hs
      have hi : i < l.length := by omega
      rcases h i s hi h0 h1 with h2 | ⟨s', h2, h3, h4, h5⟩
      · exact ⟨-1, h2, Or.inl (by omega)⟩
      · rw [h2]
        refine ih (i + 1) s' (by omega) h3 (by omega) (fun y hy => ?_)
        rw [List.take_succ_eq_append_getElem hi, List.mem_append, List.mem_singleton] at hy
        rcases hy with h6 | rfl
        · exact hs y h6
        · exact h5
  exact key l.length 0 n (by omega) hn0 (Int.le_refl _) (by simp)
theorem rdLHung (l : List S153) (i : Nat) (h : i < l.length) : rd_T153 l (i : Int) = l[i] := by simp [rd_T153, h]
theorem laws_szHungS_val (l : List S153) (n : Int) (h : l.length ≤ 9223372036854775807) (hy : ∀ y ∈ l, y.f0.size ≤ 9223372036854775807 ∧ y.f1.length ≤ 9223372036854775807) (hn : 0 ≤ n) (hn2 : n ≤ 1048576) : ∃ r, laws_szHungS.F l n = some r ∧ (r < 0 ∨ 0 ≤ r ∧ r ≤ n ∧ (l.length : Int) ≤ n ∧ ∀ y ∈ l, (y.f0.size : Int) ≤ n ∧ (y.f1.length : Int) ≤ n) := by
  rw [laws_szHungS.F_eq, w64 (by omega) (by omega)]
  by_cases hc : n - (l.length : Int) < 0
  · exact ⟨-1, by rw [if_pos hc], Or.inl (by omega)⟩
  · rw [if_neg hc]
    obtain ⟨r, hr, h1⟩ := szLoop l (fun y => (y.f0.size : Int) ≤ n ∧ (y.f1.length : Int) ≤ n) (n - (l.length : Int)) (by omega) (fun s i => laws_szHungS.L0 l s i) (fun i s hi h0 h2 => by
      show laws_szHungS.L0 l s i = _ ∨ ∃ s', laws_szHungS.L0 l s i = laws_szHungS.L0 l s' _ ∧ _
      rw [laws_szHungS.L0_eq, if_pos (by omega), if_pos (by omega), rdLHung l i hi, wS (by omega)]
      have hyi := hy _ (List.getElem_mem hi)
      obtain ⟨q, hq, h3⟩ := laws_szHung_val l[i].f0 l[i].f1 l[i].f2 s hyi.1 hyi.2 h0 (by omega)
      rw [hq]
      simp only [Option.bind_some]
      rcases h3 with h3 | ⟨h3, h4, h5, h6⟩
      · left; rw [if_pos h3]
      · right; exact ⟨q, by rw [if_neg (by omega)], h3, h4, by omega, by omega⟩) (fun s => by
      show laws_szHungS.L0 l s _ = _
      rw [laws_szHungS.L0_eq, if_neg (by omega)])
    refine ⟨r, hr, ?_⟩
    rcases h1 with h1 | ⟨h1, h2, h3⟩
    · exact Or.inl h1
    · exact Or.inr ⟨h1, by omega, by omega, h3⟩
theorem rdLSpot (l : List S160) (i : Nat) (h : i < l.length) : rd_T160 l (i : Int) = l[i] := by simp [rd_T160, h]
def spotTo (p : S160) : S130 := ⟨p.f0, p.f1⟩
theorem laws_toSpotS_val (l : List S160) (hl : l.length ≤ 1048576) : laws_toSpotS.F l = some (l.map spotTo) := by
  rw [laws_toSpotS.F_eq, if_pos (by omega), if_pos (by omega), Int.toNat_natCast]
  have := fillLoop (l.map spotTo) z130 (fun s i => laws_toSpotS.L0 l s i) (fun i s hi hs => by
    rw [List.length_map] at hi hs
    show laws_toSpotS.L0 l s i = _
    rw [laws_toSpotS.L0_eq, if_pos (by omega), if_pos (by omega), rdLSpot l i hi, wS (by omega)]
    unfold laws_toSpot.f
    simp only [Option.bind_some]
    rw [if_pos (by omega), Int.toNat_natCast, List.getElem_map]
    rfl)
  rw [List.length_map] at this
  refine this.trans ?_
  show laws_toSpotS.L0 l _ _ = _
  rw [laws_toSpotS.L0_eq, if_neg (by omega)]
theorem laws_toHung_val (s : ByteArray) (l : List S160) (b : Bool) (hl : l.length ≤ 1048576) : laws_toHung.F s l b = some (s, l.map spotTo, b) := by
  rw [laws_toHung.F_eq, laws_toSpotS_val l hl]; rfl
def hungTo (p : S153) : S126 := ⟨p.f0, p.f1.map spotTo, p.f2⟩
theorem laws_toHungS_val (l : List S153) (hl : l.length ≤ 1048576) (hy : ∀ y ∈ l, y.f1.length ≤ 1048576) : laws_toHungS.F l = some (l.map hungTo) := by
  rw [laws_toHungS.F_eq, if_pos (by omega), if_pos (by omega), Int.toNat_natCast]
  have := fillLoop (l.map hungTo) z126 (fun s i => laws_toHungS.L0 l s i) (fun i s hi hs => by
    rw [List.length_map] at hi hs
    show laws_toHungS.L0 l s i = _
    rw [laws_toHungS.L0_eq, if_pos (by omega), if_pos (by omega), rdLHung l i hi, wS (by omega), laws_toHung_val _ _ _ (hy _ (List.getElem_mem hi))]
    simp only [Option.bind_some]
    rw [if_pos (by omega), Int.toNat_natCast, List.getElem_map]
    rfl)
  rw [List.length_map] at this
  refine this.trans ?_
  show laws_toHungS.L0 l _ _ = _
  rw [laws_toHungS.L0_eq, if_neg (by omega)]
theorem laws_eqSpotS_val (l : List S130) (hl : l.length < 4611686018427387904) : laws_eqSpotS.F l l = some true := by
  rw [laws_eqSpotS.F_eq, if_pos rfl]
  have := allLoop l (fun _ => true) (fun i => laws_eqSpotS.L0 l l i) true (fun i hi => by
    show laws_eqSpotS.L0 l l i = _
    rw [laws_eqSpotS.L0_eq, if_pos (by omega), if_pos (by omega), if_pos (by omega), wS (by omega)]
    unfold laws_eqSpot.f
    simp) (by
    show laws_eqSpotS.L0 l l _ = _
    rw [laws_eqSpotS.L0_eq, if_neg (by omega)])
  rw [this]; simp
theorem laws_eqHung_val (s : ByteArray) (l : List S130) (b : Bool) (hl : l.length < 4611686018427387904) : laws_eqHung.F s l b s l b = some true := by
  rw [laws_eqHung.F_eq, if_pos rfl, laws_eqSpotS_val l hl]
  simp
theorem rdIHung (l : List S126) (i : Nat) (h : i < l.length) : rd_T126 l (i : Int) = l[i] := by simp [rd_T126, h]
theorem laws_eqHungS_val (l : List S126) (hl : l.length < 4611686018427387904) (hy : ∀ y ∈ l, y.f1.length < 4611686018427387904) : laws_eqHungS.F l l = some true := by
  rw [laws_eqHungS.F_eq, if_pos rfl]
  have := allLoop l (fun _ => true) (fun i => laws_eqHungS.L0 l l i) true (fun i hi => by
    show laws_eqHungS.L0 l l i = _
    rw [laws_eqHungS.L0_eq, if_pos (by omega), if_pos (by omega), if_pos (by omega), wS (by omega), rdIHung l i hi, laws_eqHung_val _ _ _ (hy _ (List.getElem_mem hi))]
    rfl) (by
    show laws_eqHungS.L0 l l _ = _
    rw [laws_eqHungS.L0_eq, if_neg (by omega)])
  rw [this]; simp
/-- What the laws do with a plan that came in. -/
theorem plan_args (l : List S153) (c d n : Int) (hn0 : 0 ≤ n) (hn1 : n ≤ 1048576) (h : l.length ≤ 9223372036854775807) (hy : ∀ y ∈ l, y.f0.size ≤ 9223372036854775807 ∧ y.f1.length ≤ 9223372036854775807) : ∃ r, laws_szPlan.F l c d n = some r ∧ (r < 0 ∨ ¬ r < 0 ∧ r ≤ n ∧ l.length ≤ 1048576 ∧ ∃ m : List S126, m = l.map hungTo ∧ m.length = l.length ∧ (∀ y ∈ m, y.f0.size ≤ 1048576 ∧ y.f1.length ≤ 1048576) ∧ laws_toPlan.F l c d = some (m, c, d) ∧ laws_eqPlan.F m c d m c d = some true) := by
  obtain ⟨r, hr, h1⟩ := laws_szHungS_val l n h hy hn0 hn1
  rw [laws_szPlan.F_eq, hr]
  simp only [Option.bind_some]
  rcases h1 with h1 | ⟨h1, h2, h3, h4⟩
  · exact ⟨-1, by rw [if_pos h1], Or.inl (by omega)⟩
  · have h5 : ∀ y ∈ l.map hungTo, y.f0.size ≤ 1048576 ∧ y.f1.length ≤ 1048576 := by
      intro y hy2
      obtain ⟨z, hz, rfl⟩ := List.mem_map.1 hy2
      have := h4 z hz
      show z.f0.size ≤ _ ∧ (z.f1.map spotTo).length ≤ _
      rw [List.length_map]
      omega
    refine ⟨r, by rw [if_neg (by omega)], Or.inr ⟨by omega, h2, by omega, l.map hungTo, rfl, by simp, h5, ?_, ?_⟩⟩
    · rw [laws_toPlan.F_eq, laws_toHungS_val l (by omega) (fun y hy2 => by have := h4 y hy2; omega)]; rfl
    · rw [laws_eqPlan.F_eq, laws_eqHungS_val _ (by rw [List.length_map]; omega) (fun y hy2 => by have := h5 y hy2; omega)]
      simp
theorem rdISpot (l : List S130) (i : Nat) (h : i < l.length) : rd_T130 l (i : Int) = l[i] := by simp [rd_T130, h]
theorem same_spots (l m : List S130) (hl : l.length < 4611686018427387904) : ∃ b, spec_SameSail.F l m = some b ∧ impl_Spot.F l m = some b := by
  by_cases h : l.length = m.length
  · have e1 := allRange l.length (fun i => !(!((rd_T130 l (i : Int)).f0 == (rd_T130 m (i : Int)).f0) || (!((rd_T130 l (i : Int)).f1 == (rd_T130 m (i : Int)).f1)))) (fun i => spec_SameSail.L0 l m i) true (fun i hi => by
      show spec_SameSail.L0 l m i = _
      rw [spec_SameSail.L0_eq, if_pos (by omega), if_pos (by omega), if_pos (by omega), wS (by omega)]
      rw [show (∀ (b : Bool) (x y : Option Bool), (if b = true then x else y) = (if (!b) = true then y else x)) from fun b x y => by cases b <;> rfl]) (by
      show spec_SameSail.L0 l m _ = _
      rw [spec_SameSail.L0_eq, if_neg (by omega)])
    have e2 := allRange l.length (fun i => !(!((rd_T130 l (i : Int)).f0 == (rd_T130 m (i : Int)).f0) || (!((rd_T130 l (i : Int)).f1 == (rd_T130 m (i : Int)).f1)))) (fun i => impl_Spot.L0 l m (l.length : Int) i) true (fun i hi => by
      show impl_Spot.L0 l m _ i = _
      rw [impl_Spot.L0_eq, if_pos (by omega), if_pos (by omega), if_pos (by omega), if_pos (by omega), wS (by omega)]
      rw [show (∀ (b : Bool) (x y : Option Bool), (if b = true then x else y) = (if (!b) = true then y else x)) from fun b x y => by cases b <;> rfl]) (by
      show impl_Spot.L0 l m _ _ = _
      rw [impl_Spot.L0_eq, if_neg (by omega)])
    rw [spec_SameSail.F_eq, impl_Spot.F_eq, if_pos (by omega), if_pos (by omega)]
    exact ⟨_, e1, e2⟩
  · exact ⟨false, by rw [spec_SameSail.F_eq, if_neg (by omega)], by rw [impl_Spot.F_eq, if_neg (by omega)]⟩
theorem plans_loop (a b : List S126) (c d c' d' : Int) (hl : a.length < 4611686018427387904) (hm : a.length = b.length) (hy : ∀ y ∈ a, y.f1.length ≤ 1048576) (n : Nat) : ∀ i : Nat, i + n = a.length → ∃ r, spec_SamePlan.L0 (i : Int) a c d b c' d' = some r ∧ impl_SamePlan.L0 a (a.length : Int) (i : Int) b c' d' = some r := by
  induction n with
  | zero =>
    intro i hd
    have hi : ¬ (i : Int) < (a.length : Int) := by omega
    rw [spec_SamePlan.L0_eq, impl_SamePlan.L0_eq, if_neg hi, if_neg hi]
    exact ⟨true, rfl, rfl⟩
  | succ n ih =>
    intro i hd
    have hi : (i : Int) < (a.length : Int) := by omega
    have hi2 : (i : Int) < (b.length : Int) := by omega
    have h0 : (0 : Int) ≤ (i : Int) := by omega
    have hia : i < a.length := by omega
    rw [spec_SamePlan.L0_eq, impl_SamePlan.L0_eq, if_pos hi, if_pos hi, if_pos h0, if_pos h0, if_pos hi2, if_pos hi, if_pos hi2, wS (by omega)]
    by_cases h1 : (rd_T126 a (i : Int)).f0.toList = (rd_T126 b (i : Int)).f0.toList
    · rw [if_pos h1, if_pos h1]
      by_cases h2 : ((rd_T126 a (i : Int)).f2 != (rd_T126 b (i : Int)).f2) = true
      · rw [if_pos h2, if_pos h2]; exact ⟨false, rfl, rfl⟩
      · rw [if_neg h2, if_neg h2]
        obtain ⟨q, e1, e2⟩ := same_spots (rd_T126 a (i : Int)).f1 (rd_T126 b (i : Int)).f1 (by rw [rdIHung a i hia]; have := hy _ (List.getElem_mem hia); omega)
        rw [e1, e2]
        simp only [Option.bind_some]
        cases q with
        | true => rw [if_pos rfl, if_pos rfl]; exact ih (i + 1) (by omega)
        | false => rw [if_neg nf, if_neg nf]; exact ⟨false, rfl, rfl⟩
    · rw [if_neg h1, if_neg h1]; exact ⟨false, rfl, rfl⟩
theorem same_plans (a b : List S126) (c d c' d' : Int) (hl : a.length < 4611686018427387904) (hy : ∀ y ∈ a, y.f1.length ≤ 1048576) : ∃ r, spec_SamePlan.F a c d b c' d' = some r ∧ impl_SamePlan.F a c d b c' d' = some r := by
  have yes : spec_SamePlan.J0 true a c d b c' d' = some false ∧ impl_SamePlan.J0 true a c d b c' d' = some false := ⟨by rw [spec_SamePlan.J0_eq, if_pos rfl], by rw [impl_SamePlan.J0_eq, if_pos rfl]⟩
  rw [spec_SamePlan.F_eq, impl_SamePlan.F_eq]
  by_cases h1 : (a.length : Int) = (b.length : Int)
  · rw [if_pos h1, if_pos h1]
    by_cases h2 : c = c'
    · rw [if_pos h2, if_pos h2]
      cases h3 : (d != d') with
      | true => exact ⟨false, yes.1, yes.2⟩
      | false =>
        rw [spec_SamePlan.J0_eq, impl_SamePlan.J0_eq, if_neg nf, if_neg nf]
        exact plans_loop a b c d c' d' hl (by omega) hy a.length 0 (by omega)
    · rw [if_neg h2, if_neg h2]; exact ⟨false, yes.1, yes.2⟩
  · rw [if_neg h1, if_neg h1]; exact ⟨false, yes.1, yes.2⟩
theorem pure_FnExactSamePlan : laws_FnExactSamePlan.Pure := by
  intro a c d b c' d' hga hc hd hgb hc' hd'
  refine of_lim (g := fun k => laws_FnExactSamePlan.f k a c d b c' d') ?_
  show laws_FnExactSamePlan.F a c d b c' d' = some true
  obtain ⟨r, hr, h⟩ := plan_args a c d 1048576 (by omega) (by omega) hga.1 (fun y hy => ⟨(hga.2 y hy).1, (hga.2 y hy).2.1.1⟩)
  rcases h with h | ⟨h1, h2, h3, m, _, hm, hy, et, ee⟩
  · rw [laws_FnExactSamePlan.F_eq, hr]; simp only [Option.bind_some]; rw [if_pos h]
  · obtain ⟨q, hq, h'⟩ := plan_args b c' d' r (by omega) (by omega) hgb.1 (fun y hy => ⟨(hgb.2 y hy).1, (hgb.2 y hy).2.1.1⟩)
    rcases h' with h' | ⟨h1', h2', h3', m', _, hm', hy', et', ee'⟩
    · rw [laws_FnExactSamePlan.F_eq, hr]; simp only [Option.bind_some]; rw [if_neg h1, hq]; simp only [Option.bind_some]; rw [if_pos h']
    · obtain ⟨x, e1, e2⟩ := same_plans m m' c d c' d' (by omega) (fun y hyy => (hy y hyy).2)
      simp [laws_FnExactSamePlan.F_eq, hr, h1, hq, h1', et, ee, et', ee', e1, e2]
end Go.Proofs.Ytobejjbnklcgpaa.PFnExactSamePlan
namespace Go.Proofs.Ytobejjbnklcgpaa.Pure
theorem FnExactSamePlan : PFnExactSamePlan.laws_FnExactSamePlan.Pure := PFnExactSamePlan.pure_FnExactSamePlan
end Go.Proofs.Ytobejjbnklcgpaa.Pure
