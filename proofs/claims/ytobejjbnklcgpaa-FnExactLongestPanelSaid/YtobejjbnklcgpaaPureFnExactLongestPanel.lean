/-
  The pure side of FnExactLongestPanel: the program's LongestPanel returns what the reference's returns. No conditions.
-/
import Derived.Test.YtobejjbnklcgpaaQFnExactLongestPanel
set_option linter.unusedVariables false
set_option linter.unusedSimpArgs false
set_option linter.unnecessarySimpa false
namespace Go.Proofs.Ytobejjbnklcgpaa.PFnExactLongestPanel
open Go.RowKit Go.Proofs.Ytobejjbnklcgpaa.Kit Go.Proofs.YtobejjbnklcgpaaW.PrintWords Go.Proofs.YtobejjbnklcgpaaW.PrintLast Go.Proofs.YtobejjbnklcgpaaW.PrintMore

theorem laws_szInt64S_val (l : List Int) (n : Int) (h : l.length ≤ 9223372036854775807) (hn : 0 ≤ n) (hn2 : n ≤ 1048576) : ∃ r, laws_szInt64S.f l n = some r ∧ (r < 0 ∨ 0 ≤ r ∧ r ≤ n ∧ (l.length : Int) ≤ n) := by
  unfold laws_szInt64S.f
  rw [w64 (by omega) (by omega)]
  by_cases hc : n < l.length
  · exact ⟨-1, by rw [if_pos (by omega)], Or.inl (by omega)⟩
  · exact ⟨n - l.length, by rw [if_neg (by omega)], Or.inr (by omega)⟩
theorem laws_szBolt_val (x : Int) (l : List Int) (n : Int) (h : l.length ≤ 9223372036854775807) (hn : 0 ≤ n) (hn2 : n ≤ 1048576) : ∃ r, laws_szBolt.f x l n = some r ∧ (r < 0 ∨ 0 ≤ r ∧ r ≤ n ∧ (l.length : Int) ≤ n) := by
  unfold laws_szBolt.f
  obtain ⟨r, hr, h1⟩ := laws_szInt64S_val l n h hn hn2
  rw [hr]; simp only [Option.bind_some]
  rcases h1 with h1 | h1
  · exact ⟨-1, by rw [if_pos h1], Or.inl (by omega)⟩
  · exact ⟨r, by rw [if_neg (by omega)], Or.inr h1⟩
/-- What a sum of sizes tells: it is less than 0, or all that it adds up is small. -/
theorem szLoop {α : Type} (l : List α) (small : α → Prop) (n : Int) (hn0 : 0 ≤ n) (g : Int → Int → Option Int) (h : ∀ (i : Nat) (s : Int) (hi : i < l.length), 0 ≤ s → s ≤ n → g s (i : Int) = some (-1) ∨ ∃ s', g s (i : Int) = g s' ((i + 1 : Nat) : Int) ∧ 0 ≤ s' ∧ s' ≤ s ∧ small l[i]) (he : ∀ s, g s (l.length : Int) = some s) :
    ∃ r, g n 0 = some r ∧ (r < 0 ∨ 0 ≤ r ∧ r ≤ n ∧ ∀ y ∈ l, small y) := by
  have key : ∀ (d i : Nat) (s : Int), i + d = l.length → 0 ≤ s → s ≤ n → (∀ y ∈ l.take i, small y) → ∃ r, g s (i : Int) = some r ∧ (r < 0 ∨ 0 ≤ r ∧ r ≤ n ∧ ∀ y ∈ l, small y) := by
    intro d
    induction d with
    | zero =>
      intro i s hd h0 h1 hs
      rw [show (i : Int) = (l.length : Int) by omega, he]
      rw [List.take_of_length_le (by omega)] at hs
      exact ⟨s, rfl, Or.inr ⟨h0, h1, hs⟩⟩
    | succ d ih =>
      intro i s hd h0 h1 hs
      have hi : i < l.length := by omega
      rcases h i s hi h0 h1 with h2 | ⟨s', h2, h3, h4, h5⟩
      · exact ⟨-1, h2, Or.inl (by omega)⟩
      · rw [h2]
        refine ih (i + 1) s' (by omega) h3 (by omega) (fun y hy => ?_)
        rw [List.take_succ_eq_append_getElem hi, List.mem_append, List.mem_singleton] at hy
        rcases hy with h6 | rfl
        · exact hs y h6
        · exact h5
  exact key l.length 0 n (by omega) hn0 (Int.le_refl _) (by simp)
theorem rdLBolt (l : List S60) (i : Nat) (h : i < l.length) : rd_T60 l (i : Int) = l[i] := by simp [rd_T60, h]
theorem laws_szBoltS_val (l : List S60) (n : Int) (h : l.length ≤ 9223372036854775807) (hy : ∀ y ∈ l, y.f1.length ≤ 9223372036854775807) (hn : 0 ≤ n) (hn2 : n ≤ 1048576) : ∃ r, laws_szBoltS.F l n = some r ∧ (r < 0 ∨ 0 ≤ r ∧ r ≤ n ∧ (l.length : Int) ≤ n ∧ ∀ y ∈ l, (y.f1.length : Int) ≤ n) := by
  rw [laws_szBoltS.F_eq, w64 (by omega) (by omega)]
  by_cases hc : n - (l.length : Int) < 0
  · exact ⟨-1, by rw [if_pos hc], Or.inl (by omega)⟩
  · rw [if_neg hc]
    obtain ⟨r, hr, h1⟩ := szLoop l (fun y => (y.f1.length : Int) ≤ n) (n - (l.length : Int)) (by omega) (fun s i => laws_szBoltS.L0 l s i) (fun i s hi h0 h2 => by
      show laws_szBoltS.L0 l s i = _ ∨ ∃ s', laws_szBoltS.L0 l s i = laws_szBoltS.L0 l s' _ ∧ _
      rw [laws_szBoltS.L0_eq, if_pos (by omega), if_pos (by omega), rdLBolt l i hi, wS (by omega)]
      obtain ⟨q, hq, h3⟩ := laws_szBolt_val l[i].f0 l[i].f1 s (hy _ (List.getElem_mem hi)) h0 (by omega)
      rw [hq]
      simp only [Option.bind_some]
      rcases h3 with h3 | ⟨h3, h4, h5⟩
      · left; rw [if_pos h3]
      · right; exact ⟨q, by rw [if_neg (by omega)], h3, h4, by omega⟩) (fun s => by
      show laws_szBoltS.L0 l s _ = _
      rw [laws_szBoltS.L0_eq, if_neg (by omega)])
    refine ⟨r, hr, ?_⟩
    rcases h1 with h1 | ⟨h1, h2, h3⟩
    · exact Or.inl h1
    · exact Or.inr ⟨h1, by omega, by omega, h3⟩
theorem laws_toInt64S_val (l : List Int) (hl : l.length ≤ 1048576) : laws_toInt64S.F l = some l := by
  rw [laws_toInt64S.F_eq, if_pos (by omega), if_pos (by omega), Int.toNat_natCast]
  have := fillLoop l 0 (fun s i => laws_toInt64S.L0 l s i) (fun i s hi hs => by
    show laws_toInt64S.L0 l s i = _
    rw [laws_toInt64S.L0_eq, if_pos (by omega), if_pos (by omega), wS (by omega), if_pos (by omega), Int.toNat_natCast, rd_get l i hi])
  refine this.trans ?_
  show laws_toInt64S.L0 l _ _ = _
  rw [laws_toInt64S.L0_eq, if_neg (by omega)]
theorem laws_toBolt_val (x : Int) (l : List Int) (hl : l.length ≤ 1048576) : laws_toBolt.F x l = some (x, l) := by
  rw [laws_toBolt.F_eq, laws_toInt64S_val l hl]; rfl
def boltTo (p : S60) : S65 := ⟨p.f0, p.f1⟩
theorem laws_toBoltS_val (l : List S60) (hl : l.length ≤ 1048576) (hy : ∀ y ∈ l, y.f1.length ≤ 1048576) : laws_toBoltS.F l = some (l.map boltTo) := by
  rw [laws_toBoltS.F_eq, if_pos (by omega), if_pos (by omega), Int.toNat_natCast]
  have := fillLoop (l.map boltTo) z65 (fun s i => laws_toBoltS.L0 l s i) (fun i s hi hs => by
    rw [List.length_map] at hi hs
    show laws_toBoltS.L0 l s i = _
    rw [laws_toBoltS.L0_eq, if_pos (by omega), if_pos (by omega), rdLBolt l i hi, wS (by omega), laws_toBolt_val _ _ (hy _ (List.getElem_mem hi))]
    simp only [Option.bind_some]
    rw [if_pos (by omega), Int.toNat_natCast, List.getElem_map]
    rfl)
  rw [List.length_map] at this
  refine this.trans ?_
  show laws_toBoltS.L0 l _ _ = _
  rw [laws_toBoltS.L0_eq, if_neg (by omega)]
theorem laws_eqInt64S_val (l : List Int) (hl : l.length < 4611686018427387904) : laws_eqInt64S.F l l = some true := by
  rw [laws_eqInt64S.F_eq, if_pos rfl]
  have := allLoop l (fun _ => true) (fun i => laws_eqInt64S.L0 l l i) true (fun i hi => by
    show laws_eqInt64S.L0 l l i = _
    rw [laws_eqInt64S.L0_eq, if_pos (by omega), if_pos (by omega), if_pos (by omega), wS (by omega)]
    simp) (by
    show laws_eqInt64S.L0 l l _ = _
    rw [laws_eqInt64S.L0_eq, if_neg (by omega)])
  rw [this]; simp
theorem laws_eqBolt_val (x : Int) (l : List Int) (hl : l.length < 4611686018427387904) : laws_eqBolt.F x l x l = some true := by
  rw [laws_eqBolt.F_eq, if_pos rfl, laws_eqInt64S_val l hl]; rfl
theorem rdIBolt (l : List S65) (i : Nat) (h : i < l.length) : rd_T65 l (i : Int) = l[i] := by simp [rd_T65, h]
theorem laws_eqBoltS_val (l : List S65) (hl : l.length < 4611686018427387904) (hy : ∀ y ∈ l, y.f1.length < 4611686018427387904) : laws_eqBoltS.F l l = some true := by
  rw [laws_eqBoltS.F_eq, if_pos rfl]
  have := allLoop l (fun _ => true) (fun i => laws_eqBoltS.L0 l l i) true (fun i hi => by
    show laws_eqBoltS.L0 l l i = _
    rw [laws_eqBoltS.L0_eq, if_pos (by omega), if_pos (by omega), if_pos (by omega), wS (by omega), rdIBolt l i hi, laws_eqBolt_val _ _ (hy _ (List.getElem_mem hi))]
    rfl) (by
    show laws_eqBoltS.L0 l l _ = _
    rw [laws_eqBoltS.L0_eq, if_neg (by omega)])
  rw [this]; simp
/-- What the laws do with bolts that came in. -/
theorem bolt_args (l : List S60) (n : Int) (hn0 : 0 ≤ n) (hn1 : n ≤ 1048576) (h : l.length ≤ 9223372036854775807) (hy : ∀ y ∈ l, y.f1.length ≤ 9223372036854775807) : ∃ r, laws_szBoltS.F l n = some r ∧ (r < 0 ∨ ¬ r < 0 ∧ r ≤ n ∧ l.length ≤ 1048576 ∧ ∃ m : List S65, m = l.map boltTo ∧ m.length = l.length ∧ (∀ y ∈ m, y.f1.length ≤ 1048576) ∧ laws_toBoltS.F l = some m ∧ laws_eqBoltS.F m m = some true) := by
  obtain ⟨r, hr, h1⟩ := laws_szBoltS_val l n h hy hn0 hn1
  refine ⟨r, hr, ?_⟩
  rcases h1 with h1 | ⟨h1, h2, h3, h4⟩
  · exact Or.inl h1
  · have h5 : ∀ y ∈ l.map boltTo, y.f1.length ≤ 1048576 := by
      intro y hy2
      obtain ⟨z, hz, rfl⟩ := List.mem_map.1 hy2
      have := h4 z hz
      show z.f1.length ≤ _
      omega
    refine Or.inr ⟨by omega, h2, by omega, l.map boltTo, rfl, by simp, h5, laws_toBoltS_val l (by omega) (fun y hy2 => by have := h4 y hy2; omega), laws_eqBoltS_val _ (by rw [List.length_map]; omega) (fun y hy2 => by have := h5 y hy2; omega)⟩
def inB (n a b : Int) : Bool := decide (a ≤ n) && decide (n ≤ b)
theorem inB_iff (n a b : Int) : inB n a b = true ↔ a ≤ n ∧ n ≤ b := by simp [inB]
theorem inB_no (n a b : Int) : inB n a b = false ↔ ¬ (a ≤ n ∧ n ≤ b) := by rw [← inB_iff]; simp
theorem spec_l00In_val (n a b : Int) : spec_l00In.f n a b = some (inB n a b) := by
  unfold spec_l00In.f inB
  by_cases h : n ≥ a
  · rw [if_pos h]; simp [show a ≤ n from h]
  · rw [if_neg h]; simp; omega
/-- At a place: within bounds, and more than the number before it. -/
def riseAt (l : List Int) (a b : Int) (i : Nat) : Bool := inB (rd l (i : Int)) a b && (decide (i = 0) || decide (rd l ((i : Int) - 1) < rd l (i : Int)))
theorem riseAt_def (l : List Int) (a b : Int) (i : Nat) : riseAt l a b i = (inB (rd l (i : Int)) a b && (decide (i = 0) || decide (rd l ((i : Int) - 1) < rd l (i : Int)))) := rfl
def rises (l : List Int) (a b : Int) : Bool := (List.range l.length).all (riseAt l a b)
theorem rises_iff (l : List Int) (a b : Int) : rises l a b = true ↔ ∀ i : Nat, i < l.length → (a ≤ rd l i ∧ rd l i ≤ b) ∧ (0 < i → rd l ((i : Int) - 1) < rd l i) := by
  unfold rises
  rw [List.all_eq_true]
  constructor
  · intro h i hi
    have := h i (List.mem_range.2 hi)
    rw [riseAt_def, Bool.and_eq_true, inB_iff, Bool.or_eq_true] at this
    refine ⟨this.1, fun h0 => ?_⟩
    rcases this.2 with h2 | h2
    · exact absurd (of_decide_eq_true h2) (by omega)
    · exact of_decide_eq_true h2
  · intro h i hi
    have := h i (List.mem_range.1 hi)
    rw [riseAt_def, Bool.and_eq_true, inB_iff, Bool.or_eq_true]
    refine ⟨this.1, ?_⟩
    by_cases h0 : i = 0
    · left; simp [h0]
    · right; exact decide_eq_true (this.2 (by omega))
theorem spec_l00Rises_val (l : List Int) (a b : Int) (hl : l.length < 4611686018427387904) : spec_l00Rises.F l a b = some (rises l a b) := by
  rw [spec_l00Rises.F_eq]
  refine (allRange l.length (riseAt l a b) (fun i => spec_l00Rises.L0 l a b i) true (fun i hi => ?_) ?_).trans (by rw [Bool.and_true]; rfl)
  · show spec_l00Rises.L0 l a b i = _
    rw [spec_l00Rises.L0_eq, if_pos (by omega), if_pos (by omega), spec_l00In_val, wS (by omega)]
    simp only [Option.bind_some]
    rw [riseAt_def, ite_band]
    by_cases h1 : inB (rd l (i : Int)) a b = true
    · rw [if_pos h1, if_pos h1]
      by_cases h0 : i = 0
      · rw [if_neg (by omega), if_pos (by simp [h0])]
      · rw [if_pos (by omega), w64 (by omega) (by omega), if_pos (by omega), if_pos (by omega)]
        by_cases h2 : rd l ((i : Int) - 1) ≥ rd l (i : Int)
        · rw [if_pos h2, if_neg (by simp [h0]; omega)]
        · rw [if_neg h2, if_pos (by simp [h0]; omega)]
    · rw [if_neg h1, if_neg h1]
  · show spec_l00Rises.L0 l a b _ = _
    rw [spec_l00Rises.L0_eq, if_neg (by omega)]
/-- A valid bolt. -/
def boltOk (b : S65) : Bool := inB b.f0 1 10000 && (decide (b.f1.length ≤ 6) && rises b.f1 1 (b.f0 - 1))
theorem boltOk_def (b : S65) : boltOk b = (inB b.f0 1 10000 && (decide (b.f1.length ≤ 6) && rises b.f1 1 (b.f0 - 1))) := rfl
def boltsOk (l : List S65) : Bool := l.all boltOk && decide (l.length ≤ 4)
theorem boltsOk_iff (l : List S65) : boltsOk l = true ↔ (∀ b ∈ l, boltOk b = true) ∧ l.length ≤ 4 := by
  unfold boltsOk
  rw [Bool.and_eq_true, List.all_eq_true, decide_eq_true_iff]
theorem boltOk_vals {b : S65} (h : boltOk b = true) : 1 ≤ b.f0 ∧ b.f0 ≤ 10000 ∧ b.f1.length ≤ 6 ∧ ∀ i : Nat, i < b.f1.length → (1 ≤ rd b.f1 i ∧ rd b.f1 i ≤ b.f0 - 1) ∧ (0 < i → rd b.f1 ((i : Int) - 1) < rd b.f1 i) := by
  rw [boltOk_def, Bool.and_eq_true, Bool.and_eq_true, inB_iff, decide_eq_true_iff, rises_iff] at h
  exact ⟨h.1.1, h.1.2, h.2.1, h.2.2⟩
theorem spec_l16One_val (b : S65) (hb : b.f1.length < 4611686018427387904) : spec_l16One.F [b] = some (boltOk b) := by
  have e : rd_T65 [b] 0 = b := rfl
  rw [spec_l16One.F_eq, e, if_pos (by simp), spec_l00In_val]
  simp only [Option.bind_some]
  rw [boltOk_def]
  cases h1 : inB b.f0 1 10000 with
  | false => rw [if_neg nf]; rfl
  | true =>
    rw [if_pos rfl]
    rw [inB_iff] at h1
    by_cases h2 : (b.f1.length : Int) ≤ 6
    · rw [if_pos h2, decide_eq_true (by omega), w64 (by omega) (by omega), spec_l00Rises_val _ _ _ hb]
      simp
    · rw [if_neg h2, decide_eq_false (by omega)]
      rfl
theorem spec_l16Ok_val (l : List S65) (hl : l.length < 4611686018427387904) (hy : ∀ y ∈ l, y.f1.length ≤ 1048576) : spec_l16Ok.F l = some (boltsOk l) := by
  rw [spec_l16Ok.F_eq]
  refine allLoop l boltOk (fun i => spec_l16Ok.L0 l i) _ (fun i hi => ?_) ?_
  · show spec_l16Ok.L0 l i = _
    rw [spec_l16Ok.L0_eq, if_pos (by omega), if_pos (by omega), rdIBolt l i hi, wS (by omega), spec_l16One_val _ (by have := hy _ (List.getElem_mem hi); omega)]
    rfl
  · show spec_l16Ok.L0 l _ = _
    rw [spec_l16Ok.L0_eq, if_neg (by omega)]
    simp; omega
theorem impl_within_val (n a b : Int) : impl_within.f n a b = some (inB n a b) := by
  unfold impl_within.f inB
  by_cases h : n ≥ a
  · rw [if_pos h]; simp [show a ≤ n from h]
  · rw [if_neg h]; simp; omega
theorem impl_validBolt_val (x : Int) (l : List Int) (hl : l.length < 4611686018427387904) : impl_validBolt.F x l = some (boltOk ⟨x, l⟩) := by
  rw [impl_validBolt.F_eq, impl_within_val]
  simp only [Option.bind_some]
  rw [boltOk_def]
  show _ = some (inB x 1 10000 && (decide (l.length ≤ 6) && rises l 1 (x - 1)))
  cases h1 : inB x 1 10000 with
  | false => rw [if_neg nf, impl_validBolt.J0_eq, if_pos rfl]; rfl
  | true =>
    rw [if_pos rfl]
    rw [inB_iff] at h1
    by_cases h2 : (l.length : Int) > 6
    · rw [decide_eq_true h2, impl_validBolt.J0_eq, if_pos rfl, decide_eq_false (by omega)]
      rfl
    · rw [decide_eq_false h2, impl_validBolt.J0_eq, if_neg nf, decide_eq_true (by omega)]
      refine (allRange l.length (riseAt l 1 (x - 1)) (fun i => impl_validBolt.L0 l (l.length : Int) i x l) true (fun i hi => ?_) ?_).trans (by simp [rises])
      · show impl_validBolt.L0 _ _ i _ _ = _
        rw [impl_validBolt.L0_eq, if_pos (by omega), if_pos (by omega), if_pos (by omega), w64 (n := x - 1) (by omega) (by omega), impl_within_val, wS (by omega)]
        simp only [Option.bind_some]
        rw [riseAt_def, ite_band]
        by_cases h3 : inB (rd l (i : Int)) 1 (x - 1) = true
        · rw [if_pos h3, if_pos h3]
          by_cases h0 : i = 0
          · rw [if_neg (by omega), if_pos (by simp [h0])]
          · rw [if_pos (by omega), w64 (by omega) (by omega), if_pos (by omega), if_pos (by omega)]
            by_cases h4 : rd l (i : Int) ≤ rd l ((i : Int) - 1)
            · rw [if_pos h4, if_neg (by simp [h0]; omega)]
            · rw [if_neg h4, if_pos (by simp [h0]; omega)]
        · rw [if_neg h3, if_neg h3]
      · show impl_validBolt.L0 _ _ _ _ _ = _
        rw [impl_validBolt.L0_eq, if_neg (by omega)]
theorem impl_ValidBolts_val (l : List S65) (hl : l.length < 4611686018427387904) (hy : ∀ y ∈ l, y.f1.length ≤ 1048576) : impl_ValidBolts.F l = some (boltsOk l) := by
  rw [impl_ValidBolts.F_eq]
  unfold boltsOk
  by_cases h : (l.length : Int) > 4
  · rw [if_pos h]; simp; omega
  · rw [if_neg h]
    have := allLoop l boltOk (fun i => impl_ValidBolts.L0 l (l.length : Int) i) true (fun i hi => by
      show impl_ValidBolts.L0 l _ i = _
      rw [impl_ValidBolts.L0_eq, if_pos (by omega), if_pos (by omega), if_pos (by omega), rdIBolt l i hi, wS (by omega), impl_validBolt_val _ _ (by have := hy _ (List.getElem_mem hi); omega)]
      rfl) (by
      show impl_ValidBolts.L0 l _ _ = _
      rw [impl_ValidBolts.L0_eq, if_neg (by omega)])
    rw [this]
    simp; omega
/-- The sound parts of a bolt: from a place on, up to its end. -/
def partsFrom (e : Int) (a : Int) : List Int → List (List Int)
  | [] => [[a, e]]
  | f :: r => [a, f] :: partsFrom e f r
theorem partsFrom_len (e : Int) (l : List Int) : ∀ a, (partsFrom e a l).length = l.length + 1 := by
  induction l with
  | nil => intro a; rfl
  | cons f r ih => intro a; simp [partsFrom, ih]
theorem partsFrom_two (e : Int) (l : List Int) : ∀ a, ∀ p ∈ partsFrom e a l, p.length = 2 := by
  induction l with
  | nil => intro a p hp; simp [partsFrom] at hp; subst hp; rfl
  | cons f r ih =>
    intro a p hp
    simp only [partsFrom, List.mem_cons] at hp
    rcases hp with rfl | hp
    · rfl
    · exact ih f p hp
def partsOf (b : S65) : List (List Int) := partsFrom b.f0 0 b.f1
/-- All sound parts of all bolts: bolt, begin, end. -/
def cutsFrom (i : Int) : List S65 → List (Int × Int × Int)
  | [] => []
  | b :: r => (partsOf b).map (fun p => (i, rd p 0, rd p 1)) ++ cutsFrom (i + 1) r
theorem cutsFrom_len (l : List S65) (h : ∀ b ∈ l, b.f1.length ≤ 6) : ∀ i, (cutsFrom i l).length ≤ 7 * l.length := by
  induction l with
  | nil => intro i; simp [cutsFrom]
  | cons b r ih =>
    intro i
    have h1 := ih (fun c hc => h c (List.mem_cons_of_mem _ hc)) (i + 1)
    have h2 := h b List.mem_cons_self
    simp only [cutsFrom, List.length_append, List.length_map, List.length_cons]
    unfold partsOf
    rw [partsFrom_len]
    omega
theorem spec_l16Parts_val (b : S65) (hb : b.f1.length ≤ 1048576) : spec_l16Parts.F [b] = some (partsOf b) := by
  have e : rd_T65 [b] 0 = b := rfl
  have key : ∀ (d i : Nat) (out : List (List Int)) (a : Int), i + d = b.f1.length → out.length ≤ i → spec_l16Parts.L0 [b] out a (i : Int) = some (out ++ partsFrom b.f0 a (b.f1.drop i)) := by
    intro d
    induction d with
    | zero =>
      intro i out a hd ho
      have h1 : out.length < 5864062014805 := by omega
      rw [spec_l16Parts.L0_eq, e, if_neg (by omega), if_pos h1, List.drop_of_length_le (by omega)]
      rfl
    | succ d ih =>
      intro i out a hd ho
      have hi : i < b.f1.length := by omega
      have h1 : out.length < 5864062014805 := by omega
      rw [spec_l16Parts.L0_eq, e, if_pos (by omega), if_pos (by omega), if_pos h1, rd_get _ i hi, wS (by omega), ih (i + 1) _ _ (by omega) (by rw [List.length_append]; simp; omega), List.drop_eq_getElem_cons hi]
      simp [partsFrom]
  rw [spec_l16Parts.F_eq, if_pos (by simp)]
  have := key b.f1.length 0 [] 0 (by omega) (by simp)
  simpa [partsOf] using this
theorem rdLL (l : List (List Int)) (i : Nat) (h : i < l.length) : rd_L1 l (i : Int) = l[i] := by simp [rd_L1, h]
def mkL16P (c : Int × Int × Int) : S138 := ⟨c.1, c.2.1, c.2.2⟩
theorem spec_l16All_val (l : List S65) (hl : l.length ≤ 4) (hy : ∀ b ∈ l, b.f1.length ≤ 6) : spec_l16All.F l = some ((cutsFrom 0 l).map mkL16P) := by
  have inner : ∀ (ps : List (List Int)) (i : Nat), ps.length ≤ 7 → (∀ p ∈ ps, p.length = 2) → ∀ (d j : Nat) (out : List S138), j + d = ps.length → out.length + (ps.length - j) ≤ 1000 → spec_l16All.L1 l out (i : Int) ps (j : Int) = spec_l16All.L0 l (out ++ (ps.drop j).map (fun p => mkL16P ((i : Int), rd p 0, rd p 1))) (wrap64 ((i : Int) + 1)) := by
    intro ps i hps h2 d
    induction d with
    | zero =>
      intro j out hd ho
      rw [spec_l16All.L1_eq, if_neg (by omega), List.drop_of_length_le (by omega)]
      simp
    | succ d ih =>
      intro j out hd ho
      have hj : j < ps.length := by omega
      have hp2 := h2 _ (List.getElem_mem hj)
      have h1 : out.length < 5864062014805 := by omega
      rw [spec_l16All.L1_eq, if_pos (by omega), if_pos (by omega), rdLL ps j hj, hp2, if_pos (by decide), if_pos (by decide), if_pos h1, wS (by omega), ih (j + 1) _ (by omega) (by rw [List.length_append]; simp; omega), List.drop_eq_getElem_cons hj]
      simp only [List.map_cons, List.append_assoc, List.cons_append, List.nil_append]
      rfl
  have outer : ∀ (d i : Nat) (out : List S138), i + d = l.length → out.length ≤ 7 * i → spec_l16All.L0 l out (i : Int) = some (out ++ (cutsFrom (i : Int) (l.drop i)).map mkL16P) := by
    intro d
    induction d with
    | zero =>
      intro i out hd ho
      rw [spec_l16All.L0_eq, if_neg (by omega), List.drop_of_length_le (by omega)]
      simp [cutsFrom]
    | succ d ih =>
      intro i out hd ho
      have hi : i < l.length := by omega
      have hb := hy _ (List.getElem_mem hi)
      have hpl : (partsOf l[i]).length ≤ 7 := by unfold partsOf; rw [partsFrom_len]; omega
      rw [spec_l16All.L0_eq, if_pos (by omega), if_pos (by omega), rdIBolt l i hi, spec_l16Parts_val _ (by omega)]
      simp only [Option.bind_some]
      have e := inner (partsOf l[i]) i hpl (partsFrom_two _ _ _) (partsOf l[i]).length 0 out (by omega) (by omega)
      rw [show ((0 : Nat) : Int) = 0 from rfl] at e
      rw [e, wS (by omega), ih (i + 1) _ (by omega) (by rw [List.length_append, List.length_map, List.length_drop]; omega), List.drop_eq_getElem_cons hi]
      simp [cutsFrom, mkL16P, Function.comp_def]
  rw [spec_l16All.F_eq]
  have := outer l.length 0 [] (by omega) (by simp)
  simpa using this
theorem impl_soundParts_val (x : Int) (l : List Int) (hl : l.length ≤ 1048576) : impl_soundParts.F x l = some (partsFrom x 0 l) := by
  have key : ∀ (d i : Nat) (out : List (List Int)) (a : Int), i + d = l.length → out.length ≤ i → impl_soundParts.L0 out a l (l.length : Int) (i : Int) x l = some (out ++ partsFrom x a (l.drop i)) := by
    intro d
    induction d with
    | zero =>
      intro i out a hd ho
      have h1 : out.length < 5864062014805 := by omega
      rw [impl_soundParts.L0_eq, if_neg (by omega), if_pos h1, List.drop_of_length_le (by omega)]
      rfl
    | succ d ih =>
      intro i out a hd ho
      have hi : i < l.length := by omega
      have h1 : out.length < 5864062014805 := by omega
      rw [impl_soundParts.L0_eq, if_pos (by omega), if_pos (by omega), if_pos (by omega), if_pos h1, rd_get _ i hi, wS (by omega), ih (i + 1) _ _ (by omega) (by rw [List.length_append]; simp; omega), List.drop_eq_getElem_cons hi]
      simp [partsFrom]
  rw [impl_soundParts.F_eq]
  have := key l.length 0 [] 0 (by omega) (by simp)
  simpa using this
def mkPart (c : Int × Int × Int) : S142 := ⟨c.1, c.2.1, c.2.2⟩
theorem impl_partsOfBolts_val (l : List S65) (hl : l.length ≤ 4) (hy : ∀ b ∈ l, b.f1.length ≤ 6) : impl_partsOfBolts.F l = some ((cutsFrom 0 l).map mkPart) := by
  have inner : ∀ (ps : List (List Int)) (i : Nat), ps.length ≤ 7 → (∀ p ∈ ps, p.length = 2) → ∀ (d j : Nat) (out : List S142), j + d = ps.length → out.length + (ps.length - j) ≤ 1000 → impl_partsOfBolts.L1 out (i : Int) l (l.length : Int) (i : Int) ps (ps.length : Int) (j : Int) = impl_partsOfBolts.L0 (out ++ (ps.drop j).map (fun p => mkPart ((i : Int), rd p 0, rd p 1))) l (l.length : Int) (wrap64 ((i : Int) + 1)) := by
    intro ps i hps h2 d
    induction d with
    | zero =>
      intro j out hd ho
      rw [impl_partsOfBolts.L1_eq, if_neg (by omega), List.drop_of_length_le (by omega)]
      simp
    | succ d ih =>
      intro j out hd ho
      have hj : j < ps.length := by omega
      have hp2 := h2 _ (List.getElem_mem hj)
      have h1 : out.length < 5864062014805 := by omega
      rw [impl_partsOfBolts.L1_eq, if_pos (by omega), if_pos (by omega), if_pos (by omega), rdLL ps j hj, hp2, if_pos (by decide), if_pos (by decide), if_pos h1, wS (by omega), ih (j + 1) _ (by omega) (by rw [List.length_append]; simp; omega), List.drop_eq_getElem_cons hj]
      simp only [List.map_cons, List.append_assoc, List.cons_append, List.nil_append]
      rfl
  have outer : ∀ (d i : Nat) (out : List S142), i + d = l.length → out.length ≤ 7 * i → impl_partsOfBolts.L0 out l (l.length : Int) (i : Int) = some (out ++ (cutsFrom (i : Int) (l.drop i)).map mkPart) := by
    intro d
    induction d with
    | zero =>
      intro i out hd ho
      rw [impl_partsOfBolts.L0_eq, if_neg (by omega), List.drop_of_length_le (by omega)]
      simp [cutsFrom]
    | succ d ih =>
      intro i out hd ho
      have hi : i < l.length := by omega
      have hb := hy _ (List.getElem_mem hi)
      have hpl : (partsOf l[i]).length ≤ 7 := by unfold partsOf; rw [partsFrom_len]; omega
      rw [impl_partsOfBolts.L0_eq, if_pos (by omega), if_pos (by omega), if_pos (by omega), rdIBolt l i hi, impl_soundParts_val _ _ (by omega)]
      simp only [Option.bind_some]
      have e := inner (partsOf l[i]) i hpl (partsFrom_two _ _ _) (partsOf l[i]).length 0 out (by omega) (by omega)
      rw [show ((0 : Nat) : Int) = 0 from rfl] at e
      refine (show impl_partsOfBolts.L1 out (i : Int) l (l.length : Int) (i : Int) (partsOf l[i]) ((partsOf l[i]).length : Int) 0 = _ from e).trans ?_
      rw [wS (by omega), ih (i + 1) _ (by omega) (by rw [List.length_append, List.length_map, List.length_drop]; omega), List.drop_eq_getElem_cons hi]
      simp [cutsFrom, mkPart, Function.comp_def]
  rw [impl_partsOfBolts.F_eq]
  have := outer l.length 0 [] (by omega) (by simp)
  simpa using this
theorem longest_loop (cs : List (Int × Int × Int)) (hl : cs.length ≤ 1048576) (d : Nat) : ∀ (i : Nat) (s : Int), i + d = cs.length → ∃ r, spec_LongestPanel.L0 s (cs.map mkL16P) (i : Int) = some (r, 0) ∧ impl_LongestPanel.L0 s (cs.map mkPart) ((cs.map mkPart).length : Int) (i : Int) = some (r, 0) := by
  induction d with
  | zero =>
    intro i s hd
    have h1 : ¬ (i : Int) < ((cs.map mkL16P).length : Int) := by rw [List.length_map]; omega
    have h2 : ¬ (i : Int) < ((cs.map mkPart).length : Int) := by rw [List.length_map]; omega
    rw [spec_LongestPanel.L0_eq, impl_LongestPanel.L0_eq, if_neg h1, if_neg h2]
    exact ⟨s, rfl, rfl⟩
  | succ d ih =>
    intro i s hd
    have hi : i < cs.length := by omega
    have h1 : (i : Int) < ((cs.map mkL16P).length : Int) := by rw [List.length_map]; omega
    have h2 : (i : Int) < ((cs.map mkPart).length : Int) := by rw [List.length_map]; omega
    have h0 : (0 : Int) ≤ (i : Int) := by omega
    have e1 : rd_T138 (cs.map mkL16P) (i : Int) = mkL16P cs[i] := by simp [rd_T138, hi]
    have e2 : rd_T142 (cs.map mkPart) (i : Int) = mkPart cs[i] := by simp [rd_T142, hi]
    rw [spec_LongestPanel.L0_eq, impl_LongestPanel.L0_eq, if_pos h1, if_pos h2, if_pos h0, if_pos h0, if_pos h2, e1, e2, wS (by omega)]
    unfold spec_l00Max.f
    show ∃ r, ((if s > wrap64 (cs[i].2.2 - cs[i].2.1) then some s else some (wrap64 (cs[i].2.2 - cs[i].2.1))).bind _) = _ ∧ impl_LongestPanel.L0 (mx s (wrap64 (cs[i].2.2 - cs[i].2.1))) _ _ _ = _
    have e3 : (if s > wrap64 (cs[i].2.2 - cs[i].2.1) then some s else some (wrap64 (cs[i].2.2 - cs[i].2.1))) = some (mx s (wrap64 (cs[i].2.2 - cs[i].2.1))) := by
      unfold mx
      split <;> split <;> first | rfl | (congr 1; omega)
    rw [e3]
    simp only [Option.bind_some]
    exact ih (i + 1) _ (by omega)
theorem pure_FnExactLongestPanel : laws_FnExactLongestPanel.Pure := by
  intro l0 hg
  refine of_lim (g := fun k => laws_FnExactLongestPanel.f k l0) ?_
  show laws_FnExactLongestPanel.F l0 = some true
  obtain ⟨r, hr, h⟩ := bolt_args l0 1048576 (by omega) (by omega) hg.1 (fun y hy => (hg.2 y hy).2.1)
  rcases h with h | ⟨h1, h2, h3, m, _, hm, hy, et, ee⟩
  · rw [laws_FnExactLongestPanel.F_eq, hr]; simp only [Option.bind_some]; rw [if_pos h]
  · obtain ⟨x, c, e1, e2⟩ : ∃ x c, spec_LongestPanel.F m = some (x, c) ∧ impl_LongestPanel.F m = some (x, c) := by
      rw [spec_LongestPanel.F_eq, impl_LongestPanel.F_eq, spec_l16Ok_val m (by omega) hy, impl_ValidBolts_val m (by omega) hy]
      simp only [Option.bind_some]
      cases hb : boltsOk m with
      | false => rw [if_neg nf, if_neg nf]; exact ⟨0, 1, rfl, rfl⟩
      | true =>
        rw [if_pos rfl, if_pos rfl]
        rw [boltsOk_iff] at hb
        have h6 : ∀ b ∈ m, b.f1.length ≤ 6 := fun b hbm => (boltOk_vals (hb.1 b hbm)).2.2.1
        by_cases h0 : (m.length : Int) = 0
        · rw [if_pos h0, if_pos h0]; exact ⟨0, 3, rfl, rfl⟩
        · rw [if_neg h0, if_neg h0, spec_l16All_val m hb.2 h6, impl_partsOfBolts_val m hb.2 h6]
          simp only [Option.bind_some]
          have hc := cutsFrom_len m h6 0
          obtain ⟨r, e3, e4⟩ := longest_loop (cutsFrom 0 m) (by omega) (cutsFrom 0 m).length 0 0 (by omega)
          exact ⟨r, 0, e3, e4⟩
    simp [laws_FnExactLongestPanel.F_eq, laws_FnExactLongestPanel.J0_eq, hr, h1, et, ee, e1, e2]
end Go.Proofs.Ytobejjbnklcgpaa.PFnExactLongestPanel
namespace Go.Proofs.Ytobejjbnklcgpaa.Pure
theorem FnExactLongestPanel : PFnExactLongestPanel.laws_FnExactLongestPanel.Pure := PFnExactLongestPanel.pure_FnExactLongestPanel
end Go.Proofs.Ytobejjbnklcgpaa.Pure
