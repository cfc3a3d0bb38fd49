/-
  The pure side of FnExactFirstPlaces: the program's FirstPlaces returns what the reference's returns. No conditions.
-/
import Derived.Test.YtlphfgbeeckjnaaQFnExactFirstPlaces
set_option linter.unusedVariables false
set_option linter.unusedSimpArgs false
set_option linter.unnecessarySimpa false
namespace Go.Proofs.Ytlphfgbeeckjnaa.PFnExactFirstPlaces
open Go.RowKit Go.Proofs.Ytlphfgbeeckjnaa.Kit Go.Proofs.YtlphfgbeeckjnaaW.PrintWords Go.Proofs.YtlphfgbeeckjnaaW.PrintLast Go.Proofs.YtlphfgbeeckjnaaW.PrintMore

theorem laws_szInt64S_val (l : List Int) (n : Int) (h : l.length ≤ 9223372036854775807) (hn : 0 ≤ n) (hn2 : n ≤ 1048576) : ∃ r, laws_szInt64S.f l n = some r ∧ (r < 0 ∨ 0 ≤ r ∧ r ≤ n ∧ (l.length : Int) ≤ n) := by
  unfold laws_szInt64S.f
  rw [w64 (by omega) (by omega)]
  by_cases hc : n < l.length
  · exact ⟨-1, by rw [if_pos (by omega)], Or.inl (by omega)⟩
  · exact ⟨n - l.length, by rw [if_neg (by omega)], Or.inr (by omega)⟩
theorem laws_szBolt_val (x : Int) (l : List Int) (n : Int) (h : l.length ≤ 9223372036854775807) (hn : 0 ≤ n) (hn2 : n ≤ 1048576) : ∃ r, laws_szBolt.f x l n = some r ∧ (r < 0 ∨ 0 ≤ r ∧ r ≤ n ∧ (l.length : Int) ≤ n) := by
  unfold laws_szBolt.f
  obtain ⟨r, hr, h1⟩ := laws_szInt64S_val l n h hn hn2
  rw [hr]; simp only [Option.bind_some]
  rcases h1 with h1 | h1
  · exact ⟨-1, by rw [if_pos h1], Or.inl (by omega)⟩
  · exact ⟨r, by rw [if_neg (by omega)], Or.inr h1⟩
/-- What a sum of sizes tells: it is less than 0, or all that it adds up is small. -/
theorem szLoop {α : Type} (l : List α) (small : α → Prop) (n : Int) (hn0 : 0 ≤ n) (g : Int → Int → Option Int) (h : ∀ (i : Nat) (s : Int) (hi : i < l.length), 0 ≤ s → s ≤ n → g s (i : Int) = some (-1) ∨ ∃ s', g s (i : Int) = g s' ((i + 1 : Nat) : Int) ∧ 0 ≤ s' ∧ s' ≤ s ∧ small l[i]) (he : ∀ s, g s (l.length : Int) = some s) :
    ∃ r, g n 0 = some r ∧ (r < 0 ∨ 0 ≤ r ∧ r ≤ n ∧ ∀ y ∈ l, small y) := by
  have key : ∀ (d i : Nat) (s : Int), i + d = l.length → 0 ≤ s → s ≤ n → (∀ y ∈ l.take i, small y) → ∃ r, g s (i : Int) = some r ∧ (r < 0 ∨ 0 ≤ r ∧ r ≤ n ∧ ∀ y ∈ l, small y) := by
    intro d
    induction d with
    | zero =>
      intro i s hd h0 h1 hs
      rw [show (i : Int) = (l.length : Int) by omega, he]
      rw [List.take_of_length_le (by omega)] at hs
      exact ⟨s, rfl, Or.inr ⟨h0, h1, hs⟩⟩
    | succ d ih =>
      intro i s hd h0 h1 hs
      have hi : i < l.length := by omega
      rcases h i s hi h0 h1 with h2 | ⟨s', h2, h3, h4, h5⟩
      · exact ⟨-1, h2, Or.inl (by omega)⟩
      · rw [h2]
        refine ih (i + 1) s' (by omega) h3 (by omega) (fun y hy => ?_)
        rw [List.take_succ_eq_append_getElem hi, List.mem_append, List.mem_singleton] at hy
        rcases hy with h6 | rfl
        · exact hs y h6
        · exact h5
  exact key l.length 0 n (by omega) hn0 (Int.le_refl _) (by simp)
theorem rdLBolt (l : List S24) (i : Nat) (h : i < l.length) : rd_T24 l (i : Int) = l[i] := by simp [rd_T24, h]
theorem laws_szBoltS_val (l : List S24) (n : Int) (h : l.length ≤ 9223372036854775807) (hy : ∀ y ∈ l, y.f1.length ≤ 9223372036854775807) (hn : 0 ≤ n) (hn2 : n ≤ 1048576) : ∃ r, laws_szBoltS.F l n = some r ∧ (r < 0 ∨ 0 ≤ r ∧ r ≤ n ∧ (l.length : Int) ≤ n ∧ ∀ y ∈ l, (y.f1.length : Int) ≤ n) := by
  rw [laws_szBoltS.F_eq, w64 (by omega) (by omega)]
  by_cases hc : n - (l.length : Int) < 0
  · exact ⟨-1, by rw [if_pos hc], Or.inl (by omega)⟩
  · rw [if_neg hc]
    obtain ⟨r, hr, h1⟩ := szLoop l (fun y => (y.f1.length : Int) ≤ n) (n - (l.length : Int)) (by omega) (fun s i => laws_szBoltS.L0 l s i) (fun i s hi h0 h2 => by
      show laws_szBoltS.L0 l s i = _ ∨ ∃ s', laws_szBoltS.L0 l s i = laws_szBoltS.L0 l s' _ ∧ _
      rw [laws_szBoltS.L0_eq, if_pos (by omega), if_pos (by omega), rdLBolt l i hi, wS (by omega)]
      obtain ⟨q, hq, h3⟩ := laws_szBolt_val l[i].f0 l[i].f1 s (hy _ (List.getElem_mem hi)) h0 (by omega)
      rw [hq]
      simp only [Option.bind_some]
      rcases h3 with h3 | ⟨h3, h4, h5⟩
      · left; rw [if_pos h3]
      · right; exact ⟨q, by rw [if_neg (by omega)], h3, h4, by omega⟩) (fun s => by
      show laws_szBoltS.L0 l s _ = _
      rw [laws_szBoltS.L0_eq, if_neg (by omega)])
    refine ⟨r, hr, ?_⟩
    rcases h1 with h1 | ⟨h1, h2, h3⟩
    · exact Or.inl h1
    · exact Or.inr ⟨h1, by omega, by omega, h3⟩
theorem laws_toInt64S_val (l : List Int) (hl : l.length ≤ 1048576) : laws_toInt64S.F l = some l := by
  rw [laws_toInt64S.F_eq, if_pos (by omega), if_pos (by omega), Int.toNat_natCast]
  have := fillLoop l 0 (fun s i => laws_toInt64S.L0 l s i) (fun i s hi hs => by
    show laws_toInt64S.L0 l s i = _
    rw [laws_toInt64S.L0_eq, if_pos (by omega), if_pos (by omega), wS (by omega), if_pos (by omega), Int.toNat_natCast, rd_get l i hi])
  refine this.trans ?_
  show laws_toInt64S.L0 l _ _ = _
  rw [laws_toInt64S.L0_eq, if_neg (by omega)]
theorem laws_toBolt_val (x : Int) (l : List Int) (hl : l.length ≤ 1048576) : laws_toBolt.F x l = some (x, l) := by
  rw [laws_toBolt.F_eq, laws_toInt64S_val l hl]; rfl
def boltTo (p : S24) : S29 := ⟨p.f0, p.f1⟩
theorem laws_toBoltS_val (l : List S24) (hl : l.length ≤ 1048576) (hy : ∀ y ∈ l, y.f1.length ≤ 1048576) : laws_toBoltS.F l = some (l.map boltTo) := by
  rw [laws_toBoltS.F_eq, if_pos (by omega), if_pos (by omega), Int.toNat_natCast]
  have := fillLoop (l.map boltTo) z29 (fun s i => laws_toBoltS.L0 l s i) (fun i s hi hs => by
    rw [List.length_map] at hi hs
    show laws_toBoltS.L0 l s i = _
    rw [laws_toBoltS.L0_eq, if_pos (by omega), if_pos (by omega), rdLBolt l i hi, wS (by omega), laws_toBolt_val _ _ (hy _ (List.getElem_mem hi))]
    simp only [Option.bind_some]
    rw [if_pos (by omega), Int.toNat_natCast, List.getElem_map]
    rfl)
  rw [List.length_map] at this
  refine this.trans ?_
  show laws_toBoltS.L0 l _ _ = _
  rw [laws_toBoltS.L0_eq, if_neg (by omega)]
theorem laws_eqInt64S_val (l : List Int) (hl : l.length < 4611686018427387904) : laws_eqInt64S.F l l = some true := by
  rw [laws_eqInt64S.F_eq, if_pos rfl]
  have := allLoop l (fun _ => true) (fun i => laws_eqInt64S.L0 l l i) true (fun i hi => by
    show laws_eqInt64S.L0 l l i = _
    rw [laws_eqInt64S.L0_eq, if_pos (by omega), if_pos (by omega), if_pos (by omega), wS (by omega)]
    simp) (by
    show laws_eqInt64S.L0 l l _ = _
    rw [laws_eqInt64S.L0_eq, if_neg (by omega)])
  rw [this]; simp
theorem laws_eqBolt_val (x : Int) (l : List Int) (hl : l.length < 4611686018427387904) : laws_eqBolt.F x l x l = some true := by
  rw [laws_eqBolt.F_eq, if_pos rfl, laws_eqInt64S_val l hl]; rfl
theorem rdIBolt (l : List S29) (i : Nat) (h : i < l.length) : rd_T29 l (i : Int) = l[i] := by simp [rd_T29, h]
theorem laws_eqBoltS_val (l : List S29) (hl : l.length < 4611686018427387904) (hy : ∀ y ∈ l, y.f1.length < 4611686018427387904) : laws_eqBoltS.F l l = some true := by
  rw [laws_eqBoltS.F_eq, if_pos rfl]
  have := allLoop l (fun _ => true) (fun i => laws_eqBoltS.L0 l l i) true (fun i hi => by
    show laws_eqBoltS.L0 l l i = _
    rw [laws_eqBoltS.L0_eq, if_pos (by omega), if_pos (by omega), if_pos (by omega), wS (by omega), rdIBolt l i hi, laws_eqBolt_val _ _ (hy _ (List.getElem_mem hi))]
    rfl) (by
    show laws_eqBoltS.L0 l l _ = _
    rw [laws_eqBoltS.L0_eq, if_neg (by omega)])
  rw [this]; simp
/-- What the laws do with bolts that came in. -/
theorem bolt_args (l : List S24) (n : Int) (hn0 : 0 ≤ n) (hn1 : n ≤ 1048576) (h : l.length ≤ 9223372036854775807) (hy : ∀ y ∈ l, y.f1.length ≤ 9223372036854775807) : ∃ r, laws_szBoltS.F l n = some r ∧ (r < 0 ∨ ¬ r < 0 ∧ r ≤ n ∧ l.length ≤ 1048576 ∧ ∃ m : List S29, m = l.map boltTo ∧ m.length = l.length ∧ (∀ y ∈ m, y.f1.length ≤ 1048576) ∧ laws_toBoltS.F l = some m ∧ laws_eqBoltS.F m m = some true) := by
  obtain ⟨r, hr, h1⟩ := laws_szBoltS_val l n h hy hn0 hn1
  refine ⟨r, hr, ?_⟩
  rcases h1 with h1 | ⟨h1, h2, h3, h4⟩
  · exact Or.inl h1
  · have h5 : ∀ y ∈ l.map boltTo, y.f1.length ≤ 1048576 := by
      intro y hy2
      obtain ⟨z, hz, rfl⟩ := List.mem_map.1 hy2
      have := h4 z hz
      show z.f1.length ≤ _
      omega
    refine Or.inr ⟨by omega, h2, by omega, l.map boltTo, rfl, by simp, h5, laws_toBoltS_val l (by omega) (fun y hy2 => by have := h4 y hy2; omega), laws_eqBoltS_val _ (by rw [List.length_map]; omega) (fun y hy2 => by have := h5 y hy2; omega)⟩
theorem laws_eqPieceS_val (l : List S114) (hl : l.length < 4611686018427387904) : laws_eqPieceS.F l l = some true := by
  rw [laws_eqPieceS.F_eq, if_pos rfl]
  have := allLoop l (fun _ => true) (fun i => laws_eqPieceS.L0 l l i) true (fun i hi => by
    show laws_eqPieceS.L0 l l i = _
    rw [laws_eqPieceS.L0_eq, if_pos (by omega), if_pos (by omega), if_pos (by omega), wS (by omega)]
    unfold laws_eqPiece.f
    simp) (by
    show laws_eqPieceS.L0 l l _ = _
    rw [laws_eqPieceS.L0_eq, if_neg (by omega)])
  rw [this]; simp
theorem rdIPiece (l : List S114) (i : Nat) (h : i < l.length) : rd_T114 l (i : Int) = l[i] := by simp [rd_T114, h]
/-- Pieces that bear the numbers from k on. -/
def piecesFrom (k : Int) (n : Nat) : List S114 := (List.range n).map fun (j : Nat) => (⟨k + 2 * (j : Int), k + 2 * (j : Int) + 1⟩ : S114)
theorem laws_markPieceS_val (l : List S114) (k : Int) (h0 : 0 ≤ k) (h1 : k + 2 * l.length ≤ 4611686018427387904) : laws_markPieceS.F l k = some (k + 2 * l.length, piecesFrom k l.length) := by
  rw [laws_markPieceS.F_eq]
  have hlen : ∀ i, i ≤ l.length → (piecesFrom k i ++ l.drop i).length = l.length := fun i hi => by simp [piecesFrom]; omega
  have := iterF (fun (s : List S114 × Int) i => laws_markPieceS.L0 s.1 s.2 i) l.length (fun i => (piecesFrom k i ++ l.drop i, k + 2 * (i : Int))) (fun i hi => by
    show laws_markPieceS.L0 _ _ _ = laws_markPieceS.L0 _ _ _
    have hl1 := hlen i (by omega)
    have hlu : (piecesFrom k i).length = i := by simp [piecesFrom]
    rw [laws_markPieceS.L0_eq, if_pos (by rw [hl1]; omega), if_pos (by omega), wS (by omega), w64 (n := k + 2 * (i : Int) + 1) (by omega) (by omega), w64 (by omega) (by omega), Int.toNat_natCast]
    simp only [Option.bind_some]
    have hr : ∀ v : S114, rd_T114 ((piecesFrom k i ++ l.drop i).set i v) (i : Int) = v := by
      intro v
      rw [rdIPiece _ i (by rw [List.length_set, hl1]; exact hi), List.getElem_set_self]
    rw [hr, List.set_set]
    have e1 : (piecesFrom k i ++ l.drop i).set i (⟨k + 2 * (i : Int), k + 2 * (i : Int) + 1⟩ : S114) = piecesFrom k (i + 1) ++ l.drop (i + 1) := by
      rw [List.set_append, hlu, if_neg (Nat.lt_irrefl i), Nat.sub_self, List.drop_eq_getElem_cons hi, List.set_cons_zero]
      unfold piecesFrom
      rw [List.range_succ, List.map_append, List.append_assoc]
      rfl
    show laws_markPieceS.L0 ((piecesFrom k i ++ l.drop i).set i (⟨k + 2 * (i : Int), k + 2 * (i : Int) + 1⟩ : S114)) _ _ = _
    rw [e1]
    congr 1
    omega)
  have e0 : piecesFrom k 0 ++ l.drop 0 = l := by simp [piecesFrom]
  simp only [e0] at this
  rw [show k + 2 * ((0 : Nat) : Int) = k by omega] at this
  refine this.trans ?_
  rw [laws_markPieceS.L0_eq, if_neg (by rw [hlen l.length (Nat.le_refl _)]; omega)]
  simp
theorem laws_heldPieceS_val (n : Nat) (k : Int) (h0 : 0 ≤ k) (h1 : k + 2 * n ≤ 4611686018427387904) : laws_heldPieceS.F (piecesFrom k n) k = some (k + 2 * n) := by
  rw [laws_heldPieceS.F_eq]
  have hlen : (piecesFrom k n).length = n := by simp [piecesFrom]
  have := iterF (fun (s : Int) i => laws_heldPieceS.L0 (piecesFrom k n) s i) n (fun i => k + 2 * (i : Int)) (fun i hi => by
    show laws_heldPieceS.L0 _ _ _ = laws_heldPieceS.L0 _ _ _
    have hr : rd_T114 (piecesFrom k n) (i : Int) = ⟨k + 2 * (i : Int), k + 2 * (i : Int) + 1⟩ := by
      rw [rdIPiece _ i (by omega)]
      simp [piecesFrom]
    rw [laws_heldPieceS.L0_eq, if_pos (by rw [hlen]; omega), if_pos (by omega), hr, if_pos rfl, w64 (n := k + 2 * (i : Int) + 1) (by omega) (by omega), if_pos rfl, wS (by omega), w64 (by omega) (by omega)]
    congr 1
    omega)
  rw [show k + 2 * ((0 : Nat) : Int) = k by omega] at this
  refine this.trans ?_
  show laws_heldPieceS.L0 _ _ _ = _
  rw [laws_heldPieceS.L0_eq, if_neg (by rw [hlen]; omega)]
/-- The numbers from k on. -/
def upFrom (k : Int) (n : Nat) : List Int := (List.range n).map fun (j : Nat) => k + (j : Int)
theorem laws_markInt64S_val (l : List Int) (k : Int) (h0 : 0 ≤ k) (h1 : k + l.length ≤ 4611686018427387904) : laws_markInt64S.F l k = some (k + l.length, upFrom k l.length) := by
  rw [laws_markInt64S.F_eq]
  have hlen : ∀ i, i ≤ l.length → (upFrom k i ++ l.drop i).length = l.length := fun i hi => by simp [upFrom]; omega
  have := iterF (fun (s : List Int × Int) i => laws_markInt64S.L0 s.1 s.2 i) l.length (fun i => (upFrom k i ++ l.drop i, k + (i : Int))) (fun i hi => by
    show laws_markInt64S.L0 _ _ _ = laws_markInt64S.L0 _ _ _
    have hl1 := hlen i (by omega)
    rw [laws_markInt64S.L0_eq, if_pos (by rw [hl1]; omega), if_pos (by omega), wS (by omega), w64 (by omega) (by omega), Int.toNat_natCast]
    have e1 : (upFrom k i ++ l.drop i).set i (k + (i : Int)) = upFrom k (i + 1) ++ l.drop (i + 1) := by
      have hlu : (upFrom k i).length = i := by simp [upFrom]
      rw [List.set_append, hlu, if_neg (Nat.lt_irrefl i), Nat.sub_self, List.drop_eq_getElem_cons hi, List.set_cons_zero]
      unfold upFrom
      rw [List.range_succ, List.map_append, List.append_assoc]
      rfl
    rw [e1]
    congr 1
    omega)
  have e0 : upFrom k 0 ++ l.drop 0 = l := by simp [upFrom]
  simp only [e0] at this
  rw [show k + ((0 : Nat) : Int) = k by omega] at this
  refine this.trans ?_
  rw [laws_markInt64S.L0_eq, if_neg (by rw [hlen l.length (Nat.le_refl _)]; omega)]
  simp
def inB (n a b : Int) : Bool := decide (a ≤ n) && decide (n ≤ b)
theorem inB_iff (n a b : Int) : inB n a b = true ↔ a ≤ n ∧ n ≤ b := by simp [inB]
theorem inB_no (n a b : Int) : inB n a b = false ↔ ¬ (a ≤ n ∧ n ≤ b) := by rw [← inB_iff]; simp
theorem spec_l00In_val (n a b : Int) : spec_l00In.f n a b = some (inB n a b) := by
  unfold spec_l00In.f inB
  by_cases h : n ≥ a
  · rw [if_pos h]; simp [show a ≤ n from h]
  · rw [if_neg h]; simp; omega
/-- At a place: within bounds, and more than the number before it. -/
def riseAt (l : List Int) (a b : Int) (i : Nat) : Bool := inB (rd l (i : Int)) a b && (decide (i = 0) || decide (rd l ((i : Int) - 1) < rd l (i : Int)))
theorem riseAt_def (l : List Int) (a b : Int) (i : Nat) : riseAt l a b i = (inB (rd l (i : Int)) a b && (decide (i = 0) || decide (rd l ((i : Int) - 1) < rd l (i : Int)))) := rfl
def rises (l : List Int) (a b : Int) : Bool := (List.range l.length).all (riseAt l a b)
theorem rises_iff (l : List Int) (a b : Int) : rises l a b = true ↔ ∀ i : Nat, i < l.length → (a ≤ rd l i ∧ rd l i ≤ b) ∧ (0 < i → rd l ((i : Int) - 1) < rd l i) := by
  unfold rises
  rw [List.all_eq_true]
  constructor
  · intro h i hi
    have := h i (List.mem_range.2 hi)
    rw [riseAt_def, Bool.and_eq_true, inB_iff, Bool.or_eq_true] at this
    refine ⟨this.1, fun h0 => ?_⟩
    rcases this.2 with h2 | h2
    · exact absurd (of_decide_eq_true h2) (by omega)
    · exact of_decide_eq_true h2
  · intro h i hi
    have := h i (List.mem_range.1 hi)
    rw [riseAt_def, Bool.and_eq_true, inB_iff, Bool.or_eq_true]
    refine ⟨this.1, ?_⟩
    by_cases h0 : i = 0
    · left; simp [h0]
    · right; exact decide_eq_true (this.2 (by omega))
theorem spec_l00Rises_val (l : List Int) (a b : Int) (hl : l.length < 4611686018427387904) : spec_l00Rises.F l a b = some (rises l a b) := by
  rw [spec_l00Rises.F_eq]
  refine (allRange l.length (riseAt l a b) (fun i => spec_l00Rises.L0 l a b i) true (fun i hi => ?_) ?_).trans (by rw [Bool.and_true]; rfl)
  · show spec_l00Rises.L0 l a b i = _
    rw [spec_l00Rises.L0_eq, if_pos (by omega), if_pos (by omega), spec_l00In_val, wS (by omega)]
    simp only [Option.bind_some]
    rw [riseAt_def, ite_band]
    by_cases h1 : inB (rd l (i : Int)) a b = true
    · rw [if_pos h1, if_pos h1]
      by_cases h0 : i = 0
      · rw [if_neg (by omega), if_pos (by simp [h0])]
      · rw [if_pos (by omega), w64 (by omega) (by omega), if_pos (by omega), if_pos (by omega)]
        by_cases h2 : rd l ((i : Int) - 1) ≥ rd l (i : Int)
        · rw [if_pos h2, if_neg (by simp [h0]; omega)]
        · rw [if_neg h2, if_pos (by simp [h0]; omega)]
    · rw [if_neg h1, if_neg h1]
  · show spec_l00Rises.L0 l a b _ = _
    rw [spec_l00Rises.L0_eq, if_neg (by omega)]
/-- A valid bolt. -/
def boltOk (b : S29) : Bool := inB b.f0 1 10000 && (decide (b.f1.length ≤ 6) && rises b.f1 1 (b.f0 - 1))
theorem boltOk_def (b : S29) : boltOk b = (inB b.f0 1 10000 && (decide (b.f1.length ≤ 6) && rises b.f1 1 (b.f0 - 1))) := rfl
def boltsOk (l : List S29) : Bool := l.all boltOk && decide (l.length ≤ 4)
theorem boltsOk_iff (l : List S29) : boltsOk l = true ↔ (∀ b ∈ l, boltOk b = true) ∧ l.length ≤ 4 := by
  unfold boltsOk
  rw [Bool.and_eq_true, List.all_eq_true, decide_eq_true_iff]
theorem boltOk_vals {b : S29} (h : boltOk b = true) : 1 ≤ b.f0 ∧ b.f0 ≤ 10000 ∧ b.f1.length ≤ 6 ∧ ∀ i : Nat, i < b.f1.length → (1 ≤ rd b.f1 i ∧ rd b.f1 i ≤ b.f0 - 1) ∧ (0 < i → rd b.f1 ((i : Int) - 1) < rd b.f1 i) := by
  rw [boltOk_def, Bool.and_eq_true, Bool.and_eq_true, inB_iff, decide_eq_true_iff, rises_iff] at h
  exact ⟨h.1.1, h.1.2, h.2.1, h.2.2⟩
theorem spec_l16One_val (b : S29) (hb : b.f1.length < 4611686018427387904) : spec_l16One.F [b] = some (boltOk b) := by
  have e : rd_T29 [b] 0 = b := rfl
  rw [spec_l16One.F_eq, e, if_pos (by simp), spec_l00In_val]
  simp only [Option.bind_some]
  rw [boltOk_def]
  cases h1 : inB b.f0 1 10000 with
  | false => rw [if_neg nf]; rfl
  | true =>
    rw [if_pos rfl]
    rw [inB_iff] at h1
    by_cases h2 : (b.f1.length : Int) ≤ 6
    · rw [if_pos h2, decide_eq_true (by omega), w64 (by omega) (by omega), spec_l00Rises_val _ _ _ hb]
      simp
    · rw [if_neg h2, decide_eq_false (by omega)]
      rfl
theorem spec_l16Ok_val (l : List S29) (hl : l.length < 4611686018427387904) (hy : ∀ y ∈ l, y.f1.length ≤ 1048576) : spec_l16Ok.F l = some (boltsOk l) := by
  rw [spec_l16Ok.F_eq]
  refine allLoop l boltOk (fun i => spec_l16Ok.L0 l i) _ (fun i hi => ?_) ?_
  · show spec_l16Ok.L0 l i = _
    rw [spec_l16Ok.L0_eq, if_pos (by omega), if_pos (by omega), rdIBolt l i hi, wS (by omega), spec_l16One_val _ (by have := hy _ (List.getElem_mem hi); omega)]
    rfl
  · show spec_l16Ok.L0 l _ = _
    rw [spec_l16Ok.L0_eq, if_neg (by omega)]
    simp; omega
def panels16 (l : List Int) : Bool := l.all (fun x => inB x 1 10000) && decide (l.length ≤ 6)
theorem panels16_iff (l : List Int) : panels16 l = true ↔ (∀ x ∈ l, 1 ≤ x ∧ x ≤ 10000) ∧ l.length ≤ 6 := by
  unfold panels16
  rw [Bool.and_eq_true, List.all_eq_true, decide_eq_true_iff]
  exact and_congr (forall_congr' fun x => imp_congr Iff.rfl (inB_iff x 1 10000)) Iff.rfl
theorem spec_l16Panels_val (l : List Int) (hl : l.length < 4611686018427387904) : spec_l16Panels.F l = some (panels16 l) := by
  rw [spec_l16Panels.F_eq]
  refine allLoop l (fun x => inB x 1 10000) (fun i => spec_l16Panels.L0 l i) _ (fun i hi => ?_) ?_
  · show spec_l16Panels.L0 l i = _
    rw [spec_l16Panels.L0_eq, if_pos (by omega), if_pos (by omega), rd_get l i hi, wS (by omega), spec_l00In_val]
    rfl
  · show spec_l16Panels.L0 l _ = _
    rw [spec_l16Panels.L0_eq, if_neg (by omega)]
    simp; omega
def twoCode (l : List S29) (ps : List Int) : Int := if boltsOk l = true then (if panels16 ps = true then 0 else 2) else 1
theorem twoCode_ok {l : List S29} {ps : List Int} (h : twoCode l ps = 0) : boltsOk l = true ∧ panels16 ps = true := by
  unfold twoCode at h
  by_cases h1 : boltsOk l = true
  · rw [if_pos h1] at h
    by_cases h2 : panels16 ps = true
    · exact ⟨h1, h2⟩
    · rw [if_neg h2] at h; omega
  · rw [if_neg h1] at h; omega
theorem spec_l16Two_val (l : List S29) (ps : List Int) (hl : l.length < 4611686018427387904) (hy : ∀ y ∈ l, y.f1.length ≤ 1048576) (hp : ps.length < 4611686018427387904) : spec_l16Two.F l ps = some (twoCode l ps) := by
  rw [spec_l16Two.F_eq, spec_l16Ok_val l hl hy]
  simp only [Option.bind_some]
  unfold twoCode
  by_cases h1 : boltsOk l = true
  · rw [if_pos h1, if_pos h1, spec_l16Panels_val ps hp]
    simp only [Option.bind_some]
    split <;> rfl
  · rw [if_neg h1, if_neg h1]
theorem impl_within_val (n a b : Int) : impl_within.f n a b = some (inB n a b) := by
  unfold impl_within.f inB
  by_cases h : n ≥ a
  · rw [if_pos h]; simp [show a ≤ n from h]
  · rw [if_neg h]; simp; omega
theorem impl_validBolt_val (x : Int) (l : List Int) (hl : l.length < 4611686018427387904) : impl_validBolt.F x l = some (boltOk ⟨x, l⟩) := by
  rw [impl_validBolt.F_eq, impl_within_val]
  simp only [Option.bind_some]
  rw [boltOk_def]
  show _ = some (inB x 1 10000 && (decide (l.length ≤ 6) && rises l 1 (x - 1)))
  cases h1 : inB x 1 10000 with
  | false => rw [if_neg nf, impl_validBolt.J0_eq, if_pos rfl]; rfl
  | true =>
    rw [if_pos rfl]
    rw [inB_iff] at h1
    by_cases h2 : (l.length : Int) > 6
    · rw [decide_eq_true h2, impl_validBolt.J0_eq, if_pos rfl, decide_eq_false (by omega)]
      rfl
    · rw [decide_eq_false h2, impl_validBolt.J0_eq, if_neg nf, decide_eq_true (by omega)]
      refine (allRange l.length (riseAt l 1 (x - 1)) (fun i => impl_validBolt.L0 l (l.length : Int) i x l) true (fun i hi => ?_) ?_).trans (by simp [rises])
      · show impl_validBolt.L0 _ _ i _ _ = _
        rw [impl_validBolt.L0_eq, if_pos (by omega), if_pos (by omega), if_pos (by omega), w64 (n := x - 1) (by omega) (by omega), impl_within_val, wS (by omega)]
        simp only [Option.bind_some]
        rw [riseAt_def, ite_band]
        by_cases h3 : inB (rd l (i : Int)) 1 (x - 1) = true
        · rw [if_pos h3, if_pos h3]
          by_cases h0 : i = 0
          · rw [if_neg (by omega), if_pos (by simp [h0])]
          · rw [if_pos (by omega), w64 (by omega) (by omega), if_pos (by omega), if_pos (by omega)]
            by_cases h4 : rd l (i : Int) ≤ rd l ((i : Int) - 1)
            · rw [if_pos h4, if_neg (by simp [h0]; omega)]
            · rw [if_neg h4, if_pos (by simp [h0]; omega)]
        · rw [if_neg h3, if_neg h3]
      · show impl_validBolt.L0 _ _ _ _ _ = _
        rw [impl_validBolt.L0_eq, if_neg (by omega)]
theorem impl_ValidBolts_val (l : List S29) (hl : l.length < 4611686018427387904) (hy : ∀ y ∈ l, y.f1.length ≤ 1048576) : impl_ValidBolts.F l = some (boltsOk l) := by
  rw [impl_ValidBolts.F_eq]
  unfold boltsOk
  by_cases h : (l.length : Int) > 4
  · rw [if_pos h]; simp; omega
  · rw [if_neg h]
    have := allLoop l boltOk (fun i => impl_ValidBolts.L0 l (l.length : Int) i) true (fun i hi => by
      show impl_ValidBolts.L0 l _ i = _
      rw [impl_ValidBolts.L0_eq, if_pos (by omega), if_pos (by omega), if_pos (by omega), rdIBolt l i hi, wS (by omega), impl_validBolt_val _ _ (by have := hy _ (List.getElem_mem hi); omega)]
      rfl) (by
      show impl_ValidBolts.L0 l _ _ = _
      rw [impl_ValidBolts.L0_eq, if_neg (by omega)])
    rw [this]
    simp; omega
theorem impl_areIn_val (l : List Int) (n a b : Int) (hl : l.length < 4611686018427387904) : impl_areIn.F l n a b = some (decide ((l.length : Int) = n) && l.all (fun x => inB x a b)) := by
  rw [impl_areIn.F_eq]
  by_cases h : (l.length : Int) = n
  · rw [if_pos h, decide_eq_true h]
    refine (allLoop l (fun x => inB x a b) (fun i => impl_areIn.L0 a b l (l.length : Int) i) true (fun i hi => ?_) ?_).trans (by simp)
    · show impl_areIn.L0 a b l _ i = _
      rw [impl_areIn.L0_eq, if_pos (by omega), if_pos (by omega), if_pos (by omega), rd_get l i hi, wS (by omega), impl_within_val]
      rfl
    · show impl_areIn.L0 a b l _ _ = _
      rw [impl_areIn.L0_eq, if_neg (by omega)]
  · rw [if_neg h, decide_eq_false h]; rfl
theorem impl_panelsCode_val (l : List S29) (ps : List Int) (hl : l.length < 4611686018427387904) (hy : ∀ y ∈ l, y.f1.length ≤ 1048576) (hp : ps.length < 4611686018427387904) : impl_panelsCode.F l ps = some (twoCode l ps) := by
  rw [impl_panelsCode.F_eq, impl_ValidBolts_val l hl hy]
  simp only [Option.bind_some]
  unfold twoCode
  by_cases h1 : boltsOk l = true
  · rw [if_pos h1, if_pos h1]
    by_cases h2 : (ps.length : Int) > 6
    · rw [if_pos h2, if_neg (by unfold panels16; simp; omega)]
    · rw [if_neg h2, impl_areIn_val ps _ 1 10000 hp, decide_eq_true rfl]
      simp only [Option.bind_some]
      have e : panels16 ps = (true && ps.all fun x => inB x 1 10000) := by unfold panels16; rw [decide_eq_true (by omega)]; simp
      rw [e]
      split <;> rfl
  · rw [if_neg h1, if_neg h1]
/-- The sound parts of a bolt: from a place on, up to its end. -/
def partsFrom (e : Int) (a : Int) : List Int → List (List Int)
  | [] => [[a, e]]
  | f :: r => [a, f] :: partsFrom e f r
theorem partsFrom_len (e : Int) (l : List Int) : ∀ a, (partsFrom e a l).length = l.length + 1 := by
  induction l with
  | nil => intro a; rfl
  | cons f r ih => intro a; simp [partsFrom, ih]
theorem partsFrom_two (e : Int) (l : List Int) : ∀ a, ∀ p ∈ partsFrom e a l, p.length = 2 := by
  induction l with
  | nil => intro a p hp; simp [partsFrom] at hp; subst hp; rfl
  | cons f r ih =>
    intro a p hp
    simp only [partsFrom, List.mem_cons] at hp
    rcases hp with rfl | hp
    · rfl
    · exact ih f p hp
def partsOf (b : S29) : List (List Int) := partsFrom b.f0 0 b.f1
/-- All sound parts of all bolts: bolt, begin, end. -/
def cutsFrom (i : Int) : List S29 → List (Int × Int × Int)
  | [] => []
  | b :: r => (partsOf b).map (fun p => (i, rd p 0, rd p 1)) ++ cutsFrom (i + 1) r
theorem cutsFrom_len (l : List S29) (h : ∀ b ∈ l, b.f1.length ≤ 6) : ∀ i, (cutsFrom i l).length ≤ 7 * l.length := by
  induction l with
  | nil => intro i; simp [cutsFrom]
  | cons b r ih =>
    intro i
    have h1 := ih (fun c hc => h c (List.mem_cons_of_mem _ hc)) (i + 1)
    have h2 := h b List.mem_cons_self
    simp only [cutsFrom, List.length_append, List.length_map, List.length_cons]
    unfold partsOf
    rw [partsFrom_len]
    omega
theorem spec_l16Parts_val (b : S29) (hb : b.f1.length ≤ 1048576) : spec_l16Parts.F [b] = some (partsOf b) := by
  have e : rd_T29 [b] 0 = b := rfl
  have key : ∀ (d i : Nat) (out : List (List Int)) (a : Int), i + d = b.f1.length → out.length ≤ i → spec_l16Parts.L0 [b] out a (i : Int) = some (out ++ partsFrom b.f0 a (b.f1.drop i)) := by
    intro d
    induction d with
    | zero =>
      intro i out a hd ho
      have h1 : out.length < 5864062014805 := by omega
      rw [spec_l16Parts.L0_eq, e, if_neg (by omega), if_pos h1, List.drop_of_length_le (by omega)]
      rfl
    | succ d ih =>
      intro i out a hd ho
      have hi : i < b.f1.length := by omega
      have h1 : out.length < 5864062014805 := by omega
      rw [spec_l16Parts.L0_eq, e, if_pos (by omega), if_pos (by omega), if_pos h1, rd_get _ i hi, wS (by omega), ih (i + 1) _ _ (by omega) (by rw [List.length_append]; simp; omega), List.drop_eq_getElem_cons hi]
      simp [partsFrom]
  rw [spec_l16Parts.F_eq, if_pos (by simp)]
  have := key b.f1.length 0 [] 0 (by omega) (by simp)
  simpa [partsOf] using this
theorem rdLL (l : List (List Int)) (i : Nat) (h : i < l.length) : rd_L1 l (i : Int) = l[i] := by simp [rd_L1, h]
def mkL16P (c : Int × Int × Int) : S111 := ⟨c.1, c.2.1, c.2.2⟩
theorem spec_l16All_val (l : List S29) (hl : l.length ≤ 4) (hy : ∀ b ∈ l, b.f1.length ≤ 6) : spec_l16All.F l = some ((cutsFrom 0 l).map mkL16P) := by
  have inner : ∀ (ps : List (List Int)) (i : Nat), ps.length ≤ 7 → (∀ p ∈ ps, p.length = 2) → ∀ (d j : Nat) (out : List S111), j + d = ps.length → out.length + (ps.length - j) ≤ 1000 → spec_l16All.L1 l out (i : Int) ps (j : Int) = spec_l16All.L0 l (out ++ (ps.drop j).map (fun p => mkL16P ((i : Int), rd p 0, rd p 1))) (wrap64 ((i : Int) + 1)) := by
    intro ps i hps h2 d
    induction d with
    | zero =>
      intro j out hd ho
      rw [spec_l16All.L1_eq, if_neg (by omega), List.drop_of_length_le (by omega)]
      simp
    | succ d ih =>
      intro j out hd ho
      have hj : j < ps.length := by omega
      have hp2 := h2 _ (List.getElem_mem hj)
      have h1 : out.length < 5864062014805 := by omega
      rw [spec_l16All.L1_eq, if_pos (by omega), if_pos (by omega), rdLL ps j hj, hp2, if_pos (by decide), if_pos (by decide), if_pos h1, wS (by omega), ih (j + 1) _ (by omega) (by rw [List.length_append]; simp; omega), List.drop_eq_getElem_cons hj]
      simp only [List.map_cons, List.append_assoc, List.cons_append, List.nil_append]
      rfl
  have outer : ∀ (d i : Nat) (out : List S111), i + d = l.length → out.length ≤ 7 * i → spec_l16All.L0 l out (i : Int) = some (out ++ (cutsFrom (i : Int) (l.drop i)).map mkL16P) := by
    intro d
    induction d with
    | zero =>
      intro i out hd ho
      rw [spec_l16All.L0_eq, if_neg (by omega), List.drop_of_length_le (by omega)]
      simp [cutsFrom]
    | succ d ih =>
      intro i out hd ho
      have hi : i < l.length := by omega
      have hb := hy _ (List.getElem_mem hi)
      have hpl : (partsOf l[i]).length ≤ 7 := by unfold partsOf; rw [partsFrom_len]; omega
      rw [spec_l16All.L0_eq, if_pos (by omega), if_pos (by omega), rdIBolt l i hi, spec_l16Parts_val _ (by omega)]
      simp only [Option.bind_some]
      have e := inner (partsOf l[i]) i hpl (partsFrom_two _ _ _) (partsOf l[i]).length 0 out (by omega) (by omega)
      rw [show ((0 : Nat) : Int) = 0 from rfl] at e
      rw [e, wS (by omega), ih (i + 1) _ (by omega) (by rw [List.length_append, List.length_map, List.length_drop]; omega), List.drop_eq_getElem_cons hi]
      simp [cutsFrom, mkL16P, Function.comp_def]
  rw [spec_l16All.F_eq]
  have := outer l.length 0 [] (by omega) (by simp)
  simpa using this
theorem impl_soundParts_val (x : Int) (l : List Int) (hl : l.length ≤ 1048576) : impl_soundParts.F x l = some (partsFrom x 0 l) := by
  have key : ∀ (d i : Nat) (out : List (List Int)) (a : Int), i + d = l.length → out.length ≤ i → impl_soundParts.L0 out a l (l.length : Int) (i : Int) x l = some (out ++ partsFrom x a (l.drop i)) := by
    intro d
    induction d with
    | zero =>
      intro i out a hd ho
      have h1 : out.length < 5864062014805 := by omega
      rw [impl_soundParts.L0_eq, if_neg (by omega), if_pos h1, List.drop_of_length_le (by omega)]
      rfl
    | succ d ih =>
      intro i out a hd ho
      have hi : i < l.length := by omega
      have h1 : out.length < 5864062014805 := by omega
      rw [impl_soundParts.L0_eq, if_pos (by omega), if_pos (by omega), if_pos (by omega), if_pos h1, rd_get _ i hi, wS (by omega), ih (i + 1) _ _ (by omega) (by rw [List.length_append]; simp; omega), List.drop_eq_getElem_cons hi]
      simp [partsFrom]
  rw [impl_soundParts.F_eq]
  have := key l.length 0 [] 0 (by omega) (by simp)
  simpa using this
def mkPart (c : Int × Int × Int) : S119 := ⟨c.1, c.2.1, c.2.2⟩
theorem impl_partsOfBolts_val (l : List S29) (hl : l.length ≤ 4) (hy : ∀ b ∈ l, b.f1.length ≤ 6) : impl_partsOfBolts.F l = some ((cutsFrom 0 l).map mkPart) := by
  have inner : ∀ (ps : List (List Int)) (i : Nat), ps.length ≤ 7 → (∀ p ∈ ps, p.length = 2) → ∀ (d j : Nat) (out : List S119), j + d = ps.length → out.length + (ps.length - j) ≤ 1000 → impl_partsOfBolts.L1 out (i : Int) l (l.length : Int) (i : Int) ps (ps.length : Int) (j : Int) = impl_partsOfBolts.L0 (out ++ (ps.drop j).map (fun p => mkPart ((i : Int), rd p 0, rd p 1))) l (l.length : Int) (wrap64 ((i : Int) + 1)) := by
    intro ps i hps h2 d
    induction d with
    | zero =>
      intro j out hd ho
      rw [impl_partsOfBolts.L1_eq, if_neg (by omega), List.drop_of_length_le (by omega)]
      simp
    | succ d ih =>
      intro j out hd ho
      have hj : j < ps.length := by omega
      have hp2 := h2 _ (List.getElem_mem hj)
      have h1 : out.length < 5864062014805 := by omega
      rw [impl_partsOfBolts.L1_eq, if_pos (by omega), if_pos (by omega), if_pos (by omega), rdLL ps j hj, hp2, if_pos (by decide), if_pos (by decide), if_pos h1, wS (by omega), ih (j + 1) _ (by omega) (by rw [List.length_append]; simp; omega), List.drop_eq_getElem_cons hj]
      simp only [List.map_cons, List.append_assoc, List.cons_append, List.nil_append]
      rfl
  have outer : ∀ (d i : Nat) (out : List S119), i + d = l.length → out.length ≤ 7 * i → impl_partsOfBolts.L0 out l (l.length : Int) (i : Int) = some (out ++ (cutsFrom (i : Int) (l.drop i)).map mkPart) := by
    intro d
    induction d with
    | zero =>
      intro i out hd ho
      rw [impl_partsOfBolts.L0_eq, if_neg (by omega), List.drop_of_length_le (by omega)]
      simp [cutsFrom]
    | succ d ih =>
      intro i out hd ho
      have hi : i < l.length := by omega
      have hb := hy _ (List.getElem_mem hi)
      have hpl : (partsOf l[i]).length ≤ 7 := by unfold partsOf; rw [partsFrom_len]; omega
      rw [impl_partsOfBolts.L0_eq, if_pos (by omega), if_pos (by omega), if_pos (by omega), rdIBolt l i hi, impl_soundParts_val _ _ (by omega)]
      simp only [Option.bind_some]
      have e := inner (partsOf l[i]) i hpl (partsFrom_two _ _ _) (partsOf l[i]).length 0 out (by omega) (by omega)
      rw [show ((0 : Nat) : Int) = 0 from rfl] at e
      refine (show impl_partsOfBolts.L1 out (i : Int) l (l.length : Int) (i : Int) (partsOf l[i]) ((partsOf l[i]).length : Int) 0 = _ from e).trans ?_
      rw [wS (by omega), ih (i + 1) _ (by omega) (by rw [List.length_append, List.length_map, List.length_drop]; omega), List.drop_eq_getElem_cons hi]
      simp [cutsFrom, mkPart, Function.comp_def]
  rw [impl_partsOfBolts.F_eq]
  have := outer l.length 0 [] (by omega) (by simp)
  simpa using this
theorem idxF_cases {α : Type} (p : α → Bool) (l : List α) : (∃ k, ∃ hk : k < l.length, p l[k] = true ∧ (∀ j (hj : j < k), p (l[j]'(by omega)) = false) ∧ idxF p l = (k : Int)) ∨ ((∀ j (hj : j < l.length), p l[j] = false) ∧ idxF p l = -1) := by
  cases h : l.findIdx? p with
  | some k =>
    left
    obtain ⟨hk, h1, h2⟩ := List.findIdx?_eq_some_iff_getElem.1 h
    exact ⟨k, hk, h1, fun j hj => by simpa using h2 j hj, by unfold idxF; rw [h]⟩
  | none =>
    right
    rw [List.findIdx?_eq_none_iff] at h
    exact ⟨fun j hj => h _ (List.getElem_mem hj), by unfold idxF; rw [List.findIdx?_eq_none_iff.2 h]⟩
theorem idxF_first {α : Type} (p : α → Bool) (l : List α) (i : Nat) (hi : i < l.length) (hp : p l[i] = true) (ha : ∀ j (hj : j < i), p (l[j]'(by omega)) = false) : idxF p l = (i : Int) := by
  rcases idxF_cases p l with ⟨k, hk, h1, h2, e⟩ | ⟨h1, e⟩
  · by_cases h3 : k < i
    · have := ha k h3
      rw [h1] at this; cases this
    · by_cases h4 : i < k
      · have := h2 i h4
        rw [hp] at this; cases this
      · rw [e]; omega
  · have := h1 i hi
    rw [hp] at this; cases this
theorem idxF_take {α : Type} (p : α → Bool) (l : List α) (i : Nat) (hi : i < l.length) (hp : p l[i] = true) : (idxF p l = (i : Int)) ↔ ¬ (idxF p (l.take i) ≥ 0) := by
  have hlen : (l.take i).length = i := by rw [List.length_take]; omega
  rcases idxF_cases p (l.take i) with ⟨k, hk, h1, h2, e⟩ | ⟨h1, e⟩
  · have hk2 : k < i := by omega
    rw [List.getElem_take] at h1
    constructor
    · intro h
      rcases idxF_cases p l with ⟨k', hk', h3, h4, e'⟩ | ⟨h3, e'⟩
      · have : k' = i := by omega
        subst this
        have := h4 k hk2
        rw [h1] at this
        cases this
      · omega
    · intro h; omega
  · constructor
    · intro _; omega
    · intro _
      exact idxF_first p l i hi hp (fun j hj => by have := h1 j (by omega); rwa [List.getElem_take] at this)
/-- A loop that finds the first. -/
theorem findLoop {α : Type} (l : List α) (p : α → Bool) (g : Int → Option Int) (h : ∀ i (hi : i < l.length), g (i : Int) = if p l[i] = true then some (i : Int) else g ((i + 1 : Nat) : Int)) (he : g (l.length : Int) = some (-1)) : g 0 = some (idxF p l) := by
  have key : ∀ (d i : Nat), l.length - i = d → i ≤ l.length → (∀ j (hj : j < i) (hl : j < l.length), p l[j] = false) → g (i : Int) = some (idxF p l) := by
    intro d
    induction d with
    | zero =>
      intro i hd hi ha
      obtain rfl : i = l.length := by omega
      rcases idxF_cases p l with ⟨k, hk, h1, h2, e⟩ | ⟨h1, e⟩
      · have := ha k hk hk
        rw [h1] at this; cases this
      · rw [he, e]
    | succ d ih =>
      intro i hd hi ha
      have hlt : i < l.length := by omega
      rw [h i hlt]
      by_cases hp : p l[i] = true
      · rw [if_pos hp, idxF_first p l i hlt hp (fun j hj => ha j hj (by omega))]
      · rw [if_neg hp]
        refine ih (i + 1) (by omega) (by omega) (fun j hj hl => ?_)
        by_cases e : j = i
        · subst e; simpa using hp
        · exact ha j (by omega) hl
  exact key l.length 0 (by omega) (by omega) (fun j hj => absurd hj (Nat.not_lt_zero _))
def fits (v : Int) (c : Int × Int × Int) : Bool := decide (wrap64 (c.2.2 - c.2.1) ≥ v)
theorem spec_first_out (ps : List Int) (P : List S111) (out : List S114) (i b k : Int) : spec_FirstPlaces.J2 ps P out i b k false = spec_FirstPlaces.J2 ps P out i b 0 false := by
  rw [spec_FirstPlaces.J2_eq ps P out i b k, spec_FirstPlaces.J2_eq ps P out i b 0, if_neg nf, if_neg nf]
theorem spec_first_find (ps : List Int) (cs : List (Int × Int × Int)) (out : List S114) (i : Nat) (hi : i < ps.length) (hc : cs.length ≤ 1048576) : spec_FirstPlaces.L1 ps (cs.map mkL16P) out (i : Int) (-1) 0 = spec_FirstPlaces.J2 ps (cs.map mkL16P) out (i : Int) (idxF (fits (rd ps (i : Int))) cs) 0 false := by
  have hlen : (cs.map mkL16P).length = cs.length := List.length_map ..
  have key : ∀ (d k : Nat), k + d = cs.length → (∀ j (hj : j < k) (hl : j < cs.length), fits (rd ps (i : Int)) cs[j] = false) → spec_FirstPlaces.L1 ps (cs.map mkL16P) out (i : Int) (-1) (k : Int) = spec_FirstPlaces.J2 ps (cs.map mkL16P) out (i : Int) (idxF (fits (rd ps (i : Int))) cs) 0 false := by
    intro d
    induction d with
    | zero =>
      intro k hk ha
      rw [spec_FirstPlaces.L1_eq, if_neg (by rw [hlen]; omega), spec_first_out]
      rcases idxF_cases (fits (rd ps (i : Int))) cs with ⟨k', hk', h1, _, _⟩ | ⟨_, e⟩
      · rw [ha k' (by omega) hk'] at h1; cases h1
      · rw [e]
    | succ d ih =>
      intro k hk ha
      have hkl : k < cs.length := by omega
      have e1 : rd_T111 (cs.map mkL16P) (k : Int) = mkL16P cs[k] := by simp [rd_T111, hkl]
      rw [spec_FirstPlaces.L1_eq, if_pos (by rw [hlen]; omega), spec_FirstPlaces.J2_eq ps (cs.map mkL16P) out (i : Int) (-1) (k : Int), decide_eq_true (by omega), if_pos rfl, if_pos (by omega), if_pos (by rw [hlen]; omega), if_pos (by omega), if_pos (by omega), e1]
      by_cases hq : fits (rd ps (i : Int)) cs[k] = true
      · have hq' : wrap64 ((mkL16P cs[k]).f2 - (mkL16P cs[k]).f1) ≥ rd ps (i : Int) := of_decide_eq_true hq
        rw [if_pos hq', wS (by omega), idxF_first _ cs k hkl hq (fun j hj => ha j hj (by omega)), spec_FirstPlaces.L1_eq]
        have hd : decide ((k : Int) < 0) = false := decide_eq_false (by omega)
        rw [hd]
        split <;> exact spec_first_out ..
      · have hq' : ¬ wrap64 ((mkL16P cs[k]).f2 - (mkL16P cs[k]).f1) ≥ rd ps (i : Int) := fun h => hq (decide_eq_true h)
        rw [if_neg hq', wS (by omega)]
        refine ih (k + 1) (by omega) (fun j hj hl => ?_)
        by_cases e : j = k
        · subst e; simpa using hq
        · exact ha j (by omega) hl
  exact key cs.length 0 (by omega) (fun j hj => absurd hj (Nat.not_lt_zero j))
theorem idxF_map {α β : Type} (p : β → Bool) (g : α → β) (l : List α) : idxF p (l.map g) = idxF (fun x => p (g x)) l := by
  unfold idxF
  rw [List.findIdx?_map]
  rfl
theorem impl_first_find (cs : List (Int × Int × Int)) (v : Int) (hc : cs.length ≤ 1048576) : impl_clothPart.f (cs.map mkPart) v = some (idxF (fits v) cs) := by
  unfold impl_clothPart.f
  rw [if_pos (by rw [List.length_map]; omega), idxF_map]
  rfl
theorem place_same (ps : List Int) (hp : ps.length ≤ 1048576) (d : Nat) : ∀ (i : Nat) (cs : List (Int × Int × Int)) (out : List S114), i + d = ps.length → cs.length ≤ 1048576 → out.length ≤ i → ∃ y c, spec_FirstPlaces.L0 ps (cs.map mkL16P) out (i : Int) = some (y, c) ∧ impl_FirstPlaces.L0 (cs.map mkPart) out ps (ps.length : Int) (i : Int) = some (y, c) ∧ y.length ≤ ps.length := by
  induction d with
  | zero =>
    intro i cs out hd hc ho
    rw [spec_FirstPlaces.L0_eq, impl_FirstPlaces.L0_eq, if_neg (by omega), if_neg (by omega)]
    exact ⟨_, _, rfl, rfl, by omega⟩
  | succ d ih =>
    intro i cs out hd hc ho
    have hi : i < ps.length := by omega
    have hlen : (cs.map mkL16P).length = cs.length := List.length_map ..
    have hlen2 : (cs.map mkPart).length = cs.length := List.length_map ..
    rw [spec_FirstPlaces.L0_eq, impl_FirstPlaces.L0_eq, if_pos (by omega), if_pos (by omega), if_pos (by omega), if_pos (by omega), spec_first_find ps cs out i hi hc, impl_first_find cs _ hc, spec_FirstPlaces.J2_eq, if_neg nf]
    simp only [Option.bind_some]
    rcases idxF_cases (fits (rd ps (i : Int))) cs with ⟨k, hk, h1, _, e⟩ | ⟨_, e⟩
    · have e1 : rd_T111 (cs.map mkL16P) (k : Int) = mkL16P cs[k] := by simp [rd_T111, hk]
      have e2 : rd_T119 (cs.map mkPart) (k : Int) = mkPart cs[k] := by simp [rd_T119, hk]
      have ho8 : out.length < 8796093022208 := by omega
      rw [e, if_neg (by omega), if_pos (by omega), if_pos (by rw [hlen]; omega), if_pos ho8, if_pos (by omega), if_pos (by omega), if_neg (by omega), if_pos (by omega), if_pos (by rw [hlen2]; omega), if_pos ho8, e1, e2, wS (by omega), Int.toNat_natCast]
      have s1 : (cs.map mkL16P).set k (⟨(mkL16P cs[k]).f0, wrap64 ((mkL16P cs[k]).f1 + rd ps (i : Int)), (mkL16P cs[k]).f2⟩ : S111) = (cs.set k (cs[k].1, wrap64 (cs[k].2.1 + rd ps (i : Int)), cs[k].2.2)).map mkL16P := by rw [List.map_set]; rfl
      have s2 : (cs.map mkPart).set k (⟨(mkPart cs[k]).f0, wrap64 ((mkPart cs[k]).f1 + rd ps (i : Int)), (mkPart cs[k]).f2⟩ : S119) = (cs.set k (cs[k].1, wrap64 (cs[k].2.1 + rd ps (i : Int)), cs[k].2.2)).map mkPart := by rw [List.map_set]; rfl
      rw [s1, s2]
      exact ih (i + 1) _ _ (by omega) (by rw [List.length_set]; exact hc) (by rw [List.length_append]; simp; omega)
    · rw [e, if_pos (by omega), if_pos (by omega)]
      exact ⟨_, _, rfl, rfl, by simp⟩
theorem laws_markBoltS_some (l : List S29) (hl : l.length ≤ 1048576) (hy : ∀ y ∈ l, y.f1.length ≤ 1048576) : ∃ (k : Int) (z : List S29), laws_markBoltS.F l 1 = some (k, z) ∧ 1 ≤ k ∧ k ≤ 1 + (l.length : Int) * 1048577 := by
  rw [laws_markBoltS.F_eq]
  obtain ⟨s, hs, e⟩ := iter (fun (s : List S29 × Int) i => laws_markBoltS.L0 s.1 s.2 i) l.length (fun i s => s.1.length = l.length ∧ (∀ j, i ≤ j → s.1[j]? = l[j]?) ∧ 1 ≤ s.2 ∧ s.2 ≤ 1 + (i : Int) * 1048577) (fun i s hi hs => by
    obtain ⟨x, y⟩ := s
    obtain ⟨hx, hj, hy1, hy2⟩ := hs
    simp only at hx hj hy1 hy2
    have hix : i < x.length := by omega
    have hlen : x[i].f1.length ≤ 1048576 := by
      have h2 := hj i (Nat.le_refl i)
      rw [List.getElem?_eq_getElem hix, List.getElem?_eq_getElem hi] at h2
      injection h2 with h2
      rw [h2]
      exact hy _ (List.getElem_mem hi)
    show ∃ s', laws_markBoltS.L0 x y i = laws_markBoltS.L0 _ _ _ ∧ _
    rw [laws_markBoltS.L0_eq, if_pos (by omega), if_pos (by omega), rdIBolt x i hix, w64 (n := y + 1) (by omega) (by omega), laws_markInt64S_val _ _ (by omega) (by omega), wS (by omega)]
    simp only [Option.bind_some]
    refine ⟨(_, _), rfl, by simp only [List.length_set]; exact hx, fun j hij => ?_, by simp only; omega, by simp only; omega⟩
    simp only [Int.toNat_natCast]
    rw [List.getElem?_set_ne (by omega)]
    exact hj j (by omega)) (l, 1) ⟨rfl, fun _ _ => rfl, by simp, by simp⟩
  obtain ⟨x, y⟩ := s
  obtain ⟨hx, hj, hy1, hy2⟩ := hs
  simp only at hx hj hy1 hy2 e
  refine ⟨y, x, e.trans ?_, hy1, hy2⟩
  rw [laws_markBoltS.L0_eq, if_neg (by omega)]
theorem pure_FnExactFirstPlaces : laws_FnExactFirstPlaces.Pure := by
  intro l0 ps hl hps
  refine of_lim (g := fun k => laws_FnExactFirstPlaces.f k l0 ps) ?_
  show laws_FnExactFirstPlaces.F l0 ps = some true
  by_cases hp : (ps.length : Int) > 1048576
  · rw [laws_FnExactFirstPlaces.F_eq, if_pos hp]
  obtain ⟨r, hr, h⟩ := bolt_args l0 1048576 (by omega) (by omega) hl.1 (fun y hy => (hl.2 y hy).2.1)
  rcases h with h | ⟨h1, h2, h3, l, _, hll, hy, et, ee⟩
  · rw [laws_FnExactFirstPlaces.F_eq, if_neg hp, hr]; simp only [Option.bind_some]; rw [if_pos h]
  · have e4 := laws_toInt64S_val ps (by omega)
    have e5 := laws_eqInt64S_val ps (by omega)
    obtain ⟨y, c, e1, e2, hyl⟩ : ∃ y c, spec_FirstPlaces.F l ps = some (y, c) ∧ impl_FirstPlaces.F l ps = some (y, c) ∧ y.length ≤ 1048576 := by
      rw [spec_FirstPlaces.F_eq, impl_FirstPlaces.F_eq, spec_l16Two_val l ps (by omega) hy (by omega), impl_panelsCode_val l ps (by omega) hy (by omega)]
      simp only [Option.bind_some]
      by_cases hc : twoCode l ps = 0
      · obtain ⟨hb, _⟩ := twoCode_ok hc
        rw [boltsOk_iff] at hb
        have h6 : ∀ b ∈ l, b.f1.length ≤ 6 := fun b hbm => (boltOk_vals (hb.1 b hbm)).2.2.1
        rw [if_pos hc, if_pos hc, spec_l16All_val l hb.2 h6, impl_partsOfBolts_val l hb.2 h6]
        simp only [Option.bind_some]
        have hcl := cutsFrom_len l h6 0
        obtain ⟨y, c, e1, e2, h⟩ := place_same ps (by omega) ps.length 0 (cutsFrom 0 l) [] (by omega) (by omega) (by simp)
        exact ⟨y, c, e1, e2, by omega⟩
      · rw [if_neg hc, if_neg hc]
        exact ⟨_, _, rfl, rfl, by simp⟩
    have hp' : ¬ (1048576 < (ps.length : Int)) := hp
    obtain ⟨k1, z1, m1, b1, b2⟩ := laws_markBoltS_some l (by omega) hy
    have m2 := laws_markInt64S_val ps k1 (by omega) (by omega)
    have n3 : ¬ (k1 + (ps.length : Int) < 0) := by omega
    have g1 := laws_eqPieceS_val y (by omega)
    have g2 := laws_markPieceS_val y 1 (by omega) (by omega)
    have g3 := laws_heldPieceS_val y.length 1 (by omega) (by omega)
    have n4 : ¬ (1 + 2 * (y.length : Int) < 0) := by omega
    simp [laws_FnExactFirstPlaces.F_eq, laws_FnExactFirstPlaces.J0_eq, laws_FnExactFirstPlaces.J1_eq, laws_FnExactFirstPlaces.J2_eq, hp', hr, h1, et, ee, e4, e5, e1, e2, m1, m2, n3, g1, g2, g3, n4]
end Go.Proofs.Ytlphfgbeeckjnaa.PFnExactFirstPlaces
namespace Go.Proofs.Ytlphfgbeeckjnaa.Pure
theorem FnExactFirstPlaces : PFnExactFirstPlaces.laws_FnExactFirstPlaces.Pure := PFnExactFirstPlaces.pure_FnExactFirstPlaces
end Go.Proofs.Ytlphfgbeeckjnaa.Pure
