/-
  The pure side of FnExactFewestBolts: the program's FewestBolts returns what the reference's returns. No conditions.
-/
import Derived.Test.YtendpecnfaojkaaDoorQFnExactFewestBolts
set_option linter.unusedVariables false
set_option linter.unusedSimpArgs false
set_option linter.unnecessarySimpa false
namespace Go.Proofs.YtendpecnfaojkaaDoor.PFnExactFewestBolts
open Go.RowKit Go.Proofs.YtendpecnfaojkaaDoor.Kit Go.Proofs.YtendpecnfaojkaaDoorW.PrintWords Go.Proofs.YtendpecnfaojkaaDoorW.PrintLast Go.Proofs.YtendpecnfaojkaaDoorW.PrintMore

theorem laws_szInt64S_val (l : List Int) (n : Int) (h : l.length ≤ 9223372036854775807) (hn : 0 ≤ n) (hn2 : n ≤ 1048576) : ∃ r, laws_szInt64S.f l n = some r ∧ (r < 0 ∨ 0 ≤ r ∧ r ≤ n ∧ (l.length : Int) ≤ n) := by
  unfold laws_szInt64S.f
  rw [w64 (by omega) (by omega)]
  by_cases hc : n < l.length
  · exact ⟨-1, by rw [if_pos (by omega)], Or.inl (by omega)⟩
  · exact ⟨n - l.length, by rw [if_neg (by omega)], Or.inr (by omega)⟩
theorem laws_szBolt_val (x : Int) (l : List Int) (n : Int) (h : l.length ≤ 9223372036854775807) (hn : 0 ≤ n) (hn2 : n ≤ 1048576) : ∃ r, laws_szBolt.f x l n = some r ∧ (r < 0 ∨ 0 ≤ r ∧ r ≤ n ∧ (l.length : Int) ≤ n) := by
  unfold laws_szBolt.f
  obtain ⟨r, hr, h1⟩ := laws_szInt64S_val l n h hn hn2
  rw [hr]; simp only [Option.bind_some]
  rcases h1 with h1 | h1
  · exact ⟨-1, by rw [if_pos h1], Or.inl (by omega)⟩
  · exact ⟨r, by rw [if_neg (by omega)], Or.inr h1⟩
/-- What a sum of sizes tells: it is less than 0, or all that it adds up is small. -/
theorem szLoop {α : Type} (l : List α) (small : α → Prop) (n : Int) (hn0 : 0 ≤ n) (g : Int → Int → Option Int) (h : ∀ (i : Nat) (s : Int) (hi : i < l.length), 0 ≤ s → s ≤ n → g s (i : Int) = some (-1) ∨ ∃ s', g s (i : Int) = g s' ((i + 1 : Nat) : Int) ∧ 0 ≤ s' ∧ s' ≤ s ∧ small l[i]) (he : ∀ s, g s (l.length : Int) = some s) :
    ∃ r, g n 0 = some r ∧ (r < 0 ∨ 0 ≤ r ∧ r ≤ n ∧ ∀ y ∈ l, small y) := by
  have key : ∀ (d i : Nat) (s : Int), i + d = l.length → 0 ≤ s → s ≤ n → (∀ y ∈ l.take i, small y) → ∃ r, g s (i : Int) = some r ∧ (r < 0 ∨ 0 ≤ r ∧ r ≤ n ∧ ∀ y ∈ l, small y) := by
    intro d
    induction d with
    | zero =>
      intro i s hd h0 h1 hs
      rw [show (i : Int) = (l.length : Int) by omega, he]
      rw [List.take_of_length_le (by omega)] at hs
      exact ⟨s, rfl, Or.inr ⟨h0, h1, hs⟩⟩
    | succ d ih =>
      intro i s hd h0 h1 hs
      have hi : i < l.length := by omega
      rcases h i s hi h0 h1 with h2 | ⟨s', h2, h3, h4, h5⟩
      · exact ⟨-1, h2, Or.inl (by omega)⟩
      · rw [h2]
        refine ih (i + 1) s' (by omega) h3 (by omega) (fun y hy => ?_)
        rw [List.take_succ_eq_append_getElem hi, List.mem_append, List.mem_singleton] at hy
        rcases hy with h6 | rfl
        · exact hs y h6
        · exact h5
  exact key l.length 0 n (by omega) hn0 (Int.le_refl _) (by simp)
theorem rdLBolt (l : List S73) (i : Nat) (h : i < l.length) : rd_T73 l (i : Int) = l[i] := by simp [rd_T73, h]
theorem laws_szBoltS_val (l : List S73) (n : Int) (h : l.length ≤ 9223372036854775807) (hy : ∀ y ∈ l, y.f1.length ≤ 9223372036854775807) (hn : 0 ≤ n) (hn2 : n ≤ 1048576) : ∃ r, laws_szBoltS.F l n = some r ∧ (r < 0 ∨ 0 ≤ r ∧ r ≤ n ∧ (l.length : Int) ≤ n ∧ ∀ y ∈ l, (y.f1.length : Int) ≤ n) := by
  rw [laws_szBoltS.F_eq, w64 (by omega) (by omega)]
  by_cases hc : n - (l.length : Int) < 0
  · exact ⟨-1, by rw [if_pos hc], Or.inl (by omega)⟩
  · rw [if_neg hc]
    obtain ⟨r, hr, h1⟩ := szLoop l (fun y => (y.f1.length : Int) ≤ n) (n - (l.length : Int)) (by omega) (fun s i => laws_szBoltS.L0 l s i) (fun i s hi h0 h2 => by
      show laws_szBoltS.L0 l s i = _ ∨ ∃ s', laws_szBoltS.L0 l s i = laws_szBoltS.L0 l s' _ ∧ _
      rw [laws_szBoltS.L0_eq, if_pos (by omega), if_pos (by omega), rdLBolt l i hi, wS (by omega)]
      obtain ⟨q, hq, h3⟩ := laws_szBolt_val l[i].f0 l[i].f1 s (hy _ (List.getElem_mem hi)) h0 (by omega)
      rw [hq]
      simp only [Option.bind_some]
      rcases h3 with h3 | ⟨h3, h4, h5⟩
      · left; rw [if_pos h3]
      · right; exact ⟨q, by rw [if_neg (by omega)], h3, h4, by omega⟩) (fun s => by
      show laws_szBoltS.L0 l s _ = _
      rw [laws_szBoltS.L0_eq, if_neg (by omega)])
    refine ⟨r, hr, ?_⟩
    rcases h1 with h1 | ⟨h1, h2, h3⟩
    · exact Or.inl h1
    · exact Or.inr ⟨h1, by omega, by omega, h3⟩
theorem laws_toInt64S_val (l : List Int) (hl : l.length ≤ 1048576) : laws_toInt64S.F l = some l := by
  rw [laws_toInt64S.F_eq, if_pos (by omega), if_pos (by omega), Int.toNat_natCast]
  have := fillLoop l 0 (fun s i => laws_toInt64S.L0 l s i) (fun i s hi hs => by
    show laws_toInt64S.L0 l s i = _
    rw [laws_toInt64S.L0_eq, if_pos (by omega), if_pos (by omega), wS (by omega), if_pos (by omega), Int.toNat_natCast, rd_get l i hi])
  refine this.trans ?_
  show laws_toInt64S.L0 l _ _ = _
  rw [laws_toInt64S.L0_eq, if_neg (by omega)]
theorem laws_toBolt_val (x : Int) (l : List Int) (hl : l.length ≤ 1048576) : laws_toBolt.F x l = some (x, l) := by
  rw [laws_toBolt.F_eq, laws_toInt64S_val l hl]; rfl
def boltTo (p : S73) : S50 := ⟨p.f0, p.f1⟩
theorem laws_toBoltS_val (l : List S73) (hl : l.length ≤ 1048576) (hy : ∀ y ∈ l, y.f1.length ≤ 1048576) : laws_toBoltS.F l = some (l.map boltTo) := by
  rw [laws_toBoltS.F_eq, if_pos (by omega), if_pos (by omega), Int.toNat_natCast]
  have := fillLoop (l.map boltTo) z50 (fun s i => laws_toBoltS.L0 l s i) (fun i s hi hs => by
    rw [List.length_map] at hi hs
    show laws_toBoltS.L0 l s i = _
    rw [laws_toBoltS.L0_eq, if_pos (by omega), if_pos (by omega), rdLBolt l i hi, wS (by omega), laws_toBolt_val _ _ (hy _ (List.getElem_mem hi))]
    simp only [Option.bind_some]
    rw [if_pos (by omega), Int.toNat_natCast, List.getElem_map]
    rfl)
  rw [List.length_map] at this
  refine this.trans ?_
  show laws_toBoltS.L0 l _ _ = _
  rw [laws_toBoltS.L0_eq, if_neg (by omega)]
theorem laws_eqInt64S_val (l : List Int) (hl : l.length < 4611686018427387904) : laws_eqInt64S.F l l = some true := by
  rw [laws_eqInt64S.F_eq, if_pos rfl]
  have := allLoop l (fun _ => true) (fun i => laws_eqInt64S.L0 l l i) true (fun i hi => by
    show laws_eqInt64S.L0 l l i = _
    rw [laws_eqInt64S.L0_eq, if_pos (by omega), if_pos (by omega), if_pos (by omega), wS (by omega)]
    simp) (by
    show laws_eqInt64S.L0 l l _ = _
    rw [laws_eqInt64S.L0_eq, if_neg (by omega)])
  rw [this]; simp
theorem laws_eqBolt_val (x : Int) (l : List Int) (hl : l.length < 4611686018427387904) : laws_eqBolt.F x l x l = some true := by
  rw [laws_eqBolt.F_eq, if_pos rfl, laws_eqInt64S_val l hl]; rfl
theorem rdIBolt (l : List S50) (i : Nat) (h : i < l.length) : rd_T50 l (i : Int) = l[i] := by simp [rd_T50, h]
theorem laws_eqBoltS_val (l : List S50) (hl : l.length < 4611686018427387904) (hy : ∀ y ∈ l, y.f1.length < 4611686018427387904) : laws_eqBoltS.F l l = some true := by
  rw [laws_eqBoltS.F_eq, if_pos rfl]
  have := allLoop l (fun _ => true) (fun i => laws_eqBoltS.L0 l l i) true (fun i hi => by
    show laws_eqBoltS.L0 l l i = _
    rw [laws_eqBoltS.L0_eq, if_pos (by omega), if_pos (by omega), if_pos (by omega), wS (by omega), rdIBolt l i hi, laws_eqBolt_val _ _ (hy _ (List.getElem_mem hi))]
    rfl) (by
    show laws_eqBoltS.L0 l l _ = _
    rw [laws_eqBoltS.L0_eq, if_neg (by omega)])
  rw [this]; simp
/-- What the laws do with bolts that came in. -/
theorem bolt_args (l : List S73) (n : Int) (hn0 : 0 ≤ n) (hn1 : n ≤ 1048576) (h : l.length ≤ 9223372036854775807) (hy : ∀ y ∈ l, y.f1.length ≤ 9223372036854775807) : ∃ r, laws_szBoltS.F l n = some r ∧ (r < 0 ∨ ¬ r < 0 ∧ r ≤ n ∧ l.length ≤ 1048576 ∧ ∃ m : List S50, m = l.map boltTo ∧ m.length = l.length ∧ (∀ y ∈ m, y.f1.length ≤ 1048576) ∧ laws_toBoltS.F l = some m ∧ laws_eqBoltS.F m m = some true) := by
  obtain ⟨r, hr, h1⟩ := laws_szBoltS_val l n h hy hn0 hn1
  refine ⟨r, hr, ?_⟩
  rcases h1 with h1 | ⟨h1, h2, h3, h4⟩
  · exact Or.inl h1
  · have h5 : ∀ y ∈ l.map boltTo, y.f1.length ≤ 1048576 := by
      intro y hy2
      obtain ⟨z, hz, rfl⟩ := List.mem_map.1 hy2
      have := h4 z hz
      show z.f1.length ≤ _
      omega
    refine Or.inr ⟨by omega, h2, by omega, l.map boltTo, rfl, by simp, h5, laws_toBoltS_val l (by omega) (fun y hy2 => by have := h4 y hy2; omega), laws_eqBoltS_val _ (by rw [List.length_map]; omega) (fun y hy2 => by have := h5 y hy2; omega)⟩
theorem laws_eqPieceS_val (l : List S60) (hl : l.length < 4611686018427387904) : laws_eqPieceS.F l l = some true := by
  rw [laws_eqPieceS.F_eq, if_pos rfl]
  have := allLoop l (fun _ => true) (fun i => laws_eqPieceS.L0 l l i) true (fun i hi => by
    show laws_eqPieceS.L0 l l i = _
    rw [laws_eqPieceS.L0_eq, if_pos (by omega), if_pos (by omega), if_pos (by omega), wS (by omega)]
    unfold laws_eqPiece.f
    simp) (by
    show laws_eqPieceS.L0 l l _ = _
    rw [laws_eqPieceS.L0_eq, if_neg (by omega)])
  rw [this]; simp
theorem rdIPiece (l : List S60) (i : Nat) (h : i < l.length) : rd_T60 l (i : Int) = l[i] := by simp [rd_T60, h]
/-- Pieces that bear the numbers from k on. -/
def piecesFrom (k : Int) (n : Nat) : List S60 := (List.range n).map fun (j : Nat) => (⟨k + 2 * (j : Int), k + 2 * (j : Int) + 1⟩ : S60)
theorem laws_markPieceS_val (l : List S60) (k : Int) (h0 : 0 ≤ k) (h1 : k + 2 * l.length ≤ 4611686018427387904) : laws_markPieceS.F l k = some (k + 2 * l.length, piecesFrom k l.length) := by
  rw [laws_markPieceS.F_eq]
  have hlen : ∀ i, i ≤ l.length → (piecesFrom k i ++ l.drop i).length = l.length := fun i hi => by simp [piecesFrom]; omega
  have := iterF (fun (s : List S60 × Int) i => laws_markPieceS.L0 s.1 s.2 i) l.length (fun i => (piecesFrom k i ++ l.drop i, k + 2 * (i : Int))) (fun i hi => by
    show laws_markPieceS.L0 _ _ _ = laws_markPieceS.L0 _ _ _
    have hl1 := hlen i (by omega)
    have hlu : (piecesFrom k i).length = i := by simp [piecesFrom]
    rw [laws_markPieceS.L0_eq, if_pos (by rw [hl1]; omega), if_pos (by omega), wS (by omega), w64 (n := k + 2 * (i : Int) + 1) (by omega) (by omega), w64 (by omega) (by omega), Int.toNat_natCast]
    simp only [Option.bind_some]
    have hr : ∀ v : S60, rd_T60 ((piecesFrom k i ++ l.drop i).set i v) (i : Int) = v := by
      intro v
      rw [rdIPiece _ i (by rw [List.length_set, hl1]; exact hi), List.getElem_set_self]
    rw [hr, List.set_set]
    have e1 : (piecesFrom k i ++ l.drop i).set i (⟨k + 2 * (i : Int), k + 2 * (i : Int) + 1⟩ : S60) = piecesFrom k (i + 1) ++ l.drop (i + 1) := by
      rw [List.set_append, hlu, if_neg (Nat.lt_irrefl i), Nat.sub_self, List.drop_eq_getElem_cons hi, List.set_cons_zero]
      unfold piecesFrom
      rw [List.range_succ, List.map_append, List.append_assoc]
      rfl
    show laws_markPieceS.L0 ((piecesFrom k i ++ l.drop i).set i (⟨k + 2 * (i : Int), k + 2 * (i : Int) + 1⟩ : S60)) _ _ = _
    rw [e1]
    congr 1
    omega)
  have e0 : piecesFrom k 0 ++ l.drop 0 = l := by simp [piecesFrom]
  simp only [e0] at this
  rw [show k + 2 * ((0 : Nat) : Int) = k by omega] at this
  refine this.trans ?_
  rw [laws_markPieceS.L0_eq, if_neg (by rw [hlen l.length (Nat.le_refl _)]; omega)]
  simp
theorem laws_heldPieceS_val (n : Nat) (k : Int) (h0 : 0 ≤ k) (h1 : k + 2 * n ≤ 4611686018427387904) : laws_heldPieceS.F (piecesFrom k n) k = some (k + 2 * n) := by
  rw [laws_heldPieceS.F_eq]
  have hlen : (piecesFrom k n).length = n := by simp [piecesFrom]
  have := iterF (fun (s : Int) i => laws_heldPieceS.L0 (piecesFrom k n) s i) n (fun i => k + 2 * (i : Int)) (fun i hi => by
    show laws_heldPieceS.L0 _ _ _ = laws_heldPieceS.L0 _ _ _
    have hr : rd_T60 (piecesFrom k n) (i : Int) = ⟨k + 2 * (i : Int), k + 2 * (i : Int) + 1⟩ := by
      rw [rdIPiece _ i (by omega)]
      simp [piecesFrom]
    rw [laws_heldPieceS.L0_eq, if_pos (by rw [hlen]; omega), if_pos (by omega), hr, if_pos rfl, w64 (n := k + 2 * (i : Int) + 1) (by omega) (by omega), if_pos rfl, wS (by omega), w64 (by omega) (by omega)]
    congr 1
    omega)
  rw [show k + 2 * ((0 : Nat) : Int) = k by omega] at this
  refine this.trans ?_
  show laws_heldPieceS.L0 _ _ _ = _
  rw [laws_heldPieceS.L0_eq, if_neg (by rw [hlen]; omega)]
/-- The numbers from k on. -/
def upFrom (k : Int) (n : Nat) : List Int := (List.range n).map fun (j : Nat) => k + (j : Int)
theorem laws_markInt64S_val (l : List Int) (k : Int) (h0 : 0 ≤ k) (h1 : k + l.length ≤ 4611686018427387904) : laws_markInt64S.F l k = some (k + l.length, upFrom k l.length) := by
  rw [laws_markInt64S.F_eq]
  have hlen : ∀ i, i ≤ l.length → (upFrom k i ++ l.drop i).length = l.length := fun i hi => by simp [upFrom]; omega
  have := iterF (fun (s : List Int × Int) i => laws_markInt64S.L0 s.1 s.2 i) l.length (fun i => (upFrom k i ++ l.drop i, k + (i : Int))) (fun i hi => by
    show laws_markInt64S.L0 _ _ _ = laws_markInt64S.L0 _ _ _
    have hl1 := hlen i (by omega)
    rw [laws_markInt64S.L0_eq, if_pos (by rw [hl1]; omega), if_pos (by omega), wS (by omega), w64 (by omega) (by omega), Int.toNat_natCast]
    have e1 : (upFrom k i ++ l.drop i).set i (k + (i : Int)) = upFrom k (i + 1) ++ l.drop (i + 1) := by
      have hlu : (upFrom k i).length = i := by simp [upFrom]
      rw [List.set_append, hlu, if_neg (Nat.lt_irrefl i), Nat.sub_self, List.drop_eq_getElem_cons hi, List.set_cons_zero]
      unfold upFrom
      rw [List.range_succ, List.map_append, List.append_assoc]
      rfl
    rw [e1]
    congr 1
    omega)
  have e0 : upFrom k 0 ++ l.drop 0 = l := by simp [upFrom]
  simp only [e0] at this
  rw [show k + ((0 : Nat) : Int) = k by omega] at this
  refine this.trans ?_
  rw [laws_markInt64S.L0_eq, if_neg (by rw [hlen l.length (Nat.le_refl _)]; omega)]
  simp
def inB (n a b : Int) : Bool := decide (a ≤ n) && decide (n ≤ b)
theorem inB_iff (n a b : Int) : inB n a b = true ↔ a ≤ n ∧ n ≤ b := by simp [inB]
theorem inB_no (n a b : Int) : inB n a b = false ↔ ¬ (a ≤ n ∧ n ≤ b) := by rw [← inB_iff]; simp
theorem spec_l00In_val (n a b : Int) : spec_l00In.f n a b = some (inB n a b) := by
  unfold spec_l00In.f inB
  by_cases h : n ≥ a
  · rw [if_pos h]; simp [show a ≤ n from h]
  · rw [if_neg h]; simp; omega
/-- At a place: within bounds, and more than the number before it. -/
def riseAt (l : List Int) (a b : Int) (i : Nat) : Bool := inB (rd l (i : Int)) a b && (decide (i = 0) || decide (rd l ((i : Int) - 1) < rd l (i : Int)))
theorem riseAt_def (l : List Int) (a b : Int) (i : Nat) : riseAt l a b i = (inB (rd l (i : Int)) a b && (decide (i = 0) || decide (rd l ((i : Int) - 1) < rd l (i : Int)))) := rfl
def rises (l : List Int) (a b : Int) : Bool := (List.range l.length).all (riseAt l a b)
theorem rises_iff (l : List Int) (a b : Int) : rises l a b = true ↔ ∀ i : Nat, i < l.length → (a ≤ rd l i ∧ rd l i ≤ b) ∧ (0 < i → rd l ((i : Int) - 1) < rd l i) := by
  unfold rises
  rw [List.all_eq_true]
  constructor
  · intro h i hi
    have := h i (List.mem_range.2 hi)
    rw [riseAt_def, Bool.and_eq_true, inB_iff, Bool.or_eq_true] at this
    refine ⟨this.1, fun h0 => ?_⟩
    rcases this.2 with h2 | h2
    · exact absurd (of_decide_eq_true h2) (by omega)
    · exact of_decide_eq_true h2
  · intro h i hi
    have := h i (List.mem_range.1 hi)
    rw [riseAt_def, Bool.and_eq_true, inB_iff, Bool.or_eq_true]
    refine ⟨this.1, ?_⟩
    by_cases h0 : i = 0
    · left; simp [h0]
    · right; exact decide_eq_true (this.2 (by omega))
theorem spec_l00Rises_val (l : List Int) (a b : Int) (hl : l.length < 4611686018427387904) : spec_l00Rises.F l a b = some (rises l a b) := by
  rw [spec_l00Rises.F_eq]
  refine (allRange l.length (riseAt l a b) (fun i => spec_l00Rises.L0 l a b i) true (fun i hi => ?_) ?_).trans (by rw [Bool.and_true]; rfl)
  · show spec_l00Rises.L0 l a b i = _
    rw [spec_l00Rises.L0_eq, if_pos (by omega), if_pos (by omega), spec_l00In_val, wS (by omega)]
    simp only [Option.bind_some]
    rw [riseAt_def, ite_band]
    by_cases h1 : inB (rd l (i : Int)) a b = true
    · rw [if_pos h1, if_pos h1]
      by_cases h0 : i = 0
      · rw [if_neg (by omega), if_pos (by simp [h0])]
      · rw [if_pos (by omega), w64 (by omega) (by omega), if_pos (by omega), if_pos (by omega)]
        by_cases h2 : rd l ((i : Int) - 1) ≥ rd l (i : Int)
        · rw [if_pos h2, if_neg (by simp [h0]; omega)]
        · rw [if_neg h2, if_pos (by simp [h0]; omega)]
    · rw [if_neg h1, if_neg h1]
  · show spec_l00Rises.L0 l a b _ = _
    rw [spec_l00Rises.L0_eq, if_neg (by omega)]
/-- A valid bolt. -/
def boltOk (b : S50) : Bool := inB b.f0 1 10000 && (decide (b.f1.length ≤ 6) && rises b.f1 1 (b.f0 - 1))
theorem boltOk_def (b : S50) : boltOk b = (inB b.f0 1 10000 && (decide (b.f1.length ≤ 6) && rises b.f1 1 (b.f0 - 1))) := rfl
def boltsOk (l : List S50) : Bool := l.all boltOk && decide (l.length ≤ 4)
theorem boltsOk_iff (l : List S50) : boltsOk l = true ↔ (∀ b ∈ l, boltOk b = true) ∧ l.length ≤ 4 := by
  unfold boltsOk
  rw [Bool.and_eq_true, List.all_eq_true, decide_eq_true_iff]
theorem boltOk_vals {b : S50} (h : boltOk b = true) : 1 ≤ b.f0 ∧ b.f0 ≤ 10000 ∧ b.f1.length ≤ 6 ∧ ∀ i : Nat, i < b.f1.length → (1 ≤ rd b.f1 i ∧ rd b.f1 i ≤ b.f0 - 1) ∧ (0 < i → rd b.f1 ((i : Int) - 1) < rd b.f1 i) := by
  rw [boltOk_def, Bool.and_eq_true, Bool.and_eq_true, inB_iff, decide_eq_true_iff, rises_iff] at h
  exact ⟨h.1.1, h.1.2, h.2.1, h.2.2⟩
theorem spec_l16One_val (b : S50) (hb : b.f1.length < 4611686018427387904) : spec_l16One.F [b] = some (boltOk b) := by
  have e : rd_T50 [b] 0 = b := rfl
  rw [spec_l16One.F_eq, e, if_pos (by simp), spec_l00In_val]
  simp only [Option.bind_some]
  rw [boltOk_def]
  cases h1 : inB b.f0 1 10000 with
  | false => rw [if_neg nf]; rfl
  | true =>
    rw [if_pos rfl]
    rw [inB_iff] at h1
    by_cases h2 : (b.f1.length : Int) ≤ 6
    · rw [if_pos h2, decide_eq_true (by omega), w64 (by omega) (by omega), spec_l00Rises_val _ _ _ hb]
      simp
    · rw [if_neg h2, decide_eq_false (by omega)]
      rfl
theorem spec_l16Ok_val (l : List S50) (hl : l.length < 4611686018427387904) (hy : ∀ y ∈ l, y.f1.length ≤ 1048576) : spec_l16Ok.F l = some (boltsOk l) := by
  rw [spec_l16Ok.F_eq]
  refine allLoop l boltOk (fun i => spec_l16Ok.L0 l i) _ (fun i hi => ?_) ?_
  · show spec_l16Ok.L0 l i = _
    rw [spec_l16Ok.L0_eq, if_pos (by omega), if_pos (by omega), rdIBolt l i hi, wS (by omega), spec_l16One_val _ (by have := hy _ (List.getElem_mem hi); omega)]
    rfl
  · show spec_l16Ok.L0 l _ = _
    rw [spec_l16Ok.L0_eq, if_neg (by omega)]
    simp; omega
def panels16 (l : List Int) : Bool := l.all (fun x => inB x 1 10000) && decide (l.length ≤ 6)
theorem panels16_iff (l : List Int) : panels16 l = true ↔ (∀ x ∈ l, 1 ≤ x ∧ x ≤ 10000) ∧ l.length ≤ 6 := by
  unfold panels16
  rw [Bool.and_eq_true, List.all_eq_true, decide_eq_true_iff]
  exact and_congr (forall_congr' fun x => imp_congr Iff.rfl (inB_iff x 1 10000)) Iff.rfl
theorem spec_l16Panels_val (l : List Int) (hl : l.length < 4611686018427387904) : spec_l16Panels.F l = some (panels16 l) := by
  rw [spec_l16Panels.F_eq]
  refine allLoop l (fun x => inB x 1 10000) (fun i => spec_l16Panels.L0 l i) _ (fun i hi => ?_) ?_
  · show spec_l16Panels.L0 l i = _
    rw [spec_l16Panels.L0_eq, if_pos (by omega), if_pos (by omega), rd_get l i hi, wS (by omega), spec_l00In_val]
    rfl
  · show spec_l16Panels.L0 l _ = _
    rw [spec_l16Panels.L0_eq, if_neg (by omega)]
    simp; omega
def twoCode (l : List S50) (ps : List Int) : Int := if boltsOk l = true then (if panels16 ps = true then 0 else 2) else 1
theorem twoCode_ok {l : List S50} {ps : List Int} (h : twoCode l ps = 0) : boltsOk l = true ∧ panels16 ps = true := by
  unfold twoCode at h
  by_cases h1 : boltsOk l = true
  · rw [if_pos h1] at h
    by_cases h2 : panels16 ps = true
    · exact ⟨h1, h2⟩
    · rw [if_neg h2] at h; omega
  · rw [if_neg h1] at h; omega
theorem spec_l16Two_val (l : List S50) (ps : List Int) (hl : l.length < 4611686018427387904) (hy : ∀ y ∈ l, y.f1.length ≤ 1048576) (hp : ps.length < 4611686018427387904) : spec_l16Two.F l ps = some (twoCode l ps) := by
  rw [spec_l16Two.F_eq, spec_l16Ok_val l hl hy]
  simp only [Option.bind_some]
  unfold twoCode
  by_cases h1 : boltsOk l = true
  · rw [if_pos h1, if_pos h1, spec_l16Panels_val ps hp]
    simp only [Option.bind_some]
    split <;> rfl
  · rw [if_neg h1, if_neg h1]
theorem impl_within_val (n a b : Int) : impl_within.f n a b = some (inB n a b) := by
  unfold impl_within.f inB
  by_cases h : n ≥ a
  · rw [if_pos h]; simp [show a ≤ n from h]
  · rw [if_neg h]; simp; omega
theorem impl_validBolt_val (x : Int) (l : List Int) (hl : l.length < 4611686018427387904) : impl_validBolt.F x l = some (boltOk ⟨x, l⟩) := by
  rw [impl_validBolt.F_eq, impl_within_val]
  simp only [Option.bind_some]
  rw [boltOk_def]
  show _ = some (inB x 1 10000 && (decide (l.length ≤ 6) && rises l 1 (x - 1)))
  cases h1 : inB x 1 10000 with
  | false => rw [if_neg nf, impl_validBolt.J0_eq, if_pos rfl]; rfl
  | true =>
    rw [if_pos rfl]
    rw [inB_iff] at h1
    by_cases h2 : (l.length : Int) > 6
    · rw [decide_eq_true h2, impl_validBolt.J0_eq, if_pos rfl, decide_eq_false (by omega)]
      rfl
    · rw [decide_eq_false h2, impl_validBolt.J0_eq, if_neg nf, decide_eq_true (by omega)]
      refine (allRange l.length (riseAt l 1 (x - 1)) (fun i => impl_validBolt.L0 l (l.length : Int) i x l) true (fun i hi => ?_) ?_).trans (by simp [rises])
      · show impl_validBolt.L0 _ _ i _ _ = _
        rw [impl_validBolt.L0_eq, if_pos (by omega), if_pos (by omega), if_pos (by omega), w64 (n := x - 1) (by omega) (by omega), impl_within_val, wS (by omega)]
        simp only [Option.bind_some]
        rw [riseAt_def, ite_band]
        by_cases h3 : inB (rd l (i : Int)) 1 (x - 1) = true
        · rw [if_pos h3, if_pos h3]
          by_cases h0 : i = 0
          · rw [if_neg (by omega), if_pos (by simp [h0])]
          · rw [if_pos (by omega), w64 (by omega) (by omega), if_pos (by omega), if_pos (by omega)]
            by_cases h4 : rd l (i : Int) ≤ rd l ((i : Int) - 1)
            · rw [if_pos h4, if_neg (by simp [h0]; omega)]
            · rw [if_neg h4, if_pos (by simp [h0]; omega)]
        · rw [if_neg h3, if_neg h3]
      · show impl_validBolt.L0 _ _ _ _ _ = _
        rw [impl_validBolt.L0_eq, if_neg (by omega)]
theorem impl_ValidBolts_val (l : List S50) (hl : l.length < 4611686018427387904) (hy : ∀ y ∈ l, y.f1.length ≤ 1048576) : impl_ValidBolts.F l = some (boltsOk l) := by
  rw [impl_ValidBolts.F_eq]
  unfold boltsOk
  by_cases h : (l.length : Int) > 4
  · rw [if_pos h]; simp; omega
  · rw [if_neg h]
    have := allLoop l boltOk (fun i => impl_ValidBolts.L0 l (l.length : Int) i) true (fun i hi => by
      show impl_ValidBolts.L0 l _ i = _
      rw [impl_ValidBolts.L0_eq, if_pos (by omega), if_pos (by omega), if_pos (by omega), rdIBolt l i hi, wS (by omega), impl_validBolt_val _ _ (by have := hy _ (List.getElem_mem hi); omega)]
      rfl) (by
      show impl_ValidBolts.L0 l _ _ = _
      rw [impl_ValidBolts.L0_eq, if_neg (by omega)])
    rw [this]
    simp; omega
theorem impl_areIn_val (l : List Int) (n a b : Int) (hl : l.length < 4611686018427387904) : impl_areIn.F l n a b = some (decide ((l.length : Int) = n) && l.all (fun x => inB x a b)) := by
  rw [impl_areIn.F_eq]
  by_cases h : (l.length : Int) = n
  · rw [if_pos h, decide_eq_true h]
    refine (allLoop l (fun x => inB x a b) (fun i => impl_areIn.L0 a b l (l.length : Int) i) true (fun i hi => ?_) ?_).trans (by simp)
    · show impl_areIn.L0 a b l _ i = _
      rw [impl_areIn.L0_eq, if_pos (by omega), if_pos (by omega), if_pos (by omega), rd_get l i hi, wS (by omega), impl_within_val]
      rfl
    · show impl_areIn.L0 a b l _ _ = _
      rw [impl_areIn.L0_eq, if_neg (by omega)]
  · rw [if_neg h, decide_eq_false h]; rfl
theorem impl_panelsCode_val (l : List S50) (ps : List Int) (hl : l.length < 4611686018427387904) (hy : ∀ y ∈ l, y.f1.length ≤ 1048576) (hp : ps.length < 4611686018427387904) : impl_panelsCode.F l ps = some (twoCode l ps) := by
  rw [impl_panelsCode.F_eq, impl_ValidBolts_val l hl hy]
  simp only [Option.bind_some]
  unfold twoCode
  by_cases h1 : boltsOk l = true
  · rw [if_pos h1, if_pos h1]
    by_cases h2 : (ps.length : Int) > 6
    · rw [if_pos h2, if_neg (by unfold panels16; simp; omega)]
    · rw [if_neg h2, impl_areIn_val ps _ 1 10000 hp, decide_eq_true rfl]
      simp only [Option.bind_some]
      have e : panels16 ps = (true && ps.all fun x => inB x 1 10000) := by unfold panels16; rw [decide_eq_true (by omega)]; simp
      rw [e]
      split <;> rfl
  · rw [if_neg h1, if_neg h1]
/-- The sound parts of a bolt: from a place on, up to its end. -/
def partsFrom (e : Int) (a : Int) : List Int → List (List Int)
  | [] => [[a, e]]
  | f :: r => [a, f] :: partsFrom e f r
theorem partsFrom_len (e : Int) (l : List Int) : ∀ a, (partsFrom e a l).length = l.length + 1 := by
  induction l with
  | nil => intro a; rfl
  | cons f r ih => intro a; simp [partsFrom, ih]
theorem partsFrom_two (e : Int) (l : List Int) : ∀ a, ∀ p ∈ partsFrom e a l, p.length = 2 := by
  induction l with
  | nil => intro a p hp; simp [partsFrom] at hp; subst hp; rfl
  | cons f r ih =>
    intro a p hp
    simp only [partsFrom, List.mem_cons] at hp
    rcases hp with rfl | hp
    · rfl
    · exact ih f p hp
def partsOf (b : S50) : List (List Int) := partsFrom b.f0 0 b.f1
/-- All sound parts of all bolts: bolt, begin, end. -/
def cutsFrom (i : Int) : List S50 → List (Int × Int × Int)
  | [] => []
  | b :: r => (partsOf b).map (fun p => (i, rd p 0, rd p 1)) ++ cutsFrom (i + 1) r
theorem cutsFrom_len (l : List S50) (h : ∀ b ∈ l, b.f1.length ≤ 6) : ∀ i, (cutsFrom i l).length ≤ 7 * l.length := by
  induction l with
  | nil => intro i; simp [cutsFrom]
  | cons b r ih =>
    intro i
    have h1 := ih (fun c hc => h c (List.mem_cons_of_mem _ hc)) (i + 1)
    have h2 := h b List.mem_cons_self
    simp only [cutsFrom, List.length_append, List.length_map, List.length_cons]
    unfold partsOf
    rw [partsFrom_len]
    omega
theorem spec_l16Parts_val (b : S50) (hb : b.f1.length ≤ 1048576) : spec_l16Parts.F [b] = some (partsOf b) := by
  have e : rd_T50 [b] 0 = b := rfl
  have key : ∀ (d i : Nat) (out : List (List Int)) (a : Int), i + d = b.f1.length → out.length ≤ i → spec_l16Parts.L0 [b] out a (i : Int) = some (out ++ partsFrom b.f0 a (b.f1.drop i)) := by
    intro d
    induction d with
    | zero =>
      intro i out a hd ho
      have h1 : out.length < 5864062014805 := by omega
      rw [spec_l16Parts.L0_eq, e, if_neg (by omega), if_pos h1, List.drop_of_length_le (by omega)]
      rfl
    | succ d ih =>
      intro i out a hd ho
      have hi : i < b.f1.length := by omega
      have h1 : out.length < 5864062014805 := by omega
      rw [spec_l16Parts.L0_eq, e, if_pos (by omega), if_pos (by omega), if_pos h1, rd_get _ i hi, wS (by omega), ih (i + 1) _ _ (by omega) (by rw [List.length_append]; simp; omega), List.drop_eq_getElem_cons hi]
      simp [partsFrom]
  rw [spec_l16Parts.F_eq, if_pos (by simp)]
  have := key b.f1.length 0 [] 0 (by omega) (by simp)
  simpa [partsOf] using this
theorem rdLL (l : List (List Int)) (i : Nat) (h : i < l.length) : rd_L1 l (i : Int) = l[i] := by simp [rd_L1, h]
def mkL16P (c : Int × Int × Int) : S98 := ⟨c.1, c.2.1, c.2.2⟩
theorem spec_l16All_val (l : List S50) (hl : l.length ≤ 4) (hy : ∀ b ∈ l, b.f1.length ≤ 6) : spec_l16All.F l = some ((cutsFrom 0 l).map mkL16P) := by
  have inner : ∀ (ps : List (List Int)) (i : Nat), ps.length ≤ 7 → (∀ p ∈ ps, p.length = 2) → ∀ (d j : Nat) (out : List S98), j + d = ps.length → out.length + (ps.length - j) ≤ 1000 → spec_l16All.L1 l out (i : Int) ps (j : Int) = spec_l16All.L0 l (out ++ (ps.drop j).map (fun p => mkL16P ((i : Int), rd p 0, rd p 1))) (wrap64 ((i : Int) + 1)) := by
    intro ps i hps h2 d
    induction d with
    | zero =>
      intro j out hd ho
      rw [spec_l16All.L1_eq, if_neg (by omega), List.drop_of_length_le (by omega)]
      simp
    | succ d ih =>
      intro j out hd ho
      have hj : j < ps.length := by omega
      have hp2 := h2 _ (List.getElem_mem hj)
      have h1 : out.length < 5864062014805 := by omega
      rw [spec_l16All.L1_eq, if_pos (by omega), if_pos (by omega), rdLL ps j hj, hp2, if_pos (by decide), if_pos (by decide), if_pos h1, wS (by omega), ih (j + 1) _ (by omega) (by rw [List.length_append]; simp; omega), List.drop_eq_getElem_cons hj]
      simp only [List.map_cons, List.append_assoc, List.cons_append, List.nil_append]
      rfl
  have outer : ∀ (d i : Nat) (out : List S98), i + d = l.length → out.length ≤ 7 * i → spec_l16All.L0 l out (i : Int) = some (out ++ (cutsFrom (i : Int) (l.drop i)).map mkL16P) := by
    intro d
    induction d with
    | zero =>
      intro i out hd ho
      rw [spec_l16All.L0_eq, if_neg (by omega), List.drop_of_length_le (by omega)]
      simp [cutsFrom]
    | succ d ih =>
      intro i out hd ho
      have hi : i < l.length := by omega
      have hb := hy _ (List.getElem_mem hi)
      have hpl : (partsOf l[i]).length ≤ 7 := by unfold partsOf; rw [partsFrom_len]; omega
      rw [spec_l16All.L0_eq, if_pos (by omega), if_pos (by omega), rdIBolt l i hi, spec_l16Parts_val _ (by omega)]
      simp only [Option.bind_some]
      have e := inner (partsOf l[i]) i hpl (partsFrom_two _ _ _) (partsOf l[i]).length 0 out (by omega) (by omega)
      rw [show ((0 : Nat) : Int) = 0 from rfl] at e
      rw [e, wS (by omega), ih (i + 1) _ (by omega) (by rw [List.length_append, List.length_map, List.length_drop]; omega), List.drop_eq_getElem_cons hi]
      simp [cutsFrom, mkL16P, Function.comp_def]
  rw [spec_l16All.F_eq]
  have := outer l.length 0 [] (by omega) (by simp)
  simpa using this
theorem impl_soundParts_val (x : Int) (l : List Int) (hl : l.length ≤ 1048576) : impl_soundParts.F x l = some (partsFrom x 0 l) := by
  have key : ∀ (d i : Nat) (out : List (List Int)) (a : Int), i + d = l.length → out.length ≤ i → impl_soundParts.L0 out a l (l.length : Int) (i : Int) x l = some (out ++ partsFrom x a (l.drop i)) := by
    intro d
    induction d with
    | zero =>
      intro i out a hd ho
      have h1 : out.length < 5864062014805 := by omega
      rw [impl_soundParts.L0_eq, if_neg (by omega), if_pos h1, List.drop_of_length_le (by omega)]
      rfl
    | succ d ih =>
      intro i out a hd ho
      have hi : i < l.length := by omega
      have h1 : out.length < 5864062014805 := by omega
      rw [impl_soundParts.L0_eq, if_pos (by omega), if_pos (by omega), if_pos (by omega), if_pos h1, rd_get _ i hi, wS (by omega), ih (i + 1) _ _ (by omega) (by rw [List.length_append]; simp; omega), List.drop_eq_getElem_cons hi]
      simp [partsFrom]
  rw [impl_soundParts.F_eq]
  have := key l.length 0 [] 0 (by omega) (by simp)
  simpa using this
def mkPart (c : Int × Int × Int) : S57 := ⟨c.1, c.2.1, c.2.2⟩
theorem impl_partsOfBolts_val (l : List S50) (hl : l.length ≤ 4) (hy : ∀ b ∈ l, b.f1.length ≤ 6) : impl_partsOfBolts.F l = some ((cutsFrom 0 l).map mkPart) := by
  have inner : ∀ (ps : List (List Int)) (i : Nat), ps.length ≤ 7 → (∀ p ∈ ps, p.length = 2) → ∀ (d j : Nat) (out : List S57), j + d = ps.length → out.length + (ps.length - j) ≤ 1000 → impl_partsOfBolts.L1 out (i : Int) l (l.length : Int) (i : Int) ps (ps.length : Int) (j : Int) = impl_partsOfBolts.L0 (out ++ (ps.drop j).map (fun p => mkPart ((i : Int), rd p 0, rd p 1))) l (l.length : Int) (wrap64 ((i : Int) + 1)) := by
    intro ps i hps h2 d
    induction d with
    | zero =>
      intro j out hd ho
      rw [impl_partsOfBolts.L1_eq, if_neg (by omega), List.drop_of_length_le (by omega)]
      simp
    | succ d ih =>
      intro j out hd ho
      have hj : j < ps.length := by omega
      have hp2 := h2 _ (List.getElem_mem hj)
      have h1 : out.length < 5864062014805 := by omega
      rw [impl_partsOfBolts.L1_eq, if_pos (by omega), if_pos (by omega), if_pos (by omega), rdLL ps j hj, hp2, if_pos (by decide), if_pos (by decide), if_pos h1, wS (by omega), ih (j + 1) _ (by omega) (by rw [List.length_append]; simp; omega), List.drop_eq_getElem_cons hj]
      simp only [List.map_cons, List.append_assoc, List.cons_append, List.nil_append]
      rfl
  have outer : ∀ (d i : Nat) (out : List S57), i + d = l.length → out.length ≤ 7 * i → impl_partsOfBolts.L0 out l (l.length : Int) (i : Int) = some (out ++ (cutsFrom (i : Int) (l.drop i)).map mkPart) := by
    intro d
    induction d with
    | zero =>
      intro i out hd ho
      rw [impl_partsOfBolts.L0_eq, if_neg (by omega), List.drop_of_length_le (by omega)]
      simp [cutsFrom]
    | succ d ih =>
      intro i out hd ho
      have hi : i < l.length := by omega
      have hb := hy _ (List.getElem_mem hi)
      have hpl : (partsOf l[i]).length ≤ 7 := by unfold partsOf; rw [partsFrom_len]; omega
      rw [impl_partsOfBolts.L0_eq, if_pos (by omega), if_pos (by omega), if_pos (by omega), rdIBolt l i hi, impl_soundParts_val _ _ (by omega)]
      simp only [Option.bind_some]
      have e := inner (partsOf l[i]) i hpl (partsFrom_two _ _ _) (partsOf l[i]).length 0 out (by omega) (by omega)
      rw [show ((0 : Nat) : Int) = 0 from rfl] at e
      refine (show impl_partsOfBolts.L1 out (i : Int) l (l.length : Int) (i : Int) (partsOf l[i]) ((partsOf l[i]).length : Int) 0 = _ from e).trans ?_
      rw [wS (by omega), ih (i + 1) _ (by omega) (by rw [List.length_append, List.length_map, List.length_drop]; omega), List.drop_eq_getElem_cons hi]
      simp [cutsFrom, mkPart, Function.comp_def]
  rw [impl_partsOfBolts.F_eq]
  have := outer l.length 0 [] (by omega) (by simp)
  simpa using this
namespace BoltCore
section
variable {S α κ : Type} (m : Nat) (ok : Int → S → Nat → Bool) (st : Int → S → Nat → S) (pc : S → Nat → α) (cnt : S → Nat) (fresh : S → Nat → Bool) (key : List Int → S → κ)
variable (R : List Int → S → Prop)
theorem all_cnt (hR : ∀ p ps s k, R (p :: ps) s → k < m → ok p s k = true → R ps (st p s k)) (hc : ∀ p ps s k, R (p :: ps) s → k < m → ok p s k = true → cnt (st p s k) = cnt s + (if fresh s k = true then 1 else 0)) : ∀ ps s, R ps s → ∀ z ∈ all m ok st pc ps s, cnt s ≤ cnt z.2
  | [], s, _, z, h => by simp [all] at h; subst h; exact Nat.le_refl _
  | p :: ps, s, r, z, h => by
    simp only [all, List.mem_flatMap, List.mem_range] at h
    obtain ⟨k, hk, h⟩ := h
    split at h
    · rename_i ho
      obtain ⟨y, hy, rfl⟩ := List.mem_map.1 h
      have := all_cnt hR hc ps _ (hR p ps s k r hk ho) y hy
      rw [hc p ps s k r hk ho] at this
      show cnt s ≤ cnt y.2
      omega
    · cases h
def Good (most : Nat) (D : List κ) : Prop := ∀ ps s, R ps s → cnt s ≤ most → key ps s ∈ D → ∀ z ∈ all m ok st pc ps s, most < cnt z.2
theorem tryK_eq (hR : ∀ p ps s k, R (p :: ps) s → k < m → ok p s k = true → R ps (st p s k)) (hc : ∀ p ps s k, R (p :: ps) s → k < m → ok p s k = true → cnt (st p s k) = cnt s + (if fresh s k = true then 1 else 0)) (most : Nat) (p : Int) (ps : List Int) (s : S) (r : R (p :: ps) s) (hs : cnt s ≤ most) (rec : S → List κ → Option (List α × S) × List κ)
    (hrec : ∀ s D, R ps s → cnt s ≤ most → Good m ok st pc cnt key R most D → (rec s D).1 = (all m ok st pc ps s).find? (fun z => decide (cnt z.2 ≤ most)) ∧ Good m ok st pc cnt key R most (rec s D).2) :
    ∀ ks D, (∀ k ∈ ks, k < m) → Good m ok st pc cnt key R most D →
      (tryK ok st pc cnt fresh most rec p s ks D).1 = (ks.flatMap fun k => if ok p s k = true then (all m ok st pc ps (st p s k)).map (fun z => (pc s k :: z.1, z.2)) else []).find? (fun z => decide (cnt z.2 ≤ most)) ∧
      Good m ok st pc cnt key R most (tryK ok st pc cnt fresh most rec p s ks D).2
  | [], D, _, g => by simp [tryK]; exact g
  | k :: ks, D, hm, g => by
    have hkm := hm k (by simp)
    have ih := tryK_eq hR hc most p ps s r hs rec hrec ks
    unfold tryK
    simp only [List.flatMap_cons, List.find?_append]
    by_cases h1 : ok p s k = false ∨ (fresh s k = true ∧ cnt s = most)
    · rw [if_pos h1]
      have hn : (if ok p s k = true then (all m ok st pc ps (st p s k)).map (fun z => (pc s k :: z.1, z.2)) else []).find? (fun z => decide (cnt z.2 ≤ most)) = none := by
        rw [List.find?_eq_none]
        intro z hz
        split at hz
        · rename_i ho
          obtain ⟨y, hy, rfl⟩ := List.mem_map.1 hz
          have h2 := all_cnt m ok st pc cnt fresh R hR hc ps _ (hR p ps s k r hkm ho) y hy
          rw [hc p ps s k r hkm ho] at h2
          rcases h1 with h1 | ⟨h1, h3⟩
          · rw [h1] at ho; cases ho
          · rw [if_pos h1] at h2
            simp only [decide_eq_true_eq]
            omega
        · cases hz
      rw [hn, Option.none_or]
      exact ih D (fun k hk => hm k (by simp [hk])) g
    · rw [if_neg h1]
      have ho : ok p s k = true := by
        cases h : ok p s k
        · exact absurd (Or.inl h) h1
        · rfl
      rw [if_pos ho]
      have hcs : cnt (st p s k) ≤ most := by
        rw [hc p ps s k r hkm ho]
        split
        · rename_i hf
          have : cnt s ≠ most := fun e => h1 (Or.inr ⟨hf, e⟩)
          omega
        · omega
      obtain ⟨e, g2⟩ := hrec (st p s k) D (hR p ps s k r hkm ho) hcs g
      have em : ((all m ok st pc ps (st p s k)).map (fun z => (pc s k :: z.1, z.2))).find? (fun z => decide (cnt z.2 ≤ most)) = ((rec (st p s k) D).1).map (fun z => (pc s k :: z.1, z.2)) := by
        rw [e, List.find?_map]
        rfl
      rw [em]
      cases hq : rec (st p s k) D with
      | mk o D' =>
        rw [hq] at g2
        cases o with
        | some z => exact ⟨rfl, g2⟩
        | none =>
          simp only [Option.map_none, Option.none_or]
          exact ih D' (fun k hk => hm k (by simp [hk])) g2
/-! the reference's walk -/
def upd (cnt : S → Nat) (b : Option (List α × Nat)) (z : List α × S) : Option (List α × Nat) := match b with
  | none => some (z.1, cnt z.2)
  | some y => if cnt z.2 < y.2 then some (z.1, cnt z.2) else some y
def stop (cnt : S → Nat) (s : S) : Option (List α × Nat) → Bool
  | none => false
  | some y => decide (y.2 ≤ cnt s)
def walk : List Int → S → List α → Option (List α × Nat) → Option (List α × Nat)
  | [], s, acc, b => if stop cnt s b = true then b else some (acc, cnt s)
  | p :: ps, s, acc, b => if stop cnt s b = true then b else
      (List.range m).foldl (fun b k => if ok p s k = true then walk ps (st p s k) (acc ++ [pc s k]) b else b) b
theorem upd_stop (l : List (List α × S)) : ∀ (b : Option (List α × Nat)) (s : S), (∀ z ∈ l, cnt s ≤ cnt z.2) → stop cnt s b = true → l.foldl (upd cnt) b = b := by
  induction l with
  | nil => intro b s _ _; rfl
  | cons z l ih =>
    intro b s h hb
    cases b with
    | none => cases hb
    | some y =>
      simp only [stop, decide_eq_true_eq] at hb
      have hz := h z (by simp)
      have : upd cnt (some y) z = some y := by simp only [upd]; rw [if_neg (by omega)]
      rw [List.foldl_cons, this]
      exact ih (some y) s (fun z hz => h z (by simp [hz])) (by simp only [stop, decide_eq_true_eq]; exact hb)
theorem walk_eq (hR : ∀ p ps s k, R (p :: ps) s → k < m → ok p s k = true → R ps (st p s k)) (hc : ∀ p ps s k, R (p :: ps) s → k < m → ok p s k = true → cnt (st p s k) = cnt s + (if fresh s k = true then 1 else 0)) : ∀ ps s acc b, R ps s → walk m ok st pc cnt ps s acc b = ((all m ok st pc ps s).map (fun z => (acc ++ z.1, z.2))).foldl (upd cnt) b
  | [], s, acc, b, r => by
    simp only [walk, all, List.map_cons, List.map_nil, List.foldl_cons, List.foldl_nil, List.append_nil]
    cases b with
    | none => simp [stop, upd]
    | some y =>
      simp only [stop, upd, decide_eq_true_eq]
      by_cases h : y.2 ≤ cnt s
      · rw [if_pos h, if_neg (by omega)]
      · rw [if_neg h, if_pos (by omega)]
  | p :: ps, s, acc, b, r => by
    unfold walk
    by_cases hs : stop cnt s b = true
    · rw [if_pos hs]
      symm
      refine upd_stop cnt _ b s ?_ hs
      intro z hz
      obtain ⟨y, hy, rfl⟩ := List.mem_map.1 hz
      exact all_cnt m ok st pc cnt fresh R hR hc _ s r y hy
    · rw [if_neg hs]
      simp only [all]
      have key : ∀ (ks : List Nat) (b : Option (List α × Nat)), (∀ k ∈ ks, k < m) →
          ks.foldl (fun b k => if ok p s k = true then walk m ok st pc cnt ps (st p s k) (acc ++ [pc s k]) b else b) b =
          ((ks.flatMap fun k => if ok p s k = true then (all m ok st pc ps (st p s k)).map (fun z => (pc s k :: z.1, z.2)) else []).map (fun z => (acc ++ z.1, z.2))).foldl (upd cnt) b := by
        intro ks
        induction ks with
        | nil => intro b _; rfl
        | cons k ks ih =>
          intro b hm
          rw [List.foldl_cons, List.flatMap_cons, List.map_append, List.foldl_append, ih _ (fun k hk => hm k (by simp [hk]))]
          congr 1
          by_cases ho : ok p s k = true
          · rw [if_pos ho, if_pos ho, walk_eq hR hc ps _ _ _ (hR p ps s k r (hm k (by simp)) ho), List.map_map]
            congr 1
            refine List.map_congr_left fun z _ => ?_
            simp [Function.comp]
          · rw [if_neg ho, if_neg ho]; rfl
      exact key (List.range m) b (fun k h => List.mem_range.1 h)
/-- The first of the least, two ways. -/
theorem upd_some (l : List (List α × S)) : ∀ (x : List α × Nat), (∀ z ∈ l, x.2 ≤ cnt z.2) → l.foldl (upd cnt) (some x) = some x := by
  induction l with
  | nil => intro x _; rfl
  | cons z l ih =>
    intro x h
    have hz := h z (by simp)
    have : upd cnt (some x) z = some x := by simp only [upd]; rw [if_neg (by omega)]
    rw [List.foldl_cons, this]
    exact ih x (fun z hz => h z (by simp [hz]))
theorem first_least (n : Nat) : ∀ (l : List (List α × S)) (b : Option (List α × Nat)), (∀ z ∈ l, n ≤ cnt z.2) → (∀ y, b = some y → n < y.2) →
    ∀ z, l.find? (fun z => decide (cnt z.2 ≤ n)) = some z → l.foldl (upd cnt) b = some (z.1, n) := by
  intro l
  induction l with
  | nil => intro b _ _ z h; cases h
  | cons x l ih =>
    intro b hl hb z hf
    rw [List.foldl_cons]
    rw [List.find?_cons] at hf
    have hx := hl x (by simp)
    by_cases h : cnt x.2 ≤ n
    · rw [show decide (cnt x.2 ≤ n) = true from decide_eq_true h] at hf
      cases hf
      have e : cnt x.2 = n := by omega
      have : upd cnt b x = some (x.1, n) := by
        cases b with
        | none => simp [upd, e]
        | some y =>
          have := hb y rfl
          simp only [upd]
          rw [if_pos (by omega), e]
      rw [this]
      exact upd_some cnt l (x.1, n) (fun z hz => hl z (by simp [hz]))
    · rw [show decide (cnt x.2 ≤ n) = false from decide_eq_false h] at hf
      refine ih _ (fun z hz => hl z (by simp [hz])) ?_ z hf
      intro y hy
      cases b with
      | none =>
        simp only [upd] at hy
        cases hy
        show n < cnt x.2
        omega
      | some w =>
        simp only [upd] at hy
        have := hb w rfl
        split at hy <;> cases hy
        · show n < cnt x.2
          omega
        · exact this
end
end BoltCore
section
variable {S α κ : Type} [DecidableEq κ] {m : Nat} {ok : Int → S → Nat → Bool} {st : Int → S → Nat → S} {pc : S → Nat → α} {cnt : S → Nat} {fresh : S → Nat → Bool} {key : List Int → S → κ} {R : List Int → S → Prop}
theorem find_eq2 (hR : ∀ p ps s k, R (p :: ps) s → k < m → ok p s k = true → R ps (st p s k))
    (hc : ∀ p ps s k, R (p :: ps) s → k < m → ok p s k = true → cnt (st p s k) = cnt s + (if fresh s k = true then 1 else 0)) (most : Nat)
    (hk : ∀ ps s ps' s', R ps s → R ps' s' → key ps s = key ps' s' → (∀ z ∈ BoltCore.all m ok st pc ps s, most < cnt z.2) → ∀ z ∈ BoltCore.all m ok st pc ps' s', most < cnt z.2) : ∀ ps s D, R ps s → cnt s ≤ most → BoltCore.Good m ok st pc cnt key R most D →
    (BoltCore.find m ok st pc cnt fresh key most ps s D).1 = (BoltCore.all m ok st pc ps s).find? (fun z => decide (cnt z.2 ≤ most)) ∧ BoltCore.Good m ok st pc cnt key R most (BoltCore.find m ok st pc cnt fresh key most ps s D).2
  | [], s, D, r, hs, g => by
    simp [BoltCore.find, BoltCore.all, hs]
    exact g
  | p :: ps, s, D, r, hs, g => by
    unfold BoltCore.find
    by_cases hD : key (p :: ps) s ∈ D
    · rw [if_pos hD]
      refine ⟨?_, g⟩
      symm
      rw [List.find?_eq_none]
      intro z hz
      have := g _ _ r hs hD z hz
      simp only [decide_eq_true_eq]
      omega
    · rw [if_neg hD]
      obtain ⟨e, g2⟩ := BoltCore.tryK_eq m ok st pc cnt fresh key R hR hc most p ps s r hs (BoltCore.find m ok st pc cnt fresh key most ps) (fun s D => find_eq2 hR hc most hk ps s D) (List.range m) D (fun k h => List.mem_range.1 h) g
      have e' : (BoltCore.tryK ok st pc cnt fresh most (BoltCore.find m ok st pc cnt fresh key most ps) p s (List.range m) D).1 = (BoltCore.all m ok st pc (p :: ps) s).find? (fun z => decide (cnt z.2 ≤ most)) := e
      cases hq : BoltCore.tryK ok st pc cnt fresh most (BoltCore.find m ok st pc cnt fresh key most ps) p s (List.range m) D with
      | mk o D' =>
        rw [hq] at g2 e'
        cases o with
        | some z => exact ⟨e', g2⟩
        | none =>
          refine ⟨e', ?_⟩
          intro ps' s' r' hs' hmem z hz
          rcases List.mem_cons.1 hmem with h | h
          · refine hk _ _ _ _ r r' h.symm (fun z hz => ?_) z hz
            have := List.find?_eq_none.1 e'.symm z hz
            simp only [decide_eq_true_eq] at this
            omega
          · exact g2 ps' s' r' hs' h z hz
end
/-! the states that a search meets -/
/-- Two states of one key: the same parts, the same bolts in use. -/
structure SimB (s s' : St) : Prop where
  a : s.1 = s'.1
  l : s.2.length = s'.2.length
  z : ∀ b : Int, 0 ≤ b → b < s.2.length → (0 < rd s.2 b ↔ 0 < rd s'.2 b)
  n : (∀ u ∈ s.2, 0 ≤ u) ∧ (∀ u ∈ s'.2, 0 ≤ u)
theorem cnt_sim : ∀ (a b : List Int), a.length = b.length → (∀ i (h : i < a.length) (h' : i < b.length), (0 < a[i] ↔ 0 < b[i])) → cntU a = cntU b
  | [], [], _, _ => rfl
  | [], _ :: _, h, _ => by simp at h
  | _ :: _, [], h, _ => by simp at h
  | x :: a, y :: b, h, hz => by
    have h0 := hz 0 (by simp) (by simp)
    have ih := cnt_sim a b (by simpa using h) (fun i h1 h2 => by have := hz (i + 1) (by simpa using h1) (by simpa using h2); simpa using this)
    simp only [List.getElem_cons_zero] at h0
    simp only [cntU, ih]
    by_cases hx : 0 < x
    · rw [if_pos hx, if_pos (h0.1 hx)]
    · rw [if_neg hx, if_neg (fun h => hx (h0.2 h))]
theorem rd_at (l : List Int) (i : Nat) (h : i < l.length) : rd l (i : Int) = l[i] := by simp [rd, rdOf, h]
theorem SimB.cnt {s s' : St} (h : SimB s s') : cntB s = cntB s' := by
  unfold cntB
  rw [cnt_sim s.2 s'.2 h.l (fun i h1 h2 => by have := h.z i (by omega) (by omega); rwa [rd_at _ _ h1, rd_at _ _ h2] at this)]
theorem SimB.step {s s' : St} (h : SimB s s') (p : Int) (k : Nat) (hb0 : 0 ≤ (rd_T57 s.1 k).f0) (hb1 : (rd_T57 s.1 k).f0 < s.2.length) : SimB (stB p s k) (stB p s' k) := by
  have ea := h.a
  refine ⟨?_, ?_, ?_, ?_⟩
  · simp only [stB, ← ea]
  · simp only [stB, List.length_set]; exact h.l
  · intro b h0 h1
    simp only [stB, ← ea, List.length_set] at h1 ⊢
    have hz := h.z b h0 h1
    have hz2 := h.z _ hb0 hb1
    have n1 := h.n.1 _ (rd_mem s.2 _ hb0 hb1)
    have n2 := h.n.2 _ (rd_mem s'.2 _ hb0 (by rw [← h.l]; exact hb1))
    by_cases e : b = (rd_T57 s.1 k).f0
    · subst e
      rw [rd_setU _ _ hb0 hb1, rd_setU _ _ hb0 (by rw [← h.l]; exact hb1)]
      omega
    · have e1 : ∀ (l : List Int) (v : Int), l.length = s.2.length → rd (l.set (rd_T57 s.1 k).f0.toNat v) b = rd l b := by
        intro l v hl
        have h2 : (rd_T57 s.1 k).f0.toNat ≠ b.toNat := by omega
        simp [rd, rdOf, List.getElem?_set_ne h2]
      rw [e1 _ _ rfl, e1 _ _ h.l.symm]
      exact hz
  · simp only [stB, ← ea]
    refine ⟨fun u hu => ?_, fun u hu => ?_⟩
    · rcases List.mem_or_eq_of_mem_set hu with hu | rfl
      · exact h.n.1 u hu
      · have := h.n.1 _ (rd_mem s.2 _ hb0 hb1); omega
    · rcases List.mem_or_eq_of_mem_set hu with hu | rfl
      · exact h.n.2 u hu
      · have := h.n.2 _ (rd_mem s'.2 _ hb0 (by rw [← h.l]; exact hb1)); omega

/-! the key tells the state -/
theorem digits_all (u : Nat) : ∀ b ∈ Lib.decDigits u, 48 ≤ b.toNat ∧ b.toNat ≤ 57 := by
  induction u using Nat.strongRecOn with
  | _ u ih =>
    intro b hb
    by_cases h : u < 10
    · rw [Lib.decDigits_one h] at hb
      rw [List.mem_singleton.1 hb, UInt8.toNat_ofNat_of_lt' (by show 48 + u < 256; omega)]
      omega
    · rw [Lib.decDigits, dif_neg h] at hb
      rcases List.mem_append.1 hb with hb | hb
      · exact ih (u / 10) (by omega) b hb
      · rw [List.mem_singleton.1 hb, UInt8.toNat_ofNat_of_lt' (by show 48 + u % 10 < 256; omega)]
        omega
def valD (l : List UInt8) : Nat := l.foldl (fun n b => 10 * n + (b.toNat - 48)) 0
theorem valD_snoc (l : List UInt8) (b : UInt8) : valD (l ++ [b]) = 10 * valD l + (b.toNat - 48) := by unfold valD; rw [List.foldl_append]; rfl
theorem valD_dec (u : Nat) : valD (Lib.decDigits u) = u := by
  induction u using Nat.strongRecOn with
  | _ u ih =>
    by_cases h : u < 10
    · rw [Lib.decDigits_one h, ← List.nil_append [_], valD_snoc, UInt8.toNat_ofNat_of_lt' (by show 48 + u < 256; omega), show valD [] = 0 from rfl]
      omega
    · rw [Lib.decDigits, dif_neg h, valD_snoc, ih (u / 10) (by omega), UInt8.toNat_ofNat_of_lt' (by show 48 + u % 10 < 256; omega)]
      omega
theorem split32 : ∀ (a a' x x' : List UInt8), (∀ c ∈ a, c ≠ 32) → (∀ c ∈ a', c ≠ 32) → a ++ 32 :: x = a' ++ 32 :: x' → a = a' ∧ x = x'
  | [], [], x, x', _, _, h => by simpa using h
  | [], c :: a', x, x', _, h2, h => by
    simp only [List.nil_append, List.cons_append, List.cons.injEq] at h
    exact absurd h.1.symm (h2 c (by simp))
  | c :: a, [], x, x', h1, _, h => by
    simp only [List.nil_append, List.cons_append, List.cons.injEq] at h
    exact absurd h.1 (h1 c (by simp))
  | c :: a, c' :: a', x, x', h1, h2, h => by
    simp only [List.cons_append, List.cons.injEq] at h
    obtain ⟨e1, e2⟩ := split32 a a' x x' (fun d hd => h1 d (by simp [hd])) (fun d hd => h2 d (by simp [hd])) h.2
    exact ⟨by rw [h.1, e1], e2⟩
theorem itoa_no32 (n : Int) (h : 0 ≤ n) : ∀ c ∈ Lib.itoa n, c ≠ 32 := by
  obtain ⟨u, rfl⟩ := Int.eq_ofNat_of_zero_le h
  rw [Lib.itoa_nonneg]
  rintro c hc rfl
  have := digits_all u _ hc
  have e : (32 : UInt8).toNat = 32 := rfl
  omega
theorem itoa_same (n n' : Int) (h : 0 ≤ n) (h' : 0 ≤ n') (e : Lib.itoa n = Lib.itoa n') : n = n' := by
  obtain ⟨u, rfl⟩ := Int.eq_ofNat_of_zero_le h
  obtain ⟨v, rfl⟩ := Int.eq_ofNat_of_zero_le h'
  rw [Lib.itoa_nonneg, Lib.itoa_nonneg] at e
  have := congrArg valD e
  rw [valD_dec, valD_dec] at this
  rw [this]
def tailB (l : List S57) : List UInt8 := l.flatMap (fun p => 32 :: Lib.itoa p.f1)
theorem keyB_list : ∀ (l : List S57) (acc : ByteArray), (keyB acc l).data.toList = acc.data.toList ++ tailB l
  | [], acc => by simp [keyB, tailB]
  | p :: l, acc => by
    rw [keyB, keyB_list l]
    simp [tailB]
theorem tailB_cons (p : S57) (l : List S57) : tailB (p :: l) = 32 :: (Lib.itoa p.f1 ++ tailB l) := by simp [tailB]
theorem tail_inj : ∀ (l l' : List S57) (n n' : Int), l.length = l'.length → 0 ≤ n → 0 ≤ n' → (∀ p ∈ l, 0 ≤ p.f1) → (∀ p ∈ l', 0 ≤ p.f1) → Lib.itoa n ++ tailB l = Lib.itoa n' ++ tailB l' → n = n' ∧ l.map (·.f1) = l'.map (·.f1)
  | [], [], n, n', _, h0, h1, _, _, e => by
    simp only [tailB, List.flatMap_nil, List.append_nil] at e
    exact ⟨itoa_same n n' h0 h1 e, rfl⟩
  | [], _ :: _, _, _, h, _, _, _, _, _ => by simp at h
  | _ :: _, [], _, _, h, _, _, _, _, _ => by simp at h
  | p :: l, q :: l', n, n', h, h0, h1, hp, hq, e => by
    rw [tailB_cons, tailB_cons] at e
    obtain ⟨e1, e2⟩ := split32 _ _ _ _ (itoa_no32 n h0) (itoa_no32 n' h1) e
    obtain ⟨e3, e4⟩ := tail_inj l l' p.f1 q.f1 (by simpa using h) (hp p (by simp)) (hq q (by simp)) (fun x hx => hp x (by simp [hx])) (fun x hx => hq x (by simp [hx])) e2
    exact ⟨itoa_same n n' h0 h1 e1, by simp [e3, e4]⟩
theorem keyN_inj {n : Nat} {ps ps' : List Int} {s s' : St} (hl : s.1.length = s'.1.length) (h0 : ∀ p ∈ s.1, 0 ≤ p.f1) (h1 : ∀ p ∈ s'.1, 0 ≤ p.f1) (h2 : ps.length ≤ n) (h3 : ps'.length ≤ n) (e : keyN n ps s = keyN n ps' s') : ps.length = ps'.length ∧ s.1.map (·.f1) = s'.1.map (·.f1) := by
  unfold keyN at e
  rw [keyB_list, keyB_list] at e
  obtain ⟨e1, e2⟩ := tail_inj s.1 s'.1 ((n - ps.length : Nat) : Int) ((n - ps'.length : Nat) : Int) hl (by omega) (by omega) h0 h1 e
  exact ⟨by omega, e2⟩
/-! what is true of every state that the search meets -/
structure RB (P : List Int) (parts0 : List S57) (n : Nat) (ps : List Int) (s : St) : Prop where
  d : ∃ i, P.drop i = ps ∧ i + ps.length = P.length
  v : InvB ps.length s
  nn : s.2.length = n
  l : s.1.length = parts0.length
  p : ∀ k (h : k < s.1.length) (h' : k < parts0.length), s.1[k].f0 = parts0[k].f0 ∧ s.1[k].f2 = parts0[k].f2 ∧ parts0[k].f1 ≤ s.1[k].f1
  u : ∀ b : Int, 0 ≤ b → b < n → (0 < rd s.2 b ↔ ∃ k, ∃ (h : k < s.1.length) (h' : k < parts0.length), parts0[k].f0 = b ∧ parts0[k].f1 < s.1[k].f1)
theorem rdP_at (l : List S57) (i : Nat) (h : i < l.length) : rd_T57 l (i : Int) = l[i] := by simp [rd_T57, rdOf, h]
theorem RB.step {P : List Int} {parts0 : List S57} {n : Nat} (hP : ∀ p ∈ P, 1 ≤ p ∧ p ≤ 10000) {p : Int} {ps : List Int} {s : St} {k : Nat} (h : RB P parts0 n (p :: ps) s) (hk : k < s.1.length) (ho : okB p s k = true) : RB P parts0 n ps (stB p s k) := by
  obtain ⟨i, hd, hi⟩ := h.d
  have hlen : i < P.length := by simp only [List.length_cons] at hi; omega
  have hp : p ∈ P := by
    have h3 := List.getElem_cons_drop (h := hlen)
    rw [hd] at h3
    injection h3 with h3 _
    rw [← h3]
    exact List.getElem_mem _
  have hp1 := hP p hp
  have hkp : k < parts0.length := by rw [← h.l]; exact hk
  have hq := h.v.a _ (List.getElem_mem hk)
  have hpk := h.p k hk hkp
  have e0 := rdP_at s.1 k hk
  refine ⟨⟨i + 1, by rw [← List.drop_drop, hd]; rfl, by simp only [List.length_cons] at hi; omega⟩, h.v.step p hp1.1 k hk ho, by simpa [stB] using h.nn, by simpa [stB] using h.l, ?_, ?_⟩
  · intro j hj hj'
    simp only [stB, List.length_set] at hj ⊢
    have hpj := h.p j hj hj'
    by_cases e : k = j
    · subst e
      rw [List.getElem_set_self, e0]
      exact ⟨hpk.1, hpk.2.1, by show parts0[k].f1 ≤ s.1[k].f1 + p; omega⟩
    · rw [List.getElem_set_ne e]
      exact hpj
  · intro b hb0 hb1
    have hu := h.u b hb0 hb1
    have hn := h.nn
    have n1 := h.v.b _ (rd_mem s.2 s.1[k].f0 hq.1 hq.2.1)
    have mid : (∃ j, ∃ (h : j < (stB p s k).1.length) (h' : j < parts0.length), parts0[j].f0 = b ∧ parts0[j].f1 < (stB p s k).1[j].f1) ↔ (b = s.1[k].f0 ∨ ∃ j, ∃ (h : j < s.1.length) (h' : j < parts0.length), parts0[j].f0 = b ∧ parts0[j].f1 < s.1[j].f1) := by
      constructor
      · rintro ⟨j, hj, hj', e1, e2⟩
        simp only [stB, List.length_set] at hj e2
        by_cases e : k = j
        · subst e
          exact Or.inl (by rw [hpk.1]; exact e1.symm)
        · rw [List.getElem_set_ne e] at e2
          exact Or.inr ⟨j, hj, hj', e1, e2⟩
      · rintro (e1 | ⟨j, hj, hj', e1, e2⟩)
        · refine ⟨k, by simpa [stB] using hk, hkp, by rw [e1]; exact hpk.1.symm, ?_⟩
          simp only [stB, List.getElem_set_self, e0]
          omega
        · refine ⟨j, by simpa [stB] using hj, hj', e1, ?_⟩
          simp only [stB]
          by_cases e : k = j
          · subst e
            rw [List.getElem_set_self, e0]
            show parts0[k].f1 < s.1[k].f1 + p
            omega
          · rw [List.getElem_set_ne e]
            exact e2
    rw [mid, ← hu]
    simp only [stB, e0]
    by_cases e : b = s.1[k].f0
    · subst e
      rw [rd_setU _ _ hq.1 hq.2.1]
      constructor
      · intro _; exact Or.inl rfl
      · intro _; omega
    · have h2 : s.1[k].f0.toNat ≠ b.toNat := by omega
      rw [show rd (s.2.set s.1[k].f0.toNat (rd s.2 s.1[k].f0 + 1)) b = rd s.2 b by simp [rd, rdOf, List.getElem?_set_ne h2]]
      constructor
      · intro h; exact Or.inr h
      · rintro (h | h)
        · exact absurd h e
        · exact h
theorem cntU_set : ∀ (l : List Int) (i : Nat) (h : i < l.length), (∀ u ∈ l, 0 ≤ u) → cntU (l.set i (l[i] + 1)) = cntU l + (if l[i] = 0 then 1 else 0)
  | x :: l, 0, _, hn => by
    have := hn x (by simp)
    simp only [List.set_cons_zero, List.getElem_cons_zero, cntU]
    split <;> split <;> split <;> omega
  | x :: l, i + 1, h, hn => by
    have := cntU_set l i (by simpa using h) (fun u hu => hn u (by simp [hu]))
    simp only [List.set_cons_succ, List.getElem_cons_succ, cntU, this]
    omega
theorem RB.cnt {P : List Int} {parts0 : List S57} {n : Nat} {p : Int} {ps : List Int} {s : St} {k : Nat} (h : RB P parts0 n ps s) (hk : k < s.1.length) : cntB (stB p s k) = cntB s + (if freshB s k = true then 1 else 0) := by
  have hq := h.v.a _ (List.getElem_mem hk)
  have e0 := rdP_at s.1 k hk
  have hi : s.1[k].f0.toNat < s.2.length := by omega
  have er : rd s.2 s.1[k].f0 = s.2[s.1[k].f0.toNat] := by simp [rd, rdOf, hi]
  have hn : ∀ u ∈ s.2, 0 ≤ u := fun u hu => (h.v.b u hu).1
  have hs := cntU_set s.2 _ hi hn
  have hc := cntU_le s.2
  unfold cntB freshB
  simp only [stB, e0, er, hs, decide_eq_true_eq]
  split <;> omega
theorem S57_ext {x y : S57} (h0 : x.f0 = y.f0) (h1 : x.f1 = y.f1) (h2 : x.f2 = y.f2) : x = y := by
  cases x; cases y; simp_all
theorem RB.same {P : List Int} {parts0 : List S57} {n : Nat} {ps ps' : List Int} {s s' : St} (h : RB P parts0 n ps s) (h' : RB P parts0 n ps' s') (e : keyN P.length ps s = keyN P.length ps' s') : ps = ps' ∧ SimB s s' := by
  obtain ⟨i, hd, hi⟩ := h.d
  obtain ⟨i', hd', hi'⟩ := h'.d
  have hl : s.1.length = s'.1.length := h.l.trans h'.l.symm
  obtain ⟨e1, e2⟩ := keyN_inj hl (fun p hp => (h.v.a p hp).2.2.1) (fun p hp => (h'.v.a p hp).2.2.1) (by omega) (by omega) e
  have ei : i = i' := by omega
  subst ei
  have ea : s.1 = s'.1 := by
    refine List.ext_getElem hl (fun k hk hk' => ?_)
    have hk0 : k < parts0.length := by rw [← h.l]; exact hk
    have a1 := h.p k hk hk0
    have a2 := h'.p k hk' hk0
    refine S57_ext (a1.1.trans a2.1.symm) ?_ (a1.2.1.trans a2.2.1.symm)
    have := congrArg (fun l => l[k]?) e2
    simpa [hk, hk'] using this
  refine ⟨hd.symm.trans hd', ea, h.nn.trans h'.nn.symm, ?_, ⟨fun u hu => (h.v.b u hu).1, fun u hu => (h'.v.b u hu).1⟩⟩
  intro b hb0 hb1
  rw [h.u b hb0 (by rw [← h.nn]; exact hb1), h'.u b hb0 (by rw [← h.nn]; exact hb1)]
  simp only [ea]
theorem all_sim (m : Nat) : ∀ (ps : List Int) (s s' : St), SimB s s' → m ≤ s.1.length → (∀ q ∈ s.1, 0 ≤ q.f0 ∧ q.f0 < s.2.length) → ∀ z' ∈ BoltCore.all m okB stB pcB ps s', ∃ z ∈ BoltCore.all m okB stB pcB ps s, cntB z.2 = cntB z'.2
  | [], s, s', h, _, _, z', hz => by
    simp only [BoltCore.all, List.mem_singleton] at hz ⊢
    subst hz
    exact ⟨_, rfl, h.cnt⟩
  | p :: ps, s, s', h, hm, hA, z', hz => by
    simp only [BoltCore.all, List.mem_flatMap, List.mem_range] at hz ⊢
    obtain ⟨k, hk, hz⟩ := hz
    have ea := h.a
    have hok : okB p s' k = okB p s k := by unfold okB; rw [ea]
    split at hz
    · rename_i ho
      obtain ⟨y', hy', rfl⟩ := List.mem_map.1 hz
      have hks : k < s.1.length := by omega
      have hq := hA _ (List.getElem_mem hks)
      have e0 := rdP_at s.1 k hks
      obtain ⟨y, hy, ey⟩ := all_sim m ps (stB p s k) (stB p s' k) (h.step p k (by rw [e0]; exact hq.1) (by rw [e0]; exact hq.2)) (by simpa [stB] using hm) (by
        intro q hq2
        simp only [stB, List.length_set] at hq2 ⊢
        rcases List.mem_or_eq_of_mem_set hq2 with h2 | rfl
        · exact hA q h2
        · rw [e0]; exact hq) y' hy'
      refine ⟨(pcB s k :: y.1, y.2), ⟨k, hk, ?_⟩, ey⟩
      rw [if_pos (by rw [← hok]; exact ho)]
      exact List.mem_map.2 ⟨y, hy, rfl⟩
    · cases hz
/-- The search finds the first way that is good enough. -/
theorem findB_first {P : List Int} {parts0 : List S57} {n : Nat} (hP : ∀ p ∈ P, 1 ≤ p ∧ p ≤ 10000) (most : Nat) (s : St) (hR : RB P parts0 n P s) (hs : cntB s ≤ most) :
    (findB P.length parts0.length most P s []).1 = (BoltCore.all parts0.length okB stB pcB P s).find? (fun z => decide (cntB z.2 ≤ most)) := by
  refine (find_eq2 (R := RB P parts0 n) (fun p ps s k r hk ho => r.step (k := k) hP (by rw [r.l]; exact hk) ho) (fun p ps s k r hk ho => r.cnt (k := k) (by rw [r.l]; exact hk)) most ?_ P s [] hR hs (fun ps s r _ h => by cases h)).1
  intro ps s ps' s' r r' e hz z' hz'
  obtain ⟨e1, sim⟩ := r.same r' e
  subst e1
  obtain ⟨z, h1, h2⟩ := all_sim parts0.length ps s s' sim (by rw [r.l]; exact Nat.le_refl _) (fun q hq => ⟨(r.v.a q hq).1, (r.v.a q hq).2.1⟩) z' hz'
  rw [← h2]
  exact hz z h1

theorem all_R {P : List Int} {parts0 : List S57} {n : Nat} (hP : ∀ p ∈ P, 1 ≤ p ∧ p ≤ 10000) : ∀ (ps : List Int) (s : St), RB P parts0 n ps s → ∀ z ∈ BoltCore.all parts0.length okB stB pcB ps s, RB P parts0 n [] z.2
  | [], s, r, z, hz => by
    simp only [BoltCore.all, List.mem_singleton] at hz
    subst hz
    exact r
  | p :: ps, s, r, z, hz => by
    simp only [BoltCore.all, List.mem_flatMap, List.mem_range] at hz
    obtain ⟨k, hk, hz⟩ := hz
    split at hz
    · rename_i ho
      obtain ⟨y, hy, rfl⟩ := List.mem_map.1 hz
      exact all_R hP ps _ (r.step (k := k) hP (by rw [r.l]; exact hk) ho) y hy
    · cases hz
theorem cntU_rep (n : Nat) : cntU (List.replicate n 0) = 0 := by
  induction n with
  | zero => rfl
  | succ n ih => rw [List.replicate_succ, cntU, ih]; rfl
theorem fewGo_loop {P : List Int} {parts0 : List S57} {n : Nat} (hP : ∀ p ∈ P, 1 ≤ p ∧ p ≤ 10000) (hR : RB P parts0 n P (parts0, List.replicate n 0)) : ∀ (j most : Nat), most + j = n + 1 → (∀ z ∈ BoltCore.all parts0.length okB stB pcB P (parts0, List.replicate n 0), most ≤ cntB z.2) →
    (fewGo P parts0 n j most = none ∧ BoltCore.all parts0.length okB stB pcB P (parts0, List.replicate n 0) = []) ∨ ∃ z, fewGo P parts0 n j most = some z ∧ z ∈ BoltCore.all parts0.length okB stB pcB P (parts0, List.replicate n 0) ∧ ∀ z' ∈ BoltCore.all parts0.length okB stB pcB P (parts0, List.replicate n 0), cntB z.2 ≤ cntB z'.2
  | 0, most, h, hz => by
    refine Or.inl ⟨rfl, ?_⟩
    cases e : BoltCore.all parts0.length okB stB pcB P (parts0, List.replicate n 0) with
    | nil => rfl
    | cons z l =>
      have hm : z ∈ BoltCore.all parts0.length okB stB pcB P (parts0, List.replicate n 0) := by rw [e]; simp
      have h1 := hz z hm
      have h2 := (all_R hP P _ hR z hm).nn
      have h3 := cntU_le z.2.2
      unfold cntB at h1
      omega
  | j + 1, most, h, hz => by
    have e := findB_first hP most (parts0, List.replicate n 0) hR (by unfold cntB; simp only [cntU_rep]; exact Nat.zero_le _)
    unfold fewGo
    rw [e]
    cases hf : (BoltCore.all parts0.length okB stB pcB P (parts0, List.replicate n 0)).find? (fun z => decide (cntB z.2 ≤ most)) with
    | some z =>
      have h1 := List.find?_some hf
      have h2 := List.mem_of_find?_eq_some hf
      simp only [decide_eq_true_eq] at h1
      exact Or.inr ⟨z, rfl, h2, fun z' hz' => Nat.le_trans h1 (hz z' hz')⟩
    | none =>
      refine fewGo_loop hP hR j (most + 1) (by omega) (fun z hm => ?_)
      have := List.find?_eq_none.1 hf z hm
      simp only [decide_eq_true_eq] at this
      omega

/-! what is true of the places -/
def sumG (g : S57 → Int) : List S57 → Int
  | [] => 0
  | q :: l => g q + sumG g l
def sumI : List Int → Int
  | [] => 0
  | q :: l => q + sumI l
theorem sumG_set (g : S57 → Int) : ∀ (l : List S57) (k : Nat) (h : k < l.length) (x : S57), sumG g (l.set k x) = sumG g l - g l[k] + g x
  | q :: l, 0, _, x => by simp only [List.set_cons_zero, sumG, List.getElem_cons_zero]; omega
  | q :: l, k + 1, h, x => by
    have := sumG_set g l k (by simpa using h) x
    simp only [List.set_cons_succ, sumG, List.getElem_cons_succ, this]
    omega
theorem sumI_set : ∀ (l : List Int) (k : Nat) (h : k < l.length) (x : Int), sumI (l.set k x) = sumI l - l[k] + x
  | q :: l, 0, _, x => by simp only [List.set_cons_zero, sumI, List.getElem_cons_zero]; omega
  | q :: l, k + 1, h, x => by
    have := sumI_set l k (by simpa using h) x
    simp only [List.set_cons_succ, sumI, List.getElem_cons_succ, this]
    omega
theorem sumI_snoc : ∀ (l : List Int) (x : Int), sumI (l ++ [x]) = sumI l + x
  | [], x => by simp [sumI]
  | q :: l, x => by simp only [List.cons_append, sumI, sumI_snoc l x]; omega
theorem sumG_nonneg (g : S57 → Int) : ∀ (l : List S57), (∀ q ∈ l, 0 ≤ g q) → 0 ≤ sumG g l
  | [], _ => Int.le_refl _
  | q :: l, h => by
    have := sumG_nonneg g l (fun x hx => h x (by simp [hx]))
    have := h q (by simp)
    simp only [sumG]
    omega
def remB (b : Int) (q : S57) : Int := if q.f0 = b then q.f2 - q.f1 else 0
def leftOf : List Int → List S60 → List Int → List Int
  | o, q :: qs, p :: ps => leftOf (o.set q.f0.toNat (rd o q.f0 - p)) qs ps
  | o, _, _ => o
theorem leftOf_snoc : ∀ (qs : List S60) (ps : List Int) (o : List Int) (q : S60) (p : Int), qs.length = ps.length → leftOf o (qs ++ [q]) (ps ++ [p]) = (leftOf o qs ps).set q.f0.toNat (rd (leftOf o qs ps) q.f0 - p)
  | [], [], o, q, p, _ => by simp [leftOf]
  | [], _ :: _, _, _, _, h => by simp at h
  | _ :: _, [], _, _, _, h => by simp at h
  | x :: qs, y :: ps, o, q, p, h => by
    simp only [List.cons_append, leftOf]
    exact leftOf_snoc qs ps _ q p (by simpa using h)
theorem leftOf_len : ∀ (qs : List S60) (ps : List Int) (o : List Int), (leftOf o qs ps).length = o.length
  | [], [], o => rfl
  | [], _ :: _, o => rfl
  | _ :: _, [], o => rfl
  | x :: qs, y :: ps, o => by rw [leftOf, leftOf_len qs ps, List.length_set]
structure PI (lens : List Int) (parts0 : List S57) (P : List Int) (i : Nat) (s : St) (acc : List S60) : Prop where
  al : acc.length = i
  D : ∀ b : Int, 0 ≤ b → b < lens.length → rd (leftOf lens acc (P.take i)) b = sumG (remB b) s.1
  U : ∀ b : Int, 0 ≤ b → b < lens.length → (rd s.2 b = 0 ∧ rd (leftOf lens acc (P.take i)) b = rd lens b) ∨ (0 < rd s.2 b ∧ rd (leftOf lens acc (P.take i)) b < rd lens b)
  S : sumI (leftOf lens acc (P.take i)) + sumI (P.take i) = sumI lens
  W : ∀ j (h : j < acc.length) (h' : j < P.length), ∃ k, ∃ (hk : k < parts0.length) (hk' : k < s.1.length), parts0[k].f0 = acc[j].f0 ∧ parts0[k].f1 ≤ acc[j].f1 ∧ acc[j].f1 + P[j] ≤ s.1[k].f1
  N : ∀ j (h : j < acc.length) (h' : j < P.length) k (hk : k < j), ¬ (acc[k].f0 = acc[j].f0 ∧ acc[j].f1 < acc[k].f1 + P[k] ∧ acc[k].f1 < acc[j].f1 + P[j])
theorem PI.step {lens : List Int} {parts0 : List S57} {P : List Int} {i : Nat} {s : St} {acc : List S60} (h : PI lens parts0 P i s acc) (hP : ∀ p ∈ P, 1 ≤ p ∧ p ≤ 10000)
    (hap : ∀ k k' (hk : k < parts0.length) (hk' : k' < parts0.length), k ≠ k' → parts0[k].f0 = parts0[k'].f0 → parts0[k].f2 ≤ parts0[k'].f1 ∨ parts0[k'].f2 ≤ parts0[k].f1)
    {p : Int} {ps : List Int} (r : RB P parts0 lens.length (p :: ps) s) (hi : P.drop i = p :: ps) {k : Nat} (hk : k < s.1.length) (ho : okB p s k = true) : PI lens parts0 P (i + 1) (stB p s k) (acc ++ [pcB s k]) := by
  have hlen : i < P.length := by
    have := congrArg List.length hi
    simp only [List.length_drop, List.length_cons] at this
    omega
  have hpi : P[i] = p := by
    have h3 := List.getElem_cons_drop (h := hlen)
    rw [hi] at h3
    injection h3
  have hp1 := hP p (by rw [← hpi]; exact List.getElem_mem _)
  have e0 := rdP_at s.1 k hk
  have hk0 : k < parts0.length := by rw [← r.l]; exact hk
  have hq := r.v.a _ (List.getElem_mem hk)
  have hpk := r.p k hk hk0
  have ho' : p ≤ s.1[k].f2 - s.1[k].f1 := by have := of_decide_eq_true ho; rw [e0] at this; exact this
  have hb1 : s.1[k].f0 < lens.length := by have := hq.2.1; rw [r.nn] at this; exact this
  have et : P.take (i + 1) = P.take i ++ [p] := by rw [List.take_succ_eq_append_getElem hlen, hpi]
  have hal := h.al
  have htl : (P.take i).length = i := by rw [List.length_take]; omega
  have el : leftOf lens (acc ++ [pcB s k]) (P.take (i + 1)) = (leftOf lens acc (P.take i)).set s.1[k].f0.toNat (rd (leftOf lens acc (P.take i)) s.1[k].f0 - p) := by
    rw [et, leftOf_snoc _ _ _ _ _ (by omega)]
    simp only [pcB, e0]
  have hll := leftOf_len acc (P.take i) lens
  have hbl : s.1[k].f0.toNat < (leftOf lens acc (P.take i)).length := by omega
  have rset : ∀ (b : Int), 0 ≤ b → b ≠ s.1[k].f0 → ∀ (l : List Int) (v : Int), rd (l.set s.1[k].f0.toNat v) b = rd l b := by
    intro b hb hne l v
    have h2 : s.1[k].f0.toNat ≠ b.toNat := by omega
    simp [rd, rdOf, List.getElem?_set_ne h2]
  refine ⟨by rw [List.length_append, hal]; rfl, ?_, ?_, ?_, ?_, ?_⟩
  · intro b h0 h1
    have hD := h.D b h0 h1
    rw [el]
    simp only [stB, e0]
    rw [sumG_set _ _ _ hk]
    by_cases e : b = s.1[k].f0
    · subst e
      rw [rd_setU _ _ hq.1 (by omega), hD]
      simp only [remB, if_pos]
      omega
    · rw [rset b h0 e, hD]
      simp only [remB, if_neg (fun e' => e (Eq.symm e'))]
      omega
  · intro b h0 h1
    have hU := h.U b h0 h1
    rw [el]
    simp only [stB, e0]
    by_cases e : b = s.1[k].f0
    · subst e
      have n1 := (r.v.b _ (rd_mem s.2 s.1[k].f0 hq.1 hq.2.1)).1
      rw [rd_setU s.2 _ hq.1 hq.2.1, rd_setU (leftOf lens acc (P.take i)) _ hq.1 (by omega)]
      right
      rcases hU with hU | hU
      · exact ⟨by omega, by omega⟩
      · exact ⟨by omega, by omega⟩
    · rw [rset b h0 e, rset b h0 e]
      exact hU
  · rw [el, et, sumI_snoc, sumI_set _ _ hbl]
    have hr : rd (leftOf lens acc (P.take i)) s.1[k].f0 = (leftOf lens acc (P.take i))[s.1[k].f0.toNat] := by simp [rd, rdOf, hbl]
    have := h.S
    omega
  · intro j hj hj'
    by_cases e : j < acc.length
    · obtain ⟨k', hk1, hk2, a1, a2, a3⟩ := h.W j e hj'
      refine ⟨k', hk1, by simpa [stB] using hk2, ?_⟩
      rw [List.getElem_append_left e]
      refine ⟨a1, a2, ?_⟩
      simp only [stB, e0]
      by_cases ek : k = k'
      · subst ek
        rw [List.getElem_set_self]
        show _ ≤ s.1[k].f1 + p
        omega
      · rw [List.getElem_set_ne ek]
        exact a3
    · have ej : j = acc.length := by rw [List.length_append] at hj; simp at hj; omega
      subst ej
      refine ⟨k, hk0, by simpa [stB] using hk, ?_⟩
      rw [List.getElem_concat_length rfl]
      simp only [pcB, stB, e0, List.getElem_set_self]
      refine ⟨hpk.1.symm, hpk.2.2, ?_⟩
      have : P[acc.length]'hj' = p := by rw [← hpi]; congr 1
      rw [this]
      exact Int.le_refl _
  · intro j hj hj' k' hk'
    by_cases e : j < acc.length
    · rw [List.getElem_append_left e, List.getElem_append_left (by omega)]
      exact h.N j e hj' k' hk'
    · have ej : j = acc.length := by rw [List.length_append] at hj; simp at hj; omega
      subst ej
      rw [List.getElem_concat_length rfl, List.getElem_append_left hk']
      have ep : P[acc.length]'hj' = p := by rw [← hpi]; congr 1
      rw [ep]
      obtain ⟨m, hm1, hm2, a1, a2, a3⟩ := h.W k' hk' (by omega)
      have am := r.p m hm2 hm1
      have qm := r.v.a _ (List.getElem_mem hm2)
      simp only [pcB, e0]
      rintro ⟨b1, b2, b3⟩
      by_cases ek : m = k
      · subst ek
        omega
      · rcases hap m k hm1 hk0 ek (by rw [a1, b1, hpk.1]) with c | c
        · omega
        · omega
theorem all_PI {lens : List Int} {parts0 : List S57} {P : List Int} (hP : ∀ p ∈ P, 1 ≤ p ∧ p ≤ 10000)
    (hap : ∀ k k' (hk : k < parts0.length) (hk' : k' < parts0.length), k ≠ k' → parts0[k].f0 = parts0[k'].f0 → parts0[k].f2 ≤ parts0[k'].f1 ∨ parts0[k'].f2 ≤ parts0[k].f1) :
    ∀ (ps : List Int) (i : Nat) (s : St) (acc : List S60), P.drop i = ps → i + ps.length = P.length → RB P parts0 lens.length ps s → PI lens parts0 P i s acc → ∀ z ∈ BoltCore.all parts0.length okB stB pcB ps s, PI lens parts0 P P.length z.2 (acc ++ z.1)
  | [], i, s, acc, hi, hl, r, h, z, hz => by
    simp only [BoltCore.all, List.mem_singleton] at hz
    subst hz
    simp only [List.length_nil, Nat.add_zero] at hl
    subst hl
    simpa using h
  | p :: ps, i, s, acc, hi, hl, r, h, z, hz => by
    simp only [BoltCore.all, List.mem_flatMap, List.mem_range] at hz
    obtain ⟨k, hk, hz⟩ := hz
    split at hz
    · rename_i ho
      obtain ⟨y, hy, rfl⟩ := List.mem_map.1 hz
      have hks : k < s.1.length := by rw [r.l]; exact hk
      have := all_PI hP hap ps (i + 1) (stB p s k) (acc ++ [pcB s k]) (by rw [← List.drop_drop, hi]; rfl) (by simp only [List.length_cons] at hl; omega) (r.step hP hks ho) (h.step hP hap r hi hks ho) y hy
      simpa using this
    · cases hz
def Ch (e : Int) : Int → List Int → Prop
  | a, [] => a ≤ e
  | a, f :: r => a ≤ f ∧ Ch e f r
theorem ch_drop (fl : List Int) (e : Int) (h : ∀ i (hi : i < fl.length), fl[i] ≤ e) (h2 : ∀ i (hi : i + 1 < fl.length), fl[i] ≤ fl[i + 1]) (d : Nat) : ∀ (i : Nat) (a : Int), i + d = fl.length → a ≤ e → (∀ (hi : i < fl.length), a ≤ fl[i]) → Ch e a (fl.drop i) := by
  induction d with
  | zero =>
    intro i a hi ha _
    rw [List.drop_of_length_le (by omega)]
    exact ha
  | succ d ih =>
    intro i a hi ha hf
    have hil : i < fl.length := by omega
    rw [List.drop_eq_getElem_cons hil]
    exact ⟨hf hil, ih (i + 1) _ (by omega) (h i hil) (fun h3 => h2 i h3)⟩
theorem ch_bolt {b : S50} (h : boltOk b = true) : Ch b.f0 0 b.f1 := by
  obtain ⟨h0, _, _, h3⟩ := boltOk_vals h
  have e : ∀ i (hi : i < b.f1.length), rd b.f1 (i : Int) = b.f1[i] := fun i hi => rd_get b.f1 i hi
  refine ch_drop b.f1 b.f0 (fun i hi => ?_) (fun i hi => ?_) b.f1.length 0 0 (by omega) (by omega) (fun hi => ?_)
  · have := (h3 i hi).1; rw [e i hi] at this; omega
  · have := (h3 (i + 1) hi).2 (by omega)
    rw [e (i + 1) hi, show ((i + 1 : Nat) : Int) - 1 = (i : Int) by omega, e i (by omega)] at this
    omega
  · have := (h3 0 hi).1
    rw [e 0 hi] at this
    omega
theorem ch_parts (e : Int) : ∀ (fl : List Int) (a : Int), Ch e a fl → a ≤ e ∧ (∀ p ∈ partsFrom e a fl, a ≤ rd p 0 ∧ rd p 0 ≤ rd p 1 ∧ rd p 1 ≤ e) ∧ (partsFrom e a fl).Pairwise (fun p q => rd p 1 ≤ rd q 0)
  | [], a, h => by
    refine ⟨h, ?_, List.pairwise_singleton _ _⟩
    intro p hp
    simp only [partsFrom, List.mem_singleton] at hp
    subst hp
    exact ⟨Int.le_refl _, h, Int.le_refl _⟩
  | f :: r, a, h => by
    obtain ⟨h1, h2, h3⟩ := ch_parts e r f h.2
    have h0 : a ≤ f := h.1
    refine ⟨by omega, ?_, ?_⟩
    · intro p hp
      simp only [partsFrom, List.mem_cons] at hp
      rcases hp with rfl | hp
      · exact ⟨Int.le_refl _, h0, h1⟩
      · have := h2 p hp
        exact ⟨by omega, this.2.1, this.2.2⟩
    · exact List.pairwise_cons.2 ⟨fun p hp => (h2 p hp).1, h3⟩
def sumC (b : Int) : List (Int × Int × Int) → Int
  | [] => 0
  | c :: l => (if c.1 = b then c.2.2 - c.2.1 else 0) + sumC b l
theorem sumC_app (b : Int) : ∀ l m, sumC b (l ++ m) = sumC b l + sumC b m
  | [], m => by simp [sumC]
  | c :: l, m => by simp only [List.cons_append, sumC, sumC_app b l m]; omega
theorem sumC_map (b : Int) : ∀ l : List (Int × Int × Int), sumG (remB b) (l.map mkPart) = sumC b l
  | [] => rfl
  | c :: l => by simp only [List.map_cons, sumG, sumC, sumC_map b l]; rfl
theorem sumC_parts (b i e : Int) : ∀ (fl : List Int) (a : Int), sumC b ((partsFrom e a fl).map (fun p => (i, rd p 0, rd p 1))) = if i = b then e - a else 0
  | [], a => by
    simp only [partsFrom, List.map_cons, List.map_nil, sumC]
    have e0 : rd [a, e] 0 = a := rfl
    have e1 : rd [a, e] 1 = e := rfl
    rw [e0, e1]; simp
  | f :: r, a => by
    simp only [partsFrom, List.map_cons, sumC]
    rw [sumC_parts b i e r f]
    have e0 : rd [a, f] 0 = a := rfl
    have e1 : rd [a, f] 1 = f := rfl
    rw [e0, e1]
    split <;> omega
theorem sumC_cuts (b : Int) : ∀ (l : List S50) (i : Int), 0 ≤ b - i → sumC b (cutsFrom i l) = (if b - i < l.length then rd (l.map (·.f0)) (b - i) else 0)
  | [], i, h => by rw [if_neg (by simp; omega)]; rfl
  | x :: l, i, h => by
    rw [cutsFrom, sumC_app]
    unfold partsOf
    rw [sumC_parts]
    by_cases e : i = b
    · subst e
      have h0 : ∀ (m : List S50) (j : Int), i < j → sumC i (cutsFrom j m) = 0 := by
        intro m
        induction m with
        | nil => intro j _; rfl
        | cons y m ih =>
          intro j hj
          rw [cutsFrom, sumC_app]
          unfold partsOf
          rw [sumC_parts, if_neg (by omega), ih (j + 1) (by omega)]
          rfl
      rw [if_pos rfl, h0 l (i + 1) (by omega), show i - i = 0 by omega, if_pos (by simp only [List.length_cons]; omega)]
      show x.f0 - 0 + 0 = x.f0
      omega
    · rw [if_neg e, sumC_cuts b l (i + 1) (by omega)]
      have hn : (b - i).toNat = (b - (i + 1)).toNat + 1 := by omega
      by_cases c : b - (i + 1) < l.length
      · rw [if_pos c, if_pos (by simp only [List.length_cons]; omega)]
        simp only [rd, rdOf, List.map_cons]
        rw [hn, List.getD_cons_succ]
        omega
      · rw [if_neg c, if_neg (by simp only [List.length_cons]; omega)]
        rfl
theorem cuts_mem : ∀ (l : List S50) (i : Int) (c : Int × Int × Int), c ∈ cutsFrom i l → ∃ j, ∃ (h : j < l.length), c.1 = i + j ∧ ∃ p ∈ partsOf l[j], c.2.1 = rd p 0 ∧ c.2.2 = rd p 1
  | [], i, c, h => by cases h
  | x :: l, i, c, h => by
    rw [cutsFrom] at h
    rcases List.mem_append.1 h with h | h
    · obtain ⟨p, hp, rfl⟩ := List.mem_map.1 h
      exact ⟨0, by simp, by simp, p, hp, rfl, rfl⟩
    · obtain ⟨j, hj, e1, p, hp, e2⟩ := cuts_mem l (i + 1) c h
      exact ⟨j + 1, by simpa using hj, by omega, p, by simpa using hp, e2⟩
theorem cuts_apart : ∀ (l : List S50) (i : Int), (∀ b ∈ l, boltOk b = true) → (cutsFrom i l).Pairwise (fun x y => x.1 = y.1 → x.2.2 ≤ y.2.1)
  | [], i, _ => List.Pairwise.nil
  | x :: l, i, h => by
    rw [cutsFrom]
    refine List.pairwise_append.2 ⟨?_, cuts_apart l (i + 1) (fun b hb => h b (by simp [hb])), ?_⟩
    · refine List.pairwise_map.2 ?_
      refine List.Pairwise.imp ?_ (ch_parts x.f0 x.f1 0 (ch_bolt (h x (by simp)))).2.2
      intro p q hpq _
      exact hpq
    · intro p hp q hq e
      obtain ⟨r, _, rfl⟩ := List.mem_map.1 hp
      obtain ⟨j, _, e1, _⟩ := cuts_mem l (i + 1) q hq
      simp only at e
      omega
theorem parts_facts (l : List S50) (h : boltsOk l = true) : (∀ q ∈ (cutsFrom 0 l).map mkPart, 0 ≤ q.f0 ∧ q.f0 < (l.length : Int) ∧ 0 ≤ q.f1 ∧ q.f1 ≤ q.f2 ∧ q.f2 ≤ 10000 ∧ ∃ j, ∃ (hj : j < l.length), q.f0 = (j : Int) ∧ ∃ p ∈ partsOf l[j], q.f1 = rd p 0 ∧ q.f2 = rd p 1) ∧ ((cutsFrom 0 l).map mkPart).length ≤ 28 ∧
    (∀ k k' (hk : k < ((cutsFrom 0 l).map mkPart).length) (hk' : k' < ((cutsFrom 0 l).map mkPart).length), k ≠ k' → ((cutsFrom 0 l).map mkPart)[k].f0 = ((cutsFrom 0 l).map mkPart)[k'].f0 → ((cutsFrom 0 l).map mkPart)[k].f2 ≤ ((cutsFrom 0 l).map mkPart)[k'].f1 ∨ ((cutsFrom 0 l).map mkPart)[k'].f2 ≤ ((cutsFrom 0 l).map mkPart)[k].f1) := by
  rw [boltsOk_iff] at h
  refine ⟨?_, ?_, ?_⟩
  · intro q hq
    obtain ⟨c, hc, rfl⟩ := List.mem_map.1 hq
    obtain ⟨j, hj, e1, p, hp, e2, e3⟩ := cuts_mem l 0 c hc
    have hb := h.1 _ (List.getElem_mem hj)
    have hv := boltOk_vals hb
    obtain ⟨_, h2, _⟩ := ch_parts l[j].f0 l[j].f1 0 (ch_bolt hb)
    have := h2 p hp
    refine ⟨by show 0 ≤ c.1; omega, by show c.1 < _; omega, by show 0 ≤ c.2.1; omega, by show c.2.1 ≤ c.2.2; omega, by show c.2.2 ≤ 10000; omega, j, hj, by show c.1 = _; omega, p, hp, e2, e3⟩
  · rw [List.length_map]
    have := cutsFrom_len l (fun b hb => (boltOk_vals (h.1 b hb)).2.2.1) 0
    omega
  · intro k k' hk hk' hne e
    have hp := List.pairwise_iff_getElem.1 (cuts_apart l 0 h.1)
    simp only [List.getElem_map] at e ⊢
    rw [List.length_map] at hk hk'
    rcases Nat.lt_or_gt_of_ne hne with c | c
    · exact Or.inl (hp k k' hk hk' c e)
    · exact Or.inr (hp k' k hk' hk c e.symm)
def partsL (l : List S50) : List S57 := (cutsFrom 0 l).map mkPart
theorem rd_rep (n : Nat) (b : Int) : rd (List.replicate n 0) b = 0 := by
  simp only [rd, rdOf, List.getD_eq_getElem?_getD, List.getElem?_replicate]
  split <;> rfl
theorem RB0 (l : List S50) (P : List Int) (hl : boltsOk l = true) (hP : panels16 P = true) : RB P (partsL l) (l.map (·.f0)).length P (partsL l, List.replicate l.length 0) := by
  obtain ⟨f1, f2, _⟩ := parts_facts l hl
  rw [panels16_iff] at hP
  rw [boltsOk_iff] at hl
  refine ⟨⟨0, rfl, by simp⟩, ⟨?_, ?_, f2, by simpa using hl.2⟩, by simp, rfl, ?_, ?_⟩
  · intro q hq
    have := f1 q hq
    simp only [List.length_replicate]
    exact ⟨this.1, this.2.1, this.2.2.1, this.2.2.2.1, this.2.2.2.2.1⟩
  · intro u hu
    have := List.eq_of_mem_replicate hu
    subst this
    have := hP.2
    omega
  · intro k h _
    exact ⟨rfl, rfl, Int.le_refl _⟩
  · intro b _ _
    simp only [rd_rep]
    constructor
    · intro h; omega
    · rintro ⟨k, hk, hk', _, h⟩; omega
/-- The reference's part of a bolt, and the program's. -/
def toL (q : S57) : S98 := ⟨q.f0, q.f1, q.f2⟩
theorem rd_toL (l : List S57) (k : Int) : rd_T98 (l.map toL) k = toL (rd_T57 l k) := by
  simp only [rd_T98, rd_T57, List.getD_eq_getElem?_getD, List.getElem?_map]
  cases l[k.toNat]? <;> rfl
theorem cntUW_eq : ∀ l : List Int, cntUW l = cntU l
  | [] => rfl
  | u :: l => by rw [cntUW, cntU, cntUW_eq l]
theorem walkW_eq (m : Nat) : ∀ (ps : List Int) (l : List S57) (us : List Int) (acc : List S60) (b : Option (List S60 × Nat)), walkW m ps (l.map toL, us) acc b = BoltCore.walk m okB stB pcB cntB ps (l, us) acc b
  | [], l, us, acc, b => by
    have e : cntW (l.map toL, us) = cntB (l, us) := by simp only [cntW, cntB, cntUW_eq]
    unfold walkW BoltCore.walk
    have e2 : stopW b (l.map toL, us) = BoltCore.stop cntB (l, us) b := by
      cases b with
      | none => rfl
      | some y => simp only [stopW, BoltCore.stop, e]
    rw [e2, e]
  | p :: ps, l, us, acc, b => by
    have e : cntW (l.map toL, us) = cntB (l, us) := by simp only [cntW, cntB, cntUW_eq]
    unfold walkW BoltCore.walk
    have e2 : stopW b (l.map toL, us) = BoltCore.stop cntB (l, us) b := by
      cases b with
      | none => rfl
      | some y => simp only [stopW, BoltCore.stop, e]
    rw [e2]
    congr 1
    congr 1
    funext b k
    have e3 : okW p (l.map toL, us) k = okB p (l, us) k := by simp only [okW, okB, rd_toL, toL]
    have e4 : stW p (l.map toL, us) k = ((stB p (l, us) k).1.map toL, (stB p (l, us) k).2) := by simp only [stW, stB, rd_toL, toL, List.map_set]
    have e5 : pcW (l.map toL, us) k = pcB (l, us) k := by simp only [pcW, pcB, rd_toL, toL]
    rw [e3, e4, e5, walkW_eq m ps]
theorem fewGo_first {P : List Int} {parts0 : List S57} {n : Nat} (hP : ∀ p ∈ P, 1 ≤ p ∧ p ≤ 10000) (hR : RB P parts0 n P (parts0, List.replicate n 0)) : ∀ (j most : Nat), most + j = n + 1 → (∀ z ∈ BoltCore.all parts0.length okB stB pcB P (parts0, List.replicate n 0), most ≤ cntB z.2) →
    (fewGo P parts0 n j most = none ∧ BoltCore.all parts0.length okB stB pcB P (parts0, List.replicate n 0) = []) ∨ ∃ z, fewGo P parts0 n j most = some z ∧ (BoltCore.all parts0.length okB stB pcB P (parts0, List.replicate n 0)).find? (fun x => decide (cntB x.2 ≤ cntB z.2)) = some z ∧ (∀ z' ∈ BoltCore.all parts0.length okB stB pcB P (parts0, List.replicate n 0), cntB z.2 ≤ cntB z'.2)
  | 0, most, h, hz => by
    refine Or.inl ⟨rfl, ?_⟩
    cases e : BoltCore.all parts0.length okB stB pcB P (parts0, List.replicate n 0) with
    | nil => rfl
    | cons z l =>
      have hm : z ∈ BoltCore.all parts0.length okB stB pcB P (parts0, List.replicate n 0) := by rw [e]; simp
      have h1 := hz z hm
      have h2 := (all_R hP P _ hR z hm).nn
      have h3 := cntU_le z.2.2
      unfold cntB at h1
      omega
  | j + 1, most, h, hz => by
    have e := findB_first hP most (parts0, List.replicate n 0) hR (by unfold cntB; simp only [cntU_rep]; exact Nat.zero_le _)
    unfold fewGo
    rw [e]
    cases hf : (BoltCore.all parts0.length okB stB pcB P (parts0, List.replicate n 0)).find? (fun z => decide (cntB z.2 ≤ most)) with
    | some z =>
      have h1 := List.find?_some hf
      have h2 := List.mem_of_find?_eq_some hf
      simp only [decide_eq_true_eq] at h1
      have h3 : cntB z.2 = most := Nat.le_antisymm h1 (hz z h2)
      exact Or.inr ⟨z, rfl, by rw [h3]; exact hf, fun z' hz' => Nat.le_trans h1 (hz z' hz')⟩
    | none =>
      refine fewGo_first hP hR j (most + 1) (by omega) (fun z hm => ?_)
      have := List.find?_eq_none.1 hf z hm
      simp only [decide_eq_true_eq] at this
      omega
theorem all_len {S α : Type} (m : Nat) (ok : Int → S → Nat → Bool) (st : Int → S → Nat → S) (pc : S → Nat → α) : ∀ (ps : List Int) (s : S), ∀ z ∈ BoltCore.all m ok st pc ps s, z.1.length = ps.length
  | [], s, z, h => by simp [BoltCore.all] at h; subst h; rfl
  | p :: ps, s, z, h => by
    simp only [BoltCore.all, List.mem_flatMap, List.mem_range] at h
    obtain ⟨k, hk, h⟩ := h
    split at h
    · obtain ⟨y, hy, rfl⟩ := List.mem_map.1 h
      simp [all_len m ok st pc ps _ y hy]
    · cases h
/-- The two searches tell the same. -/
theorem few_same {l : List S50} {ps : List Int} (hb : boltsOk l = true) (hp : panels16 ps = true) : fewW (walkW (partsL l).length ps ((partsL l).map toL, List.replicate l.length 0) [] none) = fewR (fewGo ps (partsL l) l.length (l.length + 1) 0) ∧ (fewR (fewGo ps (partsL l) l.length (l.length + 1) 0)).1.length ≤ 6 := by
  have hP := (panels16_iff ps).1 hp
  have R0 := RB0 l ps hb hp
  rw [List.length_map] at R0
  have hR : ∀ p ps_ s k, RB ps (partsL l) l.length (p :: ps_) s → k < (partsL l).length → okB p s k = true → RB ps (partsL l) l.length ps_ (stB p s k) := fun p ps_ s k r hk ho => r.step (k := k) hP.1 (by rw [r.l]; exact hk) ho
  have hc : ∀ p ps_ s k, RB ps (partsL l) l.length (p :: ps_) s → k < (partsL l).length → okB p s k = true → cntB (stB p s k) = cntB s + (if freshB s k = true then 1 else 0) := fun p ps_ s k r hk ho => r.cnt (by rw [r.l]; exact hk)
  have ew := BoltCore.walk_eq (partsL l).length okB stB pcB cntB freshB (RB ps (partsL l) l.length) hR hc ps (partsL l, List.replicate l.length 0) [] none R0
  rw [walkW_eq, ew]
  simp only [List.nil_append]
  have em : (BoltCore.all (partsL l).length okB stB pcB ps (partsL l, List.replicate l.length 0)).map (fun z => (z.1, z.2)) = BoltCore.all (partsL l).length okB stB pcB ps (partsL l, List.replicate l.length 0) := List.map_id _
  rw [em]
  rcases fewGo_first hP.1 R0 (l.length + 1) 0 (by omega) (fun _ _ => Nat.zero_le _) with ⟨e, ha⟩ | ⟨z, e, hf, hz⟩
  · rw [e, ha]
    exact ⟨rfl, by simp [fewR]⟩
  · have h1 := BoltCore.first_least cntB (cntB z.2) _ none hz (fun _ h => by cases h) z hf
    rw [e, h1]
    have h2 := cntU_le z.2.2
    refine ⟨?_, ?_⟩
    · simp only [fewW, fewR, cntB]
      rw [Int.toNat_of_nonneg h2.1]
    · have := all_len (partsL l).length okB stB pcB ps (partsL l, List.replicate l.length 0) z (List.mem_of_find?_eq_some hf)
      simp only [fewR]
      have := hP.2
      omega
theorem laws_markBoltS_some (l : List S50) (hl : l.length ≤ 1048576) (hy : ∀ y ∈ l, y.f1.length ≤ 1048576) : ∃ (k : Int) (z : List S50), laws_markBoltS.F l 1 = some (k, z) ∧ 1 ≤ k ∧ k ≤ 1 + (l.length : Int) * 1048577 := by
  rw [laws_markBoltS.F_eq]
  obtain ⟨s, hs, e⟩ := iter (fun (s : List S50 × Int) i => laws_markBoltS.L0 s.1 s.2 i) l.length (fun i s => s.1.length = l.length ∧ (∀ j, i ≤ j → s.1[j]? = l[j]?) ∧ 1 ≤ s.2 ∧ s.2 ≤ 1 + (i : Int) * 1048577) (fun i s hi hs => by
    obtain ⟨x, y⟩ := s
    obtain ⟨hx, hj, hy1, hy2⟩ := hs
    simp only at hx hj hy1 hy2
    have hix : i < x.length := by omega
    have hlen : x[i].f1.length ≤ 1048576 := by
      have h2 := hj i (Nat.le_refl i)
      rw [List.getElem?_eq_getElem hix, List.getElem?_eq_getElem hi] at h2
      injection h2 with h2
      rw [h2]
      exact hy _ (List.getElem_mem hi)
    show ∃ s', laws_markBoltS.L0 x y i = laws_markBoltS.L0 _ _ _ ∧ _
    rw [laws_markBoltS.L0_eq, if_pos (by omega), if_pos (by omega), rdIBolt x i hix, w64 (n := y + 1) (by omega) (by omega), laws_markInt64S_val _ _ (by omega) (by omega), wS (by omega)]
    simp only [Option.bind_some]
    refine ⟨(_, _), rfl, by simp only [List.length_set]; exact hx, fun j hij => ?_, by simp only; omega, by simp only; omega⟩
    simp only [Int.toNat_natCast]
    rw [List.getElem?_set_ne (by omega)]
    exact hj j (by omega)) (l, 1) ⟨rfl, fun _ _ => rfl, by simp, by simp⟩
  obtain ⟨x, y⟩ := s
  obtain ⟨hx, hj, hy1, hy2⟩ := hs
  simp only at hx hj hy1 hy2 e
  refine ⟨y, x, e.trans ?_, hy1, hy2⟩
  rw [laws_markBoltS.L0_eq, if_neg (by omega)]
theorem pure_FnExactFewestBolts : laws_FnExactFewestBolts.Pure := by
  intro l0 ps hl hps
  refine of_lim (g := fun k => laws_FnExactFewestBolts.f k l0 ps) ?_
  show laws_FnExactFewestBolts.F l0 ps = some true
  by_cases hp : (ps.length : Int) > 1048576
  · rw [laws_FnExactFewestBolts.F_eq, if_pos hp]
  obtain ⟨r, hr, h⟩ := bolt_args l0 1048576 (by omega) (by omega) hl.1 (fun y hy => (hl.2 y hy).2.1)
  rcases h with h | ⟨h1, h2, h3, l, _, hll, hy, et, ee⟩
  · rw [laws_FnExactFewestBolts.F_eq, if_neg hp, hr]; simp only [Option.bind_some]; rw [if_pos h]
  · have e4 := laws_toInt64S_val ps (by omega)
    have e5 := laws_eqInt64S_val ps (by omega)
    obtain ⟨y, c, d, e1, e2, hyl⟩ : ∃ y c d, spec_FewestBolts.F l ps = some (y, c, d) ∧ impl_FewestBolts.F l ps = some (y, c, d) ∧ y.length ≤ 1048576 := by
      rw [spec_FewestBolts.F_eq, impl_FewestBolts.F_eq, spec_l16Two_val l ps (by omega) hy (by omega), impl_panelsCode_val l ps (by omega) hy (by omega)]
      simp only [Option.bind_some]
      by_cases hc : twoCode l ps = 0
      · obtain ⟨hb, hpn⟩ := twoCode_ok hc
        obtain ⟨f1, f2, f3⟩ := parts_facts l hb
        obtain ⟨s1, s2⟩ := few_same hb hpn
        have hbb := (boltsOk_iff l).1 hb
        have hpx := (panels16_iff ps).1 hpn
        have h6 : ∀ b ∈ l, b.f1.length ≤ 6 := fun b hbm => (boltOk_vals (hbb.1 b hbm)).2.2.1
        rw [if_pos hc, if_pos hc, spec_l16All_val l hbb.2 h6, impl_partsOfBolts_val l hbb.2 h6]
        simp only [Option.bind_some]
        have em : (cutsFrom 0 l).map mkL16P = (partsL l).map toL := by
          simp only [partsL, List.map_map]
          rfl
        have eg : goodB l ps (partsL l) = true := by
          simp only [goodB, Bool.and_eq_true, decide_eq_true_eq, List.all_eq_true]
          refine ⟨⟨⟨⟨by omega, by omega⟩, f2⟩, hpx.1⟩, fun q hq => ?_⟩
          have := f1 q hq
          exact ⟨⟨⟨⟨this.1, this.2.1⟩, this.2.2.1⟩, this.2.2.2.1⟩, this.2.2.2.2.1⟩
        have ew : goodW l ps ((partsL l).map toL) = true := by
          simp only [goodW, Bool.and_eq_true, decide_eq_true_eq, List.all_eq_true, List.length_map]
          refine ⟨⟨⟨⟨by omega, by omega⟩, f2⟩, hpx.1⟩, fun q hq => ?_⟩
          obtain ⟨q', hq', rfl⟩ := List.mem_map.1 hq
          have := f1 q' hq'
          exact ⟨⟨⟨⟨this.1, this.2.1⟩, this.2.2.1⟩, this.2.2.2.1⟩, this.2.2.2.2.1⟩
        have eg2 : goodB l ps ((cutsFrom 0 l).map mkPart) = true := eg
        rw [em, if_pos ew, if_pos eg2, List.length_map, s1]
        exact ⟨_, _, _, rfl, rfl, Nat.le_trans s2 (by decide)⟩
      · rw [if_neg hc, if_neg hc]
        exact ⟨_, _, _, rfl, rfl, by simp⟩
    have hp' : ¬ (1048576 < (ps.length : Int)) := hp
    obtain ⟨k1, z1, m1, b1, b2⟩ := laws_markBoltS_some l (by omega) hy
    have m2 := laws_markInt64S_val ps k1 (by omega) (by omega)
    have n3 : ¬ (k1 + (ps.length : Int) < 0) := by omega
    have g1 := laws_eqPieceS_val y (by omega)
    have g2 := laws_markPieceS_val y 1 (by omega) (by omega)
    have g3 := laws_heldPieceS_val y.length 1 (by omega) (by omega)
    have n4 : ¬ (1 + 2 * (y.length : Int) < 0) := by omega
    simp [laws_FnExactFewestBolts.F_eq, laws_FnExactFewestBolts.J0_eq, laws_FnExactFewestBolts.J1_eq, laws_FnExactFewestBolts.J2_eq, hp', hr, h1, et, ee, e4, e5, e1, e2, m1, m2, n3, g1, g2, g3, n4]
end Go.Proofs.YtendpecnfaojkaaDoor.PFnExactFewestBolts
namespace Go.Proofs.YtendpecnfaojkaaDoor.Pure
theorem FnExactFewestBolts : PFnExactFewestBolts.laws_FnExactFewestBolts.Pure := PFnExactFewestBolts.pure_FnExactFewestBolts
end Go.Proofs.YtendpecnfaojkaaDoor.Pure
