/-
  The pure side of FnExactClothLeft: the program's ClothLeft gives what the reference's gives. No conditions.
-/
import Derived.Test.YtlphfgbeeckjnaaQFnExactClothLeft
set_option linter.unusedVariables false
set_option linter.unusedSimpArgs false
set_option linter.unnecessarySimpa false
namespace Go.Proofs.Ytlphfgbeeckjnaa.PFnExactClothLeft
open Go.RowKit Go.Proofs.Ytlphfgbeeckjnaa.Kit Go.Proofs.YtlphfgbeeckjnaaW.PrintWords Go.Proofs.YtlphfgbeeckjnaaW.PrintLast Go.Proofs.YtlphfgbeeckjnaaW.PrintMore

theorem laws_szInt64S_val (l : List Int) (n : Int) (h : l.length ≤ 9223372036854775807) (hn : 0 ≤ n) (hn2 : n ≤ 1048576) : ∃ r, laws_szInt64S.f l n = some r ∧ (r < 0 ∨ 0 ≤ r ∧ r ≤ n ∧ (l.length : Int) ≤ n) := by
  unfold laws_szInt64S.f
  rw [w64 (by omega) (by omega)]
  by_cases hc : n < l.length
  · exact ⟨-1, by rw [if_pos (by omega)], Or.inl (by omega)⟩
  · exact ⟨n - l.length, by rw [if_neg (by omega)], Or.inr (by omega)⟩
theorem laws_szBolt_val (x : Int) (l : List Int) (n : Int) (h : l.length ≤ 9223372036854775807) (hn : 0 ≤ n) (hn2 : n ≤ 1048576) : ∃ r, laws_szBolt.f x l n = some r ∧ (r < 0 ∨ 0 ≤ r ∧ r ≤ n ∧ (l.length : Int) ≤ n) := by
  unfold laws_szBolt.f
  obtain ⟨r, hr, h1⟩ := laws_szInt64S_val l n h hn hn2
  rw [hr]; simp only [Option.bind_some]
  rcases h1 with h1 | h1
  · exact ⟨-1, by rw [if_pos h1], Or.inl (by omega)⟩
  · exact ⟨r, by rw [if_neg (by omega)], Or.inr h1⟩
/-- What a sum of sizes tells: it is less than 0, or all that it adds up is small. -/
theorem szLoop {α : Type} (l : List α) (small : α → Prop) (n : Int) (hn0 : 0 ≤ n) (g : Int → Int → Option Int) (h : ∀ (i : Nat) (s : Int) (hi : i < l.length), 0 ≤ s → s ≤ n → g s (i : Int) = some (-1) ∨ ∃ s', g s (i : Int) = g s' ((i + 1 : Nat) : Int) ∧ 0 ≤ s' ∧ s' ≤ s ∧ small l[i]) (he : ∀ s, g s (l.length : Int) = some s) :
    ∃ r, g n 0 = some r ∧ (r < 0 ∨ 0 ≤ r ∧ r ≤ n ∧ ∀ y ∈ l, small y) := by
  have key : ∀ (d i : Nat) (s : Int), i + d = l.length → 0 ≤ s → s ≤ n → (∀ y ∈ l.take i, small y) → ∃ r, g s (i : Int) = some r ∧ (r < 0 ∨ 0 ≤ r ∧ r ≤ n ∧ ∀ y ∈ l, small y) := by
    intro d
    induction d with
    | zero =>
      intro i s hd h0 h1 hs
      rw [show (i : Int) = (l.length : Int) by omega, he]
      rw [List.take_of_length_le (by omega)] at hs
      exact ⟨s, rfl, Or.inr ⟨h0, h1, hs⟩⟩
    | succ d ih =>
      intro i s hd h0 h1 hs
      have hi : i < l.length := by omega
      rcases h i s hi h0 h1 with h2 | ⟨s', h2, h3, h4, h5⟩
      · exact ⟨-1, h2, Or.inl (by omega)⟩
      · rw [h2]
        refine ih (i + 1) s' (by omega) h3 (by omega) (fun y hy => ?_)
        rw [List.take_succ_eq_append_getElem hi, List.mem_append, List.mem_singleton] at hy
        rcases hy with h6 | rfl
        · exact hs y h6
        · exact h5
  exact key l.length 0 n (by omega) hn0 (Int.le_refl _) (by simp)
theorem rdLBolt (l : List S24) (i : Nat) (h : i < l.length) : rd_T24 l (i : Int) = l[i] := by simp [rd_T24, h]
theorem laws_szBoltS_val (l : List S24) (n : Int) (h : l.length ≤ 9223372036854775807) (hy : ∀ y ∈ l, y.f1.length ≤ 9223372036854775807) (hn : 0 ≤ n) (hn2 : n ≤ 1048576) : ∃ r, laws_szBoltS.F l n = some r ∧ (r < 0 ∨ 0 ≤ r ∧ r ≤ n ∧ (l.length : Int) ≤ n ∧ ∀ y ∈ l, (y.f1.length : Int) ≤ n) := by
  rw [laws_szBoltS.F_eq, w64 (by omega) (by omega)]
  by_cases hc : n - (l.length : Int) < 0
  · exact ⟨-1, by rw [if_pos hc], Or.inl (by omega)⟩
  · rw [if_neg hc]
    obtain ⟨r, hr, h1⟩ := szLoop l (fun y => (y.f1.length : Int) ≤ n) (n - (l.length : Int)) (by omega) (fun s i => laws_szBoltS.L0 l s i) (fun i s hi h0 h2 => by
      show laws_szBoltS.L0 l s i = _ ∨ ∃ s', laws_szBoltS.L0 l s i = laws_szBoltS.L0 l s' _ ∧ _
      rw [laws_szBoltS.L0_eq, if_pos (by omega), if_pos (by omega), rdLBolt l i hi, wS (by omega)]
      obtain ⟨q, hq, h3⟩ := laws_szBolt_val l[i].f0 l[i].f1 s (hy _ (List.getElem_mem hi)) h0 (by omega)
      rw [hq]
      simp only [Option.bind_some]
      rcases h3 with h3 | ⟨h3, h4, h5⟩
      · left; rw [if_pos h3]
      · right; exact ⟨q, by rw [if_neg (by omega)], h3, h4, by omega⟩) (fun s => by
      show laws_szBoltS.L0 l s _ = _
      rw [laws_szBoltS.L0_eq, if_neg (by omega)])
    refine ⟨r, hr, ?_⟩
    rcases h1 with h1 | ⟨h1, h2, h3⟩
    · exact Or.inl h1
    · exact Or.inr ⟨h1, by omega, by omega, h3⟩
theorem laws_toInt64S_val (l : List Int) (hl : l.length ≤ 1048576) : laws_toInt64S.F l = some l := by
  rw [laws_toInt64S.F_eq, if_pos (by omega), if_pos (by omega), Int.toNat_natCast]
  have := fillLoop l 0 (fun s i => laws_toInt64S.L0 l s i) (fun i s hi hs => by
    show laws_toInt64S.L0 l s i = _
    rw [laws_toInt64S.L0_eq, if_pos (by omega), if_pos (by omega), wS (by omega), if_pos (by omega), Int.toNat_natCast, rd_get l i hi])
  refine this.trans ?_
  show laws_toInt64S.L0 l _ _ = _
  rw [laws_toInt64S.L0_eq, if_neg (by omega)]
theorem laws_toBolt_val (x : Int) (l : List Int) (hl : l.length ≤ 1048576) : laws_toBolt.F x l = some (x, l) := by
  rw [laws_toBolt.F_eq, laws_toInt64S_val l hl]; rfl
def boltTo (p : S24) : S29 := ⟨p.f0, p.f1⟩
theorem laws_toBoltS_val (l : List S24) (hl : l.length ≤ 1048576) (hy : ∀ y ∈ l, y.f1.length ≤ 1048576) : laws_toBoltS.F l = some (l.map boltTo) := by
  rw [laws_toBoltS.F_eq, if_pos (by omega), if_pos (by omega), Int.toNat_natCast]
  have := fillLoop (l.map boltTo) z29 (fun s i => laws_toBoltS.L0 l s i) (fun i s hi hs => by
    rw [List.length_map] at hi hs
    show laws_toBoltS.L0 l s i = _
    rw [laws_toBoltS.L0_eq, if_pos (by omega), if_pos (by omega), rdLBolt l i hi, wS (by omega), laws_toBolt_val _ _ (hy _ (List.getElem_mem hi))]
    simp only [Option.bind_some]
    rw [if_pos (by omega), Int.toNat_natCast, List.getElem_map]
    rfl)
  rw [List.length_map] at this
  refine this.trans ?_
  show laws_toBoltS.L0 l _ _ = _
  rw [laws_toBoltS.L0_eq, if_neg (by omega)]
theorem laws_eqInt64S_val (l : List Int) (hl : l.length < 4611686018427387904) : laws_eqInt64S.F l l = some true := by
  rw [laws_eqInt64S.F_eq, if_pos rfl]
  have := allLoop l (fun _ => true) (fun i => laws_eqInt64S.L0 l l i) true (fun i hi => by
    show laws_eqInt64S.L0 l l i = _
    rw [laws_eqInt64S.L0_eq, if_pos (by omega), if_pos (by omega), if_pos (by omega), wS (by omega)]
    simp) (by
    show laws_eqInt64S.L0 l l _ = _
    rw [laws_eqInt64S.L0_eq, if_neg (by omega)])
  rw [this]; simp
theorem laws_eqBolt_val (x : Int) (l : List Int) (hl : l.length < 4611686018427387904) : laws_eqBolt.F x l x l = some true := by
  rw [laws_eqBolt.F_eq, if_pos rfl, laws_eqInt64S_val l hl]; rfl
theorem rdIBolt (l : List S29) (i : Nat) (h : i < l.length) : rd_T29 l (i : Int) = l[i] := by simp [rd_T29, h]
theorem laws_eqBoltS_val (l : List S29) (hl : l.length < 4611686018427387904) (hy : ∀ y ∈ l, y.f1.length < 4611686018427387904) : laws_eqBoltS.F l l = some true := by
  rw [laws_eqBoltS.F_eq, if_pos rfl]
  have := allLoop l (fun _ => true) (fun i => laws_eqBoltS.L0 l l i) true (fun i hi => by
    show laws_eqBoltS.L0 l l i = _
    rw [laws_eqBoltS.L0_eq, if_pos (by omega), if_pos (by omega), if_pos (by omega), wS (by omega), rdIBolt l i hi, laws_eqBolt_val _ _ (hy _ (List.getElem_mem hi))]
    rfl) (by
    show laws_eqBoltS.L0 l l _ = _
    rw [laws_eqBoltS.L0_eq, if_neg (by omega)])
  rw [this]; simp
/-- What the laws do with bolts that came in. -/
theorem bolt_args (l : List S24) (n : Int) (hn0 : 0 ≤ n) (hn1 : n ≤ 1048576) (h : l.length ≤ 9223372036854775807) (hy : ∀ y ∈ l, y.f1.length ≤ 9223372036854775807) : ∃ r, laws_szBoltS.F l n = some r ∧ (r < 0 ∨ ¬ r < 0 ∧ r ≤ n ∧ l.length ≤ 1048576 ∧ ∃ m : List S29, m = l.map boltTo ∧ m.length = l.length ∧ (∀ y ∈ m, y.f1.length ≤ 1048576) ∧ laws_toBoltS.F l = some m ∧ laws_eqBoltS.F m m = some true) := by
  obtain ⟨r, hr, h1⟩ := laws_szBoltS_val l n h hy hn0 hn1
  refine ⟨r, hr, ?_⟩
  rcases h1 with h1 | ⟨h1, h2, h3, h4⟩
  · exact Or.inl h1
  · have h5 : ∀ y ∈ l.map boltTo, y.f1.length ≤ 1048576 := by
      intro y hy2
      obtain ⟨z, hz, rfl⟩ := List.mem_map.1 hy2
      have := h4 z hz
      show z.f1.length ≤ _
      omega
    refine Or.inr ⟨by omega, h2, by omega, l.map boltTo, rfl, by simp, h5, laws_toBoltS_val l (by omega) (fun y hy2 => by have := h4 y hy2; omega), laws_eqBoltS_val _ (by rw [List.length_map]; omega) (fun y hy2 => by have := h5 y hy2; omega)⟩
theorem rdIPiece (l : List S114) (i : Nat) (h : i < l.length) : rd_T114 l (i : Int) = l[i] := by simp [rd_T114, h]
theorem rdLPiece (l : List S124) (i : Nat) (h : i < l.length) : rd_T124 l (i : Int) = l[i] := by simp [rd_T124, h]
def pieceTo (p : S124) : S114 := ⟨p.f0, p.f1⟩
theorem laws_toPieceS_val (l : List S124) (hl : l.length ≤ 1048576) : laws_toPieceS.F l = some (l.map pieceTo) := by
  rw [laws_toPieceS.F_eq, if_pos (by omega), if_pos (by omega), Int.toNat_natCast]
  have := fillLoop (l.map pieceTo) z114 (fun s i => laws_toPieceS.L0 l s i) (fun i s hi hs => by
    rw [List.length_map] at hi hs
    show laws_toPieceS.L0 l s i = _
    rw [laws_toPieceS.L0_eq, if_pos (by omega), if_pos (by omega), rdLPiece l i hi, wS (by omega)]
    unfold laws_toPiece.f
    simp only [Option.bind_some]
    rw [if_pos (by omega), Int.toNat_natCast, List.getElem_map]
    rfl)
  rw [List.length_map] at this
  refine this.trans ?_
  show laws_toPieceS.L0 l _ _ = _
  rw [laws_toPieceS.L0_eq, if_neg (by omega)]
theorem laws_eqPieceS_val (l : List S114) (hl : l.length < 4611686018427387904) : laws_eqPieceS.F l l = some true := by
  rw [laws_eqPieceS.F_eq, if_pos rfl]
  have := allLoop l (fun _ => true) (fun i => laws_eqPieceS.L0 l l i) true (fun i hi => by
    show laws_eqPieceS.L0 l l i = _
    rw [laws_eqPieceS.L0_eq, if_pos (by omega), if_pos (by omega), if_pos (by omega), wS (by omega)]
    unfold laws_eqPiece.f
    simp) (by
    show laws_eqPieceS.L0 l l _ = _
    rw [laws_eqPieceS.L0_eq, if_neg (by omega)])
  rw [this]; simp
theorem laws_szPieceS_val (l : List S124) (n : Int) (h : l.length ≤ 9223372036854775807) (hn : 0 ≤ n) (hn2 : n ≤ 1048576) : ∃ r, laws_szPieceS.f l n = some r ∧ (r < 0 ∨ 0 ≤ r ∧ r ≤ n ∧ (l.length : Int) ≤ n) := by
  unfold laws_szPieceS.f
  rw [w64 (by omega) (by omega)]
  by_cases hc : n < l.length
  · exact ⟨-1, by rw [if_pos (by omega)], Or.inl (by omega)⟩
  · exact ⟨n - l.length, by rw [if_neg (by omega)], Or.inr (by omega)⟩
/-- The numbers from k on. -/
def upFrom (k : Int) (n : Nat) : List Int := (List.range n).map fun (j : Nat) => k + (j : Int)
theorem laws_markInt64S_val (l : List Int) (k : Int) (h0 : 0 ≤ k) (h1 : k + l.length ≤ 4611686018427387904) : laws_markInt64S.F l k = some (k + l.length, upFrom k l.length) := by
  rw [laws_markInt64S.F_eq]
  have hlen : ∀ i, i ≤ l.length → (upFrom k i ++ l.drop i).length = l.length := fun i hi => by simp [upFrom]; omega
  have := iterF (fun (s : List Int × Int) i => laws_markInt64S.L0 s.1 s.2 i) l.length (fun i => (upFrom k i ++ l.drop i, k + (i : Int))) (fun i hi => by
    show laws_markInt64S.L0 _ _ _ = laws_markInt64S.L0 _ _ _
    have hl1 := hlen i (by omega)
    rw [laws_markInt64S.L0_eq, if_pos (by rw [hl1]; omega), if_pos (by omega), wS (by omega), w64 (by omega) (by omega), Int.toNat_natCast]
    have e1 : (upFrom k i ++ l.drop i).set i (k + (i : Int)) = upFrom k (i + 1) ++ l.drop (i + 1) := by
      have hlu : (upFrom k i).length = i := by simp [upFrom]
      rw [List.set_append, hlu, if_neg (Nat.lt_irrefl i), Nat.sub_self, List.drop_eq_getElem_cons hi, List.set_cons_zero]
      unfold upFrom
      rw [List.range_succ, List.map_append, List.append_assoc]
      rfl
    rw [e1]
    congr 1
    omega)
  have e0 : upFrom k 0 ++ l.drop 0 = l := by simp [upFrom]
  simp only [e0] at this
  rw [show k + ((0 : Nat) : Int) = k by omega] at this
  refine this.trans ?_
  rw [laws_markInt64S.L0_eq, if_neg (by rw [hlen l.length (Nat.le_refl _)]; omega)]
  simp
theorem laws_heldInt64S_val (n : Nat) (k : Int) (h0 : 0 ≤ k) (h1 : k + n ≤ 4611686018427387904) : laws_heldInt64S.F (upFrom k n) k = some (k + n) := by
  rw [laws_heldInt64S.F_eq]
  have hlen : (upFrom k n).length = n := by simp [upFrom]
  have := iterF (fun (s : Int) i => laws_heldInt64S.L0 (upFrom k n) s i) n (fun i => k + (i : Int)) (fun i hi => by
    show laws_heldInt64S.L0 _ _ _ = laws_heldInt64S.L0 _ _ _
    have hr : rd (upFrom k n) (i : Int) = k + (i : Int) := by
      rw [rd_get _ i (by omega)]
      simp [upFrom]
    rw [laws_heldInt64S.L0_eq, if_pos (by rw [hlen]; omega), if_pos (by omega), hr, if_pos rfl, wS (by omega), w64 (by omega) (by omega)]
    congr 1
    omega)
  rw [show k + ((0 : Nat) : Int) = k by omega] at this
  refine this.trans ?_
  show laws_heldInt64S.L0 _ _ _ = _
  rw [laws_heldInt64S.L0_eq, if_neg (by rw [hlen]; omega)]
def inB (n a b : Int) : Bool := decide (a ≤ n) && decide (n ≤ b)
theorem inB_iff (n a b : Int) : inB n a b = true ↔ a ≤ n ∧ n ≤ b := by simp [inB]
theorem inB_no (n a b : Int) : inB n a b = false ↔ ¬ (a ≤ n ∧ n ≤ b) := by rw [← inB_iff]; simp
theorem spec_l00In_val (n a b : Int) : spec_l00In.f n a b = some (inB n a b) := by
  unfold spec_l00In.f inB
  by_cases h : n ≥ a
  · rw [if_pos h]; simp [show a ≤ n from h]
  · rw [if_neg h]; simp; omega
/-- At a place: within bounds, and more than the number before it. -/
def riseAt (l : List Int) (a b : Int) (i : Nat) : Bool := inB (rd l (i : Int)) a b && (decide (i = 0) || decide (rd l ((i : Int) - 1) < rd l (i : Int)))
theorem riseAt_def (l : List Int) (a b : Int) (i : Nat) : riseAt l a b i = (inB (rd l (i : Int)) a b && (decide (i = 0) || decide (rd l ((i : Int) - 1) < rd l (i : Int)))) := rfl
def rises (l : List Int) (a b : Int) : Bool := (List.range l.length).all (riseAt l a b)
theorem rises_iff (l : List Int) (a b : Int) : rises l a b = true ↔ ∀ i : Nat, i < l.length → (a ≤ rd l i ∧ rd l i ≤ b) ∧ (0 < i → rd l ((i : Int) - 1) < rd l i) := by
  unfold rises
  rw [List.all_eq_true]
  constructor
  · intro h i hi
    have := h i (List.mem_range.2 hi)
    rw [riseAt_def, Bool.and_eq_true, inB_iff, Bool.or_eq_true] at this
    refine ⟨this.1, fun h0 => ?_⟩
    rcases this.2 with h2 | h2
    · exact absurd (of_decide_eq_true h2) (by omega)
    · exact of_decide_eq_true h2
  · intro h i hi
    have := h i (List.mem_range.1 hi)
    rw [riseAt_def, Bool.and_eq_true, inB_iff, Bool.or_eq_true]
    refine ⟨this.1, ?_⟩
    by_cases h0 : i = 0
    · left; simp [h0]
    · right; exact decide_eq_true (this.2 (by omega))
theorem spec_l00Rises_val (l : List Int) (a b : Int) (hl : l.length < 4611686018427387904) : spec_l00Rises.F l a b = some (rises l a b) := by
  rw [spec_l00Rises.F_eq]
  refine (allRange l.length (riseAt l a b) (fun i => spec_l00Rises.L0 l a b i) true (fun i hi => ?_) ?_).trans (by rw [Bool.and_true]; rfl)
  · show spec_l00Rises.L0 l a b i = _
    rw [spec_l00Rises.L0_eq, if_pos (by omega), if_pos (by omega), spec_l00In_val, wS (by omega)]
    simp only [Option.bind_some]
    rw [riseAt_def, ite_band]
    by_cases h1 : inB (rd l (i : Int)) a b = true
    · rw [if_pos h1, if_pos h1]
      by_cases h0 : i = 0
      · rw [if_neg (by omega), if_pos (by simp [h0])]
      · rw [if_pos (by omega), w64 (by omega) (by omega), if_pos (by omega), if_pos (by omega)]
        by_cases h2 : rd l ((i : Int) - 1) ≥ rd l (i : Int)
        · rw [if_pos h2, if_neg (by simp [h0]; omega)]
        · rw [if_neg h2, if_pos (by simp [h0]; omega)]
    · rw [if_neg h1, if_neg h1]
  · show spec_l00Rises.L0 l a b _ = _
    rw [spec_l00Rises.L0_eq, if_neg (by omega)]
/-- A valid bolt. -/
def boltOk (b : S29) : Bool := inB b.f0 1 10000 && (decide (b.f1.length ≤ 6) && rises b.f1 1 (b.f0 - 1))
theorem boltOk_def (b : S29) : boltOk b = (inB b.f0 1 10000 && (decide (b.f1.length ≤ 6) && rises b.f1 1 (b.f0 - 1))) := rfl
def boltsOk (l : List S29) : Bool := l.all boltOk && decide (l.length ≤ 4)
theorem boltsOk_iff (l : List S29) : boltsOk l = true ↔ (∀ b ∈ l, boltOk b = true) ∧ l.length ≤ 4 := by
  unfold boltsOk
  rw [Bool.and_eq_true, List.all_eq_true, decide_eq_true_iff]
theorem boltOk_vals {b : S29} (h : boltOk b = true) : 1 ≤ b.f0 ∧ b.f0 ≤ 10000 ∧ b.f1.length ≤ 6 ∧ ∀ i : Nat, i < b.f1.length → (1 ≤ rd b.f1 i ∧ rd b.f1 i ≤ b.f0 - 1) ∧ (0 < i → rd b.f1 ((i : Int) - 1) < rd b.f1 i) := by
  rw [boltOk_def, Bool.and_eq_true, Bool.and_eq_true, inB_iff, decide_eq_true_iff, rises_iff] at h
  exact ⟨h.1.1, h.1.2, h.2.1, h.2.2⟩
theorem spec_l16One_val (b : S29) (hb : b.f1.length < 4611686018427387904) : spec_l16One.F [b] = some (boltOk b) := by
  have e : rd_T29 [b] 0 = b := rfl
  rw [spec_l16One.F_eq, e, if_pos (by simp), spec_l00In_val]
  simp only [Option.bind_some]
  rw [boltOk_def]
  cases h1 : inB b.f0 1 10000 with
  | false => rw [if_neg nf]; rfl
  | true =>
    rw [if_pos rfl]
    rw [inB_iff] at h1
    by_cases h2 : (b.f1.length : Int) ≤ 6
    · rw [if_pos h2, decide_eq_true (by omega), w64 (by omega) (by omega), spec_l00Rises_val _ _ _ hb]
      simp
    · rw [if_neg h2, decide_eq_false (by omega)]
      rfl
theorem spec_l16Ok_val (l : List S29) (hl : l.length < 4611686018427387904) (hy : ∀ y ∈ l, y.f1.length ≤ 1048576) : spec_l16Ok.F l = some (boltsOk l) := by
  rw [spec_l16Ok.F_eq]
  refine allLoop l boltOk (fun i => spec_l16Ok.L0 l i) _ (fun i hi => ?_) ?_
  · show spec_l16Ok.L0 l i = _
    rw [spec_l16Ok.L0_eq, if_pos (by omega), if_pos (by omega), rdIBolt l i hi, wS (by omega), spec_l16One_val _ (by have := hy _ (List.getElem_mem hi); omega)]
    rfl
  · show spec_l16Ok.L0 l _ = _
    rw [spec_l16Ok.L0_eq, if_neg (by omega)]
    simp; omega
def panels16 (l : List Int) : Bool := l.all (fun x => inB x 1 10000) && decide (l.length ≤ 6)
theorem panels16_iff (l : List Int) : panels16 l = true ↔ (∀ x ∈ l, 1 ≤ x ∧ x ≤ 10000) ∧ l.length ≤ 6 := by
  unfold panels16
  rw [Bool.and_eq_true, List.all_eq_true, decide_eq_true_iff]
  exact and_congr (forall_congr' fun x => imp_congr Iff.rfl (inB_iff x 1 10000)) Iff.rfl
theorem spec_l16Panels_val (l : List Int) (hl : l.length < 4611686018427387904) : spec_l16Panels.F l = some (panels16 l) := by
  rw [spec_l16Panels.F_eq]
  refine allLoop l (fun x => inB x 1 10000) (fun i => spec_l16Panels.L0 l i) _ (fun i hi => ?_) ?_
  · show spec_l16Panels.L0 l i = _
    rw [spec_l16Panels.L0_eq, if_pos (by omega), if_pos (by omega), rd_get l i hi, wS (by omega), spec_l00In_val]
    rfl
  · show spec_l16Panels.L0 l _ = _
    rw [spec_l16Panels.L0_eq, if_neg (by omega)]
    simp; omega
def placeCode (l : List S29) (ps : List Int) (qs : List S114) : Int := if boltsOk l = true then (if (panels16 ps && (decide (qs.length = ps.length) && qs.all fun q => inB q.f0 0 ((l.length : Int) - 1))) = true then 0 else 2) else 1
theorem placeCode_ok {l : List S29} {ps : List Int} {qs : List S114} (h : placeCode l ps qs = 0) : boltsOk l = true ∧ panels16 ps = true ∧ qs.length = ps.length ∧ ∀ q ∈ qs, 0 ≤ q.f0 ∧ q.f0 ≤ (l.length : Int) - 1 := by
  unfold placeCode at h
  by_cases h1 : boltsOk l = true
  · rw [if_pos h1] at h
    by_cases h2 : (panels16 ps && (decide (qs.length = ps.length) && qs.all fun q => inB q.f0 0 ((l.length : Int) - 1))) = true
    · rw [Bool.and_eq_true, Bool.and_eq_true, decide_eq_true_iff, List.all_eq_true] at h2
      exact ⟨h1, h2.1, h2.2.1, fun q hq => (inB_iff _ _ _).1 (h2.2.2 q hq)⟩
    · rw [if_neg h2] at h; omega
  · rw [if_neg h1] at h; omega
/-- A loop that ends with one answer at the first element that isn't as it should be, with another one behind the last. -/
theorem allTo {α β : Type} (l : List α) (p : α → Bool) (g : Int → β) (no r : β) (h : ∀ i (hi : i < l.length), g (i : Int) = if p l[i] = true then g ((i + 1 : Nat) : Int) else no) (he : g (l.length : Int) = r) : g 0 = if l.all p = true then r else no := by
  have key : ∀ (d i : Nat), l.length - i = d → i ≤ l.length → g (i : Int) = if (l.drop i).all p = true then r else no := by
    intro d
    induction d with
    | zero =>
      intro i hd hi
      obtain rfl : i = l.length := by omega
      rw [he]; simp
    | succ d ih =>
      intro i hd hi
      have hlt : i < l.length := by omega
      rw [h i hlt, ih (i + 1) (by omega) (by omega), List.drop_eq_getElem_cons hlt, List.all_cons]
      by_cases hp : p l[i] = true
      · rw [if_pos hp, hp, Bool.true_and]
      · rw [if_neg hp, if_neg (by simp [hp])]
  have := key l.length 0 (by omega) (by omega)
  simpa using this
theorem spec_l16Code_val (l : List S29) (ps : List Int) (qs : List S114) (hl : l.length < 4611686018427387904) (hy : ∀ y ∈ l, y.f1.length ≤ 1048576) (hp : ps.length < 4611686018427387904) (hq : qs.length < 4611686018427387904) : spec_l16Code.F l ps qs = some (placeCode l ps qs) := by
  rw [spec_l16Code.F_eq, spec_l16Ok_val l hl hy]
  simp only [Option.bind_some]
  unfold placeCode
  by_cases h1 : boltsOk l = true
  · rw [if_pos h1, if_pos h1]
    have e := allTo qs (fun q => inB q.f0 0 ((l.length : Int) - 1)) (fun i => spec_l16Code.L0 l ps qs i) (some 2) (if (panels16 ps && decide (qs.length = ps.length)) = true then some 0 else some 2) (fun i hi => by
      show spec_l16Code.L0 l ps qs i = _
      rw [spec_l16Code.L0_eq, if_pos (by omega), if_pos (by omega), rdIPiece qs i hi, wS (by omega), w64 (n := (l.length : Int) - 1) (by omega) (by omega), spec_l00In_val]
      rfl) (by
      show spec_l16Code.L0 l ps qs _ = _
      rw [spec_l16Code.L0_eq, if_neg (by omega), spec_l16Panels_val ps hp]
      simp only [Option.bind_some]
      rw [ite_band]
      by_cases h2 : qs.length = ps.length
      · rw [if_pos (show (qs.length : Int) = (ps.length : Int) by omega), decide_eq_true h2, if_pos rfl]
      · rw [if_neg (show ¬ (qs.length : Int) = (ps.length : Int) by omega), decide_eq_false h2, if_neg nf])
    refine Eq.trans e ?_
    cases panels16 ps <;> cases decide (qs.length = ps.length) <;> cases (qs.all fun q => inB q.f0 0 ((l.length : Int) - 1)) <;> rfl
  · rw [if_neg h1, if_neg h1]
theorem impl_within_val (n a b : Int) : impl_within.f n a b = some (inB n a b) := by
  unfold impl_within.f inB
  by_cases h : n ≥ a
  · rw [if_pos h]; simp [show a ≤ n from h]
  · rw [if_neg h]; simp; omega
theorem impl_validBolt_val (x : Int) (l : List Int) (hl : l.length < 4611686018427387904) : impl_validBolt.F x l = some (boltOk ⟨x, l⟩) := by
  rw [impl_validBolt.F_eq, impl_within_val]
  simp only [Option.bind_some]
  rw [boltOk_def]
  show _ = some (inB x 1 10000 && (decide (l.length ≤ 6) && rises l 1 (x - 1)))
  cases h1 : inB x 1 10000 with
  | false => rw [if_neg nf, impl_validBolt.J0_eq, if_pos rfl]; rfl
  | true =>
    rw [if_pos rfl]
    rw [inB_iff] at h1
    by_cases h2 : (l.length : Int) > 6
    · rw [decide_eq_true h2, impl_validBolt.J0_eq, if_pos rfl, decide_eq_false (by omega)]
      rfl
    · rw [decide_eq_false h2, impl_validBolt.J0_eq, if_neg nf, decide_eq_true (by omega)]
      refine (allRange l.length (riseAt l 1 (x - 1)) (fun i => impl_validBolt.L0 l (l.length : Int) i x l) true (fun i hi => ?_) ?_).trans (by simp [rises])
      · show impl_validBolt.L0 _ _ i _ _ = _
        rw [impl_validBolt.L0_eq, if_pos (by omega), if_pos (by omega), if_pos (by omega), w64 (n := x - 1) (by omega) (by omega), impl_within_val, wS (by omega)]
        simp only [Option.bind_some]
        rw [riseAt_def, ite_band]
        by_cases h3 : inB (rd l (i : Int)) 1 (x - 1) = true
        · rw [if_pos h3, if_pos h3]
          by_cases h0 : i = 0
          · rw [if_neg (by omega), if_pos (by simp [h0])]
          · rw [if_pos (by omega), w64 (by omega) (by omega), if_pos (by omega), if_pos (by omega)]
            by_cases h4 : rd l (i : Int) ≤ rd l ((i : Int) - 1)
            · rw [if_pos h4, if_neg (by simp [h0]; omega)]
            · rw [if_neg h4, if_pos (by simp [h0]; omega)]
        · rw [if_neg h3, if_neg h3]
      · show impl_validBolt.L0 _ _ _ _ _ = _
        rw [impl_validBolt.L0_eq, if_neg (by omega)]
theorem impl_ValidBolts_val (l : List S29) (hl : l.length < 4611686018427387904) (hy : ∀ y ∈ l, y.f1.length ≤ 1048576) : impl_ValidBolts.F l = some (boltsOk l) := by
  rw [impl_ValidBolts.F_eq]
  unfold boltsOk
  by_cases h : (l.length : Int) > 4
  · rw [if_pos h]; simp; omega
  · rw [if_neg h]
    have := allLoop l boltOk (fun i => impl_ValidBolts.L0 l (l.length : Int) i) true (fun i hi => by
      show impl_ValidBolts.L0 l _ i = _
      rw [impl_ValidBolts.L0_eq, if_pos (by omega), if_pos (by omega), if_pos (by omega), rdIBolt l i hi, wS (by omega), impl_validBolt_val _ _ (by have := hy _ (List.getElem_mem hi); omega)]
      rfl) (by
      show impl_ValidBolts.L0 l _ _ = _
      rw [impl_ValidBolts.L0_eq, if_neg (by omega)])
    rw [this]
    simp; omega
theorem impl_areIn_val (l : List Int) (n a b : Int) (hl : l.length < 4611686018427387904) : impl_areIn.F l n a b = some (decide ((l.length : Int) = n) && l.all (fun x => inB x a b)) := by
  rw [impl_areIn.F_eq]
  by_cases h : (l.length : Int) = n
  · rw [if_pos h, decide_eq_true h]
    refine (allLoop l (fun x => inB x a b) (fun i => impl_areIn.L0 a b l (l.length : Int) i) true (fun i hi => ?_) ?_).trans (by simp)
    · show impl_areIn.L0 a b l _ i = _
      rw [impl_areIn.L0_eq, if_pos (by omega), if_pos (by omega), if_pos (by omega), rd_get l i hi, wS (by omega), impl_within_val]
      rfl
    · show impl_areIn.L0 a b l _ _ = _
      rw [impl_areIn.L0_eq, if_neg (by omega)]
  · rw [if_neg h, decide_eq_false h]; rfl
def twoCode (l : List S29) (ps : List Int) : Int := if boltsOk l = true then (if panels16 ps = true then 0 else 2) else 1
theorem twoCode_ok {l : List S29} {ps : List Int} (h : twoCode l ps = 0) : boltsOk l = true ∧ panels16 ps = true := by
  unfold twoCode at h
  by_cases h1 : boltsOk l = true
  · rw [if_pos h1] at h
    by_cases h2 : panels16 ps = true
    · exact ⟨h1, h2⟩
    · rw [if_neg h2] at h; omega
  · rw [if_neg h1] at h; omega
theorem impl_panelsCode_val (l : List S29) (ps : List Int) (hl : l.length < 4611686018427387904) (hy : ∀ y ∈ l, y.f1.length ≤ 1048576) (hp : ps.length < 4611686018427387904) : impl_panelsCode.F l ps = some (twoCode l ps) := by
  rw [impl_panelsCode.F_eq, impl_ValidBolts_val l hl hy]
  simp only [Option.bind_some]
  unfold twoCode
  by_cases h1 : boltsOk l = true
  · rw [if_pos h1, if_pos h1]
    by_cases h2 : (ps.length : Int) > 6
    · rw [if_pos h2, if_neg (by unfold panels16; simp; omega)]
    · rw [if_neg h2, impl_areIn_val ps _ 1 10000 hp, decide_eq_true rfl]
      simp only [Option.bind_some]
      have e : panels16 ps = (true && ps.all fun x => inB x 1 10000) := by unfold panels16; rw [decide_eq_true (by omega)]; simp
      rw [e]
      split <;> rfl
  · rw [if_neg h1, if_neg h1]
theorem impl_placesCode_val (l : List S29) (ps : List Int) (qs : List S114) (hl : l.length < 4611686018427387904) (hy : ∀ y ∈ l, y.f1.length ≤ 1048576) (hp : ps.length < 4611686018427387904) (hq : qs.length < 4611686018427387904) : impl_placesCode.F l ps qs = some (placeCode l ps qs) := by
  rw [impl_placesCode.F_eq, impl_panelsCode_val l ps hl hy hp]
  simp only [Option.bind_some]
  unfold placeCode twoCode
  by_cases h1 : boltsOk l = true
  · rw [if_pos h1, if_pos h1]
    by_cases h2 : panels16 ps = true
    · rw [if_pos h2, if_pos rfl, h2, Bool.true_and]
      by_cases h3 : qs.length = ps.length
      · rw [if_pos (show (qs.length : Int) = (ps.length : Int) by omega), decide_eq_true h3, Bool.true_and]
        have e := allTo qs (fun q => inB q.f0 0 ((l.length : Int) - 1)) (fun i => impl_placesCode.L0 l qs (qs.length : Int) i) (some 2) (some 0) (fun i hi => by
          show impl_placesCode.L0 l qs _ i = _
          rw [impl_placesCode.L0_eq, if_pos (by omega), if_pos (by omega), if_pos (by omega), rdIPiece qs i hi, wS (by omega), w64 (n := (l.length : Int) - 1) (by omega) (by omega), impl_within_val]
          rfl) (by
          show impl_placesCode.L0 l qs _ _ = _
          rw [impl_placesCode.L0_eq, if_neg (by omega)])
        refine Eq.trans e ?_
        split <;> rfl
      · rw [if_neg (show ¬ (qs.length : Int) = (ps.length : Int) by omega), decide_eq_false h3, Bool.false_and, if_neg nf]
    · rw [if_neg h2, if_neg (by decide), show panels16 ps = false by simpa using h2, Bool.false_and, if_neg nf]
  · rw [if_neg h1, if_neg h1, if_neg (by decide)]
/-- The sound parts of a bolt: from a place on, up to its end. -/
def partsFrom (e : Int) (a : Int) : List Int → List (List Int)
  | [] => [[a, e]]
  | f :: r => [a, f] :: partsFrom e f r
theorem partsFrom_len (e : Int) (l : List Int) : ∀ a, (partsFrom e a l).length = l.length + 1 := by
  induction l with
  | nil => intro a; rfl
  | cons f r ih => intro a; simp [partsFrom, ih]
theorem partsFrom_two (e : Int) (l : List Int) : ∀ a, ∀ p ∈ partsFrom e a l, p.length = 2 := by
  induction l with
  | nil => intro a p hp; simp [partsFrom] at hp; subst hp; rfl
  | cons f r ih =>
    intro a p hp
    simp only [partsFrom, List.mem_cons] at hp
    rcases hp with rfl | hp
    · rfl
    · exact ih f p hp
def partsOf (b : S29) : List (List Int) := partsFrom b.f0 0 b.f1
theorem spec_l16Parts_val (b : S29) (hb : b.f1.length ≤ 1048576) : spec_l16Parts.F [b] = some (partsOf b) := by
  have e : rd_T29 [b] 0 = b := rfl
  have key : ∀ (d i : Nat) (out : List (List Int)) (a : Int), i + d = b.f1.length → out.length ≤ i → spec_l16Parts.L0 [b] out a (i : Int) = some (out ++ partsFrom b.f0 a (b.f1.drop i)) := by
    intro d
    induction d with
    | zero =>
      intro i out a hd ho
      have h1 : out.length < 5864062014805 := by omega
      rw [spec_l16Parts.L0_eq, e, if_neg (by omega), if_pos h1, List.drop_of_length_le (by omega)]
      rfl
    | succ d ih =>
      intro i out a hd ho
      have hi : i < b.f1.length := by omega
      have h1 : out.length < 5864062014805 := by omega
      rw [spec_l16Parts.L0_eq, e, if_pos (by omega), if_pos (by omega), if_pos h1, rd_get _ i hi, wS (by omega), ih (i + 1) _ _ (by omega) (by rw [List.length_append]; simp; omega), List.drop_eq_getElem_cons hi]
      simp [partsFrom]
  rw [spec_l16Parts.F_eq, if_pos (by simp)]
  have := key b.f1.length 0 [] 0 (by omega) (by simp)
  simpa [partsOf] using this
theorem rises_mem {l : List Int} {a b : Int} (h : rises l a b = true) : ∀ y ∈ l, a ≤ y ∧ y ≤ b := by
  rw [rises_iff] at h
  intro y hy
  obtain ⟨i, hi, rfl⟩ := List.getElem_of_mem hy
  have := (h i hi).1
  rw [rd_get l i hi] at this
  exact this
theorem partsFrom_bounds (e : Int) (he0 : 0 ≤ e) (he : e ≤ 10000) (l : List Int) (hl : ∀ f ∈ l, 0 ≤ f ∧ f ≤ 10000) : ∀ a, 0 ≤ a → ∀ p ∈ partsFrom e a l, p.length = 2 ∧ 0 ≤ rd p 0 ∧ 0 ≤ rd p 1 ∧ rd p 1 ≤ 10000 := by
  induction l with
  | nil =>
    intro a ha p hp
    simp only [partsFrom, List.mem_singleton] at hp
    subst hp
    exact ⟨rfl, ha, he0, he⟩
  | cons f r ih =>
    intro a ha p hp
    have hf := hl f List.mem_cons_self
    simp only [partsFrom, List.mem_cons] at hp
    rcases hp with rfl | hp
    · exact ⟨rfl, ha, hf.1, hf.2⟩
    · exact ih (fun g hg => hl g (List.mem_cons_of_mem _ hg)) f hf.1 p hp
theorem parts_bounds {b : S29} (h : boltOk b = true) : ∀ p ∈ partsOf b, p.length = 2 ∧ 0 ≤ rd p 0 ∧ 0 ≤ rd p 1 ∧ rd p 1 ≤ 10000 := by
  rw [boltOk_def, Bool.and_eq_true, Bool.and_eq_true, inB_iff, decide_eq_true_iff] at h
  obtain ⟨h1, h2, h3⟩ := h
  exact partsFrom_bounds b.f0 (by omega) h1.2 b.f1 (fun f hf => by have := rises_mem h3 f hf; omega) 0 (by omega)
/-- A panel lies within a sound part. -/
def soundB (b : S29) (x n : Int) : Bool := (partsOf b).any fun p => inB x (rd p 0) (rd p 1 - n)
/-- A loop that ends with one answer at the first element that is as it should be, with another one behind the last. -/
theorem anyTo {α β : Type} (l : List α) (p : α → Bool) (g : Int → β) (yes r : β) (h : ∀ i (hi : i < l.length), g (i : Int) = if p l[i] = true then yes else g ((i + 1 : Nat) : Int)) (he : g (l.length : Int) = r) : g 0 = if l.any p = true then yes else r := by
  have key : ∀ (d i : Nat), l.length - i = d → i ≤ l.length → g (i : Int) = if (l.drop i).any p = true then yes else r := by
    intro d
    induction d with
    | zero =>
      intro i hd hi
      obtain rfl : i = l.length := by omega
      rw [he]; simp
    | succ d ih =>
      intro i hd hi
      have hlt : i < l.length := by omega
      rw [h i hlt, ih (i + 1) (by omega) (by omega), List.drop_eq_getElem_cons hlt, List.any_cons]
      by_cases hp : p l[i] = true
      · rw [if_pos hp, if_pos (by simp [hp])]
      · rw [if_neg hp]; simp [hp]
  have := key l.length 0 (by omega) (by omega)
  simpa using this
theorem rdLL (l : List (List Int)) (i : Nat) (h : i < l.length) : rd_L1 l (i : Int) = l[i] := by simp [rd_L1, h]
theorem spec_l16Sound_val (b : S29) (x n : Int) (h : boltOk b = true) (hn0 : 1 ≤ n) (hn1 : n ≤ 10000) : spec_l16Sound.F [b] x n = some (soundB b x n) := by
  have hv := boltOk_vals h
  rw [spec_l16Sound.F_eq, if_pos (by simp), spec_l16Parts_val b (by omega)]
  simp only [Option.bind_some]
  have hlen : (partsOf b).length ≤ 7 := by unfold partsOf; rw [partsFrom_len]; omega
  have e := anyTo (partsOf b) (fun p => inB x (rd p 0) (rd p 1 - n)) (fun i => spec_l16Sound.L0 x n (partsOf b) i) (some true) (some false) (fun i hi => by
    show spec_l16Sound.L0 x n (partsOf b) i = _
    have hb := parts_bounds h _ (List.getElem_mem hi)
    rw [spec_l16Sound.L0_eq, if_pos (by omega), if_pos (by omega), rdLL _ i hi, if_pos (by omega), if_pos (by omega), wS (by omega), w64 (n := rd (partsOf b)[i] 1 - n) (by omega) (by omega), spec_l00In_val]
    rfl) (by
    show spec_l16Sound.L0 x n (partsOf b) _ = _
    rw [spec_l16Sound.L0_eq, if_neg (by omega)])
  refine Eq.trans e ?_
  unfold soundB
  split <;> simp_all
theorem impl_soundParts_val (x : Int) (l : List Int) (hl : l.length ≤ 1048576) : impl_soundParts.F x l = some (partsFrom x 0 l) := by
  have key : ∀ (d i : Nat) (out : List (List Int)) (a : Int), i + d = l.length → out.length ≤ i → impl_soundParts.L0 out a l (l.length : Int) (i : Int) x l = some (out ++ partsFrom x a (l.drop i)) := by
    intro d
    induction d with
    | zero =>
      intro i out a hd ho
      have h1 : out.length < 5864062014805 := by omega
      rw [impl_soundParts.L0_eq, if_neg (by omega), if_pos h1, List.drop_of_length_le (by omega)]
      rfl
    | succ d ih =>
      intro i out a hd ho
      have hi : i < l.length := by omega
      have h1 : out.length < 5864062014805 := by omega
      rw [impl_soundParts.L0_eq, if_pos (by omega), if_pos (by omega), if_pos (by omega), if_pos h1, rd_get _ i hi, wS (by omega), ih (i + 1) _ _ (by omega) (by rw [List.length_append]; simp; omega), List.drop_eq_getElem_cons hi]
      simp [partsFrom]
  rw [impl_soundParts.F_eq]
  have := key l.length 0 [] 0 (by omega) (by simp)
  simpa using this
theorem overlap_same (l : List S29) (ps : List Int) (qs : List S114) (hq : qs.length = ps.length) (hs : qs.length ≤ 1048576) (i : Nat) (hi : i < qs.length) (x y r : Int) (e1 : spec_l16Fault.L0 l ps qs ((i + 1 : Nat) : Int) = some r) (e2 : impl_pieceFault.L0 l ps qs qs (qs.length : Int) ((i + 1 : Nat) : Int) = some r) (d : Nat) :
    ∀ k : Nat, k + d = i → ∃ r', spec_l16Fault.L1 l ps qs (i : Int) (k : Int) x y = some r' ∧ impl_pieceFault.L2 l ps qs (i : Int) qs (qs.length : Int) (i : Int) (qs.take i) ((qs.take i).length : Int) (k : Int) x y = some r' := by
  have hlt : (qs.take i).length = i := by rw [List.length_take]; omega
  induction d with
  | zero =>
    intro k hk
    rw [spec_l16Fault.L1_eq, impl_pieceFault.L2_eq, if_neg (by omega), if_neg (by omega), wS (by omega)]
    exact ⟨r, e1, e2⟩
  | succ d ih =>
    intro k hk
    obtain ⟨r', i1, i2⟩ := ih (k + 1) (by omega)
    have er : rd_T114 (qs.take i) (k : Int) = rd_T114 qs (k : Int) := by
      rw [rdIPiece _ k (by omega), rdIPiece qs k (by omega), List.getElem_take]
    have c1 : (k : Int) < (i : Int) := by omega
    have c2 : (0 : Int) ≤ (k : Int) := by omega
    have c3 : (k : Int) < (qs.length : Int) := by omega
    have c4 : (k : Int) < ((qs.take i).length : Int) := by omega
    have c5 : (k : Int) < (ps.length : Int) := by omega
    have c6 : (i : Int) < (ps.length : Int) := by omega
    have c7 : (0 : Int) ≤ (i : Int) := by omega
    rw [spec_l16Fault.L1_eq, impl_pieceFault.L2_eq, er, if_pos c1, if_pos c4, if_pos c2, if_pos c2, if_pos c3, if_pos c4, wS (by omega)]
    by_cases h1 : (rd_T114 qs (k : Int)).f0 = x
    · rw [if_pos h1, if_pos h1, if_pos c7, if_pos c6, if_pos c5, if_pos c5]
      by_cases h2 : (rd_T114 qs (k : Int)).f1 < wrap64 (y + rd ps (i : Int))
      · rw [if_pos h2]
        by_cases h3 : y < wrap64 ((rd_T114 qs (k : Int)).f1 + rd ps (k : Int))
        · rw [if_pos h3, if_pos h3, if_pos c7, if_pos c6, if_pos h2]
          exact ⟨_, rfl, rfl⟩
        · rw [if_neg h3, if_neg h3]
          exact ⟨r', i1, i2⟩
      · rw [if_neg h2]
        by_cases h3 : y < wrap64 ((rd_T114 qs (k : Int)).f1 + rd ps (k : Int))
        · rw [if_pos h3, if_pos c7, if_pos c6, if_neg h2]
          exact ⟨r', i1, i2⟩
        · rw [if_neg h3]
          exact ⟨r', i1, i2⟩
    · rw [if_neg h1, if_neg h1]
      exact ⟨r', i1, i2⟩
theorem sound_loop (l : List S29) (ps : List Int) (qs : List S114) (b : S29) (hb : boltOk b = true) (i : Nat) (hi : i < ps.length) (hn0 : 1 ≤ rd ps (i : Int)) (hn1 : rd ps (i : Int) ≤ 10000) (n x y : Int) (d : Nat) :
    ∀ (k : Nat) (s : Bool), k + d = (partsOf b).length → impl_pieceFault.L1 l ps qs (i : Int) s qs n (i : Int) (partsOf b) ((partsOf b).length : Int) (k : Int) x y = impl_pieceFault.L1 l ps qs (i : Int) (s || ((partsOf b).drop k).any fun p => inB y (rd p 0) (rd p 1 - rd ps (i : Int))) qs n (i : Int) (partsOf b) ((partsOf b).length : Int) ((partsOf b).length : Int) x y := by
  have hv := boltOk_vals hb
  have hlen : (partsOf b).length ≤ 7 := by unfold partsOf; rw [partsFrom_len]; omega
  induction d with
  | zero =>
    intro k s hk
    rw [List.drop_of_length_le (by omega), show k = (partsOf b).length by omega]
    simp
  | succ d ih =>
    intro k s hk
    have hk2 : k < (partsOf b).length := by omega
    have hp := parts_bounds hb _ (List.getElem_mem hk2)
    rw [impl_pieceFault.L1_eq, if_pos (by omega), if_pos (by omega), if_pos (by omega), wS (by omega), rdLL _ k hk2, List.drop_eq_getElem_cons hk2, List.any_cons]
    cases s with
    | true =>
      rw [if_pos rfl, ih (k + 1) true (by omega), Bool.true_or, Bool.true_or]
    | false =>
      rw [if_neg nf, Bool.false_or, if_pos (by omega)]
      by_cases h1 : y ≥ rd (partsOf b)[k] 0
      · rw [if_pos h1, if_pos (by omega)]
        by_cases h2 : y ≤ rd (partsOf b)[k] 1
        · rw [if_pos h2, if_pos (by omega), if_pos (by omega), ih (k + 1) _ (by omega), w64 (n := y + rd ps (i : Int)) (by omega) (by omega)]
          congr 2
          rw [Bool.eq_iff_iff, decide_eq_true_iff, inB_iff]
          omega
        · rw [if_neg h2, ih (k + 1) _ (by omega)]
          congr 2
          rw [Bool.eq_iff_iff, inB_iff]
          simp; omega
      · rw [if_neg h1, ih (k + 1) _ (by omega)]
        congr 2
        rw [Bool.eq_iff_iff, inB_iff]
        simp; omega
theorem fault_same (l : List S29) (ps : List Int) (qs : List S114) (h : placeCode l ps qs = 0) : ∃ r, spec_l16Fault.F l ps qs = some r ∧ impl_pieceFault.F l ps qs = some r := by
  obtain ⟨h1, h2, h3, h4⟩ := placeCode_ok h
  rw [boltsOk_iff] at h1
  rw [panels16_iff] at h2
  rw [spec_l16Fault.F_eq, impl_pieceFault.F_eq]
  have key : ∀ (d i : Nat), i + d = qs.length → ∃ r, spec_l16Fault.L0 l ps qs (i : Int) = some r ∧ impl_pieceFault.L0 l ps qs qs (qs.length : Int) (i : Int) = some r := by
    intro d
    induction d with
    | zero =>
      intro i hi
      rw [spec_l16Fault.L0_eq, impl_pieceFault.L0_eq, if_neg (by omega), if_neg (by omega)]
      exact ⟨-1, rfl, rfl⟩
    | succ d ih =>
      intro i hi
      obtain ⟨r, e1, e2⟩ := ih (i + 1) (by omega)
      have hq : i < qs.length := by omega
      have hp : i < ps.length := by omega
      have hb := h4 _ (List.getElem_mem hq)
      obtain ⟨j, hj⟩ : ∃ j : Nat, qs[i].f0 = (j : Int) := ⟨qs[i].f0.toNat, by omega⟩
      have hjl : j < l.length := by omega
      have hbo := h1.1 _ (List.getElem_mem hjl)
      have hn := h2.1 _ (List.getElem_mem hp)
      rw [spec_l16Fault.L0_eq, impl_pieceFault.L0_eq, rdIPiece qs i hq, hj, if_pos (by omega), if_pos (by omega), if_pos (by omega), if_pos (by omega), if_pos (by omega), if_pos (by omega), if_pos (by omega), if_pos (by omega), if_pos (by omega), if_pos (by omega), rdIBolt l j hjl]
      have er : rd ps (i : Int) = ps[i] := rd_get ps i hp
      have hv := boltOk_vals hbo
      rw [er, spec_l16Sound_val _ _ _ hbo hn.1 hn.2, impl_soundParts_val _ _ (by omega)]
      simp only [Option.bind_some]
      have es := sound_loop l ps qs l[j] hbo i hp (by omega) (by omega) (qs.length : Int) (j : Int) qs[i].f1 (partsOf l[j]).length 0 false (by omega)
      rw [show ((0 : Nat) : Int) = 0 from rfl, List.drop_zero, Bool.false_or, er] at es
      have es2 : impl_pieceFault.L1 l ps qs (i : Int) false qs (qs.length : Int) (i : Int) (partsFrom l[j].f0 0 l[j].f1) ((partsFrom l[j].f0 0 l[j].f1).length : Int) 0 (j : Int) qs[i].f1 = impl_pieceFault.L1 l ps qs (i : Int) (soundB l[j] qs[i].f1 ps[i]) qs (qs.length : Int) (i : Int) (partsOf l[j]) ((partsOf l[j]).length : Int) ((partsOf l[j]).length : Int) (j : Int) qs[i].f1 := es
      rw [es2, impl_pieceFault.L1_eq, if_neg (show ¬ ((partsOf l[j]).length : Int) < ((partsOf l[j]).length : Int) by omega)]
      cases soundB l[j] qs[i].f1 ps[i] with
      | false => rw [if_neg nf, if_neg nf]; exact ⟨_, rfl, rfl⟩
      | true =>
        rw [if_pos rfl, if_pos rfl, if_pos (show (0 : Int) ≤ (i : Int) by omega), if_pos (show (i : Int) ≤ (qs.length : Int) by omega)]
        simp only [Option.bind_some, Int.toNat_natCast]
        exact overlap_same l ps qs h3 (by omega) i hq (j : Int) qs[i].f1 r e1 e2 i 0 (by omega)
  exact key qs.length 0 (by omega)
theorem laws_markBoltS_some (l : List S29) (hl : l.length ≤ 1048576) (hy : ∀ y ∈ l, y.f1.length ≤ 1048576) : ∃ (k : Int) (z : List S29), laws_markBoltS.F l 1 = some (k, z) ∧ 1 ≤ k ∧ k ≤ 1 + (l.length : Int) * 1048577 := by
  rw [laws_markBoltS.F_eq]
  obtain ⟨s, hs, e⟩ := iter (fun (s : List S29 × Int) i => laws_markBoltS.L0 s.1 s.2 i) l.length (fun i s => s.1.length = l.length ∧ (∀ j, i ≤ j → s.1[j]? = l[j]?) ∧ 1 ≤ s.2 ∧ s.2 ≤ 1 + (i : Int) * 1048577) (fun i s hi hs => by
    obtain ⟨x, y⟩ := s
    obtain ⟨hx, hj, hy1, hy2⟩ := hs
    simp only at hx hj hy1 hy2
    have hix : i < x.length := by omega
    have hlen : x[i].f1.length ≤ 1048576 := by
      have h2 := hj i (Nat.le_refl i)
      rw [List.getElem?_eq_getElem hix, List.getElem?_eq_getElem hi] at h2
      injection h2 with h2
      rw [h2]
      exact hy _ (List.getElem_mem hi)
    show ∃ s', laws_markBoltS.L0 x y i = laws_markBoltS.L0 _ _ _ ∧ _
    rw [laws_markBoltS.L0_eq, if_pos (by omega), if_pos (by omega), rdIBolt x i hix, w64 (n := y + 1) (by omega) (by omega), laws_markInt64S_val _ _ (by omega) (by omega), wS (by omega)]
    simp only [Option.bind_some]
    refine ⟨(_, _), rfl, by simp only [List.length_set]; exact hx, fun j hij => ?_, by simp only; omega, by simp only; omega⟩
    simp only [Int.toNat_natCast]
    rw [List.getElem?_set_ne (by omega)]
    exact hj j (by omega)) (l, 1) ⟨rfl, fun _ _ => rfl, by simp, by simp⟩
  obtain ⟨x, y⟩ := s
  obtain ⟨hx, hj, hy1, hy2⟩ := hs
  simp only at hx hj hy1 hy2 e
  refine ⟨y, x, e.trans ?_, hy1, hy2⟩
  rw [laws_markBoltS.L0_eq, if_neg (by omega)]
theorem laws_markPieceS_some (l : List S114) (k : Int) (h0 : 0 ≤ k) (h1 : k + 2 * l.length ≤ 2305843009213693952) : ∃ z, laws_markPieceS.F l k = some (k + 2 * l.length, z) := by
  rw [laws_markPieceS.F_eq]
  obtain ⟨s, hs, e⟩ := iter (fun (s : List S114 × Int) i => laws_markPieceS.L0 s.1 s.2 i) l.length (fun i s => s.1.length = l.length ∧ s.2 = k + 2 * (i : Int)) (fun i s hi hs => by
    obtain ⟨x, y⟩ := s
    obtain ⟨hx, hy⟩ := hs
    simp only at hx hy
    show ∃ s', laws_markPieceS.L0 x y i = laws_markPieceS.L0 _ _ _ ∧ _
    rw [laws_markPieceS.L0_eq, if_pos (by omega), if_pos (by omega)]
    simp only [Option.bind_some]
    rw [w64 (n := y + 1) (by omega) (by omega), w64 (n := y + 1 + 1) (by omega) (by omega), wS (by omega)]
    exact ⟨(_, _), rfl, by simp only [List.length_set]; exact hx, by simp only; omega⟩) (l, k) ⟨rfl, by simp⟩
  obtain ⟨x, y⟩ := s
  obtain ⟨hx, hy⟩ := hs
  simp only at hx hy e
  refine ⟨x, e.trans ?_⟩
  rw [laws_markPieceS.L0_eq, if_neg (by omega), hy]
/-- A loop that picks elements. -/
theorem pickLoop {α β γ : Type} (l : List α) (p : α → Bool) (f : α → γ) (g : List γ → Int → Option β) (h : ∀ i s (hi : i < l.length), s.length ≤ i → g s (i : Int) = if p l[i] = true then g (s ++ [f l[i]]) ((i + 1 : Nat) : Int) else g s ((i + 1 : Nat) : Int)) : g [] 0 = g ((l.filter p).map f) (l.length : Int) := by
  have := iterF g l.length (fun i => ((l.take i).filter p).map f) (fun i hi => by
    rw [h i _ hi (by rw [List.length_map]; exact Nat.le_trans (List.length_filter_le _ _) (by rw [List.length_take]; omega)), List.take_succ_eq_append_getElem hi, List.filter_append, List.map_append]
    by_cases hp : p l[i] = true
    · rw [if_pos hp, List.filter_cons_of_pos hp]; rfl
    · rw [if_neg hp, List.filter_cons_of_neg hp]; simp)
  simpa using this
theorem left_same (l : List S29) (ps : List Int) (qs : List S114) (hl : l.length ≤ 1048576) (hq : qs.length ≤ 1048576) (h : placeCode l ps qs = 0) : ∃ o, o.length = l.length ∧ spec_ClothLeft.L0 l ps qs [] 0 = some (o, 0) ∧ impl_ClothLeft.L0 ps qs [] l (l.length : Int) 0 = some (o, 0) := by
  obtain ⟨_, _, h3, h4⟩ := placeCode_ok h
  have e1 : spec_ClothLeft.L0 l ps qs [] 0 = spec_ClothLeft.L1 ps qs (l.map (·.f0)) 0 := by
    refine (pickLoop l (fun _ => true) (·.f0) (fun o i => spec_ClothLeft.L0 l ps qs o i) (fun i s hi hs => ?_)).trans ?_
    · show spec_ClothLeft.L0 _ _ _ _ _ = if _ then spec_ClothLeft.L0 _ _ _ _ _ else spec_ClothLeft.L0 _ _ _ _ _
      rw [spec_ClothLeft.L0_eq, if_pos (by omega), if_pos (by omega), if_pos (by omega), rdIBolt l i hi, wS (by omega), if_pos rfl]
    · show spec_ClothLeft.L0 _ _ _ _ _ = _
      rw [spec_ClothLeft.L0_eq, if_neg (by omega), List.filter_eq_self.2 (fun _ _ => rfl)]
  have e2 : impl_ClothLeft.L0 ps qs [] l (l.length : Int) 0 = impl_ClothLeft.L1 ps (l.map (·.f0)) qs (qs.length : Int) 0 := by
    refine (pickLoop l (fun _ => true) (·.f0) (fun o i => impl_ClothLeft.L0 ps qs o l (l.length : Int) i) (fun i s hi hs => ?_)).trans ?_
    · show impl_ClothLeft.L0 _ _ _ _ _ _ = if _ then impl_ClothLeft.L0 _ _ _ _ _ _ else impl_ClothLeft.L0 _ _ _ _ _ _
      rw [impl_ClothLeft.L0_eq, if_pos (by omega), if_pos (by omega), if_pos (by omega), if_pos (by omega), rdIBolt l i hi, wS (by omega), if_pos rfl]
    · show impl_ClothLeft.L0 _ _ _ _ _ _ = _
      rw [impl_ClothLeft.L0_eq, if_neg (by omega), List.filter_eq_self.2 (fun _ _ => rfl)]
  rw [e1, e2]
  have key : ∀ (d i : Nat) (o : List Int), i + d = qs.length → o.length = l.length → ∃ o', o'.length = l.length ∧ spec_ClothLeft.L1 ps qs o (i : Int) = some (o', 0) ∧ impl_ClothLeft.L1 ps o qs (qs.length : Int) (i : Int) = some (o', 0) := by
    intro d
    induction d with
    | zero =>
      intro i o hi ho
      rw [spec_ClothLeft.L1_eq, impl_ClothLeft.L1_eq, if_neg (by omega), if_neg (by omega)]
      exact ⟨o, ho, rfl, rfl⟩
    | succ d ih =>
      intro i o hi ho
      have hqi : i < qs.length := by omega
      have hb := h4 _ (List.getElem_mem hqi)
      rw [spec_ClothLeft.L1_eq, impl_ClothLeft.L1_eq, rdIPiece qs i hqi, if_pos (by omega), if_pos (by omega), if_pos (by omega), if_pos (by omega), if_pos (by omega), if_pos (by omega), if_pos (by omega), if_pos (by omega), if_pos (by omega), if_pos (by omega), if_pos (by omega), wS (by omega)]
      exact ih (i + 1) _ (by omega) (by rw [List.length_set]; exact ho)
  exact key qs.length 0 (l.map (·.f0)) (by omega) (by rw [List.length_map])
theorem pure_FnExactClothLeft : laws_FnExactClothLeft.Pure := by
  intro l0 ps q0 hl hps hq
  refine of_lim (g := fun k => laws_FnExactClothLeft.f k l0 ps q0) ?_
  show laws_FnExactClothLeft.F l0 ps q0 = some true
  by_cases hp : (ps.length : Int) > 1048576
  · rw [laws_FnExactClothLeft.F_eq, if_pos hp]
  obtain ⟨r, hr, h⟩ := bolt_args l0 1048576 (by omega) (by omega) hl.1 (fun y hy => (hl.2 y hy).2.1)
  rcases h with h | ⟨h1, h2, h3, l, _, hll, hy, et, ee⟩
  · rw [laws_FnExactClothLeft.F_eq, if_neg hp, hr]; simp only [Option.bind_some]; rw [if_pos h]
  · obtain ⟨q, eq, h'⟩ := laws_szPieceS_val q0 r hq.1 (by omega) (by omega)
    rcases h' with h' | ⟨h4, h5, h6⟩
    · rw [laws_FnExactClothLeft.F_eq, if_neg hp, hr]; simp only [Option.bind_some]; rw [if_neg h1, eq]; simp only [Option.bind_some]; rw [if_pos h']
    · have hm : (q0.map pieceTo).length ≤ 1048576 := by rw [List.length_map]; omega
      have e3 := laws_toPieceS_val q0 (by omega)
      generalize q0.map pieceTo = qs at e3 hm
      have e4 := laws_toInt64S_val ps (by omega)
      have e5 := laws_eqInt64S_val ps (by omega)
      have e6 := laws_eqPieceS_val qs (by omega)
      obtain ⟨y, c, e1, e2, hyl⟩ : ∃ y c, spec_ClothLeft.F l ps qs = some (y, c) ∧ impl_ClothLeft.F l ps qs = some (y, c) ∧ y.length ≤ 1048576 := by
        rw [spec_ClothLeft.F_eq, impl_ClothLeft.F_eq, spec_l16Code_val l ps qs (by omega) hy (by omega) (by omega), impl_placesCode_val l ps qs (by omega) hy (by omega) (by omega)]
        simp only [Option.bind_some]
        by_cases hc : placeCode l ps qs = 0
        · obtain ⟨z, e1, e2⟩ := fault_same l ps qs hc
          obtain ⟨o, ho, o1, o2⟩ := left_same l ps qs (by omega) hm hc
          rw [if_pos hc, if_pos hc, e1, e2]
          simp only [Option.bind_some]
          by_cases hz : z ≥ 0
          · rw [if_pos hz, decide_eq_true hz, spec_ClothLeft.J0_eq, if_pos rfl, spec_ClothLeft.J1_eq, if_neg (by omega)]
            exact ⟨_, _, rfl, rfl, by simp⟩
          · rw [if_neg hz, decide_eq_false hz, spec_ClothLeft.J0_eq, if_neg nf, spec_ClothLeft.J1_eq, if_pos hc, o1, o2]
            exact ⟨_, _, rfl, rfl, by omega⟩
        · rw [if_neg hc, if_neg hc, spec_ClothLeft.J0_eq, if_neg nf, spec_ClothLeft.J1_eq, if_neg hc]
          exact ⟨_, _, rfl, rfl, by simp⟩
      have hp' : ¬ (1048576 < (ps.length : Int)) := hp
      have n2 : ¬ q < 0 := by omega
      obtain ⟨k1, z1, m1, b1, b2⟩ := laws_markBoltS_some l (by omega) hy
      have m2 := laws_markInt64S_val ps k1 (by omega) (by omega)
      obtain ⟨z3, m3⟩ := laws_markPieceS_some qs (k1 + ps.length) (by omega) (by omega)
      have n3 : ¬ (k1 + (ps.length : Int) + 2 * (qs.length : Int) < 0) := by omega
      have g1 := laws_eqInt64S_val y (by omega)
      have g2 := laws_markInt64S_val y 1 (by omega) (by omega)
      have g3 := laws_heldInt64S_val y.length 1 (by omega) (by omega)
      have n4 : ¬ (1 + (y.length : Int) < 0) := by omega
      simp [laws_FnExactClothLeft.F_eq, laws_FnExactClothLeft.J0_eq, laws_FnExactClothLeft.J1_eq, laws_FnExactClothLeft.J2_eq, hp', hr, h1, eq, n2, et, ee, e3, e4, e5, e6, e1, e2, m1, m2, m3, n3, g1, g2, g3, n4]
end Go.Proofs.Ytlphfgbeeckjnaa.PFnExactClothLeft
namespace Go.Proofs.Ytlphfgbeeckjnaa.Pure
theorem FnExactClothLeft : PFnExactClothLeft.laws_FnExactClothLeft.Pure := PFnExactClothLeft.pure_FnExactClothLeft
end Go.Proofs.Ytlphfgbeeckjnaa.Pure
