/-
  The pure side of FnExactSoundParts: the program's SoundParts tells what the reference's tells. No conditions.
-/
import Derived.Test.YtlphfgbeeckjnaaQFnExactSoundParts
set_option linter.unusedVariables false
set_option linter.unusedSimpArgs false
set_option linter.unnecessarySimpa false
namespace Go.Proofs.Ytlphfgbeeckjnaa.PFnExactSoundParts
open Go.RowKit Go.Proofs.Ytlphfgbeeckjnaa.Kit Go.Proofs.YtlphfgbeeckjnaaW.PrintWords Go.Proofs.YtlphfgbeeckjnaaW.PrintLast Go.Proofs.YtlphfgbeeckjnaaW.PrintMore

theorem laws_szInt64S_val (l : List Int) (n : Int) (h : l.length ≤ 9223372036854775807) (hn : 0 ≤ n) (hn2 : n ≤ 1048576) : ∃ r, laws_szInt64S.f l n = some r ∧ (r < 0 ∨ 0 ≤ r ∧ r ≤ n ∧ (l.length : Int) ≤ n) := by
  unfold laws_szInt64S.f
  rw [w64 (by omega) (by omega)]
  by_cases hc : n < l.length
  · exact ⟨-1, by rw [if_pos (by omega)], Or.inl (by omega)⟩
  · exact ⟨n - l.length, by rw [if_neg (by omega)], Or.inr (by omega)⟩
theorem laws_szBolt_val (x : Int) (l : List Int) (n : Int) (h : l.length ≤ 9223372036854775807) (hn : 0 ≤ n) (hn2 : n ≤ 1048576) : ∃ r, laws_szBolt.f x l n = some r ∧ (r < 0 ∨ 0 ≤ r ∧ r ≤ n ∧ (l.length : Int) ≤ n) := by
  unfold laws_szBolt.f
  obtain ⟨r, hr, h1⟩ := laws_szInt64S_val l n h hn hn2
  rw [hr]; simp only [Option.bind_some]
  rcases h1 with h1 | h1
  · exact ⟨-1, by rw [if_pos h1], Or.inl (by omega)⟩
  · exact ⟨r, by rw [if_neg (by omega)], Or.inr h1⟩
theorem laws_toInt64S_val (l : List Int) (hl : l.length ≤ 1048576) : laws_toInt64S.F l = some l := by
  rw [laws_toInt64S.F_eq, if_pos (by omega), if_pos (by omega), Int.toNat_natCast]
  have := fillLoop l 0 (fun s i => laws_toInt64S.L0 l s i) (fun i s hi hs => by
    show laws_toInt64S.L0 l s i = _
    rw [laws_toInt64S.L0_eq, if_pos (by omega), if_pos (by omega), wS (by omega), if_pos (by omega), Int.toNat_natCast, rd_get l i hi])
  refine this.trans ?_
  show laws_toInt64S.L0 l _ _ = _
  rw [laws_toInt64S.L0_eq, if_neg (by omega)]
theorem laws_toBolt_val (x : Int) (l : List Int) (hl : l.length ≤ 1048576) : laws_toBolt.F x l = some (x, l) := by
  rw [laws_toBolt.F_eq, laws_toInt64S_val l hl]; rfl
theorem laws_eqInt64S_val (l : List Int) (hl : l.length < 4611686018427387904) : laws_eqInt64S.F l l = some true := by
  rw [laws_eqInt64S.F_eq, if_pos rfl]
  have := allLoop l (fun _ => true) (fun i => laws_eqInt64S.L0 l l i) true (fun i hi => by
    show laws_eqInt64S.L0 l l i = _
    rw [laws_eqInt64S.L0_eq, if_pos (by omega), if_pos (by omega), if_pos (by omega), wS (by omega)]
    simp) (by
    show laws_eqInt64S.L0 l l _ = _
    rw [laws_eqInt64S.L0_eq, if_neg (by omega)])
  rw [this]; simp
theorem laws_eqBolt_val (x : Int) (l : List Int) (hl : l.length < 4611686018427387904) : laws_eqBolt.F x l x l = some true := by
  rw [laws_eqBolt.F_eq, if_pos rfl, laws_eqInt64S_val l hl]; rfl
/-- The numbers from k on. -/
def upFrom (k : Int) (n : Nat) : List Int := (List.range n).map fun (j : Nat) => k + (j : Int)
theorem laws_markInt64S_val (l : List Int) (k : Int) (h0 : 0 ≤ k) (h1 : k + l.length ≤ 4611686018427387904) : laws_markInt64S.F l k = some (k + l.length, upFrom k l.length) := by
  rw [laws_markInt64S.F_eq]
  have hlen : ∀ i, i ≤ l.length → (upFrom k i ++ l.drop i).length = l.length := fun i hi => by simp [upFrom]; omega
  have := iterF (fun (s : List Int × Int) i => laws_markInt64S.L0 s.1 s.2 i) l.length (fun i => (upFrom k i ++ l.drop i, k + (i : Int))) (fun i hi => by
    show laws_markInt64S.L0 _ _ _ = laws_markInt64S.L0 _ _ _
    have hl1 := hlen i (by omega)
    rw [laws_markInt64S.L0_eq, if_pos (by rw [hl1]; omega), if_pos (by omega), wS (by omega), w64 (by omega) (by omega), Int.toNat_natCast]
    have e1 : (upFrom k i ++ l.drop i).set i (k + (i : Int)) = upFrom k (i + 1) ++ l.drop (i + 1) := by
      have hlu : (upFrom k i).length = i := by simp [upFrom]
      rw [List.set_append, hlu, if_neg (Nat.lt_irrefl i), Nat.sub_self, List.drop_eq_getElem_cons hi, List.set_cons_zero]
      unfold upFrom
      rw [List.range_succ, List.map_append, List.append_assoc]
      rfl
    rw [e1]
    congr 1
    omega)
  have e0 : upFrom k 0 ++ l.drop 0 = l := by simp [upFrom]
  simp only [e0] at this
  rw [show k + ((0 : Nat) : Int) = k by omega] at this
  refine this.trans ?_
  rw [laws_markInt64S.L0_eq, if_neg (by rw [hlen l.length (Nat.le_refl _)]; omega)]
  simp
theorem laws_markBolt_val (x : Int) (l : List Int) (k : Int) (h0 : 0 ≤ k) (h1 : k + l.length ≤ 4611686018427387904) : laws_markBolt.F x l k = some (k + l.length, upFrom k l.length) := by
  rw [laws_markBolt.F_eq, laws_markInt64S_val l k h0 h1]; rfl
theorem rdLL (l : List (List Int)) (i : Nat) (h : i < l.length) : rd_L1 l (i : Int) = l[i] := by simp [rd_L1, h]
/-- The numbers from k on, in the shape of a row of rows. -/
def upSS (k : Int) : List (List Int) → List (List Int)
  | [] => []
  | r :: t => upFrom k r.length :: upSS (k + r.length) t
def sumLen : List (List Int) → Nat
  | [] => 0
  | r :: t => r.length + sumLen t
theorem sumLen_le (l : List (List Int)) (n : Nat) (h : ∀ r ∈ l, r.length ≤ n) : sumLen l ≤ n * l.length := by
  induction l with
  | nil => simp [sumLen]
  | cons r t ih =>
    have h1 := h r List.mem_cons_self
    have h2 := ih (fun q hq => h q (List.mem_cons_of_mem _ hq))
    simp only [sumLen, List.length_cons, Nat.mul_add]
    omega
theorem laws_heldInt64S_val (n : Nat) (k : Int) (h0 : 0 ≤ k) (h1 : k + n ≤ 4611686018427387904) : laws_heldInt64S.F (upFrom k n) k = some (k + n) := by
  rw [laws_heldInt64S.F_eq]
  have hlen : (upFrom k n).length = n := by simp [upFrom]
  have := iterF (fun (s : Int) i => laws_heldInt64S.L0 (upFrom k n) s i) n (fun i => k + (i : Int)) (fun i hi => by
    show laws_heldInt64S.L0 _ _ _ = laws_heldInt64S.L0 _ _ _
    have hr : rd (upFrom k n) (i : Int) = k + (i : Int) := by
      rw [rd_get _ i (by omega)]
      simp [upFrom]
    rw [laws_heldInt64S.L0_eq, if_pos (by rw [hlen]; omega), if_pos (by omega), hr, if_pos rfl, wS (by omega), w64 (by omega) (by omega)]
    congr 1
    omega)
  rw [show k + ((0 : Nat) : Int) = k by omega] at this
  refine this.trans ?_
  show laws_heldInt64S.L0 _ _ _ = _
  rw [laws_heldInt64S.L0_eq, if_neg (by rw [hlen]; omega)]
theorem laws_heldInt64SS_val (l : List (List Int)) (k : Int) (hl : l.length ≤ 1048576) (h0 : 0 ≤ k) (h1 : k + sumLen l ≤ 4611686018427387904) : laws_heldInt64SS.F (upSS k l) k = some (k + sumLen l) := by
  have key : ∀ (l : List (List Int)) (p : List (List Int)) (k : Int), p.length + l.length ≤ 1048576 → 0 ≤ k → k + sumLen l ≤ 4611686018427387904 → laws_heldInt64SS.L0 (p ++ upSS k l) k (p.length : Int) = some (k + sumLen l) := by
    intro l
    induction l with
    | nil =>
      intro p k hp h0 h1
      rw [laws_heldInt64SS.L0_eq, if_neg (by simp [upSS])]
      simp [sumLen]
    | cons r t ih =>
      intro p k hp h0 h1
      simp only [List.length_cons, sumLen] at hp h1
      simp only [upSS]
      have hlt : p.length < (p ++ upFrom k r.length :: upSS (k + r.length) t).length := by simp
      have hg : (p ++ upFrom k r.length :: upSS (k + r.length) t)[p.length] = upFrom k r.length := by simp
      rw [laws_heldInt64SS.L0_eq, if_pos (by omega), if_pos (by omega), rdLL _ _ hlt, hg, laws_heldInt64S_val r.length k h0 (by omega), wS (by omega)]
      simp only [Option.bind_some]
      rw [if_neg (by omega)]
      have := ih (p ++ [upFrom k r.length]) (k + r.length) (by simp; omega) (by omega) (by omega)
      simp only [List.length_append, List.length_cons, List.length_nil, List.append_assoc, List.singleton_append] at this
      rw [show (p.length + 1 : Nat) = p.length + (0 + 1) by omega, this]
      simp only [sumLen]
      congr 1
      omega
  rw [laws_heldInt64SS.F_eq]
  have := key l [] k (by simpa using hl) h0 h1
  simpa using this
theorem laws_markInt64SS_val (l : List (List Int)) (k : Int) (hl : l.length ≤ 1048576) (h0 : 0 ≤ k) (h1 : k + sumLen l ≤ 4611686018427387904) : laws_markInt64SS.F l k = some (k + sumLen l, upSS k l) := by
  have key : ∀ (l : List (List Int)) (p : List (List Int)) (k : Int), p.length + l.length ≤ 1048576 → 0 ≤ k → k + sumLen l ≤ 4611686018427387904 → laws_markInt64SS.L0 (p ++ l) k (p.length : Int) = some (k + sumLen l, p ++ upSS k l) := by
    intro l
    induction l with
    | nil =>
      intro p k hp h0 h1
      rw [laws_markInt64SS.L0_eq, if_neg (by simp)]
      simp [sumLen, upSS]
    | cons r t ih =>
      intro p k hp h0 h1
      simp only [List.length_cons, sumLen] at hp h1
      have hlt : p.length < (p ++ r :: t).length := by simp
      have hg : (p ++ r :: t)[p.length] = r := by simp
      rw [laws_markInt64SS.L0_eq, if_pos (by omega), if_pos (by omega), rdLL _ _ hlt, hg, laws_markInt64S_val r k h0 (by omega), wS (by omega)]
      simp only [Option.bind_some, Int.toNat_natCast]
      rw [List.set_append, if_neg (Nat.lt_irrefl _), Nat.sub_self, List.set_cons_zero]
      have := ih (p ++ [upFrom k r.length]) (k + r.length) (by simp; omega) (by omega) (by omega)
      simp only [List.length_append, List.length_cons, List.length_nil, List.append_assoc, List.singleton_append] at this
      rw [show (p.length + 1 : Nat) = p.length + (0 + 1) by omega, this]
      simp only [sumLen, upSS]
      congr 2
      omega
  rw [laws_markInt64SS.F_eq]
  have := key l [] k (by simpa using hl) h0 h1
  simpa using this
theorem laws_eqInt64SS_val (l : List (List Int)) (hl : l.length < 4611686018427387904) (hr : ∀ r ∈ l, r.length < 4611686018427387904) : laws_eqInt64SS.F l l = some true := by
  rw [laws_eqInt64SS.F_eq, if_pos rfl]
  have := allLoop l (fun _ => true) (fun i => laws_eqInt64SS.L0 l l i) true (fun i hi => by
    show laws_eqInt64SS.L0 l l i = _
    rw [laws_eqInt64SS.L0_eq, if_pos (by omega), if_pos (by omega), if_pos (by omega), rdLL l i hi, laws_eqInt64S_val _ (hr _ (List.getElem_mem hi)), wS (by omega)]
    simp) (by
    show laws_eqInt64SS.L0 l l _ = _
    rw [laws_eqInt64SS.L0_eq, if_neg (by omega)])
  rw [this]; simp
def inB (n a b : Int) : Bool := decide (a ≤ n) && decide (n ≤ b)
theorem inB_iff (n a b : Int) : inB n a b = true ↔ a ≤ n ∧ n ≤ b := by simp [inB]
theorem inB_no (n a b : Int) : inB n a b = false ↔ ¬ (a ≤ n ∧ n ≤ b) := by rw [← inB_iff]; simp
theorem spec_l00In_val (n a b : Int) : spec_l00In.f n a b = some (inB n a b) := by
  unfold spec_l00In.f inB
  by_cases h : n ≥ a
  · rw [if_pos h]; simp [show a ≤ n from h]
  · rw [if_neg h]; simp; omega
/-- At a place: within bounds, and more than the number before it. -/
def riseAt (l : List Int) (a b : Int) (i : Nat) : Bool := inB (rd l (i : Int)) a b && (decide (i = 0) || decide (rd l ((i : Int) - 1) < rd l (i : Int)))
theorem riseAt_def (l : List Int) (a b : Int) (i : Nat) : riseAt l a b i = (inB (rd l (i : Int)) a b && (decide (i = 0) || decide (rd l ((i : Int) - 1) < rd l (i : Int)))) := rfl
def rises (l : List Int) (a b : Int) : Bool := (List.range l.length).all (riseAt l a b)
theorem rises_iff (l : List Int) (a b : Int) : rises l a b = true ↔ ∀ i : Nat, i < l.length → (a ≤ rd l i ∧ rd l i ≤ b) ∧ (0 < i → rd l ((i : Int) - 1) < rd l i) := by
  unfold rises
  rw [List.all_eq_true]
  constructor
  · intro h i hi
    have := h i (List.mem_range.2 hi)
    rw [riseAt_def, Bool.and_eq_true, inB_iff, Bool.or_eq_true] at this
    refine ⟨this.1, fun h0 => ?_⟩
    rcases this.2 with h2 | h2
    · exact absurd (of_decide_eq_true h2) (by omega)
    · exact of_decide_eq_true h2
  · intro h i hi
    have := h i (List.mem_range.1 hi)
    rw [riseAt_def, Bool.and_eq_true, inB_iff, Bool.or_eq_true]
    refine ⟨this.1, ?_⟩
    by_cases h0 : i = 0
    · left; simp [h0]
    · right; exact decide_eq_true (this.2 (by omega))
theorem spec_l00Rises_val (l : List Int) (a b : Int) (hl : l.length < 4611686018427387904) : spec_l00Rises.F l a b = some (rises l a b) := by
  rw [spec_l00Rises.F_eq]
  refine (allRange l.length (riseAt l a b) (fun i => spec_l00Rises.L0 l a b i) true (fun i hi => ?_) ?_).trans (by rw [Bool.and_true]; rfl)
  · show spec_l00Rises.L0 l a b i = _
    rw [spec_l00Rises.L0_eq, if_pos (by omega), if_pos (by omega), spec_l00In_val, wS (by omega)]
    simp only [Option.bind_some]
    rw [riseAt_def, ite_band]
    by_cases h1 : inB (rd l (i : Int)) a b = true
    · rw [if_pos h1, if_pos h1]
      by_cases h0 : i = 0
      · rw [if_neg (by omega), if_pos (by simp [h0])]
      · rw [if_pos (by omega), w64 (by omega) (by omega), if_pos (by omega), if_pos (by omega)]
        by_cases h2 : rd l ((i : Int) - 1) ≥ rd l (i : Int)
        · rw [if_pos h2, if_neg (by simp [h0]; omega)]
        · rw [if_neg h2, if_pos (by simp [h0]; omega)]
    · rw [if_neg h1, if_neg h1]
  · show spec_l00Rises.L0 l a b _ = _
    rw [spec_l00Rises.L0_eq, if_neg (by omega)]
/-- A valid bolt. -/
def boltOk (b : S29) : Bool := inB b.f0 1 10000 && (decide (b.f1.length ≤ 6) && rises b.f1 1 (b.f0 - 1))
theorem boltOk_def (b : S29) : boltOk b = (inB b.f0 1 10000 && (decide (b.f1.length ≤ 6) && rises b.f1 1 (b.f0 - 1))) := rfl
def boltsOk (l : List S29) : Bool := l.all boltOk && decide (l.length ≤ 4)
theorem boltsOk_iff (l : List S29) : boltsOk l = true ↔ (∀ b ∈ l, boltOk b = true) ∧ l.length ≤ 4 := by
  unfold boltsOk
  rw [Bool.and_eq_true, List.all_eq_true, decide_eq_true_iff]
theorem boltOk_vals {b : S29} (h : boltOk b = true) : 1 ≤ b.f0 ∧ b.f0 ≤ 10000 ∧ b.f1.length ≤ 6 ∧ ∀ i : Nat, i < b.f1.length → (1 ≤ rd b.f1 i ∧ rd b.f1 i ≤ b.f0 - 1) ∧ (0 < i → rd b.f1 ((i : Int) - 1) < rd b.f1 i) := by
  rw [boltOk_def, Bool.and_eq_true, Bool.and_eq_true, inB_iff, decide_eq_true_iff, rises_iff] at h
  exact ⟨h.1.1, h.1.2, h.2.1, h.2.2⟩
theorem spec_l16One_val (b : S29) (hb : b.f1.length < 4611686018427387904) : spec_l16One.F [b] = some (boltOk b) := by
  have e : rd_T29 [b] 0 = b := rfl
  rw [spec_l16One.F_eq, e, if_pos (by simp), spec_l00In_val]
  simp only [Option.bind_some]
  rw [boltOk_def]
  cases h1 : inB b.f0 1 10000 with
  | false => rw [if_neg nf]; rfl
  | true =>
    rw [if_pos rfl]
    rw [inB_iff] at h1
    by_cases h2 : (b.f1.length : Int) ≤ 6
    · rw [if_pos h2, decide_eq_true (by omega), w64 (by omega) (by omega), spec_l00Rises_val _ _ _ hb]
      simp
    · rw [if_neg h2, decide_eq_false (by omega)]
      rfl
theorem impl_within_val (n a b : Int) : impl_within.f n a b = some (inB n a b) := by
  unfold impl_within.f inB
  by_cases h : n ≥ a
  · rw [if_pos h]; simp [show a ≤ n from h]
  · rw [if_neg h]; simp; omega
theorem impl_validBolt_val (x : Int) (l : List Int) (hl : l.length < 4611686018427387904) : impl_validBolt.F x l = some (boltOk ⟨x, l⟩) := by
  rw [impl_validBolt.F_eq, impl_within_val]
  simp only [Option.bind_some]
  rw [boltOk_def]
  show _ = some (inB x 1 10000 && (decide (l.length ≤ 6) && rises l 1 (x - 1)))
  cases h1 : inB x 1 10000 with
  | false => rw [if_neg nf, impl_validBolt.J0_eq, if_pos rfl]; rfl
  | true =>
    rw [if_pos rfl]
    rw [inB_iff] at h1
    by_cases h2 : (l.length : Int) > 6
    · rw [decide_eq_true h2, impl_validBolt.J0_eq, if_pos rfl, decide_eq_false (by omega)]
      rfl
    · rw [decide_eq_false h2, impl_validBolt.J0_eq, if_neg nf, decide_eq_true (by omega)]
      refine (allRange l.length (riseAt l 1 (x - 1)) (fun i => impl_validBolt.L0 l (l.length : Int) i x l) true (fun i hi => ?_) ?_).trans (by simp [rises])
      · show impl_validBolt.L0 _ _ i _ _ = _
        rw [impl_validBolt.L0_eq, if_pos (by omega), if_pos (by omega), if_pos (by omega), w64 (n := x - 1) (by omega) (by omega), impl_within_val, wS (by omega)]
        simp only [Option.bind_some]
        rw [riseAt_def, ite_band]
        by_cases h3 : inB (rd l (i : Int)) 1 (x - 1) = true
        · rw [if_pos h3, if_pos h3]
          by_cases h0 : i = 0
          · rw [if_neg (by omega), if_pos (by simp [h0])]
          · rw [if_pos (by omega), w64 (by omega) (by omega), if_pos (by omega), if_pos (by omega)]
            by_cases h4 : rd l (i : Int) ≤ rd l ((i : Int) - 1)
            · rw [if_pos h4, if_neg (by simp [h0]; omega)]
            · rw [if_neg h4, if_pos (by simp [h0]; omega)]
        · rw [if_neg h3, if_neg h3]
      · show impl_validBolt.L0 _ _ _ _ _ = _
        rw [impl_validBolt.L0_eq, if_neg (by omega)]
/-- The sound parts of a bolt: from a place on, up to its end. -/
def partsFrom (e : Int) (a : Int) : List Int → List (List Int)
  | [] => [[a, e]]
  | f :: r => [a, f] :: partsFrom e f r
theorem partsFrom_len (e : Int) (l : List Int) : ∀ a, (partsFrom e a l).length = l.length + 1 := by
  induction l with
  | nil => intro a; rfl
  | cons f r ih => intro a; simp [partsFrom, ih]
theorem partsFrom_two (e : Int) (l : List Int) : ∀ a, ∀ p ∈ partsFrom e a l, p.length = 2 := by
  induction l with
  | nil => intro a p hp; simp [partsFrom] at hp; subst hp; rfl
  | cons f r ih =>
    intro a p hp
    simp only [partsFrom, List.mem_cons] at hp
    rcases hp with rfl | hp
    · rfl
    · exact ih f p hp
def partsOf (b : S29) : List (List Int) := partsFrom b.f0 0 b.f1
theorem spec_l16Parts_val (b : S29) (hb : b.f1.length ≤ 1048576) : spec_l16Parts.F [b] = some (partsOf b) := by
  have e : rd_T29 [b] 0 = b := rfl
  have key : ∀ (d i : Nat) (out : List (List Int)) (a : Int), i + d = b.f1.length → out.length ≤ i → spec_l16Parts.L0 [b] out a (i : Int) = some (out ++ partsFrom b.f0 a (b.f1.drop i)) := by
    intro d
    induction d with
    | zero =>
      intro i out a hd ho
      have h1 : out.length < 5864062014805 := by omega
      rw [spec_l16Parts.L0_eq, e, if_neg (by omega), if_pos h1, List.drop_of_length_le (by omega)]
      rfl
    | succ d ih =>
      intro i out a hd ho
      have hi : i < b.f1.length := by omega
      have h1 : out.length < 5864062014805 := by omega
      rw [spec_l16Parts.L0_eq, e, if_pos (by omega), if_pos (by omega), if_pos h1, rd_get _ i hi, wS (by omega), ih (i + 1) _ _ (by omega) (by rw [List.length_append]; simp; omega), List.drop_eq_getElem_cons hi]
      simp [partsFrom]
  rw [spec_l16Parts.F_eq, if_pos (by simp)]
  have := key b.f1.length 0 [] 0 (by omega) (by simp)
  simpa [partsOf] using this
theorem impl_soundParts_val (x : Int) (l : List Int) (hl : l.length ≤ 1048576) : impl_soundParts.F x l = some (partsFrom x 0 l) := by
  have key : ∀ (d i : Nat) (out : List (List Int)) (a : Int), i + d = l.length → out.length ≤ i → impl_soundParts.L0 out a l (l.length : Int) (i : Int) x l = some (out ++ partsFrom x a (l.drop i)) := by
    intro d
    induction d with
    | zero =>
      intro i out a hd ho
      have h1 : out.length < 5864062014805 := by omega
      rw [impl_soundParts.L0_eq, if_neg (by omega), if_pos h1, List.drop_of_length_le (by omega)]
      rfl
    | succ d ih =>
      intro i out a hd ho
      have hi : i < l.length := by omega
      have h1 : out.length < 5864062014805 := by omega
      rw [impl_soundParts.L0_eq, if_pos (by omega), if_pos (by omega), if_pos (by omega), if_pos h1, rd_get _ i hi, wS (by omega), ih (i + 1) _ _ (by omega) (by rw [List.length_append]; simp; omega), List.drop_eq_getElem_cons hi]
      simp [partsFrom]
  rw [impl_soundParts.F_eq]
  have := key l.length 0 [] 0 (by omega) (by simp)
  simpa using this
theorem pure_FnExactSoundParts : laws_FnExactSoundParts.Pure := by
  intro x l hx hl
  refine of_lim (g := fun k => laws_FnExactSoundParts.f k x l) ?_
  show laws_FnExactSoundParts.F x l = some true
  obtain ⟨r, hr, h⟩ := laws_szBolt_val x l 1048576 hl.1 (by omega) (by omega)
  rcases h with h | ⟨h1, h2, h3⟩
  · rw [laws_FnExactSoundParts.F_eq, hr]; simp only [Option.bind_some]; rw [if_pos h]
  · have n2 : ¬ r < 0 := by omega
    have e3 := laws_toBolt_val x l (by omega)
    have e4 := laws_eqBolt_val x l (by omega)
    have e5 := laws_markBolt_val x l 1 (by omega) (by omega)
    obtain ⟨y, c, e1, e2, hy, hz⟩ : ∃ y c, spec_SoundParts.F x l = some (y, c) ∧ impl_SoundParts.F x l = some (y, c) ∧ y.length ≤ 1048576 ∧ ∀ q ∈ y, q.length ≤ 2 := by
      rw [spec_SoundParts.F_eq, impl_SoundParts.F_eq, spec_l16One_val _ (show l.length < 4611686018427387904 by omega), impl_validBolt_val x l (by omega)]
      simp only [Option.bind_some]
      by_cases hb : boltOk ⟨x, l⟩ = true
      · have v3 : l.length ≤ 6 := (boltOk_vals hb).2.2.1
        rw [if_pos hb, if_pos hb, spec_l16Parts_val ⟨x, l⟩ (show l.length ≤ 1048576 by omega), impl_soundParts_val x l (by omega)]
        refine ⟨partsFrom x 0 l, 0, rfl, rfl, by rw [partsFrom_len]; omega, fun q hq => by rw [partsFrom_two x l 0 q hq]; omega⟩
      · rw [if_neg hb, if_neg hb]
        exact ⟨_, _, rfl, rfl, by simp, by simp⟩
    have hs := sumLen_le y 2 hz
    have e6 := laws_eqInt64SS_val y (by omega) (fun q hq => by have := hz q hq; omega)
    have e7 := laws_markInt64SS_val y 1 hy (by omega) (by omega)
    have e8 := laws_heldInt64SS_val y 1 hy (by omega) (by omega)
    have n3 : ¬ (1 + (l.length : Int) < 0) := by omega
    have n4 : ¬ (1 + (sumLen y : Int) < 0) := by omega
    simp [laws_FnExactSoundParts.F_eq, laws_FnExactSoundParts.J0_eq, laws_FnExactSoundParts.J1_eq, laws_FnExactSoundParts.J2_eq, hr, n2, e3, e4, e5, e1, e2, n3, e6, e7, e8, n4]
end Go.Proofs.Ytlphfgbeeckjnaa.PFnExactSoundParts
namespace Go.Proofs.Ytlphfgbeeckjnaa.Pure
theorem FnExactSoundParts : PFnExactSoundParts.laws_FnExactSoundParts.Pure := PFnExactSoundParts.pure_FnExactSoundParts
end Go.Proofs.Ytlphfgbeeckjnaa.Pure
