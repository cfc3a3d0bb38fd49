/-
  The pure side of FnExactMarkFlaw: the program's MarkFlaw tells what the reference's tells. No conditions.
-/
import Derived.Test.YtbhijlhlopljmaaQFnExactMarkFlaw
set_option linter.unusedVariables false
set_option linter.unusedSimpArgs false
set_option linter.unnecessarySimpa false
namespace Go.Proofs.Ytbhijlhlopljmaa.PFnExactMarkFlaw
open Go.RowKit Go.Proofs.Ytbhijlhlopljmaa.Kit Go.Proofs.YtbhijlhlopljmaaW.PrintWords Go.Proofs.YtbhijlhlopljmaaW.PrintLast Go.Proofs.YtbhijlhlopljmaaW.PrintMore

theorem laws_szInt64S_val (l : List Int) (n : Int) (h : l.length ≤ 9223372036854775807) (hn : 0 ≤ n) (hn2 : n ≤ 1048576) : ∃ r, laws_szInt64S.f l n = some r ∧ (r < 0 ∨ 0 ≤ r ∧ r ≤ n ∧ (l.length : Int) ≤ n) := by
  unfold laws_szInt64S.f
  rw [w64 (by omega) (by omega)]
  by_cases hc : n < l.length
  · exact ⟨-1, by rw [if_pos (by omega)], Or.inl (by omega)⟩
  · exact ⟨n - l.length, by rw [if_neg (by omega)], Or.inr (by omega)⟩
theorem laws_szBolt_val (x : Int) (l : List Int) (n : Int) (h : l.length ≤ 9223372036854775807) (hn : 0 ≤ n) (hn2 : n ≤ 1048576) : ∃ r, laws_szBolt.f x l n = some r ∧ (r < 0 ∨ 0 ≤ r ∧ r ≤ n ∧ (l.length : Int) ≤ n) := by
  unfold laws_szBolt.f
  obtain ⟨r, hr, h1⟩ := laws_szInt64S_val l n h hn hn2
  rw [hr]; simp only [Option.bind_some]
  rcases h1 with h1 | h1
  · exact ⟨-1, by rw [if_pos h1], Or.inl (by omega)⟩
  · exact ⟨r, by rw [if_neg (by omega)], Or.inr h1⟩
theorem laws_toInt64S_val (l : List Int) (hl : l.length ≤ 1048576) : laws_toInt64S.F l = some l := by
  rw [laws_toInt64S.F_eq, if_pos (by omega), if_pos (by omega), Int.toNat_natCast]
  have := fillLoop l 0 (fun s i => laws_toInt64S.L0 l s i) (fun i s hi hs => by
    show laws_toInt64S.L0 l s i = _
    rw [laws_toInt64S.L0_eq, if_pos (by omega), if_pos (by omega), wS (by omega), if_pos (by omega), Int.toNat_natCast, rd_get l i hi])
  refine this.trans ?_
  show laws_toInt64S.L0 l _ _ = _
  rw [laws_toInt64S.L0_eq, if_neg (by omega)]
theorem laws_toBolt_val (x : Int) (l : List Int) (hl : l.length ≤ 1048576) : laws_toBolt.F x l = some (x, l) := by
  rw [laws_toBolt.F_eq, laws_toInt64S_val l hl]; rfl
theorem laws_eqInt64S_val (l : List Int) (hl : l.length < 4611686018427387904) : laws_eqInt64S.F l l = some true := by
  rw [laws_eqInt64S.F_eq, if_pos rfl]
  have := allLoop l (fun _ => true) (fun i => laws_eqInt64S.L0 l l i) true (fun i hi => by
    show laws_eqInt64S.L0 l l i = _
    rw [laws_eqInt64S.L0_eq, if_pos (by omega), if_pos (by omega), if_pos (by omega), wS (by omega)]
    simp) (by
    show laws_eqInt64S.L0 l l _ = _
    rw [laws_eqInt64S.L0_eq, if_neg (by omega)])
  rw [this]; simp
theorem laws_eqBolt_val (x : Int) (l : List Int) (hl : l.length < 4611686018427387904) : laws_eqBolt.F x l x l = some true := by
  rw [laws_eqBolt.F_eq, if_pos rfl, laws_eqInt64S_val l hl]; rfl
/-- The numbers from k on. -/
def upFrom (k : Int) (n : Nat) : List Int := (List.range n).map fun (j : Nat) => k + (j : Int)
theorem laws_markInt64S_val (l : List Int) (k : Int) (h0 : 0 ≤ k) (h1 : k + l.length ≤ 4611686018427387904) : laws_markInt64S.F l k = some (k + l.length, upFrom k l.length) := by
  rw [laws_markInt64S.F_eq]
  have hlen : ∀ i, i ≤ l.length → (upFrom k i ++ l.drop i).length = l.length := fun i hi => by simp [upFrom]; omega
  have := iterF (fun (s : List Int × Int) i => laws_markInt64S.L0 s.1 s.2 i) l.length (fun i => (upFrom k i ++ l.drop i, k + (i : Int))) (fun i hi => by
    show laws_markInt64S.L0 _ _ _ = laws_markInt64S.L0 _ _ _
    have hl1 := hlen i (by omega)
    rw [laws_markInt64S.L0_eq, if_pos (by rw [hl1]; omega), if_pos (by omega), wS (by omega), w64 (by omega) (by omega), Int.toNat_natCast]
    have e1 : (upFrom k i ++ l.drop i).set i (k + (i : Int)) = upFrom k (i + 1) ++ l.drop (i + 1) := by
      have hlu : (upFrom k i).length = i := by simp [upFrom]
      rw [List.set_append, hlu, if_neg (Nat.lt_irrefl i), Nat.sub_self, List.drop_eq_getElem_cons hi, List.set_cons_zero]
      unfold upFrom
      rw [List.range_succ, List.map_append, List.append_assoc]
      rfl
    rw [e1]
    congr 1
    omega)
  have e0 : upFrom k 0 ++ l.drop 0 = l := by simp [upFrom]
  simp only [e0] at this
  rw [show k + ((0 : Nat) : Int) = k by omega] at this
  refine this.trans ?_
  rw [laws_markInt64S.L0_eq, if_neg (by rw [hlen l.length (Nat.le_refl _)]; omega)]
  simp
theorem laws_markBolt_val (x : Int) (l : List Int) (k : Int) (h0 : 0 ≤ k) (h1 : k + l.length ≤ 4611686018427387904) : laws_markBolt.F x l k = some (k + l.length, upFrom k l.length) := by
  rw [laws_markBolt.F_eq, laws_markInt64S_val l k h0 h1]; rfl
theorem laws_heldInt64S_val (n : Nat) (k : Int) (h0 : 0 ≤ k) (h1 : k + n ≤ 4611686018427387904) : laws_heldInt64S.F (upFrom k n) k = some (k + n) := by
  rw [laws_heldInt64S.F_eq]
  have hlen : (upFrom k n).length = n := by simp [upFrom]
  have := iterF (fun (s : Int) i => laws_heldInt64S.L0 (upFrom k n) s i) n (fun i => k + (i : Int)) (fun i hi => by
    show laws_heldInt64S.L0 _ _ _ = laws_heldInt64S.L0 _ _ _
    have hr : rd (upFrom k n) (i : Int) = k + (i : Int) := by
      rw [rd_get _ i (by omega)]
      simp [upFrom]
    rw [laws_heldInt64S.L0_eq, if_pos (by rw [hlen]; omega), if_pos (by omega), hr, if_pos rfl, wS (by omega), w64 (by omega) (by omega)]
    congr 1
    omega)
  rw [show k + ((0 : Nat) : Int) = k by omega] at this
  refine this.trans ?_
  show laws_heldInt64S.L0 _ _ _ = _
  rw [laws_heldInt64S.L0_eq, if_neg (by rw [hlen]; omega)]
theorem laws_heldBolt_val (x : Int) (n : Nat) (k : Int) (h0 : 0 ≤ k) (h1 : k + n ≤ 4611686018427387904) : laws_heldBolt.F x (upFrom k n) k = some (k + n) := by
  rw [laws_heldBolt.F_eq, laws_heldInt64S_val n k h0 h1]
  simp only [Option.bind_some]
  rw [if_neg (by omega)]
def inB (n a b : Int) : Bool := decide (a ≤ n) && decide (n ≤ b)
theorem inB_iff (n a b : Int) : inB n a b = true ↔ a ≤ n ∧ n ≤ b := by simp [inB]
theorem inB_no (n a b : Int) : inB n a b = false ↔ ¬ (a ≤ n ∧ n ≤ b) := by rw [← inB_iff]; simp
theorem spec_l00In_val (n a b : Int) : spec_l00In.f n a b = some (inB n a b) := by
  unfold spec_l00In.f inB
  by_cases h : n ≥ a
  · rw [if_pos h]; simp [show a ≤ n from h]
  · rw [if_neg h]; simp; omega
/-- At a place: within bounds, and more than the number before it. -/
def riseAt (l : List Int) (a b : Int) (i : Nat) : Bool := inB (rd l (i : Int)) a b && (decide (i = 0) || decide (rd l ((i : Int) - 1) < rd l (i : Int)))
theorem riseAt_def (l : List Int) (a b : Int) (i : Nat) : riseAt l a b i = (inB (rd l (i : Int)) a b && (decide (i = 0) || decide (rd l ((i : Int) - 1) < rd l (i : Int)))) := rfl
def rises (l : List Int) (a b : Int) : Bool := (List.range l.length).all (riseAt l a b)
theorem rises_iff (l : List Int) (a b : Int) : rises l a b = true ↔ ∀ i : Nat, i < l.length → (a ≤ rd l i ∧ rd l i ≤ b) ∧ (0 < i → rd l ((i : Int) - 1) < rd l i) := by
  unfold rises
  rw [List.all_eq_true]
  constructor
  · intro h i hi
    have := h i (List.mem_range.2 hi)
    rw [riseAt_def, Bool.and_eq_true, inB_iff, Bool.or_eq_true] at this
    refine ⟨this.1, fun h0 => ?_⟩
    rcases this.2 with h2 | h2
    · exact absurd (of_decide_eq_true h2) (by omega)
    · exact of_decide_eq_true h2
  · intro h i hi
    have := h i (List.mem_range.1 hi)
    rw [riseAt_def, Bool.and_eq_true, inB_iff, Bool.or_eq_true]
    refine ⟨this.1, ?_⟩
    by_cases h0 : i = 0
    · left; simp [h0]
    · right; exact decide_eq_true (this.2 (by omega))
theorem spec_l00Rises_val (l : List Int) (a b : Int) (hl : l.length < 4611686018427387904) : spec_l00Rises.F l a b = some (rises l a b) := by
  rw [spec_l00Rises.F_eq]
  refine (allRange l.length (riseAt l a b) (fun i => spec_l00Rises.L0 l a b i) true (fun i hi => ?_) ?_).trans (by rw [Bool.and_true]; rfl)
  · show spec_l00Rises.L0 l a b i = _
    rw [spec_l00Rises.L0_eq, if_pos (by omega), if_pos (by omega), spec_l00In_val, wS (by omega)]
    simp only [Option.bind_some]
    rw [riseAt_def, ite_band]
    by_cases h1 : inB (rd l (i : Int)) a b = true
    · rw [if_pos h1, if_pos h1]
      by_cases h0 : i = 0
      · rw [if_neg (by omega), if_pos (by simp [h0])]
      · rw [if_pos (by omega), w64 (by omega) (by omega), if_pos (by omega), if_pos (by omega)]
        by_cases h2 : rd l ((i : Int) - 1) ≥ rd l (i : Int)
        · rw [if_pos h2, if_neg (by simp [h0]; omega)]
        · rw [if_neg h2, if_pos (by simp [h0]; omega)]
    · rw [if_neg h1, if_neg h1]
  · show spec_l00Rises.L0 l a b _ = _
    rw [spec_l00Rises.L0_eq, if_neg (by omega)]
/-- A valid bolt. -/
def boltOk (b : S79) : Bool := inB b.f0 1 10000 && (decide (b.f1.length ≤ 6) && rises b.f1 1 (b.f0 - 1))
theorem boltOk_def (b : S79) : boltOk b = (inB b.f0 1 10000 && (decide (b.f1.length ≤ 6) && rises b.f1 1 (b.f0 - 1))) := rfl
def boltsOk (l : List S79) : Bool := l.all boltOk && decide (l.length ≤ 4)
theorem boltsOk_iff (l : List S79) : boltsOk l = true ↔ (∀ b ∈ l, boltOk b = true) ∧ l.length ≤ 4 := by
  unfold boltsOk
  rw [Bool.and_eq_true, List.all_eq_true, decide_eq_true_iff]
theorem boltOk_vals {b : S79} (h : boltOk b = true) : 1 ≤ b.f0 ∧ b.f0 ≤ 10000 ∧ b.f1.length ≤ 6 ∧ ∀ i : Nat, i < b.f1.length → (1 ≤ rd b.f1 i ∧ rd b.f1 i ≤ b.f0 - 1) ∧ (0 < i → rd b.f1 ((i : Int) - 1) < rd b.f1 i) := by
  rw [boltOk_def, Bool.and_eq_true, Bool.and_eq_true, inB_iff, decide_eq_true_iff, rises_iff] at h
  exact ⟨h.1.1, h.1.2, h.2.1, h.2.2⟩
theorem spec_l16One_val (b : S79) (hb : b.f1.length < 4611686018427387904) : spec_l16One.F [b] = some (boltOk b) := by
  have e : rd_T79 [b] 0 = b := rfl
  rw [spec_l16One.F_eq, e, if_pos (by simp), spec_l00In_val]
  simp only [Option.bind_some]
  rw [boltOk_def]
  cases h1 : inB b.f0 1 10000 with
  | false => rw [if_neg nf]; rfl
  | true =>
    rw [if_pos rfl]
    rw [inB_iff] at h1
    by_cases h2 : (b.f1.length : Int) ≤ 6
    · rw [if_pos h2, decide_eq_true (by omega), w64 (by omega) (by omega), spec_l00Rises_val _ _ _ hb]
      simp
    · rw [if_neg h2, decide_eq_false (by omega)]
      rfl
theorem impl_within_val (n a b : Int) : impl_within.f n a b = some (inB n a b) := by
  unfold impl_within.f inB
  by_cases h : n ≥ a
  · rw [if_pos h]; simp [show a ≤ n from h]
  · rw [if_neg h]; simp; omega
theorem impl_validBolt_val (x : Int) (l : List Int) (hl : l.length < 4611686018427387904) : impl_validBolt.F x l = some (boltOk ⟨x, l⟩) := by
  rw [impl_validBolt.F_eq, impl_within_val]
  simp only [Option.bind_some]
  rw [boltOk_def]
  show _ = some (inB x 1 10000 && (decide (l.length ≤ 6) && rises l 1 (x - 1)))
  cases h1 : inB x 1 10000 with
  | false => rw [if_neg nf, impl_validBolt.J0_eq, if_pos rfl]; rfl
  | true =>
    rw [if_pos rfl]
    rw [inB_iff] at h1
    by_cases h2 : (l.length : Int) > 6
    · rw [decide_eq_true h2, impl_validBolt.J0_eq, if_pos rfl, decide_eq_false (by omega)]
      rfl
    · rw [decide_eq_false h2, impl_validBolt.J0_eq, if_neg nf, decide_eq_true (by omega)]
      refine (allRange l.length (riseAt l 1 (x - 1)) (fun i => impl_validBolt.L0 l (l.length : Int) i x l) true (fun i hi => ?_) ?_).trans (by simp [rises])
      · show impl_validBolt.L0 _ _ i _ _ = _
        rw [impl_validBolt.L0_eq, if_pos (by omega), if_pos (by omega), if_pos (by omega), w64 (n := x - 1) (by omega) (by omega), impl_within_val, wS (by omega)]
        simp only [Option.bind_some]
        rw [riseAt_def, ite_band]
        by_cases h3 : inB (rd l (i : Int)) 1 (x - 1) = true
        · rw [if_pos h3, if_pos h3]
          by_cases h0 : i = 0
          · rw [if_neg (by omega), if_pos (by simp [h0])]
          · rw [if_pos (by omega), w64 (by omega) (by omega), if_pos (by omega), if_pos (by omega)]
            by_cases h4 : rd l (i : Int) ≤ rd l ((i : Int) - 1)
            · rw [if_pos h4, if_neg (by simp [h0]; omega)]
            · rw [if_neg h4, if_pos (by simp [h0]; omega)]
        · rw [if_neg h3, if_neg h3]
      · show impl_validBolt.L0 _ _ _ _ _ = _
        rw [impl_validBolt.L0_eq, if_neg (by omega)]
/-- A number put in at a place. -/
def insAt (l : List Int) (p : Nat) (a : Int) : List Int := l.take p ++ a :: l.drop p
theorem insAt_len (l : List Int) (p : Nat) (a : Int) (hp : p ≤ l.length) : (insAt l p a).length = l.length + 1 := by
  unfold insAt; simp; omega
theorem insAt_get (l : List Int) (p : Nat) (a : Int) (i : Nat) (hp : p ≤ l.length) : (insAt l p a)[i]? = if i < p then l[i]? else if i = p then some a else l[i - 1]? := by
  have hl : (l.take p).length = p := by rw [List.length_take]; omega
  unfold insAt
  rw [List.getElem?_append, hl]
  by_cases h : i < p
  · rw [if_pos h, if_pos h, List.getElem?_take_of_lt h]
  · rw [if_neg h, if_neg h]
    by_cases h2 : i = p
    · subst h2; simp
    · rw [if_neg h2, List.getElem?_cons, if_neg (by omega), List.getElem?_drop]
      congr 1; omega
theorem rd_opt (l : List Int) (i : Nat) : rd l (i : Int) = (l[i]?).getD 0 := by simp [rd, List.getD]
theorem rd_ins (l : List Int) (p : Nat) (a : Int) (i : Nat) (hp : p ≤ l.length) : rd (insAt l p a) (i : Int) = if i < p then rd l (i : Int) else if i = p then a else rd l ((i - 1 : Nat) : Int) := by
  rw [rd_opt, insAt_get l p a i hp]
  by_cases h : i < p
  · rw [if_pos h, if_pos h, rd_opt]
  · rw [if_neg h, if_neg h]
    by_cases h2 : i = p
    · rw [if_pos h2, if_pos h2]; rfl
    · rw [if_neg h2, if_neg h2, rd_opt]
theorem insAt_swap (l : List Int) (p : Nat) (a : Int) (hp : p + 1 ≤ l.length) : ((insAt l (p + 1) a).set (p + 1) (rd l (p : Int))).set p a = insAt l p a := by
  apply List.ext_getElem?
  intro i
  have h1 : (insAt l (p + 1) a).length = l.length + 1 := insAt_len l (p + 1) a hp
  rw [List.getElem?_set, List.getElem?_set, insAt_get l (p + 1) a i hp, insAt_get l p a i (by omega), List.length_set, h1]
  by_cases h2 : p = i
  · subst h2
    rw [if_pos rfl, if_pos (by omega), if_neg (by omega), if_pos rfl]
  · rw [if_neg h2]
    by_cases h3 : p + 1 = i
    · subst h3
      rw [if_pos rfl, if_pos (by omega), if_neg (by omega), if_neg (by omega), rd_opt, Nat.add_sub_cancel, List.getElem?_eq_getElem (by omega)]; rfl
    · rw [if_neg h3]
      by_cases h4 : i < p
      · rw [if_pos (by omega), if_pos h4]
      · rw [if_neg (by omega), if_neg (by omega), if_neg h4, if_neg (by omega)]
/-- Where a number belongs among rising ones. -/
def placeOf (l : List Int) (a : Int) : Nat := l.findIdx (fun x => decide (a ≤ x))
theorem placeOf_le (l : List Int) (a : Int) : placeOf l a ≤ l.length := List.findIdx_le_length
theorem placeOf_lt (l : List Int) (a : Int) (i : Nat) (h : i < placeOf l a) : rd l (i : Int) < a := by
  have hl : i < l.length := Nat.lt_of_lt_of_le h (placeOf_le l a)
  have := List.not_of_lt_findIdx h
  rw [rd_get l i hl]
  simpa using this
theorem placeOf_ge (l : List Int) (a : Int) (h : placeOf l a < l.length) : a ≤ rd l ((placeOf l a : Nat) : Int) := by
  have := List.findIdx_getElem (w := h)
  rw [rd_get l _ h]
  unfold placeOf
  simpa using this
theorem placeOf_gt (l : List Int) (a : Int) (ha : a ∉ l) (hs : ∀ i : Nat, i < l.length → 0 < i → rd l ((i : Int) - 1) < rd l i) (i : Nat) (h1 : placeOf l a ≤ i) (h2 : i < l.length) : a < rd l (i : Int) := by
  obtain ⟨d, rfl⟩ : ∃ d, i = placeOf l a + d := ⟨i - placeOf l a, by omega⟩
  induction d with
  | zero =>
    have h3 := placeOf_ge l a h2
    have h4 : rd l ((placeOf l a + 0 : Nat) : Int) ∈ l := by rw [rd_get l _ h2]; exact List.getElem_mem h2
    by_cases h5 : a = rd l ((placeOf l a + 0 : Nat) : Int)
    · rw [← h5] at h4; exact absurd h4 ha
    · simp only [Nat.add_zero] at h5 ⊢
      omega
  | succ d ih =>
    have h3 := ih (by omega) (by omega)
    have h4 := hs (placeOf l a + (d + 1)) h2 (by omega)
    rw [show ((placeOf l a + (d + 1) : Nat) : Int) - 1 = ((placeOf l a + d : Nat) : Int) by omega] at h4
    omega
theorem spec_l00Put_val (l : List Int) (a : Int) (ha : a ∉ l) (hl : l.length ≤ 6) (hs : ∀ i : Nat, i < l.length → 0 < i → rd l ((i : Int) - 1) < rd l i) : spec_l00Put.F l a = some (insAt l (placeOf l a) a) := by
  rw [spec_l00Put.F_eq]
  have hj := placeOf_le l a
  have hlt := placeOf_lt l a
  have hgt := placeOf_gt l a ha hs
  generalize placeOf l a = j at *
  have := iterF (fun (s : List Int × Bool) i => spec_l00Put.L0 l a s.1 s.2 i) l.length (fun k => if k ≤ j then (l.take k, false) else (l.take j ++ a :: (l.take k).drop j, true)) (fun k hk => by
    have e1 : l.take (k + 1) = l.take k ++ [rd l (k : Int)] := by rw [rd_get l k hk, List.take_succ_eq_append_getElem hk]
    have hlk : (l.take k).length = k := by rw [List.length_take]; omega
    by_cases h1 : k < j
    · rw [if_pos (show k ≤ j by omega), if_pos (show k + 1 ≤ j by omega)]
      show spec_l00Put.L0 l a (l.take k) false _ = spec_l00Put.L0 l a (l.take (k + 1)) false _
      have := hlt k h1
      rw [spec_l00Put.L0_eq, if_pos (by omega), if_neg nf, if_pos (by omega), decide_eq_false (by omega), spec_l00Put.J1_eq, if_neg nf, if_pos (by omega), if_pos (by omega), if_pos (by omega), wS (by omega), e1]
    · have h2 := hgt k (by omega) hk
      rw [if_neg (show ¬ k + 1 ≤ j by omega)]
      by_cases h3 : k = j
      · subst h3
        rw [if_pos (Nat.le_refl _)]
        show spec_l00Put.L0 l a (l.take k) false _ = spec_l00Put.L0 l a (l.take k ++ a :: (l.take (k + 1)).drop k) true _
        rw [spec_l00Put.L0_eq, if_pos (by omega), if_neg nf, if_pos (by omega), decide_eq_true (by omega), spec_l00Put.J1_eq, if_pos rfl, if_pos (by omega), if_pos (by omega), if_pos (by omega), if_pos (by omega)]
        simp only [Option.bind_some]
        rw [if_pos (by rw [List.length_append, hlk]; simp; omega), wS (by omega), e1, List.drop_append_of_le_length (by omega), List.drop_of_length_le (by omega)]
        simp
      · rw [if_neg (show ¬ k ≤ j by omega)]
        show spec_l00Put.L0 l a (l.take j ++ a :: (l.take k).drop j) true _ = spec_l00Put.L0 l a (l.take j ++ a :: (l.take (k + 1)).drop j) true _
        rw [spec_l00Put.L0_eq, if_pos (by omega), if_pos rfl, spec_l00Put.J1_eq, if_neg nf, if_pos (by omega), if_pos (by omega), if_pos (by simp; omega), wS (by omega), e1, List.drop_append_of_le_length (by omega)]
        simp)
  simp only [Nat.zero_le, if_true, List.take_zero] at this
  refine this.trans ?_
  by_cases h : l.length ≤ j
  · obtain rfl : l.length = j := by omega
    simp only [Nat.le_refl, if_true]
    rw [spec_l00Put.L0_eq, if_neg (by omega), if_neg nf, if_pos (by simp; omega)]
    unfold insAt; simp
  · simp only [h, if_false]
    rw [spec_l00Put.L0_eq, if_neg (by omega), if_pos rfl]
    unfold insAt; simp
theorem cmp_Less_val (x y : Int) : cmp_Less_int64.f x y = some (decide (x < y)) := by
  simp [cmp_Less_int64.f, cmp_isNaN_int64.f]
theorem insertion_val (l : List Int) (a : Int) (ha : a ∉ l) (hl : l.length ≤ 6) (hs : ∀ i : Nat, i < l.length → 0 < i → rd l ((i : Int) - 1) < rd l i) : slices_insertionSortOrdered_int64.F (l ++ [a]) 0 ((l.length + 1 : Nat) : Int) = some (insAt l (placeOf l a) a) := by
  rw [slices_insertionSortOrdered_int64.F_eq, w64 (by omega) (by omega)]
  have hj := placeOf_le l a
  have hlt := placeOf_lt l a
  have hgt := placeOf_gt l a ha hs
  generalize placeOf l a = j at *
  have e0 : l ++ [a] = insAt l l.length a := by unfold insAt; simp
  rw [e0]
  -- the last number goes down to its place
  have down : ∀ d p, p = j + d → p ≤ l.length → slices_insertionSortOrdered_int64.L1 (insAt l p a) 0 ((l.length + 1 : Nat) : Int) (l.length : Int) (p : Int) = some (insAt l j a) := by
    intro d
    induction d with
    | zero =>
      intro p hp hpl
      obtain rfl : p = j := by omega
      have hL0 : slices_insertionSortOrdered_int64.L0 (insAt l p a) 0 ((l.length + 1 : Nat) : Int) (wrap64 ((l.length : Int) + 1)) = some (insAt l p a) := by
        rw [wS (by omega), slices_insertionSortOrdered_int64.L0_eq, if_neg (by omega)]
      rw [slices_insertionSortOrdered_int64.L1_eq]
      by_cases h0 : p = 0
      · subst h0; rw [if_neg (by omega), hL0]
      · have := hlt (p - 1) (by omega)
        rw [if_pos (by omega), if_pos (by omega), if_pos (by rw [insAt_len l p a hpl]; omega), w64 (by omega) (by omega), if_pos (by omega), if_pos (by rw [insAt_len l p a hpl]; omega), show (p : Int) - 1 = ((p - 1 : Nat) : Int) by omega, rd_ins l p a p hpl, rd_ins l p a (p - 1) hpl, if_neg (by omega), if_pos rfl, if_pos (by omega), cmp_Less_val]
        simp only [Option.bind_some]
        rw [if_neg (by rw [decide_eq_true_eq]; omega), hL0]
    | succ d ih =>
      intro p hp hpl
      obtain ⟨q, rfl⟩ : ∃ q, p = q + 1 := ⟨p - 1, by omega⟩
      have := hgt q (by omega) (by omega)
      rw [slices_insertionSortOrdered_int64.L1_eq, if_pos (by omega), if_pos (by omega), if_pos (by rw [insAt_len l _ a hpl]; omega), w64 (by omega) (by omega), if_pos (by omega), if_pos (by rw [insAt_len l _ a hpl]; omega), show ((q + 1 : Nat) : Int) - 1 = (q : Int) by omega, rd_ins l (q + 1) a (q + 1) hpl, rd_ins l (q + 1) a q hpl, if_neg (by omega), if_pos rfl, if_pos (by omega), cmp_Less_val]
      simp only [Option.bind_some]
      rw [if_pos (by rw [decide_eq_true_eq]; omega), Int.toNat_natCast, Int.toNat_natCast, insAt_swap l q a hpl]
      exact ih q (by omega) (by omega)
  have up : ∀ d i, i + d = l.length → 1 ≤ i → slices_insertionSortOrdered_int64.L0 (insAt l l.length a) 0 ((l.length + 1 : Nat) : Int) (i : Int) = some (insAt l j a) := by
    intro d
    induction d with
    | zero =>
      intro i hi h1
      obtain rfl : i = l.length := by omega
      rw [slices_insertionSortOrdered_int64.L0_eq, if_pos (by omega)]
      exact down (l.length - j) l.length (by omega) (Nat.le_refl _)
    | succ d ih =>
      intro i hi h1
      have := hs i (by omega) (by omega)
      have hn := insAt_len l l.length a (Nat.le_refl _)
      rw [slices_insertionSortOrdered_int64.L0_eq, if_pos (by omega), slices_insertionSortOrdered_int64.L1_eq, if_pos (by omega), if_pos (by omega), if_pos (by omega), w64 (n := (i : Int) - 1) (by omega) (by omega), if_pos (by omega), if_pos (by omega), rd_ins l _ a i (Nat.le_refl _), if_pos (by omega), show (i : Int) - 1 = ((i - 1 : Nat) : Int) by omega, rd_ins l _ a (i - 1) (Nat.le_refl _), if_pos (by omega), cmp_Less_val]
      simp only [Option.bind_some]
      rw [if_neg (by rw [decide_eq_true_eq, show ((i - 1 : Nat) : Int) = (i : Int) - 1 by omega]; omega), wS (by omega)]
      exact ih (i + 1) (by omega) (by omega)
  by_cases h0 : l.length = 0
  · have hj0 : j = 0 := by omega
    rw [slices_insertionSortOrdered_int64.L0_eq, if_neg (by omega), h0, hj0]
  · exact up (l.length - 1) 1 (by omega) (Nat.le_refl _)
theorem sort_val (l : List Int) (a : Int) (ha : a ∉ l) (hl : l.length ≤ 5) (hs : ∀ i : Nat, i < l.length → 0 < i → rd l ((i : Int) - 1) < rd l i) : slices_Sort_int64_int64.F (l ++ [a]) = some (insAt l (placeOf l a) a) := by
  have hn : (l ++ [a]).length = l.length + 1 := by simp
  obtain ⟨t, ht⟩ : ∃ t, bits_Len.f (IntKind.u64.wrap (((l ++ [a]).length : Nat) : Int)) = some t := by
    rw [hn]
    generalize l.length = n at hl
    have : n = 0 ∨ n = 1 ∨ n = 2 ∨ n = 3 ∨ n = 4 ∨ n = 5 := by omega
    rcases this with rfl | rfl | rfl | rfl | rfl | rfl <;> exact ⟨_, rfl⟩
  rw [slices_Sort_int64_int64.F_eq, ht]
  simp only [Option.bind_some]
  rw [hn, slices_pdqsortOrdered_int64.F_eq, slices_pdqsortOrdered_int64.L0_eq, w64 (by omega) (by omega), if_pos (by omega), insertion_val l a ha (by omega) hs]
  rfl
/-- A loop that ends with one answer at the first element that is as it should be, with another one behind the last. -/
theorem anyTo {α β : Type} (l : List α) (p : α → Bool) (g : Int → β) (yes r : β) (h : ∀ i (hi : i < l.length), g (i : Int) = if p l[i] = true then yes else g ((i + 1 : Nat) : Int)) (he : g (l.length : Int) = r) : g 0 = if l.any p = true then yes else r := by
  have key : ∀ (d i : Nat), l.length - i = d → i ≤ l.length → g (i : Int) = if (l.drop i).any p = true then yes else r := by
    intro d
    induction d with
    | zero =>
      intro i hd hi
      obtain rfl : i = l.length := by omega
      rw [he]; simp
    | succ d ih =>
      intro i hd hi
      have hlt : i < l.length := by omega
      rw [h i hlt, ih (i + 1) (by omega) (by omega), List.drop_eq_getElem_cons hlt, List.any_cons]
      by_cases hp : p l[i] = true
      · rw [if_pos hp, if_pos (by simp [hp])]
      · rw [if_neg hp]; simp [hp]
  have := key l.length 0 (by omega) (by omega)
  simpa using this
theorem has_val (l : List Int) (a : Int) (hl : l.length ≤ 1048576) : spec_l00Has.F l a = some (decide (a ∈ l)) := by
  rw [spec_l00Has.F_eq]
  have := anyTo l (fun x => decide (x = a)) (fun i => spec_l00Has.L0 l a i) (some true) (some false) (fun i hi => by
    show spec_l00Has.L0 l a _ = if _ then _ else spec_l00Has.L0 l a _
    rw [spec_l00Has.L0_eq, if_pos (by omega), if_pos (by omega), rd_get l i hi, wS (by omega)]
    simp) (by
    show spec_l00Has.L0 l a _ = _
    rw [spec_l00Has.L0_eq, if_neg (by omega)])
  refine Eq.trans this ?_
  by_cases h : a ∈ l
  · rw [if_pos (by simpa using h), decide_eq_true h]
  · rw [if_neg (by simpa using h), decide_eq_false h]
theorem contains_val (l : List Int) (a : Int) (hl : l.length ≤ 1048576) : slices_Contains_int64_int64.F l a = some (decide (a ∈ l)) := by
  rw [slices_Contains_int64_int64.F_eq, slices_Index_int64_int64.F_eq]
  have := anyTo l (fun x => decide (x = a)) (fun i => (slices_Index_int64_int64.L0 l a (l.length : Int) i).bind fun t => some (decide (t ≥ 0))) (some true) (some false) (fun i hi => by
    show Option.bind (slices_Index_int64_int64.L0 l a _ _) _ = if _ then _ else Option.bind (slices_Index_int64_int64.L0 l a _ _) _
    rw [slices_Index_int64_int64.L0_eq, if_pos (by omega), if_pos (by omega), if_pos (by omega), rd_get l i hi, wS (by omega)]
    by_cases h : l[i] = a
    · rw [if_pos h.symm, if_pos (by simpa using h)]
      simp
    · rw [if_neg (fun z => h z.symm), if_neg (by simpa using h)]) (by
    show Option.bind (slices_Index_int64_int64.L0 l a _ _) _ = _
    rw [slices_Index_int64_int64.L0_eq, if_neg (by omega)]
    rfl)
  refine Eq.trans this ?_
  by_cases h : a ∈ l
  · rw [if_pos (by simpa using h), decide_eq_true h]
  · rw [if_neg (by simpa using h), decide_eq_false h]
theorem pure_FnExactMarkFlaw : laws_FnExactMarkFlaw.Pure := by
  intro x l a hx hl ha
  refine of_lim (g := fun k => laws_FnExactMarkFlaw.f k x l a) ?_
  show laws_FnExactMarkFlaw.F x l a = some true
  obtain ⟨r, hr, h⟩ := laws_szBolt_val x l 1048576 hl.1 (by omega) (by omega)
  rcases h with h | ⟨h1, h2, h3⟩
  · rw [laws_FnExactMarkFlaw.F_eq, hr]; simp only [Option.bind_some]; rw [if_pos h]
  · have n2 : ¬ r < 0 := by omega
    have e3 := laws_toBolt_val x l (by omega)
    have e4 := laws_eqBolt_val x l (by omega)
    have e5 := laws_markBolt_val x l 1 (by omega) (by omega)
    obtain ⟨y, z, c, e1, e2, hz⟩ : ∃ y z c, spec_MarkFlaw.F x l a = some (y, z, c) ∧ impl_MarkFlaw.F x l a = some (y, z, c) ∧ z.length ≤ 7 := by
      rw [spec_MarkFlaw.F_eq, impl_MarkFlaw.F_eq, spec_l16One_val _ (show l.length < 4611686018427387904 by omega), impl_validBolt_val x l (by omega)]
      simp only [Option.bind_some]
      by_cases hb : boltOk ⟨x, l⟩ = true
      · have hv := boltOk_vals hb
        obtain ⟨v1, v2, v3, v4⟩ := hv
        replace v1 : 1 ≤ x := v1
        replace v2 : x ≤ 10000 := v2
        replace v3 : l.length ≤ 6 := v3
        rw [if_pos hb, if_pos hb, w64 (n := x - 1) (by omega) (by omega), spec_l00In_val, impl_within_val]
        simp only [Option.bind_some]
        by_cases hq : inB a 1 (x - 1) = true
        · rw [if_pos hq, if_pos hq, has_val l a (by omega), contains_val l a (by omega)]
          simp only [Option.bind_some]
          by_cases hm : a ∈ l
          · rw [if_pos (decide_eq_true hm), if_pos (decide_eq_true hm)]
            exact ⟨_, _, _, rfl, rfl, by simp⟩
          · rw [if_neg (show ¬ decide (a ∈ l) = true by simpa using hm), if_neg (show ¬ decide (a ∈ l) = true by simpa using hm)]
            by_cases h6 : l.length = 6
            · rw [if_pos (by omega), if_pos (by omega)]
              exact ⟨_, _, _, rfl, rfl, by simp⟩
            · rw [if_neg (by omega), if_neg (by omega)]
              unfold spec_l00Own.f
              simp only [Option.bind_some, List.nil_append, List.length_nil, Nat.zero_add, List.length_cons]
              rw [if_pos (by omega), if_pos (by omega), if_pos (by omega)]
              simp only [Option.bind_some]
              rw [spec_l00Put_val l a hm (by omega) (fun i hi h0 => (v4 i hi).2 h0), sort_val l a hm (by omega) (fun i hi h0 => (v4 i hi).2 h0)]
              simp only [Option.bind_some]
              exact ⟨_, _, _, rfl, rfl, by rw [insAt_len l _ a (placeOf_le l a)]; omega⟩
        · rw [if_neg hq, if_neg hq]
          exact ⟨_, _, _, rfl, rfl, by simp⟩
      · rw [if_neg hb, if_neg hb]
        exact ⟨_, _, _, rfl, rfl, by simp⟩
    have e6 := laws_eqBolt_val y z (by omega)
    have e7 := laws_markBolt_val y z 1 (by omega) (by omega)
    have e8 := laws_heldBolt_val y z.length 1 (by omega) (by omega)
    have n3 : ¬ (1 + (l.length : Int) < 0) := by omega
    have n4 : ¬ (1 + (z.length : Int) < 0) := by omega
    simp [laws_FnExactMarkFlaw.F_eq, laws_FnExactMarkFlaw.J0_eq, laws_FnExactMarkFlaw.J1_eq, laws_FnExactMarkFlaw.J2_eq, hr, n2, e3, e4, e5, e1, e2, n3, e6, e7, e8, n4]
end Go.Proofs.Ytbhijlhlopljmaa.PFnExactMarkFlaw
namespace Go.Proofs.Ytbhijlhlopljmaa.Pure
theorem FnExactMarkFlaw : PFnExactMarkFlaw.laws_FnExactMarkFlaw.Pure := PFnExactMarkFlaw.pure_FnExactMarkFlaw
end Go.Proofs.Ytbhijlhlopljmaa.Pure
