/-
  The pure side of FnExactReefText: the program's ReefText gives what the reference's gives. No conditions.
-/
import Derived.Test.YtbhijlhlopljmaaDoorQFnExactReefText
set_option linter.unusedVariables false
set_option linter.unusedSimpArgs false
set_option linter.unnecessarySimpa false
namespace Go.Proofs.YtbhijlhlopljmaaDoor.PFnExactReefText
open Go.RowKit Go.Proofs.YtbhijlhlopljmaaDoor.Kit Go.Proofs.YtbhijlhlopljmaaDoorW.PrintWords Go.Proofs.YtbhijlhlopljmaaDoorW.PrintLast Go.Proofs.YtbhijlhlopljmaaDoorW.PrintMore

theorem laws_szInt64S_val (l : List Int) (n : Int) (h : l.length ≤ 9223372036854775807) (hn : 0 ≤ n) (hn2 : n ≤ 1048576) : ∃ r, laws_szInt64S.f l n = some r ∧ (r < 0 ∨ 0 ≤ r ∧ r ≤ n ∧ (l.length : Int) ≤ n) := by
  unfold laws_szInt64S.f
  rw [w64 (by omega) (by omega)]
  by_cases hc : n < l.length
  · exact ⟨-1, by rw [if_pos (by omega)], Or.inl (by omega)⟩
  · exact ⟨n - l.length, by rw [if_neg (by omega)], Or.inr (by omega)⟩
theorem laws_szReefing_val (a b : List Int) (n : Int) (ha : a.length ≤ 9223372036854775807) (hb : b.length ≤ 9223372036854775807) (hn : 0 ≤ n) (hn2 : n ≤ 1048576) : ∃ r, laws_szReefing.f a b n = some r ∧ (r < 0 ∨ 0 ≤ r ∧ r ≤ n ∧ (a.length : Int) ≤ n ∧ (b.length : Int) ≤ n) := by
  unfold laws_szReefing.f
  obtain ⟨r, hr, h1⟩ := laws_szInt64S_val a n ha hn hn2
  rw [hr]; simp only [Option.bind_some]
  rcases h1 with h1 | ⟨h1, h2, h3⟩
  · exact ⟨-1, by rw [if_pos h1], Or.inl (by omega)⟩
  · rw [if_neg (by omega)]
    obtain ⟨q, hq, h4⟩ := laws_szInt64S_val b r hb h1 (by omega)
    rw [hq]; simp only [Option.bind_some]
    rcases h4 with h4 | h4
    · exact ⟨-1, by rw [if_pos h4], Or.inl (by omega)⟩
    · exact ⟨q, by rw [if_neg (by omega)], Or.inr (by omega)⟩
theorem laws_toInt64S_val (l : List Int) (hl : l.length ≤ 1048576) : laws_toInt64S.F l = some l := by
  rw [laws_toInt64S.F_eq, if_pos (by omega), if_pos (by omega), Int.toNat_natCast]
  have := fillLoop l 0 (fun s i => laws_toInt64S.L0 l s i) (fun i s hi hs => by
    show laws_toInt64S.L0 l s i = _
    rw [laws_toInt64S.L0_eq, if_pos (by omega), if_pos (by omega), wS (by omega), if_pos (by omega), Int.toNat_natCast, rd_get l i hi])
  refine this.trans ?_
  show laws_toInt64S.L0 l _ _ = _
  rw [laws_toInt64S.L0_eq, if_neg (by omega)]
theorem laws_toReefing_val (a b : List Int) (ha : a.length ≤ 1048576) (hb : b.length ≤ 1048576) : laws_toReefing.F a b = some (a, b) := by
  rw [laws_toReefing.F_eq, laws_toInt64S_val a ha, laws_toInt64S_val b hb]; rfl
theorem laws_eqInt64S_val (l : List Int) (hl : l.length < 4611686018427387904) : laws_eqInt64S.F l l = some true := by
  rw [laws_eqInt64S.F_eq, if_pos rfl]
  have := allLoop l (fun _ => true) (fun i => laws_eqInt64S.L0 l l i) true (fun i hi => by
    show laws_eqInt64S.L0 l l i = _
    rw [laws_eqInt64S.L0_eq, if_pos (by omega), if_pos (by omega), if_pos (by omega), wS (by omega)]
    simp) (by
    show laws_eqInt64S.L0 l l _ = _
    rw [laws_eqInt64S.L0_eq, if_neg (by omega)])
  rw [this]; simp
theorem laws_eqReefing_val (a b : List Int) (ha : a.length ≤ 1048576) (hb : b.length ≤ 1048576) : laws_eqReefing.F a b a b = some true := by
  rw [laws_eqReefing.F_eq, laws_eqInt64S_val a (by omega)]
  simp only [Option.bind_some]
  rw [laws_eqInt64S_val b (by omega)]
  rfl
/-- What the laws do with a reefing that came in. -/
theorem reef_args (a b : List Int) (ha : a.length ≤ 9223372036854775807) (hb : b.length ≤ 9223372036854775807) : ∃ r, laws_szReefing.f a b 1048576 = some r ∧ (r < 0 ∨ ¬ r < 0 ∧ a.length ≤ 1048576 ∧ b.length ≤ 1048576 ∧ laws_toReefing.F a b = some (a, b) ∧ laws_eqReefing.F a b a b = some true) := by
  obtain ⟨r, hr, h⟩ := laws_szReefing_val a b 1048576 ha hb (by omega) (by omega)
  refine ⟨r, hr, ?_⟩
  rcases h with h | ⟨h1, h2, h3, h4⟩
  · exact Or.inl h
  · exact Or.inr ⟨by omega, by omega, by omega, laws_toReefing_val a b (by omega) (by omega), laws_eqReefing_val a b (by omega) (by omega)⟩
def inB (n a b : Int) : Bool := decide (a ≤ n) && decide (n ≤ b)
theorem inB_iff (n a b : Int) : inB n a b = true ↔ a ≤ n ∧ n ≤ b := by simp [inB]
theorem inB_no (n a b : Int) : inB n a b = false ↔ ¬ (a ≤ n ∧ n ≤ b) := by rw [← inB_iff]; simp
theorem spec_l00In_val (n a b : Int) : spec_l00In.f n a b = some (inB n a b) := by
  unfold spec_l00In.f inB
  by_cases h : n ≥ a
  · rw [if_pos h]; simp [show a ≤ n from h]
  · rw [if_neg h]; simp; omega
/-- At a place: within bounds, and more than the number before it. -/
def riseAt (l : List Int) (a b : Int) (i : Nat) : Bool := inB (rd l (i : Int)) a b && (decide (i = 0) || decide (rd l ((i : Int) - 1) < rd l (i : Int)))
theorem riseAt_def (l : List Int) (a b : Int) (i : Nat) : riseAt l a b i = (inB (rd l (i : Int)) a b && (decide (i = 0) || decide (rd l ((i : Int) - 1) < rd l (i : Int)))) := rfl
def rises (l : List Int) (a b : Int) : Bool := (List.range l.length).all (riseAt l a b)
theorem rises_iff (l : List Int) (a b : Int) : rises l a b = true ↔ ∀ i : Nat, i < l.length → (a ≤ rd l i ∧ rd l i ≤ b) ∧ (0 < i → rd l ((i : Int) - 1) < rd l i) := by
  unfold rises
  rw [List.all_eq_true]
  constructor
  · intro h i hi
    have := h i (List.mem_range.2 hi)
    rw [riseAt_def, Bool.and_eq_true, inB_iff, Bool.or_eq_true] at this
    refine ⟨this.1, fun h0 => ?_⟩
    rcases this.2 with h2 | h2
    · exact absurd (of_decide_eq_true h2) (by omega)
    · exact of_decide_eq_true h2
  · intro h i hi
    have := h i (List.mem_range.1 hi)
    rw [riseAt_def, Bool.and_eq_true, inB_iff, Bool.or_eq_true]
    refine ⟨this.1, ?_⟩
    by_cases h0 : i = 0
    · left; simp [h0]
    · right; exact decide_eq_true (this.2 (by omega))
theorem spec_l00Rises_val (l : List Int) (a b : Int) (hl : l.length < 4611686018427387904) : spec_l00Rises.F l a b = some (rises l a b) := by
  rw [spec_l00Rises.F_eq]
  refine (allRange l.length (riseAt l a b) (fun i => spec_l00Rises.L0 l a b i) true (fun i hi => ?_) ?_).trans (by rw [Bool.and_true]; rfl)
  · show spec_l00Rises.L0 l a b i = _
    rw [spec_l00Rises.L0_eq, if_pos (by omega), if_pos (by omega), spec_l00In_val, wS (by omega)]
    simp only [Option.bind_some]
    rw [riseAt_def, ite_band]
    by_cases h1 : inB (rd l (i : Int)) a b = true
    · rw [if_pos h1, if_pos h1]
      by_cases h0 : i = 0
      · rw [if_neg (by omega), if_pos (by simp [h0])]
      · rw [if_pos (by omega), w64 (by omega) (by omega), if_pos (by omega), if_pos (by omega)]
        by_cases h2 : rd l ((i : Int) - 1) ≥ rd l (i : Int)
        · rw [if_pos h2, if_neg (by simp [h0]; omega)]
        · rw [if_neg h2, if_pos (by simp [h0]; omega)]
    · rw [if_neg h1, if_neg h1]
  · show spec_l00Rises.L0 l a b _ = _
    rw [spec_l00Rises.L0_eq, if_neg (by omega)]
/-- A valid reefing. -/
def refAt (a b : List Int) (i : Nat) : Bool := inB (rd a (i : Int)) 1 600 && (inB (rd b (i : Int)) 0 (rd a (i : Int)) && (decide (i = 0) || (decide (rd a ((i : Int) - 1) < rd a (i : Int)) && decide (rd b ((i : Int) - 1) < rd b (i : Int)))))
theorem refAt_def (a b : List Int) (i : Nat) : refAt a b i = (inB (rd a (i : Int)) 1 600 && (inB (rd b (i : Int)) 0 (rd a (i : Int)) && (decide (i = 0) || (decide (rd a ((i : Int) - 1) < rd a (i : Int)) && decide (rd b ((i : Int) - 1) < rd b (i : Int)))))) := rfl
def refOk (a b : List Int) : Bool := decide (a.length ≤ 6) && (decide (b.length = a.length) && (List.range a.length).all (refAt a b))
theorem refOk_iff (a b : List Int) : refOk a b = true ↔ a.length ≤ 6 ∧ b.length = a.length ∧ ∀ i : Nat, i < a.length → (1 ≤ rd a i ∧ rd a i ≤ 600) ∧ (0 ≤ rd b i ∧ rd b i ≤ rd a i) ∧ (0 < i → rd a ((i : Int) - 1) < rd a i ∧ rd b ((i : Int) - 1) < rd b i) := by
  unfold refOk
  rw [Bool.and_eq_true, Bool.and_eq_true, decide_eq_true_iff, decide_eq_true_iff, List.all_eq_true]
  refine and_congr Iff.rfl (and_congr Iff.rfl ⟨fun h i hi => ?_, fun h i hi => ?_⟩)
  · have := h i (List.mem_range.2 hi)
    rw [refAt_def, Bool.and_eq_true, inB_iff, Bool.and_eq_true, inB_iff, Bool.or_eq_true] at this
    refine ⟨this.1, this.2.1, fun h0 => ?_⟩
    rcases this.2.2 with h2 | h2
    · exact absurd (of_decide_eq_true h2) (by omega)
    · simpa using h2
  · have := h i (List.mem_range.1 hi)
    rw [refAt_def, Bool.and_eq_true, inB_iff, Bool.and_eq_true, inB_iff, Bool.or_eq_true]
    refine ⟨this.1, this.2.1, ?_⟩
    by_cases h0 : i = 0
    · left; simp [h0]
    · right; simpa using this.2.2 (by omega)
theorem spec_l18Ok_val (a b : List Int) (ha : a.length < 4611686018427387904) (hb : b.length < 4611686018427387904) : spec_l18Ok.F [(⟨a, b⟩ : S40)] = some (refOk a b) := by
  have e : rd_T40 [(⟨a, b⟩ : S40)] 0 = ⟨a, b⟩ := rfl
  rw [spec_l18Ok.F_eq, e, if_pos (by simp)]
  by_cases h1 : (b.length : Int) = (a.length : Int)
  · rw [if_pos h1]
    by_cases h2 : (a.length : Int) > 6
    · rw [if_pos h2, spec_l18Ok.J0_eq, if_pos rfl]
      congr 1; unfold refOk; rw [decide_eq_false (by omega)]; rfl
    · rw [if_neg h2, spec_l00Rises_val a 1 600 ha]
      simp only [Option.bind_some]
      have hfin : ∀ r : Bool, (r = rises b 0 600) → rises a 1 600 = true → spec_l18Ok.J0 [(⟨a, b⟩ : S40)] (a.length : Int) (!r) = some (refOk a b) := by
        intro r hr ha2
        rw [spec_l18Ok.J0_eq]
        cases hr2 : r with
        | false =>
          rw [if_pos (show (!false) = true from rfl)]
          congr 1
          symm
          rw [← Bool.not_eq_true, refOk_iff]
          intro hbad
          have : rises b 0 600 = true := by
            rw [rises_iff]
            intro i hi
            have h3 := hbad.2.2 i (by omega)
            exact ⟨⟨h3.2.1.1, by omega⟩, fun h0 => (h3.2.2 h0).2⟩
          rw [← hr, hr2] at this
          cases this
        | true =>
          rw [if_neg (by simp)]
          have hb2 : rises b 0 600 = true := by rw [← hr, hr2]
          rw [rises_iff] at ha2 hb2
          refine (allRange a.length (fun i => decide (rd b (i : Int) ≤ rd a (i : Int))) (fun i => spec_l18Ok.L0 [(⟨a, b⟩ : S40)] (a.length : Int) i) true (fun i hi => ?_) ?_).trans ?_
          · show spec_l18Ok.L0 _ _ i = _
            rw [spec_l18Ok.L0_eq, e, if_pos (by omega), if_pos (by omega), if_pos (by show (i : Int) < (b.length : Int); omega), if_pos (by show (i : Int) < (a.length : Int); omega), wS (by omega)]
            show (if rd b (i : Int) > rd a (i : Int) then _ else _) = _
            by_cases h3 : rd b (i : Int) > rd a (i : Int)
            · rw [if_pos h3, if_neg (by simp; omega)]
            · rw [if_neg h3, if_pos (by simp; omega)]
          · show spec_l18Ok.L0 _ _ _ = _
            rw [spec_l18Ok.L0_eq, if_neg (by omega)]
          · congr 1
            rw [Bool.and_true, Bool.eq_iff_iff, List.all_eq_true, refOk_iff]
            constructor
            · intro h
              refine ⟨by omega, by omega, fun i hi => ⟨(ha2 i hi).1, ⟨(hb2 i (by omega)).1.1, ?_⟩, fun h0 => ⟨(ha2 i hi).2 h0, (hb2 i (by omega)).2 h0⟩⟩⟩
              simpa using h i (List.mem_range.2 hi)
            · intro h i hi
              simpa using (h.2.2 i (List.mem_range.1 hi)).2.1.2
      cases hra : rises a 1 600 with
      | false =>
        rw [if_neg (by simp), spec_l18Ok.J0_eq, if_pos rfl]
        congr 1
        symm
        rw [← Bool.not_eq_true, refOk_iff]
        intro hbad
        have : rises a 1 600 = true := by
          rw [rises_iff]
          intro i hi
          have h3 := hbad.2.2 i hi
          exact ⟨h3.1, fun h0 => (h3.2.2 h0).1⟩
        rw [hra] at this
        cases this
      | true =>
        rw [if_pos rfl, spec_l00Rises_val b 0 600 hb]
        simp only [Option.bind_some]
        exact hfin _ rfl hra
  · rw [if_neg h1, spec_l18Ok.J0_eq, if_pos rfl]
    congr 1; unfold refOk; rw [decide_eq_false (p := b.length = a.length) (by omega)]; simp
theorem impl_within_val (n a b : Int) : impl_within.f n a b = some (inB n a b) := by
  unfold impl_within.f inB
  by_cases h : n ≥ a
  · rw [if_pos h]; simp [show a ≤ n from h]
  · rw [if_neg h]; simp; omega
theorem impl_ValidReefing_val (a b : List Int) (ha : a.length < 4611686018427387904) (hb : b.length < 4611686018427387904) : impl_ValidReefing.F a b = some (refOk a b) := by
  rw [impl_ValidReefing.F_eq]
  by_cases h2 : (a.length : Int) > 6
  · rw [if_pos h2, impl_ValidReefing.J0_eq, if_pos rfl]
    congr 1; unfold refOk; rw [decide_eq_false (by omega)]; rfl
  · rw [if_neg h2, impl_ValidReefing.J0_eq]
    by_cases h1 : b.length = a.length
    · rw [if_neg (by simp [h1])]
      refine (allRange a.length (refAt a b) (fun i => impl_ValidReefing.L0 a (a.length : Int) i a b) true (fun i hi => ?_) ?_).trans ?_
      · show impl_ValidReefing.L0 _ _ i _ _ = _
        rw [impl_ValidReefing.L0_eq, if_pos (by omega), if_pos (by omega), if_pos (by omega), impl_within_val, wS (by omega)]
        simp only [Option.bind_some]
        rw [refAt_def, ite_band, ite_band]
        by_cases h3 : inB (rd a (i : Int)) 1 600 = true
        · rw [if_pos h3, if_pos h3, if_pos (by omega), impl_within_val]
          simp only [Option.bind_some]
          by_cases h4 : inB (rd b (i : Int)) 0 (rd a (i : Int)) = true
          · rw [if_pos h4, if_pos h4]
            by_cases h0 : i = 0
            · rw [if_neg (by omega), if_pos (by simp [h0])]
            · rw [if_pos (by omega), w64 (by omega) (by omega), if_pos (by omega), if_pos (by omega)]
              by_cases h5 : rd a (i : Int) ≤ rd a ((i : Int) - 1)
              · rw [if_pos h5, if_neg (by simp [h0]; omega)]
              · rw [if_neg h5, if_pos (by omega)]
                by_cases h6 : rd b (i : Int) ≤ rd b ((i : Int) - 1)
                · rw [if_pos h6, if_neg (by simp [h0]; omega)]
                · rw [if_neg h6, if_pos (by simp [h0]; omega)]
          · rw [if_neg h4, if_neg h4]
        · rw [if_neg h3, if_neg h3]
      · show impl_ValidReefing.L0 _ _ _ _ _ = _
        rw [impl_ValidReefing.L0_eq, if_neg (by omega)]
      · unfold refOk
        rw [decide_eq_true (show a.length ≤ 6 by omega), decide_eq_true h1]
        simp
    · rw [if_pos (by simp; omega)]
      congr 1; unfold refOk; rw [decide_eq_false (p := b.length = a.length) h1]; simp
/-- A number's decimal form. -/
def dec (n : Int) : ByteArray := ⟨(Lib.itoa n).toArray⟩
def digN (u : Nat) : List Int := (Lib.decDigits u).map fun b => (b.toNat : Int)
theorem digN_small {u : Nat} (h : u < 10) : digN u = [48 + (u : Int)] := by
  unfold digN
  rw [Lib.decDigits_one h, List.map_cons, List.map_nil]
  congr 1
  rw [UInt8.toNat_ofNat_of_lt' (by show 48 + u < 256; omega)]
  push_cast; rfl
theorem digN_big {u : Nat} (h : ¬ u < 10) : digN u = digN (u / 10) ++ [48 + ((u % 10 : Nat) : Int)] := by
  unfold digN
  rw [Lib.decDigits, dif_neg h, List.map_append, List.map_cons, List.map_nil, UInt8.toNat_ofNat_of_lt' (by show 48 + u % 10 < 256; omega)]
  push_cast; rfl
theorem nD_le (k : Nat) : ∀ u, u < 10 ^ (k + 1) → Lib.nDigits u ≤ k + 1 := by
  induction k with
  | zero => intro u h; rw [Lib.nDigits_small (by omega)]; omega
  | succ k ih =>
    intro u h
    by_cases hu : u < 10
    · rw [Lib.nDigits_small hu]; omega
    · rw [Lib.nDigits_big hu]
      have := ih (u / 10) (by rw [Nat.pow_succ] at h; omega)
      omega
theorem nD_20 (u : Nat) (h : u < 18446744073709551616) : Lib.nDigits u ≤ 20 := nD_le 19 u (by omega)
theorem nD_1 (u : Nat) : 1 ≤ Lib.nDigits u := by
  by_cases h : u < 10
  · rw [Lib.nDigits_small h]; omega
  · rw [Lib.nDigits_big h]; omega
theorem digN_len (u : Nat) : (digN u).length = Lib.nDigits u := by unfold digN; rw [List.length_map, Lib.decDigits_length]
theorem digN_str (u : Nat) : strOfNums (digN u) = ⟨(Lib.decDigits u).toArray⟩ := by
  unfold digN strOfNums
  rw [List.map_map]
  congr 2
  rw [show ((fun z : Int => UInt8.ofNat z.toNat) ∘ fun b : UInt8 => (b.toNat : Int)) = id from funext fun b => by simp]
  exact List.map_id _
theorem itoa_len (n : Int) (h0 : -9223372036854775808 ≤ n) (h1 : n ≤ 9223372036854775807) : (dec n).size ≤ 21 := by
  show (Lib.itoa n).toArray.size ≤ 21
  rw [List.size_toArray]
  by_cases hneg : n < 0
  · obtain ⟨u, rfl⟩ : ∃ u : Nat, n = -(u : Int) := ⟨n.natAbs, by omega⟩
    rw [Lib.itoa_neg u (by omega), List.length_cons, Lib.decDigits_length]
    have := nD_20 u (by omega)
    omega
  · obtain ⟨u, rfl⟩ : ∃ u : Nat, n = u := ⟨n.toNat, by omega⟩
    rw [Lib.itoa_nonneg, Lib.decDigits_length]
    have := nD_20 u (by omega)
    omega
theorem l01Dec_loop (n : Int) (u : Nat) : ∀ (k : Int) (out : List Int), k.natAbs = u → u ≠ 0 → -9223372036854775808 ≤ k → k ≤ 9223372036854775807 → out.length + Lib.nDigits u ≤ 1000 → spec_l01Dec.L0 n out k = spec_l01Dec.L0 n (digN u ++ out) 0 := by
  induction u using Nat.strongRecOn with
  | _ u ih =>
    intro k out hk hu h0 h1 hl
    have hd := nD_1 u
    have hm : (Int.tmod k 10).natAbs = u % 10 := by rw [Int.natAbs_tmod, hk]; rfl
    have hq : (Int.tdiv k 10).natAbs = u / 10 := by rw [Int.natAbs_tdiv, hk]; rfl
    have hstep : spec_l01Dec.L0 n out k = spec_l01Dec.L0 n ([48 + ((u % 10 : Nat) : Int)] ++ out) (Int.tdiv k 10) := by
      rw [spec_l01Dec.L0_eq, if_neg (by omega)]
      simp only [Option.bind_some]
      rw [w64 (n := Int.tdiv k 10) (by omega) (by omega)]
      by_cases h : Int.tmod k 10 < 0
      · rw [if_pos h, w64 (n := -(Int.tmod k 10)) (by omega) (by omega), w64 (by omega) (by omega), show (48 + -(Int.tmod k 10)) % 256 = 48 + ((u % 10 : Nat) : Int) by omega, if_pos (by simp only [List.length_singleton]; omega)]
      · rw [if_neg h, w64 (n := 48 + Int.tmod k 10) (by omega) (by omega), show (48 + (Int.tmod k 10)) % 256 = 48 + ((u % 10 : Nat) : Int) by omega, if_pos (by simp only [List.length_singleton]; omega)]
    rw [hstep]
    by_cases h : u < 10
    · rw [digN_small h, show Int.tdiv k 10 = 0 by omega, show u % 10 = u by omega]
    · rw [Lib.nDigits_big h] at hl
      rw [ih (u / 10) (by omega) (Int.tdiv k 10) _ hq (by omega) (by omega) (by omega) (by rw [List.length_append, List.length_singleton]; omega), digN_big h, List.append_assoc]
theorem spec_l01Dec_val (n : Int) (h0 : -9223372036854775808 ≤ n) (h1 : n ≤ 9223372036854775807) : spec_l01Dec.F n = some (dec n) := by
  rw [spec_l01Dec.F_eq]
  by_cases hz : n = 0
  · subst hz
    rw [spec_l01Dec.L0_eq, if_pos rfl, if_pos (by simp)]
    unfold dec
    rw [show (0 : Int) = ((0 : Nat) : Int) from rfl, Lib.itoa_nonneg, Lib.decDigits_one (by omega)]
    rfl
  · have hl := nD_20 n.natAbs (by omega)
    have hd := nD_1 n.natAbs
    have hz2 := digN_len n.natAbs
    have hsz : (strOfNums (digN n.natAbs)).size = Lib.nDigits n.natAbs := by rw [digN_str]; show (Lib.decDigits _).toArray.size = _; rw [List.size_toArray, Lib.decDigits_length]
    rw [l01Dec_loop n n.natAbs n [] rfl (by omega) h0 h1 (by simp only [List.length_nil]; omega), List.append_nil, spec_l01Dec.L0_eq, if_pos rfl, if_neg (by omega)]
    unfold dec
    by_cases hneg : n < 0
    · rw [if_pos hneg, if_pos (by rw [hsz]; omega), digN_str]
      have e : Lib.itoa n = 45 :: Lib.decDigits n.natAbs := by unfold Lib.itoa; rw [if_pos hneg]
      rw [e]
      congr 1
    · have e : Lib.itoa n = Lib.decDigits n.natAbs := by unfold Lib.itoa; rw [if_neg hneg, show n.toNat = n.natAbs by omega]
      rw [if_neg hneg, digN_str, e]
theorem impl_Decimal_val (n : Int) (h0 : -9223372036854775808 ≤ n) (h1 : n ≤ 9223372036854775807) : impl_Decimal.f n = some (dec n) := by
  unfold impl_Decimal.f strconv_FormatInt.f
  rw [if_pos ⟨rfl, h0, h1⟩]
  rfl
/-- Words with blanks between them. -/
def txt (W : Nat → ByteArray) : Nat → ByteArray
  | 0 => ⟨#[]⟩
  | i + 1 => (if 0 < i then txt W i ++ (⟨#[32]⟩ : ByteArray) else txt W i) ++ W i
theorem txt_join (W : Nat → ByteArray) (n : Nat) : Lib.join (((List.range n).map W).map (·.data.toList)) [32] = (txt W n).data.toList := by
  induction n with
  | zero => rfl
  | succ n ih =>
    rw [List.range_succ, List.map_append, List.map_append, List.map_cons, List.map_nil, List.map_cons, List.map_nil]
    cases n with
    | zero =>
      rw [show (List.map (fun x : ByteArray => x.data.toList) (List.map W (List.range 0))) = [] from rfl, List.nil_append, Lib.join_one]
      show _ = ((if 0 < 0 then _ else txt W 0) ++ W 0).data.toList
      rw [if_neg (by omega)]
      simp [txt]
    | succ n =>
      cases hL : List.map (fun x : ByteArray => x.data.toList) (List.map W (List.range (n + 1))) with
      | nil => have := congrArg List.length hL; simp at this
      | cons a t =>
        rw [hL, Lib.join_cons] at ih
        rw [List.cons_append, Lib.join_cons]
        show _ = ((if 0 < n + 1 then txt W (n + 1) ++ (⟨#[32]⟩ : ByteArray) else txt W (n + 1)) ++ W (n + 1)).data.toList
        rw [if_pos (by omega)]
        unfold Lib.joinTail at *
        rw [List.map_append, List.flatten_append, ← List.append_assoc, ih]
        simp
theorem txt_size (W : Nat → ByteArray) (n : Nat) (h : ∀ i, i < n → (W i).size ≤ 100) : (txt W n).size ≤ n * 101 := by
  induction n with
  | zero => show (⟨#[]⟩ : ByteArray).size ≤ _; exact Nat.zero_le _
  | succ n ih =>
    have h1 := ih (fun i hi => h i (by omega))
    have h2 := h n (by omega)
    show ((if 0 < n then txt W n ++ (⟨#[32]⟩ : ByteArray) else txt W n) ++ W n).size ≤ _
    rw [ByteArray.size_append]
    split
    · rw [ByteArray.size_append, show (⟨#[32]⟩ : ByteArray).size = 1 from rfl]; omega
    · omega
theorem join_val (W : Nat → ByteArray) (n : Nat) (hn : n ≤ 1000) (h : ∀ i, i < n → (W i).size ≤ 100) : strings_Join.f ((List.range n).map W) (⟨#[32]⟩ : ByteArray) = some (txt W n) := by
  have hs := txt_size W n h
  have e : Lib.join (((List.range n).map W).map (·.data.toList)) ((⟨#[32]⟩ : ByteArray).data.toList) = (txt W n).data.toList := txt_join W n
  have hl : (txt W n).data.toList.length = (txt W n).size := by rw [Array.length_toList]; rfl
  unfold strings_Join.f
  rw [e, if_pos ⟨by rw [List.length_map, List.length_range]; omega, by rw [hl]; omega⟩]
/-- Two numbers with a sign between them. -/
def pairT (s : UInt8) (a b : Int) : ByteArray := (dec a ++ (⟨#[s]⟩ : ByteArray)) ++ dec b
theorem pairT_size (s : UInt8) {a b : Int} (ha : 0 ≤ a ∧ a ≤ 100000) (hb : 0 ≤ b ∧ b ≤ 100000) : (dec a).size ≤ 21 ∧ (dec b).size ≤ 21 ∧ (pairT s a b).size ≤ 43 := by
  have h1 := itoa_len a (by omega) (by omega)
  have h2 := itoa_len b (by omega) (by omega)
  refine ⟨h1, h2, ?_⟩
  unfold pairT
  rw [ByteArray.size_append, ByteArray.size_append, show (⟨#[s]⟩ : ByteArray).size = 1 from rfl]
  omega
theorem ref_len {a b : List Int} (h : refOk a b = true) : a.length ≤ 6 ∧ b.length = a.length := by
  rw [refOk_iff] at h
  exact ⟨h.1, h.2.1⟩
def reefW (a b : List Int) (i : Nat) : ByteArray := pairT 47 (rd a (i : Int)) (rd b (i : Int))
theorem reefW_bd {a b : List Int} (h : refOk a b = true) (i : Nat) (hi : i < a.length) : (0 ≤ rd a (i : Int) ∧ rd a (i : Int) ≤ 100000) ∧ (0 ≤ rd b (i : Int) ∧ rd b (i : Int) ≤ 100000) := by
  have := ((refOk_iff a b).1 h).2.2 i hi
  omega
/-- The text form of a reefing. -/
def reefT (a b : List Int) : ByteArray := if refOk a b = true then (if (a.length : Int) = 0 then ⟨#[110, 111, 110, 101]⟩ else txt (reefW a b) a.length) else ⟨#[]⟩
theorem l18Text_loop (a b : List Int) (h : refOk a b = true) : spec_l18Text.L0 [(⟨a, b⟩ : S40)] (⟨#[]⟩ : ByteArray) 0 = some (txt (reefW a b) a.length) := by
  obtain ⟨h6, hl⟩ := ref_len h
  have := iterF (fun (s : ByteArray) i => spec_l18Text.L0 [(⟨a, b⟩ : S40)] s i) a.length (txt (reefW a b)) (fun i hi => by
    have hb := reefW_bd h i hi
    have hz := pairT_size 47 hb.1 hb.2
    have hs := txt_size (reefW a b) i (fun j hj => by have hb2 := reefW_bd h j (by omega); have := (pairT_size 47 hb2.1 hb2.2).2.2; unfold reefW; omega)
    show spec_l18Text.L0 [(⟨a, b⟩ : S40)] (txt (reefW a b) i) (i : Int) = spec_l18Text.L0 [(⟨a, b⟩ : S40)] ((if 0 < i then txt (reefW a b) i ++ (⟨#[32]⟩ : ByteArray) else txt (reefW a b) i) ++ reefW a b i) ((i + 1 : Nat) : Int)
    rw [spec_l18Text.L0_eq]
    rw [show (rd_T40 [(⟨a, b⟩ : S40)] 0).f0 = a from rfl, show (rd_T40 [(⟨a, b⟩ : S40)] 0).f1 = b from rfl]
    rw [spec_l01Dec_val _ (by omega) (by omega), spec_l01Dec_val (rd b (i : Int)) (by omega) (by omega), if_pos (by omega), wS (by omega)]
    simp only [Option.bind_some]
    by_cases h0 : 0 < i
    · rw [if_pos (by omega), if_pos h0, if_pos (by omega), if_pos (by omega), if_pos (by omega), if_pos (by omega), if_pos (by omega), if_pos (by omega)]
      rfl
    · rw [if_neg (by omega), if_neg h0, if_pos (by omega), if_pos (by omega), if_pos (by omega), if_pos (by omega), if_pos (by omega)]
      rfl)
  refine Eq.trans this ?_
  show spec_l18Text.L0 [(⟨a, b⟩ : S40)] (txt (reefW a b) a.length) (a.length : Int) = _
  rw [spec_l18Text.L0_eq]
  rw [show (rd_T40 [(⟨a, b⟩ : S40)] 0).f0 = a from rfl, if_neg (by omega)]
theorem impl_ReefText_val (a b : List Int) (ha : a.length < 4611686018427387904) (hb : b.length < 4611686018427387904) : impl_ReefText.F a b = some (reefT a b) := by
  rw [impl_ReefText.F_eq, impl_ValidReefing_val a b ha hb]
  simp only [Option.bind_some]
  unfold reefT
  by_cases h : refOk a b = true
  · rw [if_pos h, if_pos h]
    by_cases h0 : (a.length : Int) = 0
    · rw [if_pos h0, if_pos h0]
    · rw [if_neg h0, if_neg h0]
      obtain ⟨h6, hl⟩ := ref_len h
      have := iterF (fun (s : List ByteArray) i => impl_ReefText.L0 s a (a.length : Int) i a b) a.length (fun i => (List.range i).map (reefW a b)) (fun i hi => by
        have hb := reefW_bd h i hi
        have hz := pairT_size 47 hb.1 hb.2
        show impl_ReefText.L0 ((List.range i).map (reefW a b)) a (a.length : Int) (i : Int) a b = impl_ReefText.L0 ((List.range (i + 1)).map (reefW a b)) a (a.length : Int) ((i + 1 : Nat) : Int) a b
        rw [impl_ReefText.L0_eq, if_pos (by omega), if_pos (by omega), if_pos (by omega), impl_Decimal_val _ (by omega) (by omega), impl_Decimal_val (rd b (i : Int)) (by omega) (by omega)]
        simp only [Option.bind_some]
        rw [if_pos (by omega), if_pos (by omega), if_pos (by omega), if_pos (by rw [List.length_map, List.length_range]; omega), wS (by omega), List.range_succ, List.map_append]
        rfl)
      refine Eq.trans this ?_
      show impl_ReefText.L0 ((List.range a.length).map (reefW a b)) a (a.length : Int) (a.length : Int) a b = _
      rw [impl_ReefText.L0_eq, if_neg (by omega), join_val (reefW a b) a.length (by omega) (fun j hj => by have hb2 := reefW_bd h j hj; have := (pairT_size 47 hb2.1 hb2.2).2.2; unfold reefW; omega)]
      rfl
  · rw [if_neg h, if_neg h]
theorem reef_text (a b : List Int) (ha : a.length < 4611686018427387904) (hb : b.length < 4611686018427387904) : ∃ y, spec_ReefText.F a b = some y ∧ impl_ReefText.F a b = some y := by
  refine ⟨reefT a b, ?_, impl_ReefText_val a b ha hb⟩
  rw [spec_ReefText.F_eq, spec_l18Ok_val a b ha hb]
  simp only [Option.bind_some]
  unfold reefT
  by_cases h : refOk a b = true
  · rw [if_pos h, if_pos h, spec_l18Text.F_eq, if_pos (by simp), show (rd_T40 [(⟨a, b⟩ : S40)] 0).f0 = a from rfl]
    by_cases h0 : (a.length : Int) = 0
    · rw [if_pos h0, if_pos h0]; rfl
    · rw [if_neg h0, if_neg h0, l18Text_loop a b h]; rfl
  · rw [if_neg h, if_neg h]
theorem pure_FnExactReefText : laws_FnExactReefText.Pure := by
  intro a b ha hb
  refine of_lim (g := fun k => laws_FnExactReefText.f k a b) ?_
  show laws_FnExactReefText.F a b = some true
  obtain ⟨r, hr, h⟩ := reef_args a b ha.1 hb.1
  rcases h with h | ⟨h1, h2, h3, h4, h5⟩
  · rw [laws_FnExactReefText.F_eq, hr]; simp only [Option.bind_some]; rw [if_pos h]
  · obtain ⟨y, e1, e2⟩ := reef_text a b (by omega) (by omega)
    simp [laws_FnExactReefText.F_eq, hr, h1, h4, h5, e1, e2]
end Go.Proofs.YtbhijlhlopljmaaDoor.PFnExactReefText
namespace Go.Proofs.YtbhijlhlopljmaaDoor.Pure
theorem FnExactReefText : PFnExactReefText.laws_FnExactReefText.Pure := PFnExactReefText.pure_FnExactReefText
end Go.Proofs.YtbhijlhlopljmaaDoor.Pure
