/-
  The pure side of FnExactReadReefing: the program's ReadReefing gives what the reference's gives. No conditions.
-/
import Derived.Test.YtbhijlhlopljmaaDoorQFnExactReadReefing
set_option linter.unusedVariables false
set_option linter.unusedSimpArgs false
set_option linter.unnecessarySimpa false
namespace Go.Proofs.YtbhijlhlopljmaaDoor.PFnExactReadReefing
open Go.RowKit Go.Proofs.YtbhijlhlopljmaaDoor.Kit Go.Proofs.YtbhijlhlopljmaaDoorW.PrintWords Go.Proofs.YtbhijlhlopljmaaDoorW.PrintLast Go.Proofs.YtbhijlhlopljmaaDoorW.PrintMore

theorem get_bt (s : ByteArray) (k : Nat) (hk : k < s.size) (c : UInt8) : s.data.toList[k]? = some c ↔ bt s (k : Int) = (c.toNat : Int) := by
  have hk2 : k < s.data.toList.length := by rw [Array.length_toList]; exact hk
  have e : bt s (k : Int) = ((s.data.toList[k]).toNat : Int) := by
    unfold bt
    rw [dif_pos (by rw [Int.toNat_natCast]; exact hk)]
    simp only [Int.toNat_natCast, Array.getElem_toList]
    rfl
  rw [e, List.getElem?_eq_getElem hk2]
  constructor
  · intro h; rw [Option.some.inj h]
  · intro h; congr 1; exact UInt8.toNat.inj (by omega)
theorem bt_extract (s : ByteArray) (a n k : Nat) (hn : n ≤ s.size) (hk : a + k < n) : bt (s.extract a n) (k : Int) = bt s ((a + k : Nat) : Int) := by
  have hs : (s.extract a n).size = n - a := by rw [ByteArray.size_extract]; omega
  have h1 := (get_bt s (a + k) (by omega) s.data.toList[a + k]!).1
  have hk2 : a + k < s.data.toList.length := by rw [Array.length_toList]; show _ < s.size; omega
  have h2 := (get_bt (s.extract a n) k (by omega) (s.data.toList[a + k])).1
  have h3 := (get_bt s (a + k) (by omega) (s.data.toList[a + k])).1 (List.getElem?_eq_getElem hk2)
  rw [h3]
  refine h2 ?_
  rw [ByteArray.data_extract, Array.toList_extract]
  simp only [List.extract_eq_take_drop, List.getElem?_take, List.getElem?_drop]
  rw [if_pos (by omega), List.getElem?_eq_getElem hk2]
theorem idx_miss (s : ByteArray) (c : UInt8) (h : ∀ k : Nat, k < s.size → bt s (k : Int) ≠ (c.toNat : Int)) : Lib.indexB s ⟨#[c]⟩ = -1 := by
  show Lib.index s.data.toList [c] = -1
  rw [Lib.index_one]
  have hg := Lib.indexByte_ge s.data.toList c
  by_cases e : Lib.indexByte s.data.toList c = -1
  · exact e
  · obtain ⟨o, ho⟩ : ∃ o : Nat, Lib.indexByte s.data.toList c = o := ⟨(Lib.indexByte s.data.toList c).toNat, by omega⟩
    have h1 := (Lib.indexByte_some ho).1
    have hl : o < s.size := by have := (List.getElem?_eq_some_iff.1 h1).1; rw [Array.length_toList] at this; exact this
    exact absurd ((get_bt s o hl c).1 h1) (h o hl)
theorem idx_hit (s : ByteArray) (c : UInt8) (i : Nat) (hi : i < s.size) (hb : bt s (i : Int) = (c.toNat : Int)) (h : ∀ k : Nat, k < i → bt s (k : Int) ≠ (c.toNat : Int)) : Lib.indexB s ⟨#[c]⟩ = i := by
  show Lib.index s.data.toList [c] = i
  rw [Lib.index_one]
  have hg := Lib.indexByte_ge s.data.toList c
  have hi1 := (get_bt s i hi c).2 hb
  by_cases e : Lib.indexByte s.data.toList c = -1
  · exact absurd hi1 (Lib.indexByte_none e i)
  · obtain ⟨o, ho⟩ : ∃ o : Nat, Lib.indexByte s.data.toList c = o := ⟨(Lib.indexByte s.data.toList c).toNat, by omega⟩
    obtain ⟨h1, h2⟩ := Lib.indexByte_some ho
    have hl : o < s.size := by have := (List.getElem?_eq_some_iff.1 h1).1; rw [Array.length_toList] at this; exact this
    have h3 := (get_bt s o hl c).1 h1
    have : o = i := by
      rcases Nat.lt_trichotomy o i with hlt | heq | hgt
      · exact absurd h3 (h o hlt)
      · exact heq
      · exact absurd hi1 (h2 i hgt)
    omega
/-- A text's parts between a sign. -/
def parts (s : ByteArray) (c : UInt8) : List ByteArray := Lib.splitB ⟨#[c]⟩ 0 (Lib.countB s ⟨#[c]⟩) s
theorem parts_no (s : ByteArray) (c : UInt8) (h : Lib.indexB s ⟨#[c]⟩ = -1) : parts s c = [s] := by
  unfold parts
  rw [Lib.countB_miss s _ h]; rfl
theorem parts_at (s : ByteArray) (c : UInt8) (i : Nat) (h : Lib.indexB s ⟨#[c]⟩ = i) : parts s c = s.extract 0 i :: parts (s.extract (i + 1) s.size) c := by
  unfold parts
  rw [Lib.countB_hit s ⟨#[c]⟩ i (Nat.le_refl 1) h, Nat.add_comm 1, Lib.splitB_hit _ 0 _ s i h]
  rfl
theorem parts_all (c : UInt8) (n : Nat) : ∀ s : ByteArray, s.size ≤ n → (parts s c).length ≤ s.size + 1 ∧ ∀ x ∈ parts s c, x.size ≤ s.size := by
  induction n with
  | zero =>
    intro s hs
    rcases Lib.indexB_cases s ⟨#[c]⟩ with h | ⟨i, h, hr⟩
    · rw [parts_no s c h]; exact ⟨by simp, fun x hx => by rw [List.mem_singleton.1 hx]; exact Nat.le_refl _⟩
    · have : (⟨#[c]⟩ : ByteArray).size = 1 := rfl
      omega
  | succ n ih =>
    intro s hs
    rcases Lib.indexB_cases s ⟨#[c]⟩ with h | ⟨i, h, hr⟩
    · rw [parts_no s c h]; exact ⟨by simp, fun x hx => by rw [List.mem_singleton.1 hx]; exact Nat.le_refl _⟩
    · have h1 : (⟨#[c]⟩ : ByteArray).size = 1 := rfl
      have e : (s.extract (i + 1) s.size).size = s.size - (i + 1) := by rw [ByteArray.size_extract]; omega
      have e0 : (s.extract 0 i).size ≤ s.size := by rw [ByteArray.size_extract]; omega
      obtain ⟨g1, g2⟩ := ih (s.extract (i + 1) s.size) (by omega)
      rw [parts_at s c i h]
      refine ⟨by rw [List.length_cons]; omega, fun x hx => ?_⟩
      rcases List.mem_cons.1 hx with rfl | hx
      · exact e0
      · have := g2 x hx; omega
theorem split_loop (s : ByteArray) (c : UInt8) (hs : s.size < 4611686018427387904) (d : Nat) : ∀ (start i : Nat) (out : List ByteArray), s.size - i = d → start ≤ i → i ≤ s.size → (∀ k : Nat, start ≤ k → k < i → bt s (k : Int) ≠ (c.toNat : Int)) → out.length + (s.size - start) < 1000000000 → spec_l01Split.L0 s (c.toNat : Int) out (start : Int) (i : Int) = some (out ++ parts (s.extract start s.size) c) := by
  induction d with
  | zero =>
    intro start i out hd h1 h2 hno hl
    have hsz : (s.extract start s.size).size = s.size - start := by rw [ByteArray.size_extract]; omega
    rw [spec_l01Split.L0_eq, if_neg (by omega), if_pos (by omega), if_pos (by omega), if_pos (by omega), Int.toNat_natCast, parts_no]
    refine idx_miss _ c fun k hk => ?_
    rw [bt_extract s start s.size k (Nat.le_refl _) (by omega)]
    exact hno (start + k) (by omega) (by omega)
  | succ d ih =>
    intro start i out hd h1 h2 hno hl
    rw [spec_l01Split.L0_eq, if_pos (by omega), if_pos (by omega), wS (by omega)]
    by_cases hb : bt s (i : Int) = (c.toNat : Int)
    · rw [if_pos hb, if_pos (by omega), if_pos (by omega), if_pos (by omega), if_pos (by omega), Int.toNat_natCast, Int.toNat_natCast, ih (i + 1) (i + 1) _ (by omega) (Nat.le_refl _) (by omega) (fun k q1 q2 => by omega) (by rw [List.length_append, List.length_singleton]; omega)]
      have hsz : (s.extract start s.size).size = s.size - start := by rw [ByteArray.size_extract]; omega
      have hi : Lib.indexB (s.extract start s.size) ⟨#[c]⟩ = ((i - start : Nat) : Int) := by
        refine idx_hit _ c (i - start) (by omega) ?_ fun k hk => ?_
        · rw [bt_extract s start s.size (i - start) (Nat.le_refl _) (by omega), show start + (i - start) = i by omega]; exact hb
        · rw [bt_extract s start s.size k (Nat.le_refl _) (by omega)]
          exact hno (start + k) (by omega) (by omega)
      rw [parts_at _ c (i - start) hi, hsz, ByteArray.extract_extract, ByteArray.extract_extract, List.append_assoc]
      rw [show start + 0 = start by omega, show min (start + (i - start)) s.size = i by omega, show start + (i - start + 1) = i + 1 by omega, show min (start + (s.size - start)) s.size = s.size by omega]
      rfl
    · rw [if_neg hb]
      exact ih start (i + 1) out (by omega) (by omega) (by omega) (fun k q1 q2 => by
        by_cases e : k = i
        · subst e; exact hb
        · exact hno k q1 (by omega)) hl
theorem spec_l01Split_val (s : ByteArray) (c : UInt8) (hs : s.size < 100000000) : spec_l01Split.F s (c.toNat : Int) = some (parts s c) := by
  rw [spec_l01Split.F_eq]
  have := split_loop s c (by omega) s.size 0 0 [] (by omega) (Nat.le_refl _) (by omega) (fun k _ h => by omega) (by simp; omega)
  rw [ByteArray.extract_zero_size, List.nil_append] at this
  exact this
theorem strings_Split_val (s : ByteArray) (c : UInt8) (hs : s.size < 100000000) : strings_Split.f s (⟨#[c]⟩ : ByteArray) = some (parts s c) := by
  unfold strings_Split.f
  rw [if_pos ⟨by omega, by show 1 ≤ 1; omega⟩]
  rfl
/-- A number's decimal form. -/
def dec (n : Int) : ByteArray := ⟨(Lib.itoa n).toArray⟩
def digN (u : Nat) : List Int := (Lib.decDigits u).map fun b => (b.toNat : Int)
theorem digN_small {u : Nat} (h : u < 10) : digN u = [48 + (u : Int)] := by
  unfold digN
  rw [Lib.decDigits_one h, List.map_cons, List.map_nil]
  congr 1
  rw [UInt8.toNat_ofNat_of_lt' (by show 48 + u < 256; omega)]
  push_cast; rfl
theorem digN_big {u : Nat} (h : ¬ u < 10) : digN u = digN (u / 10) ++ [48 + ((u % 10 : Nat) : Int)] := by
  unfold digN
  rw [Lib.decDigits, dif_neg h, List.map_append, List.map_cons, List.map_nil, UInt8.toNat_ofNat_of_lt' (by show 48 + u % 10 < 256; omega)]
  push_cast; rfl
theorem nD_le (k : Nat) : ∀ u, u < 10 ^ (k + 1) → Lib.nDigits u ≤ k + 1 := by
  induction k with
  | zero => intro u h; rw [Lib.nDigits_small (by omega)]; omega
  | succ k ih =>
    intro u h
    by_cases hu : u < 10
    · rw [Lib.nDigits_small hu]; omega
    · rw [Lib.nDigits_big hu]
      have := ih (u / 10) (by rw [Nat.pow_succ] at h; omega)
      omega
theorem nD_20 (u : Nat) (h : u < 18446744073709551616) : Lib.nDigits u ≤ 20 := nD_le 19 u (by omega)
theorem nD_1 (u : Nat) : 1 ≤ Lib.nDigits u := by
  by_cases h : u < 10
  · rw [Lib.nDigits_small h]; omega
  · rw [Lib.nDigits_big h]; omega
theorem digN_len (u : Nat) : (digN u).length = Lib.nDigits u := by unfold digN; rw [List.length_map, Lib.decDigits_length]
theorem digN_str (u : Nat) : strOfNums (digN u) = ⟨(Lib.decDigits u).toArray⟩ := by
  unfold digN strOfNums
  rw [List.map_map]
  congr 2
  rw [show ((fun z : Int => UInt8.ofNat z.toNat) ∘ fun b : UInt8 => (b.toNat : Int)) = id from funext fun b => by simp]
  exact List.map_id _
theorem itoa_len (n : Int) (h0 : -9223372036854775808 ≤ n) (h1 : n ≤ 9223372036854775807) : (dec n).size ≤ 21 := by
  show (Lib.itoa n).toArray.size ≤ 21
  rw [List.size_toArray]
  by_cases hneg : n < 0
  · obtain ⟨u, rfl⟩ : ∃ u : Nat, n = -(u : Int) := ⟨n.natAbs, by omega⟩
    rw [Lib.itoa_neg u (by omega), List.length_cons, Lib.decDigits_length]
    have := nD_20 u (by omega)
    omega
  · obtain ⟨u, rfl⟩ : ∃ u : Nat, n = u := ⟨n.toNat, by omega⟩
    rw [Lib.itoa_nonneg, Lib.decDigits_length]
    have := nD_20 u (by omega)
    omega
theorem l01Dec_loop (n : Int) (u : Nat) : ∀ (k : Int) (out : List Int), k.natAbs = u → u ≠ 0 → -9223372036854775808 ≤ k → k ≤ 9223372036854775807 → out.length + Lib.nDigits u ≤ 1000 → spec_l01Dec.L0 n out k = spec_l01Dec.L0 n (digN u ++ out) 0 := by
  induction u using Nat.strongRecOn with
  | _ u ih =>
    intro k out hk hu h0 h1 hl
    have hd := nD_1 u
    have hm : (Int.tmod k 10).natAbs = u % 10 := by rw [Int.natAbs_tmod, hk]; rfl
    have hq : (Int.tdiv k 10).natAbs = u / 10 := by rw [Int.natAbs_tdiv, hk]; rfl
    have hstep : spec_l01Dec.L0 n out k = spec_l01Dec.L0 n ([48 + ((u % 10 : Nat) : Int)] ++ out) (Int.tdiv k 10) := by
      rw [spec_l01Dec.L0_eq, if_neg (by omega)]
      simp only [Option.bind_some]
      rw [w64 (n := Int.tdiv k 10) (by omega) (by omega)]
      by_cases h : Int.tmod k 10 < 0
      · rw [if_pos h, w64 (n := -(Int.tmod k 10)) (by omega) (by omega), w64 (by omega) (by omega), show (48 + -(Int.tmod k 10)) % 256 = 48 + ((u % 10 : Nat) : Int) by omega, if_pos (by simp only [List.length_singleton]; omega)]
      · rw [if_neg h, w64 (n := 48 + Int.tmod k 10) (by omega) (by omega), show (48 + (Int.tmod k 10)) % 256 = 48 + ((u % 10 : Nat) : Int) by omega, if_pos (by simp only [List.length_singleton]; omega)]
    rw [hstep]
    by_cases h : u < 10
    · rw [digN_small h, show Int.tdiv k 10 = 0 by omega, show u % 10 = u by omega]
    · rw [Lib.nDigits_big h] at hl
      rw [ih (u / 10) (by omega) (Int.tdiv k 10) _ hq (by omega) (by omega) (by omega) (by rw [List.length_append, List.length_singleton]; omega), digN_big h, List.append_assoc]
theorem spec_l01Dec_val (n : Int) (h0 : -9223372036854775808 ≤ n) (h1 : n ≤ 9223372036854775807) : spec_l01Dec.F n = some (dec n) := by
  rw [spec_l01Dec.F_eq]
  by_cases hz : n = 0
  · subst hz
    rw [spec_l01Dec.L0_eq, if_pos rfl, if_pos (by simp)]
    unfold dec
    rw [show (0 : Int) = ((0 : Nat) : Int) from rfl, Lib.itoa_nonneg, Lib.decDigits_one (by omega)]
    rfl
  · have hl := nD_20 n.natAbs (by omega)
    have hd := nD_1 n.natAbs
    have hz2 := digN_len n.natAbs
    have hsz : (strOfNums (digN n.natAbs)).size = Lib.nDigits n.natAbs := by rw [digN_str]; show (Lib.decDigits _).toArray.size = _; rw [List.size_toArray, Lib.decDigits_length]
    rw [l01Dec_loop n n.natAbs n [] rfl (by omega) h0 h1 (by simp only [List.length_nil]; omega), List.append_nil, spec_l01Dec.L0_eq, if_pos rfl, if_neg (by omega)]
    unfold dec
    by_cases hneg : n < 0
    · rw [if_pos hneg, if_pos (by rw [hsz]; omega), digN_str]
      have e : Lib.itoa n = 45 :: Lib.decDigits n.natAbs := by unfold Lib.itoa; rw [if_pos hneg]
      rw [e]
      congr 1
    · have e : Lib.itoa n = Lib.decDigits n.natAbs := by unfold Lib.itoa; rw [if_neg hneg, show n.toNat = n.natAbs by omega]
      rw [if_neg hneg, digN_str, e]
theorem impl_Decimal_val (n : Int) (h0 : -9223372036854775808 ≤ n) (h1 : n ≤ 9223372036854775807) : impl_Decimal.f n = some (dec n) := by
  unfold impl_Decimal.f strconv_FormatInt.f
  rw [if_pos ⟨rfl, h0, h1⟩]
  rfl
theorem digit_val (x : Int) : spec_l01Digit.f x = some (decide (48 ≤ x) && decide (x ≤ 57)) := by
  unfold spec_l01Digit.f
  by_cases h : x ≥ 48
  · rw [if_pos h]; simp [show (48 : Int) ≤ x from h]
  · rw [if_neg h]; simp; omega
theorem trimP (s : ByteArray) : strings_TrimPrefix.f s (⟨#[45]⟩ : ByteArray) = some (if 0 < s.size ∧ bt s 0 = 45 then s.extract 1 s.size else s) := by
  have h1 : (⟨#[45]⟩ : ByteArray).size = 1 := rfl
  have hp : stringslite_HasPrefix.f s (⟨#[45]⟩ : ByteArray) = some (decide (0 < s.size ∧ bt s 0 = 45)) := by
    unfold stringslite_HasPrefix.f
    rw [h1]
    by_cases h : 0 < s.size
    · rw [if_pos (by omega), if_pos (by omega), if_pos (by omega)]
      congr 1
      rw [Bool.eq_iff_iff, beq_iff_eq, decide_eq_true_eq, ByteArray.toList_eq, ByteArray.toList_eq]
      have hl : 0 < s.data.toList.length := by rw [Array.length_toList]; exact h
      have e : (s.extract 0 (((1 : Nat) : Int)).toNat).data.toList = [s.data.toList[0]] := by
        rw [Int.toNat_natCast, ByteArray.data_extract, Array.toList_extract]
        simp only [List.extract_eq_take_drop, List.drop_zero]
        have key : ∀ (l : List UInt8) (q : 0 < l.length), List.take (1 - 0) l = [l[0]] := fun l q => by
          cases l with
          | nil => exact absurd q (Nat.lt_irrefl 0)
          | cons a t => rfl
        exact key _ hl
      have g := get_bt s 0 h 45
      rw [List.getElem?_eq_getElem hl] at g
      rw [e]
      constructor
      · intro q
        refine ⟨h, ?_⟩
        have : s.data.toList[0] = 45 := by have := List.cons.inj q; exact this.1
        exact g.1 (by rw [this])
      · intro q
        have := Option.some.inj (g.2 q.2)
        rw [this]
    · rw [if_neg (by omega), decide_eq_false (fun q => h q.1)]
  unfold strings_TrimPrefix.f stringslite_TrimPrefix.f
  rw [hp]
  simp only [Option.bind_some, decide_eq_true_eq]
  by_cases h : 0 < s.size ∧ bt s 0 = 45
  · rw [if_pos h, if_pos h, h1, if_pos (by omega), if_pos (by omega)]
    rfl
  · rw [if_neg h, if_neg h]; rfl
theorem wrap_in (n : Int) : -9223372036854775808 ≤ wrap64 n ∧ wrap64 n ≤ 9223372036854775807 := by unfold wrap64; omega
/-- The two readers' loops do alike. -/
theorem num_loop (s t : ByteArray) (ht : t.size < 4611686018427387904) (d : Nat) : ∀ (i : Nat) (n : Int), t.size - i = d → -9223372036854775808 ≤ n → n ≤ 9223372036854775807 → ∃ z : Int × Bool, spec_l01Number.L0 s t n (i : Int) = some z ∧ impl_ReadDecimal.L0 s t n (i : Int) = some z ∧ ((∃ j : Nat, i ≤ j ∧ j < t.size ∧ bt t (j : Int) = 47) → z.2 = false) := by
  induction d with
  | zero =>
    intro i n hd h0 h1
    have hw := wrap_in (-n)
    have hn : ¬ ((i : Int) < (t.size : Int)) := by omega
    rw [spec_l01Number.L0_eq, impl_ReadDecimal.L0_eq, if_neg hn, if_neg hn, spec_l01Dec_val n h0 h1, impl_Decimal_val n h0 h1, spec_l01Dec_val _ hw.1 hw.2, impl_Decimal_val _ hw.1 hw.2]
    simp only [Option.bind_some]
    have hno : ¬ ∃ j : Nat, i ≤ j ∧ j < t.size ∧ bt t (j : Int) = 47 := fun ⟨j, q1, q2, _⟩ => by omega
    split
    · split
      · exact ⟨_, rfl, rfl, fun h => absurd h hno⟩
      · exact ⟨_, rfl, rfl, fun h => absurd h hno⟩
    · split
      · exact ⟨_, rfl, rfl, fun h => absurd h hno⟩
      · exact ⟨_, rfl, rfl, fun h => absurd h hno⟩
  | succ d ih =>
    intro i n hd h0 h1
    rw [spec_l01Number.L0_eq, impl_ReadDecimal.L0_eq, if_pos (by omega), if_pos (by omega), if_pos (by omega), if_pos (by omega), digit_val, wS (by omega)]
    simp only [Option.bind_some]
    by_cases q1 : bt t (i : Int) < 48
    · rw [if_pos q1, if_neg (by simp; omega)]
      exact ⟨_, rfl, rfl, fun _ => rfl⟩
    · by_cases q2 : bt t (i : Int) > 57
      · rw [if_neg q1, if_pos q2, if_neg (by simp; omega)]
        exact ⟨_, rfl, rfl, fun _ => rfl⟩
      · rw [if_neg q1, if_neg q2, if_pos (by simp; omega)]
        have hw := wrap_in ((wrap64 (10 * n)) + (((bt t (i : Int)) - 48) % 256))
        obtain ⟨z, z1, z2, z3⟩ := ih (i + 1) _ (by omega) hw.1 hw.2
        refine ⟨z, z1, z2, fun ⟨j, j1, j2, j3⟩ => z3 ⟨j, ?_, j2, j3⟩⟩
        by_cases e : j = i
        · subst e; omega
        · omega
/-- The two readers of numbers read alike, and neither reads a stroke. -/
theorem read_num (s : ByteArray) (hs : s.size < 100000000) : ∃ z : Int × Bool, spec_l01Number.F s = some z ∧ impl_ReadDecimal.F s = some z ∧ ((∃ j : Nat, j < s.size ∧ bt s (j : Int) = 47) → z.2 = false) := by
  have key : ∀ t : ByteArray, t.size ≤ s.size → ((∃ j : Nat, j < s.size ∧ bt s (j : Int) = 47) → ∃ j : Nat, 0 ≤ j ∧ j < t.size ∧ bt t (j : Int) = 47) → ∃ z : Int × Bool, spec_l01Number.J1 s t = some z ∧ (if (t.size : Int) < 1 then (impl_ReadDecimal.J0 s t true) else (impl_ReadDecimal.J0 s t (decide ((t.size : Int) > 18)))) = some z ∧ ((∃ j : Nat, j < s.size ∧ bt s (j : Int) = 47) → z.2 = false) := fun t htl hj => by
    rw [spec_l01Number.J1_eq]
    by_cases q : (t.size : Int) < 1
    · rw [if_pos q, if_pos q, spec_l01Number.J2_eq, impl_ReadDecimal.J0_eq, if_pos rfl, if_pos rfl]
      exact ⟨_, rfl, rfl, fun _ => rfl⟩
    · rw [if_neg q, if_neg q, spec_l01Number.J2_eq, impl_ReadDecimal.J0_eq]
      by_cases q2 : (t.size : Int) > 18
      · rw [if_pos (decide_eq_true q2), if_pos (decide_eq_true q2)]
        exact ⟨_, rfl, rfl, fun _ => rfl⟩
      · rw [if_neg (by rw [decide_eq_false q2]; exact nf), if_neg (by rw [decide_eq_false q2]; exact nf)]
        obtain ⟨z, z1, z2, z3⟩ := num_loop s t (by omega) t.size 0 0 (by omega) (by omega) (by omega)
        exact ⟨z, z1, z2, fun h => z3 (hj h)⟩
  rw [spec_l01Number.F_eq, impl_ReadDecimal.F_eq, trimP s]
  simp only [Option.bind_some]
  by_cases h0 : s.size = 0
  · have e : s.toList = [] := by rw [ByteArray.toList_eq]; exact List.eq_nil_of_length_eq_zero (by rw [Array.length_toList]; exact h0)
    have hT : (if 0 < s.size ∧ bt s 0 = 45 then s.extract 1 s.size else s) = s := if_neg (fun q => by have := q.1; omega)
    rw [hT, if_pos e, spec_l01Number.J0_eq, if_neg nf]
    exact key s (Nat.le_refl _) (fun ⟨j, j1, j2⟩ => ⟨j, Nat.zero_le _, j1, j2⟩)
  · have e : ¬ s.toList = [] := fun q => by rw [ByteArray.toList_eq] at q; have := congrArg List.length q; rw [Array.length_toList] at this; exact h0 this
    rw [if_neg e, if_pos (show (0 : Int) < (s.size : Int) by omega), spec_l01Number.J0_eq]
    by_cases hb : bt s 0 = 45
    · have hT : (if 0 < s.size ∧ bt s 0 = 45 then s.extract 1 s.size else s) = s.extract 1 s.size := if_pos ⟨by omega, hb⟩
      rw [hT, if_pos (show (bt s 0 == 45) = true by rw [hb]; rfl), if_pos (show (1 : Int) ≤ (s.size : Int) by omega)]
      have hsz : (s.extract 1 s.size).size = s.size - 1 := by rw [ByteArray.size_extract]; omega
      refine key _ (by omega) fun ⟨j, j1, j2⟩ => ?_
      have hj0 : j ≠ 0 := fun q => by subst q; rw [show ((0 : Nat) : Int) = 0 from rfl] at j2; omega
      refine ⟨j - 1, Nat.zero_le _, by omega, ?_⟩
      rw [bt_extract s 1 s.size (j - 1) (Nat.le_refl _) (by omega), show 1 + (j - 1) = j by omega]
      exact j2
    · have hT : (if 0 < s.size ∧ bt s 0 = 45 then s.extract 1 s.size else s) = s := if_neg (fun q => hb q.2)
      rw [hT, if_neg (show ¬ (bt s 0 == 45) = true by simpa using hb)]
      exact key s (Nat.le_refl _) (fun ⟨j, j1, j2⟩ => ⟨j, Nat.zero_le _, j1, j2⟩)
def inB (n a b : Int) : Bool := decide (a ≤ n) && decide (n ≤ b)
theorem inB_iff (n a b : Int) : inB n a b = true ↔ a ≤ n ∧ n ≤ b := by simp [inB]
theorem inB_no (n a b : Int) : inB n a b = false ↔ ¬ (a ≤ n ∧ n ≤ b) := by rw [← inB_iff]; simp
theorem spec_l00In_val (n a b : Int) : spec_l00In.f n a b = some (inB n a b) := by
  unfold spec_l00In.f inB
  by_cases h : n ≥ a
  · rw [if_pos h]; simp [show a ≤ n from h]
  · rw [if_neg h]; simp; omega
/-- At a place: within bounds, and more than the number before it. -/
def riseAt (l : List Int) (a b : Int) (i : Nat) : Bool := inB (rd l (i : Int)) a b && (decide (i = 0) || decide (rd l ((i : Int) - 1) < rd l (i : Int)))
theorem riseAt_def (l : List Int) (a b : Int) (i : Nat) : riseAt l a b i = (inB (rd l (i : Int)) a b && (decide (i = 0) || decide (rd l ((i : Int) - 1) < rd l (i : Int)))) := rfl
def rises (l : List Int) (a b : Int) : Bool := (List.range l.length).all (riseAt l a b)
theorem rises_iff (l : List Int) (a b : Int) : rises l a b = true ↔ ∀ i : Nat, i < l.length → (a ≤ rd l i ∧ rd l i ≤ b) ∧ (0 < i → rd l ((i : Int) - 1) < rd l i) := by
  unfold rises
  rw [List.all_eq_true]
  constructor
  · intro h i hi
    have := h i (List.mem_range.2 hi)
    rw [riseAt_def, Bool.and_eq_true, inB_iff, Bool.or_eq_true] at this
    refine ⟨this.1, fun h0 => ?_⟩
    rcases this.2 with h2 | h2
    · exact absurd (of_decide_eq_true h2) (by omega)
    · exact of_decide_eq_true h2
  · intro h i hi
    have := h i (List.mem_range.1 hi)
    rw [riseAt_def, Bool.and_eq_true, inB_iff, Bool.or_eq_true]
    refine ⟨this.1, ?_⟩
    by_cases h0 : i = 0
    · left; simp [h0]
    · right; exact decide_eq_true (this.2 (by omega))
theorem spec_l00Rises_val (l : List Int) (a b : Int) (hl : l.length < 4611686018427387904) : spec_l00Rises.F l a b = some (rises l a b) := by
  rw [spec_l00Rises.F_eq]
  refine (allRange l.length (riseAt l a b) (fun i => spec_l00Rises.L0 l a b i) true (fun i hi => ?_) ?_).trans (by rw [Bool.and_true]; rfl)
  · show spec_l00Rises.L0 l a b i = _
    rw [spec_l00Rises.L0_eq, if_pos (by omega), if_pos (by omega), spec_l00In_val, wS (by omega)]
    simp only [Option.bind_some]
    rw [riseAt_def, ite_band]
    by_cases h1 : inB (rd l (i : Int)) a b = true
    · rw [if_pos h1, if_pos h1]
      by_cases h0 : i = 0
      · rw [if_neg (by omega), if_pos (by simp [h0])]
      · rw [if_pos (by omega), w64 (by omega) (by omega), if_pos (by omega), if_pos (by omega)]
        by_cases h2 : rd l ((i : Int) - 1) ≥ rd l (i : Int)
        · rw [if_pos h2, if_neg (by simp [h0]; omega)]
        · rw [if_neg h2, if_pos (by simp [h0]; omega)]
    · rw [if_neg h1, if_neg h1]
  · show spec_l00Rises.L0 l a b _ = _
    rw [spec_l00Rises.L0_eq, if_neg (by omega)]
/-- A valid reefing. -/
def refAt (a b : List Int) (i : Nat) : Bool := inB (rd a (i : Int)) 1 600 && (inB (rd b (i : Int)) 0 (rd a (i : Int)) && (decide (i = 0) || (decide (rd a ((i : Int) - 1) < rd a (i : Int)) && decide (rd b ((i : Int) - 1) < rd b (i : Int)))))
theorem refAt_def (a b : List Int) (i : Nat) : refAt a b i = (inB (rd a (i : Int)) 1 600 && (inB (rd b (i : Int)) 0 (rd a (i : Int)) && (decide (i = 0) || (decide (rd a ((i : Int) - 1) < rd a (i : Int)) && decide (rd b ((i : Int) - 1) < rd b (i : Int)))))) := rfl
def refOk (a b : List Int) : Bool := decide (a.length ≤ 6) && (decide (b.length = a.length) && (List.range a.length).all (refAt a b))
theorem refOk_iff (a b : List Int) : refOk a b = true ↔ a.length ≤ 6 ∧ b.length = a.length ∧ ∀ i : Nat, i < a.length → (1 ≤ rd a i ∧ rd a i ≤ 600) ∧ (0 ≤ rd b i ∧ rd b i ≤ rd a i) ∧ (0 < i → rd a ((i : Int) - 1) < rd a i ∧ rd b ((i : Int) - 1) < rd b i) := by
  unfold refOk
  rw [Bool.and_eq_true, Bool.and_eq_true, decide_eq_true_iff, decide_eq_true_iff, List.all_eq_true]
  refine and_congr Iff.rfl (and_congr Iff.rfl ⟨fun h i hi => ?_, fun h i hi => ?_⟩)
  · have := h i (List.mem_range.2 hi)
    rw [refAt_def, Bool.and_eq_true, inB_iff, Bool.and_eq_true, inB_iff, Bool.or_eq_true] at this
    refine ⟨this.1, this.2.1, fun h0 => ?_⟩
    rcases this.2.2 with h2 | h2
    · exact absurd (of_decide_eq_true h2) (by omega)
    · simpa using h2
  · have := h i (List.mem_range.1 hi)
    rw [refAt_def, Bool.and_eq_true, inB_iff, Bool.and_eq_true, inB_iff, Bool.or_eq_true]
    refine ⟨this.1, this.2.1, ?_⟩
    by_cases h0 : i = 0
    · left; simp [h0]
    · right; simpa using this.2.2 (by omega)
theorem spec_l18Ok_val (a b : List Int) (ha : a.length < 4611686018427387904) (hb : b.length < 4611686018427387904) : spec_l18Ok.F [(⟨a, b⟩ : S40)] = some (refOk a b) := by
  have e : rd_T40 [(⟨a, b⟩ : S40)] 0 = ⟨a, b⟩ := rfl
  rw [spec_l18Ok.F_eq, e, if_pos (by simp)]
  by_cases h1 : (b.length : Int) = (a.length : Int)
  · rw [if_pos h1]
    by_cases h2 : (a.length : Int) > 6
    · rw [if_pos h2, spec_l18Ok.J0_eq, if_pos rfl]
      congr 1; unfold refOk; rw [decide_eq_false (by omega)]; rfl
    · rw [if_neg h2, spec_l00Rises_val a 1 600 ha]
      simp only [Option.bind_some]
      have hfin : ∀ r : Bool, (r = rises b 0 600) → rises a 1 600 = true → spec_l18Ok.J0 [(⟨a, b⟩ : S40)] (a.length : Int) (!r) = some (refOk a b) := by
        intro r hr ha2
        rw [spec_l18Ok.J0_eq]
        cases hr2 : r with
        | false =>
          rw [if_pos (show (!false) = true from rfl)]
          congr 1
          symm
          rw [← Bool.not_eq_true, refOk_iff]
          intro hbad
          have : rises b 0 600 = true := by
            rw [rises_iff]
            intro i hi
            have h3 := hbad.2.2 i (by omega)
            exact ⟨⟨h3.2.1.1, by omega⟩, fun h0 => (h3.2.2 h0).2⟩
          rw [← hr, hr2] at this
          cases this
        | true =>
          rw [if_neg (by simp)]
          have hb2 : rises b 0 600 = true := by rw [← hr, hr2]
          rw [rises_iff] at ha2 hb2
          refine (allRange a.length (fun i => decide (rd b (i : Int) ≤ rd a (i : Int))) (fun i => spec_l18Ok.L0 [(⟨a, b⟩ : S40)] (a.length : Int) i) true (fun i hi => ?_) ?_).trans ?_
          · show spec_l18Ok.L0 _ _ i = _
            rw [spec_l18Ok.L0_eq, e, if_pos (by omega), if_pos (by omega), if_pos (by show (i : Int) < (b.length : Int); omega), if_pos (by show (i : Int) < (a.length : Int); omega), wS (by omega)]
            show (if rd b (i : Int) > rd a (i : Int) then _ else _) = _
            by_cases h3 : rd b (i : Int) > rd a (i : Int)
            · rw [if_pos h3, if_neg (by simp; omega)]
            · rw [if_neg h3, if_pos (by simp; omega)]
          · show spec_l18Ok.L0 _ _ _ = _
            rw [spec_l18Ok.L0_eq, if_neg (by omega)]
          · congr 1
            rw [Bool.and_true, Bool.eq_iff_iff, List.all_eq_true, refOk_iff]
            constructor
            · intro h
              refine ⟨by omega, by omega, fun i hi => ⟨(ha2 i hi).1, ⟨(hb2 i (by omega)).1.1, ?_⟩, fun h0 => ⟨(ha2 i hi).2 h0, (hb2 i (by omega)).2 h0⟩⟩⟩
              simpa using h i (List.mem_range.2 hi)
            · intro h i hi
              simpa using (h.2.2 i (List.mem_range.1 hi)).2.1.2
      cases hra : rises a 1 600 with
      | false =>
        rw [if_neg (by simp), spec_l18Ok.J0_eq, if_pos rfl]
        congr 1
        symm
        rw [← Bool.not_eq_true, refOk_iff]
        intro hbad
        have : rises a 1 600 = true := by
          rw [rises_iff]
          intro i hi
          have h3 := hbad.2.2 i hi
          exact ⟨h3.1, fun h0 => (h3.2.2 h0).1⟩
        rw [hra] at this
        cases this
      | true =>
        rw [if_pos rfl, spec_l00Rises_val b 0 600 hb]
        simp only [Option.bind_some]
        exact hfin _ rfl hra
  · rw [if_neg h1, spec_l18Ok.J0_eq, if_pos rfl]
    congr 1; unfold refOk; rw [decide_eq_false (p := b.length = a.length) (by omega)]; simp
theorem impl_within_val (n a b : Int) : impl_within.f n a b = some (inB n a b) := by
  unfold impl_within.f inB
  by_cases h : n ≥ a
  · rw [if_pos h]; simp [show a ≤ n from h]
  · rw [if_neg h]; simp; omega
theorem impl_ValidReefing_val (a b : List Int) (ha : a.length < 4611686018427387904) (hb : b.length < 4611686018427387904) : impl_ValidReefing.F a b = some (refOk a b) := by
  rw [impl_ValidReefing.F_eq]
  by_cases h2 : (a.length : Int) > 6
  · rw [if_pos h2, impl_ValidReefing.J0_eq, if_pos rfl]
    congr 1; unfold refOk; rw [decide_eq_false (by omega)]; rfl
  · rw [if_neg h2, impl_ValidReefing.J0_eq]
    by_cases h1 : b.length = a.length
    · rw [if_neg (by simp [h1])]
      refine (allRange a.length (refAt a b) (fun i => impl_ValidReefing.L0 a (a.length : Int) i a b) true (fun i hi => ?_) ?_).trans ?_
      · show impl_ValidReefing.L0 _ _ i _ _ = _
        rw [impl_ValidReefing.L0_eq, if_pos (by omega), if_pos (by omega), if_pos (by omega), impl_within_val, wS (by omega)]
        simp only [Option.bind_some]
        rw [refAt_def, ite_band, ite_band]
        by_cases h3 : inB (rd a (i : Int)) 1 600 = true
        · rw [if_pos h3, if_pos h3, if_pos (by omega), impl_within_val]
          simp only [Option.bind_some]
          by_cases h4 : inB (rd b (i : Int)) 0 (rd a (i : Int)) = true
          · rw [if_pos h4, if_pos h4]
            by_cases h0 : i = 0
            · rw [if_neg (by omega), if_pos (by simp [h0])]
            · rw [if_pos (by omega), w64 (by omega) (by omega), if_pos (by omega), if_pos (by omega)]
              by_cases h5 : rd a (i : Int) ≤ rd a ((i : Int) - 1)
              · rw [if_pos h5, if_neg (by simp [h0]; omega)]
              · rw [if_neg h5, if_pos (by omega)]
                by_cases h6 : rd b (i : Int) ≤ rd b ((i : Int) - 1)
                · rw [if_pos h6, if_neg (by simp [h0]; omega)]
                · rw [if_neg h6, if_pos (by simp [h0]; omega)]
          · rw [if_neg h4, if_neg h4]
        · rw [if_neg h3, if_neg h3]
      · show impl_ValidReefing.L0 _ _ _ _ _ = _
        rw [impl_ValidReefing.L0_eq, if_neg (by omega)]
      · unfold refOk
        rw [decide_eq_true (show a.length ≤ 6 by omega), decide_eq_true h1]
        simp
    · rw [if_pos (by simp; omega)]
      congr 1; unfold refOk; rw [decide_eq_false (p := b.length = a.length) h1]; simp
theorem ref_len {a b : List Int} (h : refOk a b = true) : a.length ≤ 6 ∧ b.length = a.length := by
  rw [refOk_iff] at h
  exact ⟨h.1, h.2.1⟩
theorem cut_val (s : ByteArray) (hs : s.size < 100000000) : strings_Cut.f s (⟨#[47]⟩ : ByteArray) = some (if Lib.indexB s ⟨#[47]⟩ = -1 then (s, (⟨#[]⟩ : ByteArray), false) else (s.extract 0 (Lib.indexB s ⟨#[47]⟩).toNat, s.extract ((Lib.indexB s ⟨#[47]⟩).toNat + 1) s.size, true)) := by
  unfold strings_Cut.f
  rw [if_pos (by omega)]
  congr 1
  have hi : Lib.index s.data.toList ((⟨#[47]⟩ : ByteArray).data.toList) = Lib.indexB s ⟨#[47]⟩ := rfl
  unfold Lib.cut
  rw [hi]
  rcases Lib.indexB_cases s ⟨#[47]⟩ with h | ⟨i, h, hr⟩
  · rw [h, if_neg (by omega), if_pos rfl]
  · have h1 : (⟨#[47]⟩ : ByteArray).size = 1 := rfl
    rw [h, if_pos (by omega), if_neg (by omega), Int.toNat_natCast]
    refine Prod.ext ?_ (Prod.ext ?_ rfl)
    · apply ByteArray.ext
      apply Array.toList_inj.1
      rw [ByteArray.data_extract, Array.toList_extract]
      simp [List.extract_eq_take_drop]
    · apply ByteArray.ext
      apply Array.toList_inj.1
      rw [ByteArray.data_extract, Array.toList_extract]
      have hl : s.data.toList.length = s.size := by rw [Array.length_toList]; rfl
      simp only [List.extract_eq_take_drop]
      rw [List.take_of_length_le (by rw [List.length_drop, hl]; omega)]
      rfl
theorem index_byte (s : ByteArray) (c : UInt8) (i : Nat) (h : Lib.indexB s ⟨#[c]⟩ = i) : i < s.size ∧ bt s (i : Int) = (c.toNat : Int) := by
  have h2 : Lib.indexByte s.data.toList c = i := by rw [← Lib.index_one]; exact h
  have h1 := (Lib.indexByte_some h2).1
  have hl : i < s.size := by have := (List.getElem?_eq_some_iff.1 h1).1; rw [Array.length_toList] at this; exact this
  exact ⟨hl, (get_bt s i hl c).1 h1⟩
/-- One word of a reefing: what both sides make of it. -/
theorem one_word (w : ByteArray) (hw : w.size < 100000000) : (∃ a b : Int × Bool, ∃ o : Bool, ∃ p q : ByteArray, strings_Cut.f w (⟨#[47]⟩ : ByteArray) = some (p, q, o) ∧ impl_ReadDecimal.F p = some a ∧ impl_ReadDecimal.F q = some b ∧
    ((parts w 47).length ≠ 2 ∧ (o && (a.2 && b.2)) = false ∨ (parts w 47 = [p, q] ∧ o = true ∧ spec_l01Number.F p = some a ∧ spec_l01Number.F q = some b))) := by
  rw [cut_val w hw]
  rcases Lib.indexB_cases w ⟨#[47]⟩ with h | ⟨i, h, hr⟩
  · rw [h, if_pos rfl]
    obtain ⟨a, _, ha, _⟩ := read_num w hw
    obtain ⟨b, _, hb, _⟩ := read_num ⟨#[]⟩ (by decide)
    exact ⟨a, b, false, w, ⟨#[]⟩, rfl, ha, hb, Or.inl ⟨by rw [parts_no w 47 h]; simp, rfl⟩⟩
  · obtain ⟨hl, _⟩ := index_byte w 47 i h
    rw [h, if_neg (by omega), Int.toNat_natCast]
    have s1 : (w.extract 0 i).size ≤ w.size := by rw [ByteArray.size_extract]; omega
    have s2 : (w.extract (i + 1) w.size).size ≤ w.size := by rw [ByteArray.size_extract]; omega
    obtain ⟨a, a1, a2, _⟩ := read_num (w.extract 0 i) (by omega)
    obtain ⟨b, b1, b2, b3⟩ := read_num (w.extract (i + 1) w.size) (by omega)
    refine ⟨a, b, true, _, _, rfl, a2, b2, ?_⟩
    rw [parts_at w 47 i h]
    rcases Lib.indexB_cases (w.extract (i + 1) w.size) ⟨#[47]⟩ with h2 | ⟨j, h2, _⟩
    · exact Or.inr ⟨by rw [parts_no _ 47 h2], rfl, a1, b1⟩
    · refine Or.inl ⟨?_, ?_⟩
      · rw [parts_at _ 47 j h2]
        intro q
        have : (parts ((w.extract (i + 1) w.size).extract (j + 1) (w.extract (i + 1) w.size).size) 47).length = 0 := by simp only [List.length_cons] at q; omega
        unfold parts at this
        rw [Lib.splitB_all ⟨#[47]⟩ (by decide) 0 _ _ rfl] at this
        omega
      · obtain ⟨j1, j2⟩ := index_byte _ 47 j h2
        rw [b3 ⟨j, j1, j2⟩]; simp
theorem read_loop (W : List ByteArray) (hW : ∀ x ∈ W, x.size < 100000000) (hn : W.length < 100000000) (d : Nat) : ∀ (i : Nat) (a b : List Int), W.length - i = d → a.length ≤ i → b.length ≤ i → i ≤ W.length → ∃ x y : List Int, ∃ z : Bool, spec_ReadReefing.L0 W (i : Int) a b = some (x, y, z) ∧ impl_ReadReefing.L0 W (W.length : Int) (i : Int) a b = some (x, y, z) ∧ x.length ≤ 6 ∧ y.length ≤ 6 := by
  induction d with
  | zero =>
    intro i a b hd ha hb hi
    rw [spec_ReadReefing.L0_eq, impl_ReadReefing.L0_eq, if_neg (by omega), if_neg (by omega), spec_l18Ok_val a b (by omega) (by omega), impl_ValidReefing_val a b (by omega) (by omega)]
    simp only [Option.bind_some]
    by_cases h : refOk a b = true
    · have hl := ref_len h
      rw [if_pos h]
      exact ⟨_, _, _, rfl, rfl, by omega, by omega⟩
    · rw [if_neg h]
      exact ⟨_, _, _, rfl, rfl, by simp, by simp⟩
  | succ d ih =>
    intro i a b hd ha hb hi
    have hlt : i < W.length := by omega
    have hr : rdOf ByteArray.empty W (i : Int) = W[i] := by simp [rdOf, hlt]
    have hw := hW W[i] (List.getElem_mem hlt)
    obtain ⟨p, q, o, u, v, e1, e2, e3, hc⟩ := one_word W[i] hw
    have e47 : spec_l01Split.F W[i] 47 = some (parts W[i] 47) := spec_l01Split_val W[i] 47 hw
    rw [spec_ReadReefing.L0_eq, impl_ReadReefing.L0_eq, if_pos (by omega), if_pos (by omega), if_pos (by omega), if_pos (by omega), if_pos (by omega), hr, e47, e1]
    simp only [Option.bind_some]
    rw [e2]; simp only [Option.bind_some]
    rw [e3]; simp only [Option.bind_some]
    rcases hc with ⟨h1, h2⟩ | ⟨h1, h2, h3, h4⟩
    · rw [if_neg (by omega)]
      refine ⟨[], [], false, rfl, ?_, by simp, by simp⟩
      cases o with
      | false => rw [if_neg nf]
      | true =>
        rw [if_pos rfl]
        cases hp : p.2 with
        | false => rw [if_neg nf]
        | true =>
          rw [if_pos rfl]
          rw [hp] at h2
          have hq : q.2 = false := by simpa using h2
          rw [hq, if_neg nf]
    · rw [h1, h2, if_pos rfl, if_pos (show ((([u, v] : List ByteArray).length : Nat) : Int) = 2 from rfl), if_pos (show (0 : Int) < ((([u, v] : List ByteArray).length : Nat) : Int) by simp), show rdOf ByteArray.empty [u, v] 0 = u from rfl, show rdOf ByteArray.empty [u, v] 1 = v from rfl, h3]
      simp only [Option.bind_some]
      rw [if_pos (show (1 : Int) < ((([u, v] : List ByteArray).length : Nat) : Int) by simp), h4]
      simp only [Option.bind_some]
      cases hp : p.2 with
      | false => rw [if_neg nf, if_neg nf]; exact ⟨_, _, _, rfl, rfl, by simp, by simp⟩
      | true =>
        rw [if_pos rfl, if_pos rfl]
        cases hq : q.2 with
        | false => rw [if_neg nf, if_neg nf]; exact ⟨_, _, _, rfl, rfl, by simp, by simp⟩
        | true =>
          rw [if_pos rfl, if_pos rfl, if_pos (by omega), if_pos (by omega), if_pos (by omega), if_pos (by omega), wS (by omega)]
          exact ih (i + 1) _ _ (by omega) (by rw [List.length_append, List.length_singleton]; omega) (by rw [List.length_append, List.length_singleton]; omega) (by omega)
theorem read_reefing (s : ByteArray) (hs : s.size ≤ 1048576) : ∃ x y : List Int, ∃ z : Bool, spec_ReadReefing.F s = some (x, y, z) ∧ impl_ReadReefing.F s = some (x, y, z) ∧ x.length ≤ 6 ∧ y.length ≤ 6 := by
  rw [spec_ReadReefing.F_eq, impl_ReadReefing.F_eq]
  by_cases h : s.toList = [110, 111, 110, 101]
  · rw [if_pos h, if_pos h]; exact ⟨_, _, _, rfl, rfl, by simp, by simp⟩
  · have e32 : spec_l01Split.F s 32 = some (parts s 32) := spec_l01Split_val s 32 (by omega)
    rw [if_neg h, if_neg h, e32, strings_Split_val s 32 (by omega)]
    simp only [Option.bind_some]
    obtain ⟨g1, g2⟩ := parts_all 32 s.size s (Nat.le_refl _)
    exact read_loop (parts s 32) (fun x hx => by have := g2 x hx; omega) (by omega) (parts s 32).length 0 [] [] (by omega) (by simp) (by simp) (by omega)
/-- The numbers from k on. -/
def upFrom (k : Int) (n : Nat) : List Int := (List.range n).map fun (j : Nat) => k + (j : Int)
theorem laws_markInt64S_val (l : List Int) (k : Int) (h0 : 0 ≤ k) (h1 : k + l.length ≤ 4611686018427387904) : laws_markInt64S.F l k = some (k + l.length, upFrom k l.length) := by
  rw [laws_markInt64S.F_eq]
  have hlen : ∀ i, i ≤ l.length → (upFrom k i ++ l.drop i).length = l.length := fun i hi => by simp [upFrom]; omega
  have := iterF (fun (s : List Int × Int) i => laws_markInt64S.L0 s.1 s.2 i) l.length (fun i => (upFrom k i ++ l.drop i, k + (i : Int))) (fun i hi => by
    show laws_markInt64S.L0 _ _ _ = laws_markInt64S.L0 _ _ _
    have hl1 := hlen i (by omega)
    rw [laws_markInt64S.L0_eq, if_pos (by rw [hl1]; omega), if_pos (by omega), wS (by omega), w64 (by omega) (by omega), Int.toNat_natCast]
    have e1 : (upFrom k i ++ l.drop i).set i (k + (i : Int)) = upFrom k (i + 1) ++ l.drop (i + 1) := by
      have hlu : (upFrom k i).length = i := by simp [upFrom]
      rw [List.set_append, hlu, if_neg (Nat.lt_irrefl i), Nat.sub_self, List.drop_eq_getElem_cons hi, List.set_cons_zero]
      unfold upFrom
      rw [List.range_succ, List.map_append, List.append_assoc]
      rfl
    rw [e1]
    congr 1
    omega)
  have e0 : upFrom k 0 ++ l.drop 0 = l := by simp [upFrom]
  simp only [e0] at this
  rw [show k + ((0 : Nat) : Int) = k by omega] at this
  refine this.trans ?_
  rw [laws_markInt64S.L0_eq, if_neg (by rw [hlen l.length (Nat.le_refl _)]; omega)]
  simp
theorem laws_markReefing_val (a b : List Int) (k : Int) (h0 : 0 ≤ k) (h1 : k + a.length + b.length ≤ 4611686018427387904) : laws_markReefing.F a b k = some (k + a.length + b.length, upFrom k a.length, upFrom (k + a.length) b.length) := by
  rw [laws_markReefing.F_eq, laws_markInt64S_val a k h0 (by omega)]
  simp only [Option.bind_some]
  rw [laws_markInt64S_val b _ (by omega) (by omega)]
  rfl
theorem laws_heldInt64S_val (n : Nat) (k : Int) (h0 : 0 ≤ k) (h1 : k + n ≤ 4611686018427387904) : laws_heldInt64S.F (upFrom k n) k = some (k + n) := by
  rw [laws_heldInt64S.F_eq]
  have hlen : (upFrom k n).length = n := by simp [upFrom]
  have := iterF (fun (s : Int) i => laws_heldInt64S.L0 (upFrom k n) s i) n (fun i => k + (i : Int)) (fun i hi => by
    show laws_heldInt64S.L0 _ _ _ = laws_heldInt64S.L0 _ _ _
    have hr : rd (upFrom k n) (i : Int) = k + (i : Int) := by
      rw [rd_get _ i (by omega)]
      simp [upFrom]
    rw [laws_heldInt64S.L0_eq, if_pos (by rw [hlen]; omega), if_pos (by omega), hr, if_pos rfl, wS (by omega), w64 (by omega) (by omega)]
    congr 1
    omega)
  rw [show k + ((0 : Nat) : Int) = k by omega] at this
  refine this.trans ?_
  show laws_heldInt64S.L0 _ _ _ = _
  rw [laws_heldInt64S.L0_eq, if_neg (by rw [hlen]; omega)]
theorem laws_heldReefing_val (n m : Nat) (k : Int) (h0 : 0 ≤ k) (h1 : k + n + m ≤ 4611686018427387904) : laws_heldReefing.F (upFrom k n) (upFrom (k + n) m) k = some (k + n + m) := by
  rw [laws_heldReefing.F_eq, laws_heldInt64S_val n k h0 (by omega)]
  simp only [Option.bind_some]
  rw [if_neg (by omega), laws_heldInt64S_val m _ (by omega) (by omega)]
  simp only [Option.bind_some]
  rw [if_neg (by omega)]
theorem laws_eqInt64S_val (l : List Int) (hl : l.length < 4611686018427387904) : laws_eqInt64S.F l l = some true := by
  rw [laws_eqInt64S.F_eq, if_pos rfl]
  have := allLoop l (fun _ => true) (fun i => laws_eqInt64S.L0 l l i) true (fun i hi => by
    show laws_eqInt64S.L0 l l i = _
    rw [laws_eqInt64S.L0_eq, if_pos (by omega), if_pos (by omega), if_pos (by omega), wS (by omega)]
    simp) (by
    show laws_eqInt64S.L0 l l _ = _
    rw [laws_eqInt64S.L0_eq, if_neg (by omega)])
  rw [this]; simp
theorem laws_eqReefing_val (a b : List Int) (ha : a.length ≤ 1048576) (hb : b.length ≤ 1048576) : laws_eqReefing.F a b a b = some true := by
  rw [laws_eqReefing.F_eq, laws_eqInt64S_val a (by omega)]
  simp only [Option.bind_some]
  rw [laws_eqInt64S_val b (by omega)]
  rfl
theorem pure_FnExactReadReefing : laws_FnExactReadReefing.Pure := by
  intro s hs
  refine of_lim (g := fun k => laws_FnExactReadReefing.f k s) ?_
  show laws_FnExactReadReefing.F s = some true
  by_cases h : (s.size : Int) > 1048576
  · rw [laws_FnExactReadReefing.F_eq, if_pos h]
  · obtain ⟨x, y, z, e1, e2, hx, hy⟩ := read_reefing s (by omega)
    have e3 := laws_eqReefing_val x y (by omega) (by omega)
    have e4 := laws_markReefing_val x y 1 (by omega) (by omega)
    have e5 := laws_heldReefing_val x.length y.length 1 (by omega) (by omega)
    have n1 : ¬ (1 + (x.length : Int) + (y.length : Int) < 0) := by omega
    simp [laws_FnExactReadReefing.F_eq, laws_FnExactReadReefing.J0_eq, laws_FnExactReadReefing.J1_eq, h, e1, e2, e3, e4, e5, n1]
end Go.Proofs.YtbhijlhlopljmaaDoor.PFnExactReadReefing
namespace Go.Proofs.YtbhijlhlopljmaaDoor.Pure
theorem FnExactReadReefing : PFnExactReadReefing.laws_FnExactReadReefing.Pure := PFnExactReadReefing.pure_FnExactReadReefing
end Go.Proofs.YtbhijlhlopljmaaDoor.Pure
