/-
  The pure side of FnExactNoteText: the program's NoteText gives what the reference's gives. No conditions.
-/
import Derived.Test.YtbhijlhlopljmaaDoorQFnExactNoteText
set_option linter.unusedVariables false
set_option linter.unusedSimpArgs false
set_option linter.unnecessarySimpa false
namespace Go.Proofs.YtbhijlhlopljmaaDoor.PFnExactNoteText
open Go.RowKit Go.Proofs.YtbhijlhlopljmaaDoor.Kit Go.Proofs.YtbhijlhlopljmaaDoorW.PrintWords Go.Proofs.YtbhijlhlopljmaaDoorW.PrintLast Go.Proofs.YtbhijlhlopljmaaDoorW.PrintMore

/-- A number's decimal form. -/
def dec (n : Int) : ByteArray := ⟨(Lib.itoa n).toArray⟩
def digN (u : Nat) : List Int := (Lib.decDigits u).map fun b => (b.toNat : Int)
theorem digN_small {u : Nat} (h : u < 10) : digN u = [48 + (u : Int)] := by
  unfold digN
  rw [Lib.decDigits_one h, List.map_cons, List.map_nil]
  congr 1
  rw [UInt8.toNat_ofNat_of_lt' (by show 48 + u < 256; omega)]
  push_cast; rfl
theorem digN_big {u : Nat} (h : ¬ u < 10) : digN u = digN (u / 10) ++ [48 + ((u % 10 : Nat) : Int)] := by
  unfold digN
  rw [Lib.decDigits, dif_neg h, List.map_append, List.map_cons, List.map_nil, UInt8.toNat_ofNat_of_lt' (by show 48 + u % 10 < 256; omega)]
  push_cast; rfl
theorem nD_le (k : Nat) : ∀ u, u < 10 ^ (k + 1) → Lib.nDigits u ≤ k + 1 := by
  induction k with
  | zero => intro u h; rw [Lib.nDigits_small (by omega)]; omega
  | succ k ih =>
    intro u h
    by_cases hu : u < 10
    · rw [Lib.nDigits_small hu]; omega
    · rw [Lib.nDigits_big hu]
      have := ih (u / 10) (by rw [Nat.pow_succ] at h; omega)
      omega
theorem nD_20 (u : Nat) (h : u < 18446744073709551616) : Lib.nDigits u ≤ 20 := nD_le 19 u (by omega)
theorem nD_1 (u : Nat) : 1 ≤ Lib.nDigits u := by
  by_cases h : u < 10
  · rw [Lib.nDigits_small h]; omega
  · rw [Lib.nDigits_big h]; omega
theorem digN_len (u : Nat) : (digN u).length = Lib.nDigits u := by unfold digN; rw [List.length_map, Lib.decDigits_length]
theorem digN_str (u : Nat) : strOfNums (digN u) = ⟨(Lib.decDigits u).toArray⟩ := by
  unfold digN strOfNums
  rw [List.map_map]
  congr 2
  rw [show ((fun z : Int => UInt8.ofNat z.toNat) ∘ fun b : UInt8 => (b.toNat : Int)) = id from funext fun b => by simp]
  exact List.map_id _
theorem itoa_len (n : Int) (h0 : -9223372036854775808 ≤ n) (h1 : n ≤ 9223372036854775807) : (dec n).size ≤ 21 := by
  show (Lib.itoa n).toArray.size ≤ 21
  rw [List.size_toArray]
  by_cases hneg : n < 0
  · obtain ⟨u, rfl⟩ : ∃ u : Nat, n = -(u : Int) := ⟨n.natAbs, by omega⟩
    rw [Lib.itoa_neg u (by omega), List.length_cons, Lib.decDigits_length]
    have := nD_20 u (by omega)
    omega
  · obtain ⟨u, rfl⟩ : ∃ u : Nat, n = u := ⟨n.toNat, by omega⟩
    rw [Lib.itoa_nonneg, Lib.decDigits_length]
    have := nD_20 u (by omega)
    omega
theorem l01Dec_loop (n : Int) (u : Nat) : ∀ (k : Int) (out : List Int), k.natAbs = u → u ≠ 0 → -9223372036854775808 ≤ k → k ≤ 9223372036854775807 → out.length + Lib.nDigits u ≤ 1000 → spec_l01Dec.L0 n out k = spec_l01Dec.L0 n (digN u ++ out) 0 := by
  induction u using Nat.strongRecOn with
  | _ u ih =>
    intro k out hk hu h0 h1 hl
    have hd := nD_1 u
    have hm : (Int.tmod k 10).natAbs = u % 10 := by rw [Int.natAbs_tmod, hk]; rfl
    have hq : (Int.tdiv k 10).natAbs = u / 10 := by rw [Int.natAbs_tdiv, hk]; rfl
    have hstep : spec_l01Dec.L0 n out k = spec_l01Dec.L0 n ([48 + ((u % 10 : Nat) : Int)] ++ out) (Int.tdiv k 10) := by
      rw [spec_l01Dec.L0_eq, if_neg (by omega)]
      simp only [Option.bind_some]
      rw [w64 (n := Int.tdiv k 10) (by omega) (by omega)]
      by_cases h : Int.tmod k 10 < 0
      · rw [if_pos h, w64 (n := -(Int.tmod k 10)) (by omega) (by omega), w64 (by omega) (by omega), show (48 + -(Int.tmod k 10)) % 256 = 48 + ((u % 10 : Nat) : Int) by omega, if_pos (by simp only [List.length_singleton]; omega)]
      · rw [if_neg h, w64 (n := 48 + Int.tmod k 10) (by omega) (by omega), show (48 + (Int.tmod k 10)) % 256 = 48 + ((u % 10 : Nat) : Int) by omega, if_pos (by simp only [List.length_singleton]; omega)]
    rw [hstep]
    by_cases h : u < 10
    · rw [digN_small h, show Int.tdiv k 10 = 0 by omega, show u % 10 = u by omega]
    · rw [Lib.nDigits_big h] at hl
      rw [ih (u / 10) (by omega) (Int.tdiv k 10) _ hq (by omega) (by omega) (by omega) (by rw [List.length_append, List.length_singleton]; omega), digN_big h, List.append_assoc]
theorem spec_l01Dec_val (n : Int) (h0 : -9223372036854775808 ≤ n) (h1 : n ≤ 9223372036854775807) : spec_l01Dec.F n = some (dec n) := by
  rw [spec_l01Dec.F_eq]
  by_cases hz : n = 0
  · subst hz
    rw [spec_l01Dec.L0_eq, if_pos rfl, if_pos (by simp)]
    unfold dec
    rw [show (0 : Int) = ((0 : Nat) : Int) from rfl, Lib.itoa_nonneg, Lib.decDigits_one (by omega)]
    rfl
  · have hl := nD_20 n.natAbs (by omega)
    have hd := nD_1 n.natAbs
    have hz2 := digN_len n.natAbs
    have hsz : (strOfNums (digN n.natAbs)).size = Lib.nDigits n.natAbs := by rw [digN_str]; show (Lib.decDigits _).toArray.size = _; rw [List.size_toArray, Lib.decDigits_length]
    rw [l01Dec_loop n n.natAbs n [] rfl (by omega) h0 h1 (by simp only [List.length_nil]; omega), List.append_nil, spec_l01Dec.L0_eq, if_pos rfl, if_neg (by omega)]
    unfold dec
    by_cases hneg : n < 0
    · rw [if_pos hneg, if_pos (by rw [hsz]; omega), digN_str]
      have e : Lib.itoa n = 45 :: Lib.decDigits n.natAbs := by unfold Lib.itoa; rw [if_pos hneg]
      rw [e]
      congr 1
    · have e : Lib.itoa n = Lib.decDigits n.natAbs := by unfold Lib.itoa; rw [if_neg hneg, show n.toNat = n.natAbs by omega]
      rw [if_neg hneg, digN_str, e]
theorem impl_Decimal_val (n : Int) (h0 : -9223372036854775808 ≤ n) (h1 : n ≤ 9223372036854775807) : impl_Decimal.f n = some (dec n) := by
  unfold impl_Decimal.f strconv_FormatInt.f
  rw [if_pos ⟨rfl, h0, h1⟩]
  rfl
def inB (n a b : Int) : Bool := decide (a ≤ n) && decide (n ≤ b)
theorem inB_iff (n a b : Int) : inB n a b = true ↔ a ≤ n ∧ n ≤ b := by simp [inB]
theorem inB_no (n a b : Int) : inB n a b = false ↔ ¬ (a ≤ n ∧ n ≤ b) := by rw [← inB_iff]; simp
theorem spec_l00In_val (n a b : Int) : spec_l00In.f n a b = some (inB n a b) := by
  unfold spec_l00In.f inB
  by_cases h : n ≥ a
  · rw [if_pos h]; simp [show a ≤ n from h]
  · rw [if_neg h]; simp; omega
theorem impl_within_val (n a b : Int) : impl_within.f n a b = some (inB n a b) := by
  unfold impl_within.f inB
  by_cases h : n ≥ a
  · rw [if_pos h]; simp [show a ≤ n from h]
  · rw [if_neg h]; simp; omega
theorem pure_FnExactNoteText : laws_FnExactNoteText.Pure := by
  intro a b ha hb
  have ra := wf_range ha
  have rb := wf_range hb
  refine of_lim (g := fun k => laws_FnExactNoteText.f k a b) ?_
  show laws_FnExactNoteText.F a b = some true
  obtain ⟨y, e1, e2⟩ : ∃ y, spec_NoteText.F a b = some y ∧ impl_NoteText.f a b = some y := by
    rw [spec_NoteText.F_eq]
    unfold impl_NoteText.f
    rw [spec_l00In_val, impl_within_val, spec_l00In_val, impl_within_val, spec_l01Dec_val a ra.1 ra.2, impl_Decimal_val a ra.1 ra.2]
    simp only [Option.bind_some]
    have hs := itoa_len a ra.1 ra.2
    generalize dec a = D at hs
    by_cases h1 : inB a 1 3001 = true
    · rw [if_pos h1, if_pos h1]
      by_cases h2 : inB b 1 8 = true
      · rw [if_pos h2, if_pos h2]
        rw [inB_iff] at h2
        have hD : D.size + 2 ≤ 9223372036854775807 := by omega
        simp only [if_pos hD]
        have key : ∀ (l : List ByteArray) (i : Int), 0 ≤ i → i < (l.length : Int) → (rdOf ByteArray.empty l i).size ≤ 100 → (if 0 ≤ i then (if i < (l.length : Int) then (if D.size + 2 + (rdOf ByteArray.empty l i).size ≤ 9223372036854775807 then some (D ++ (⟨#[58, 32]⟩ : ByteArray) ++ rdOf ByteArray.empty l i) else none) else none) else none) = some (D ++ (⟨#[58, 32]⟩ : ByteArray) ++ rdOf ByteArray.empty l i) := fun l i q1 q2 q3 => by
          rw [if_pos q1, if_pos q2, if_pos (by omega)]
        rw [w64 (n := b - 1) (by omega) (by omega)]
        have h3 : b = 1 ∨ b = 2 ∨ b = 3 ∨ b = 4 ∨ b = 5 ∨ b = 6 ∨ b = 7 ∨ b = 8 := by omega
        rcases h3 with rfl | rfl | rfl | rfl | rfl | rfl | rfl | rfl <;>
        · rw [key _ _ (by decide) (by decide) (by decide), key _ _ (by decide) (by decide) (by decide)]
          exact ⟨_, rfl, rfl⟩
      · rw [if_neg h2, if_neg h2]; exact ⟨_, rfl, rfl⟩
    · rw [if_neg h1, if_neg h1]; exact ⟨_, rfl, rfl⟩
  simp [laws_FnExactNoteText.F_eq, laws_toNote.f, e1, e2]
end Go.Proofs.YtbhijlhlopljmaaDoor.PFnExactNoteText
namespace Go.Proofs.YtbhijlhlopljmaaDoor.Pure
theorem FnExactNoteText : PFnExactNoteText.laws_FnExactNoteText.Pure := PFnExactNoteText.pure_FnExactNoteText
end Go.Proofs.YtbhijlhlopljmaaDoor.Pure
