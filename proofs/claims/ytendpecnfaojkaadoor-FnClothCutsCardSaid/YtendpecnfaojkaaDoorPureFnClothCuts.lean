/-
  The pure side of FnClothCuts: what the search tells lies well, and no drawn places are on fewer bolts. No conditions.
-/
import Derived.Test.YtendpecnfaojkaaDoorQFnClothCuts
set_option linter.unusedVariables false
set_option linter.unusedSimpArgs false
set_option linter.unnecessarySimpa false
namespace Go.Proofs.YtendpecnfaojkaaDoor.PFnClothCuts
open Go.RowKit Go.Proofs.YtendpecnfaojkaaDoor.Kit Go.Proofs.YtendpecnfaojkaaDoorW.PrintWords Go.Proofs.YtendpecnfaojkaaDoorW.PrintLast Go.Proofs.YtendpecnfaojkaaDoorW.PrintMore

/-- The bytes that a source reads. -/
def Src (c : List Int) : Prop := c.length ≤ 1048576 ∧ ∀ y ∈ c, 0 ≤ y ∧ y ≤ 255
theorem and255 (x : Int) : 0 ≤ Go.bits .and .u64 x 255 ∧ Go.bits .and .u64 x 255 ≤ 255 := by
  have h : (BitVec.ofInt 64 x &&& BitVec.ofInt 64 255).toNat ≤ 255 := by
    rw [BitVec.toNat_and]
    exact Nat.le_trans Nat.and_le_right (by decide)
  have e : Go.bits .and .u64 x 255 = IntKind.u64.wrap ((BitVec.ofInt 64 x &&& BitVec.ofInt 64 255).toNat : Int) := rfl
  rw [e, IntKind.wrap_u64]
  omega
theorem next_val {c : List Int} (hc : Src c) (at_ seed : Int) (h0 : 0 ≤ at_) (h1 : at_ ≤ 4000000000000000000) : ∃ x sd, spec_l00Src_next.f c at_ seed = some (x, at_ + 1, sd) ∧ 0 ≤ x ∧ x ≤ 255 := by
  unfold spec_l00Src_next.f
  by_cases hb : at_ < (c.length : Int)
  · obtain ⟨j, rfl⟩ : ∃ j : Nat, at_ = j := ⟨at_.toNat, by omega⟩
    have hj : j < c.length := by omega
    have hy := hc.2 c[j] (List.getElem_mem hj)
    have hle : wrap64 ((j : Int) + 1) ≤ (c.length : Int) := by rw [w64 (by omega) (by omega)]; omega
    rw [if_pos hb, if_pos h0, if_pos hle, rd_get c j hj, w64 (n := (j : Int) + 1) (by omega) (by omega), w64 (n := c[j]) (by omega) (by omega)]
    exact ⟨_, _, rfl, hy.1, hy.2⟩
  · have hle : ¬ wrap64 (at_ + 1) ≤ (c.length : Int) := by rw [w64 (by omega) (by omega)]; omega
    rw [if_neg hb, if_neg hle, w64 (n := at_ + 1) (by omega) (by omega)]
    refine ⟨_, _, rfl, ?_⟩
    have h := and255 ((IntKind.u64.wrap ((IntKind.u64.wrap ((IntKind.u64.wrap (seed * 6364136223846793005)) + 0)) + 1442695040888963407)) / 1099511627776)
    rw [w64 (by omega) (by omega)]
    exact h
theorem src_bytes {c : List Int} (h : c.length ≤ 9223372036854775807 ∧ ∀ y0 ∈ c, (Lit.int .u8 y0).wf = true) (hl : c.length ≤ 1048576) : Src c := ⟨hl, fun y hy => by
  have h1 := h.2 y hy
  have h2 : IntKind.u8.min ≤ y ∧ y ≤ IntKind.u8.max := by simpa [Lit.wf] using h1
  exact h2⟩
def inB (n a b : Int) : Bool := decide (a ≤ n) && decide (n ≤ b)
theorem inB_iff (n a b : Int) : inB n a b = true ↔ a ≤ n ∧ n ≤ b := by simp [inB]
theorem inB_no (n a b : Int) : inB n a b = false ↔ ¬ (a ≤ n ∧ n ≤ b) := by rw [← inB_iff]; simp
/-- At a place: within bounds, and more than the number before it. -/
def riseAt (l : List Int) (a b : Int) (i : Nat) : Bool := inB (rd l (i : Int)) a b && (decide (i = 0) || decide (rd l ((i : Int) - 1) < rd l (i : Int)))
theorem riseAt_def (l : List Int) (a b : Int) (i : Nat) : riseAt l a b i = (inB (rd l (i : Int)) a b && (decide (i = 0) || decide (rd l ((i : Int) - 1) < rd l (i : Int)))) := rfl
def rises (l : List Int) (a b : Int) : Bool := (List.range l.length).all (riseAt l a b)
theorem rises_iff (l : List Int) (a b : Int) : rises l a b = true ↔ ∀ i : Nat, i < l.length → (a ≤ rd l i ∧ rd l i ≤ b) ∧ (0 < i → rd l ((i : Int) - 1) < rd l i) := by
  unfold rises
  rw [List.all_eq_true]
  constructor
  · intro h i hi
    have := h i (List.mem_range.2 hi)
    rw [riseAt_def, Bool.and_eq_true, inB_iff, Bool.or_eq_true] at this
    refine ⟨this.1, fun h0 => ?_⟩
    rcases this.2 with h2 | h2
    · exact absurd (of_decide_eq_true h2) (by omega)
    · exact of_decide_eq_true h2
  · intro h i hi
    have := h i (List.mem_range.1 hi)
    rw [riseAt_def, Bool.and_eq_true, inB_iff, Bool.or_eq_true]
    refine ⟨this.1, ?_⟩
    by_cases h0 : i = 0
    · left; simp [h0]
    · right; exact decide_eq_true (this.2 (by omega))
/-- A valid bolt. -/
def boltOk (b : S50) : Bool := inB b.f0 1 10000 && (decide (b.f1.length ≤ 6) && rises b.f1 1 (b.f0 - 1))
theorem boltOk_def (b : S50) : boltOk b = (inB b.f0 1 10000 && (decide (b.f1.length ≤ 6) && rises b.f1 1 (b.f0 - 1))) := rfl
def boltsOk (l : List S50) : Bool := l.all boltOk && decide (l.length ≤ 4)
theorem boltsOk_iff (l : List S50) : boltsOk l = true ↔ (∀ b ∈ l, boltOk b = true) ∧ l.length ≤ 4 := by
  unfold boltsOk
  rw [Bool.and_eq_true, List.all_eq_true, decide_eq_true_iff]
theorem boltOk_vals {b : S50} (h : boltOk b = true) : 1 ≤ b.f0 ∧ b.f0 ≤ 10000 ∧ b.f1.length ≤ 6 ∧ ∀ i : Nat, i < b.f1.length → (1 ≤ rd b.f1 i ∧ rd b.f1 i ≤ b.f0 - 1) ∧ (0 < i → rd b.f1 ((i : Int) - 1) < rd b.f1 i) := by
  rw [boltOk_def, Bool.and_eq_true, Bool.and_eq_true, inB_iff, decide_eq_true_iff, rises_iff] at h
  exact ⟨h.1.1, h.1.2, h.2.1, h.2.2⟩
theorem pick_val {c : List Int} (hc : Src c) (at_ seed n : Int) (h0 : 0 ≤ at_) (h1 : at_ ≤ 1000000000000000000) : ∃ x a sd, spec_l00Src_pick.f c at_ seed n = some (x, a, sd) ∧ at_ ≤ a ∧ a ≤ at_ + 2 ∧ 0 ≤ x ∧ (1 ≤ n → x < n) ∧ (n ≤ 1 → x = 0) := by
  unfold spec_l00Src_pick.f
  by_cases hn : n ≤ 1
  · rw [if_pos hn]
    exact ⟨0, at_, seed, rfl, by omega, by omega, by omega, by omega, by omega⟩
  · obtain ⟨x, sd, e, hx0, hx1⟩ := next_val hc at_ seed h0 (by omega)
    have hn0 : ¬ n = 0 := by omega
    rw [if_neg hn, e]
    simp only [Option.bind_some]
    by_cases hm : n > 200
    · obtain ⟨y, sd2, e2, hy0, hy1⟩ := next_val hc (at_ + 1) sd (by omega) (by omega)
      rw [if_pos hm, e2]
      simp only [Option.bind_some]
      rw [if_neg hn0, w64 (n := x * 256) (by omega) (by omega), w64 (n := x * 256 + y) (by omega) (by omega), Int.tmod_eq_emod_of_nonneg (by omega)]
      exact ⟨_, _, _, rfl, by omega, by omega, Int.emod_nonneg _ hn0, fun _ => Int.emod_lt_of_pos _ (by omega), fun h => absurd h hn⟩
    · rw [if_neg hm, if_neg hn0, Int.tmod_eq_emod_of_nonneg (by omega)]
      exact ⟨_, _, _, rfl, by omega, by omega, Int.emod_nonneg _ hn0, fun _ => Int.emod_lt_of_pos _ (by omega), fun h => absurd h hn⟩
theorem inc_snoc {l : List Int} {y : Int} (h : ∀ i (h : i + 1 < l.length), l[i] < l[i + 1]) (hy : ∀ x ∈ l, x < y) : ∀ i (h : i + 1 < (l ++ [y]).length), (l ++ [y])[i] < (l ++ [y])[i + 1] := by
  intro i hi
  rw [List.length_append] at hi
  simp only [List.length_cons, List.length_nil] at hi
  by_cases h1 : i + 1 < l.length
  · rw [List.getElem_append_left (by omega), List.getElem_append_left h1]
    exact h i h1
  · have h2 : i + 1 = l.length := by omega
    rw [List.getElem_append_left (by omega), List.getElem_append_right (by omega)]
    simp only [h2, Nat.sub_self, List.getElem_cons_zero]
    exact hy _ (List.getElem_mem _)
theorem bolt_of_inc {x : Int} {l : List Int} (h1 : 1 ≤ x) (h2 : x ≤ 10000) (hl : l.length ≤ 6) (hi : ∀ i (h : i + 1 < l.length), l[i] < l[i + 1]) (hy : ∀ y ∈ l, 1 ≤ y ∧ y < x) : boltOk ⟨x, l⟩ = true := by
  rw [boltOk_def, Bool.and_eq_true, Bool.and_eq_true, inB_iff, decide_eq_true_iff, rises_iff]
  refine ⟨⟨h1, h2⟩, hl, fun i hl2 => ?_⟩
  show (1 ≤ rd l (i : Int) ∧ rd l (i : Int) ≤ x - 1) ∧ (0 < i → rd l ((i : Int) - 1) < rd l (i : Int))
  replace hl2 : i < l.length := hl2
  rw [rd_get l i hl2]
  have := hy _ (List.getElem_mem hl2)
  refine ⟨by omega, fun h0 => ?_⟩
  obtain ⟨j, rfl⟩ : ∃ j, i = j + 1 := ⟨i - 1, by omega⟩
  rw [show ((j + 1 : Nat) : Int) - 1 = ((j : Nat) : Int) by omega, rd_get l j (by omega)]
  exact hi j hl2
theorem new_loop {c : List Int} (hc : Src c) (x : Int) (hx0 : 20 ≤ x) (hx1 : x ≤ 210) (d : Nat) : ∀ (k o a s : Int) (l : List Int), k = d → (l.length : Int) + k ≤ 2 → 0 ≤ o → o + 200 * k ≤ 1000 → 0 ≤ a → a + 2 * k ≤ 100000 → (∀ i (h : i + 1 < l.length), l[i] < l[i + 1]) → (∀ y ∈ l, 1 ≤ y ∧ y ≤ o ∧ y < x) → ∃ l' a' s', spec_l16New.L0 o k c a s x l = some (x, l', a', s') ∧ boltOk ⟨x, l'⟩ = true ∧ a ≤ a' ∧ a' ≤ a + 2 * k := by
  induction d with
  | zero =>
    intro k o a s l hk hl ho0 ho1 ha0 ha1 hi hy
    rw [spec_l16New.L0_eq, if_neg (by omega)]
    exact ⟨l, a, s, rfl, bolt_of_inc (by omega) (by omega) (by omega) hi (fun y h => by have := hy y h; omega), by omega, by omega⟩
  | succ d ih =>
    intro k o a s l hk hl ho0 ho1 ha0 ha1 hi hy
    have ht : Int.tdiv x 2 = x / 2 := Int.tdiv_eq_ediv_of_nonneg (by omega)
    obtain ⟨r, a1, s1, e1, b1, b2, b3, b4, _⟩ := pick_val hc a s (x / 2) ha0 (by omega)
    have b5 := b4 (by omega)
    have h2 : l.length < 17592186044416 := by omega
    rw [spec_l16New.L0_eq, if_pos (by omega), ht, w64 (n := x / 2) (by omega) (by omega), e1]
    simp only [Option.bind_some]
    rw [w64 (n := 1 + r) (by omega) (by omega), w64 (n := o + (1 + r)) (by omega) (by omega), w64 (n := k - 1) (by omega) (by omega)]
    by_cases hlt : o + (1 + r) < x
    · rw [if_pos hlt, if_pos h2]
      obtain ⟨l', a', s', e2, h3, h4, h5⟩ := ih (k - 1) (o + (1 + r)) a1 s1 (l ++ [o + (1 + r)]) (by omega) (by rw [List.length_append]; simp; omega) (by omega) (by omega) (by omega) (by omega) (inc_snoc hi (fun y h => by have := hy y h; omega)) (fun y h => by
        rcases List.mem_append.1 h with h | h
        · have := hy y h; omega
        · rw [List.mem_singleton.1 h]; omega)
      exact ⟨l', a', s', e2, h3, by omega, by omega⟩
    · rw [if_neg hlt]
      obtain ⟨l', a', s', e2, h3, h4, h5⟩ := ih (k - 1) (o + (1 + r)) a1 s1 l (by omega) (by omega) (by omega) (by omega) (by omega) (by omega) hi (fun y h => by have := hy y h; omega)
      exact ⟨l', a', s', e2, h3, by omega, by omega⟩
theorem l16New_val {c : List Int} (hc : Src c) (a s : Int) (ha0 : 0 ≤ a) (ha1 : a ≤ 90000) : ∃ x l a' s', spec_l16New.F c a s = some (x, l, a', s') ∧ boltOk ⟨x, l⟩ = true ∧ 20 ≤ x ∧ a ≤ a' ∧ a' ≤ a + 8 := by
  rw [spec_l16New.F_eq]
  obtain ⟨x, a1, s1, e1, b1, b2, b3, b4, _⟩ := pick_val hc a s 20 ha0 (by omega)
  have b5 := b4 (by omega)
  rw [e1]; simp only [Option.bind_some]
  obtain ⟨k, a2, s2, e2, c1, c2, c3, c4, _⟩ := pick_val hc a1 s1 3 (by omega) (by omega)
  have c5 := c4 (by omega)
  rw [e2]; simp only [Option.bind_some]
  rw [w64 (n := 10 * x) (by omega) (by omega), w64 (n := 20 + 10 * x) (by omega) (by omega)]
  obtain ⟨l', a', s', e3, h1, h2, h3⟩ := new_loop hc (20 + 10 * x) (by omega) (by omega) k.toNat k 0 a2 s2 [] (by omega) (by show (0 : Int) + k ≤ 2; omega) (by omega) (by omega) (by omega) (by omega) (fun i h => by simp at h) (by simp)
  exact ⟨_, l', a', s', e3, h1, by omega, by omega, by omega⟩
theorem bolts_tail2 {c : List Int} (hc : Src c) (m : List S50) (d : Nat) : ∀ (k a s : Int) (out : List Int), k = d → (out.length : Int) + k ≤ 5 → 0 ≤ a → a + 4 * k ≤ 100000 → (∀ x ∈ out, 1 ≤ x ∧ x ≤ 10000) → ∃ ps, spec_A2Bolts.L1 m out k c a s = some (m, ps) ∧ ps.length ≤ 5 ∧ (∀ x ∈ ps, 1 ≤ x ∧ x ≤ 10000) := by
  induction d with
  | zero =>
    intro k a s out hk hl ha0 ha1 hx
    rw [spec_A2Bolts.L1_eq, if_neg (by omega)]
    exact ⟨out, rfl, by omega, hx⟩
  | succ d ih =>
    intro k a s out hk hl ha0 ha1 hx
    obtain ⟨r, a1, s1, e1, b1, b2, b3, b4, _⟩ := pick_val hc a s 16 ha0 (by omega)
    have b5 := b4 (by omega)
    have h2 : out.length < 17592186044416 := by omega
    rw [spec_A2Bolts.L1_eq, if_pos (by omega), e1]
    simp only [Option.bind_some]
    rw [if_pos h2, w64 (n := k - 1) (by omega) (by omega)]
    refine ih (k - 1) a1 s1 _ (by omega) (by rw [List.length_append]; simp; omega) (by omega) (by omega) (fun x hxx => ?_)
    rcases List.mem_append.1 hxx with h | h
    · exact hx x h
    · rw [List.mem_singleton.1 h, w64 (n := 1 + r) (by omega) (by omega), w64 (n := 5 * (1 + r)) (by omega) (by omega)]
      omega
theorem bolts_loop2 {c : List Int} (hc : Src c) (d : Nat) : ∀ (k a s : Int) (m : List S50), k = d → (m.length : Int) + k ≤ 3 → 0 ≤ a → a + 10 * k ≤ 50000 → (∀ b ∈ m, boltOk b = true ∧ 20 ≤ b.f0) → ∃ m' ps, spec_A2Bolts.L0 m k c a s = some (m', ps) ∧ m'.length ≤ 3 ∧ (∀ b ∈ m', boltOk b = true ∧ 20 ≤ b.f0) ∧ ps.length ≤ 5 ∧ (∀ x ∈ ps, 1 ≤ x ∧ x ≤ 10000) := by
  induction d with
  | zero =>
    intro k a s m hk hl ha0 ha1 hm
    rw [spec_A2Bolts.L0_eq, if_neg (by omega)]
    obtain ⟨r, a1, s1, e1, b1, b2, b3, b4, _⟩ := pick_val hc a s 5 ha0 (by omega)
    have b5 := b4 (by omega)
    rw [e1]
    simp only [Option.bind_some]
    obtain ⟨ps, e2, e3, e4⟩ := bolts_tail2 hc m r.toNat r a1 s1 [] (by omega) (by show (0 : Int) + r ≤ 5; omega) (by omega) (by omega) (by simp)
    exact ⟨m, ps, e2, by omega, hm, e3, e4⟩
  | succ d ih =>
    intro k a s m hk hl ha0 ha1 hm
    obtain ⟨x, l, a1, s1, e1, b1, b2, b3, b4⟩ := l16New_val hc a s ha0 (by omega)
    have h2 : m.length < 4398046511104 := by omega
    rw [spec_A2Bolts.L0_eq, if_pos (by omega), e1]
    simp only [Option.bind_some]
    rw [if_pos h2, w64 (n := k - 1) (by omega) (by omega)]
    exact ih (k - 1) a1 s1 _ (by omega) (by rw [List.length_append]; simp; omega) (by omega) (by omega) (fun b hb => by
      rcases List.mem_append.1 hb with h | h
      · exact hm b h
      · rw [List.mem_singleton.1 h]; exact ⟨b1, b2⟩)
theorem A2Bolts_val2 {c : List Int} (hc : Src c) : ∃ m ps, spec_A2Bolts.F c = some (m, ps) ∧ m.length ≤ 3 ∧ (∀ b ∈ m, boltOk b = true ∧ 20 ≤ b.f0) ∧ ps.length ≤ 5 ∧ (∀ x ∈ ps, 1 ≤ x ∧ x ≤ 10000) := by
  rw [spec_A2Bolts.F_eq]
  unfold spec_l00From.f
  simp only [Option.bind_some]
  obtain ⟨k, a1, s1, e1, b1, b2, b3, b4, _⟩ := pick_val hc 0 0 4 (by omega) (by omega)
  have b5 := b4 (by omega)
  rw [e1]; simp only [Option.bind_some]
  exact bolts_loop2 hc k.toNat k a1 s1 [] (by omega) (by show (0 : Int) + k ≤ 3; omega) (by omega) (by omega) (by simp)
namespace BoltCore
section
variable {S α κ : Type} (m : Nat) (ok : Int → S → Nat → Bool) (st : Int → S → Nat → S) (pc : S → Nat → α) (cnt : S → Nat) (fresh : S → Nat → Bool) (key : List Int → S → κ)
variable (R : List Int → S → Prop)
theorem all_cnt (hR : ∀ p ps s k, R (p :: ps) s → k < m → ok p s k = true → R ps (st p s k)) (hc : ∀ p ps s k, R (p :: ps) s → k < m → ok p s k = true → cnt (st p s k) = cnt s + (if fresh s k = true then 1 else 0)) : ∀ ps s, R ps s → ∀ z ∈ all m ok st pc ps s, cnt s ≤ cnt z.2
  | [], s, _, z, h => by simp [all] at h; subst h; exact Nat.le_refl _
  | p :: ps, s, r, z, h => by
    simp only [all, List.mem_flatMap, List.mem_range] at h
    obtain ⟨k, hk, h⟩ := h
    split at h
    · rename_i ho
      obtain ⟨y, hy, rfl⟩ := List.mem_map.1 h
      have := all_cnt hR hc ps _ (hR p ps s k r hk ho) y hy
      rw [hc p ps s k r hk ho] at this
      show cnt s ≤ cnt y.2
      omega
    · cases h
def Good (most : Nat) (D : List κ) : Prop := ∀ ps s, R ps s → cnt s ≤ most → key ps s ∈ D → ∀ z ∈ all m ok st pc ps s, most < cnt z.2
theorem tryK_eq (hR : ∀ p ps s k, R (p :: ps) s → k < m → ok p s k = true → R ps (st p s k)) (hc : ∀ p ps s k, R (p :: ps) s → k < m → ok p s k = true → cnt (st p s k) = cnt s + (if fresh s k = true then 1 else 0)) (most : Nat) (p : Int) (ps : List Int) (s : S) (r : R (p :: ps) s) (hs : cnt s ≤ most) (rec : S → List κ → Option (List α × S) × List κ)
    (hrec : ∀ s D, R ps s → cnt s ≤ most → Good m ok st pc cnt key R most D → (rec s D).1 = (all m ok st pc ps s).find? (fun z => decide (cnt z.2 ≤ most)) ∧ Good m ok st pc cnt key R most (rec s D).2) :
    ∀ ks D, (∀ k ∈ ks, k < m) → Good m ok st pc cnt key R most D →
      (tryK ok st pc cnt fresh most rec p s ks D).1 = (ks.flatMap fun k => if ok p s k = true then (all m ok st pc ps (st p s k)).map (fun z => (pc s k :: z.1, z.2)) else []).find? (fun z => decide (cnt z.2 ≤ most)) ∧
      Good m ok st pc cnt key R most (tryK ok st pc cnt fresh most rec p s ks D).2
  | [], D, _, g => by simp [tryK]; exact g
  | k :: ks, D, hm, g => by
    have hkm := hm k (by simp)
    have ih := tryK_eq hR hc most p ps s r hs rec hrec ks
    unfold tryK
    simp only [List.flatMap_cons, List.find?_append]
    by_cases h1 : ok p s k = false ∨ (fresh s k = true ∧ cnt s = most)
    · rw [if_pos h1]
      have hn : (if ok p s k = true then (all m ok st pc ps (st p s k)).map (fun z => (pc s k :: z.1, z.2)) else []).find? (fun z => decide (cnt z.2 ≤ most)) = none := by
        rw [List.find?_eq_none]
        intro z hz
        split at hz
        · rename_i ho
          obtain ⟨y, hy, rfl⟩ := List.mem_map.1 hz
          have h2 := all_cnt m ok st pc cnt fresh R hR hc ps _ (hR p ps s k r hkm ho) y hy
          rw [hc p ps s k r hkm ho] at h2
          rcases h1 with h1 | ⟨h1, h3⟩
          · rw [h1] at ho; cases ho
          · rw [if_pos h1] at h2
            simp only [decide_eq_true_eq]
            omega
        · cases hz
      rw [hn, Option.none_or]
      exact ih D (fun k hk => hm k (by simp [hk])) g
    · rw [if_neg h1]
      have ho : ok p s k = true := by
        cases h : ok p s k
        · exact absurd (Or.inl h) h1
        · rfl
      rw [if_pos ho]
      have hcs : cnt (st p s k) ≤ most := by
        rw [hc p ps s k r hkm ho]
        split
        · rename_i hf
          have : cnt s ≠ most := fun e => h1 (Or.inr ⟨hf, e⟩)
          omega
        · omega
      obtain ⟨e, g2⟩ := hrec (st p s k) D (hR p ps s k r hkm ho) hcs g
      have em : ((all m ok st pc ps (st p s k)).map (fun z => (pc s k :: z.1, z.2))).find? (fun z => decide (cnt z.2 ≤ most)) = ((rec (st p s k) D).1).map (fun z => (pc s k :: z.1, z.2)) := by
        rw [e, List.find?_map]
        rfl
      rw [em]
      cases hq : rec (st p s k) D with
      | mk o D' =>
        rw [hq] at g2
        cases o with
        | some z => exact ⟨rfl, g2⟩
        | none =>
          simp only [Option.map_none, Option.none_or]
          exact ih D' (fun k hk => hm k (by simp [hk])) g2
/-! the reference's walk -/
def upd (cnt : S → Nat) (b : Option (List α × Nat)) (z : List α × S) : Option (List α × Nat) := match b with
  | none => some (z.1, cnt z.2)
  | some y => if cnt z.2 < y.2 then some (z.1, cnt z.2) else some y
def stop (cnt : S → Nat) (s : S) : Option (List α × Nat) → Bool
  | none => false
  | some y => decide (y.2 ≤ cnt s)
def walk : List Int → S → List α → Option (List α × Nat) → Option (List α × Nat)
  | [], s, acc, b => if stop cnt s b = true then b else some (acc, cnt s)
  | p :: ps, s, acc, b => if stop cnt s b = true then b else
      (List.range m).foldl (fun b k => if ok p s k = true then walk ps (st p s k) (acc ++ [pc s k]) b else b) b
theorem upd_stop (l : List (List α × S)) : ∀ (b : Option (List α × Nat)) (s : S), (∀ z ∈ l, cnt s ≤ cnt z.2) → stop cnt s b = true → l.foldl (upd cnt) b = b := by
  induction l with
  | nil => intro b s _ _; rfl
  | cons z l ih =>
    intro b s h hb
    cases b with
    | none => cases hb
    | some y =>
      simp only [stop, decide_eq_true_eq] at hb
      have hz := h z (by simp)
      have : upd cnt (some y) z = some y := by simp only [upd]; rw [if_neg (by omega)]
      rw [List.foldl_cons, this]
      exact ih (some y) s (fun z hz => h z (by simp [hz])) (by simp only [stop, decide_eq_true_eq]; exact hb)
theorem walk_eq (hR : ∀ p ps s k, R (p :: ps) s → k < m → ok p s k = true → R ps (st p s k)) (hc : ∀ p ps s k, R (p :: ps) s → k < m → ok p s k = true → cnt (st p s k) = cnt s + (if fresh s k = true then 1 else 0)) : ∀ ps s acc b, R ps s → walk m ok st pc cnt ps s acc b = ((all m ok st pc ps s).map (fun z => (acc ++ z.1, z.2))).foldl (upd cnt) b
  | [], s, acc, b, r => by
    simp only [walk, all, List.map_cons, List.map_nil, List.foldl_cons, List.foldl_nil, List.append_nil]
    cases b with
    | none => simp [stop, upd]
    | some y =>
      simp only [stop, upd, decide_eq_true_eq]
      by_cases h : y.2 ≤ cnt s
      · rw [if_pos h, if_neg (by omega)]
      · rw [if_neg h, if_pos (by omega)]
  | p :: ps, s, acc, b, r => by
    unfold walk
    by_cases hs : stop cnt s b = true
    · rw [if_pos hs]
      symm
      refine upd_stop cnt _ b s ?_ hs
      intro z hz
      obtain ⟨y, hy, rfl⟩ := List.mem_map.1 hz
      exact all_cnt m ok st pc cnt fresh R hR hc _ s r y hy
    · rw [if_neg hs]
      simp only [all]
      have key : ∀ (ks : List Nat) (b : Option (List α × Nat)), (∀ k ∈ ks, k < m) →
          ks.foldl (fun b k => if ok p s k = true then walk m ok st pc cnt ps (st p s k) (acc ++ [pc s k]) b else b) b =
          ((ks.flatMap fun k => if ok p s k = true then (all m ok st pc ps (st p s k)).map (fun z => (pc s k :: z.1, z.2)) else []).map (fun z => (acc ++ z.1, z.2))).foldl (upd cnt) b := by
        intro ks
        induction ks with
        | nil => intro b _; rfl
        | cons k ks ih =>
          intro b hm
          rw [List.foldl_cons, List.flatMap_cons, List.map_append, List.foldl_append, ih _ (fun k hk => hm k (by simp [hk]))]
          congr 1
          by_cases ho : ok p s k = true
          · rw [if_pos ho, if_pos ho, walk_eq hR hc ps _ _ _ (hR p ps s k r (hm k (by simp)) ho), List.map_map]
            congr 1
            refine List.map_congr_left fun z _ => ?_
            simp [Function.comp]
          · rw [if_neg ho, if_neg ho]; rfl
      exact key (List.range m) b (fun k h => List.mem_range.1 h)
/-- The first of the least, two ways. -/
theorem upd_some (l : List (List α × S)) : ∀ (x : List α × Nat), (∀ z ∈ l, x.2 ≤ cnt z.2) → l.foldl (upd cnt) (some x) = some x := by
  induction l with
  | nil => intro x _; rfl
  | cons z l ih =>
    intro x h
    have hz := h z (by simp)
    have : upd cnt (some x) z = some x := by simp only [upd]; rw [if_neg (by omega)]
    rw [List.foldl_cons, this]
    exact ih x (fun z hz => h z (by simp [hz]))
theorem first_least (n : Nat) : ∀ (l : List (List α × S)) (b : Option (List α × Nat)), (∀ z ∈ l, n ≤ cnt z.2) → (∀ y, b = some y → n < y.2) →
    ∀ z, l.find? (fun z => decide (cnt z.2 ≤ n)) = some z → l.foldl (upd cnt) b = some (z.1, n) := by
  intro l
  induction l with
  | nil => intro b _ _ z h; cases h
  | cons x l ih =>
    intro b hl hb z hf
    rw [List.foldl_cons]
    rw [List.find?_cons] at hf
    have hx := hl x (by simp)
    by_cases h : cnt x.2 ≤ n
    · rw [show decide (cnt x.2 ≤ n) = true from decide_eq_true h] at hf
      cases hf
      have e : cnt x.2 = n := by omega
      have : upd cnt b x = some (x.1, n) := by
        cases b with
        | none => simp [upd, e]
        | some y =>
          have := hb y rfl
          simp only [upd]
          rw [if_pos (by omega), e]
      rw [this]
      exact upd_some cnt l (x.1, n) (fun z hz => hl z (by simp [hz]))
    · rw [show decide (cnt x.2 ≤ n) = false from decide_eq_false h] at hf
      refine ih _ (fun z hz => hl z (by simp [hz])) ?_ z hf
      intro y hy
      cases b with
      | none =>
        simp only [upd] at hy
        cases hy
        show n < cnt x.2
        omega
      | some w =>
        simp only [upd] at hy
        have := hb w rfl
        split at hy <;> cases hy
        · show n < cnt x.2
          omega
        · exact this
end
end BoltCore
section
variable {S α κ : Type} [DecidableEq κ] {m : Nat} {ok : Int → S → Nat → Bool} {st : Int → S → Nat → S} {pc : S → Nat → α} {cnt : S → Nat} {fresh : S → Nat → Bool} {key : List Int → S → κ} {R : List Int → S → Prop}
theorem find_eq2 (hR : ∀ p ps s k, R (p :: ps) s → k < m → ok p s k = true → R ps (st p s k))
    (hc : ∀ p ps s k, R (p :: ps) s → k < m → ok p s k = true → cnt (st p s k) = cnt s + (if fresh s k = true then 1 else 0)) (most : Nat)
    (hk : ∀ ps s ps' s', R ps s → R ps' s' → key ps s = key ps' s' → (∀ z ∈ BoltCore.all m ok st pc ps s, most < cnt z.2) → ∀ z ∈ BoltCore.all m ok st pc ps' s', most < cnt z.2) : ∀ ps s D, R ps s → cnt s ≤ most → BoltCore.Good m ok st pc cnt key R most D →
    (BoltCore.find m ok st pc cnt fresh key most ps s D).1 = (BoltCore.all m ok st pc ps s).find? (fun z => decide (cnt z.2 ≤ most)) ∧ BoltCore.Good m ok st pc cnt key R most (BoltCore.find m ok st pc cnt fresh key most ps s D).2
  | [], s, D, r, hs, g => by
    simp [BoltCore.find, BoltCore.all, hs]
    exact g
  | p :: ps, s, D, r, hs, g => by
    unfold BoltCore.find
    by_cases hD : key (p :: ps) s ∈ D
    · rw [if_pos hD]
      refine ⟨?_, g⟩
      symm
      rw [List.find?_eq_none]
      intro z hz
      have := g _ _ r hs hD z hz
      simp only [decide_eq_true_eq]
      omega
    · rw [if_neg hD]
      obtain ⟨e, g2⟩ := BoltCore.tryK_eq m ok st pc cnt fresh key R hR hc most p ps s r hs (BoltCore.find m ok st pc cnt fresh key most ps) (fun s D => find_eq2 hR hc most hk ps s D) (List.range m) D (fun k h => List.mem_range.1 h) g
      have e' : (BoltCore.tryK ok st pc cnt fresh most (BoltCore.find m ok st pc cnt fresh key most ps) p s (List.range m) D).1 = (BoltCore.all m ok st pc (p :: ps) s).find? (fun z => decide (cnt z.2 ≤ most)) := e
      cases hq : BoltCore.tryK ok st pc cnt fresh most (BoltCore.find m ok st pc cnt fresh key most ps) p s (List.range m) D with
      | mk o D' =>
        rw [hq] at g2 e'
        cases o with
        | some z => exact ⟨e', g2⟩
        | none =>
          refine ⟨e', ?_⟩
          intro ps' s' r' hs' hmem z hz
          rcases List.mem_cons.1 hmem with h | h
          · refine hk _ _ _ _ r r' h.symm (fun z hz => ?_) z hz
            have := List.find?_eq_none.1 e'.symm z hz
            simp only [decide_eq_true_eq] at this
            omega
          · exact g2 ps' s' r' hs' h z hz
end
/-! the states that a search meets -/
/-- Two states of one key: the same parts, the same bolts in use. -/
structure SimB (s s' : St) : Prop where
  a : s.1 = s'.1
  l : s.2.length = s'.2.length
  z : ∀ b : Int, 0 ≤ b → b < s.2.length → (0 < rd s.2 b ↔ 0 < rd s'.2 b)
  n : (∀ u ∈ s.2, 0 ≤ u) ∧ (∀ u ∈ s'.2, 0 ≤ u)
theorem cnt_sim : ∀ (a b : List Int), a.length = b.length → (∀ i (h : i < a.length) (h' : i < b.length), (0 < a[i] ↔ 0 < b[i])) → cntU a = cntU b
  | [], [], _, _ => rfl
  | [], _ :: _, h, _ => by simp at h
  | _ :: _, [], h, _ => by simp at h
  | x :: a, y :: b, h, hz => by
    have h0 := hz 0 (by simp) (by simp)
    have ih := cnt_sim a b (by simpa using h) (fun i h1 h2 => by have := hz (i + 1) (by simpa using h1) (by simpa using h2); simpa using this)
    simp only [List.getElem_cons_zero] at h0
    simp only [cntU, ih]
    by_cases hx : 0 < x
    · rw [if_pos hx, if_pos (h0.1 hx)]
    · rw [if_neg hx, if_neg (fun h => hx (h0.2 h))]
theorem rd_at (l : List Int) (i : Nat) (h : i < l.length) : rd l (i : Int) = l[i] := by simp [rd, rdOf, h]
theorem SimB.cnt {s s' : St} (h : SimB s s') : cntB s = cntB s' := by
  unfold cntB
  rw [cnt_sim s.2 s'.2 h.l (fun i h1 h2 => by have := h.z i (by omega) (by omega); rwa [rd_at _ _ h1, rd_at _ _ h2] at this)]
theorem SimB.step {s s' : St} (h : SimB s s') (p : Int) (k : Nat) (hb0 : 0 ≤ (rd_T57 s.1 k).f0) (hb1 : (rd_T57 s.1 k).f0 < s.2.length) : SimB (stB p s k) (stB p s' k) := by
  have ea := h.a
  refine ⟨?_, ?_, ?_, ?_⟩
  · simp only [stB, ← ea]
  · simp only [stB, List.length_set]; exact h.l
  · intro b h0 h1
    simp only [stB, ← ea, List.length_set] at h1 ⊢
    have hz := h.z b h0 h1
    have hz2 := h.z _ hb0 hb1
    have n1 := h.n.1 _ (rd_mem s.2 _ hb0 hb1)
    have n2 := h.n.2 _ (rd_mem s'.2 _ hb0 (by rw [← h.l]; exact hb1))
    by_cases e : b = (rd_T57 s.1 k).f0
    · subst e
      rw [rd_setU _ _ hb0 hb1, rd_setU _ _ hb0 (by rw [← h.l]; exact hb1)]
      omega
    · have e1 : ∀ (l : List Int) (v : Int), l.length = s.2.length → rd (l.set (rd_T57 s.1 k).f0.toNat v) b = rd l b := by
        intro l v hl
        have h2 : (rd_T57 s.1 k).f0.toNat ≠ b.toNat := by omega
        simp [rd, rdOf, List.getElem?_set_ne h2]
      rw [e1 _ _ rfl, e1 _ _ h.l.symm]
      exact hz
  · simp only [stB, ← ea]
    refine ⟨fun u hu => ?_, fun u hu => ?_⟩
    · rcases List.mem_or_eq_of_mem_set hu with hu | rfl
      · exact h.n.1 u hu
      · have := h.n.1 _ (rd_mem s.2 _ hb0 hb1); omega
    · rcases List.mem_or_eq_of_mem_set hu with hu | rfl
      · exact h.n.2 u hu
      · have := h.n.2 _ (rd_mem s'.2 _ hb0 (by rw [← h.l]; exact hb1)); omega

/-! the key tells the state -/
theorem digits_all (u : Nat) : ∀ b ∈ Lib.decDigits u, 48 ≤ b.toNat ∧ b.toNat ≤ 57 := by
  induction u using Nat.strongRecOn with
  | _ u ih =>
    intro b hb
    by_cases h : u < 10
    · rw [Lib.decDigits_one h] at hb
      rw [List.mem_singleton.1 hb, UInt8.toNat_ofNat_of_lt' (by show 48 + u < 256; omega)]
      omega
    · rw [Lib.decDigits, dif_neg h] at hb
      rcases List.mem_append.1 hb with hb | hb
      · exact ih (u / 10) (by omega) b hb
      · rw [List.mem_singleton.1 hb, UInt8.toNat_ofNat_of_lt' (by show 48 + u % 10 < 256; omega)]
        omega
def valD (l : List UInt8) : Nat := l.foldl (fun n b => 10 * n + (b.toNat - 48)) 0
theorem valD_snoc (l : List UInt8) (b : UInt8) : valD (l ++ [b]) = 10 * valD l + (b.toNat - 48) := by unfold valD; rw [List.foldl_append]; rfl
theorem valD_dec (u : Nat) : valD (Lib.decDigits u) = u := by
  induction u using Nat.strongRecOn with
  | _ u ih =>
    by_cases h : u < 10
    · rw [Lib.decDigits_one h, ← List.nil_append [_], valD_snoc, UInt8.toNat_ofNat_of_lt' (by show 48 + u < 256; omega), show valD [] = 0 from rfl]
      omega
    · rw [Lib.decDigits, dif_neg h, valD_snoc, ih (u / 10) (by omega), UInt8.toNat_ofNat_of_lt' (by show 48 + u % 10 < 256; omega)]
      omega
theorem split32 : ∀ (a a' x x' : List UInt8), (∀ c ∈ a, c ≠ 32) → (∀ c ∈ a', c ≠ 32) → a ++ 32 :: x = a' ++ 32 :: x' → a = a' ∧ x = x'
  | [], [], x, x', _, _, h => by simpa using h
  | [], c :: a', x, x', _, h2, h => by
    simp only [List.nil_append, List.cons_append, List.cons.injEq] at h
    exact absurd h.1.symm (h2 c (by simp))
  | c :: a, [], x, x', h1, _, h => by
    simp only [List.nil_append, List.cons_append, List.cons.injEq] at h
    exact absurd h.1 (h1 c (by simp))
  | c :: a, c' :: a', x, x', h1, h2, h => by
    simp only [List.cons_append, List.cons.injEq] at h
    obtain ⟨e1, e2⟩ := split32 a a' x x' (fun d hd => h1 d (by simp [hd])) (fun d hd => h2 d (by simp [hd])) h.2
    exact ⟨by rw [h.1, e1], e2⟩
theorem itoa_no32 (n : Int) (h : 0 ≤ n) : ∀ c ∈ Lib.itoa n, c ≠ 32 := by
  obtain ⟨u, rfl⟩ := Int.eq_ofNat_of_zero_le h
  rw [Lib.itoa_nonneg]
  rintro c hc rfl
  have := digits_all u _ hc
  have e : (32 : UInt8).toNat = 32 := rfl
  omega
theorem itoa_same (n n' : Int) (h : 0 ≤ n) (h' : 0 ≤ n') (e : Lib.itoa n = Lib.itoa n') : n = n' := by
  obtain ⟨u, rfl⟩ := Int.eq_ofNat_of_zero_le h
  obtain ⟨v, rfl⟩ := Int.eq_ofNat_of_zero_le h'
  rw [Lib.itoa_nonneg, Lib.itoa_nonneg] at e
  have := congrArg valD e
  rw [valD_dec, valD_dec] at this
  rw [this]
def tailB (l : List S57) : List UInt8 := l.flatMap (fun p => 32 :: Lib.itoa p.f1)
theorem keyB_list : ∀ (l : List S57) (acc : ByteArray), (keyB acc l).data.toList = acc.data.toList ++ tailB l
  | [], acc => by simp [keyB, tailB]
  | p :: l, acc => by
    rw [keyB, keyB_list l]
    simp [tailB]
theorem tailB_cons (p : S57) (l : List S57) : tailB (p :: l) = 32 :: (Lib.itoa p.f1 ++ tailB l) := by simp [tailB]
theorem tail_inj : ∀ (l l' : List S57) (n n' : Int), l.length = l'.length → 0 ≤ n → 0 ≤ n' → (∀ p ∈ l, 0 ≤ p.f1) → (∀ p ∈ l', 0 ≤ p.f1) → Lib.itoa n ++ tailB l = Lib.itoa n' ++ tailB l' → n = n' ∧ l.map (·.f1) = l'.map (·.f1)
  | [], [], n, n', _, h0, h1, _, _, e => by
    simp only [tailB, List.flatMap_nil, List.append_nil] at e
    exact ⟨itoa_same n n' h0 h1 e, rfl⟩
  | [], _ :: _, _, _, h, _, _, _, _, _ => by simp at h
  | _ :: _, [], _, _, h, _, _, _, _, _ => by simp at h
  | p :: l, q :: l', n, n', h, h0, h1, hp, hq, e => by
    rw [tailB_cons, tailB_cons] at e
    obtain ⟨e1, e2⟩ := split32 _ _ _ _ (itoa_no32 n h0) (itoa_no32 n' h1) e
    obtain ⟨e3, e4⟩ := tail_inj l l' p.f1 q.f1 (by simpa using h) (hp p (by simp)) (hq q (by simp)) (fun x hx => hp x (by simp [hx])) (fun x hx => hq x (by simp [hx])) e2
    exact ⟨itoa_same n n' h0 h1 e1, by simp [e3, e4]⟩
theorem keyN_inj {n : Nat} {ps ps' : List Int} {s s' : St} (hl : s.1.length = s'.1.length) (h0 : ∀ p ∈ s.1, 0 ≤ p.f1) (h1 : ∀ p ∈ s'.1, 0 ≤ p.f1) (h2 : ps.length ≤ n) (h3 : ps'.length ≤ n) (e : keyN n ps s = keyN n ps' s') : ps.length = ps'.length ∧ s.1.map (·.f1) = s'.1.map (·.f1) := by
  unfold keyN at e
  rw [keyB_list, keyB_list] at e
  obtain ⟨e1, e2⟩ := tail_inj s.1 s'.1 ((n - ps.length : Nat) : Int) ((n - ps'.length : Nat) : Int) hl (by omega) (by omega) h0 h1 e
  exact ⟨by omega, e2⟩
/-! what is true of every state that the search meets -/
structure RB (P : List Int) (parts0 : List S57) (n : Nat) (ps : List Int) (s : St) : Prop where
  d : ∃ i, P.drop i = ps ∧ i + ps.length = P.length
  v : InvB ps.length s
  nn : s.2.length = n
  l : s.1.length = parts0.length
  p : ∀ k (h : k < s.1.length) (h' : k < parts0.length), s.1[k].f0 = parts0[k].f0 ∧ s.1[k].f2 = parts0[k].f2 ∧ parts0[k].f1 ≤ s.1[k].f1
  u : ∀ b : Int, 0 ≤ b → b < n → (0 < rd s.2 b ↔ ∃ k, ∃ (h : k < s.1.length) (h' : k < parts0.length), parts0[k].f0 = b ∧ parts0[k].f1 < s.1[k].f1)
theorem rdP_at (l : List S57) (i : Nat) (h : i < l.length) : rd_T57 l (i : Int) = l[i] := by simp [rd_T57, rdOf, h]
theorem RB.step {P : List Int} {parts0 : List S57} {n : Nat} (hP : ∀ p ∈ P, 1 ≤ p ∧ p ≤ 10000) {p : Int} {ps : List Int} {s : St} {k : Nat} (h : RB P parts0 n (p :: ps) s) (hk : k < s.1.length) (ho : okB p s k = true) : RB P parts0 n ps (stB p s k) := by
  obtain ⟨i, hd, hi⟩ := h.d
  have hlen : i < P.length := by simp only [List.length_cons] at hi; omega
  have hp : p ∈ P := by
    have h3 := List.getElem_cons_drop (h := hlen)
    rw [hd] at h3
    injection h3 with h3 _
    rw [← h3]
    exact List.getElem_mem _
  have hp1 := hP p hp
  have hkp : k < parts0.length := by rw [← h.l]; exact hk
  have hq := h.v.a _ (List.getElem_mem hk)
  have hpk := h.p k hk hkp
  have e0 := rdP_at s.1 k hk
  refine ⟨⟨i + 1, by rw [← List.drop_drop, hd]; rfl, by simp only [List.length_cons] at hi; omega⟩, h.v.step p hp1.1 k hk ho, by simpa [stB] using h.nn, by simpa [stB] using h.l, ?_, ?_⟩
  · intro j hj hj'
    simp only [stB, List.length_set] at hj ⊢
    have hpj := h.p j hj hj'
    by_cases e : k = j
    · subst e
      rw [List.getElem_set_self, e0]
      exact ⟨hpk.1, hpk.2.1, by show parts0[k].f1 ≤ s.1[k].f1 + p; omega⟩
    · rw [List.getElem_set_ne e]
      exact hpj
  · intro b hb0 hb1
    have hu := h.u b hb0 hb1
    have hn := h.nn
    have n1 := h.v.b _ (rd_mem s.2 s.1[k].f0 hq.1 hq.2.1)
    have mid : (∃ j, ∃ (h : j < (stB p s k).1.length) (h' : j < parts0.length), parts0[j].f0 = b ∧ parts0[j].f1 < (stB p s k).1[j].f1) ↔ (b = s.1[k].f0 ∨ ∃ j, ∃ (h : j < s.1.length) (h' : j < parts0.length), parts0[j].f0 = b ∧ parts0[j].f1 < s.1[j].f1) := by
      constructor
      · rintro ⟨j, hj, hj', e1, e2⟩
        simp only [stB, List.length_set] at hj e2
        by_cases e : k = j
        · subst e
          exact Or.inl (by rw [hpk.1]; exact e1.symm)
        · rw [List.getElem_set_ne e] at e2
          exact Or.inr ⟨j, hj, hj', e1, e2⟩
      · rintro (e1 | ⟨j, hj, hj', e1, e2⟩)
        · refine ⟨k, by simpa [stB] using hk, hkp, by rw [e1]; exact hpk.1.symm, ?_⟩
          simp only [stB, List.getElem_set_self, e0]
          omega
        · refine ⟨j, by simpa [stB] using hj, hj', e1, ?_⟩
          simp only [stB]
          by_cases e : k = j
          · subst e
            rw [List.getElem_set_self, e0]
            show parts0[k].f1 < s.1[k].f1 + p
            omega
          · rw [List.getElem_set_ne e]
            exact e2
    rw [mid, ← hu]
    simp only [stB, e0]
    by_cases e : b = s.1[k].f0
    · subst e
      rw [rd_setU _ _ hq.1 hq.2.1]
      constructor
      · intro _; exact Or.inl rfl
      · intro _; omega
    · have h2 : s.1[k].f0.toNat ≠ b.toNat := by omega
      rw [show rd (s.2.set s.1[k].f0.toNat (rd s.2 s.1[k].f0 + 1)) b = rd s.2 b by simp [rd, rdOf, List.getElem?_set_ne h2]]
      constructor
      · intro h; exact Or.inr h
      · rintro (h | h)
        · exact absurd h e
        · exact h
theorem cntU_set : ∀ (l : List Int) (i : Nat) (h : i < l.length), (∀ u ∈ l, 0 ≤ u) → cntU (l.set i (l[i] + 1)) = cntU l + (if l[i] = 0 then 1 else 0)
  | x :: l, 0, _, hn => by
    have := hn x (by simp)
    simp only [List.set_cons_zero, List.getElem_cons_zero, cntU]
    split <;> split <;> split <;> omega
  | x :: l, i + 1, h, hn => by
    have := cntU_set l i (by simpa using h) (fun u hu => hn u (by simp [hu]))
    simp only [List.set_cons_succ, List.getElem_cons_succ, cntU, this]
    omega
theorem RB.cnt {P : List Int} {parts0 : List S57} {n : Nat} {p : Int} {ps : List Int} {s : St} {k : Nat} (h : RB P parts0 n ps s) (hk : k < s.1.length) : cntB (stB p s k) = cntB s + (if freshB s k = true then 1 else 0) := by
  have hq := h.v.a _ (List.getElem_mem hk)
  have e0 := rdP_at s.1 k hk
  have hi : s.1[k].f0.toNat < s.2.length := by omega
  have er : rd s.2 s.1[k].f0 = s.2[s.1[k].f0.toNat] := by simp [rd, rdOf, hi]
  have hn : ∀ u ∈ s.2, 0 ≤ u := fun u hu => (h.v.b u hu).1
  have hs := cntU_set s.2 _ hi hn
  have hc := cntU_le s.2
  unfold cntB freshB
  simp only [stB, e0, er, hs, decide_eq_true_eq]
  split <;> omega
theorem S57_ext {x y : S57} (h0 : x.f0 = y.f0) (h1 : x.f1 = y.f1) (h2 : x.f2 = y.f2) : x = y := by
  cases x; cases y; simp_all
theorem RB.same {P : List Int} {parts0 : List S57} {n : Nat} {ps ps' : List Int} {s s' : St} (h : RB P parts0 n ps s) (h' : RB P parts0 n ps' s') (e : keyN P.length ps s = keyN P.length ps' s') : ps = ps' ∧ SimB s s' := by
  obtain ⟨i, hd, hi⟩ := h.d
  obtain ⟨i', hd', hi'⟩ := h'.d
  have hl : s.1.length = s'.1.length := h.l.trans h'.l.symm
  obtain ⟨e1, e2⟩ := keyN_inj hl (fun p hp => (h.v.a p hp).2.2.1) (fun p hp => (h'.v.a p hp).2.2.1) (by omega) (by omega) e
  have ei : i = i' := by omega
  subst ei
  have ea : s.1 = s'.1 := by
    refine List.ext_getElem hl (fun k hk hk' => ?_)
    have hk0 : k < parts0.length := by rw [← h.l]; exact hk
    have a1 := h.p k hk hk0
    have a2 := h'.p k hk' hk0
    refine S57_ext (a1.1.trans a2.1.symm) ?_ (a1.2.1.trans a2.2.1.symm)
    have := congrArg (fun l => l[k]?) e2
    simpa [hk, hk'] using this
  refine ⟨hd.symm.trans hd', ea, h.nn.trans h'.nn.symm, ?_, ⟨fun u hu => (h.v.b u hu).1, fun u hu => (h'.v.b u hu).1⟩⟩
  intro b hb0 hb1
  rw [h.u b hb0 (by rw [← h.nn]; exact hb1), h'.u b hb0 (by rw [← h.nn]; exact hb1)]
  simp only [ea]
theorem all_sim (m : Nat) : ∀ (ps : List Int) (s s' : St), SimB s s' → m ≤ s.1.length → (∀ q ∈ s.1, 0 ≤ q.f0 ∧ q.f0 < s.2.length) → ∀ z' ∈ BoltCore.all m okB stB pcB ps s', ∃ z ∈ BoltCore.all m okB stB pcB ps s, cntB z.2 = cntB z'.2
  | [], s, s', h, _, _, z', hz => by
    simp only [BoltCore.all, List.mem_singleton] at hz ⊢
    subst hz
    exact ⟨_, rfl, h.cnt⟩
  | p :: ps, s, s', h, hm, hA, z', hz => by
    simp only [BoltCore.all, List.mem_flatMap, List.mem_range] at hz ⊢
    obtain ⟨k, hk, hz⟩ := hz
    have ea := h.a
    have hok : okB p s' k = okB p s k := by unfold okB; rw [ea]
    split at hz
    · rename_i ho
      obtain ⟨y', hy', rfl⟩ := List.mem_map.1 hz
      have hks : k < s.1.length := by omega
      have hq := hA _ (List.getElem_mem hks)
      have e0 := rdP_at s.1 k hks
      obtain ⟨y, hy, ey⟩ := all_sim m ps (stB p s k) (stB p s' k) (h.step p k (by rw [e0]; exact hq.1) (by rw [e0]; exact hq.2)) (by simpa [stB] using hm) (by
        intro q hq2
        simp only [stB, List.length_set] at hq2 ⊢
        rcases List.mem_or_eq_of_mem_set hq2 with h2 | rfl
        · exact hA q h2
        · rw [e0]; exact hq) y' hy'
      refine ⟨(pcB s k :: y.1, y.2), ⟨k, hk, ?_⟩, ey⟩
      rw [if_pos (by rw [← hok]; exact ho)]
      exact List.mem_map.2 ⟨y, hy, rfl⟩
    · cases hz
/-- The search finds the first way that is good enough. -/
theorem findB_first {P : List Int} {parts0 : List S57} {n : Nat} (hP : ∀ p ∈ P, 1 ≤ p ∧ p ≤ 10000) (most : Nat) (s : St) (hR : RB P parts0 n P s) (hs : cntB s ≤ most) :
    (findB P.length parts0.length most P s []).1 = (BoltCore.all parts0.length okB stB pcB P s).find? (fun z => decide (cntB z.2 ≤ most)) := by
  refine (find_eq2 (R := RB P parts0 n) (fun p ps s k r hk ho => r.step (k := k) hP (by rw [r.l]; exact hk) ho) (fun p ps s k r hk ho => r.cnt (k := k) (by rw [r.l]; exact hk)) most ?_ P s [] hR hs (fun ps s r _ h => by cases h)).1
  intro ps s ps' s' r r' e hz z' hz'
  obtain ⟨e1, sim⟩ := r.same r' e
  subst e1
  obtain ⟨z, h1, h2⟩ := all_sim parts0.length ps s s' sim (by rw [r.l]; exact Nat.le_refl _) (fun q hq => ⟨(r.v.a q hq).1, (r.v.a q hq).2.1⟩) z' hz'
  rw [← h2]
  exact hz z h1

theorem all_R {P : List Int} {parts0 : List S57} {n : Nat} (hP : ∀ p ∈ P, 1 ≤ p ∧ p ≤ 10000) : ∀ (ps : List Int) (s : St), RB P parts0 n ps s → ∀ z ∈ BoltCore.all parts0.length okB stB pcB ps s, RB P parts0 n [] z.2
  | [], s, r, z, hz => by
    simp only [BoltCore.all, List.mem_singleton] at hz
    subst hz
    exact r
  | p :: ps, s, r, z, hz => by
    simp only [BoltCore.all, List.mem_flatMap, List.mem_range] at hz
    obtain ⟨k, hk, hz⟩ := hz
    split at hz
    · rename_i ho
      obtain ⟨y, hy, rfl⟩ := List.mem_map.1 hz
      exact all_R hP ps _ (r.step (k := k) hP (by rw [r.l]; exact hk) ho) y hy
    · cases hz
theorem cntU_rep (n : Nat) : cntU (List.replicate n 0) = 0 := by
  induction n with
  | zero => rfl
  | succ n ih => rw [List.replicate_succ, cntU, ih]; rfl
theorem fewGo_loop {P : List Int} {parts0 : List S57} {n : Nat} (hP : ∀ p ∈ P, 1 ≤ p ∧ p ≤ 10000) (hR : RB P parts0 n P (parts0, List.replicate n 0)) : ∀ (j most : Nat), most + j = n + 1 → (∀ z ∈ BoltCore.all parts0.length okB stB pcB P (parts0, List.replicate n 0), most ≤ cntB z.2) →
    (fewGo P parts0 n j most = none ∧ BoltCore.all parts0.length okB stB pcB P (parts0, List.replicate n 0) = []) ∨ ∃ z, fewGo P parts0 n j most = some z ∧ z ∈ BoltCore.all parts0.length okB stB pcB P (parts0, List.replicate n 0) ∧ ∀ z' ∈ BoltCore.all parts0.length okB stB pcB P (parts0, List.replicate n 0), cntB z.2 ≤ cntB z'.2
  | 0, most, h, hz => by
    refine Or.inl ⟨rfl, ?_⟩
    cases e : BoltCore.all parts0.length okB stB pcB P (parts0, List.replicate n 0) with
    | nil => rfl
    | cons z l =>
      have hm : z ∈ BoltCore.all parts0.length okB stB pcB P (parts0, List.replicate n 0) := by rw [e]; simp
      have h1 := hz z hm
      have h2 := (all_R hP P _ hR z hm).nn
      have h3 := cntU_le z.2.2
      unfold cntB at h1
      omega
  | j + 1, most, h, hz => by
    have e := findB_first hP most (parts0, List.replicate n 0) hR (by unfold cntB; simp only [cntU_rep]; exact Nat.zero_le _)
    unfold fewGo
    rw [e]
    cases hf : (BoltCore.all parts0.length okB stB pcB P (parts0, List.replicate n 0)).find? (fun z => decide (cntB z.2 ≤ most)) with
    | some z =>
      have h1 := List.find?_some hf
      have h2 := List.mem_of_find?_eq_some hf
      simp only [decide_eq_true_eq] at h1
      exact Or.inr ⟨z, rfl, h2, fun z' hz' => Nat.le_trans h1 (hz z' hz')⟩
    | none =>
      refine fewGo_loop hP hR j (most + 1) (by omega) (fun z hm => ?_)
      have := List.find?_eq_none.1 hf z hm
      simp only [decide_eq_true_eq] at this
      omega

/-! what is true of the places -/
def sumG (g : S57 → Int) : List S57 → Int
  | [] => 0
  | q :: l => g q + sumG g l
def sumI : List Int → Int
  | [] => 0
  | q :: l => q + sumI l
theorem sumG_set (g : S57 → Int) : ∀ (l : List S57) (k : Nat) (h : k < l.length) (x : S57), sumG g (l.set k x) = sumG g l - g l[k] + g x
  | q :: l, 0, _, x => by simp only [List.set_cons_zero, sumG, List.getElem_cons_zero]; omega
  | q :: l, k + 1, h, x => by
    have := sumG_set g l k (by simpa using h) x
    simp only [List.set_cons_succ, sumG, List.getElem_cons_succ, this]
    omega
theorem sumI_set : ∀ (l : List Int) (k : Nat) (h : k < l.length) (x : Int), sumI (l.set k x) = sumI l - l[k] + x
  | q :: l, 0, _, x => by simp only [List.set_cons_zero, sumI, List.getElem_cons_zero]; omega
  | q :: l, k + 1, h, x => by
    have := sumI_set l k (by simpa using h) x
    simp only [List.set_cons_succ, sumI, List.getElem_cons_succ, this]
    omega
theorem sumI_snoc : ∀ (l : List Int) (x : Int), sumI (l ++ [x]) = sumI l + x
  | [], x => by simp [sumI]
  | q :: l, x => by simp only [List.cons_append, sumI, sumI_snoc l x]; omega
theorem sumG_nonneg (g : S57 → Int) : ∀ (l : List S57), (∀ q ∈ l, 0 ≤ g q) → 0 ≤ sumG g l
  | [], _ => Int.le_refl _
  | q :: l, h => by
    have := sumG_nonneg g l (fun x hx => h x (by simp [hx]))
    have := h q (by simp)
    simp only [sumG]
    omega
def remB (b : Int) (q : S57) : Int := if q.f0 = b then q.f2 - q.f1 else 0
def leftOf : List Int → List S60 → List Int → List Int
  | o, q :: qs, p :: ps => leftOf (o.set q.f0.toNat (rd o q.f0 - p)) qs ps
  | o, _, _ => o
theorem leftOf_snoc : ∀ (qs : List S60) (ps : List Int) (o : List Int) (q : S60) (p : Int), qs.length = ps.length → leftOf o (qs ++ [q]) (ps ++ [p]) = (leftOf o qs ps).set q.f0.toNat (rd (leftOf o qs ps) q.f0 - p)
  | [], [], o, q, p, _ => by simp [leftOf]
  | [], _ :: _, _, _, _, h => by simp at h
  | _ :: _, [], _, _, _, h => by simp at h
  | x :: qs, y :: ps, o, q, p, h => by
    simp only [List.cons_append, leftOf]
    exact leftOf_snoc qs ps _ q p (by simpa using h)
theorem leftOf_len : ∀ (qs : List S60) (ps : List Int) (o : List Int), (leftOf o qs ps).length = o.length
  | [], [], o => rfl
  | [], _ :: _, o => rfl
  | _ :: _, [], o => rfl
  | x :: qs, y :: ps, o => by rw [leftOf, leftOf_len qs ps, List.length_set]
structure PI (lens : List Int) (parts0 : List S57) (P : List Int) (i : Nat) (s : St) (acc : List S60) : Prop where
  al : acc.length = i
  D : ∀ b : Int, 0 ≤ b → b < lens.length → rd (leftOf lens acc (P.take i)) b = sumG (remB b) s.1
  U : ∀ b : Int, 0 ≤ b → b < lens.length → (rd s.2 b = 0 ∧ rd (leftOf lens acc (P.take i)) b = rd lens b) ∨ (0 < rd s.2 b ∧ rd (leftOf lens acc (P.take i)) b < rd lens b)
  S : sumI (leftOf lens acc (P.take i)) + sumI (P.take i) = sumI lens
  W : ∀ j (h : j < acc.length) (h' : j < P.length), ∃ k, ∃ (hk : k < parts0.length) (hk' : k < s.1.length), parts0[k].f0 = acc[j].f0 ∧ parts0[k].f1 ≤ acc[j].f1 ∧ acc[j].f1 + P[j] ≤ s.1[k].f1
  N : ∀ j (h : j < acc.length) (h' : j < P.length) k (hk : k < j), ¬ (acc[k].f0 = acc[j].f0 ∧ acc[j].f1 < acc[k].f1 + P[k] ∧ acc[k].f1 < acc[j].f1 + P[j])
theorem PI.step {lens : List Int} {parts0 : List S57} {P : List Int} {i : Nat} {s : St} {acc : List S60} (h : PI lens parts0 P i s acc) (hP : ∀ p ∈ P, 1 ≤ p ∧ p ≤ 10000)
    (hap : ∀ k k' (hk : k < parts0.length) (hk' : k' < parts0.length), k ≠ k' → parts0[k].f0 = parts0[k'].f0 → parts0[k].f2 ≤ parts0[k'].f1 ∨ parts0[k'].f2 ≤ parts0[k].f1)
    {p : Int} {ps : List Int} (r : RB P parts0 lens.length (p :: ps) s) (hi : P.drop i = p :: ps) {k : Nat} (hk : k < s.1.length) (ho : okB p s k = true) : PI lens parts0 P (i + 1) (stB p s k) (acc ++ [pcB s k]) := by
  have hlen : i < P.length := by
    have := congrArg List.length hi
    simp only [List.length_drop, List.length_cons] at this
    omega
  have hpi : P[i] = p := by
    have h3 := List.getElem_cons_drop (h := hlen)
    rw [hi] at h3
    injection h3
  have hp1 := hP p (by rw [← hpi]; exact List.getElem_mem _)
  have e0 := rdP_at s.1 k hk
  have hk0 : k < parts0.length := by rw [← r.l]; exact hk
  have hq := r.v.a _ (List.getElem_mem hk)
  have hpk := r.p k hk hk0
  have ho' : p ≤ s.1[k].f2 - s.1[k].f1 := by have := of_decide_eq_true ho; rw [e0] at this; exact this
  have hb1 : s.1[k].f0 < lens.length := by have := hq.2.1; rw [r.nn] at this; exact this
  have et : P.take (i + 1) = P.take i ++ [p] := by rw [List.take_succ_eq_append_getElem hlen, hpi]
  have hal := h.al
  have htl : (P.take i).length = i := by rw [List.length_take]; omega
  have el : leftOf lens (acc ++ [pcB s k]) (P.take (i + 1)) = (leftOf lens acc (P.take i)).set s.1[k].f0.toNat (rd (leftOf lens acc (P.take i)) s.1[k].f0 - p) := by
    rw [et, leftOf_snoc _ _ _ _ _ (by omega)]
    simp only [pcB, e0]
  have hll := leftOf_len acc (P.take i) lens
  have hbl : s.1[k].f0.toNat < (leftOf lens acc (P.take i)).length := by omega
  have rset : ∀ (b : Int), 0 ≤ b → b ≠ s.1[k].f0 → ∀ (l : List Int) (v : Int), rd (l.set s.1[k].f0.toNat v) b = rd l b := by
    intro b hb hne l v
    have h2 : s.1[k].f0.toNat ≠ b.toNat := by omega
    simp [rd, rdOf, List.getElem?_set_ne h2]
  refine ⟨by rw [List.length_append, hal]; rfl, ?_, ?_, ?_, ?_, ?_⟩
  · intro b h0 h1
    have hD := h.D b h0 h1
    rw [el]
    simp only [stB, e0]
    rw [sumG_set _ _ _ hk]
    by_cases e : b = s.1[k].f0
    · subst e
      rw [rd_setU _ _ hq.1 (by omega), hD]
      simp only [remB, if_pos]
      omega
    · rw [rset b h0 e, hD]
      simp only [remB, if_neg (fun e' => e (Eq.symm e'))]
      omega
  · intro b h0 h1
    have hU := h.U b h0 h1
    rw [el]
    simp only [stB, e0]
    by_cases e : b = s.1[k].f0
    · subst e
      have n1 := (r.v.b _ (rd_mem s.2 s.1[k].f0 hq.1 hq.2.1)).1
      rw [rd_setU s.2 _ hq.1 hq.2.1, rd_setU (leftOf lens acc (P.take i)) _ hq.1 (by omega)]
      right
      rcases hU with hU | hU
      · exact ⟨by omega, by omega⟩
      · exact ⟨by omega, by omega⟩
    · rw [rset b h0 e, rset b h0 e]
      exact hU
  · rw [el, et, sumI_snoc, sumI_set _ _ hbl]
    have hr : rd (leftOf lens acc (P.take i)) s.1[k].f0 = (leftOf lens acc (P.take i))[s.1[k].f0.toNat] := by simp [rd, rdOf, hbl]
    have := h.S
    omega
  · intro j hj hj'
    by_cases e : j < acc.length
    · obtain ⟨k', hk1, hk2, a1, a2, a3⟩ := h.W j e hj'
      refine ⟨k', hk1, by simpa [stB] using hk2, ?_⟩
      rw [List.getElem_append_left e]
      refine ⟨a1, a2, ?_⟩
      simp only [stB, e0]
      by_cases ek : k = k'
      · subst ek
        rw [List.getElem_set_self]
        show _ ≤ s.1[k].f1 + p
        omega
      · rw [List.getElem_set_ne ek]
        exact a3
    · have ej : j = acc.length := by rw [List.length_append] at hj; simp at hj; omega
      subst ej
      refine ⟨k, hk0, by simpa [stB] using hk, ?_⟩
      rw [List.getElem_concat_length rfl]
      simp only [pcB, stB, e0, List.getElem_set_self]
      refine ⟨hpk.1.symm, hpk.2.2, ?_⟩
      have : P[acc.length]'hj' = p := by rw [← hpi]; congr 1
      rw [this]
      exact Int.le_refl _
  · intro j hj hj' k' hk'
    by_cases e : j < acc.length
    · rw [List.getElem_append_left e, List.getElem_append_left (by omega)]
      exact h.N j e hj' k' hk'
    · have ej : j = acc.length := by rw [List.length_append] at hj; simp at hj; omega
      subst ej
      rw [List.getElem_concat_length rfl, List.getElem_append_left hk']
      have ep : P[acc.length]'hj' = p := by rw [← hpi]; congr 1
      rw [ep]
      obtain ⟨m, hm1, hm2, a1, a2, a3⟩ := h.W k' hk' (by omega)
      have am := r.p m hm2 hm1
      have qm := r.v.a _ (List.getElem_mem hm2)
      simp only [pcB, e0]
      rintro ⟨b1, b2, b3⟩
      by_cases ek : m = k
      · subst ek
        omega
      · rcases hap m k hm1 hk0 ek (by rw [a1, b1, hpk.1]) with c | c
        · omega
        · omega
theorem all_PI {lens : List Int} {parts0 : List S57} {P : List Int} (hP : ∀ p ∈ P, 1 ≤ p ∧ p ≤ 10000)
    (hap : ∀ k k' (hk : k < parts0.length) (hk' : k' < parts0.length), k ≠ k' → parts0[k].f0 = parts0[k'].f0 → parts0[k].f2 ≤ parts0[k'].f1 ∨ parts0[k'].f2 ≤ parts0[k].f1) :
    ∀ (ps : List Int) (i : Nat) (s : St) (acc : List S60), P.drop i = ps → i + ps.length = P.length → RB P parts0 lens.length ps s → PI lens parts0 P i s acc → ∀ z ∈ BoltCore.all parts0.length okB stB pcB ps s, PI lens parts0 P P.length z.2 (acc ++ z.1)
  | [], i, s, acc, hi, hl, r, h, z, hz => by
    simp only [BoltCore.all, List.mem_singleton] at hz
    subst hz
    simp only [List.length_nil, Nat.add_zero] at hl
    subst hl
    simpa using h
  | p :: ps, i, s, acc, hi, hl, r, h, z, hz => by
    simp only [BoltCore.all, List.mem_flatMap, List.mem_range] at hz
    obtain ⟨k, hk, hz⟩ := hz
    split at hz
    · rename_i ho
      obtain ⟨y, hy, rfl⟩ := List.mem_map.1 hz
      have hks : k < s.1.length := by rw [r.l]; exact hk
      have := all_PI hP hap ps (i + 1) (stB p s k) (acc ++ [pcB s k]) (by rw [← List.drop_drop, hi]; rfl) (by simp only [List.length_cons] at hl; omega) (r.step hP hks ho) (h.step hP hap r hi hks ho) y hy
      simpa using this
    · cases hz
/-- The sound parts of a bolt: from a place on, up to its end. -/
def partsFrom (e : Int) (a : Int) : List Int → List (List Int)
  | [] => [[a, e]]
  | f :: r => [a, f] :: partsFrom e f r
theorem partsFrom_len (e : Int) (l : List Int) : ∀ a, (partsFrom e a l).length = l.length + 1 := by
  induction l with
  | nil => intro a; rfl
  | cons f r ih => intro a; simp [partsFrom, ih]
theorem partsFrom_two (e : Int) (l : List Int) : ∀ a, ∀ p ∈ partsFrom e a l, p.length = 2 := by
  induction l with
  | nil => intro a p hp; simp [partsFrom] at hp; subst hp; rfl
  | cons f r ih =>
    intro a p hp
    simp only [partsFrom, List.mem_cons] at hp
    rcases hp with rfl | hp
    · rfl
    · exact ih f p hp
def partsOf (b : S50) : List (List Int) := partsFrom b.f0 0 b.f1
theorem impl_soundParts_val (x : Int) (l : List Int) (hl : l.length ≤ 1048576) : impl_soundParts.F x l = some (partsFrom x 0 l) := by
  have key : ∀ (d i : Nat) (out : List (List Int)) (a : Int), i + d = l.length → out.length ≤ i → impl_soundParts.L0 out a l (l.length : Int) (i : Int) x l = some (out ++ partsFrom x a (l.drop i)) := by
    intro d
    induction d with
    | zero =>
      intro i out a hd ho
      have h1 : out.length < 5864062014805 := by omega
      rw [impl_soundParts.L0_eq, if_neg (by omega), if_pos h1, List.drop_of_length_le (by omega)]
      rfl
    | succ d ih =>
      intro i out a hd ho
      have hi : i < l.length := by omega
      have h1 : out.length < 5864062014805 := by omega
      rw [impl_soundParts.L0_eq, if_pos (by omega), if_pos (by omega), if_pos (by omega), if_pos h1, rd_get _ i hi, wS (by omega), ih (i + 1) _ _ (by omega) (by rw [List.length_append]; simp; omega), List.drop_eq_getElem_cons hi]
      simp [partsFrom]
  rw [impl_soundParts.F_eq]
  have := key l.length 0 [] 0 (by omega) (by simp)
  simpa using this
theorem rises_mem {l : List Int} {a b : Int} (h : rises l a b = true) : ∀ y ∈ l, a ≤ y ∧ y ≤ b := by
  rw [rises_iff] at h
  intro y hy
  obtain ⟨i, hi, rfl⟩ := List.getElem_of_mem hy
  have := (h i hi).1
  rw [rd_get l i hi] at this
  exact this
theorem partsFrom_bounds (e : Int) (he0 : 0 ≤ e) (he : e ≤ 10000) (l : List Int) (hl : ∀ f ∈ l, 0 ≤ f ∧ f ≤ 10000) : ∀ a, 0 ≤ a → ∀ p ∈ partsFrom e a l, p.length = 2 ∧ 0 ≤ rd p 0 ∧ 0 ≤ rd p 1 ∧ rd p 1 ≤ 10000 := by
  induction l with
  | nil =>
    intro a ha p hp
    simp only [partsFrom, List.mem_singleton] at hp
    subst hp
    exact ⟨rfl, ha, he0, he⟩
  | cons f r ih =>
    intro a ha p hp
    have hf := hl f List.mem_cons_self
    simp only [partsFrom, List.mem_cons] at hp
    rcases hp with rfl | hp
    · exact ⟨rfl, ha, hf.1, hf.2⟩
    · exact ih (fun g hg => hl g (List.mem_cons_of_mem _ hg)) f hf.1 p hp
theorem parts_bounds {b : S50} (h : boltOk b = true) : ∀ p ∈ partsOf b, p.length = 2 ∧ 0 ≤ rd p 0 ∧ 0 ≤ rd p 1 ∧ rd p 1 ≤ 10000 := by
  rw [boltOk_def, Bool.and_eq_true, Bool.and_eq_true, inB_iff, decide_eq_true_iff] at h
  obtain ⟨h1, h2, h3⟩ := h
  exact partsFrom_bounds b.f0 (by omega) h1.2 b.f1 (fun f hf => by have := rises_mem h3 f hf; omega) 0 (by omega)
/-- A panel lies within a sound part. -/
def soundB (b : S50) (x n : Int) : Bool := (partsOf b).any fun p => inB x (rd p 0) (rd p 1 - n)
theorem rdLL (l : List (List Int)) (i : Nat) (h : i < l.length) : rd_L2 l (i : Int) = l[i] := by simp [rd_L2, h]
theorem rdIPiece (l : List S60) (i : Nat) (h : i < l.length) : rd_T60 l (i : Int) = l[i] := by simp [rd_T60, h]
theorem rdIBolt (l : List S50) (i : Nat) (h : i < l.length) : rd_T50 l (i : Int) = l[i] := by simp [rd_T50, h]
theorem sound_loopI (l : List S50) (ps : List Int) (qs : List S60) (b : S50) (hb : boltOk b = true) (i : Nat) (hi : i < ps.length) (hn0 : 1 ≤ rd ps (i : Int)) (hn1 : rd ps (i : Int) ≤ 10000) (n x y : Int) (d : Nat) :
    ∀ (k : Nat) (s : Bool), k + d = (partsOf b).length → impl_pieceFault.L1 l ps qs (i : Int) s qs n (i : Int) (partsOf b) ((partsOf b).length : Int) (k : Int) x y = impl_pieceFault.L1 l ps qs (i : Int) (s || ((partsOf b).drop k).any fun p => inB y (rd p 0) (rd p 1 - rd ps (i : Int))) qs n (i : Int) (partsOf b) ((partsOf b).length : Int) ((partsOf b).length : Int) x y := by
  have hv := boltOk_vals hb
  have hlen : (partsOf b).length ≤ 7 := by unfold partsOf; rw [partsFrom_len]; omega
  induction d with
  | zero =>
    intro k s hk
    rw [List.drop_of_length_le (by omega), show k = (partsOf b).length by omega]
    simp
  | succ d ih =>
    intro k s hk
    have hk2 : k < (partsOf b).length := by omega
    have hp := parts_bounds hb _ (List.getElem_mem hk2)
    rw [impl_pieceFault.L1_eq, if_pos (by omega), if_pos (by omega), if_pos (by omega), wS (by omega), rdLL _ k hk2, List.drop_eq_getElem_cons hk2, List.any_cons]
    cases s with
    | true =>
      rw [if_pos rfl, ih (k + 1) true (by omega), Bool.true_or, Bool.true_or]
    | false =>
      rw [if_neg nf, Bool.false_or, if_pos (by omega)]
      by_cases h1 : y ≥ rd (partsOf b)[k] 0
      · rw [if_pos h1, if_pos (by omega)]
        by_cases h2 : y ≤ rd (partsOf b)[k] 1
        · rw [if_pos h2, if_pos (by omega), if_pos (by omega), ih (k + 1) _ (by omega), w64 (n := y + rd ps (i : Int)) (by omega) (by omega)]
          congr 2
          rw [Bool.eq_iff_iff, decide_eq_true_iff, inB_iff]
          omega
        · rw [if_neg h2, ih (k + 1) _ (by omega)]
          congr 2
          rw [Bool.eq_iff_iff, inB_iff]
          simp; omega
      · rw [if_neg h1, ih (k + 1) _ (by omega)]
        congr 2
        rw [Bool.eq_iff_iff, inB_iff]
        simp; omega
theorem impl_within_val (n a b : Int) : impl_within.f n a b = some (inB n a b) := by
  unfold impl_within.f inB
  by_cases h : n ≥ a
  · rw [if_pos h]; simp [show a ≤ n from h]
  · rw [if_neg h]; simp; omega
theorem impl_validBolt_val (x : Int) (l : List Int) (hl : l.length < 4611686018427387904) : impl_validBolt.F x l = some (boltOk ⟨x, l⟩) := by
  rw [impl_validBolt.F_eq, impl_within_val]
  simp only [Option.bind_some]
  rw [boltOk_def]
  show _ = some (inB x 1 10000 && (decide (l.length ≤ 6) && rises l 1 (x - 1)))
  cases h1 : inB x 1 10000 with
  | false => rw [if_neg nf, impl_validBolt.J0_eq, if_pos rfl]; rfl
  | true =>
    rw [if_pos rfl]
    rw [inB_iff] at h1
    by_cases h2 : (l.length : Int) > 6
    · rw [decide_eq_true h2, impl_validBolt.J0_eq, if_pos rfl, decide_eq_false (by omega)]
      rfl
    · rw [decide_eq_false h2, impl_validBolt.J0_eq, if_neg nf, decide_eq_true (by omega)]
      refine (allRange l.length (riseAt l 1 (x - 1)) (fun i => impl_validBolt.L0 l (l.length : Int) i x l) true (fun i hi => ?_) ?_).trans (by simp [rises])
      · show impl_validBolt.L0 _ _ i _ _ = _
        rw [impl_validBolt.L0_eq, if_pos (by omega), if_pos (by omega), if_pos (by omega), w64 (n := x - 1) (by omega) (by omega), impl_within_val, wS (by omega)]
        simp only [Option.bind_some]
        rw [riseAt_def, ite_band]
        by_cases h3 : inB (rd l (i : Int)) 1 (x - 1) = true
        · rw [if_pos h3, if_pos h3]
          by_cases h0 : i = 0
          · rw [if_neg (by omega), if_pos (by simp [h0])]
          · rw [if_pos (by omega), w64 (by omega) (by omega), if_pos (by omega), if_pos (by omega)]
            by_cases h4 : rd l (i : Int) ≤ rd l ((i : Int) - 1)
            · rw [if_pos h4, if_neg (by simp [h0]; omega)]
            · rw [if_neg h4, if_pos (by simp [h0]; omega)]
        · rw [if_neg h3, if_neg h3]
      · show impl_validBolt.L0 _ _ _ _ _ = _
        rw [impl_validBolt.L0_eq, if_neg (by omega)]
theorem impl_ValidBolts_val (l : List S50) (hl : l.length < 4611686018427387904) (hy : ∀ y ∈ l, y.f1.length ≤ 1048576) : impl_ValidBolts.F l = some (boltsOk l) := by
  rw [impl_ValidBolts.F_eq]
  unfold boltsOk
  by_cases h : (l.length : Int) > 4
  · rw [if_pos h]; simp; omega
  · rw [if_neg h]
    have := allLoop l boltOk (fun i => impl_ValidBolts.L0 l (l.length : Int) i) true (fun i hi => by
      show impl_ValidBolts.L0 l _ i = _
      rw [impl_ValidBolts.L0_eq, if_pos (by omega), if_pos (by omega), if_pos (by omega), rdIBolt l i hi, wS (by omega), impl_validBolt_val _ _ (by have := hy _ (List.getElem_mem hi); omega)]
      rfl) (by
      show impl_ValidBolts.L0 l _ _ = _
      rw [impl_ValidBolts.L0_eq, if_neg (by omega)])
    rw [this]
    simp; omega
theorem impl_areIn_val (l : List Int) (n a b : Int) (hl : l.length < 4611686018427387904) : impl_areIn.F l n a b = some (decide ((l.length : Int) = n) && l.all (fun x => inB x a b)) := by
  rw [impl_areIn.F_eq]
  by_cases h : (l.length : Int) = n
  · rw [if_pos h, decide_eq_true h]
    refine (allLoop l (fun x => inB x a b) (fun i => impl_areIn.L0 a b l (l.length : Int) i) true (fun i hi => ?_) ?_).trans (by simp)
    · show impl_areIn.L0 a b l _ i = _
      rw [impl_areIn.L0_eq, if_pos (by omega), if_pos (by omega), if_pos (by omega), rd_get l i hi, wS (by omega), impl_within_val]
      rfl
    · show impl_areIn.L0 a b l _ _ = _
      rw [impl_areIn.L0_eq, if_neg (by omega)]
  · rw [if_neg h, decide_eq_false h]; rfl
def panels16 (l : List Int) : Bool := l.all (fun x => inB x 1 10000) && decide (l.length ≤ 6)
theorem panels16_iff (l : List Int) : panels16 l = true ↔ (∀ x ∈ l, 1 ≤ x ∧ x ≤ 10000) ∧ l.length ≤ 6 := by
  unfold panels16
  rw [Bool.and_eq_true, List.all_eq_true, decide_eq_true_iff]
  exact and_congr (forall_congr' fun x => imp_congr Iff.rfl (inB_iff x 1 10000)) Iff.rfl
def twoCode (l : List S50) (ps : List Int) : Int := if boltsOk l = true then (if panels16 ps = true then 0 else 2) else 1
theorem twoCode_ok {l : List S50} {ps : List Int} (h : twoCode l ps = 0) : boltsOk l = true ∧ panels16 ps = true := by
  unfold twoCode at h
  by_cases h1 : boltsOk l = true
  · rw [if_pos h1] at h
    by_cases h2 : panels16 ps = true
    · exact ⟨h1, h2⟩
    · rw [if_neg h2] at h; omega
  · rw [if_neg h1] at h; omega
theorem impl_panelsCode_val (l : List S50) (ps : List Int) (hl : l.length < 4611686018427387904) (hy : ∀ y ∈ l, y.f1.length ≤ 1048576) (hp : ps.length < 4611686018427387904) : impl_panelsCode.F l ps = some (twoCode l ps) := by
  rw [impl_panelsCode.F_eq, impl_ValidBolts_val l hl hy]
  simp only [Option.bind_some]
  unfold twoCode
  by_cases h1 : boltsOk l = true
  · rw [if_pos h1, if_pos h1]
    by_cases h2 : (ps.length : Int) > 6
    · rw [if_pos h2, if_neg (by unfold panels16; simp; omega)]
    · rw [if_neg h2, impl_areIn_val ps _ 1 10000 hp, decide_eq_true rfl]
      simp only [Option.bind_some]
      have e : panels16 ps = (true && ps.all fun x => inB x 1 10000) := by unfold panels16; rw [decide_eq_true (by omega)]; simp
      rw [e]
      split <;> rfl
  · rw [if_neg h1, if_neg h1]
def placeCode (l : List S50) (ps : List Int) (qs : List S60) : Int := if boltsOk l = true then (if (panels16 ps && (decide (qs.length = ps.length) && qs.all fun q => inB q.f0 0 ((l.length : Int) - 1))) = true then 0 else 2) else 1
theorem placeCode_ok {l : List S50} {ps : List Int} {qs : List S60} (h : placeCode l ps qs = 0) : boltsOk l = true ∧ panels16 ps = true ∧ qs.length = ps.length ∧ ∀ q ∈ qs, 0 ≤ q.f0 ∧ q.f0 ≤ (l.length : Int) - 1 := by
  unfold placeCode at h
  by_cases h1 : boltsOk l = true
  · rw [if_pos h1] at h
    by_cases h2 : (panels16 ps && (decide (qs.length = ps.length) && qs.all fun q => inB q.f0 0 ((l.length : Int) - 1))) = true
    · rw [Bool.and_eq_true, Bool.and_eq_true, decide_eq_true_iff, List.all_eq_true] at h2
      exact ⟨h1, h2.1, h2.2.1, fun q hq => (inB_iff _ _ _).1 (h2.2.2 q hq)⟩
    · rw [if_neg h2] at h; omega
  · rw [if_neg h1] at h; omega
/-- A loop that ends with one answer at the first element that isn't as it should be, with another one behind the last. -/
theorem allTo {α β : Type} (l : List α) (p : α → Bool) (g : Int → β) (no r : β) (h : ∀ i (hi : i < l.length), g (i : Int) = if p l[i] = true then g ((i + 1 : Nat) : Int) else no) (he : g (l.length : Int) = r) : g 0 = if l.all p = true then r else no := by
  have key : ∀ (d i : Nat), l.length - i = d → i ≤ l.length → g (i : Int) = if (l.drop i).all p = true then r else no := by
    intro d
    induction d with
    | zero =>
      intro i hd hi
      obtain rfl : i = l.length := by omega
      rw [he]; simp
    | succ d ih =>
      intro i hd hi
      have hlt : i < l.length := by omega
      rw [h i hlt, ih (i + 1) (by omega) (by omega), List.drop_eq_getElem_cons hlt, List.all_cons]
      by_cases hp : p l[i] = true
      · rw [if_pos hp, hp, Bool.true_and]
      · rw [if_neg hp, if_neg (by simp [hp])]
  have := key l.length 0 (by omega) (by omega)
  simpa using this
theorem impl_placesCode_val (l : List S50) (ps : List Int) (qs : List S60) (hl : l.length < 4611686018427387904) (hy : ∀ y ∈ l, y.f1.length ≤ 1048576) (hp : ps.length < 4611686018427387904) (hq : qs.length < 4611686018427387904) : impl_placesCode.F l ps qs = some (placeCode l ps qs) := by
  rw [impl_placesCode.F_eq, impl_panelsCode_val l ps hl hy hp]
  simp only [Option.bind_some]
  unfold placeCode twoCode
  by_cases h1 : boltsOk l = true
  · rw [if_pos h1, if_pos h1]
    by_cases h2 : panels16 ps = true
    · rw [if_pos h2, if_pos rfl, h2, Bool.true_and]
      by_cases h3 : qs.length = ps.length
      · rw [if_pos (show (qs.length : Int) = (ps.length : Int) by omega), decide_eq_true h3, Bool.true_and]
        have e := allTo qs (fun q => inB q.f0 0 ((l.length : Int) - 1)) (fun i => impl_placesCode.L0 l qs (qs.length : Int) i) (some 2) (some 0) (fun i hi => by
          show impl_placesCode.L0 l qs _ i = _
          rw [impl_placesCode.L0_eq, if_pos (by omega), if_pos (by omega), if_pos (by omega), rdIPiece qs i hi, wS (by omega), w64 (n := (l.length : Int) - 1) (by omega) (by omega), impl_within_val]
          rfl) (by
          show impl_placesCode.L0 l qs _ _ = _
          rw [impl_placesCode.L0_eq, if_neg (by omega)])
        refine Eq.trans e ?_
        split <;> rfl
      · rw [if_neg (show ¬ (qs.length : Int) = (ps.length : Int) by omega), decide_eq_false h3, Bool.false_and, if_neg nf]
    · rw [if_neg h2, if_neg (by decide), show panels16 ps = false by simpa using h2, Bool.false_and, if_neg nf]
  · rw [if_neg h1, if_neg h1, if_neg (by decide)]
/-- Places that are sound and apart: no fault. -/
theorem pf_val (l : List S50) (ps : List Int) (qs : List S60) (h : placeCode l ps qs = 0)
    (hs : ∀ j (h : j < qs.length) (h' : j < ps.length) (h'' : qs[j].f0.toNat < l.length), soundB l[qs[j].f0.toNat] qs[j].f1 ps[j] = true) (hb : ∀ q ∈ qs, 0 ≤ q.f1 ∧ q.f1 ≤ 10000)
    (hn : ∀ j (h : j < qs.length) (h' : j < ps.length) k (hk : k < j), ¬ (qs[k].f0 = qs[j].f0 ∧ qs[j].f1 < qs[k].f1 + ps[k] ∧ qs[k].f1 < qs[j].f1 + ps[j])) : impl_pieceFault.F l ps qs = some (-1) := by
  obtain ⟨h1, h2, h3, h4⟩ := placeCode_ok h
  rw [boltsOk_iff] at h1
  rw [panels16_iff] at h2
  rw [impl_pieceFault.F_eq]
  have key : ∀ (d i : Nat), i + d = qs.length → impl_pieceFault.L0 l ps qs qs (qs.length : Int) (i : Int) = some (-1) := by
    intro d
    induction d with
    | zero =>
      intro i hi
      rw [impl_pieceFault.L0_eq, if_neg (by omega)]
    | succ d ih =>
      intro i hi
      have e1 := ih (i + 1) (by omega)
      have hq : i < qs.length := by omega
      have hp : i < ps.length := by omega
      have hbq := h4 _ (List.getElem_mem hq)
      have hsi := hs i hq hp (by omega)
      have hni := hn i hq hp
      have hbi := hb _ (List.getElem_mem hq)
      obtain ⟨j, hj⟩ : ∃ j : Nat, qs[i].f0 = (j : Int) := ⟨qs[i].f0.toNat, by omega⟩
      have hjl : j < l.length := by omega
      have hbo := h1.1 _ (List.getElem_mem hjl)
      have hnp := h2.1 _ (List.getElem_mem hp)
      simp only [hj, Int.toNat_natCast] at hsi
      rw [impl_pieceFault.L0_eq, rdIPiece qs i hq, hj, if_pos (by omega), if_pos (by omega), if_pos (by omega), if_pos (by omega), if_pos (by omega), rdIBolt l j hjl]
      have er : rd ps (i : Int) = ps[i] := rd_get ps i hp
      have hv := boltOk_vals hbo
      rw [impl_soundParts_val _ _ (by omega)]
      simp only [Option.bind_some]
      have es := sound_loopI l ps qs l[j] hbo i hp (by omega) (by omega) (qs.length : Int) (j : Int) qs[i].f1 (partsOf l[j]).length 0 false (by omega)
      rw [show ((0 : Nat) : Int) = 0 from rfl, List.drop_zero, Bool.false_or, er] at es
      have es2 : impl_pieceFault.L1 l ps qs (i : Int) false qs (qs.length : Int) (i : Int) (partsFrom l[j].f0 0 l[j].f1) ((partsFrom l[j].f0 0 l[j].f1).length : Int) 0 (j : Int) qs[i].f1 = impl_pieceFault.L1 l ps qs (i : Int) (soundB l[j] qs[i].f1 ps[i]) qs (qs.length : Int) (i : Int) (partsOf l[j]) ((partsOf l[j]).length : Int) ((partsOf l[j]).length : Int) (j : Int) qs[i].f1 := es
      rw [es2, impl_pieceFault.L1_eq, if_neg (show ¬ ((partsOf l[j]).length : Int) < ((partsOf l[j]).length : Int) by omega), hsi, if_pos rfl, if_pos (show (0 : Int) ≤ (i : Int) by omega), if_pos (show (i : Int) ≤ (qs.length : Int) by omega)]
      simp only [Option.bind_some, Int.toNat_natCast]
      have hlt : (qs.take i).length = i := by rw [List.length_take]; omega
      have inner : ∀ (d k : Nat), k + d = i → impl_pieceFault.L2 l ps qs (i : Int) qs (qs.length : Int) (i : Int) (qs.take i) ((qs.take i).length : Int) (k : Int) (j : Int) qs[i].f1 = some (-1) := by
        intro d
        induction d with
        | zero =>
          intro k hk
          rw [impl_pieceFault.L2_eq, if_neg (by omega), wS (by omega)]
          exact e1
        | succ d ih2 =>
          intro k hk
          have hk1 : k < i := by omega
          have hkq : k < qs.length := by omega
          have i2 := ih2 (k + 1) (by omega)
          have er2 : rd_T60 (qs.take i) (k : Int) = qs[k] := by rw [rdIPiece _ k (by omega), List.getElem_take]
          have ep : rd ps (k : Int) = ps[k] := rd_get ps k (by omega)
          have hnk := hni k hk1
          have hpk := h2.1 _ (List.getElem_mem (show k < ps.length by omega))
          have hbk := hb _ (List.getElem_mem hkq)
          rw [impl_pieceFault.L2_eq, er2, er, ep, if_pos (show (k : Int) < ((qs.take i).length : Int) by omega), if_pos (show (0 : Int) ≤ (k : Int) by omega), if_pos (show (k : Int) < ((qs.take i).length : Int) by omega), wS (by omega), w64 (n := qs[k].f1 + ps[k]) (by omega) (by omega), w64 (n := qs[i].f1 + ps[i]) (by omega) (by omega)]
          by_cases c1 : qs[k].f0 = (j : Int)
          · rw [if_pos c1, if_pos (show (k : Int) < (ps.length : Int) by omega)]
            by_cases c2 : qs[i].f1 < qs[k].f1 + ps[k]
            · rw [if_pos c2, if_pos (show (0 : Int) ≤ (i : Int) by omega), if_pos (show (i : Int) < (ps.length : Int) by omega), if_neg (fun c3 => hnk ⟨c1.trans hj.symm, c2, c3⟩)]
              exact i2
            · rw [if_neg c2]
              exact i2
          · rw [if_neg c1]
            exact i2
      exact inner i 0 (by omega)
  exact key qs.length 0 (by omega)
/-- A loop that picks elements. -/
theorem pickLoop {α β γ : Type} (l : List α) (p : α → Bool) (f : α → γ) (g : List γ → Int → Option β) (h : ∀ i s (hi : i < l.length), s.length ≤ i → g s (i : Int) = if p l[i] = true then g (s ++ [f l[i]]) ((i + 1 : Nat) : Int) else g s ((i + 1 : Nat) : Int)) : g [] 0 = g ((l.filter p).map f) (l.length : Int) := by
  have := iterF g l.length (fun i => ((l.take i).filter p).map f) (fun i hi => by
    rw [h i _ hi (by rw [List.length_map]; exact Nat.le_trans (List.length_filter_le _ _) (by rw [List.length_take]; omega)), List.take_succ_eq_append_getElem hi, List.filter_append, List.map_append]
    by_cases hp : p l[i] = true
    · rw [if_pos hp, List.filter_cons_of_pos hp]; rfl
    · rw [if_neg hp, List.filter_cons_of_neg hp]; simp)
  simpa using this
theorem leftOf_drop (o : List Int) (qs : List S60) (ps : List Int) (i : Nat) (h : i < qs.length) (h' : i < ps.length) : leftOf o (qs.drop i) (ps.drop i) = leftOf (o.set qs[i].f0.toNat (rd o qs[i].f0 - ps[i])) (qs.drop (i + 1)) (ps.drop (i + 1)) := by
  rw [List.drop_eq_getElem_cons h, List.drop_eq_getElem_cons h', leftOf]
theorem left_val (l : List S50) (ps : List Int) (qs : List S60) (hl : l.length ≤ 1048576) (hq : qs.length ≤ 6) (hy : ∀ y ∈ l, y.f1.length ≤ 1048576) (h : placeCode l ps qs = 0) (hpf : impl_pieceFault.F l ps qs = some (-1)) : impl_ClothLeft.F l ps qs = some (leftOf (l.map (·.f0)) qs ps, 0) := by
  obtain ⟨h1, h2, h3, h4⟩ := placeCode_ok h
  rw [boltsOk_iff] at h1
  rw [panels16_iff] at h2
  have e2 : impl_ClothLeft.L0 ps qs [] l (l.length : Int) 0 = impl_ClothLeft.L1 ps (l.map (·.f0)) qs (qs.length : Int) 0 := by
    refine (pickLoop l (fun _ => true) (·.f0) (fun o i => impl_ClothLeft.L0 ps qs o l (l.length : Int) i) (fun i s hi hs => ?_)).trans ?_
    · show impl_ClothLeft.L0 _ _ _ _ _ _ = if _ then impl_ClothLeft.L0 _ _ _ _ _ _ else impl_ClothLeft.L0 _ _ _ _ _ _
      rw [impl_ClothLeft.L0_eq, if_pos (by omega), if_pos (by omega), if_pos (by omega), if_pos (by omega), rdIBolt l i hi, wS (by omega), if_pos rfl]
    · show impl_ClothLeft.L0 _ _ _ _ _ _ = _
      rw [impl_ClothLeft.L0_eq, if_neg (by omega), List.filter_eq_self.2 (fun _ _ => rfl)]
  have key : ∀ (d i : Nat) (o : List Int), i + d = qs.length → o.length = l.length → (∀ x ∈ o, -10000 * (i : Int) ≤ x ∧ x ≤ 10000) → impl_ClothLeft.L1 ps o qs (qs.length : Int) (i : Int) = some (leftOf o (qs.drop i) (ps.drop i), 0) := by
    intro d
    induction d with
    | zero =>
      intro i o hi ho hb
      rw [impl_ClothLeft.L1_eq, if_neg (by omega), List.drop_of_length_le (by omega), List.drop_of_length_le (by omega)]
      rfl
    | succ d ih =>
      intro i o hi ho hb
      have hqi : i < qs.length := by omega
      have hpi : i < ps.length := by omega
      have hbq := h4 _ (List.getElem_mem hqi)
      have hpv := h2.1 _ (List.getElem_mem hpi)
      have er : rd ps (i : Int) = ps[i] := rd_get ps i hpi
      have hob := hb _ (rd_mem o qs[i].f0 hbq.1 (by omega))
      rw [impl_ClothLeft.L1_eq, rdIPiece qs i hqi, if_pos (by omega), if_pos (by omega), if_pos (by omega), if_pos (by omega), if_pos (by omega), if_pos (by omega), er, wS (by omega), w64 (n := rd o qs[i].f0 - ps[i]) (by omega) (by omega), leftOf_drop o qs ps i hqi hpi]
      refine ih (i + 1) _ (by omega) (by rw [List.length_set]; exact ho) (fun x hx => ?_)
      rcases List.mem_or_eq_of_mem_set hx with hx | rfl
      · have := hb x hx; omega
      · omega
  rw [impl_ClothLeft.F_eq, impl_placesCode_val l ps qs (by omega) hy (by omega) (by omega), h]
  simp only [Option.bind_some]
  rw [if_pos trivial, hpf]
  simp only [Option.bind_some]
  rw [if_neg (by omega), e2]
  have := key qs.length 0 (l.map (·.f0)) (by omega) (by rw [List.length_map]) (fun x hx => by
    obtain ⟨b, hb, rfl⟩ := List.mem_map.1 hx
    have := boltOk_vals (h1.1 b hb)
    omega)
  simpa using this
theorem a2Sum_val (l : List Int) (hl : l.length ≤ 6) (h : ∀ p ∈ l, 1 ≤ p ∧ p ≤ 10000) : laws_a2Sum.F l = some (sumI l) := by
  have key : ∀ (d i : Nat) (s : Int), i + d = l.length → 0 ≤ s → s ≤ 10000 * i → laws_a2Sum.L0 l s (i : Int) = some (s + sumI (l.drop i)) := by
    intro d
    induction d with
    | zero =>
      intro i s hi h0 h1
      rw [laws_a2Sum.L0_eq, if_neg (by omega), List.drop_of_length_le (by omega)]
      simp [sumI]
    | succ d ih =>
      intro i s hi h0 h1
      have hil : i < l.length := by omega
      have hv := h _ (List.getElem_mem hil)
      rw [laws_a2Sum.L0_eq, if_pos (by omega), if_pos (by omega), rd_get l i hil, wS (by omega), w64 (n := s + l[i]) (by omega) (by omega), ih (i + 1) _ (by omega) (by omega) (by omega), List.drop_eq_getElem_cons hil, sumI]
      congr 1
      omega
  rw [laws_a2Sum.F_eq]
  have := key l.length 0 0 (by omega) (by omega) (by omega)
  simpa using this
def cntL : List Int → List Int → Int
  | x :: a, y :: b => (if y < x then 1 else 0) + cntL a b
  | _, _ => 0
theorem cntL_le : ∀ a b : List Int, 0 ≤ cntL a b ∧ cntL a b ≤ a.length
  | [], _ => by simp [cntL]
  | _ :: _, [] => by simp only [cntL, List.length_cons]; omega
  | x :: a, y :: b => by
    have := cntL_le a b
    simp only [cntL, List.length_cons]
    split <;> omega
theorem on_loop (l : List S50) (o : List Int) (hl : l.length ≤ 4) (ho : o.length = l.length) (hv : ∀ i (h : i < l.length) (h' : i < o.length), 0 ≤ o[i] ∧ o[i] ≤ l[i].f0 ∧ l[i].f0 ≤ 10000) (d : Nat) : ∀ (i : Nat) (n s : Int), i + d = l.length → 0 ≤ n → n ≤ i → -10000 * (i : Int) ≤ s → s ≤ 60000 → laws_a2OnBolts.L0 l o n s (i : Int) = if s - (sumI ((l.map (·.f0)).drop i) - sumI (o.drop i)) = 0 then some (n + cntL ((l.map (·.f0)).drop i) (o.drop i)) else some (-1) := by
  induction d with
  | zero =>
    intro i n s hi h0 h1 h2 h3
    rw [laws_a2OnBolts.L0_eq, if_neg (by omega), List.drop_of_length_le (by rw [List.length_map]; omega), List.drop_of_length_le (by omega)]
    simp [sumI, cntL]
  | succ d ih =>
    intro i n s hi h0 h1 h2 h3
    have hil : i < l.length := by omega
    have hio : i < o.length := by omega
    have hvi := hv i hil hio
    have ed : (l.map (·.f0)).drop i = l[i].f0 :: (l.map (·.f0)).drop (i + 1) := by rw [List.drop_eq_getElem_cons (by rw [List.length_map]; exact hil), List.getElem_map]
    rw [laws_a2OnBolts.L0_eq, if_pos (by omega), if_pos (by omega), if_pos (by omega), rd_get o i hio, rdIBolt l i hil, if_neg (by omega), decide_eq_false (by omega), laws_a2OnBolts.J2_eq, if_neg nf, if_pos (by omega), if_pos (by omega), if_pos (by omega), rd_get o i hio, rdIBolt l i hil, wS (by omega), w64 (n := l[i].f0 - o[i]) (by omega) (by omega), w64 (n := s - (l[i].f0 - o[i])) (by omega) (by omega), w64 (n := n + 1) (by omega) (by omega), ed, List.drop_eq_getElem_cons hio]
    have q1 : sumI (l[i].f0 :: (l.map (·.f0)).drop (i + 1)) = l[i].f0 + sumI ((l.map (·.f0)).drop (i + 1)) := rfl
    have q2 : sumI (o[i] :: o.drop (i + 1)) = o[i] + sumI (o.drop (i + 1)) := rfl
    have q3 : cntL (l[i].f0 :: (l.map (·.f0)).drop (i + 1)) (o[i] :: o.drop (i + 1)) = (if o[i] < l[i].f0 then 1 else 0) + cntL ((l.map (·.f0)).drop (i + 1)) (o.drop (i + 1)) := rfl
    by_cases c : o[i] < l[i].f0
    · rw [if_pos c, ih (i + 1) _ _ (by omega) (by omega) (by omega) (by omega) (by omega)]
      by_cases e : s - (l[i].f0 - o[i]) - (sumI ((l.map (·.f0)).drop (i + 1)) - sumI (o.drop (i + 1))) = 0
      · rw [if_pos e, if_pos (by rw [q1, q2]; omega), q3, if_pos c]; congr 1; omega
      · rw [if_neg e, if_neg (by rw [q1, q2]; omega)]
    · rw [if_neg c, ih (i + 1) _ _ (by omega) (by omega) (by omega) (by omega) (by omega)]
      by_cases e : s - (l[i].f0 - o[i]) - (sumI ((l.map (·.f0)).drop (i + 1)) - sumI (o.drop (i + 1))) = 0
      · rw [if_pos e, if_pos (by rw [q1, q2]; omega), q3, if_neg c]; congr 1; omega
      · rw [if_neg e, if_neg (by rw [q1, q2]; omega)]
/-- All sound parts of all bolts: bolt, begin, end. -/
def cutsFrom (i : Int) : List S50 → List (Int × Int × Int)
  | [] => []
  | b :: r => (partsOf b).map (fun p => (i, rd p 0, rd p 1)) ++ cutsFrom (i + 1) r
theorem cutsFrom_len (l : List S50) (h : ∀ b ∈ l, b.f1.length ≤ 6) : ∀ i, (cutsFrom i l).length ≤ 7 * l.length := by
  induction l with
  | nil => intro i; simp [cutsFrom]
  | cons b r ih =>
    intro i
    have h1 := ih (fun c hc => h c (List.mem_cons_of_mem _ hc)) (i + 1)
    have h2 := h b List.mem_cons_self
    simp only [cutsFrom, List.length_append, List.length_map, List.length_cons]
    unfold partsOf
    rw [partsFrom_len]
    omega
def mkPart (c : Int × Int × Int) : S57 := ⟨c.1, c.2.1, c.2.2⟩
theorem impl_partsOfBolts_val (l : List S50) (hl : l.length ≤ 4) (hy : ∀ b ∈ l, b.f1.length ≤ 6) : impl_partsOfBolts.F l = some ((cutsFrom 0 l).map mkPart) := by
  have inner : ∀ (ps : List (List Int)) (i : Nat), ps.length ≤ 7 → (∀ p ∈ ps, p.length = 2) → ∀ (d j : Nat) (out : List S57), j + d = ps.length → out.length + (ps.length - j) ≤ 1000 → impl_partsOfBolts.L1 out (i : Int) l (l.length : Int) (i : Int) ps (ps.length : Int) (j : Int) = impl_partsOfBolts.L0 (out ++ (ps.drop j).map (fun p => mkPart ((i : Int), rd p 0, rd p 1))) l (l.length : Int) (wrap64 ((i : Int) + 1)) := by
    intro ps i hps h2 d
    induction d with
    | zero =>
      intro j out hd ho
      rw [impl_partsOfBolts.L1_eq, if_neg (by omega), List.drop_of_length_le (by omega)]
      simp
    | succ d ih =>
      intro j out hd ho
      have hj : j < ps.length := by omega
      have hp2 := h2 _ (List.getElem_mem hj)
      have h1 : out.length < 5864062014805 := by omega
      rw [impl_partsOfBolts.L1_eq, if_pos (by omega), if_pos (by omega), if_pos (by omega), rdLL ps j hj, hp2, if_pos (by decide), if_pos (by decide), if_pos h1, wS (by omega), ih (j + 1) _ (by omega) (by rw [List.length_append]; simp; omega), List.drop_eq_getElem_cons hj]
      simp only [List.map_cons, List.append_assoc, List.cons_append, List.nil_append]
      rfl
  have outer : ∀ (d i : Nat) (out : List S57), i + d = l.length → out.length ≤ 7 * i → impl_partsOfBolts.L0 out l (l.length : Int) (i : Int) = some (out ++ (cutsFrom (i : Int) (l.drop i)).map mkPart) := by
    intro d
    induction d with
    | zero =>
      intro i out hd ho
      rw [impl_partsOfBolts.L0_eq, if_neg (by omega), List.drop_of_length_le (by omega)]
      simp [cutsFrom]
    | succ d ih =>
      intro i out hd ho
      have hi : i < l.length := by omega
      have hb := hy _ (List.getElem_mem hi)
      have hpl : (partsOf l[i]).length ≤ 7 := by unfold partsOf; rw [partsFrom_len]; omega
      rw [impl_partsOfBolts.L0_eq, if_pos (by omega), if_pos (by omega), if_pos (by omega), rdIBolt l i hi, impl_soundParts_val _ _ (by omega)]
      simp only [Option.bind_some]
      have e := inner (partsOf l[i]) i hpl (partsFrom_two _ _ _) (partsOf l[i]).length 0 out (by omega) (by omega)
      rw [show ((0 : Nat) : Int) = 0 from rfl] at e
      refine (show impl_partsOfBolts.L1 out (i : Int) l (l.length : Int) (i : Int) (partsOf l[i]) ((partsOf l[i]).length : Int) 0 = _ from e).trans ?_
      rw [wS (by omega), ih (i + 1) _ (by omega) (by rw [List.length_append, List.length_map, List.length_drop]; omega), List.drop_eq_getElem_cons hi]
      simp [cutsFrom, mkPart, Function.comp_def]
  rw [impl_partsOfBolts.F_eq]
  have := outer l.length 0 [] (by omega) (by simp)
  simpa using this
def Ch (e : Int) : Int → List Int → Prop
  | a, [] => a ≤ e
  | a, f :: r => a ≤ f ∧ Ch e f r
theorem ch_drop (fl : List Int) (e : Int) (h : ∀ i (hi : i < fl.length), fl[i] ≤ e) (h2 : ∀ i (hi : i + 1 < fl.length), fl[i] ≤ fl[i + 1]) (d : Nat) : ∀ (i : Nat) (a : Int), i + d = fl.length → a ≤ e → (∀ (hi : i < fl.length), a ≤ fl[i]) → Ch e a (fl.drop i) := by
  induction d with
  | zero =>
    intro i a hi ha _
    rw [List.drop_of_length_le (by omega)]
    exact ha
  | succ d ih =>
    intro i a hi ha hf
    have hil : i < fl.length := by omega
    rw [List.drop_eq_getElem_cons hil]
    exact ⟨hf hil, ih (i + 1) _ (by omega) (h i hil) (fun h3 => h2 i h3)⟩
theorem ch_bolt {b : S50} (h : boltOk b = true) : Ch b.f0 0 b.f1 := by
  obtain ⟨h0, _, _, h3⟩ := boltOk_vals h
  have e : ∀ i (hi : i < b.f1.length), rd b.f1 (i : Int) = b.f1[i] := fun i hi => rd_get b.f1 i hi
  refine ch_drop b.f1 b.f0 (fun i hi => ?_) (fun i hi => ?_) b.f1.length 0 0 (by omega) (by omega) (fun hi => ?_)
  · have := (h3 i hi).1; rw [e i hi] at this; omega
  · have := (h3 (i + 1) hi).2 (by omega)
    rw [e (i + 1) hi, show ((i + 1 : Nat) : Int) - 1 = (i : Int) by omega, e i (by omega)] at this
    omega
  · have := (h3 0 hi).1
    rw [e 0 hi] at this
    omega
theorem ch_parts (e : Int) : ∀ (fl : List Int) (a : Int), Ch e a fl → a ≤ e ∧ (∀ p ∈ partsFrom e a fl, a ≤ rd p 0 ∧ rd p 0 ≤ rd p 1 ∧ rd p 1 ≤ e) ∧ (partsFrom e a fl).Pairwise (fun p q => rd p 1 ≤ rd q 0)
  | [], a, h => by
    refine ⟨h, ?_, List.pairwise_singleton _ _⟩
    intro p hp
    simp only [partsFrom, List.mem_singleton] at hp
    subst hp
    exact ⟨Int.le_refl _, h, Int.le_refl _⟩
  | f :: r, a, h => by
    obtain ⟨h1, h2, h3⟩ := ch_parts e r f h.2
    have h0 : a ≤ f := h.1
    refine ⟨by omega, ?_, ?_⟩
    · intro p hp
      simp only [partsFrom, List.mem_cons] at hp
      rcases hp with rfl | hp
      · exact ⟨Int.le_refl _, h0, h1⟩
      · have := h2 p hp
        exact ⟨by omega, this.2.1, this.2.2⟩
    · exact List.pairwise_cons.2 ⟨fun p hp => (h2 p hp).1, h3⟩
def sumC (b : Int) : List (Int × Int × Int) → Int
  | [] => 0
  | c :: l => (if c.1 = b then c.2.2 - c.2.1 else 0) + sumC b l
theorem sumC_app (b : Int) : ∀ l m, sumC b (l ++ m) = sumC b l + sumC b m
  | [], m => by simp [sumC]
  | c :: l, m => by simp only [List.cons_append, sumC, sumC_app b l m]; omega
theorem sumC_map (b : Int) : ∀ l : List (Int × Int × Int), sumG (remB b) (l.map mkPart) = sumC b l
  | [] => rfl
  | c :: l => by simp only [List.map_cons, sumG, sumC, sumC_map b l]; rfl
theorem sumC_parts (b i e : Int) : ∀ (fl : List Int) (a : Int), sumC b ((partsFrom e a fl).map (fun p => (i, rd p 0, rd p 1))) = if i = b then e - a else 0
  | [], a => by
    simp only [partsFrom, List.map_cons, List.map_nil, sumC]
    have e0 : rd [a, e] 0 = a := rfl
    have e1 : rd [a, e] 1 = e := rfl
    rw [e0, e1]; simp
  | f :: r, a => by
    simp only [partsFrom, List.map_cons, sumC]
    rw [sumC_parts b i e r f]
    have e0 : rd [a, f] 0 = a := rfl
    have e1 : rd [a, f] 1 = f := rfl
    rw [e0, e1]
    split <;> omega
theorem sumC_cuts (b : Int) : ∀ (l : List S50) (i : Int), 0 ≤ b - i → sumC b (cutsFrom i l) = (if b - i < l.length then rd (l.map (·.f0)) (b - i) else 0)
  | [], i, h => by rw [if_neg (by simp; omega)]; rfl
  | x :: l, i, h => by
    rw [cutsFrom, sumC_app]
    unfold partsOf
    rw [sumC_parts]
    by_cases e : i = b
    · subst e
      have h0 : ∀ (m : List S50) (j : Int), i < j → sumC i (cutsFrom j m) = 0 := by
        intro m
        induction m with
        | nil => intro j _; rfl
        | cons y m ih =>
          intro j hj
          rw [cutsFrom, sumC_app]
          unfold partsOf
          rw [sumC_parts, if_neg (by omega), ih (j + 1) (by omega)]
          rfl
      rw [if_pos rfl, h0 l (i + 1) (by omega), show i - i = 0 by omega, if_pos (by simp only [List.length_cons]; omega)]
      show x.f0 - 0 + 0 = x.f0
      omega
    · rw [if_neg e, sumC_cuts b l (i + 1) (by omega)]
      have hn : (b - i).toNat = (b - (i + 1)).toNat + 1 := by omega
      by_cases c : b - (i + 1) < l.length
      · rw [if_pos c, if_pos (by simp only [List.length_cons]; omega)]
        simp only [rd, rdOf, List.map_cons]
        rw [hn, List.getD_cons_succ]
        omega
      · rw [if_neg c, if_neg (by simp only [List.length_cons]; omega)]
        rfl
theorem cuts_mem : ∀ (l : List S50) (i : Int) (c : Int × Int × Int), c ∈ cutsFrom i l → ∃ j, ∃ (h : j < l.length), c.1 = i + j ∧ ∃ p ∈ partsOf l[j], c.2.1 = rd p 0 ∧ c.2.2 = rd p 1
  | [], i, c, h => by cases h
  | x :: l, i, c, h => by
    rw [cutsFrom] at h
    rcases List.mem_append.1 h with h | h
    · obtain ⟨p, hp, rfl⟩ := List.mem_map.1 h
      exact ⟨0, by simp, by simp, p, hp, rfl, rfl⟩
    · obtain ⟨j, hj, e1, p, hp, e2⟩ := cuts_mem l (i + 1) c h
      exact ⟨j + 1, by simpa using hj, by omega, p, by simpa using hp, e2⟩
theorem cuts_apart : ∀ (l : List S50) (i : Int), (∀ b ∈ l, boltOk b = true) → (cutsFrom i l).Pairwise (fun x y => x.1 = y.1 → x.2.2 ≤ y.2.1)
  | [], i, _ => List.Pairwise.nil
  | x :: l, i, h => by
    rw [cutsFrom]
    refine List.pairwise_append.2 ⟨?_, cuts_apart l (i + 1) (fun b hb => h b (by simp [hb])), ?_⟩
    · refine List.pairwise_map.2 ?_
      refine List.Pairwise.imp ?_ (ch_parts x.f0 x.f1 0 (ch_bolt (h x (by simp)))).2.2
      intro p q hpq _
      exact hpq
    · intro p hp q hq e
      obtain ⟨r, _, rfl⟩ := List.mem_map.1 hp
      obtain ⟨j, _, e1, _⟩ := cuts_mem l (i + 1) q hq
      simp only at e
      omega
theorem parts_facts (l : List S50) (h : boltsOk l = true) : (∀ q ∈ (cutsFrom 0 l).map mkPart, 0 ≤ q.f0 ∧ q.f0 < (l.length : Int) ∧ 0 ≤ q.f1 ∧ q.f1 ≤ q.f2 ∧ q.f2 ≤ 10000 ∧ ∃ j, ∃ (hj : j < l.length), q.f0 = (j : Int) ∧ ∃ p ∈ partsOf l[j], q.f1 = rd p 0 ∧ q.f2 = rd p 1) ∧ ((cutsFrom 0 l).map mkPart).length ≤ 28 ∧
    (∀ k k' (hk : k < ((cutsFrom 0 l).map mkPart).length) (hk' : k' < ((cutsFrom 0 l).map mkPart).length), k ≠ k' → ((cutsFrom 0 l).map mkPart)[k].f0 = ((cutsFrom 0 l).map mkPart)[k'].f0 → ((cutsFrom 0 l).map mkPart)[k].f2 ≤ ((cutsFrom 0 l).map mkPart)[k'].f1 ∨ ((cutsFrom 0 l).map mkPart)[k'].f2 ≤ ((cutsFrom 0 l).map mkPart)[k].f1) := by
  rw [boltsOk_iff] at h
  refine ⟨?_, ?_, ?_⟩
  · intro q hq
    obtain ⟨c, hc, rfl⟩ := List.mem_map.1 hq
    obtain ⟨j, hj, e1, p, hp, e2, e3⟩ := cuts_mem l 0 c hc
    have hb := h.1 _ (List.getElem_mem hj)
    have hv := boltOk_vals hb
    obtain ⟨_, h2, _⟩ := ch_parts l[j].f0 l[j].f1 0 (ch_bolt hb)
    have := h2 p hp
    refine ⟨by show 0 ≤ c.1; omega, by show c.1 < _; omega, by show 0 ≤ c.2.1; omega, by show c.2.1 ≤ c.2.2; omega, by show c.2.2 ≤ 10000; omega, j, hj, by show c.1 = _; omega, p, hp, e2, e3⟩
  · rw [List.length_map]
    have := cutsFrom_len l (fun b hb => (boltOk_vals (h.1 b hb)).2.2.1) 0
    omega
  · intro k k' hk hk' hne e
    have hp := List.pairwise_iff_getElem.1 (cuts_apart l 0 h.1)
    simp only [List.getElem_map] at e ⊢
    rw [List.length_map] at hk hk'
    rcases Nat.lt_or_gt_of_ne hne with c | c
    · exact Or.inl (hp k k' hk hk' c e)
    · exact Or.inr (hp k' k hk' hk c e.symm)
theorem sumI_le : ∀ (l : List Int), (∀ p ∈ l, 1 ≤ p ∧ p ≤ 10000) → 0 ≤ sumI l ∧ sumI l ≤ 10000 * l.length
  | [], _ => by simp [sumI]
  | p :: l, h => by
    have := sumI_le l (fun q hq => h q (by simp [hq]))
    have := h p (by simp)
    simp only [sumI, List.length_cons]
    omega
theorem cntL_U : ∀ (a b c : List Int), a.length = b.length → a.length = c.length → (∀ i (h : i < a.length) (h' : i < b.length) (h'' : i < c.length), (b[i] < a[i] ↔ 0 < c[i])) → cntL a b = cntU c
  | [], [], [], _, _, _ => rfl
  | [], _ :: _, _, h, _, _ => by simp at h
  | [], _, _ :: _, _, h, _ => by simp at h
  | _ :: _, [], _, h, _, _ => by simp at h
  | _ :: _, _, [], _, h, _ => by simp at h
  | x :: a, y :: b, u :: c, h, h', hz => by
    have h0 := hz 0 (by simp) (by simp) (by simp)
    have ih := cntL_U a b c (by simpa using h) (by simpa using h') (fun i h1 h2 h3 => by have := hz (i + 1) (by simpa using h1) (by simpa using h2) (by simpa using h3); simpa using this)
    simp only [List.getElem_cons_zero] at h0
    simp only [cntL, cntU, ih]
    by_cases hx : y < x
    · rw [if_pos hx, if_pos (h0.1 hx)]
    · rw [if_neg hx, if_neg (fun h => hx (h0.2 h))]
def partsL (l : List S50) : List S57 := (cutsFrom 0 l).map mkPart
theorem rd_rep (n : Nat) (b : Int) : rd (List.replicate n 0) b = 0 := by
  simp only [rd, rdOf, List.getD_eq_getElem?_getD, List.getElem?_replicate]
  split <;> rfl
theorem RB0 (l : List S50) (P : List Int) (hl : boltsOk l = true) (hP : panels16 P = true) : RB P (partsL l) (l.map (·.f0)).length P (partsL l, List.replicate l.length 0) := by
  obtain ⟨f1, f2, _⟩ := parts_facts l hl
  rw [panels16_iff] at hP
  rw [boltsOk_iff] at hl
  refine ⟨⟨0, rfl, by simp⟩, ⟨?_, ?_, f2, by simpa using hl.2⟩, by simp, rfl, ?_, ?_⟩
  · intro q hq
    have := f1 q hq
    simp only [List.length_replicate]
    exact ⟨this.1, this.2.1, this.2.2.1, this.2.2.2.1, this.2.2.2.2.1⟩
  · intro u hu
    have := List.eq_of_mem_replicate hu
    subst this
    have := hP.2
    omega
  · intro k h _
    exact ⟨rfl, rfl, Int.le_refl _⟩
  · intro b _ _
    simp only [rd_rep]
    constructor
    · intro h; omega
    · rintro ⟨k, hk, hk', _, h⟩; omega
theorem PI0 (l : List S50) (P : List Int) : PI (l.map (·.f0)) (partsL l) P 0 (partsL l, List.replicate l.length 0) [] := by
  refine ⟨rfl, ?_, ?_, ?_, ?_, ?_⟩
  · intro b h0 h1
    have := sumC_cuts b l 0 (by omega)
    rw [if_pos (by simpa using h1)] at this
    show rd (l.map (·.f0)) b = sumG (remB b) (partsL l)
    unfold partsL
    rw [sumC_map, this]
    congr 1
    omega
  · intro b h0 h1
    exact Or.inl ⟨rd_rep _ _, rfl⟩
  · show sumI (l.map (·.f0)) + sumI [] = _
    simp [sumI]
  · intro j h; simp at h
  · intro j h; simp at h
/-- What the law says of a way to place all panels. -/
theorem on_val (l : List S50) (P : List Int) (hl : boltsOk l = true) (hP : panels16 P = true) (z : List S60 × St) (hz : z ∈ BoltCore.all (partsL l).length okB stB pcB P (partsL l, List.replicate l.length 0)) : laws_a2OnBolts.F l P z.1 = some (cntU z.2.2) := by
  obtain ⟨f1, f2, f3⟩ := parts_facts l hl
  have hP2 := (panels16_iff P).1 hP
  have hl2 := (boltsOk_iff l).1 hl
  have R0 := RB0 l P hl hP
  have pi := all_PI hP2.1 f3 P 0 (partsL l, List.replicate l.length 0) [] rfl (by simp) R0 (PI0 l P) z hz
  have rz := all_R hP2.1 P _ R0 z hz
  rw [List.nil_append] at pi
  have hlen : z.1.length = P.length := pi.al
  have hD := pi.D
  have hU := pi.U
  have hS := pi.S
  rw [List.take_length] at hD hU hS
  have hll : (l.map (·.f0)).length = l.length := List.length_map ..
  rw [hll] at hD hU
  have hw : ∀ j (h : j < z.1.length) (h' : j < P.length), ∃ i, ∃ (hi : i < l.length), z.1[j].f0 = (i : Int) ∧ ∃ p ∈ partsOf l[i], rd p 0 ≤ z.1[j].f1 ∧ z.1[j].f1 + P[j] ≤ rd p 1 := by
    intro j h h'
    obtain ⟨k, hk, hk', e1, e2, e3⟩ := pi.W j h h'
    have q := f1 _ (List.getElem_mem hk)
    obtain ⟨_, _, _, _, _, i, hi, e4, p, hp, e5, e6⟩ := q
    have a := rz.p k hk' hk
    have b := rz.v.a _ (List.getElem_mem hk')
    refine ⟨i, hi, e1.symm.trans e4, p, hp, by rw [← e5]; exact e2, ?_⟩
    have e7 : (partsL l)[k].f2 = rd p 1 := e6
    omega
  have hpc : placeCode l P z.1 = 0 := by
    unfold placeCode
    rw [if_pos hl, hP, Bool.true_and, decide_eq_true hlen, Bool.true_and, if_pos]
    rw [List.all_eq_true]
    intro q hq
    obtain ⟨j, hj, rfl⟩ := List.getElem_of_mem hq
    obtain ⟨i, hi, e, _⟩ := hw j hj (by omega)
    rw [inB_iff, e]
    omega
  have hpf : impl_pieceFault.F l P z.1 = some (-1) := by
    refine pf_val l P z.1 hpc ?_ ?_ pi.N
    · intro j h h' h''
      obtain ⟨i, hi, e, p, hp, e1, e2⟩ := hw j h h'
      have ei : z.1[j].f0.toNat = i := by omega
      have : soundB l[i] z.1[j].f1 P[j] = true := by
        unfold soundB
        rw [List.any_eq_true]
        exact ⟨p, hp, by rw [inB_iff]; omega⟩
      simpa only [ei] using this
    · intro q hq
      obtain ⟨j, hj, rfl⟩ := List.getElem_of_mem hq
      obtain ⟨i, hi, e, p, hp, e1, e2⟩ := hw j hj (by omega)
      have hb := parts_bounds (hl2.1 _ (List.getElem_mem hi)) p hp
      have := hP2.1 _ (List.getElem_mem (show j < P.length by omega))
      omega
  have hy : ∀ y ∈ l, y.f1.length ≤ 1048576 := fun y hy => by have := (boltOk_vals (hl2.1 y hy)).2.2.1; omega
  have hlv := left_val l P z.1 (by omega) (by omega) hy hpc hpf
  have ho := leftOf_len z.1 P (l.map (·.f0))
  rw [hll] at ho
  rw [laws_a2OnBolts.F_eq, impl_PieceFault.F_eq, impl_placesCode_val l P z.1 (by omega) hy (by omega) (by omega), hpc]
  simp only [Option.bind_some]
  rw [if_pos trivial, hpf, hlv]
  simp only [Option.bind_some]
  rw [if_pos trivial, if_pos trivial, if_pos trivial, if_pos (by rw [ho]), hlen]
  rw [laws_a2OnBolts.J0_eq, if_neg (by simp), a2Sum_val P hP2.2 hP2.1]
  simp only [Option.bind_some]
  have hsl := sumI_le P hP2.1
  have hv : ∀ i (h : i < l.length) (h' : i < (leftOf (l.map (·.f0)) z.1 P).length), 0 ≤ (leftOf (l.map (·.f0)) z.1 P)[i] ∧ (leftOf (l.map (·.f0)) z.1 P)[i] ≤ l[i].f0 ∧ l[i].f0 ≤ 10000 := by
    intro i h h'
    have d := hD (i : Int) (by omega) (by omega)
    have u := hU (i : Int) (by omega) (by omega)
    rw [rd_at _ i h'] at d u
    rw [rd_at (l.map (·.f0)) i (by omega), List.getElem_map] at u
    have g := sumG_nonneg (remB (i : Int)) z.2.1 (fun q hq => by
      have := rz.v.a q hq
      unfold remB
      split <;> omega)
    have hb := boltOk_vals (hl2.1 _ (List.getElem_mem h))
    refine ⟨by omega, ?_, by omega⟩
    rcases u with u | u
    · omega
    · omega
  have hon := on_loop l (leftOf (l.map (·.f0)) z.1 P) hl2.2 ho hv l.length 0 0 (sumI P) (by omega) (by omega) (by omega) (by omega) (by have := hP2.2; omega)
  rw [List.drop_zero, List.drop_zero, if_pos (by omega)] at hon
  have hcnt : cntL (l.map (·.f0)) (leftOf (l.map (·.f0)) z.1 P) = cntU z.2.2 := by
    have hn := rz.nn
    refine cntL_U _ _ _ (by rw [hll, ho]) (by rw [hn]) (fun i h h' h'' => ?_)
    have u := hU (i : Int) (by omega) (by omega)
    rw [rd_at _ i h', rd_at _ i h, rd_at _ i h''] at u
    rcases u with u | u
    · omega
    · omega
  rw [hcnt] at hon
  simpa using hon
theorem idxF_cases {α : Type} (p : α → Bool) (l : List α) : (∃ k, ∃ hk : k < l.length, p l[k] = true ∧ (∀ j (hj : j < k), p (l[j]'(by omega)) = false) ∧ idxF p l = (k : Int)) ∨ ((∀ j (hj : j < l.length), p l[j] = false) ∧ idxF p l = -1) := by
  cases h : l.findIdx? p with
  | some k =>
    left
    obtain ⟨hk, h1, h2⟩ := List.findIdx?_eq_some_iff_getElem.1 h
    exact ⟨k, hk, h1, fun j hj => by simpa using h2 j hj, by unfold idxF; rw [h]⟩
  | none =>
    right
    rw [List.findIdx?_eq_none_iff] at h
    exact ⟨fun j hj => h _ (List.getElem_mem hj), by unfold idxF; rw [List.findIdx?_eq_none_iff.2 h]⟩
theorem idxF_first {α : Type} (p : α → Bool) (l : List α) (i : Nat) (hi : i < l.length) (hp : p l[i] = true) (ha : ∀ j (hj : j < i), p (l[j]'(by omega)) = false) : idxF p l = (i : Int) := by
  rcases idxF_cases p l with ⟨k, hk, h1, h2, e⟩ | ⟨h1, e⟩
  · by_cases h3 : k < i
    · have := ha k h3
      rw [h1] at this; cases this
    · by_cases h4 : i < k
      · have := h2 i h4
        rw [hp] at this; cases this
      · rw [e]; omega
  · have := h1 i hi
    rw [hp] at this; cases this
theorem idxF_take {α : Type} (p : α → Bool) (l : List α) (i : Nat) (hi : i < l.length) (hp : p l[i] = true) : (idxF p l = (i : Int)) ↔ ¬ (idxF p (l.take i) ≥ 0) := by
  have hlen : (l.take i).length = i := by rw [List.length_take]; omega
  rcases idxF_cases p (l.take i) with ⟨k, hk, h1, h2, e⟩ | ⟨h1, e⟩
  · have hk2 : k < i := by omega
    rw [List.getElem_take] at h1
    constructor
    · intro h
      rcases idxF_cases p l with ⟨k', hk', h3, h4, e'⟩ | ⟨h3, e'⟩
      · have : k' = i := by omega
        subst this
        have := h4 k hk2
        rw [h1] at this
        cases this
      · omega
    · intro h; omega
  · constructor
    · intro _; omega
    · intro _
      exact idxF_first p l i hi hp (fun j hj => by have := h1 j (by omega); rwa [List.getElem_take] at this)
/-- A loop that finds the first. -/
theorem findLoop {α : Type} (l : List α) (p : α → Bool) (g : Int → Option Int) (h : ∀ i (hi : i < l.length), g (i : Int) = if p l[i] = true then some (i : Int) else g ((i + 1 : Nat) : Int)) (he : g (l.length : Int) = some (-1)) : g 0 = some (idxF p l) := by
  have key : ∀ (d i : Nat), l.length - i = d → i ≤ l.length → (∀ j (hj : j < i) (hl : j < l.length), p l[j] = false) → g (i : Int) = some (idxF p l) := by
    intro d
    induction d with
    | zero =>
      intro i hd hi ha
      obtain rfl : i = l.length := by omega
      rcases idxF_cases p l with ⟨k, hk, h1, h2, e⟩ | ⟨h1, e⟩
      · have := ha k hk hk
        rw [h1] at this; cases this
      · rw [he, e]
    | succ d ih =>
      intro i hd hi ha
      have hlt : i < l.length := by omega
      rw [h i hlt]
      by_cases hp : p l[i] = true
      · rw [if_pos hp, idxF_first p l i hlt hp (fun j hj => ha j hj (by omega))]
      · rw [if_neg hp]
        refine ih (i + 1) (by omega) (by omega) (fun j hj hl => ?_)
        by_cases e : j = i
        · subst e; simpa using hp
        · exact ha j (by omega) hl
  exact key l.length 0 (by omega) (by omega) (fun j hj => absurd hj (Nat.not_lt_zero _))
theorem first_loop (P : List Int) (hP : ∀ p ∈ P, 1 ≤ p ∧ p ≤ 10000) (hP6 : P.length ≤ 6) (parts0 : List S57) (n : Nat) : ∀ (ps : List Int) (i : Nat) (s : St) (out : List S60), P.drop i = ps → i + ps.length = P.length → RB P parts0 n ps s → out.length ≤ i →
    ∃ y c, impl_FirstPlaces.L0 s.1 out P (P.length : Int) (i : Int) = some (y, c) ∧ (c = 5 ∨ c = 0 ∧ ∃ z ∈ BoltCore.all parts0.length okB stB pcB ps s, y = out ++ z.1)
  | [], i, s, out, hi, hl, r, ho => by
    simp only [List.length_nil] at hl
    rw [impl_FirstPlaces.L0_eq, if_neg (by omega)]
    exact ⟨_, _, rfl, Or.inr ⟨rfl, ([], s), by simp [BoltCore.all], by simp⟩⟩
  | p :: ps, i, s, out, hi, hl, r, ho => by
    simp only [List.length_cons] at hl
    have hil : i < P.length := by omega
    have hpi : P[i] = p := by
      have h3 := List.getElem_cons_drop (h := hil)
      rw [hi] at h3
      injection h3
    have hp := hP p (by rw [← hpi]; exact List.getElem_mem _)
    have hsl := r.v.c
    have hcp : impl_clothPart.f s.1 p = some (idxF (fun x : S57 => decide (wrap64 (x.f2 - x.f1) ≥ p)) s.1) := by
      unfold impl_clothPart.f
      rw [if_pos (by omega)]
    rw [impl_FirstPlaces.L0_eq, if_pos (by omega), if_pos (by omega), if_pos (by omega), rd_at P i hil, hpi, hcp]
    simp only [Option.bind_some]
    rcases idxF_cases (fun x : S57 => decide (wrap64 (x.f2 - x.f1) ≥ p)) s.1 with ⟨k, hk, h1, _, e⟩ | ⟨_, e⟩
    · have hq := r.v.a _ (List.getElem_mem hk)
      have e0 := rdP_at s.1 k hk
      simp only [decide_eq_true_eq] at h1
      rw [w64 (n := s.1[k].f2 - s.1[k].f1) (by omega) (by omega)] at h1
      have hok : okB p s k = true := by unfold okB; rw [e0]; exact decide_eq_true h1
      have hst : (s.1.set k ⟨s.1[k].f0, wrap64 (s.1[k].f1 + p), s.1[k].f2⟩ : List S57) = (stB p s k).1 := by
        unfold stB
        simp only [e0]
        rw [w64 (n := s.1[k].f1 + p) (by omega) (by omega)]
      rw [e, if_neg (by omega), if_pos (by omega), if_pos (by omega), if_pos (by omega), e0, Int.toNat_natCast, hst, show wrap64 ((i : Int) + 1) = ((i + 1 : Nat) : Int) from wS (by omega)]
      obtain ⟨y, c, h2, h3⟩ := first_loop P hP hP6 parts0 n ps (i + 1) (stB p s k) (out ++ [⟨s.1[k].f0, s.1[k].f1⟩]) (by rw [← List.drop_drop, hi]; rfl) (by omega) (r.step hP hk hok) (by rw [List.length_append]; simp; omega)
      refine ⟨y, c, h2, ?_⟩
      rcases h3 with h3 | ⟨h3, z, h4, h5⟩
      · exact Or.inl h3
      · refine Or.inr ⟨h3, (pcB s k :: z.1, z.2), ?_, by rw [h5]; simp [pcB, e0]⟩
        simp only [BoltCore.all, List.mem_flatMap, List.mem_range]
        refine ⟨k, by rw [← r.l]; exact hk, ?_⟩
        rw [if_pos hok]
        exact List.mem_map.2 ⟨z, h4, rfl⟩
    · rw [e, if_pos (by omega)]
      exact ⟨_, _, rfl, Or.inl rfl⟩
theorem pure_FnClothCuts : laws_FnClothCuts.Pure := by
  intro code h1
  refine of_lim (g := fun k => laws_FnClothCuts.f k code) ?_
  show laws_FnClothCuts.F code = some true
  rw [laws_FnClothCuts.F_eq]
  unfold laws_a2Long.f
  by_cases hb : (code.length : Int) > 3000
  · rw [if_pos hb]; rfl
  rw [if_neg hb]
  simp only [Option.bind_some]
  rw [decide_eq_false (show ¬ ((([] : List Int).length : Int) > 3000) by simp), if_neg nf]
  have s1 := src_bytes h1 (by omega)
  obtain ⟨m, ps, e1, hl, hm, hp5, hpx⟩ := A2Bolts_val2 s1
  have hbs : boltsOk m = true := (boltsOk_iff m).2 ⟨fun b hb => (hm b hb).1, by omega⟩
  have hps : panels16 ps = true := (panels16_iff ps).2 ⟨hpx, by omega⟩
  have hy : ∀ y ∈ m, y.f1.length ≤ 1048576 := fun y hy => by have := (boltOk_vals (hm y hy).1).2.2.1; omega
  have h6 : ∀ y ∈ m, y.f1.length ≤ 6 := fun y hy => (boltOk_vals (hm y hy).1).2.2.1
  have hc : twoCode m ps = 0 := by unfold twoCode; rw [if_pos hbs, if_pos hps]
  have epc := impl_panelsCode_val m ps (by omega) hy (by omega)
  rw [hc] at epc
  have ept : impl_partsOfBolts.F m = some (partsL m) := impl_partsOfBolts_val m (by omega) h6
  have R0 := RB0 m ps hbs hps
  rw [List.length_map] at R0
  obtain ⟨y, c, ef, hf⟩ := first_loop ps hpx (by omega) (partsL m) m.length ps 0 (partsL m, List.replicate m.length 0) [] rfl (by simp) R0 (by simp)
  have ef2 : impl_FirstPlaces.F m ps = some (y, c) := by
    rw [impl_FirstPlaces.F_eq, epc]
    simp only [Option.bind_some]
    rw [if_pos trivial, ept]
    simp only [Option.bind_some]
    exact ef
  obtain ⟨f1, f2, f3⟩ := parts_facts m hbs
  have hg : goodB m ps (partsL m) = true := by
    simp only [goodB, Bool.and_eq_true, decide_eq_true_eq, List.all_eq_true]
    refine ⟨⟨⟨⟨by omega, by omega⟩, f2⟩, hpx⟩, fun q hq => ?_⟩
    have := f1 q hq
    exact ⟨⟨⟨⟨this.1, this.2.1⟩, this.2.2.1⟩, this.2.2.2.1⟩, this.2.2.2.2.1⟩
  have eF : impl_FewestBolts.F m ps = some (fewR (fewGo ps (partsL m) m.length (m.length + 1) 0)) := by
    rw [impl_FewestBolts.F_eq, epc]
    simp only [Option.bind_some]
    rw [if_pos trivial, ept]
    simp only [Option.bind_some]
    rw [if_pos hg]
  rw [e1]
  simp only [Option.bind_some]
  rw [ef2, eF]
  simp only [Option.bind_some]
  rcases fewGo_loop hpx R0 (m.length + 1) 0 (by omega) (fun z _ => Nat.zero_le _) with ⟨e, ha⟩ | ⟨z, e, hz, hmin⟩
  · rw [e]
    simp only [fewR]
    rw [if_neg (by decide), if_pos trivial]
    rcases hf with hf | ⟨hf, z, hz, _⟩
    · rw [hf]; rfl
    · rw [ha] at hz; cases hz
  · rw [e]
    simp only [fewR]
    rw [if_pos trivial, on_val m ps hbs hps z hz]
    simp only [Option.bind_some]
    rw [if_pos trivial]
    rcases hf with hf | ⟨hf, z', hz', hy'⟩
    · rw [hf, if_neg (by decide), if_pos rfl]
    · rw [hf, if_pos rfl, hy', List.nil_append, on_val m ps hbs hps z' hz']
      simp only [Option.bind_some]
      have h := hmin z' hz'
      have n1 := cntU_le z.2.2
      have n2 := cntU_le z'.2.2
      unfold cntB at h
      exact congrArg some (decide_eq_true (show cntU z'.2.2 ≥ cntU z.2.2 by omega))
end Go.Proofs.YtendpecnfaojkaaDoor.PFnClothCuts
namespace Go.Proofs.YtendpecnfaojkaaDoor.Pure
theorem FnClothCuts : PFnClothCuts.laws_FnClothCuts.Pure := PFnClothCuts.pure_FnClothCuts
end Go.Proofs.YtendpecnfaojkaaDoor.Pure
