/-
  The pure side of FnFlaws: sound parts make up a bolt, another flaw cuts one of them, the longest panel is as long as one of them. No conditions.
-/
import Derived.Test.YtlphfgbeeckjnaaQFnFlaws
set_option linter.unusedVariables false
set_option linter.unusedSimpArgs false
set_option linter.unnecessarySimpa false
namespace Go.Proofs.Ytlphfgbeeckjnaa.PFnFlaws
open Go.RowKit Go.Proofs.Ytlphfgbeeckjnaa.Kit Go.Proofs.YtlphfgbeeckjnaaW.PrintWords Go.Proofs.YtlphfgbeeckjnaaW.PrintLast Go.Proofs.YtlphfgbeeckjnaaW.PrintMore

def inB (n a b : Int) : Bool := decide (a ≤ n) && decide (n ≤ b)
theorem inB_iff (n a b : Int) : inB n a b = true ↔ a ≤ n ∧ n ≤ b := by simp [inB]
theorem inB_no (n a b : Int) : inB n a b = false ↔ ¬ (a ≤ n ∧ n ≤ b) := by rw [← inB_iff]; simp
/-- At a place: within bounds, and more than the number before it. -/
def riseAt (l : List Int) (a b : Int) (i : Nat) : Bool := inB (rd l (i : Int)) a b && (decide (i = 0) || decide (rd l ((i : Int) - 1) < rd l (i : Int)))
theorem riseAt_def (l : List Int) (a b : Int) (i : Nat) : riseAt l a b i = (inB (rd l (i : Int)) a b && (decide (i = 0) || decide (rd l ((i : Int) - 1) < rd l (i : Int)))) := rfl
def rises (l : List Int) (a b : Int) : Bool := (List.range l.length).all (riseAt l a b)
theorem rises_iff (l : List Int) (a b : Int) : rises l a b = true ↔ ∀ i : Nat, i < l.length → (a ≤ rd l i ∧ rd l i ≤ b) ∧ (0 < i → rd l ((i : Int) - 1) < rd l i) := by
  unfold rises
  rw [List.all_eq_true]
  constructor
  · intro h i hi
    have := h i (List.mem_range.2 hi)
    rw [riseAt_def, Bool.and_eq_true, inB_iff, Bool.or_eq_true] at this
    refine ⟨this.1, fun h0 => ?_⟩
    rcases this.2 with h2 | h2
    · exact absurd (of_decide_eq_true h2) (by omega)
    · exact of_decide_eq_true h2
  · intro h i hi
    have := h i (List.mem_range.1 hi)
    rw [riseAt_def, Bool.and_eq_true, inB_iff, Bool.or_eq_true]
    refine ⟨this.1, ?_⟩
    by_cases h0 : i = 0
    · left; simp [h0]
    · right; exact decide_eq_true (this.2 (by omega))
/-- A valid bolt. -/
def boltOk (b : S29) : Bool := inB b.f0 1 10000 && (decide (b.f1.length ≤ 6) && rises b.f1 1 (b.f0 - 1))
theorem boltOk_def (b : S29) : boltOk b = (inB b.f0 1 10000 && (decide (b.f1.length ≤ 6) && rises b.f1 1 (b.f0 - 1))) := rfl
def boltsOk (l : List S29) : Bool := l.all boltOk && decide (l.length ≤ 4)
theorem boltsOk_iff (l : List S29) : boltsOk l = true ↔ (∀ b ∈ l, boltOk b = true) ∧ l.length ≤ 4 := by
  unfold boltsOk
  rw [Bool.and_eq_true, List.all_eq_true, decide_eq_true_iff]
theorem boltOk_vals {b : S29} (h : boltOk b = true) : 1 ≤ b.f0 ∧ b.f0 ≤ 10000 ∧ b.f1.length ≤ 6 ∧ ∀ i : Nat, i < b.f1.length → (1 ≤ rd b.f1 i ∧ rd b.f1 i ≤ b.f0 - 1) ∧ (0 < i → rd b.f1 ((i : Int) - 1) < rd b.f1 i) := by
  rw [boltOk_def, Bool.and_eq_true, Bool.and_eq_true, inB_iff, decide_eq_true_iff, rises_iff] at h
  exact ⟨h.1.1, h.1.2, h.2.1, h.2.2⟩
/-- The bytes that a source reads. -/
def Src (c : List Int) : Prop := c.length ≤ 1048576 ∧ ∀ y ∈ c, 0 ≤ y ∧ y ≤ 255
theorem and255 (x : Int) : 0 ≤ Go.bits .and .u64 x 255 ∧ Go.bits .and .u64 x 255 ≤ 255 := by
  have h : (BitVec.ofInt 64 x &&& BitVec.ofInt 64 255).toNat ≤ 255 := by
    rw [BitVec.toNat_and]
    exact Nat.le_trans Nat.and_le_right (by decide)
  have e : Go.bits .and .u64 x 255 = IntKind.u64.wrap ((BitVec.ofInt 64 x &&& BitVec.ofInt 64 255).toNat : Int) := rfl
  rw [e, IntKind.wrap_u64]
  omega
theorem next_val {c : List Int} (hc : Src c) (at_ seed : Int) (h0 : 0 ≤ at_) (h1 : at_ ≤ 4000000000000000000) : ∃ x sd, spec_l00Src_next.f c at_ seed = some (x, at_ + 1, sd) ∧ 0 ≤ x ∧ x ≤ 255 := by
  unfold spec_l00Src_next.f
  by_cases hb : at_ < (c.length : Int)
  · obtain ⟨j, rfl⟩ : ∃ j : Nat, at_ = j := ⟨at_.toNat, by omega⟩
    have hj : j < c.length := by omega
    have hy := hc.2 c[j] (List.getElem_mem hj)
    have hle : wrap64 ((j : Int) + 1) ≤ (c.length : Int) := by rw [w64 (by omega) (by omega)]; omega
    rw [if_pos hb, if_pos h0, if_pos hle, rd_get c j hj, w64 (n := (j : Int) + 1) (by omega) (by omega), w64 (n := c[j]) (by omega) (by omega)]
    exact ⟨_, _, rfl, hy.1, hy.2⟩
  · have hle : ¬ wrap64 (at_ + 1) ≤ (c.length : Int) := by rw [w64 (by omega) (by omega)]; omega
    rw [if_neg hb, if_neg hle, w64 (n := at_ + 1) (by omega) (by omega)]
    refine ⟨_, _, rfl, ?_⟩
    have h := and255 ((IntKind.u64.wrap ((IntKind.u64.wrap ((IntKind.u64.wrap (seed * 6364136223846793005)) + 0)) + 1442695040888963407)) / 1099511627776)
    rw [w64 (by omega) (by omega)]
    exact h
theorem pick_val {c : List Int} (hc : Src c) (at_ seed n : Int) (h0 : 0 ≤ at_) (h1 : at_ ≤ 1000000000000000000) : ∃ x a sd, spec_l00Src_pick.f c at_ seed n = some (x, a, sd) ∧ at_ ≤ a ∧ a ≤ at_ + 2 ∧ 0 ≤ x ∧ (1 ≤ n → x < n) ∧ (n ≤ 1 → x = 0) := by
  unfold spec_l00Src_pick.f
  by_cases hn : n ≤ 1
  · rw [if_pos hn]
    exact ⟨0, at_, seed, rfl, by omega, by omega, by omega, by omega, by omega⟩
  · obtain ⟨x, sd, e, hx0, hx1⟩ := next_val hc at_ seed h0 (by omega)
    have hn0 : ¬ n = 0 := by omega
    rw [if_neg hn, e]
    simp only [Option.bind_some]
    by_cases hm : n > 200
    · obtain ⟨y, sd2, e2, hy0, hy1⟩ := next_val hc (at_ + 1) sd (by omega) (by omega)
      rw [if_pos hm, e2]
      simp only [Option.bind_some]
      rw [if_neg hn0, w64 (n := x * 256) (by omega) (by omega), w64 (n := x * 256 + y) (by omega) (by omega), Int.tmod_eq_emod_of_nonneg (by omega)]
      exact ⟨_, _, _, rfl, by omega, by omega, Int.emod_nonneg _ hn0, fun _ => Int.emod_lt_of_pos _ (by omega), fun h => absurd h hn⟩
    · rw [if_neg hm, if_neg hn0, Int.tmod_eq_emod_of_nonneg (by omega)]
      exact ⟨_, _, _, rfl, by omega, by omega, Int.emod_nonneg _ hn0, fun _ => Int.emod_lt_of_pos _ (by omega), fun h => absurd h hn⟩
theorem inc_snoc {l : List Int} {y : Int} (h : ∀ i (h : i + 1 < l.length), l[i] < l[i + 1]) (hy : ∀ x ∈ l, x < y) : ∀ i (h : i + 1 < (l ++ [y]).length), (l ++ [y])[i] < (l ++ [y])[i + 1] := by
  intro i hi
  rw [List.length_append] at hi
  simp only [List.length_cons, List.length_nil] at hi
  by_cases h1 : i + 1 < l.length
  · rw [List.getElem_append_left (by omega), List.getElem_append_left h1]
    exact h i h1
  · have h2 : i + 1 = l.length := by omega
    rw [List.getElem_append_left (by omega), List.getElem_append_right (by omega)]
    simp only [h2, Nat.sub_self, List.getElem_cons_zero]
    exact hy _ (List.getElem_mem _)
theorem bolt_of_inc {x : Int} {l : List Int} (h1 : 1 ≤ x) (h2 : x ≤ 10000) (hl : l.length ≤ 6) (hi : ∀ i (h : i + 1 < l.length), l[i] < l[i + 1]) (hy : ∀ y ∈ l, 1 ≤ y ∧ y < x) : boltOk ⟨x, l⟩ = true := by
  rw [boltOk_def, Bool.and_eq_true, Bool.and_eq_true, inB_iff, decide_eq_true_iff, rises_iff]
  refine ⟨⟨h1, h2⟩, hl, fun i hl2 => ?_⟩
  show (1 ≤ rd l (i : Int) ∧ rd l (i : Int) ≤ x - 1) ∧ (0 < i → rd l ((i : Int) - 1) < rd l (i : Int))
  replace hl2 : i < l.length := hl2
  rw [rd_get l i hl2]
  have := hy _ (List.getElem_mem hl2)
  refine ⟨by omega, fun h0 => ?_⟩
  obtain ⟨j, rfl⟩ : ∃ j, i = j + 1 := ⟨i - 1, by omega⟩
  rw [show ((j + 1 : Nat) : Int) - 1 = ((j : Nat) : Int) by omega, rd_get l j (by omega)]
  exact hi j hl2
theorem new_loop {c : List Int} (hc : Src c) (x : Int) (hx0 : 20 ≤ x) (hx1 : x ≤ 210) (d : Nat) : ∀ (k o a s : Int) (l : List Int), k = d → (l.length : Int) + k ≤ 2 → 0 ≤ o → o + 200 * k ≤ 1000 → 0 ≤ a → a + 2 * k ≤ 100000 → (∀ i (h : i + 1 < l.length), l[i] < l[i + 1]) → (∀ y ∈ l, 1 ≤ y ∧ y ≤ o ∧ y < x) → ∃ l' a' s', spec_l16New.L0 o k c a s x l = some (x, l', a', s') ∧ boltOk ⟨x, l'⟩ = true ∧ a ≤ a' ∧ a' ≤ a + 2 * k := by
  induction d with
  | zero =>
    intro k o a s l hk hl ho0 ho1 ha0 ha1 hi hy
    rw [spec_l16New.L0_eq, if_neg (by omega)]
    exact ⟨l, a, s, rfl, bolt_of_inc (by omega) (by omega) (by omega) hi (fun y h => by have := hy y h; omega), by omega, by omega⟩
  | succ d ih =>
    intro k o a s l hk hl ho0 ho1 ha0 ha1 hi hy
    have ht : Int.tdiv x 2 = x / 2 := Int.tdiv_eq_ediv_of_nonneg (by omega)
    obtain ⟨r, a1, s1, e1, b1, b2, b3, b4, _⟩ := pick_val hc a s (x / 2) ha0 (by omega)
    have b5 := b4 (by omega)
    have h2 : l.length < 17592186044416 := by omega
    rw [spec_l16New.L0_eq, if_pos (by omega), ht, w64 (n := x / 2) (by omega) (by omega), e1]
    simp only [Option.bind_some]
    rw [w64 (n := 1 + r) (by omega) (by omega), w64 (n := o + (1 + r)) (by omega) (by omega), w64 (n := k - 1) (by omega) (by omega)]
    by_cases hlt : o + (1 + r) < x
    · rw [if_pos hlt, if_pos h2]
      obtain ⟨l', a', s', e2, h3, h4, h5⟩ := ih (k - 1) (o + (1 + r)) a1 s1 (l ++ [o + (1 + r)]) (by omega) (by rw [List.length_append]; simp; omega) (by omega) (by omega) (by omega) (by omega) (inc_snoc hi (fun y h => by have := hy y h; omega)) (fun y h => by
        rcases List.mem_append.1 h with h | h
        · have := hy y h; omega
        · rw [List.mem_singleton.1 h]; omega)
      exact ⟨l', a', s', e2, h3, by omega, by omega⟩
    · rw [if_neg hlt]
      obtain ⟨l', a', s', e2, h3, h4, h5⟩ := ih (k - 1) (o + (1 + r)) a1 s1 l (by omega) (by omega) (by omega) (by omega) (by omega) (by omega) hi (fun y h => by have := hy y h; omega)
      exact ⟨l', a', s', e2, h3, by omega, by omega⟩
theorem l16New_val {c : List Int} (hc : Src c) (a s : Int) (ha0 : 0 ≤ a) (ha1 : a ≤ 90000) : ∃ x l a' s', spec_l16New.F c a s = some (x, l, a', s') ∧ boltOk ⟨x, l⟩ = true ∧ 20 ≤ x ∧ a ≤ a' ∧ a' ≤ a + 8 := by
  rw [spec_l16New.F_eq]
  obtain ⟨x, a1, s1, e1, b1, b2, b3, b4, _⟩ := pick_val hc a s 20 ha0 (by omega)
  have b5 := b4 (by omega)
  rw [e1]; simp only [Option.bind_some]
  obtain ⟨k, a2, s2, e2, c1, c2, c3, c4, _⟩ := pick_val hc a1 s1 3 (by omega) (by omega)
  have c5 := c4 (by omega)
  rw [e2]; simp only [Option.bind_some]
  rw [w64 (n := 10 * x) (by omega) (by omega), w64 (n := 20 + 10 * x) (by omega) (by omega)]
  obtain ⟨l', a', s', e3, h1, h2, h3⟩ := new_loop hc (20 + 10 * x) (by omega) (by omega) k.toNat k 0 a2 s2 [] (by omega) (by show (0 : Int) + k ≤ 2; omega) (by omega) (by omega) (by omega) (by omega) (fun i h => by simp at h) (by simp)
  exact ⟨_, l', a', s', e3, h1, by omega, by omega, by omega⟩
theorem bolts_tail {c : List Int} (hc : Src c) (m : List S29) (d : Nat) : ∀ (k a s : Int) (out : List Int), k = d → (out.length : Int) + k ≤ 5 → 0 ≤ a → a + 4 * k ≤ 100000 → ∃ ps, spec_A2Bolts.L1 m out k c a s = some (m, ps) := by
  induction d with
  | zero =>
    intro k a s out hk hl ha0 ha1
    rw [spec_A2Bolts.L1_eq, if_neg (by omega)]
    exact ⟨out, rfl⟩
  | succ d ih =>
    intro k a s out hk hl ha0 ha1
    obtain ⟨r, a1, s1, e1, b1, b2, b3, b4, _⟩ := pick_val hc a s 16 ha0 (by omega)
    have h2 : out.length < 17592186044416 := by omega
    rw [spec_A2Bolts.L1_eq, if_pos (by omega), e1]
    simp only [Option.bind_some]
    rw [if_pos h2, w64 (n := k - 1) (by omega) (by omega)]
    exact ih (k - 1) a1 s1 _ (by omega) (by rw [List.length_append]; simp; omega) (by omega) (by omega)
theorem bolts_loop {c : List Int} (hc : Src c) (d : Nat) : ∀ (k a s : Int) (m : List S29), k = d → (m.length : Int) + k ≤ 3 → 0 ≤ a → a + 10 * k ≤ 50000 → (∀ b ∈ m, boltOk b = true ∧ 20 ≤ b.f0) → ∃ m' ps, spec_A2Bolts.L0 m k c a s = some (m', ps) ∧ m'.length ≤ 3 ∧ (∀ b ∈ m', boltOk b = true ∧ 20 ≤ b.f0) := by
  induction d with
  | zero =>
    intro k a s m hk hl ha0 ha1 hm
    rw [spec_A2Bolts.L0_eq, if_neg (by omega)]
    obtain ⟨r, a1, s1, e1, b1, b2, b3, b4, _⟩ := pick_val hc a s 5 ha0 (by omega)
    have b5 := b4 (by omega)
    rw [e1]
    simp only [Option.bind_some]
    obtain ⟨ps, e2⟩ := bolts_tail hc m r.toNat r a1 s1 [] (by omega) (by show (0 : Int) + r ≤ 5; omega) (by omega) (by omega)
    exact ⟨m, ps, e2, by omega, hm⟩
  | succ d ih =>
    intro k a s m hk hl ha0 ha1 hm
    obtain ⟨x, l, a1, s1, e1, b1, b2, b3, b4⟩ := l16New_val hc a s ha0 (by omega)
    have h2 : m.length < 4398046511104 := by omega
    rw [spec_A2Bolts.L0_eq, if_pos (by omega), e1]
    simp only [Option.bind_some]
    rw [if_pos h2, w64 (n := k - 1) (by omega) (by omega)]
    exact ih (k - 1) a1 s1 _ (by omega) (by rw [List.length_append]; simp; omega) (by omega) (by omega) (fun b hb => by
      rcases List.mem_append.1 hb with h | h
      · exact hm b h
      · rw [List.mem_singleton.1 h]; exact ⟨b1, b2⟩)
theorem A2Bolts_val {c : List Int} (hc : Src c) : ∃ m ps, spec_A2Bolts.F c = some (m, ps) ∧ m.length ≤ 3 ∧ (∀ b ∈ m, boltOk b = true ∧ 20 ≤ b.f0) := by
  rw [spec_A2Bolts.F_eq]
  unfold spec_l00From.f
  simp only [Option.bind_some]
  obtain ⟨k, a1, s1, e1, b1, b2, b3, b4, _⟩ := pick_val hc 0 0 4 (by omega) (by omega)
  have b5 := b4 (by omega)
  rw [e1]; simp only [Option.bind_some]
  exact bolts_loop hc k.toNat k a1 s1 [] (by omega) (by show (0 : Int) + k ≤ 3; omega) (by omega) (by omega) (by simp)
/-- A loop that ends with one answer at the first element that is as it should be, with another one behind the last. -/
theorem anyTo {α β : Type} (l : List α) (p : α → Bool) (g : Int → β) (yes r : β) (h : ∀ i (hi : i < l.length), g (i : Int) = if p l[i] = true then yes else g ((i + 1 : Nat) : Int)) (he : g (l.length : Int) = r) : g 0 = if l.any p = true then yes else r := by
  have key : ∀ (d i : Nat), l.length - i = d → i ≤ l.length → g (i : Int) = if (l.drop i).any p = true then yes else r := by
    intro d
    induction d with
    | zero =>
      intro i hd hi
      obtain rfl : i = l.length := by omega
      rw [he]; simp
    | succ d ih =>
      intro i hd hi
      have hlt : i < l.length := by omega
      rw [h i hlt, ih (i + 1) (by omega) (by omega), List.drop_eq_getElem_cons hlt, List.any_cons]
      by_cases hp : p l[i] = true
      · rw [if_pos hp, if_pos (by simp [hp])]
      · rw [if_neg hp]; simp [hp]
  have := key l.length 0 (by omega) (by omega)
  simpa using this
theorem a2Has_val (l : List Int) (a : Int) (hl : l.length ≤ 1048576) : laws_a2Has.F l a = some (decide (a ∈ l)) := by
  rw [laws_a2Has.F_eq]
  have := anyTo l (fun x => decide (x = a)) (fun i => laws_a2Has.L0 l a i) (some true) (some false) (fun i hi => by
    show laws_a2Has.L0 l a _ = if _ then _ else laws_a2Has.L0 l a _
    rw [laws_a2Has.L0_eq, if_pos (by omega), if_pos (by omega), rd_get l i hi, wS (by omega)]
    simp) (by
    show laws_a2Has.L0 l a _ = _
    rw [laws_a2Has.L0_eq, if_neg (by omega)])
  refine Eq.trans this ?_
  by_cases h : a ∈ l
  · rw [if_pos (by simpa using h), decide_eq_true h]
  · rw [if_neg (by simpa using h), decide_eq_false h]
theorem a2At_val {c : List Int} (hc : Src c) (i : Nat) (n : Int) (hn : 1 ≤ n) : ∃ r, laws_a2At.f c (i : Int) n = some r ∧ 0 ≤ r ∧ r < n := by
  unfold laws_a2At.f
  by_cases h : (i : Int) ≥ (c.length : Int)
  · rw [if_pos h]; exact ⟨0, rfl, by omega, by omega⟩
  · have hi : i < c.length := by omega
    have hy := hc.2 c[i] (List.getElem_mem hi)
    have h1 : ¬ n < 1 := by omega
    have h2 : (0 : Int) ≤ (i : Int) := by omega
    have h3 : (i : Int) < (c.length : Int) := by omega
    have h4 : ¬ n = 0 := by omega
    rw [if_neg h, if_neg h1, if_pos h2, if_pos h3, if_neg h4, rd_get c i hi, w64 (by omega) (by omega), Int.tmod_eq_emod_of_nonneg hy.1]
    exact ⟨_, rfl, Int.emod_nonneg _ h4, Int.emod_lt_of_pos _ (by omega)⟩
theorem src_bytes {c : List Int} (h : c.length ≤ 9223372036854775807 ∧ ∀ y0 ∈ c, (Lit.int .u8 y0).wf = true) (hl : c.length ≤ 1048576) : Src c := ⟨hl, fun y hy => by
  have h1 := h.2 y hy
  have h2 : IntKind.u8.min ≤ y ∧ y ≤ IntKind.u8.max := by simpa [Lit.wf] using h1
  exact h2⟩
/-- A number put in at a place. -/
def insAt (l : List Int) (p : Nat) (a : Int) : List Int := l.take p ++ a :: l.drop p
theorem insAt_len (l : List Int) (p : Nat) (a : Int) (hp : p ≤ l.length) : (insAt l p a).length = l.length + 1 := by
  unfold insAt; simp; omega
theorem insAt_get (l : List Int) (p : Nat) (a : Int) (i : Nat) (hp : p ≤ l.length) : (insAt l p a)[i]? = if i < p then l[i]? else if i = p then some a else l[i - 1]? := by
  have hl : (l.take p).length = p := by rw [List.length_take]; omega
  unfold insAt
  rw [List.getElem?_append, hl]
  by_cases h : i < p
  · rw [if_pos h, if_pos h, List.getElem?_take_of_lt h]
  · rw [if_neg h, if_neg h]
    by_cases h2 : i = p
    · subst h2; simp
    · rw [if_neg h2, List.getElem?_cons, if_neg (by omega), List.getElem?_drop]
      congr 1; omega
theorem rd_opt (l : List Int) (i : Nat) : rd l (i : Int) = (l[i]?).getD 0 := by simp [rd, List.getD]
theorem rd_ins (l : List Int) (p : Nat) (a : Int) (i : Nat) (hp : p ≤ l.length) : rd (insAt l p a) (i : Int) = if i < p then rd l (i : Int) else if i = p then a else rd l ((i - 1 : Nat) : Int) := by
  rw [rd_opt, insAt_get l p a i hp]
  by_cases h : i < p
  · rw [if_pos h, if_pos h, rd_opt]
  · rw [if_neg h, if_neg h]
    by_cases h2 : i = p
    · rw [if_pos h2, if_pos h2]; rfl
    · rw [if_neg h2, if_neg h2, rd_opt]
theorem insAt_swap (l : List Int) (p : Nat) (a : Int) (hp : p + 1 ≤ l.length) : ((insAt l (p + 1) a).set (p + 1) (rd l (p : Int))).set p a = insAt l p a := by
  apply List.ext_getElem?
  intro i
  have h1 : (insAt l (p + 1) a).length = l.length + 1 := insAt_len l (p + 1) a hp
  rw [List.getElem?_set, List.getElem?_set, insAt_get l (p + 1) a i hp, insAt_get l p a i (by omega), List.length_set, h1]
  by_cases h2 : p = i
  · subst h2
    rw [if_pos rfl, if_pos (by omega), if_neg (by omega), if_pos rfl]
  · rw [if_neg h2]
    by_cases h3 : p + 1 = i
    · subst h3
      rw [if_pos rfl, if_pos (by omega), if_neg (by omega), if_neg (by omega), rd_opt, Nat.add_sub_cancel, List.getElem?_eq_getElem (by omega)]; rfl
    · rw [if_neg h3]
      by_cases h4 : i < p
      · rw [if_pos (by omega), if_pos h4]
      · rw [if_neg (by omega), if_neg (by omega), if_neg h4, if_neg (by omega)]
/-- Where a number belongs among rising ones. -/
def placeOf (l : List Int) (a : Int) : Nat := l.findIdx (fun x => decide (a ≤ x))
theorem placeOf_le (l : List Int) (a : Int) : placeOf l a ≤ l.length := List.findIdx_le_length
theorem placeOf_lt (l : List Int) (a : Int) (i : Nat) (h : i < placeOf l a) : rd l (i : Int) < a := by
  have hl : i < l.length := Nat.lt_of_lt_of_le h (placeOf_le l a)
  have := List.not_of_lt_findIdx h
  rw [rd_get l i hl]
  simpa using this
theorem placeOf_ge (l : List Int) (a : Int) (h : placeOf l a < l.length) : a ≤ rd l ((placeOf l a : Nat) : Int) := by
  have := List.findIdx_getElem (w := h)
  rw [rd_get l _ h]
  unfold placeOf
  simpa using this
theorem placeOf_gt (l : List Int) (a : Int) (ha : a ∉ l) (hs : ∀ i : Nat, i < l.length → 0 < i → rd l ((i : Int) - 1) < rd l i) (i : Nat) (h1 : placeOf l a ≤ i) (h2 : i < l.length) : a < rd l (i : Int) := by
  obtain ⟨d, rfl⟩ : ∃ d, i = placeOf l a + d := ⟨i - placeOf l a, by omega⟩
  induction d with
  | zero =>
    have h3 := placeOf_ge l a h2
    have h4 : rd l ((placeOf l a + 0 : Nat) : Int) ∈ l := by rw [rd_get l _ h2]; exact List.getElem_mem h2
    by_cases h5 : a = rd l ((placeOf l a + 0 : Nat) : Int)
    · rw [← h5] at h4; exact absurd h4 ha
    · simp only [Nat.add_zero] at h5 ⊢
      omega
  | succ d ih =>
    have h3 := ih (by omega) (by omega)
    have h4 := hs (placeOf l a + (d + 1)) h2 (by omega)
    rw [show ((placeOf l a + (d + 1) : Nat) : Int) - 1 = ((placeOf l a + d : Nat) : Int) by omega] at h4
    omega
theorem ins_bolt {x : Int} {l : List Int} {a : Int} (h : boltOk ⟨x, l⟩ = true) (hl : l.length ≤ 5) (ha0 : 1 ≤ a) (ha1 : a ≤ x - 1) (ha : a ∉ l) : boltOk ⟨x, insAt l (placeOf l a) a⟩ = true := by
  have hp := placeOf_le l a
  obtain ⟨v1, v2, v3, v4⟩ := boltOk_vals h
  replace v1 : 1 ≤ x := v1
  replace v2 : x ≤ 10000 := v2
  replace v4 : ∀ i : Nat, i < l.length → (1 ≤ rd l i ∧ rd l i ≤ x - 1) ∧ (0 < i → rd l ((i : Int) - 1) < rd l i) := v4
  rw [boltOk_def, Bool.and_eq_true, Bool.and_eq_true, inB_iff, decide_eq_true_iff, rises_iff]
  show (1 ≤ x ∧ x ≤ 10000) ∧ (insAt l (placeOf l a) a).length ≤ 6 ∧ ∀ i : Nat, i < (insAt l (placeOf l a) a).length → (1 ≤ rd (insAt l (placeOf l a) a) i ∧ rd (insAt l (placeOf l a) a) i ≤ x - 1) ∧ (0 < i → rd (insAt l (placeOf l a) a) ((i : Int) - 1) < rd (insAt l (placeOf l a) a) i)
  rw [insAt_len l _ a hp]
  refine ⟨⟨v1, v2⟩, by omega, fun i hi => ⟨?_, fun h0 => ?_⟩⟩
  · rw [rd_ins l _ a i hp]
    by_cases h1 : i < placeOf l a
    · rw [if_pos h1]; exact (v4 i (by omega)).1
    · rw [if_neg h1]
      by_cases h2 : i = placeOf l a
      · rw [if_pos h2]; exact ⟨ha0, ha1⟩
      · rw [if_neg h2]; exact (v4 (i - 1) (by omega)).1
  · obtain ⟨j, rfl⟩ : ∃ j, i = j + 1 := ⟨i - 1, by omega⟩
    rw [show ((j + 1 : Nat) : Int) - 1 = ((j : Nat) : Int) by omega, rd_ins l _ a j hp, rd_ins l _ a (j + 1) hp]
    by_cases h1 : j + 1 < placeOf l a
    · rw [if_pos h1, if_pos (by omega)]
      have := (v4 (j + 1) (by omega)).2 (by omega)
      rwa [show ((j + 1 : Nat) : Int) - 1 = ((j : Nat) : Int) by omega] at this
    · rw [if_neg h1]
      by_cases h2 : j + 1 = placeOf l a
      · rw [if_pos h2, if_pos (by omega)]
        exact placeOf_lt l a j (by omega)
      · rw [if_neg h2, if_neg (by omega), Nat.add_sub_cancel]
        by_cases h3 : j = placeOf l a
        · rw [if_pos h3]
          exact placeOf_gt l a ha (fun i hi h0 => (v4 i hi).2 h0) j (by omega) (by omega)
        · rw [if_neg h3]
          have := (v4 j (by omega)).2 (by omega)
          rwa [show ((j : Nat) : Int) - 1 = ((j - 1 : Nat) : Int) by omega] at this
theorem mem_ins (l : List Int) (p : Nat) (a : Int) : a ∈ insAt l p a := by unfold insAt; simp
theorem impl_within_val (n a b : Int) : impl_within.f n a b = some (inB n a b) := by
  unfold impl_within.f inB
  by_cases h : n ≥ a
  · rw [if_pos h]; simp [show a ≤ n from h]
  · rw [if_neg h]; simp; omega
theorem cloth_loop (f w s : Int) (hf : f ≤ 10000) (hw1 : 1 ≤ w) (hw2 : w ≤ 1000) (hs0 : 0 ≤ s) (hs1 : s ≤ w - 1) (d : Nat) : ∀ n : Int, 1 ≤ n → n + d = 10000 → (n = 1 ∨ wrap64 (wrap64 (wrap64 (n - 1) * w) - wrap64 (wrap64 (n - 2) * s)) < f) → ∃ r, impl_ClothWidths.L0 f w s n = some (r, 0) ∧ 1 ≤ r ∧ r ≤ 10000 ∧ wrap64 (wrap64 (r * w) - wrap64 (wrap64 (r - 1) * s)) ≥ f ∧ (r = 1 ∨ wrap64 (wrap64 (wrap64 (r - 1) * w) - wrap64 (wrap64 (r - 2) * s)) < f) := by
  induction d with
  | zero =>
    intro n h1 h2 hb
    have e1 : n * w ≤ 10001 * 1000 := Int.mul_le_mul (by omega) hw2 (by omega) (by omega)
    have e2 : 0 ≤ n * w := Int.mul_nonneg (by omega) (by omega)
    have e3 : (n - 1) * s ≤ 10001 * 1000 := Int.mul_le_mul (by omega) (by omega) (by omega) (by omega)
    have e4 : 0 ≤ (n - 1) * s := Int.mul_nonneg (by omega) (by omega)
    have e5 : n * 1 ≤ n * (w - s) := Int.mul_le_mul_of_nonneg_left (by omega) (by omega)
    rw [Int.mul_sub] at e5
    have e6 : (n - 1) * s = n * s - s := by rw [Int.sub_mul, Int.one_mul]
    have e7 : wrap64 (wrap64 (n * w) - wrap64 (wrap64 (n - 1) * s)) = n * w - (n - 1) * s := by
      rw [w64 (n := n * w) (by omega) (by omega), w64 (n := n - 1) (by omega) (by omega), w64 (n := (n - 1) * s) (by omega) (by omega), w64 (by omega) (by omega)]
    refine ⟨n, ?_, h1, by omega, by rw [e7]; omega, hb⟩
    rw [impl_ClothWidths.L0_eq, e7, if_neg (by omega)]
  | succ d ih =>
    intro n h1 h2 hb
    rw [impl_ClothWidths.L0_eq]
    by_cases h : wrap64 (wrap64 (n * w) - wrap64 (wrap64 (n - 1) * s)) < f
    · rw [if_pos h, w64 (n := n + 1) (by omega) (by omega)]
      refine ih (n + 1) (by omega) (by omega) (Or.inr ?_)
      rw [show n + 1 - 1 = n by omega, show n + 1 - 2 = n - 1 by omega, w64 (n := n) (by omega) (by omega)]
      exact h
    · rw [if_neg h]
      exact ⟨n, rfl, h1, by omega, by omega, hb⟩
theorem widths_val (f w s : Int) (hf0 : 1 ≤ f) (hf : f ≤ 10000) (hw1 : 1 ≤ w) (hw2 : w ≤ 1000) (hs0 : 0 ≤ s) (hs1 : s ≤ w - 1) : ∃ r, impl_ClothWidths.F f w s = some (r, 0) ∧ 1 ≤ r ∧ r ≤ 10000 ∧ wrap64 (wrap64 (r * w) - wrap64 (wrap64 (r - 1) * s)) ≥ f ∧ (r = 1 ∨ wrap64 (wrap64 (wrap64 (r - 1) * w) - wrap64 (wrap64 (r - 2) * s)) < f) := by
  obtain ⟨r, e, h⟩ := cloth_loop f w s hf hw1 hw2 hs0 hs1 9999 1 (by omega) (by omega) (Or.inl rfl)
  refine ⟨r, ?_, h⟩
  rw [impl_ClothWidths.F_eq, w64 (n := w - 1) (by omega) (by omega), impl_within_val, impl_within_val, impl_within_val]
  simp only [Option.bind_some]
  rw [if_pos ((inB_iff f 1 10000).2 ⟨hf0, hf⟩), if_pos ((inB_iff w 1 1000).2 ⟨hw1, hw2⟩), (inB_iff s 0 (w - 1)).2 ⟨hs0, hs1⟩]
  rw [impl_ClothWidths.J0_eq, if_neg (by simp), e]
/-- The sound parts of a bolt: from a place on, up to its end. -/
def partsFrom (e : Int) (a : Int) : List Int → List (List Int)
  | [] => [[a, e]]
  | f :: r => [a, f] :: partsFrom e f r
theorem partsFrom_len (e : Int) (l : List Int) : ∀ a, (partsFrom e a l).length = l.length + 1 := by
  induction l with
  | nil => intro a; rfl
  | cons f r ih => intro a; simp [partsFrom, ih]
theorem partsFrom_two (e : Int) (l : List Int) : ∀ a, ∀ p ∈ partsFrom e a l, p.length = 2 := by
  induction l with
  | nil => intro a p hp; simp [partsFrom] at hp; subst hp; rfl
  | cons f r ih =>
    intro a p hp
    simp only [partsFrom, List.mem_cons] at hp
    rcases hp with rfl | hp
    · rfl
    · exact ih f p hp
def partsOf (b : S29) : List (List Int) := partsFrom b.f0 0 b.f1
/-- All sound parts of all bolts: bolt, begin, end. -/
def cutsFrom (i : Int) : List S29 → List (Int × Int × Int)
  | [] => []
  | b :: r => (partsOf b).map (fun p => (i, rd p 0, rd p 1)) ++ cutsFrom (i + 1) r
theorem cutsFrom_len (l : List S29) (h : ∀ b ∈ l, b.f1.length ≤ 6) : ∀ i, (cutsFrom i l).length ≤ 7 * l.length := by
  induction l with
  | nil => intro i; simp [cutsFrom]
  | cons b r ih =>
    intro i
    have h1 := ih (fun c hc => h c (List.mem_cons_of_mem _ hc)) (i + 1)
    have h2 := h b List.mem_cons_self
    simp only [cutsFrom, List.length_append, List.length_map, List.length_cons]
    unfold partsOf
    rw [partsFrom_len]
    omega
theorem impl_soundParts_val (x : Int) (l : List Int) (hl : l.length ≤ 1048576) : impl_soundParts.F x l = some (partsFrom x 0 l) := by
  have key : ∀ (d i : Nat) (out : List (List Int)) (a : Int), i + d = l.length → out.length ≤ i → impl_soundParts.L0 out a l (l.length : Int) (i : Int) x l = some (out ++ partsFrom x a (l.drop i)) := by
    intro d
    induction d with
    | zero =>
      intro i out a hd ho
      have h1 : out.length < 5864062014805 := by omega
      rw [impl_soundParts.L0_eq, if_neg (by omega), if_pos h1, List.drop_of_length_le (by omega)]
      rfl
    | succ d ih =>
      intro i out a hd ho
      have hi : i < l.length := by omega
      have h1 : out.length < 5864062014805 := by omega
      rw [impl_soundParts.L0_eq, if_pos (by omega), if_pos (by omega), if_pos (by omega), if_pos h1, rd_get _ i hi, wS (by omega), ih (i + 1) _ _ (by omega) (by rw [List.length_append]; simp; omega), List.drop_eq_getElem_cons hi]
      simp [partsFrom]
  rw [impl_soundParts.F_eq]
  have := key l.length 0 [] 0 (by omega) (by simp)
  simpa using this
theorem rdLL (l : List (List Int)) (i : Nat) (h : i < l.length) : rd_L1 l (i : Int) = l[i] := by simp [rd_L1, h]
theorem rdIBolt (l : List S29) (i : Nat) (h : i < l.length) : rd_T29 l (i : Int) = l[i] := by simp [rd_T29, h]
def mkPart (c : Int × Int × Int) : S119 := ⟨c.1, c.2.1, c.2.2⟩
theorem impl_partsOfBolts_val (l : List S29) (hl : l.length ≤ 4) (hy : ∀ b ∈ l, b.f1.length ≤ 6) : impl_partsOfBolts.F l = some ((cutsFrom 0 l).map mkPart) := by
  have inner : ∀ (ps : List (List Int)) (i : Nat), ps.length ≤ 7 → (∀ p ∈ ps, p.length = 2) → ∀ (d j : Nat) (out : List S119), j + d = ps.length → out.length + (ps.length - j) ≤ 1000 → impl_partsOfBolts.L1 out (i : Int) l (l.length : Int) (i : Int) ps (ps.length : Int) (j : Int) = impl_partsOfBolts.L0 (out ++ (ps.drop j).map (fun p => mkPart ((i : Int), rd p 0, rd p 1))) l (l.length : Int) (wrap64 ((i : Int) + 1)) := by
    intro ps i hps h2 d
    induction d with
    | zero =>
      intro j out hd ho
      rw [impl_partsOfBolts.L1_eq, if_neg (by omega), List.drop_of_length_le (by omega)]
      simp
    | succ d ih =>
      intro j out hd ho
      have hj : j < ps.length := by omega
      have hp2 := h2 _ (List.getElem_mem hj)
      have h1 : out.length < 5864062014805 := by omega
      rw [impl_partsOfBolts.L1_eq, if_pos (by omega), if_pos (by omega), if_pos (by omega), rdLL ps j hj, hp2, if_pos (by decide), if_pos (by decide), if_pos h1, wS (by omega), ih (j + 1) _ (by omega) (by rw [List.length_append]; simp; omega), List.drop_eq_getElem_cons hj]
      simp only [List.map_cons, List.append_assoc, List.cons_append, List.nil_append]
      rfl
  have outer : ∀ (d i : Nat) (out : List S119), i + d = l.length → out.length ≤ 7 * i → impl_partsOfBolts.L0 out l (l.length : Int) (i : Int) = some (out ++ (cutsFrom (i : Int) (l.drop i)).map mkPart) := by
    intro d
    induction d with
    | zero =>
      intro i out hd ho
      rw [impl_partsOfBolts.L0_eq, if_neg (by omega), List.drop_of_length_le (by omega)]
      simp [cutsFrom]
    | succ d ih =>
      intro i out hd ho
      have hi : i < l.length := by omega
      have hb := hy _ (List.getElem_mem hi)
      have hpl : (partsOf l[i]).length ≤ 7 := by unfold partsOf; rw [partsFrom_len]; omega
      rw [impl_partsOfBolts.L0_eq, if_pos (by omega), if_pos (by omega), if_pos (by omega), rdIBolt l i hi, impl_soundParts_val _ _ (by omega)]
      simp only [Option.bind_some]
      have e := inner (partsOf l[i]) i hpl (partsFrom_two _ _ _) (partsOf l[i]).length 0 out (by omega) (by omega)
      rw [show ((0 : Nat) : Int) = 0 from rfl] at e
      refine (show impl_partsOfBolts.L1 out (i : Int) l (l.length : Int) (i : Int) (partsOf l[i]) ((partsOf l[i]).length : Int) 0 = _ from e).trans ?_
      rw [wS (by omega), ih (i + 1) _ (by omega) (by rw [List.length_append, List.length_map, List.length_drop]; omega), List.drop_eq_getElem_cons hi]
      simp [cutsFrom, mkPart, Function.comp_def]
  rw [impl_partsOfBolts.F_eq]
  have := outer l.length 0 [] (by omega) (by simp)
  simpa using this
def mostP (s : Int) (ps : List (List Int)) : Int := ps.foldl (fun s p => mx s (wrap64 (rd p 1 - rd p 0))) s
def mostB (s : Int) (m : List S29) : Int := m.foldl (fun s b => mostP s (partsOf b)) s
def mostC (s : Int) (cs : List (Int × Int × Int)) : Int := cs.foldl (fun s c => mx s (wrap64 (c.2.2 - c.2.1))) s
theorem mostC_cuts (m : List S29) : ∀ i s, mostC s (cutsFrom i m) = mostB s m := by
  induction m with
  | nil => intro i s; rfl
  | cons b r ih =>
    intro i s
    have e : mostC s (cutsFrom i (b :: r)) = mostC (mostP s (partsOf b)) (cutsFrom (i + 1) r) := by
      show List.foldl _ _ ((partsOf b).map _ ++ cutsFrom (i + 1) r) = _
      rw [List.foldl_append, List.foldl_map]
      rfl
    rw [e, ih]
    rfl
theorem impl_longest_val (cs : List (Int × Int × Int)) (hl : cs.length ≤ 1048576) (d : Nat) : ∀ (i : Nat) (s : Int), i + d = cs.length → impl_LongestPanel.L0 s (cs.map mkPart) ((cs.map mkPart).length : Int) (i : Int) = some (mostC s (cs.drop i), 0) := by
  induction d with
  | zero =>
    intro i s hd
    have h2 : ¬ (i : Int) < ((cs.map mkPart).length : Int) := by rw [List.length_map]; omega
    rw [impl_LongestPanel.L0_eq, if_neg h2, List.drop_of_length_le (by omega)]
    rfl
  | succ d ih =>
    intro i s hd
    have hi : i < cs.length := by omega
    have h2 : (i : Int) < ((cs.map mkPart).length : Int) := by rw [List.length_map]; omega
    have h0 : (0 : Int) ≤ (i : Int) := by omega
    have e2 : rd_T119 (cs.map mkPart) (i : Int) = mkPart cs[i] := by simp [rd_T119, hi]
    rw [impl_LongestPanel.L0_eq, if_pos h2, if_pos h0, if_pos h2, e2, wS (by omega), ih (i + 1) _ (by omega), List.drop_eq_getElem_cons hi]
    rfl
theorem impl_validBolt_val (x : Int) (l : List Int) (hl : l.length < 4611686018427387904) : impl_validBolt.F x l = some (boltOk ⟨x, l⟩) := by
  rw [impl_validBolt.F_eq, impl_within_val]
  simp only [Option.bind_some]
  rw [boltOk_def]
  show _ = some (inB x 1 10000 && (decide (l.length ≤ 6) && rises l 1 (x - 1)))
  cases h1 : inB x 1 10000 with
  | false => rw [if_neg nf, impl_validBolt.J0_eq, if_pos rfl]; rfl
  | true =>
    rw [if_pos rfl]
    rw [inB_iff] at h1
    by_cases h2 : (l.length : Int) > 6
    · rw [decide_eq_true h2, impl_validBolt.J0_eq, if_pos rfl, decide_eq_false (by omega)]
      rfl
    · rw [decide_eq_false h2, impl_validBolt.J0_eq, if_neg nf, decide_eq_true (by omega)]
      refine (allRange l.length (riseAt l 1 (x - 1)) (fun i => impl_validBolt.L0 l (l.length : Int) i x l) true (fun i hi => ?_) ?_).trans (by simp [rises])
      · show impl_validBolt.L0 _ _ i _ _ = _
        rw [impl_validBolt.L0_eq, if_pos (by omega), if_pos (by omega), if_pos (by omega), w64 (n := x - 1) (by omega) (by omega), impl_within_val, wS (by omega)]
        simp only [Option.bind_some]
        rw [riseAt_def, ite_band]
        by_cases h3 : inB (rd l (i : Int)) 1 (x - 1) = true
        · rw [if_pos h3, if_pos h3]
          by_cases h0 : i = 0
          · rw [if_neg (by omega), if_pos (by simp [h0])]
          · rw [if_pos (by omega), w64 (by omega) (by omega), if_pos (by omega), if_pos (by omega)]
            by_cases h4 : rd l (i : Int) ≤ rd l ((i : Int) - 1)
            · rw [if_pos h4, if_neg (by simp [h0]; omega)]
            · rw [if_neg h4, if_pos (by simp [h0]; omega)]
        · rw [if_neg h3, if_neg h3]
      · show impl_validBolt.L0 _ _ _ _ _ = _
        rw [impl_validBolt.L0_eq, if_neg (by omega)]
/-- Numbers that rise from a to e. -/
def Chain (a e : Int) : List Int → Prop
  | [] => a < e
  | f :: r => a < f ∧ Chain f e r
theorem chain_of (e : Int) (l : List Int) : ∀ a, a < e → (∀ y ∈ l, a < y ∧ y < e) → (∀ i (h : i + 1 < l.length), l[i] < l[i + 1]) → Chain a e l := by
  induction l with
  | nil => intro a h _ _; exact h
  | cons f r ih =>
    intro a h hy hi
    have h1 := hy f List.mem_cons_self
    refine ⟨h1.1, ih f h1.2 ?_ (fun i h => by have := hi (i + 1) (by simpa using h); simpa using this)⟩
    have key : ∀ i (h : i < r.length), f < r[i] := by
      intro i
      induction i with
      | zero => intro h; have := hi 0 (by simpa using h); simpa using this
      | succ i ih2 =>
        intro h
        have h3 := ih2 (by omega)
        have h4 := hi (i + 1) (by simpa using h)
        simp only [List.getElem_cons_succ] at h4
        omega
    intro y hyr
    obtain ⟨i, hi2, rfl⟩ := List.getElem_of_mem hyr
    exact ⟨key i hi2, (hy _ (List.mem_cons_of_mem _ (List.getElem_mem hi2))).2⟩
theorem chain_bolt {b : S29} (h : boltOk b = true) : Chain 0 b.f0 b.f1 := by
  obtain ⟨v1, v2, v3, v4⟩ := boltOk_vals h
  refine chain_of b.f0 b.f1 0 (by omega) (fun y hy => ?_) (fun i hi => ?_)
  · obtain ⟨i, hi, rfl⟩ := List.getElem_of_mem hy
    have := (v4 i hi).1
    rw [rd_get _ i hi] at this
    omega
  · have := (v4 (i + 1) hi).2 (by omega)
    rwa [show ((i + 1 : Nat) : Int) - 1 = ((i : Nat) : Int) by omega, rd_get _ i (by omega), rd_get _ (i + 1) hi] at this
theorem flaws_parts (x1 : List Int) (m : List S29) (x7 x8 e : Int) (i : Nat) (hi : i < m.length) (he : m[i].f0 = e) (l : List Int) : ∀ (P : List (List Int)) (s a : Int), P.length + l.length ≤ 1000 → Chain a e l → laws_FnFlaws.L1 x1 m x7 x8 s (i : Int) (P ++ partsFrom e a l) a (P.length : Int) = laws_FnFlaws.L0 x1 m x7 x8 (mostP s (partsFrom e a l)) (wrap64 ((i : Int) + 1)) := by
  have fin : ∀ (Q : List (List Int)) (s : Int), laws_FnFlaws.L1 x1 m x7 x8 s (i : Int) Q e (Q.length : Int) = laws_FnFlaws.L0 x1 m x7 x8 s (wrap64 ((i : Int) + 1)) := by
    intro Q s
    rw [laws_FnFlaws.L1_eq, if_neg (by omega), if_pos (by omega), if_pos (by omega), rdIBolt m i hi, if_pos he.symm]
  have one : ∀ (P T : List (List Int)) (s a f : Int), P.length ≤ 2000 → a < f → laws_FnFlaws.L1 x1 m x7 x8 s (i : Int) (P ++ [a, f] :: T) a (P.length : Int) = laws_FnFlaws.L1 x1 m x7 x8 (mx s (wrap64 (f - a))) (i : Int) ((P ++ [[a, f]]) ++ T) f ((P ++ [[a, f]]).length : Int) := by
    intro P T s a f hP haf
    have hr : rd_L1 (P ++ [a, f] :: T) (P.length : Int) = [a, f] := by
      rw [rdLL _ _ (by simp)]
      simp
    have hlen : (P.length : Int) < ((P ++ [a, f] :: T).length : Int) := by rw [List.length_append, List.length_cons]; omega
    rw [laws_FnFlaws.L1_eq, if_pos hlen, if_pos (by omega), hr]
    have r0 : rd [a, f] 0 = a := rfl
    have r1 : rd [a, f] 1 = f := rfl
    have l2 : ((([a, f] : List Int)).length : Int) = 2 := rfl
    rw [r0, r1, l2, if_pos rfl, if_pos (by decide), if_pos rfl, if_pos (by decide), if_neg (by omega), wS (by omega)]
    rw [List.append_assoc, List.length_append]
    rfl
  induction l with
  | nil =>
    intro P s a hP hch
    show laws_FnFlaws.L1 x1 m x7 x8 s (i : Int) (P ++ [a, e] :: []) a (P.length : Int) = _
    rw [one P [] s a e (by omega) hch, List.append_nil, fin]
    rfl
  | cons f r ih =>
    intro P s a hP hch
    simp only [List.length_cons] at hP
    show laws_FnFlaws.L1 x1 m x7 x8 s (i : Int) (P ++ [a, f] :: partsFrom e f r) a (P.length : Int) = _
    rw [one P _ s a f (by omega) hch.1, ih (P ++ [[a, f]]) _ f (by rw [List.length_append]; simp; omega) hch.2]
    rfl
theorem flaws_step (x1 : List Int) (m : List S29) (x7 x8 s : Int) (i : Nat) (hi : i < m.length) (b : S29) (hr : rd_T29 m (i : Int) = b) (ps : List (List Int)) (hsp : impl_SoundParts.F b.f0 b.f1 = some (ps, 0)) (hpl : (ps.length : Int) = wrap64 ((b.f1.length : Int) + 1)) : laws_FnFlaws.L0 x1 m x7 x8 s (i : Int) = laws_FnFlaws.L1 x1 m x7 x8 s (i : Int) ps 0 0 := by
  have h1 : (i : Int) < (m.length : Int) := by omega
  have h2 : (0 : Int) ≤ (i : Int) := by omega
  rw [laws_FnFlaws.L0_eq, if_pos h1, if_pos h2, hr, hsp, Option.bind_some, if_pos (show (ps, (0 : Int)).2 = 0 from rfl), if_pos (show (((ps, (0 : Int)).1.length : Nat) : Int) = _ from hpl)]
theorem flaws_sound {b : S29} (hb : boltOk b = true) (h6 : b.f1.length ≤ 6) : impl_SoundParts.F b.f0 b.f1 = some (partsFrom b.f0 0 b.f1, 0) := by
  rw [impl_SoundParts.F_eq, impl_validBolt_val _ _ (by omega), hb]
  simp only [Option.bind_some]
  rw [if_pos trivial, impl_soundParts_val _ _ (by omega)]
  rfl
theorem flaws_one (x1 : List Int) (m : List S29) (x7 x8 s : Int) (i : Nat) (hi : i < m.length) (hl : m.length ≤ 4) (b : S29) (hb : boltOk b = true) (hr : rd_T29 m (i : Int) = b) (he : m[i].f0 = b.f0) : laws_FnFlaws.L0 x1 m x7 x8 s (i : Int) = laws_FnFlaws.L0 x1 m x7 x8 (mostP s (partsOf b)) (((i + 1 : Nat)) : Int) := by
  have h6 : b.f1.length ≤ 6 := (boltOk_vals hb).2.2.1
  have hpl : ((partsFrom b.f0 0 b.f1).length : Int) = wrap64 ((b.f1.length : Int) + 1) := by rw [partsFrom_len, wS (by omega)]
  rw [flaws_step x1 m x7 x8 s i hi b hr _ (flaws_sound hb h6) hpl]
  have e := flaws_parts x1 m x7 x8 b.f0 i hi he b.f1 [] s 0 (by simp; omega) (chain_bolt hb)
  rw [List.nil_append] at e
  refine Eq.trans e ?_
  rw [wS (by omega)]
  rfl
theorem flaws_bolts (x1 : List Int) (m : List S29) (x7 x8 : Int) (hm : ∀ b ∈ m, boltOk b = true) (hl : m.length ≤ 4) (d : Nat) : ∀ (i : Nat) (s : Int), i + d = m.length → laws_FnFlaws.L0 x1 m x7 x8 s (i : Int) = laws_FnFlaws.L0 x1 m x7 x8 (mostB s (m.drop i)) (m.length : Int) := by
  induction d with
  | zero =>
    intro i s hd
    obtain rfl : i = m.length := by omega
    have e : mostB s (m.drop m.length) = s := by rw [List.drop_of_length_le (Nat.le_refl _)]; rfl
    rw [e]
  | succ d ih =>
    intro i s hd
    have hi : i < m.length := by omega
    have hM : mostB s (m.drop i) = mostB (mostP s (partsOf m[i])) (m.drop (i + 1)) := by
      rw [List.drop_eq_getElem_cons hi]
      rfl
    rw [flaws_one x1 m x7 x8 s i hi hl m[i] (hm _ (List.getElem_mem hi)) (rdIBolt m i hi) rfl, ih (i + 1) _ (by omega), hM]
theorem contains_val (l : List Int) (a : Int) (hl : l.length ≤ 1048576) : slices_Contains_int64_int64.F l a = some (decide (a ∈ l)) := by
  rw [slices_Contains_int64_int64.F_eq, slices_Index_int64_int64.F_eq]
  have := anyTo l (fun x => decide (x = a)) (fun i => (slices_Index_int64_int64.L0 l a (l.length : Int) i).bind fun t => some (decide (t ≥ 0))) (some true) (some false) (fun i hi => by
    show Option.bind (slices_Index_int64_int64.L0 l a _ _) _ = if _ then _ else Option.bind (slices_Index_int64_int64.L0 l a _ _) _
    rw [slices_Index_int64_int64.L0_eq, if_pos (by omega), if_pos (by omega), if_pos (by omega), rd_get l i hi, wS (by omega)]
    by_cases h : l[i] = a
    · rw [if_pos h.symm, if_pos (by simpa using h)]
      simp
    · rw [if_neg (fun z => h z.symm), if_neg (by simpa using h)]) (by
    show Option.bind (slices_Index_int64_int64.L0 l a _ _) _ = _
    rw [slices_Index_int64_int64.L0_eq, if_neg (by omega)]
    rfl)
  refine Eq.trans this ?_
  by_cases h : a ∈ l
  · rw [if_pos (by simpa using h), decide_eq_true h]
  · rw [if_neg (by simpa using h), decide_eq_false h]
theorem cmp_Less_val (x y : Int) : cmp_Less_int64.f x y = some (decide (x < y)) := by
  simp [cmp_Less_int64.f, cmp_isNaN_int64.f]
theorem insertion_val (l : List Int) (a : Int) (ha : a ∉ l) (hl : l.length ≤ 6) (hs : ∀ i : Nat, i < l.length → 0 < i → rd l ((i : Int) - 1) < rd l i) : slices_insertionSortOrdered_int64.F (l ++ [a]) 0 ((l.length + 1 : Nat) : Int) = some (insAt l (placeOf l a) a) := by
  rw [slices_insertionSortOrdered_int64.F_eq, w64 (by omega) (by omega)]
  have hj := placeOf_le l a
  have hlt := placeOf_lt l a
  have hgt := placeOf_gt l a ha hs
  generalize placeOf l a = j at *
  have e0 : l ++ [a] = insAt l l.length a := by unfold insAt; simp
  rw [e0]
  -- the last number goes down to its place
  have down : ∀ d p, p = j + d → p ≤ l.length → slices_insertionSortOrdered_int64.L1 (insAt l p a) 0 ((l.length + 1 : Nat) : Int) (l.length : Int) (p : Int) = some (insAt l j a) := by
    intro d
    induction d with
    | zero =>
      intro p hp hpl
      obtain rfl : p = j := by omega
      have hL0 : slices_insertionSortOrdered_int64.L0 (insAt l p a) 0 ((l.length + 1 : Nat) : Int) (wrap64 ((l.length : Int) + 1)) = some (insAt l p a) := by
        rw [wS (by omega), slices_insertionSortOrdered_int64.L0_eq, if_neg (by omega)]
      rw [slices_insertionSortOrdered_int64.L1_eq]
      by_cases h0 : p = 0
      · subst h0; rw [if_neg (by omega), hL0]
      · have := hlt (p - 1) (by omega)
        rw [if_pos (by omega), if_pos (by omega), if_pos (by rw [insAt_len l p a hpl]; omega), w64 (by omega) (by omega), if_pos (by omega), if_pos (by rw [insAt_len l p a hpl]; omega), show (p : Int) - 1 = ((p - 1 : Nat) : Int) by omega, rd_ins l p a p hpl, rd_ins l p a (p - 1) hpl, if_neg (by omega), if_pos rfl, if_pos (by omega), cmp_Less_val]
        simp only [Option.bind_some]
        rw [if_neg (by rw [decide_eq_true_eq]; omega), hL0]
    | succ d ih =>
      intro p hp hpl
      obtain ⟨q, rfl⟩ : ∃ q, p = q + 1 := ⟨p - 1, by omega⟩
      have := hgt q (by omega) (by omega)
      rw [slices_insertionSortOrdered_int64.L1_eq, if_pos (by omega), if_pos (by omega), if_pos (by rw [insAt_len l _ a hpl]; omega), w64 (by omega) (by omega), if_pos (by omega), if_pos (by rw [insAt_len l _ a hpl]; omega), show ((q + 1 : Nat) : Int) - 1 = (q : Int) by omega, rd_ins l (q + 1) a (q + 1) hpl, rd_ins l (q + 1) a q hpl, if_neg (by omega), if_pos rfl, if_pos (by omega), cmp_Less_val]
      simp only [Option.bind_some]
      rw [if_pos (by rw [decide_eq_true_eq]; omega), Int.toNat_natCast, Int.toNat_natCast, insAt_swap l q a hpl]
      exact ih q (by omega) (by omega)
  have up : ∀ d i, i + d = l.length → 1 ≤ i → slices_insertionSortOrdered_int64.L0 (insAt l l.length a) 0 ((l.length + 1 : Nat) : Int) (i : Int) = some (insAt l j a) := by
    intro d
    induction d with
    | zero =>
      intro i hi h1
      obtain rfl : i = l.length := by omega
      rw [slices_insertionSortOrdered_int64.L0_eq, if_pos (by omega)]
      exact down (l.length - j) l.length (by omega) (Nat.le_refl _)
    | succ d ih =>
      intro i hi h1
      have := hs i (by omega) (by omega)
      have hn := insAt_len l l.length a (Nat.le_refl _)
      rw [slices_insertionSortOrdered_int64.L0_eq, if_pos (by omega), slices_insertionSortOrdered_int64.L1_eq, if_pos (by omega), if_pos (by omega), if_pos (by omega), w64 (n := (i : Int) - 1) (by omega) (by omega), if_pos (by omega), if_pos (by omega), rd_ins l _ a i (Nat.le_refl _), if_pos (by omega), show (i : Int) - 1 = ((i - 1 : Nat) : Int) by omega, rd_ins l _ a (i - 1) (Nat.le_refl _), if_pos (by omega), cmp_Less_val]
      simp only [Option.bind_some]
      rw [if_neg (by rw [decide_eq_true_eq, show ((i - 1 : Nat) : Int) = (i : Int) - 1 by omega]; omega), wS (by omega)]
      exact ih (i + 1) (by omega) (by omega)
  by_cases h0 : l.length = 0
  · have hj0 : j = 0 := by omega
    rw [slices_insertionSortOrdered_int64.L0_eq, if_neg (by omega), h0, hj0]
  · exact up (l.length - 1) 1 (by omega) (Nat.le_refl _)
theorem sort_val (l : List Int) (a : Int) (ha : a ∉ l) (hl : l.length ≤ 5) (hs : ∀ i : Nat, i < l.length → 0 < i → rd l ((i : Int) - 1) < rd l i) : slices_Sort_int64_int64.F (l ++ [a]) = some (insAt l (placeOf l a) a) := by
  have hn : (l ++ [a]).length = l.length + 1 := by simp
  obtain ⟨t, ht⟩ : ∃ t, bits_Len.f (IntKind.u64.wrap (((l ++ [a]).length : Nat) : Int)) = some t := by
    rw [hn]
    generalize l.length = n at hl
    have : n = 0 ∨ n = 1 ∨ n = 2 ∨ n = 3 ∨ n = 4 ∨ n = 5 := by omega
    rcases this with rfl | rfl | rfl | rfl | rfl | rfl <;> exact ⟨_, rfl⟩
  rw [slices_Sort_int64_int64.F_eq, ht]
  simp only [Option.bind_some]
  rw [hn, slices_pdqsortOrdered_int64.F_eq, slices_pdqsortOrdered_int64.L0_eq, w64 (by omega) (by omega), if_pos (by omega), insertion_val l a ha (by omega) hs]
  rfl
theorem spec_l00In_val (n a b : Int) : spec_l00In.f n a b = some (inB n a b) := by
  unfold spec_l00In.f inB
  by_cases h : n ≥ a
  · rw [if_pos h]; simp [show a ≤ n from h]
  · rw [if_neg h]; simp; omega
theorem spec_l00Rises_val (l : List Int) (a b : Int) (hl : l.length < 4611686018427387904) : spec_l00Rises.F l a b = some (rises l a b) := by
  rw [spec_l00Rises.F_eq]
  refine (allRange l.length (riseAt l a b) (fun i => spec_l00Rises.L0 l a b i) true (fun i hi => ?_) ?_).trans (by rw [Bool.and_true]; rfl)
  · show spec_l00Rises.L0 l a b i = _
    rw [spec_l00Rises.L0_eq, if_pos (by omega), if_pos (by omega), spec_l00In_val, wS (by omega)]
    simp only [Option.bind_some]
    rw [riseAt_def, ite_band]
    by_cases h1 : inB (rd l (i : Int)) a b = true
    · rw [if_pos h1, if_pos h1]
      by_cases h0 : i = 0
      · rw [if_neg (by omega), if_pos (by simp [h0])]
      · rw [if_pos (by omega), w64 (by omega) (by omega), if_pos (by omega), if_pos (by omega)]
        by_cases h2 : rd l ((i : Int) - 1) ≥ rd l (i : Int)
        · rw [if_pos h2, if_neg (by simp [h0]; omega)]
        · rw [if_neg h2, if_pos (by simp [h0]; omega)]
    · rw [if_neg h1, if_neg h1]
  · show spec_l00Rises.L0 l a b _ = _
    rw [spec_l00Rises.L0_eq, if_neg (by omega)]
theorem spec_l16One_val (b : S29) (hb : b.f1.length < 4611686018427387904) : spec_l16One.F [b] = some (boltOk b) := by
  have e : rd_T29 [b] 0 = b := rfl
  rw [spec_l16One.F_eq, e, if_pos (by simp), spec_l00In_val]
  simp only [Option.bind_some]
  rw [boltOk_def]
  cases h1 : inB b.f0 1 10000 with
  | false => rw [if_neg nf]; rfl
  | true =>
    rw [if_pos rfl]
    rw [inB_iff] at h1
    by_cases h2 : (b.f1.length : Int) ≤ 6
    · rw [if_pos h2, decide_eq_true (by omega), w64 (by omega) (by omega), spec_l00Rises_val _ _ _ hb]
      simp
    · rw [if_neg h2, decide_eq_false (by omega)]
      rfl
theorem spec_l16Ok_val (l : List S29) (hl : l.length < 4611686018427387904) (hy : ∀ y ∈ l, y.f1.length ≤ 1048576) : spec_l16Ok.F l = some (boltsOk l) := by
  rw [spec_l16Ok.F_eq]
  refine allLoop l boltOk (fun i => spec_l16Ok.L0 l i) _ (fun i hi => ?_) ?_
  · show spec_l16Ok.L0 l i = _
    rw [spec_l16Ok.L0_eq, if_pos (by omega), if_pos (by omega), rdIBolt l i hi, wS (by omega), spec_l16One_val _ (by have := hy _ (List.getElem_mem hi); omega)]
    rfl
  · show spec_l16Ok.L0 l _ = _
    rw [spec_l16Ok.L0_eq, if_neg (by omega)]
    simp; omega
theorem bnd {α β : Type} {o : Option α} {a : α} {f : α → Option β} {r : Option β} (h : o = some a) (h2 : f a = r) : o.bind f = r := by rw [h, Option.bind_some, h2]
theorem itT {α : Type} {c : Prop} [Decidable c] {a b r : α} (h : c) (h2 : a = r) : (if c then a else b) = r := by rw [if_pos h, h2]
theorem itF {α : Type} {c : Prop} [Decidable c] {a b r : α} (h : ¬ c) (h2 : b = r) : (if c then a else b) = r := by rw [if_neg h, h2]
theorem flaws_tail {x1 : List Int} (s2 : Src x1) (x7 x8 x9 : Int) (h8 : x8 = 0) (h7 : x7 = x9) : ((laws_a2At.f x1 1 250).bind fun t308 => ((laws_a2At.f x1 2 20).bind fun t309 => ((laws_a2At.f x1 3 90).bind fun t310 => ((impl_ClothWidths.F (wrap64 (1 + (wrap64 (t308 * 10)))) (wrap64 ((wrap64 (t309 + 1)) + t310)) t309).bind fun bt311 => (if x8 = 0 then (if x7 = x9 then (if bt311.2 = 0 then (if bt311.1 ≥ 1 then (if bt311.1 ≤ 10000 then (if (wrap64 ((wrap64 (bt311.1 * (wrap64 ((wrap64 (t309 + 1)) + t310)))) - (wrap64 ((wrap64 (bt311.1 - 1)) * t309)))) ≥ (wrap64 (1 + (wrap64 (t308 * 10)))) then (if bt311.1 = 1 then (some true) else (some (decide ((wrap64 ((wrap64 ((wrap64 (bt311.1 - 1)) * (wrap64 ((wrap64 (t309 + 1)) + t310)))) - (wrap64 ((wrap64 (bt311.1 - 2)) * t309)))) < (wrap64 (1 + (wrap64 (t308 * 10)))))))) else (some false)) else (some false)) else (some false)) else (some false)) else (some false)) else (some false)))))) = some true := by
  obtain ⟨u, e5, u0, u1⟩ := a2At_val s2 1 250 (by omega)
  obtain ⟨v, e6, q0, q1⟩ := a2At_val s2 2 20 (by omega)
  obtain ⟨w, e7, w0, w1⟩ := a2At_val s2 3 90 (by omega)
  obtain ⟨n, e8, n0, n1, n2, n3⟩ := widths_val (1 + u * 10) (v + 1 + w) v (by omega) (by omega) (by omega) (by omega) (by omega) (by omega)
  have k1 : wrap64 (1 + wrap64 (u * 10)) = 1 + u * 10 := by rw [w64 (n := u * 10) (by omega) (by omega), w64 (by omega) (by omega)]
  have k2 : wrap64 (wrap64 (v + 1) + w) = v + 1 + w := by rw [w64 (n := v + 1) (by omega) (by omega), w64 (by omega) (by omega)]
  refine bnd e5 ?_
  refine bnd e6 ?_
  refine bnd e7 ?_
  rw [k1, k2]
  refine bnd e8 ?_
  refine itT h8 (itT h7 (itT rfl (itT n0 (itT n1 (itT n2 ?_)))))
  rcases n3 with h | h
  · exact itT h rfl
  · dsimp only
    rw [decide_eq_true h]
    split <;> rfl
theorem markF_val {x : Int} {l : List Int} {a : Int} (hok : boltOk ⟨x, l⟩ = true) (h1 : 1 ≤ a) (h2 : a ≤ x - 1) : impl_MarkFlaw.F x l a = (if a ∈ l then some (0, [], 4) else if l.length = 6 then some (0, [], 5) else some (x, insAt l (placeOf l a) a, 0)) := by
  obtain ⟨v1, v2, v3, v4⟩ := boltOk_vals hok
  replace v1 : 1 ≤ x := v1
  replace v2 : x ≤ 10000 := v2
  replace v3 : l.length ≤ 6 := v3
  have v5 : ∀ i : Nat, i < l.length → 0 < i → rd l ((i : Int) - 1) < rd l i := fun i hi h0 => (v4 i hi).2 h0
  have hm1 : wrap64 (x - 1) = x - 1 := w64 (by omega) (by omega)
  have hin : inB a 1 (x - 1) = true := (inB_iff _ _ _).2 ⟨by omega, by omega⟩
  rw [impl_MarkFlaw.F_eq, impl_validBolt_val x l (by omega), hok]
  simp only [Option.bind_some]
  rw [if_pos trivial, hm1, impl_within_val, hin]
  simp only [Option.bind_some]
  rw [if_pos trivial, contains_val l a (by omega)]
  simp only [Option.bind_some]
  by_cases h : a ∈ l
  · rw [if_pos (decide_eq_true h), if_pos h]
  · rw [if_neg (show ¬ decide (a ∈ l) = true by simpa using h), if_neg h]
    by_cases h6 : l.length = 6
    · rw [if_pos (by omega), if_pos h6]
    · have c1 : ([] : List Int).length + l.length < 17592186044416 := by simp; omega
      have c2 : ([] ++ l : List Int).length + [a].length < 17592186044416 := by simp; omega
      rw [if_neg (by omega), if_neg h6, if_pos c1, if_pos c2, List.nil_append, sort_val l a h (by omega) v5]
      rfl
theorem ins_len64 {l : List Int} (a : Int) (h : l.length ≤ 6) : ((insAt l (placeOf l a) a).length : Int) = wrap64 ((l.length : Int) + 1) := by
  rw [insAt_len l _ a (placeOf_le l a), wS (by omega)]
theorem ins_has {l : List Int} (a : Int) (h : l.length ≤ 6) : laws_a2Has.F (insAt l (placeOf l a) a) a = some true := by
  rw [a2Has_val _ a (by rw [insAt_len l _ a (placeOf_le l a)]; omega), decide_eq_true (mem_ins l _ _)]
theorem ins_valid {x : Int} {l : List Int} {a : Int} (hok : boltOk ⟨x, l⟩ = true) (h6 : l.length ≤ 5) (h1 : 1 ≤ a) (h2 : a ≤ x - 1) (hin : a ∉ l) : spec_ValidBolts.F [(⟨x, insAt l (placeOf l a) a⟩ : S29)] = some true := by
  have hib := ins_bolt hok h6 h1 h2 hin
  have hle : (insAt l (placeOf l a) a).length ≤ 1048576 := by rw [insAt_len l _ a (placeOf_le l a)]; omega
  rw [spec_ValidBolts.F_eq, spec_l16Ok_val _ (by simp) (fun y hy => by rw [List.mem_singleton.1 hy]; exact hle)]
  rw [Option.bind_some]
  exact congrArg some ((boltsOk_iff _).2 ⟨fun b hb => by rw [List.mem_singleton.1 hb]; exact hib, by simp⟩)
theorem flaws_end {x1 : List Int} (s2 : Src x1) (m : List S29) (x7 x8 x9 x10 : Int) (h8 : x8 = 0) (h7 : x7 = x9) (h0 : x10 = (m.length : Int)) (hpos : 0 < (m.length : Int)) (x : Int) (l : List Int) (hb0 : rd_T29 m 0 = ⟨x, l⟩) (hok : boltOk ⟨x, l⟩ = true) (hx : 20 ≤ x) : laws_FnFlaws.L0 x1 m x7 x8 x9 x10 = some true := by
  have v2 : x ≤ 10000 := (boltOk_vals hok).2.1
  have v3 : l.length ≤ 6 := (boltOk_vals hok).2.2.1
  obtain ⟨r, e4, r0, r1⟩ := a2At_val s2 0 (x - 1) (by omega)
  have ha : wrap64 (1 + r) = 1 + r := w64 (by omega) (by omega)
  have hm1 : wrap64 (x - 1) = x - 1 := w64 (by omega) (by omega)
  have hmf := markF_val hok (a := 1 + r) (by omega) (by omega)
  have hlen := ins_len64 (l := l) (1 + r) v3
  have hih := ins_has (l := l) (1 + r) v3
  have hiv : (1 + r) ∉ l → l.length ≠ 6 → _ := fun h h6 => ins_valid (a := 1 + r) hok (by omega) (by omega) (by omega) h
  have hha := a2Has_val l (1 + r) (by omega)
  have hn : ¬ x10 < (m.length : Int) := by omega
  clear hx v2 v3 r0 r1
  rw [laws_FnFlaws.L0_eq]
  refine itF hn (itT hpos ?_)
  rw [hb0]
  dsimp only
  rw [hm1]
  refine bnd e4 ?_
  rw [ha, hmf]
  by_cases hin2 : (1 + r) ∈ l
  · rw [if_pos hin2]
    rw [decide_eq_true hin2] at hha
    refine bnd rfl ?_
    refine itF (by decide) ?_
    refine bnd hha ?_
    refine itF (by decide) ?_
    exact flaws_tail s2 x7 x8 x9 h8 h7
  · rw [if_neg hin2]
    rw [decide_eq_false hin2] at hha
    by_cases h6 : l.length = 6
    · rw [if_pos h6]
      refine bnd rfl ?_
      refine itF (by decide) ?_
      refine bnd hha ?_
      refine itF (by decide) ?_
      exact flaws_tail s2 x7 x8 x9 h8 h7
    · rw [if_neg h6]
      refine bnd rfl ?_
      refine itT rfl (itT hlen ?_)
      refine bnd hih ?_
      refine itT rfl ?_
      refine bnd (hiv hin2 h6) ?_
      refine itT rfl ?_
      refine bnd hha ?_
      refine itF (show ¬ (((0 : Int) == 4) != false) = true by decide) ?_
      exact flaws_tail s2 x7 x8 x9 h8 h7
theorem impl_ValidBolts_val (l : List S29) (hl : l.length < 4611686018427387904) (hy : ∀ y ∈ l, y.f1.length ≤ 1048576) : impl_ValidBolts.F l = some (boltsOk l) := by
  rw [impl_ValidBolts.F_eq]
  unfold boltsOk
  by_cases h : (l.length : Int) > 4
  · rw [if_pos h]; simp; omega
  · rw [if_neg h]
    have := allLoop l boltOk (fun i => impl_ValidBolts.L0 l (l.length : Int) i) true (fun i hi => by
      show impl_ValidBolts.L0 l _ i = _
      rw [impl_ValidBolts.L0_eq, if_pos (by omega), if_pos (by omega), if_pos (by omega), rdIBolt l i hi, wS (by omega), impl_validBolt_val _ _ (by have := hy _ (List.getElem_mem hi); omega)]
      rfl) (by
      show impl_ValidBolts.L0 l _ _ = _
      rw [impl_ValidBolts.L0_eq, if_neg (by omega)])
    rw [this]
    simp; omega
theorem pure_FnFlaws : laws_FnFlaws.Pure := by
  intro code more h1 h2
  refine of_lim (g := fun k => laws_FnFlaws.f k code more) ?_
  show laws_FnFlaws.F code more = some true
  rw [laws_FnFlaws.F_eq]
  unfold laws_a2Long.f
  by_cases hb : (code.length : Int) > 3000
  · rw [if_pos hb]; rfl
  rw [if_neg hb]
  simp only [Option.bind_some]
  by_cases hb2 : (more.length : Int) > 3000
  · rw [decide_eq_true hb2, if_pos rfl]
  rw [decide_eq_false hb2, if_neg nf]
  have s1 := src_bytes h1 (by omega)
  have s2 := src_bytes h2 (by omega)
  obtain ⟨m, ps, e1, hl, hm⟩ := A2Bolts_val s1
  have hy : ∀ y ∈ m, y.f1.length ≤ 1048576 := fun y hy => by have := (boltOk_vals (hm y hy).1).2.2.1; omega
  have h6 : ∀ y ∈ m, y.f1.length ≤ 6 := fun y hy => (boltOk_vals (hm y hy).1).2.2.1
  have hbs : boltsOk m = true := (boltsOk_iff m).2 ⟨fun b hb => (hm b hb).1, by omega⟩
  rw [e1]
  simp only [Option.bind_some]
  rw [impl_LongestPanel.F_eq, impl_ValidBolts_val m (by omega) hy, hbs]
  simp only [Option.bind_some]
  rw [if_pos trivial]
  by_cases h0 : (m.length : Int) = 0
  · rw [if_pos h0]
    simp only [Option.bind_some]
    rw [if_pos h0]
    rfl
  rw [if_neg h0, impl_partsOfBolts_val m (by omega) h6]
  simp only [Option.bind_some]
  have hcl := cutsFrom_len m h6 0
  have e2 := impl_longest_val (cutsFrom 0 m) (by omega) (cutsFrom 0 m).length 0 0 (by omega)
  rw [show ((0 : Nat) : Int) = 0 from rfl, List.drop_zero, mostC_cuts] at e2
  rw [e2]
  simp only [Option.bind_some]
  have e3 := flaws_bolts more m (mostB 0 m) 0 (fun b hb => (hm b hb).1) (by omega) m.length 0 0 (by omega)
  rw [show ((0 : Nat) : Int) = 0 from rfl, List.drop_zero] at e3
  rw [if_neg h0, e3]
  obtain ⟨b, hb0, hbm⟩ : ∃ b, rd_T29 m 0 = b ∧ b ∈ m := by
    have h : 0 < m.length := by omega
    refine ⟨m[0], ?_, List.getElem_mem h⟩
    exact rdIBolt m 0 h
  obtain ⟨x, l⟩ := b
  obtain ⟨hok, hx⟩ := hm _ hbm
  exact flaws_end s2 m _ _ _ _ rfl rfl rfl (by omega) x l hb0 hok hx
end Go.Proofs.Ytlphfgbeeckjnaa.PFnFlaws
namespace Go.Proofs.Ytlphfgbeeckjnaa.Pure
theorem FnFlaws : PFnFlaws.laws_FnFlaws.Pure := PFnFlaws.pure_FnFlaws
end Go.Proofs.Ytlphfgbeeckjnaa.Pure
