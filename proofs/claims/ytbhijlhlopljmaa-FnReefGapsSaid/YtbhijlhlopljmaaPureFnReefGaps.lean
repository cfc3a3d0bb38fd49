/-
  The pure side of FnReefGaps: the least gap is the first at which an even reefing has no more changes than told. No conditions.
-/
import Derived.Test.YtbhijlhlopljmaaQFnReefGaps
set_option linter.unusedVariables false
set_option linter.unusedSimpArgs false
set_option linter.unnecessarySimpa false
namespace Go.Proofs.Ytbhijlhlopljmaa.PFnReefGaps
open Go.RowKit Go.Proofs.Ytbhijlhlopljmaa.Kit Go.Proofs.YtbhijlhlopljmaaW.PrintWords Go.Proofs.YtbhijlhlopljmaaW.PrintLast Go.Proofs.YtbhijlhlopljmaaW.PrintMore

def inB (n a b : Int) : Bool := decide (a ≤ n) && decide (n ≤ b)
theorem inB_iff (n a b : Int) : inB n a b = true ↔ a ≤ n ∧ n ≤ b := by simp [inB]
theorem inB_no (n a b : Int) : inB n a b = false ↔ ¬ (a ≤ n ∧ n ≤ b) := by rw [← inB_iff]; simp
/-- At a place: within bounds, and more than the number before it. -/
def riseAt (l : List Int) (a b : Int) (i : Nat) : Bool := inB (rd l (i : Int)) a b && (decide (i = 0) || decide (rd l ((i : Int) - 1) < rd l (i : Int)))
theorem riseAt_def (l : List Int) (a b : Int) (i : Nat) : riseAt l a b i = (inB (rd l (i : Int)) a b && (decide (i = 0) || decide (rd l ((i : Int) - 1) < rd l (i : Int)))) := rfl
def rises (l : List Int) (a b : Int) : Bool := (List.range l.length).all (riseAt l a b)
theorem rises_iff (l : List Int) (a b : Int) : rises l a b = true ↔ ∀ i : Nat, i < l.length → (a ≤ rd l i ∧ rd l i ≤ b) ∧ (0 < i → rd l ((i : Int) - 1) < rd l i) := by
  unfold rises
  rw [List.all_eq_true]
  constructor
  · intro h i hi
    have := h i (List.mem_range.2 hi)
    rw [riseAt_def, Bool.and_eq_true, inB_iff, Bool.or_eq_true] at this
    refine ⟨this.1, fun h0 => ?_⟩
    rcases this.2 with h2 | h2
    · exact absurd (of_decide_eq_true h2) (by omega)
    · exact of_decide_eq_true h2
  · intro h i hi
    have := h i (List.mem_range.1 hi)
    rw [riseAt_def, Bool.and_eq_true, inB_iff, Bool.or_eq_true]
    refine ⟨this.1, ?_⟩
    by_cases h0 : i = 0
    · left; simp [h0]
    · right; exact decide_eq_true (this.2 (by omega))
/-- A valid reefing. -/
def refAt (a b : List Int) (i : Nat) : Bool := inB (rd a (i : Int)) 1 600 && (inB (rd b (i : Int)) 0 (rd a (i : Int)) && (decide (i = 0) || (decide (rd a ((i : Int) - 1) < rd a (i : Int)) && decide (rd b ((i : Int) - 1) < rd b (i : Int)))))
theorem refAt_def (a b : List Int) (i : Nat) : refAt a b i = (inB (rd a (i : Int)) 1 600 && (inB (rd b (i : Int)) 0 (rd a (i : Int)) && (decide (i = 0) || (decide (rd a ((i : Int) - 1) < rd a (i : Int)) && decide (rd b ((i : Int) - 1) < rd b (i : Int)))))) := rfl
def refOk (a b : List Int) : Bool := decide (a.length ≤ 6) && (decide (b.length = a.length) && (List.range a.length).all (refAt a b))
theorem refOk_iff (a b : List Int) : refOk a b = true ↔ a.length ≤ 6 ∧ b.length = a.length ∧ ∀ i : Nat, i < a.length → (1 ≤ rd a i ∧ rd a i ≤ 600) ∧ (0 ≤ rd b i ∧ rd b i ≤ rd a i) ∧ (0 < i → rd a ((i : Int) - 1) < rd a i ∧ rd b ((i : Int) - 1) < rd b i) := by
  unfold refOk
  rw [Bool.and_eq_true, Bool.and_eq_true, decide_eq_true_iff, decide_eq_true_iff, List.all_eq_true]
  refine and_congr Iff.rfl (and_congr Iff.rfl ⟨fun h i hi => ?_, fun h i hi => ?_⟩)
  · have := h i (List.mem_range.2 hi)
    rw [refAt_def, Bool.and_eq_true, inB_iff, Bool.and_eq_true, inB_iff, Bool.or_eq_true] at this
    refine ⟨this.1, this.2.1, fun h0 => ?_⟩
    rcases this.2.2 with h2 | h2
    · exact absurd (of_decide_eq_true h2) (by omega)
    · simpa using h2
  · have := h i (List.mem_range.1 hi)
    rw [refAt_def, Bool.and_eq_true, inB_iff, Bool.and_eq_true, inB_iff, Bool.or_eq_true]
    refine ⟨this.1, this.2.1, ?_⟩
    by_cases h0 : i = 0
    · left; simp [h0]
    · right; simpa using this.2.2 (by omega)
theorem ref_len {a b : List Int} (h : refOk a b = true) : a.length ≤ 6 ∧ b.length = a.length := by
  rw [refOk_iff] at h
  exact ⟨h.1, h.2.1⟩
theorem rd_app (a : List Int) (x : Int) (i : Nat) (h : i < a.length) : rd (a ++ [x]) (i : Int) = rd a (i : Int) := by
  rw [rd_get _ i (by rw [List.length_append]; omega), rd_get a i h, List.getElem_append_left h]
theorem rd_last (a : List Int) (x : Int) : rd (a ++ [x]) (a.length : Int) = x := by
  rw [rd_get _ _ (by rw [List.length_append]; simp), List.getElem_append_right (Nat.le_refl _)]
  simp
theorem ref_nil : refOk [] [] = true := rfl
theorem ref_snoc {a b : List Int} (h : refOk a b = true) (x z : Int) (hl : a.length ≤ 5) (hx : ∀ y ∈ a, y < x) (hz : ∀ y ∈ b, y < z) (h1 : 1 ≤ x) (h2 : x ≤ 600) (h3 : 0 ≤ z) (h4 : z ≤ x) : refOk (a ++ [x]) (b ++ [z]) = true := by
  rw [refOk_iff] at h ⊢
  obtain ⟨_, hb, h5⟩ := h
  refine ⟨by rw [List.length_append]; simp; omega, by rw [List.length_append, List.length_append, hb]; simp, fun i hi => ?_⟩
  rw [List.length_append, List.length_singleton] at hi
  by_cases hlt : i < a.length
  · rw [rd_app a x i hlt, rd_app b z i (by omega)]
    refine ⟨(h5 i hlt).1, (h5 i hlt).2.1, fun h0 => ?_⟩
    obtain ⟨j, rfl⟩ : ∃ j, i = j + 1 := ⟨i - 1, by omega⟩
    have e : ((j + 1 : Nat) : Int) - 1 = (j : Int) := by omega
    have h6 := (h5 (j + 1) hlt).2.2 h0
    rw [e] at h6 ⊢
    rw [rd_app a x j (by omega), rd_app b z j (by omega)]
    exact h6
  · have hi2 : i = a.length := by omega
    subst hi2
    have e2 : rd (b ++ [z]) (a.length : Int) = z := by rw [← hb]; exact rd_last b z
    rw [rd_last a x, e2]
    refine ⟨⟨h1, h2⟩, ⟨h3, h4⟩, fun h0 => ?_⟩
    obtain ⟨j, hj⟩ : ∃ j, a.length = j + 1 := ⟨a.length - 1, by omega⟩
    have e : (a.length : Int) - 1 = (j : Int) := by omega
    rw [e, rd_app a x j (by omega), rd_app b z j (by omega), rd_get a j (by omega), rd_get b j (by omega)]
    exact ⟨hx _ (List.getElem_mem _), hz _ (List.getElem_mem _)⟩
/-- The bytes that a source reads. -/
def Src (c : List Int) : Prop := c.length ≤ 1048576 ∧ ∀ y ∈ c, 0 ≤ y ∧ y ≤ 255
theorem and255 (x : Int) : 0 ≤ Go.bits .and .u64 x 255 ∧ Go.bits .and .u64 x 255 ≤ 255 := by
  have h : (BitVec.ofInt 64 x &&& BitVec.ofInt 64 255).toNat ≤ 255 := by
    rw [BitVec.toNat_and]
    exact Nat.le_trans Nat.and_le_right (by decide)
  have e : Go.bits .and .u64 x 255 = IntKind.u64.wrap ((BitVec.ofInt 64 x &&& BitVec.ofInt 64 255).toNat : Int) := rfl
  rw [e, IntKind.wrap_u64]
  omega
theorem next_val {c : List Int} (hc : Src c) (at_ seed : Int) (h0 : 0 ≤ at_) (h1 : at_ ≤ 4000000000000000000) : ∃ x sd, spec_l00Src_next.f c at_ seed = some (x, at_ + 1, sd) ∧ 0 ≤ x ∧ x ≤ 255 := by
  unfold spec_l00Src_next.f
  by_cases hb : at_ < (c.length : Int)
  · obtain ⟨j, rfl⟩ : ∃ j : Nat, at_ = j := ⟨at_.toNat, by omega⟩
    have hj : j < c.length := by omega
    have hy := hc.2 c[j] (List.getElem_mem hj)
    have hle : wrap64 ((j : Int) + 1) ≤ (c.length : Int) := by rw [w64 (by omega) (by omega)]; omega
    rw [if_pos hb, if_pos h0, if_pos hle, rd_get c j hj, w64 (n := (j : Int) + 1) (by omega) (by omega), w64 (n := c[j]) (by omega) (by omega)]
    exact ⟨_, _, rfl, hy.1, hy.2⟩
  · have hle : ¬ wrap64 (at_ + 1) ≤ (c.length : Int) := by rw [w64 (by omega) (by omega)]; omega
    rw [if_neg hb, if_neg hle, w64 (n := at_ + 1) (by omega) (by omega)]
    refine ⟨_, _, rfl, ?_⟩
    have h := and255 ((IntKind.u64.wrap ((IntKind.u64.wrap ((IntKind.u64.wrap (seed * 6364136223846793005)) + 0)) + 1442695040888963407)) / 1099511627776)
    rw [w64 (by omega) (by omega)]
    exact h
theorem pick_val {c : List Int} (hc : Src c) (at_ seed n : Int) (h0 : 0 ≤ at_) (h1 : at_ ≤ 1000000000000000000) : ∃ x a sd, spec_l00Src_pick.f c at_ seed n = some (x, a, sd) ∧ at_ ≤ a ∧ a ≤ at_ + 2 ∧ 0 ≤ x ∧ (1 ≤ n → x < n) ∧ (n ≤ 1 → x = 0) := by
  unfold spec_l00Src_pick.f
  by_cases hn : n ≤ 1
  · rw [if_pos hn]
    exact ⟨0, at_, seed, rfl, by omega, by omega, by omega, by omega, by omega⟩
  · obtain ⟨x, sd, e, hx0, hx1⟩ := next_val hc at_ seed h0 (by omega)
    have hn0 : ¬ n = 0 := by omega
    rw [if_neg hn, e]
    simp only [Option.bind_some]
    by_cases hm : n > 200
    · obtain ⟨y, sd2, e2, hy0, hy1⟩ := next_val hc (at_ + 1) sd (by omega) (by omega)
      rw [if_pos hm, e2]
      simp only [Option.bind_some]
      rw [if_neg hn0, w64 (n := x * 256) (by omega) (by omega), w64 (n := x * 256 + y) (by omega) (by omega), Int.tmod_eq_emod_of_nonneg (by omega)]
      exact ⟨_, _, _, rfl, by omega, by omega, Int.emod_nonneg _ hn0, fun _ => Int.emod_lt_of_pos _ (by omega), fun h => absurd h hn⟩
    · rw [if_neg hm, if_neg hn0, Int.tmod_eq_emod_of_nonneg (by omega)]
      exact ⟨_, _, _, rfl, by omega, by omega, Int.emod_nonneg _ hn0, fun _ => Int.emod_lt_of_pos _ (by omega), fun h => absurd h hn⟩
theorem reef_loop {c : List Int} (hc : Src c) (d : Nat) : ∀ (k x o a s : Int) (p q : List Int), k = d → (p.length : Int) + k ≤ 4 → refOk p q = true → (∀ y ∈ p, y < x) → (∀ y ∈ q, y ≤ o) → 1 ≤ x → x ≤ 319 - 60 * k → 0 ≤ o → o < x → 0 ≤ a → a ≤ 1000 - 4 * k → ∃ p' q' a' s', spec_l18Draw.L0 x o k c a s p q = some (p', q', a', s') ∧ refOk p' q' = true ∧ 0 ≤ a' ∧ a' ≤ 1000 := by
  induction d with
  | zero =>
    intro k x o a s p q hk hl hr hp hq hx0 hx1 ho0 ho1 ha0 ha1
    rw [spec_l18Draw.L0_eq, if_neg (by omega)]
    exact ⟨p, q, a, s, rfl, hr, ha0, by omega⟩
  | succ d ih =>
    intro k x o a s p q hk hl hr hp hq hx0 hx1 ho0 ho1 ha0 ha1
    have hlq := (ref_len hr).2
    have h1 : k > 0 := by omega
    have h2 : p.length < 17592186044416 := by omega
    have h3 : q.length < 17592186044416 := by omega
    obtain ⟨y, a1, s1, e1, b1, b2, b3, b4, b5⟩ := pick_val hc a s (x - o) ha0 (by omega)
    have b6 := b4 (by omega)
    rw [spec_l18Draw.L0_eq, if_pos h1, if_pos h2, w64 (n := x - o) (by omega) (by omega), e1]; simp only [Option.bind_some]
    rw [w64 (n := o + 1) (by omega) (by omega), w64 (n := o + 1 + y) (by omega) (by omega)]
    obtain ⟨z, e2, g1, g2⟩ : ∃ z, spec_l00Min.f x (o + 1 + y) = some z ∧ o + 1 ≤ z ∧ z ≤ x := by
      unfold spec_l00Min.f
      by_cases h : x < o + 1 + y
      · rw [if_pos h]; exact ⟨x, rfl, by omega, by omega⟩
      · rw [if_neg h]; exact ⟨o + 1 + y, rfl, by omega, by omega⟩
    rw [e2]; simp only [Option.bind_some]
    obtain ⟨w, a2, s2, e3, b7, b8, b9, b10, _⟩ := pick_val hc a1 s1 60 (by omega) (by omega)
    have b11 := b10 (by omega)
    rw [if_pos h3, e3]; simp only [Option.bind_some]
    rw [w64 (n := 1 + w) (by omega) (by omega), w64 (n := x + (1 + w)) (by omega) (by omega), w64 (n := k - 1) (by omega) (by omega)]
    refine ih (k - 1) (x + (1 + w)) z a2 s2 (p ++ [x]) (q ++ [z]) (by omega) (by rw [List.length_append]; simp; omega) (ref_snoc hr x z (by omega) hp (fun y hy => by have := hq y hy; omega) hx0 (by omega) (by omega) g2) ?_ ?_ (by omega) (by omega) (by omega) (by omega) (by omega) (by omega)
    · intro y hy
      rcases List.mem_append.1 hy with h | h
      · have := hp y h; omega
      · rw [List.mem_singleton.1 h]; omega
    · intro y hy
      rcases List.mem_append.1 hy with h | h
      · have := hq y h; omega
      · rw [List.mem_singleton.1 h]; omega
theorem drawReef_val {c : List Int} (hc : Src c) (a s : Int) (ha0 : 0 ≤ a) (ha1 : a ≤ 500) : ∃ p q a' s', spec_l18Draw.F c a s = some (p, q, a', s') ∧ refOk p q = true ∧ 0 ≤ a' ∧ a' ≤ 1000 := by
  rw [spec_l18Draw.F_eq]
  obtain ⟨x, a1, s1, e1, b1, b2, b3, b4, _⟩ := pick_val hc a s 60 ha0 (by omega)
  have b5 := b4 (by omega)
  rw [e1]; simp only [Option.bind_some]
  obtain ⟨o, a2, s2, e2, c1, c2, c3, c4, _⟩ := pick_val hc a1 s1 20 (by omega) (by omega)
  have c5 := c4 (by omega)
  rw [e2]; simp only [Option.bind_some]
  obtain ⟨k, a3, s3, e3, d1, d2, d3, d4, _⟩ := pick_val hc a2 s2 5 (by omega) (by omega)
  have d5 := d4 (by omega)
  rw [e3]; simp only [Option.bind_some]
  rw [w64 (n := 20 + x) (by omega) (by omega)]
  exact reef_loop hc k.toNat k (20 + x) o a3 s3 [] [] (by omega) (by show (0 : Int) + k ≤ 4; omega) ref_nil (by simp) (by simp) (by omega) (by omega) (by omega) (by omega) (by omega) (by omega)
theorem A2Reefing_val {c : List Int} (hc : Src c) : ∃ p q, spec_A2Reefing.F c = some (p, q) ∧ refOk p q = true := by
  rw [spec_A2Reefing.F_eq]
  unfold spec_l00From.f
  simp only [Option.bind_some]
  obtain ⟨p, q, a, s, e, h, _⟩ := drawReef_val hc 0 0 (by omega) (by omega)
  rw [e]
  exact ⟨p, q, rfl, h⟩
/-- Winds as told. -/
def windsOk (l : List Int) : Bool := l.all (fun n => inB n 0 600) && decide (l.length ≤ 60)
theorem blows_loop {c : List Int} (hc : Src c) (d : Nat) : ∀ (k x a s : Int) (out : List Int), k = d → (out.length : Int) + k ≤ 13 → (∀ y ∈ out, inB y 0 600 = true) → 0 ≤ x → x ≤ 600 → 0 ≤ a → a ≤ 1000 - 4 * k → ∃ ws, spec_A2Blows.L0 out x k c a s = some ws ∧ windsOk ws = true ∧ ws.length ≤ 13 := by
  induction d with
  | zero =>
    intro k x a s out hk hl hy hx0 hx1 ha0 ha1
    rw [spec_A2Blows.L0_eq, if_neg (by omega)]
    refine ⟨out, rfl, ?_, by omega⟩
    unfold windsOk
    rw [decide_eq_true (by omega), Bool.and_true, List.all_eq_true]
    exact hy
  | succ d ih =>
    intro k x a s out hk hl hy hx0 hx1 ha0 ha1
    have h1 : k > 0 := by omega
    have h2 : out.length < 17592186044416 := by omega
    obtain ⟨y, a1, s1, e1, b1, b2, b3, b4, _⟩ := pick_val hc a s 81 ha0 (by omega)
    have b5 := b4 (by omega)
    rw [spec_A2Blows.L0_eq, if_pos h1, e1]; simp only [Option.bind_some]
    rw [w64 (n := x + y) (by omega) (by omega), w64 (n := x + y - 40) (by omega) (by omega)]
    obtain ⟨z, e2, g1⟩ : ∃ z, spec_l00Max.f 0 (x + y - 40) = some z ∧ 0 ≤ z := by
      unfold spec_l00Max.f
      by_cases h : (0 : Int) > x + y - 40
      · rw [if_pos h]; exact ⟨0, rfl, by omega⟩
      · rw [if_neg h]; exact ⟨_, rfl, by omega⟩
    rw [e2]; simp only [Option.bind_some]
    obtain ⟨v, e3, g2, g3⟩ : ∃ v, spec_l00Min.f 600 z = some v ∧ 0 ≤ v ∧ v ≤ 600 := by
      unfold spec_l00Min.f
      by_cases h : (600 : Int) < z
      · rw [if_pos h]; exact ⟨600, rfl, by omega, by omega⟩
      · rw [if_neg h]; exact ⟨z, rfl, by omega, by omega⟩
    rw [e3]; simp only [Option.bind_some]
    rw [if_pos h2, w64 (n := k - 1) (by omega) (by omega)]
    refine ih (k - 1) v a1 s1 (out ++ [v]) (by omega) (by rw [List.length_append]; simp; omega) (fun y hy2 => ?_) g2 g3 (by omega) (by omega)
    rcases List.mem_append.1 hy2 with h | h
    · exact hy y h
    · rw [List.mem_singleton.1 h, inB_iff]; exact ⟨g2, g3⟩
theorem A2Blows_val {c : List Int} (hc : Src c) : ∃ ws, spec_A2Blows.F c = some ws ∧ windsOk ws = true ∧ ws.length ≤ 13 := by
  rw [spec_A2Blows.F_eq]
  unfold spec_l00From.f
  simp only [Option.bind_some]
  obtain ⟨x, a1, s1, e1, b1, b2, b3, b4, _⟩ := pick_val hc 0 0 150 (by omega) (by omega)
  have b5 := b4 (by omega)
  rw [e1]; simp only [Option.bind_some]
  obtain ⟨k, a2, s2, e2, c1, c2, c3, c4, _⟩ := pick_val hc a1 s1 14 (by omega) (by omega)
  have c5 := c4 (by omega)
  rw [e2]; simp only [Option.bind_some]
  exact blows_loop hc k.toNat k x a2 s2 [] (by omega) (by show (0 : Int) + k ≤ 13; omega) (by simp) (by omega) (by omega) (by omega) (by omega)
theorem a2At_val {c : List Int} (hc : Src c) (i : Nat) (n : Int) (hn : 1 ≤ n) : ∃ r, laws_a2At.f c (i : Int) n = some r ∧ 0 ≤ r ∧ r < n := by
  unfold laws_a2At.f
  by_cases h : (i : Int) ≥ (c.length : Int)
  · rw [if_pos h]; exact ⟨0, rfl, by omega, by omega⟩
  · have hi : i < c.length := by omega
    have hy := hc.2 c[i] (List.getElem_mem hi)
    have h1 : ¬ n < 1 := by omega
    have h2 : (0 : Int) ≤ (i : Int) := by omega
    have h3 : (i : Int) < (c.length : Int) := by omega
    have h4 : ¬ n = 0 := by omega
    rw [if_neg h, if_neg h1, if_pos h2, if_pos h3, if_neg h4, rd_get c i hi, w64 (by omega) (by omega), Int.tmod_eq_emod_of_nonneg hy.1]
    exact ⟨_, rfl, Int.emod_nonneg _ h4, Int.emod_lt_of_pos _ (by omega)⟩
theorem a2Same_val (l : List Int) (hl : l.length ≤ 1048576) : laws_a2Same.F l l = some true := by
  rw [laws_a2Same.F_eq, if_pos rfl]
  have h := allLoop l (fun _ => true) (fun i => laws_a2Same.L0 l l i) true (fun i hi => by
    show laws_a2Same.L0 l l i = _
    rw [laws_a2Same.L0_eq, if_pos (by omega), if_pos (by omega), if_pos (by omega), if_pos rfl, wS (by omega)]
    rfl) (by
    show laws_a2Same.L0 l l _ = _
    rw [laws_a2Same.L0_eq, if_neg (by omega)])
  refine h.trans ?_
  rw [Bool.and_true, List.all_eq_true.2 (fun _ _ => rfl)]
theorem src_bytes {c : List Int} (h : c.length ≤ 9223372036854775807 ∧ ∀ y0 ∈ c, (Lit.int .u8 y0).wf = true) (hl : c.length ≤ 1048576) : Src c := ⟨hl, fun y hy => by
  have h1 := h.2 y hy
  have h2 : IntKind.u8.min ≤ y ∧ y ≤ IntKind.u8.max := by simpa [Lit.wf] using h1
  exact h2⟩
theorem even_loop (l : List Int) (g : Int) (hl : l.length ≤ 1048576) (hy : ∀ y ∈ l, -1000000 ≤ y ∧ y ≤ 1000000) (hg0 : -1000000 ≤ g) (hg1 : g ≤ 1000000) (o : List Int) (d : Nat) : ∀ i : Nat, i + d = l.length → (∀ y ∈ l.take i, g ≤ y) →
    (spec_l18Even.L0 l g (i : Int) o ((l.take i).map fun y => y - g) = some (o, l.map (fun y => y - g), true) ∧ impl_evenReefing.L0 g l (l.length : Int) (i : Int) o ((l.take i).map fun y => y - g) = some (o, l.map (fun y => y - g), true) ∧ ∀ y ∈ l, g ≤ y) ∨
    (spec_l18Even.L0 l g (i : Int) o ((l.take i).map fun y => y - g) = some ([], [], false) ∧ impl_evenReefing.L0 g l (l.length : Int) (i : Int) o ((l.take i).map fun y => y - g) = some ([], [], false) ∧ ∃ y ∈ l, y < g) := by
  induction d with
  | zero =>
    intro i hd hall
    have hi : ¬ (i : Int) < (l.length : Int) := by omega
    rw [spec_l18Even.L0_eq, impl_evenReefing.L0_eq, if_neg hi, if_neg hi]
    rw [List.take_of_length_le (by omega)] at hall ⊢
    exact Or.inl ⟨rfl, rfl, hall⟩
  | succ d ih =>
    intro i hd hall
    have hlt : i < l.length := by omega
    have hi : (i : Int) < (l.length : Int) := by omega
    have hi0 : (0 : Int) ≤ (i : Int) := by omega
    have hm : l[i] ∈ l := List.getElem_mem hlt
    have hb := hy _ hm
    rw [spec_l18Even.L0_eq, impl_evenReefing.L0_eq, if_pos hi, if_pos hi, if_pos hi0, if_pos hi0, if_pos hi, rd_get l i hlt]
    by_cases h : l[i] < g
    · rw [if_pos h, if_pos h]
      exact Or.inr ⟨rfl, rfl, _, hm, h⟩
    · have ho : ((l.take i).map fun y => y - g).length < 17592186044416 := by rw [List.length_map, List.length_take]; omega
      rw [if_neg h, if_neg h, if_pos ho, if_pos ho, wS (by omega), w64 (n := l[i] - g) (by omega) (by omega)]
      have e : (l.take i).map (fun y => y - g) ++ [l[i] - g] = (l.take (i + 1)).map (fun y => y - g) := by
        rw [List.take_succ_eq_append_getElem hlt, List.map_append]; rfl
      rw [e]
      refine ih (i + 1) (by omega) (fun y hyy => ?_)
      rw [List.take_succ_eq_append_getElem hlt, List.mem_append, List.mem_singleton] at hyy
      rcases hyy with h1 | rfl
      · exact hall y h1
      · omega
theorem even_same (l : List Int) (g : Int) (hl : l.length ≤ 1048576) (hy : ∀ y ∈ l, -1000000 ≤ y ∧ y ≤ 1000000) (hg0 : -1000000 ≤ g) (hg1 : g ≤ 1000000) :
    (spec_l18Even.F l g = some (l, l.map (fun y => y - g), true) ∧ impl_evenReefing.F l g = some (l, l.map (fun y => y - g), true) ∧ ∀ y ∈ l, g ≤ y) ∨
    (spec_l18Even.F l g = some ([], [], false) ∧ impl_evenReefing.F l g = some ([], [], false) ∧ ∃ y ∈ l, y < g) := by
  rw [spec_l18Even.F_eq, impl_evenReefing.F_eq]
  unfold spec_l00Own.f
  have h1 : ([] : List Int).length + l.length < 17592186044416 := by simp; omega
  simp only [Option.bind_some]
  rw [if_pos h1, if_pos h1, List.nil_append]
  simp only [Option.bind_some]
  exact even_loop l g hl hy hg0 hg1 l l.length 0 (by omega) (by simp)
theorem spec_l00In_val (n a b : Int) : spec_l00In.f n a b = some (inB n a b) := by
  unfold spec_l00In.f inB
  by_cases h : n ≥ a
  · rw [if_pos h]; simp [show a ≤ n from h]
  · rw [if_neg h]; simp; omega
theorem spec_l00Rises_val (l : List Int) (a b : Int) (hl : l.length < 4611686018427387904) : spec_l00Rises.F l a b = some (rises l a b) := by
  rw [spec_l00Rises.F_eq]
  refine (allRange l.length (riseAt l a b) (fun i => spec_l00Rises.L0 l a b i) true (fun i hi => ?_) ?_).trans (by rw [Bool.and_true]; rfl)
  · show spec_l00Rises.L0 l a b i = _
    rw [spec_l00Rises.L0_eq, if_pos (by omega), if_pos (by omega), spec_l00In_val, wS (by omega)]
    simp only [Option.bind_some]
    rw [riseAt_def, ite_band]
    by_cases h1 : inB (rd l (i : Int)) a b = true
    · rw [if_pos h1, if_pos h1]
      by_cases h0 : i = 0
      · rw [if_neg (by omega), if_pos (by simp [h0])]
      · rw [if_pos (by omega), w64 (by omega) (by omega), if_pos (by omega), if_pos (by omega)]
        by_cases h2 : rd l ((i : Int) - 1) ≥ rd l (i : Int)
        · rw [if_pos h2, if_neg (by simp [h0]; omega)]
        · rw [if_neg h2, if_pos (by simp [h0]; omega)]
    · rw [if_neg h1, if_neg h1]
  · show spec_l00Rises.L0 l a b _ = _
    rw [spec_l00Rises.L0_eq, if_neg (by omega)]
/-- The reefing with the same winds twice. -/
theorem ref_self (a : List Int) : refOk a a = (decide (a.length ≤ 6) && rises a 1 600) := by
  rw [Bool.eq_iff_iff, refOk_iff, Bool.and_eq_true, decide_eq_true_iff, rises_iff]
  constructor
  · rintro ⟨h1, _, h3⟩
    exact ⟨h1, fun i hi => ⟨(h3 i hi).1, fun h0 => ((h3 i hi).2.2 h0).1⟩⟩
  · rintro ⟨h1, h3⟩
    exact ⟨h1, rfl, fun i hi => ⟨(h3 i hi).1, ⟨by have := (h3 i hi).1; omega, Int.le_refl _⟩, fun h0 => ⟨(h3 i hi).2 h0, (h3 i hi).2 h0⟩⟩⟩
theorem ref_vals {a b : List Int} (h : refOk a b = true) : ∀ y ∈ a, 1 ≤ y ∧ y ≤ 600 := by
  rw [refOk_iff] at h
  intro y hy
  obtain ⟨i, hi, rfl⟩ := List.getElem_of_mem hy
  have := (h.2.2 i hi).1
  rw [rd_get a i hi] at this
  exact this
theorem spec_l18In_val (a : List Int) (ha : a.length < 4611686018427387904) : spec_l18In.F a = some (refOk a a) := by
  rw [spec_l18In.F_eq, ref_self]
  by_cases h : (a.length : Int) ≤ 6
  · rw [if_pos h, spec_l00Rises_val a 1 600 ha, decide_eq_true (by omega)]
    simp
  · rw [if_neg h, decide_eq_false (by omega)]
    rfl
theorem impl_within_val (n a b : Int) : impl_within.f n a b = some (inB n a b) := by
  unfold impl_within.f inB
  by_cases h : n ≥ a
  · rw [if_pos h]; simp [show a ≤ n from h]
  · rw [if_neg h]; simp; omega
theorem impl_ValidReefing_val (a b : List Int) (ha : a.length < 4611686018427387904) (hb : b.length < 4611686018427387904) : impl_ValidReefing.F a b = some (refOk a b) := by
  rw [impl_ValidReefing.F_eq]
  by_cases h2 : (a.length : Int) > 6
  · rw [if_pos h2, impl_ValidReefing.J0_eq, if_pos rfl]
    congr 1; unfold refOk; rw [decide_eq_false (by omega)]; rfl
  · rw [if_neg h2, impl_ValidReefing.J0_eq]
    by_cases h1 : b.length = a.length
    · rw [if_neg (by simp [h1])]
      refine (allRange a.length (refAt a b) (fun i => impl_ValidReefing.L0 a (a.length : Int) i a b) true (fun i hi => ?_) ?_).trans ?_
      · show impl_ValidReefing.L0 _ _ i _ _ = _
        rw [impl_ValidReefing.L0_eq, if_pos (by omega), if_pos (by omega), if_pos (by omega), impl_within_val, wS (by omega)]
        simp only [Option.bind_some]
        rw [refAt_def, ite_band, ite_band]
        by_cases h3 : inB (rd a (i : Int)) 1 600 = true
        · rw [if_pos h3, if_pos h3, if_pos (by omega), impl_within_val]
          simp only [Option.bind_some]
          by_cases h4 : inB (rd b (i : Int)) 0 (rd a (i : Int)) = true
          · rw [if_pos h4, if_pos h4]
            by_cases h0 : i = 0
            · rw [if_neg (by omega), if_pos (by simp [h0])]
            · rw [if_pos (by omega), w64 (by omega) (by omega), if_pos (by omega), if_pos (by omega)]
              by_cases h5 : rd a (i : Int) ≤ rd a ((i : Int) - 1)
              · rw [if_pos h5, if_neg (by simp [h0]; omega)]
              · rw [if_neg h5, if_pos (by omega)]
                by_cases h6 : rd b (i : Int) ≤ rd b ((i : Int) - 1)
                · rw [if_pos h6, if_neg (by simp [h0]; omega)]
                · rw [if_neg h6, if_pos (by simp [h0]; omega)]
          · rw [if_neg h4, if_neg h4]
        · rw [if_neg h3, if_neg h3]
      · show impl_ValidReefing.L0 _ _ _ _ _ = _
        rw [impl_ValidReefing.L0_eq, if_neg (by omega)]
      · unfold refOk
        rw [decide_eq_true (show a.length ≤ 6 by omega), decide_eq_true h1]
        simp
    · rw [if_pos (by simp; omega)]
      congr 1; unfold refOk; rw [decide_eq_false (p := b.length = a.length) h1]; simp
theorem spec_l18Wind_val (n : Int) : spec_l18Wind.f n = some (inB n 0 600) := by
  unfold spec_l18Wind.f
  rw [spec_l00In_val]; rfl
theorem even_public (l : List Int) (g : Int) (h1 : refOk l l = true) (h0 : 0 ≤ g) (h6 : g ≤ 600) :
    (spec_EvenReefing.F l g = some (l, l.map (fun y => y - g), 0) ∧ impl_EvenReefing.F l g = some (l, l.map (fun y => y - g), 0) ∧ ∀ y ∈ l, g ≤ y) ∨
    (spec_EvenReefing.F l g = some ([], [], 6) ∧ impl_EvenReefing.F l g = some ([], [], 6) ∧ ∃ y ∈ l, y < g) := by
  have h3 := ref_len h1
  have h2 : inB g 0 600 = true := by rw [inB_iff]; exact ⟨h0, h6⟩
  rw [spec_EvenReefing.F_eq, impl_EvenReefing.F_eq, spec_l18In_val l (by omega), impl_ValidReefing_val l l (by omega) (by omega)]
  simp only [Option.bind_some]
  rw [if_pos h1, if_pos h1, spec_l18Wind_val, impl_within_val]
  simp only [Option.bind_some]
  rw [if_pos h2, if_pos h2]
  rcases even_same l g (by omega) (fun y h => by have := ref_vals h1 y h; omega) (by omega) (by omega) with ⟨e1, e2, h⟩ | ⟨e1, e2, h⟩
  · rw [e1, e2]; exact Or.inl ⟨rfl, rfl, h⟩
  · rw [e1, e2]; exact Or.inr ⟨rfl, rfl, h⟩
theorem ref_shift {l : List Int} (h : refOk l l = true) (g : Int) (h0 : 0 ≤ g) (hg : ∀ y ∈ l, g ≤ y) : refOk l (l.map fun y => y - g) = true := by
  rw [refOk_iff] at h ⊢
  have e : ∀ i : Nat, i < l.length → rd (l.map fun y => y - g) (i : Int) = rd l i - g := by
    intro i hi
    rw [rd_get _ i (by rw [List.length_map]; exact hi), rd_get l i hi, List.getElem_map]
  refine ⟨h.1, List.length_map _, fun i hi => ?_⟩
  have h1 := h.2.2 i hi
  have h2 := hg l[i] (List.getElem_mem hi)
  rw [e i hi]
  rw [rd_get l i hi] at h1 ⊢
  refine ⟨h1.1, ⟨by omega, by omega⟩, fun hp => ?_⟩
  obtain ⟨j, rfl⟩ : ∃ j, i = j + 1 := ⟨i - 1, by omega⟩
  have e3 : ((j + 1 : Nat) : Int) - 1 = (j : Int) := by omega
  have h3 := (h1.2.2 hp).1
  rw [e3] at h3 ⊢
  rw [e j (by omega)]
  exact ⟨h3, by omega⟩
theorem gap_over (l : List Int) (x : Int) (ws : List Int) (c : Int) (hl : l.length ≤ 1000000) (hy : ∀ y ∈ l, 1 ≤ y ∧ y ≤ 600) (d : Nat) : ∀ g : Int, 0 ≤ g → g + d = 601 → (∃ y ∈ l, y < g) → impl_LeastGap.L0 l x ws c g = some (0, 3) := by
  induction d with
  | zero =>
    intro g h0 hd _
    rw [impl_LeastGap.L0_eq, if_neg (by omega)]
  | succ d ih =>
    intro g h0 hd hex
    rcases even_same l g (by omega) (fun y h => by have := hy y h; omega) (by omega) (by omega) with ⟨_, _, h3⟩ | ⟨_, e2, _⟩
    · obtain ⟨y, h4, h5⟩ := hex
      have := h3 y h4
      omega
    · rw [impl_LeastGap.L0_eq, if_pos (by omega), e2]
      simp only [Option.bind_some]
      rw [if_neg nf, w64 (n := g + 1) (by omega) (by omega)]
      obtain ⟨y, h4, h5⟩ := hex
      exact ih (g + 1) (by omega) (by omega) ⟨y, h4, by omega⟩
theorem spec_l18Ok_val (a b : List Int) (ha : a.length < 4611686018427387904) (hb : b.length < 4611686018427387904) : spec_l18Ok.F [(⟨a, b⟩ : S28)] = some (refOk a b) := by
  have e : rd_T28 [(⟨a, b⟩ : S28)] 0 = ⟨a, b⟩ := rfl
  rw [spec_l18Ok.F_eq, e, if_pos (by simp)]
  by_cases h1 : (b.length : Int) = (a.length : Int)
  · rw [if_pos h1]
    by_cases h2 : (a.length : Int) > 6
    · rw [if_pos h2, spec_l18Ok.J0_eq, if_pos rfl]
      congr 1; unfold refOk; rw [decide_eq_false (by omega)]; rfl
    · rw [if_neg h2, spec_l00Rises_val a 1 600 ha]
      simp only [Option.bind_some]
      have hfin : ∀ r : Bool, (r = rises b 0 600) → rises a 1 600 = true → spec_l18Ok.J0 [(⟨a, b⟩ : S28)] (a.length : Int) (!r) = some (refOk a b) := by
        intro r hr ha2
        rw [spec_l18Ok.J0_eq]
        cases hr2 : r with
        | false =>
          rw [if_pos (show (!false) = true from rfl)]
          congr 1
          symm
          rw [← Bool.not_eq_true, refOk_iff]
          intro hbad
          have : rises b 0 600 = true := by
            rw [rises_iff]
            intro i hi
            have h3 := hbad.2.2 i (by omega)
            exact ⟨⟨h3.2.1.1, by omega⟩, fun h0 => (h3.2.2 h0).2⟩
          rw [← hr, hr2] at this
          cases this
        | true =>
          rw [if_neg (by simp)]
          have hb2 : rises b 0 600 = true := by rw [← hr, hr2]
          rw [rises_iff] at ha2 hb2
          refine (allRange a.length (fun i => decide (rd b (i : Int) ≤ rd a (i : Int))) (fun i => spec_l18Ok.L0 [(⟨a, b⟩ : S28)] (a.length : Int) i) true (fun i hi => ?_) ?_).trans ?_
          · show spec_l18Ok.L0 _ _ i = _
            rw [spec_l18Ok.L0_eq, e, if_pos (by omega), if_pos (by omega), if_pos (by show (i : Int) < (b.length : Int); omega), if_pos (by show (i : Int) < (a.length : Int); omega), wS (by omega)]
            show (if rd b (i : Int) > rd a (i : Int) then _ else _) = _
            by_cases h3 : rd b (i : Int) > rd a (i : Int)
            · rw [if_pos h3, if_neg (by simp; omega)]
            · rw [if_neg h3, if_pos (by simp; omega)]
          · show spec_l18Ok.L0 _ _ _ = _
            rw [spec_l18Ok.L0_eq, if_neg (by omega)]
          · congr 1
            rw [Bool.and_true, Bool.eq_iff_iff, List.all_eq_true, refOk_iff]
            constructor
            · intro h
              refine ⟨by omega, by omega, fun i hi => ⟨(ha2 i hi).1, ⟨(hb2 i (by omega)).1.1, ?_⟩, fun h0 => ⟨(ha2 i hi).2 h0, (hb2 i (by omega)).2 h0⟩⟩⟩
              simpa using h i (List.mem_range.2 hi)
            · intro h i hi
              simpa using (h.2.2 i (List.mem_range.1 hi)).2.1.2
      cases hra : rises a 1 600 with
      | false =>
        rw [if_neg (by simp), spec_l18Ok.J0_eq, if_pos rfl]
        congr 1
        symm
        rw [← Bool.not_eq_true, refOk_iff]
        intro hbad
        have : rises a 1 600 = true := by
          rw [rises_iff]
          intro i hi
          have h3 := hbad.2.2 i hi
          exact ⟨h3.1, fun h0 => (h3.2.2 h0).1⟩
        rw [hra] at this
        cases this
      | true =>
        rw [if_pos rfl, spec_l00Rises_val b 0 600 hb]
        simp only [Option.bind_some]
        exact hfin _ rfl hra
  · rw [if_neg h1, spec_l18Ok.J0_eq, if_pos rfl]
    congr 1; unfold refOk; rw [decide_eq_false (p := b.length = a.length) (by omega)]; simp
theorem spec_l18Winds_val (l : List Int) (hl : l.length < 4611686018427387904) : spec_l18Winds.F l = some (windsOk l) := by
  rw [spec_l18Winds.F_eq]
  refine allLoop l (fun n => inB n 0 600) (fun i => spec_l18Winds.L0 l i) _ (fun i hi => ?_) ?_
  · show spec_l18Winds.L0 l i = _
    rw [spec_l18Winds.L0_eq, if_pos (by omega), if_pos (by omega), rd_get l i hi, wS (by omega), spec_l18Wind_val]
    rfl
  · show spec_l18Winds.L0 l _ = _
    rw [spec_l18Winds.L0_eq, if_neg (by omega)]
    simp; omega
/-- The code of a reefing, a number of reefs and winds. -/
def reefCode (a b : List Int) (x : Int) (ws : List Int) : Int := if refOk a b = true then (if (inB x 0 (a.length : Int) && windsOk ws) = true then 0 else 2) else 1
theorem reefCode_ok {a b : List Int} {x : Int} {ws : List Int} (h : reefCode a b x ws = 0) : refOk a b = true ∧ inB x 0 (a.length : Int) = true ∧ windsOk ws = true := by
  unfold reefCode at h
  by_cases h1 : refOk a b = true
  · rw [if_pos h1] at h
    by_cases h2 : (inB x 0 (a.length : Int) && windsOk ws) = true
    · rw [Bool.and_eq_true] at h2; exact ⟨h1, h2⟩
    · rw [if_neg h2] at h; omega
  · rw [if_neg h1] at h; omega
theorem spec_l18Code_val (a b : List Int) (x : Int) (ws : List Int) (ha : a.length < 4611686018427387904) (hb : b.length < 4611686018427387904) (hw : ws.length < 4611686018427387904) : spec_l18Code.F [(⟨a, b⟩ : S28)] x ws = some (reefCode a b x ws) := by
  have e : rd_T28 [(⟨a, b⟩ : S28)] 0 = ⟨a, b⟩ := rfl
  rw [spec_l18Code.F_eq, e, if_pos (by simp), spec_l18Ok_val a b ha hb]
  simp only [Option.bind_some]
  unfold reefCode
  by_cases h1 : refOk a b = true
  · rw [if_pos h1, if_pos h1, spec_l00In_val]
    simp only [Option.bind_some]
    rw [ite_band]
    by_cases h2 : inB x 0 (a.length : Int) = true
    · rw [if_pos h2, if_pos h2, spec_l18Winds_val ws hw]
      simp only [Option.bind_some]
      split <;> rfl
    · rw [if_neg h2, if_neg h2]
  · rw [if_neg h1, if_neg h1]
theorem impl_areIn_val (l : List Int) (n a b : Int) (hl : l.length < 4611686018427387904) : impl_areIn.F l n a b = some (decide ((l.length : Int) = n) && l.all (fun x => inB x a b)) := by
  rw [impl_areIn.F_eq]
  by_cases h : (l.length : Int) = n
  · rw [if_pos h, decide_eq_true h]
    refine (allLoop l (fun x => inB x a b) (fun i => impl_areIn.L0 a b l (l.length : Int) i) true (fun i hi => ?_) ?_).trans (by simp)
    · show impl_areIn.L0 a b l _ i = _
      rw [impl_areIn.L0_eq, if_pos (by omega), if_pos (by omega), if_pos (by omega), rd_get l i hi, wS (by omega), impl_within_val]
      rfl
    · show impl_areIn.L0 a b l _ _ = _
      rw [impl_areIn.L0_eq, if_neg (by omega)]
  · rw [if_neg h, decide_eq_false h]; rfl
theorem impl_reefCode_val (a b : List Int) (x : Int) (ws : List Int) (ha : a.length < 4611686018427387904) (hb : b.length < 4611686018427387904) (hw : ws.length < 4611686018427387904) : impl_reefCode.F a b x ws = some (reefCode a b x ws) := by
  rw [impl_reefCode.F_eq, impl_ValidReefing_val a b ha hb]
  simp only [Option.bind_some]
  unfold reefCode
  by_cases h1 : refOk a b = true
  · rw [if_pos h1, if_pos h1, impl_within_val]
    simp only [Option.bind_some]
    rw [ite_band]
    by_cases h2 : inB x 0 (a.length : Int) = true
    · rw [if_pos h2, if_pos h2]
      by_cases h3 : (ws.length : Int) > 60
      · rw [if_pos h3, if_neg (by unfold windsOk; simp; omega)]
      · rw [if_neg h3, impl_areIn_val ws _ 0 600 hw, decide_eq_true rfl]
        simp only [Option.bind_some]
        have e : windsOk ws = (true && ws.all fun x => inB x 0 600) := by unfold windsOk; rw [decide_eq_true (by omega)]; simp
        rw [e]
        split <;> rfl
    · rw [if_neg h2, if_neg h2]
  · rw [if_neg h1, if_neg h1]
theorem next_down (a b : List Int) (hl : b.length = a.length) (hs : a.length ≤ 1048576) (w : Int) (d : Nat) : ∀ x : Int, 0 ≤ x → x ≤ a.length → x = d → ∃ r, spec_l18Next.L1 [(⟨a, b⟩ : S28)] x w = some r ∧ impl_nextReef.L1 x w a b = some r ∧ 0 ≤ r ∧ r ≤ a.length := by
  have e : rd_T28 [(⟨a, b⟩ : S28)] 0 = ⟨a, b⟩ := rfl
  induction d with
  | zero =>
    intro x h0 h1 hd
    have hx : ¬ x > 0 := by omega
    rw [spec_l18Next.L1_eq, impl_nextReef.L1_eq, if_neg hx, if_neg hx]
    exact ⟨x, rfl, rfl, h0, h1⟩
  | succ d ih =>
    intro x h0 h1 hd
    have hx : x > 0 := by omega
    have hx1 : 0 ≤ x - 1 := by omega
    have hx2 : x - 1 < (b.length : Int) := by omega
    rw [spec_l18Next.L1_eq, impl_nextReef.L1_eq, e, if_pos hx, if_pos hx, w64 (n := x - 1) (by omega) (by omega), if_pos hx1, if_pos hx1, if_pos hx2, if_pos hx2]
    by_cases h : w < rd b (x - 1)
    · rw [if_pos h, if_pos h]
      exact ih (x - 1) (by omega) (by omega) (by omega)
    · rw [if_neg h, if_neg h]
      exact ⟨x, rfl, rfl, h0, h1⟩
theorem next_up (a b : List Int) (hl : b.length = a.length) (hs : a.length ≤ 1048576) (w : Int) (d : Nat) : ∀ x : Int, 0 ≤ x → x + d = a.length → ∃ r, spec_l18Next.L0 [(⟨a, b⟩ : S28)] x w = some r ∧ impl_nextReef.L0 x w a b = some r ∧ 0 ≤ r ∧ r ≤ a.length := by
  have e : rd_T28 [(⟨a, b⟩ : S28)] 0 = ⟨a, b⟩ := rfl
  induction d with
  | zero =>
    intro x h0 h1
    have hx : ¬ x < (a.length : Int) := by omega
    rw [spec_l18Next.L0_eq, impl_nextReef.L0_eq, e, if_neg hx, if_neg hx, spec_l18Next.J1_eq, impl_nextReef.J1_eq]
    exact next_down a b hl hs w x.toNat x h0 (by omega) (by omega)
  | succ d ih =>
    intro x h0 h1
    have hx : x < (a.length : Int) := by omega
    rw [spec_l18Next.L0_eq, impl_nextReef.L0_eq, e, if_pos hx, if_pos hx, if_pos h0, if_pos h0]
    by_cases h : w ≥ rd a x
    · rw [if_pos h, if_pos h, w64 (n := x + 1) (by omega) (by omega)]
      exact ih (x + 1) (by omega) (by omega)
    · rw [if_neg h, if_neg h, spec_l18Next.J1_eq, impl_nextReef.J1_eq]
      exact next_down a b hl hs w x.toNat x h0 (by omega) (by omega)
theorem next_same (a b : List Int) (hl : b.length = a.length) (hs : a.length ≤ 1048576) (x w : Int) (h0 : 0 ≤ x) (h1 : x ≤ a.length) : ∃ r, spec_l18Next.F [(⟨a, b⟩ : S28)] x w = some r ∧ impl_nextReef.F a b x w = some r ∧ 0 ≤ r ∧ r ≤ a.length := by
  rw [spec_l18Next.F_eq, impl_nextReef.F_eq, if_pos (by simp)]
  exact next_up a b hl hs w ((a.length : Int) - x).toNat x h0 (by omega)
theorem run_loop (a b : List Int) (hl : b.length = a.length) (hs : a.length ≤ 1048576) (ws : List Int) (hw : ws.length ≤ 1048576) (d : Nat) : ∀ (i : Int) (x : Int) (out : List Int), 0 ≤ i → i + d = ws.length → (out.length : Int) = i → 0 ≤ x → x ≤ a.length → (∀ y ∈ out, 0 ≤ y ∧ y ≤ (a.length : Int)) →
    ∃ l, spec_l18Run.L0 [(⟨a, b⟩ : S28)] x ws out i = some l ∧ impl_runReefs.L0 x out ws (ws.length : Int) i a b = some l ∧ l.length = ws.length ∧ ∀ y ∈ l, 0 ≤ y ∧ y ≤ (a.length : Int) := by
  induction d with
  | zero =>
    intro i x out h0 hd hol hx0 hx1 hout
    have hi : ¬ i < (ws.length : Int) := by omega
    rw [spec_l18Run.L0_eq, impl_runReefs.L0_eq, if_neg hi, if_neg hi]
    exact ⟨out, rfl, rfl, by omega, hout⟩
  | succ d ih =>
    intro i x out h0 hd hol hx0 hx1 hout
    have hi : i < (ws.length : Int) := by omega
    obtain ⟨r, e1, e2, hr0, hr1⟩ := next_same a b hl hs x (rd ws i) hx0 hx1
    have ho : out.length < 17592186044416 := by omega
    rw [spec_l18Run.L0_eq, impl_runReefs.L0_eq, if_pos hi, if_pos hi, if_pos h0, if_pos h0, if_pos hi, e1, e2]
    simp only [Option.bind_some]
    rw [if_pos ho, if_pos ho, w64 (n := i + 1) (by omega) (by omega)]
    refine ih (i + 1) r (out ++ [r]) (by omega) (by omega) (by rw [List.length_append]; simp; omega) hr0 hr1 (fun y hy => ?_)
    rcases List.mem_append.1 hy with h | h
    · exact hout y h
    · rw [List.mem_singleton.1 h]; exact ⟨hr0, hr1⟩
theorem run_same (a b : List Int) (hl : b.length = a.length) (hs : a.length ≤ 1048576) (ws : List Int) (hw : ws.length ≤ 1048576) (x : Int) (h0 : 0 ≤ x) (h1 : x ≤ a.length) :
    ∃ l, spec_l18Run.F [(⟨a, b⟩ : S28)] x ws = some l ∧ impl_runReefs.F a b x ws = some l ∧ l.length = ws.length ∧ ∀ y ∈ l, 0 ≤ y ∧ y ≤ (a.length : Int) := by
  rw [spec_l18Run.F_eq, impl_runReefs.F_eq, if_pos (by simp)]
  exact run_loop a b hl hs ws hw ws.length 0 x [] (by omega) (by omega) rfl h0 h1 (by simp)
theorem mx_abs (x y : Int) (h1 : -1000000 ≤ x) (h2 : x ≤ 1000000) (h3 : -1000000 ≤ y) (h4 : y ≤ 1000000) : mx (wrap64 (x - y)) (wrap64 (y - x)) = if wrap64 (x - y) < 0 then wrap64 (-(wrap64 (x - y))) else wrap64 (x - y) := by
  rw [w64 (n := x - y) (by omega) (by omega), w64 (n := y - x) (by omega) (by omega), w64 (n := -(x - y)) (by omega) (by omega)]
  unfold mx
  split <;> split <;> omega
theorem count_loop (l : List Int) (n : Int) (hn : n ≤ 1000000) (hl : l.length ≤ 1048576) (hy : ∀ y ∈ l, 0 ≤ y ∧ y ≤ n) (d : Nat) : ∀ (i x s : Int), 0 ≤ i → i + d = l.length → 0 ≤ x → x ≤ n → 0 ≤ s → s ≤ n * i → ∃ r, spec_l18Changes.L0 x l s i = some r ∧ impl_countChanges.L0 x s l (l.length : Int) i = some r ∧ 0 ≤ r ∧ r ≤ n * l.length := by
  induction d with
  | zero =>
    intro i x s h0 hd hx0 hx1 hs0 hs1
    have hi : ¬ i < (l.length : Int) := by omega
    rw [spec_l18Changes.L0_eq, impl_countChanges.L0_eq, if_neg hi, if_neg hi]
    refine ⟨s, rfl, rfl, hs0, ?_⟩
    rw [show (l.length : Int) = i by omega]; exact hs1
  | succ d ih =>
    intro i x s h0 hd hx0 hx1 hs0 hs1
    have hi : i < (l.length : Int) := by omega
    obtain ⟨j, rfl⟩ : ∃ j : Nat, i = j := ⟨i.toNat, by omega⟩
    have hj : j < l.length := by omega
    have hyj := hy l[j] (List.getElem_mem hj)
    have hsb : n * (j : Int) ≤ 1000000 * 1048576 := Int.mul_le_mul hn (by omega) (by omega) (by omega)
    rw [spec_l18Changes.L0_eq, impl_countChanges.L0_eq, if_pos hi, if_pos hi, if_pos h0, if_pos h0, if_pos hi, rd_get l j hj, mx_abs l[j] x (by omega) (by omega) (by omega) (by omega)]
    unfold spec_l00Size.f
    have e : (if wrap64 (l[j] - x) < 0 then some (wrap64 (-(wrap64 (l[j] - x)))) else some (wrap64 (l[j] - x))) = some (if wrap64 (l[j] - x) < 0 then wrap64 (-(wrap64 (l[j] - x))) else wrap64 (l[j] - x)) := by split <;> rfl
    rw [e]
    simp only [Option.bind_some]
    have hd2 : 0 ≤ (if wrap64 (l[j] - x) < 0 then wrap64 (-(wrap64 (l[j] - x))) else wrap64 (l[j] - x)) ∧ (if wrap64 (l[j] - x) < 0 then wrap64 (-(wrap64 (l[j] - x))) else wrap64 (l[j] - x)) ≤ n := by
      rw [w64 (n := l[j] - x) (by omega) (by omega), w64 (n := -(l[j] - x)) (by omega) (by omega)]
      split <;> omega
    generalize (if wrap64 (l[j] - x) < 0 then wrap64 (-(wrap64 (l[j] - x))) else wrap64 (l[j] - x)) = t at hd2 ⊢
    rw [w64 (n := s + t) (by omega) (by omega), wS (by omega)]
    refine ih _ _ _ (by omega) (by omega) hyj.1 hyj.2 (by omega) ?_
    rw [show ((j + 1 : Nat) : Int) = (j : Int) + 1 by omega, Int.mul_add, Int.mul_one]
    omega
theorem changes_same (a b : List Int) (hl : b.length = a.length) (hs : a.length ≤ 1000000) (ws : List Int) (hw : ws.length ≤ 1048576) (x : Int) (h0 : 0 ≤ x) (h1 : x ≤ a.length) :
    ∃ r, spec_l18Changes.F [(⟨a, b⟩ : S28)] x ws = some r ∧ impl_countChanges.F a b x ws = some r ∧ 0 ≤ r ∧ r ≤ (a.length : Int) * ws.length := by
  obtain ⟨l, e1, e2, hll, hy⟩ := run_same a b hl (by omega) ws hw x h0 h1
  rw [spec_l18Changes.F_eq, impl_countChanges.F_eq, if_pos (by simp), e1, e2]
  simp only [Option.bind_some]
  obtain ⟨r, e3, e4, h5, h6⟩ := count_loop l (a.length : Int) (by omega) (by omega) hy l.length 0 x 0 (by omega) (by omega) h0 h1 (by omega) (by omega)
  exact ⟨r, e3, e4, h5, by rw [← hll]; exact h6⟩
theorem gaps_loop (l b ws : List Int) (x c : Int) (h1 : refOk l l = true) (hx0 : 0 ≤ x) (hx1 : x ≤ l.length) (hw : windsOk ws = true) (hwl : ws.length ≤ 13) (d : Nat) : ∀ g : Int, 0 ≤ g → g + d = 601 → ∃ r q, impl_LeastGap.L0 l x ws c g = some (r, q) ∧ laws_FnReefGaps.L0 ws x c r q (-1) g l b = some true := by
  have hl := ref_len h1
  have no : laws_FnReefGaps.J1 0 3 (-1) l b = some true := by
    rw [laws_FnReefGaps.J1_eq, if_pos (by decide)]; rfl
  induction d with
  | zero =>
    intro g h0 hd
    have h : ¬ g ≤ 600 := by omega
    rw [impl_LeastGap.L0_eq, if_neg h]
    refine ⟨0, 3, rfl, ?_⟩
    rw [laws_FnReefGaps.L0_eq, if_neg h]
    exact no
  | succ d ih =>
    intro g h0 hd
    have h : g ≤ 600 := by omega
    rcases even_public l g h1 h0 h with ⟨p1, p2, h3⟩ | ⟨p1, p2, hex⟩
    · rcases even_same l g (by omega) (fun y hy => by have := ref_vals h1 y hy; omega) (by omega) (by omega) with ⟨e1, e2, _⟩ | ⟨_, _, y, hy1, hy2⟩
      · obtain ⟨n, e3, e4, _, _⟩ := changes_same l (l.map fun y => y - g) (by rw [List.length_map]) (by omega) ws (by omega) x hx0 hx1
        have hs := ref_shift h1 g h0 h3
        have hcode : reefCode l (l.map fun y => y - g) x ws = 0 := by
          unfold reefCode
          have hb : (inB x 0 (l.length : Int) && windsOk ws) = true := by rw [hw, Bool.and_true, inB_iff]; exact ⟨hx0, hx1⟩
          rw [if_pos hs, if_pos hb]
        have hcc : spec_CountChanges.F l (l.map fun y => y - g) x ws = some (n, 0) := by
          rw [spec_CountChanges.F_eq, spec_l18Code_val _ _ x ws (by omega) (by rw [List.length_map]; omega) (by omega)]
          simp only [Option.bind_some]
          rw [if_pos hcode, e3]
          rfl
        rw [impl_LeastGap.L0_eq, if_pos h, e2]
        simp only [Option.bind_some]
        rw [if_pos trivial, e4]
        simp only [Option.bind_some]
        by_cases hn : n ≤ c
        · rw [if_pos hn]
          refine ⟨g, 0, rfl, ?_⟩
          rw [laws_FnReefGaps.L0_eq, if_pos h, p1]
          simp only [Option.bind_some]
          rw [if_pos trivial, hcc]
          simp only [Option.bind_some]
          have ng : ¬ g < 0 := by omega
          rw [if_pos trivial, if_pos hn, laws_FnReefGaps.J1_eq, if_neg ng, p2]
          simp only [Option.bind_some]
          have hm : ((l.map fun y => y - g).length : Int) = (l.length : Int) := by rw [List.length_map]
          rw [if_pos trivial, if_pos trivial, if_pos trivial, if_pos trivial, if_pos hm, a2Same_val l (by omega)]
          simp only [Option.bind_some]
          rw [if_pos trivial, impl_ValidReefing_val _ _ (by omega) (by rw [List.length_map]; omega), hs]
          rfl
        · rw [if_neg hn, w64 (n := g + 1) (by omega) (by omega)]
          obtain ⟨r, q, i1, i2⟩ := ih (g + 1) (by omega) (by omega)
          refine ⟨r, q, i1, ?_⟩
          rw [laws_FnReefGaps.L0_eq, if_pos h, p1]
          simp only [Option.bind_some]
          rw [if_pos trivial, hcc]
          simp only [Option.bind_some]
          rw [if_pos trivial, if_neg hn, w64 (n := g + 1) (by omega) (by omega)]
          exact i2
      · have := h3 y hy1
        omega
    · have e5 := gap_over l x ws c (by omega) (ref_vals h1) (d + 1) g h0 hd hex
      refine ⟨0, 3, e5, ?_⟩
      rw [laws_FnReefGaps.L0_eq, if_pos h, p1]
      simp only [Option.bind_some]
      rw [if_neg (by decide)]
      exact no
theorem pure_FnReefGaps : laws_FnReefGaps.Pure := by
  intro code more h1 h2
  refine of_lim (g := fun k => laws_FnReefGaps.f k code more) ?_
  show laws_FnReefGaps.F code more = some true
  rw [laws_FnReefGaps.F_eq]
  unfold laws_a2Long.f
  by_cases hb : (code.length : Int) > 3000
  · rw [if_pos hb]; rfl
  rw [if_neg hb]
  simp only [Option.bind_some]
  by_cases hb2 : (more.length : Int) > 3000
  · rw [decide_eq_true hb2, if_pos rfl]
  rw [decide_eq_false hb2, if_neg nf]
  have s1 := src_bytes h1 (by omega)
  have s2 := src_bytes h2 (by omega)
  obtain ⟨p, q, e1, hr⟩ := A2Reefing_val s1
  obtain ⟨ws, e2, hw, hwl⟩ := A2Blows_val s2
  have hl := ref_len hr
  have hpp : refOk p p = true := by
    rw [ref_self, Bool.and_eq_true, decide_eq_true_iff, rises_iff]
    rw [refOk_iff] at hr
    exact ⟨hr.1, fun i hi => ⟨(hr.2.2 i hi).1, fun h0 => ((hr.2.2 i hi).2.2 h0).1⟩⟩
  obtain ⟨x, e3, hx0, hx1⟩ := a2At_val s2 0 ((p.length : Int) + 1) (by omega)
  obtain ⟨c, e4, hc0, hc1⟩ := a2At_val s2 1 8 (by omega)
  rw [e1]; simp only [Option.bind_some]
  rw [e2]; simp only [Option.bind_some]
  rw [w64 (n := (p.length : Int) + 1) (by omega) (by omega)]
  have e3' : laws_a2At.f more 0 ((p.length : Int) + 1) = some x := e3
  have e4' : laws_a2At.f more 1 8 = some c := e4
  rw [e3']; simp only [Option.bind_some]
  rw [e4']; simp only [Option.bind_some]
  obtain ⟨r, k, e5, e6⟩ := gaps_loop p q ws x c hpp hx0 (by omega) hw hwl 601 0 (by omega) (by omega)
  have hcode : reefCode p p x ws = 0 := by
    unfold reefCode
    have hb : (inB x 0 (p.length : Int) && windsOk ws) = true := by rw [hw, Bool.and_true, inB_iff]; exact ⟨hx0, by omega⟩
    rw [if_pos hpp, if_pos hb]
  have e7 : impl_LeastGap.F p x ws c = some (r, k) := by
    rw [impl_LeastGap.F_eq, impl_reefCode_val p p x ws (by omega) (by omega) (by omega)]
    simp only [Option.bind_some]
    have hin : inB c 0 360 = true := by rw [inB_iff]; omega
    rw [if_pos hcode, impl_within_val]
    simp only [Option.bind_some]
    rw [if_pos hin]
    exact e5
  rw [e7]
  exact e6
end Go.Proofs.Ytbhijlhlopljmaa.PFnReefGaps
namespace Go.Proofs.Ytbhijlhlopljmaa.Pure
theorem FnReefGaps : PFnReefGaps.laws_FnReefGaps.Pure := PFnReefGaps.pure_FnReefGaps
end Go.Proofs.Ytbhijlhlopljmaa.Pure
