/-
  The pure side of FnReefRuns: each wind's reefs are neither too many nor too few to stay, changes and surplus are the run's, and a reefing's text form is read back. No conditions.
-/
import Derived.Test.YtdlckliobloodaaDoorQFnReefRuns
set_option linter.unusedVariables false
set_option linter.unusedSimpArgs false
set_option linter.unnecessarySimpa false
namespace Go.Proofs.YtdlckliobloodaaDoor.PFnReefRuns
open Go.RowKit Go.Proofs.YtdlckliobloodaaDoor.Kit Go.Proofs.YtdlckliobloodaaDoorW.PrintWords Go.Proofs.YtdlckliobloodaaDoorW.PrintLast Go.Proofs.YtdlckliobloodaaDoorW.PrintMore

def inB (n a b : Int) : Bool := decide (a ≤ n) && decide (n ≤ b)
theorem inB_iff (n a b : Int) : inB n a b = true ↔ a ≤ n ∧ n ≤ b := by simp [inB]
theorem inB_no (n a b : Int) : inB n a b = false ↔ ¬ (a ≤ n ∧ n ≤ b) := by rw [← inB_iff]; simp
/-- At a place: within bounds, and more than the number before it. -/
def riseAt (l : List Int) (a b : Int) (i : Nat) : Bool := inB (rd l (i : Int)) a b && (decide (i = 0) || decide (rd l ((i : Int) - 1) < rd l (i : Int)))
theorem riseAt_def (l : List Int) (a b : Int) (i : Nat) : riseAt l a b i = (inB (rd l (i : Int)) a b && (decide (i = 0) || decide (rd l ((i : Int) - 1) < rd l (i : Int)))) := rfl
def rises (l : List Int) (a b : Int) : Bool := (List.range l.length).all (riseAt l a b)
theorem rises_iff (l : List Int) (a b : Int) : rises l a b = true ↔ ∀ i : Nat, i < l.length → (a ≤ rd l i ∧ rd l i ≤ b) ∧ (0 < i → rd l ((i : Int) - 1) < rd l i) := by
  unfold rises
  rw [List.all_eq_true]
  constructor
  · intro h i hi
    have := h i (List.mem_range.2 hi)
    rw [riseAt_def, Bool.and_eq_true, inB_iff, Bool.or_eq_true] at this
    refine ⟨this.1, fun h0 => ?_⟩
    rcases this.2 with h2 | h2
    · exact absurd (of_decide_eq_true h2) (by omega)
    · exact of_decide_eq_true h2
  · intro h i hi
    have := h i (List.mem_range.1 hi)
    rw [riseAt_def, Bool.and_eq_true, inB_iff, Bool.or_eq_true]
    refine ⟨this.1, ?_⟩
    by_cases h0 : i = 0
    · left; simp [h0]
    · right; exact decide_eq_true (this.2 (by omega))
/-- A valid reefing. -/
def refAt (a b : List Int) (i : Nat) : Bool := inB (rd a (i : Int)) 1 600 && (inB (rd b (i : Int)) 0 (rd a (i : Int)) && (decide (i = 0) || (decide (rd a ((i : Int) - 1) < rd a (i : Int)) && decide (rd b ((i : Int) - 1) < rd b (i : Int)))))
theorem refAt_def (a b : List Int) (i : Nat) : refAt a b i = (inB (rd a (i : Int)) 1 600 && (inB (rd b (i : Int)) 0 (rd a (i : Int)) && (decide (i = 0) || (decide (rd a ((i : Int) - 1) < rd a (i : Int)) && decide (rd b ((i : Int) - 1) < rd b (i : Int)))))) := rfl
def refOk (a b : List Int) : Bool := decide (a.length ≤ 6) && (decide (b.length = a.length) && (List.range a.length).all (refAt a b))
theorem refOk_iff (a b : List Int) : refOk a b = true ↔ a.length ≤ 6 ∧ b.length = a.length ∧ ∀ i : Nat, i < a.length → (1 ≤ rd a i ∧ rd a i ≤ 600) ∧ (0 ≤ rd b i ∧ rd b i ≤ rd a i) ∧ (0 < i → rd a ((i : Int) - 1) < rd a i ∧ rd b ((i : Int) - 1) < rd b i) := by
  unfold refOk
  rw [Bool.and_eq_true, Bool.and_eq_true, decide_eq_true_iff, decide_eq_true_iff, List.all_eq_true]
  refine and_congr Iff.rfl (and_congr Iff.rfl ⟨fun h i hi => ?_, fun h i hi => ?_⟩)
  · have := h i (List.mem_range.2 hi)
    rw [refAt_def, Bool.and_eq_true, inB_iff, Bool.and_eq_true, inB_iff, Bool.or_eq_true] at this
    refine ⟨this.1, this.2.1, fun h0 => ?_⟩
    rcases this.2.2 with h2 | h2
    · exact absurd (of_decide_eq_true h2) (by omega)
    · simpa using h2
  · have := h i (List.mem_range.1 hi)
    rw [refAt_def, Bool.and_eq_true, inB_iff, Bool.and_eq_true, inB_iff, Bool.or_eq_true]
    refine ⟨this.1, this.2.1, ?_⟩
    by_cases h0 : i = 0
    · left; simp [h0]
    · right; simpa using this.2.2 (by omega)
theorem ref_len {a b : List Int} (h : refOk a b = true) : a.length ≤ 6 ∧ b.length = a.length := by
  rw [refOk_iff] at h
  exact ⟨h.1, h.2.1⟩
theorem rd_app (a : List Int) (x : Int) (i : Nat) (h : i < a.length) : rd (a ++ [x]) (i : Int) = rd a (i : Int) := by
  rw [rd_get _ i (by rw [List.length_append]; omega), rd_get a i h, List.getElem_append_left h]
theorem rd_last (a : List Int) (x : Int) : rd (a ++ [x]) (a.length : Int) = x := by
  rw [rd_get _ _ (by rw [List.length_append]; simp), List.getElem_append_right (Nat.le_refl _)]
  simp
theorem ref_nil : refOk [] [] = true := rfl
theorem ref_snoc {a b : List Int} (h : refOk a b = true) (x z : Int) (hl : a.length ≤ 5) (hx : ∀ y ∈ a, y < x) (hz : ∀ y ∈ b, y < z) (h1 : 1 ≤ x) (h2 : x ≤ 600) (h3 : 0 ≤ z) (h4 : z ≤ x) : refOk (a ++ [x]) (b ++ [z]) = true := by
  rw [refOk_iff] at h ⊢
  obtain ⟨_, hb, h5⟩ := h
  refine ⟨by rw [List.length_append]; simp; omega, by rw [List.length_append, List.length_append, hb]; simp, fun i hi => ?_⟩
  rw [List.length_append, List.length_singleton] at hi
  by_cases hlt : i < a.length
  · rw [rd_app a x i hlt, rd_app b z i (by omega)]
    refine ⟨(h5 i hlt).1, (h5 i hlt).2.1, fun h0 => ?_⟩
    obtain ⟨j, rfl⟩ : ∃ j, i = j + 1 := ⟨i - 1, by omega⟩
    have e : ((j + 1 : Nat) : Int) - 1 = (j : Int) := by omega
    have h6 := (h5 (j + 1) hlt).2.2 h0
    rw [e] at h6 ⊢
    rw [rd_app a x j (by omega), rd_app b z j (by omega)]
    exact h6
  · have hi2 : i = a.length := by omega
    subst hi2
    have e2 : rd (b ++ [z]) (a.length : Int) = z := by rw [← hb]; exact rd_last b z
    rw [rd_last a x, e2]
    refine ⟨⟨h1, h2⟩, ⟨h3, h4⟩, fun h0 => ?_⟩
    obtain ⟨j, hj⟩ : ∃ j, a.length = j + 1 := ⟨a.length - 1, by omega⟩
    have e : (a.length : Int) - 1 = (j : Int) := by omega
    rw [e, rd_app a x j (by omega), rd_app b z j (by omega), rd_get a j (by omega), rd_get b j (by omega)]
    exact ⟨hx _ (List.getElem_mem _), hz _ (List.getElem_mem _)⟩
/-- The bytes that a source reads. -/
def Src (c : List Int) : Prop := c.length ≤ 1048576 ∧ ∀ y ∈ c, 0 ≤ y ∧ y ≤ 255
theorem and255 (x : Int) : 0 ≤ Go.bits .and .u64 x 255 ∧ Go.bits .and .u64 x 255 ≤ 255 := by
  have h : (BitVec.ofInt 64 x &&& BitVec.ofInt 64 255).toNat ≤ 255 := by
    rw [BitVec.toNat_and]
    exact Nat.le_trans Nat.and_le_right (by decide)
  have e : Go.bits .and .u64 x 255 = IntKind.u64.wrap ((BitVec.ofInt 64 x &&& BitVec.ofInt 64 255).toNat : Int) := rfl
  rw [e, IntKind.wrap_u64]
  omega
theorem next_val {c : List Int} (hc : Src c) (at_ seed : Int) (h0 : 0 ≤ at_) (h1 : at_ ≤ 4000000000000000000) : ∃ x sd, spec_l00Src_next.f c at_ seed = some (x, at_ + 1, sd) ∧ 0 ≤ x ∧ x ≤ 255 := by
  unfold spec_l00Src_next.f
  by_cases hb : at_ < (c.length : Int)
  · obtain ⟨j, rfl⟩ : ∃ j : Nat, at_ = j := ⟨at_.toNat, by omega⟩
    have hj : j < c.length := by omega
    have hy := hc.2 c[j] (List.getElem_mem hj)
    have hle : wrap64 ((j : Int) + 1) ≤ (c.length : Int) := by rw [w64 (by omega) (by omega)]; omega
    rw [if_pos hb, if_pos h0, if_pos hle, rd_get c j hj, w64 (n := (j : Int) + 1) (by omega) (by omega), w64 (n := c[j]) (by omega) (by omega)]
    exact ⟨_, _, rfl, hy.1, hy.2⟩
  · have hle : ¬ wrap64 (at_ + 1) ≤ (c.length : Int) := by rw [w64 (by omega) (by omega)]; omega
    rw [if_neg hb, if_neg hle, w64 (n := at_ + 1) (by omega) (by omega)]
    refine ⟨_, _, rfl, ?_⟩
    have h := and255 ((IntKind.u64.wrap ((IntKind.u64.wrap ((IntKind.u64.wrap (seed * 6364136223846793005)) + 0)) + 1442695040888963407)) / 1099511627776)
    rw [w64 (by omega) (by omega)]
    exact h
theorem pick_val {c : List Int} (hc : Src c) (at_ seed n : Int) (h0 : 0 ≤ at_) (h1 : at_ ≤ 1000000000000000000) : ∃ x a sd, spec_l00Src_pick.f c at_ seed n = some (x, a, sd) ∧ at_ ≤ a ∧ a ≤ at_ + 2 ∧ 0 ≤ x ∧ (1 ≤ n → x < n) ∧ (n ≤ 1 → x = 0) := by
  unfold spec_l00Src_pick.f
  by_cases hn : n ≤ 1
  · rw [if_pos hn]
    exact ⟨0, at_, seed, rfl, by omega, by omega, by omega, by omega, by omega⟩
  · obtain ⟨x, sd, e, hx0, hx1⟩ := next_val hc at_ seed h0 (by omega)
    have hn0 : ¬ n = 0 := by omega
    rw [if_neg hn, e]
    simp only [Option.bind_some]
    by_cases hm : n > 200
    · obtain ⟨y, sd2, e2, hy0, hy1⟩ := next_val hc (at_ + 1) sd (by omega) (by omega)
      rw [if_pos hm, e2]
      simp only [Option.bind_some]
      rw [if_neg hn0, w64 (n := x * 256) (by omega) (by omega), w64 (n := x * 256 + y) (by omega) (by omega), Int.tmod_eq_emod_of_nonneg (by omega)]
      exact ⟨_, _, _, rfl, by omega, by omega, Int.emod_nonneg _ hn0, fun _ => Int.emod_lt_of_pos _ (by omega), fun h => absurd h hn⟩
    · rw [if_neg hm, if_neg hn0, Int.tmod_eq_emod_of_nonneg (by omega)]
      exact ⟨_, _, _, rfl, by omega, by omega, Int.emod_nonneg _ hn0, fun _ => Int.emod_lt_of_pos _ (by omega), fun h => absurd h hn⟩
theorem reef_loop {c : List Int} (hc : Src c) (d : Nat) : ∀ (k x o a s : Int) (p q : List Int), k = d → (p.length : Int) + k ≤ 4 → refOk p q = true → (∀ y ∈ p, y < x) → (∀ y ∈ q, y ≤ o) → 1 ≤ x → x ≤ 319 - 60 * k → 0 ≤ o → o < x → 0 ≤ a → a ≤ 1000 - 4 * k → ∃ p' q' a' s', spec_l18Draw.L0 x o k c a s p q = some (p', q', a', s') ∧ refOk p' q' = true ∧ 0 ≤ a' ∧ a' ≤ 1000 := by
  induction d with
  | zero =>
    intro k x o a s p q hk hl hr hp hq hx0 hx1 ho0 ho1 ha0 ha1
    rw [spec_l18Draw.L0_eq, if_neg (by omega)]
    exact ⟨p, q, a, s, rfl, hr, ha0, by omega⟩
  | succ d ih =>
    intro k x o a s p q hk hl hr hp hq hx0 hx1 ho0 ho1 ha0 ha1
    have hlq := (ref_len hr).2
    have h1 : k > 0 := by omega
    have h2 : p.length < 17592186044416 := by omega
    have h3 : q.length < 17592186044416 := by omega
    obtain ⟨y, a1, s1, e1, b1, b2, b3, b4, b5⟩ := pick_val hc a s (x - o) ha0 (by omega)
    have b6 := b4 (by omega)
    rw [spec_l18Draw.L0_eq, if_pos h1, if_pos h2, w64 (n := x - o) (by omega) (by omega), e1]; simp only [Option.bind_some]
    rw [w64 (n := o + 1) (by omega) (by omega), w64 (n := o + 1 + y) (by omega) (by omega)]
    obtain ⟨z, e2, g1, g2⟩ : ∃ z, spec_l00Min.f x (o + 1 + y) = some z ∧ o + 1 ≤ z ∧ z ≤ x := by
      unfold spec_l00Min.f
      by_cases h : x < o + 1 + y
      · rw [if_pos h]; exact ⟨x, rfl, by omega, by omega⟩
      · rw [if_neg h]; exact ⟨o + 1 + y, rfl, by omega, by omega⟩
    rw [e2]; simp only [Option.bind_some]
    obtain ⟨w, a2, s2, e3, b7, b8, b9, b10, _⟩ := pick_val hc a1 s1 60 (by omega) (by omega)
    have b11 := b10 (by omega)
    rw [if_pos h3, e3]; simp only [Option.bind_some]
    rw [w64 (n := 1 + w) (by omega) (by omega), w64 (n := x + (1 + w)) (by omega) (by omega), w64 (n := k - 1) (by omega) (by omega)]
    refine ih (k - 1) (x + (1 + w)) z a2 s2 (p ++ [x]) (q ++ [z]) (by omega) (by rw [List.length_append]; simp; omega) (ref_snoc hr x z (by omega) hp (fun y hy => by have := hq y hy; omega) hx0 (by omega) (by omega) g2) ?_ ?_ (by omega) (by omega) (by omega) (by omega) (by omega) (by omega)
    · intro y hy
      rcases List.mem_append.1 hy with h | h
      · have := hp y h; omega
      · rw [List.mem_singleton.1 h]; omega
    · intro y hy
      rcases List.mem_append.1 hy with h | h
      · have := hq y h; omega
      · rw [List.mem_singleton.1 h]; omega
theorem drawReef_val {c : List Int} (hc : Src c) (a s : Int) (ha0 : 0 ≤ a) (ha1 : a ≤ 500) : ∃ p q a' s', spec_l18Draw.F c a s = some (p, q, a', s') ∧ refOk p q = true ∧ 0 ≤ a' ∧ a' ≤ 1000 := by
  rw [spec_l18Draw.F_eq]
  obtain ⟨x, a1, s1, e1, b1, b2, b3, b4, _⟩ := pick_val hc a s 60 ha0 (by omega)
  have b5 := b4 (by omega)
  rw [e1]; simp only [Option.bind_some]
  obtain ⟨o, a2, s2, e2, c1, c2, c3, c4, _⟩ := pick_val hc a1 s1 20 (by omega) (by omega)
  have c5 := c4 (by omega)
  rw [e2]; simp only [Option.bind_some]
  obtain ⟨k, a3, s3, e3, d1, d2, d3, d4, _⟩ := pick_val hc a2 s2 5 (by omega) (by omega)
  have d5 := d4 (by omega)
  rw [e3]; simp only [Option.bind_some]
  rw [w64 (n := 20 + x) (by omega) (by omega)]
  exact reef_loop hc k.toNat k (20 + x) o a3 s3 [] [] (by omega) (by show (0 : Int) + k ≤ 4; omega) ref_nil (by simp) (by simp) (by omega) (by omega) (by omega) (by omega) (by omega) (by omega)
theorem A2Reefing_val {c : List Int} (hc : Src c) : ∃ p q, spec_A2Reefing.F c = some (p, q) ∧ refOk p q = true := by
  rw [spec_A2Reefing.F_eq]
  unfold spec_l00From.f
  simp only [Option.bind_some]
  obtain ⟨p, q, a, s, e, h, _⟩ := drawReef_val hc 0 0 (by omega) (by omega)
  rw [e]
  exact ⟨p, q, rfl, h⟩
/-- Winds as told. -/
def windsOk (l : List Int) : Bool := l.all (fun n => inB n 0 600) && decide (l.length ≤ 60)
theorem blows_loop {c : List Int} (hc : Src c) (d : Nat) : ∀ (k x a s : Int) (out : List Int), k = d → (out.length : Int) + k ≤ 13 → (∀ y ∈ out, inB y 0 600 = true) → 0 ≤ x → x ≤ 600 → 0 ≤ a → a ≤ 1000 - 4 * k → ∃ ws, spec_A2Blows.L0 out x k c a s = some ws ∧ windsOk ws = true ∧ ws.length ≤ 13 := by
  induction d with
  | zero =>
    intro k x a s out hk hl hy hx0 hx1 ha0 ha1
    rw [spec_A2Blows.L0_eq, if_neg (by omega)]
    refine ⟨out, rfl, ?_, by omega⟩
    unfold windsOk
    rw [decide_eq_true (by omega), Bool.and_true, List.all_eq_true]
    exact hy
  | succ d ih =>
    intro k x a s out hk hl hy hx0 hx1 ha0 ha1
    have h1 : k > 0 := by omega
    have h2 : out.length < 17592186044416 := by omega
    obtain ⟨y, a1, s1, e1, b1, b2, b3, b4, _⟩ := pick_val hc a s 81 ha0 (by omega)
    have b5 := b4 (by omega)
    rw [spec_A2Blows.L0_eq, if_pos h1, e1]; simp only [Option.bind_some]
    rw [w64 (n := x + y) (by omega) (by omega), w64 (n := x + y - 40) (by omega) (by omega)]
    obtain ⟨z, e2, g1⟩ : ∃ z, spec_l00Max.f 0 (x + y - 40) = some z ∧ 0 ≤ z := by
      unfold spec_l00Max.f
      by_cases h : (0 : Int) > x + y - 40
      · rw [if_pos h]; exact ⟨0, rfl, by omega⟩
      · rw [if_neg h]; exact ⟨_, rfl, by omega⟩
    rw [e2]; simp only [Option.bind_some]
    obtain ⟨v, e3, g2, g3⟩ : ∃ v, spec_l00Min.f 600 z = some v ∧ 0 ≤ v ∧ v ≤ 600 := by
      unfold spec_l00Min.f
      by_cases h : (600 : Int) < z
      · rw [if_pos h]; exact ⟨600, rfl, by omega, by omega⟩
      · rw [if_neg h]; exact ⟨z, rfl, by omega, by omega⟩
    rw [e3]; simp only [Option.bind_some]
    rw [if_pos h2, w64 (n := k - 1) (by omega) (by omega)]
    refine ih (k - 1) v a1 s1 (out ++ [v]) (by omega) (by rw [List.length_append]; simp; omega) (fun y hy2 => ?_) g2 g3 (by omega) (by omega)
    rcases List.mem_append.1 hy2 with h | h
    · exact hy y h
    · rw [List.mem_singleton.1 h, inB_iff]; exact ⟨g2, g3⟩
theorem A2Blows_val {c : List Int} (hc : Src c) : ∃ ws, spec_A2Blows.F c = some ws ∧ windsOk ws = true ∧ ws.length ≤ 13 := by
  rw [spec_A2Blows.F_eq]
  unfold spec_l00From.f
  simp only [Option.bind_some]
  obtain ⟨x, a1, s1, e1, b1, b2, b3, b4, _⟩ := pick_val hc 0 0 150 (by omega) (by omega)
  have b5 := b4 (by omega)
  rw [e1]; simp only [Option.bind_some]
  obtain ⟨k, a2, s2, e2, c1, c2, c3, c4, _⟩ := pick_val hc a1 s1 14 (by omega) (by omega)
  have c5 := c4 (by omega)
  rw [e2]; simp only [Option.bind_some]
  exact blows_loop hc k.toNat k x a2 s2 [] (by omega) (by show (0 : Int) + k ≤ 13; omega) (by simp) (by omega) (by omega) (by omega) (by omega)
theorem a2At_val {c : List Int} (hc : Src c) (i : Nat) (n : Int) (hn : 1 ≤ n) : ∃ r, laws_a2At.f c (i : Int) n = some r ∧ 0 ≤ r ∧ r < n := by
  unfold laws_a2At.f
  by_cases h : (i : Int) ≥ (c.length : Int)
  · rw [if_pos h]; exact ⟨0, rfl, by omega, by omega⟩
  · have hi : i < c.length := by omega
    have hy := hc.2 c[i] (List.getElem_mem hi)
    have h1 : ¬ n < 1 := by omega
    have h2 : (0 : Int) ≤ (i : Int) := by omega
    have h3 : (i : Int) < (c.length : Int) := by omega
    have h4 : ¬ n = 0 := by omega
    rw [if_neg h, if_neg h1, if_pos h2, if_pos h3, if_neg h4, rd_get c i hi, w64 (by omega) (by omega), Int.tmod_eq_emod_of_nonneg hy.1]
    exact ⟨_, rfl, Int.emod_nonneg _ h4, Int.emod_lt_of_pos _ (by omega)⟩
theorem a2Same_val (l : List Int) (hl : l.length ≤ 1048576) : laws_a2Same.F l l = some true := by
  rw [laws_a2Same.F_eq, if_pos rfl]
  have h := allLoop l (fun _ => true) (fun i => laws_a2Same.L0 l l i) true (fun i hi => by
    show laws_a2Same.L0 l l i = _
    rw [laws_a2Same.L0_eq, if_pos (by omega), if_pos (by omega), if_pos (by omega), if_pos rfl, wS (by omega)]
    rfl) (by
    show laws_a2Same.L0 l l _ = _
    rw [laws_a2Same.L0_eq, if_neg (by omega)])
  refine h.trans ?_
  rw [Bool.and_true, List.all_eq_true.2 (fun _ _ => rfl)]
theorem src_bytes {c : List Int} (h : c.length ≤ 9223372036854775807 ∧ ∀ y0 ∈ c, (Lit.int .u8 y0).wf = true) (hl : c.length ≤ 1048576) : Src c := ⟨hl, fun y hy => by
  have h1 := h.2 y hy
  have h2 : IntKind.u8.min ≤ y ∧ y ≤ IntKind.u8.max := by simpa [Lit.wf] using h1
  exact h2⟩
/-- The code of a reefing, a number of reefs and winds. -/
def reefCode (a b : List Int) (x : Int) (ws : List Int) : Int := if refOk a b = true then (if (inB x 0 (a.length : Int) && windsOk ws) = true then 0 else 2) else 1
theorem reefCode_ok {a b : List Int} {x : Int} {ws : List Int} (h : reefCode a b x ws = 0) : refOk a b = true ∧ inB x 0 (a.length : Int) = true ∧ windsOk ws = true := by
  unfold reefCode at h
  by_cases h1 : refOk a b = true
  · rw [if_pos h1] at h
    by_cases h2 : (inB x 0 (a.length : Int) && windsOk ws) = true
    · rw [Bool.and_eq_true] at h2; exact ⟨h1, h2⟩
    · rw [if_neg h2] at h; omega
  · rw [if_neg h1] at h; omega
theorem impl_within_val (n a b : Int) : impl_within.f n a b = some (inB n a b) := by
  unfold impl_within.f inB
  by_cases h : n ≥ a
  · rw [if_pos h]; simp [show a ≤ n from h]
  · rw [if_neg h]; simp; omega
theorem impl_ValidReefing_val (a b : List Int) (ha : a.length < 4611686018427387904) (hb : b.length < 4611686018427387904) : impl_ValidReefing.F a b = some (refOk a b) := by
  rw [impl_ValidReefing.F_eq]
  by_cases h2 : (a.length : Int) > 6
  · rw [if_pos h2, impl_ValidReefing.J0_eq, if_pos rfl]
    congr 1; unfold refOk; rw [decide_eq_false (by omega)]; rfl
  · rw [if_neg h2, impl_ValidReefing.J0_eq]
    by_cases h1 : b.length = a.length
    · rw [if_neg (by simp [h1])]
      refine (allRange a.length (refAt a b) (fun i => impl_ValidReefing.L0 a (a.length : Int) i a b) true (fun i hi => ?_) ?_).trans ?_
      · show impl_ValidReefing.L0 _ _ i _ _ = _
        rw [impl_ValidReefing.L0_eq, if_pos (by omega), if_pos (by omega), if_pos (by omega), impl_within_val, wS (by omega)]
        simp only [Option.bind_some]
        rw [refAt_def, ite_band, ite_band]
        by_cases h3 : inB (rd a (i : Int)) 1 600 = true
        · rw [if_pos h3, if_pos h3, if_pos (by omega), impl_within_val]
          simp only [Option.bind_some]
          by_cases h4 : inB (rd b (i : Int)) 0 (rd a (i : Int)) = true
          · rw [if_pos h4, if_pos h4]
            by_cases h0 : i = 0
            · rw [if_neg (by omega), if_pos (by simp [h0])]
            · rw [if_pos (by omega), w64 (by omega) (by omega), if_pos (by omega), if_pos (by omega)]
              by_cases h5 : rd a (i : Int) ≤ rd a ((i : Int) - 1)
              · rw [if_pos h5, if_neg (by simp [h0]; omega)]
              · rw [if_neg h5, if_pos (by omega)]
                by_cases h6 : rd b (i : Int) ≤ rd b ((i : Int) - 1)
                · rw [if_pos h6, if_neg (by simp [h0]; omega)]
                · rw [if_neg h6, if_pos (by simp [h0]; omega)]
          · rw [if_neg h4, if_neg h4]
        · rw [if_neg h3, if_neg h3]
      · show impl_ValidReefing.L0 _ _ _ _ _ = _
        rw [impl_ValidReefing.L0_eq, if_neg (by omega)]
      · unfold refOk
        rw [decide_eq_true (show a.length ≤ 6 by omega), decide_eq_true h1]
        simp
    · rw [if_pos (by simp; omega)]
      congr 1; unfold refOk; rw [decide_eq_false (p := b.length = a.length) h1]; simp
theorem impl_areIn_val (l : List Int) (n a b : Int) (hl : l.length < 4611686018427387904) : impl_areIn.F l n a b = some (decide ((l.length : Int) = n) && l.all (fun x => inB x a b)) := by
  rw [impl_areIn.F_eq]
  by_cases h : (l.length : Int) = n
  · rw [if_pos h, decide_eq_true h]
    refine (allLoop l (fun x => inB x a b) (fun i => impl_areIn.L0 a b l (l.length : Int) i) true (fun i hi => ?_) ?_).trans (by simp)
    · show impl_areIn.L0 a b l _ i = _
      rw [impl_areIn.L0_eq, if_pos (by omega), if_pos (by omega), if_pos (by omega), rd_get l i hi, wS (by omega), impl_within_val]
      rfl
    · show impl_areIn.L0 a b l _ _ = _
      rw [impl_areIn.L0_eq, if_neg (by omega)]
  · rw [if_neg h, decide_eq_false h]; rfl
theorem impl_reefCode_val (a b : List Int) (x : Int) (ws : List Int) (ha : a.length < 4611686018427387904) (hb : b.length < 4611686018427387904) (hw : ws.length < 4611686018427387904) : impl_reefCode.F a b x ws = some (reefCode a b x ws) := by
  rw [impl_reefCode.F_eq, impl_ValidReefing_val a b ha hb]
  simp only [Option.bind_some]
  unfold reefCode
  by_cases h1 : refOk a b = true
  · rw [if_pos h1, if_pos h1, impl_within_val]
    simp only [Option.bind_some]
    rw [ite_band]
    by_cases h2 : inB x 0 (a.length : Int) = true
    · rw [if_pos h2, if_pos h2]
      by_cases h3 : (ws.length : Int) > 60
      · rw [if_pos h3, if_neg (by unfold windsOk; simp; omega)]
      · rw [if_neg h3, impl_areIn_val ws _ 0 600 hw, decide_eq_true rfl]
        simp only [Option.bind_some]
        have e : windsOk ws = (true && ws.all fun x => inB x 0 600) := by unfold windsOk; rw [decide_eq_true (by omega)]; simp
        rw [e]
        split <;> rfl
    · rw [if_neg h2, if_neg h2]
  · rw [if_neg h1, if_neg h1]
/-- In Go's own words: the reefs behind a wind. -/
def Up (a : List Int) (w x : Int) : Prop := ∀ i : Nat, x ≤ (i : Int) → i < a.length → w < rd a (i : Int)
theorem ref_mono {a b : List Int} (h : refOk a b = true) (i d : Nat) (hi : i + d < a.length) : rd a (i : Int) ≤ rd a ((i + d : Nat) : Int) := by
  induction d with
  | zero => exact Int.le_refl _
  | succ d ih =>
    have h1 := ih (by omega)
    have h2 := (((refOk_iff a b).1 h).2.2 (i + d + 1) (by omega)).2.2 (by omega)
    rw [show ((i + d + 1 : Nat) : Int) - 1 = ((i + d : Nat) : Int) by omega] at h2
    rw [show i + (d + 1) = i + d + 1 by omega]
    omega
theorem plain_down {a b : List Int} (h : refOk a b = true) (w : Int) (d : Nat) : ∀ x : Int, 0 ≤ x → x ≤ a.length → x = d → Up a w x → ∃ r, impl_nextReef.L1 x w a b = some r ∧ 0 ≤ r ∧ r ≤ a.length ∧ Up a w r ∧ (0 < r → ¬ w < rd b (r - 1)) := by
  obtain ⟨h6, hl⟩ := ref_len h
  induction d with
  | zero =>
    intro x h0 h1 hd hu
    rw [impl_nextReef.L1_eq, if_neg (show ¬ x > 0 by omega)]
    exact ⟨x, rfl, h0, h1, hu, fun q => by omega⟩
  | succ d ih =>
    intro x h0 h1 hd hu
    rw [impl_nextReef.L1_eq, if_pos (show x > 0 by omega), w64 (n := x - 1) (by omega) (by omega), if_pos (show 0 ≤ x - 1 by omega), if_pos (show x - 1 < (b.length : Int) by omega)]
    by_cases q : w < rd b (x - 1)
    · rw [if_pos q]
      refine ih (x - 1) (by omega) (by omega) (by omega) fun i hi1 hi2 => ?_
      by_cases e : (i : Int) = x - 1
      · have := ((refOk_iff a b).1 h).2.2 i hi2
        rw [e] at this ⊢
        omega
      · exact hu i (by omega) hi2
    · rw [if_neg q]
      exact ⟨x, rfl, h0, h1, hu, fun _ => q⟩
theorem plain_up {a b : List Int} (h : refOk a b = true) (w : Int) (d : Nat) : ∀ x : Int, 0 ≤ x → x + d = a.length → ∃ r, impl_nextReef.L0 x w a b = some r ∧ 0 ≤ r ∧ r ≤ a.length ∧ Up a w r ∧ (0 < r → ¬ w < rd b (r - 1)) := by
  obtain ⟨h6, hl⟩ := ref_len h
  induction d with
  | zero =>
    intro x h0 h1
    rw [impl_nextReef.L0_eq, if_neg (show ¬ x < (a.length : Int) by omega), impl_nextReef.J1_eq]
    exact plain_down h w x.toNat x h0 (by omega) (by omega) (fun i hi1 hi2 => by omega)
  | succ d ih =>
    intro x h0 h1
    rw [impl_nextReef.L0_eq, if_pos (show x < (a.length : Int) by omega), if_pos h0]
    by_cases q : w ≥ rd a x
    · rw [if_pos q, w64 (n := x + 1) (by omega) (by omega)]
      exact ih (x + 1) (by omega) (by omega)
    · rw [if_neg q, impl_nextReef.J1_eq]
      refine plain_down h w x.toNat x h0 (by omega) (by omega) fun i hi1 hi2 => ?_
      have := ref_mono h x.toNat (i - x.toNat) (by omega)
      rw [show ((x.toNat : Nat) : Int) = x by omega, show x.toNat + (i - x.toNat) = i by omega] at this
      omega
/-- The reefs after a wind. -/
noncomputable def nextV (a b : List Int) (x w : Int) : Int := (impl_nextReef.F a b x w).getD 0
theorem nextV_all {a b : List Int} (h : refOk a b = true) (x w : Int) (h0 : 0 ≤ x) (h1 : x ≤ a.length) : impl_nextReef.F a b x w = some (nextV a b x w) ∧ 0 ≤ nextV a b x w ∧ nextV a b x w ≤ a.length ∧ Up a w (nextV a b x w) ∧ (0 < nextV a b x w → ¬ w < rd b (nextV a b x w - 1)) := by
  obtain ⟨r, e, hr⟩ := plain_up h w ((a.length : Int) - x).toNat x h0 (by omega)
  have e2 : impl_nextReef.F a b x w = some r := by rw [impl_nextReef.F_eq]; exact e
  have e3 : nextV a b x w = r := by unfold nextV; rw [e2]; rfl
  rw [e3]
  exact ⟨e2, hr⟩
theorem need_up {a : List Int} (hs : a.length ≤ 1048576) (w r : Int) (h0 : 0 ≤ r) (hu : Up a w r) (d : Nat) : ∀ (i s : Int), 0 ≤ i → i + d = a.length → 0 ≤ s → s ≤ i → s ≤ r → ∃ q, impl_neededReefs.L0 w s a (a.length : Int) i = some q ∧ 0 ≤ q ∧ q ≤ r := by
  induction d with
  | zero =>
    intro i s hi hd hs0 hs1 hs2
    rw [impl_neededReefs.L0_eq, if_neg (show ¬ i < (a.length : Int) by omega)]
    exact ⟨s, rfl, hs0, hs2⟩
  | succ d ih =>
    intro i s hi hd hs0 hs1 hs2
    rw [impl_neededReefs.L0_eq, if_pos (show i < (a.length : Int) by omega), if_pos hi, if_pos (show i < (a.length : Int) by omega), w64 (n := i + 1) (by omega) (by omega)]
    by_cases q : rd a i ≤ w
    · rw [if_pos q, w64 (n := s + 1) (by omega) (by omega)]
      refine ih (i + 1) (s + 1) (by omega) (by omega) (by omega) (by omega) ?_
      refine Int.not_lt.1 fun hlt => ?_
      have := hu i.toNat (by omega) (by omega)
      rw [show ((i.toNat : Nat) : Int) = i by omega] at this
      omega
    · rw [if_neg q]
      exact ih (i + 1) s (by omega) (by omega) (by omega) (by omega) (by omega)
noncomputable def needV (a b : List Int) (w : Int) : Int := (impl_neededReefs.F a b w).getD 0
theorem needV_all {a b : List Int} (h : refOk a b = true) (x w : Int) (h0 : 0 ≤ x) (h1 : x ≤ a.length) : impl_neededReefs.F a b w = some (needV a b w) ∧ needV a b w ≤ nextV a b x w := by
  obtain ⟨_, n1, _, n3, _⟩ := nextV_all h x w h0 h1
  obtain ⟨q, e, q0, q1⟩ := need_up (by have := (ref_len h).1; omega) w (nextV a b x w) n1 n3 a.length 0 0 (by omega) (by omega) (by omega) (by omega) n1
  have e2 : impl_neededReefs.F a b w = some q := by rw [impl_neededReefs.F_eq]; exact e
  have e3 : needV a b w = q := by unfold needV; rw [e2]; rfl
  rw [e3]
  exact ⟨e2, q1⟩
/-- The reefs after i winds; the changes till then; how often there were too many. -/
noncomputable def nowV (a b ws : List Int) (x : Int) : Nat → Int
  | 0 => x
  | i + 1 => nextV a b (nowV a b ws x i) (rd ws (i : Int))
noncomputable def chV (a b ws : List Int) (x : Int) : Nat → Int
  | 0 => 0
  | i + 1 => wrap64 (chV a b ws x i + mx (wrap64 (nowV a b ws x (i + 1) - nowV a b ws x i)) (wrap64 (nowV a b ws x i - nowV a b ws x (i + 1))))
noncomputable def tmV (a b ws : List Int) (x : Int) : Nat → Int
  | 0 => 0
  | i + 1 => if nowV a b ws x (i + 1) > needV a b (rd ws (i : Int)) then wrap64 (tmV a b ws x i + 1) else tmV a b ws x i
noncomputable def runV (a b ws : List Int) (x : Int) (n : Nat) : List Int := (List.range n).map fun i => nowV a b ws x (i + 1)
theorem nowV_bd {a b ws : List Int} (h : refOk a b = true) {x : Int} (h0 : 0 ≤ x) (h1 : x ≤ a.length) (i : Nat) : 0 ≤ nowV a b ws x i ∧ nowV a b ws x i ≤ a.length := by
  induction i with
  | zero => exact ⟨h0, h1⟩
  | succ i ih => have := nextV_all h (nowV a b ws x i) (rd ws (i : Int)) ih.1 ih.2; exact ⟨this.2.1, this.2.2.1⟩
theorem runV_rd (a b ws : List Int) (x : Int) (n i : Nat) (hi : i < n) : rd (runV a b ws x n) (i : Int) = nowV a b ws x (i + 1) := by
  rw [rd_get _ i (by unfold runV; simpa using hi)]
  unfold runV
  simp
theorem run_val {a b ws : List Int} (h : refOk a b = true) {x : Int} (h0 : 0 ≤ x) (h1 : x ≤ a.length) (hw : ws.length ≤ 1048576) : impl_runReefs.F a b x ws = some (runV a b ws x ws.length) := by
  rw [impl_runReefs.F_eq]
  have := iterF (fun (s : Int × List Int) i => impl_runReefs.L0 s.1 s.2 ws (ws.length : Int) i a b) ws.length (fun i => (nowV a b ws x i, runV a b ws x i)) (fun i hi => by
    show impl_runReefs.L0 (nowV a b ws x i) (runV a b ws x i) ws (ws.length : Int) (i : Int) a b = impl_runReefs.L0 (nowV a b ws x (i + 1)) (runV a b ws x (i + 1)) ws (ws.length : Int) ((i + 1 : Nat) : Int) a b
    have hb := nowV_bd (ws := ws) h h0 h1 i
    rw [impl_runReefs.L0_eq, if_pos (by omega), if_pos (by omega), if_pos (by omega), (nextV_all h _ (rd ws (i : Int)) hb.1 hb.2).1]
    simp only [Option.bind_some]
    rw [if_pos (by unfold runV; rw [List.length_map, List.length_range]; omega), wS (by omega)]
    unfold runV
    rw [List.range_succ, List.map_append]
    rfl)
  refine Eq.trans this ?_
  show impl_runReefs.L0 _ _ ws (ws.length : Int) (ws.length : Int) a b = _
  rw [impl_runReefs.L0_eq, if_neg (by omega)]
theorem runV_len (a b ws : List Int) (x : Int) (n : Nat) : (runV a b ws x n).length = n := by unfold runV; simp
theorem count_val {a b ws : List Int} (h : refOk a b = true) {x : Int} (h0 : 0 ≤ x) (h1 : x ≤ a.length) (hw : ws.length ≤ 1048576) : impl_countChanges.F a b x ws = some (chV a b ws x ws.length) := by
  rw [impl_countChanges.F_eq, run_val h h0 h1 hw]
  simp only [Option.bind_some]
  have hL := runV_len a b ws x ws.length
  have := iterF (fun (s : Int × Int) i => impl_countChanges.L0 s.1 s.2 (runV a b ws x ws.length) (ws.length : Int) i) ws.length (fun i => (nowV a b ws x i, chV a b ws x i)) (fun i hi => by
    show impl_countChanges.L0 (nowV a b ws x i) (chV a b ws x i) (runV a b ws x ws.length) (ws.length : Int) (i : Int) = impl_countChanges.L0 (nowV a b ws x (i + 1)) (chV a b ws x (i + 1)) (runV a b ws x ws.length) (ws.length : Int) ((i + 1 : Nat) : Int)
    rw [impl_countChanges.L0_eq, if_pos (by omega), if_pos (by omega), if_pos (by omega), runV_rd _ _ _ _ _ i hi, wS (by omega)]
    rfl)
  rw [hL]
  refine Eq.trans this ?_
  show impl_countChanges.L0 _ _ (runV a b ws x ws.length) (ws.length : Int) (ws.length : Int) = _
  rw [impl_countChanges.L0_eq, if_neg (by omega)]
theorem many_val {a b ws : List Int} (h : refOk a b = true) {x : Int} (h0 : 0 ≤ x) (h1 : x ≤ a.length) (hw : ws.length ≤ 1048576) : impl_TooManyReefs.L0 ws 0 (runV a b ws x ws.length) (ws.length : Int) 0 a b = some (tmV a b ws x ws.length, 0) := by
  have hL := runV_len a b ws x ws.length
  have := iterF (fun (s : Int) i => impl_TooManyReefs.L0 ws s (runV a b ws x ws.length) (ws.length : Int) i a b) ws.length (tmV a b ws x) (fun i hi => by
    show impl_TooManyReefs.L0 ws (tmV a b ws x i) (runV a b ws x ws.length) (ws.length : Int) (i : Int) a b = impl_TooManyReefs.L0 ws (tmV a b ws x (i + 1)) (runV a b ws x ws.length) (ws.length : Int) ((i + 1 : Nat) : Int) a b
    have hb := nowV_bd (ws := ws) h h0 h1 i
    rw [impl_TooManyReefs.L0_eq, tmV, if_pos (by omega), if_pos (by omega), if_pos (by omega), if_pos (by omega), (needV_all h _ (rd ws (i : Int)) hb.1 hb.2).1, runV_rd _ _ _ _ _ i hi, wS (by omega)]
    simp only [Option.bind_some]
    split <;> rfl)
  refine Eq.trans this ?_
  show impl_TooManyReefs.L0 ws _ (runV a b ws x ws.length) (ws.length : Int) (ws.length : Int) a b = _
  rw [impl_TooManyReefs.L0_eq, if_neg (by omega)]
/-- A number's decimal form. -/
def dec (n : Int) : ByteArray := ⟨(Lib.itoa n).toArray⟩
def digN (u : Nat) : List Int := (Lib.decDigits u).map fun b => (b.toNat : Int)
theorem digN_small {u : Nat} (h : u < 10) : digN u = [48 + (u : Int)] := by
  unfold digN
  rw [Lib.decDigits_one h, List.map_cons, List.map_nil]
  congr 1
  rw [UInt8.toNat_ofNat_of_lt' (by show 48 + u < 256; omega)]
  push_cast; rfl
theorem digN_big {u : Nat} (h : ¬ u < 10) : digN u = digN (u / 10) ++ [48 + ((u % 10 : Nat) : Int)] := by
  unfold digN
  rw [Lib.decDigits, dif_neg h, List.map_append, List.map_cons, List.map_nil, UInt8.toNat_ofNat_of_lt' (by show 48 + u % 10 < 256; omega)]
  push_cast; rfl
theorem nD_le (k : Nat) : ∀ u, u < 10 ^ (k + 1) → Lib.nDigits u ≤ k + 1 := by
  induction k with
  | zero => intro u h; rw [Lib.nDigits_small (by omega)]; omega
  | succ k ih =>
    intro u h
    by_cases hu : u < 10
    · rw [Lib.nDigits_small hu]; omega
    · rw [Lib.nDigits_big hu]
      have := ih (u / 10) (by rw [Nat.pow_succ] at h; omega)
      omega
theorem nD_20 (u : Nat) (h : u < 18446744073709551616) : Lib.nDigits u ≤ 20 := nD_le 19 u (by omega)
theorem nD_1 (u : Nat) : 1 ≤ Lib.nDigits u := by
  by_cases h : u < 10
  · rw [Lib.nDigits_small h]; omega
  · rw [Lib.nDigits_big h]; omega
theorem digN_len (u : Nat) : (digN u).length = Lib.nDigits u := by unfold digN; rw [List.length_map, Lib.decDigits_length]
theorem digN_str (u : Nat) : strOfNums (digN u) = ⟨(Lib.decDigits u).toArray⟩ := by
  unfold digN strOfNums
  rw [List.map_map]
  congr 2
  rw [show ((fun z : Int => UInt8.ofNat z.toNat) ∘ fun b : UInt8 => (b.toNat : Int)) = id from funext fun b => by simp]
  exact List.map_id _
theorem itoa_len (n : Int) (h0 : -9223372036854775808 ≤ n) (h1 : n ≤ 9223372036854775807) : (dec n).size ≤ 21 := by
  show (Lib.itoa n).toArray.size ≤ 21
  rw [List.size_toArray]
  by_cases hneg : n < 0
  · obtain ⟨u, rfl⟩ : ∃ u : Nat, n = -(u : Int) := ⟨n.natAbs, by omega⟩
    rw [Lib.itoa_neg u (by omega), List.length_cons, Lib.decDigits_length]
    have := nD_20 u (by omega)
    omega
  · obtain ⟨u, rfl⟩ : ∃ u : Nat, n = u := ⟨n.toNat, by omega⟩
    rw [Lib.itoa_nonneg, Lib.decDigits_length]
    have := nD_20 u (by omega)
    omega
theorem impl_Decimal_val (n : Int) (h0 : -9223372036854775808 ≤ n) (h1 : n ≤ 9223372036854775807) : impl_Decimal.f n = some (dec n) := by
  unfold impl_Decimal.f strconv_FormatInt.f
  rw [if_pos ⟨rfl, h0, h1⟩]
  rfl
/-- Words with blanks between them. -/
def txt (W : Nat → ByteArray) : Nat → ByteArray
  | 0 => ⟨#[]⟩
  | i + 1 => (if 0 < i then txt W i ++ (⟨#[32]⟩ : ByteArray) else txt W i) ++ W i
theorem txt_join (W : Nat → ByteArray) (n : Nat) : Lib.join (((List.range n).map W).map (·.data.toList)) [32] = (txt W n).data.toList := by
  induction n with
  | zero => rfl
  | succ n ih =>
    rw [List.range_succ, List.map_append, List.map_append, List.map_cons, List.map_nil, List.map_cons, List.map_nil]
    cases n with
    | zero =>
      rw [show (List.map (fun x : ByteArray => x.data.toList) (List.map W (List.range 0))) = [] from rfl, List.nil_append, Lib.join_one]
      show _ = ((if 0 < 0 then _ else txt W 0) ++ W 0).data.toList
      rw [if_neg (by omega)]
      simp [txt]
    | succ n =>
      cases hL : List.map (fun x : ByteArray => x.data.toList) (List.map W (List.range (n + 1))) with
      | nil => have := congrArg List.length hL; simp at this
      | cons a t =>
        rw [hL, Lib.join_cons] at ih
        rw [List.cons_append, Lib.join_cons]
        show _ = ((if 0 < n + 1 then txt W (n + 1) ++ (⟨#[32]⟩ : ByteArray) else txt W (n + 1)) ++ W (n + 1)).data.toList
        rw [if_pos (by omega)]
        unfold Lib.joinTail at *
        rw [List.map_append, List.flatten_append, ← List.append_assoc, ih]
        simp
theorem txt_size (W : Nat → ByteArray) (n : Nat) (h : ∀ i, i < n → (W i).size ≤ 100) : (txt W n).size ≤ n * 101 := by
  induction n with
  | zero => show (⟨#[]⟩ : ByteArray).size ≤ _; exact Nat.zero_le _
  | succ n ih =>
    have h1 := ih (fun i hi => h i (by omega))
    have h2 := h n (by omega)
    show ((if 0 < n then txt W n ++ (⟨#[32]⟩ : ByteArray) else txt W n) ++ W n).size ≤ _
    rw [ByteArray.size_append]
    split
    · rw [ByteArray.size_append, show (⟨#[32]⟩ : ByteArray).size = 1 from rfl]; omega
    · omega
theorem join_val (W : Nat → ByteArray) (n : Nat) (hn : n ≤ 1000) (h : ∀ i, i < n → (W i).size ≤ 100) : strings_Join.f ((List.range n).map W) (⟨#[32]⟩ : ByteArray) = some (txt W n) := by
  have hs := txt_size W n h
  have e : Lib.join (((List.range n).map W).map (·.data.toList)) ((⟨#[32]⟩ : ByteArray).data.toList) = (txt W n).data.toList := txt_join W n
  have hl : (txt W n).data.toList.length = (txt W n).size := by rw [Array.length_toList]; rfl
  unfold strings_Join.f
  rw [e, if_pos ⟨by rw [List.length_map, List.length_range]; omega, by rw [hl]; omega⟩]
/-- Two numbers with a sign between them. -/
def pairT (s : UInt8) (a b : Int) : ByteArray := (dec a ++ (⟨#[s]⟩ : ByteArray)) ++ dec b
theorem pairT_size (s : UInt8) {a b : Int} (ha : 0 ≤ a ∧ a ≤ 100000) (hb : 0 ≤ b ∧ b ≤ 100000) : (dec a).size ≤ 21 ∧ (dec b).size ≤ 21 ∧ (pairT s a b).size ≤ 43 := by
  have h1 := itoa_len a (by omega) (by omega)
  have h2 := itoa_len b (by omega) (by omega)
  refine ⟨h1, h2, ?_⟩
  unfold pairT
  rw [ByteArray.size_append, ByteArray.size_append, show (⟨#[s]⟩ : ByteArray).size = 1 from rfl]
  omega
def reefW (a b : List Int) (i : Nat) : ByteArray := pairT 47 (rd a (i : Int)) (rd b (i : Int))
theorem reefW_bd {a b : List Int} (h : refOk a b = true) (i : Nat) (hi : i < a.length) : (0 ≤ rd a (i : Int) ∧ rd a (i : Int) ≤ 100000) ∧ (0 ≤ rd b (i : Int) ∧ rd b (i : Int) ≤ 100000) := by
  have := ((refOk_iff a b).1 h).2.2 i hi
  omega
/-- The text form of a reefing. -/
def reefT (a b : List Int) : ByteArray := if refOk a b = true then (if (a.length : Int) = 0 then ⟨#[110, 111, 110, 101]⟩ else txt (reefW a b) a.length) else ⟨#[]⟩
theorem impl_ReefText_val (a b : List Int) (ha : a.length < 4611686018427387904) (hb : b.length < 4611686018427387904) : impl_ReefText.F a b = some (reefT a b) := by
  rw [impl_ReefText.F_eq, impl_ValidReefing_val a b ha hb]
  simp only [Option.bind_some]
  unfold reefT
  by_cases h : refOk a b = true
  · rw [if_pos h, if_pos h]
    by_cases h0 : (a.length : Int) = 0
    · rw [if_pos h0, if_pos h0]
    · rw [if_neg h0, if_neg h0]
      obtain ⟨h6, hl⟩ := ref_len h
      have := iterF (fun (s : List ByteArray) i => impl_ReefText.L0 s a (a.length : Int) i a b) a.length (fun i => (List.range i).map (reefW a b)) (fun i hi => by
        have hb := reefW_bd h i hi
        have hz := pairT_size 47 hb.1 hb.2
        show impl_ReefText.L0 ((List.range i).map (reefW a b)) a (a.length : Int) (i : Int) a b = impl_ReefText.L0 ((List.range (i + 1)).map (reefW a b)) a (a.length : Int) ((i + 1 : Nat) : Int) a b
        rw [impl_ReefText.L0_eq, if_pos (by omega), if_pos (by omega), if_pos (by omega), impl_Decimal_val _ (by omega) (by omega), impl_Decimal_val (rd b (i : Int)) (by omega) (by omega)]
        simp only [Option.bind_some]
        rw [if_pos (by omega), if_pos (by omega), if_pos (by omega), if_pos (by rw [List.length_map, List.length_range]; omega), wS (by omega), List.range_succ, List.map_append]
        rfl)
      refine Eq.trans this ?_
      show impl_ReefText.L0 ((List.range a.length).map (reefW a b)) a (a.length : Int) (a.length : Int) a b = _
      rw [impl_ReefText.L0_eq, if_neg (by omega), join_val (reefW a b) a.length (by omega) (fun j hj => by have hb2 := reefW_bd h j hj; have := (pairT_size 47 hb2.1 hb2.2).2.2; unfold reefW; omega)]
      rfl
  · rw [if_neg h, if_neg h]
theorem get_bt (s : ByteArray) (k : Nat) (hk : k < s.size) (c : UInt8) : s.data.toList[k]? = some c ↔ bt s (k : Int) = (c.toNat : Int) := by
  have hk2 : k < s.data.toList.length := by rw [Array.length_toList]; exact hk
  have e : bt s (k : Int) = ((s.data.toList[k]).toNat : Int) := by
    unfold bt
    rw [dif_pos (by rw [Int.toNat_natCast]; exact hk)]
    simp only [Int.toNat_natCast, Array.getElem_toList]
    rfl
  rw [e, List.getElem?_eq_getElem hk2]
  constructor
  · intro h; rw [Option.some.inj h]
  · intro h; congr 1; exact UInt8.toNat.inj (by omega)
theorem bt_extract (s : ByteArray) (a n k : Nat) (hn : n ≤ s.size) (hk : a + k < n) : bt (s.extract a n) (k : Int) = bt s ((a + k : Nat) : Int) := by
  have hs : (s.extract a n).size = n - a := by rw [ByteArray.size_extract]; omega
  have h1 := (get_bt s (a + k) (by omega) s.data.toList[a + k]!).1
  have hk2 : a + k < s.data.toList.length := by rw [Array.length_toList]; show _ < s.size; omega
  have h2 := (get_bt (s.extract a n) k (by omega) (s.data.toList[a + k])).1
  have h3 := (get_bt s (a + k) (by omega) (s.data.toList[a + k])).1 (List.getElem?_eq_getElem hk2)
  rw [h3]
  refine h2 ?_
  rw [ByteArray.data_extract, Array.toList_extract]
  simp only [List.extract_eq_take_drop, List.getElem?_take, List.getElem?_drop]
  rw [if_pos (by omega), List.getElem?_eq_getElem hk2]
theorem idx_miss (s : ByteArray) (c : UInt8) (h : ∀ k : Nat, k < s.size → bt s (k : Int) ≠ (c.toNat : Int)) : Lib.indexB s ⟨#[c]⟩ = -1 := by
  show Lib.index s.data.toList [c] = -1
  rw [Lib.index_one]
  have hg := Lib.indexByte_ge s.data.toList c
  by_cases e : Lib.indexByte s.data.toList c = -1
  · exact e
  · obtain ⟨o, ho⟩ : ∃ o : Nat, Lib.indexByte s.data.toList c = o := ⟨(Lib.indexByte s.data.toList c).toNat, by omega⟩
    have h1 := (Lib.indexByte_some ho).1
    have hl : o < s.size := by have := (List.getElem?_eq_some_iff.1 h1).1; rw [Array.length_toList] at this; exact this
    exact absurd ((get_bt s o hl c).1 h1) (h o hl)
theorem idx_hit (s : ByteArray) (c : UInt8) (i : Nat) (hi : i < s.size) (hb : bt s (i : Int) = (c.toNat : Int)) (h : ∀ k : Nat, k < i → bt s (k : Int) ≠ (c.toNat : Int)) : Lib.indexB s ⟨#[c]⟩ = i := by
  show Lib.index s.data.toList [c] = i
  rw [Lib.index_one]
  have hg := Lib.indexByte_ge s.data.toList c
  have hi1 := (get_bt s i hi c).2 hb
  by_cases e : Lib.indexByte s.data.toList c = -1
  · exact absurd hi1 (Lib.indexByte_none e i)
  · obtain ⟨o, ho⟩ : ∃ o : Nat, Lib.indexByte s.data.toList c = o := ⟨(Lib.indexByte s.data.toList c).toNat, by omega⟩
    obtain ⟨h1, h2⟩ := Lib.indexByte_some ho
    have hl : o < s.size := by have := (List.getElem?_eq_some_iff.1 h1).1; rw [Array.length_toList] at this; exact this
    have h3 := (get_bt s o hl c).1 h1
    have : o = i := by
      rcases Nat.lt_trichotomy o i with hlt | heq | hgt
      · exact absurd h3 (h o hlt)
      · exact heq
      · exact absurd hi1 (h2 i hgt)
    omega
/-- A text's parts between a sign. -/
def parts (s : ByteArray) (c : UInt8) : List ByteArray := Lib.splitB ⟨#[c]⟩ 0 (Lib.countB s ⟨#[c]⟩) s
theorem parts_no (s : ByteArray) (c : UInt8) (h : Lib.indexB s ⟨#[c]⟩ = -1) : parts s c = [s] := by
  unfold parts
  rw [Lib.countB_miss s _ h]; rfl
theorem parts_at (s : ByteArray) (c : UInt8) (i : Nat) (h : Lib.indexB s ⟨#[c]⟩ = i) : parts s c = s.extract 0 i :: parts (s.extract (i + 1) s.size) c := by
  unfold parts
  rw [Lib.countB_hit s ⟨#[c]⟩ i (Nat.le_refl 1) h, Nat.add_comm 1, Lib.splitB_hit _ 0 _ s i h]
  rfl
theorem parts_all (c : UInt8) (n : Nat) : ∀ s : ByteArray, s.size ≤ n → (parts s c).length ≤ s.size + 1 ∧ ∀ x ∈ parts s c, x.size ≤ s.size := by
  induction n with
  | zero =>
    intro s hs
    rcases Lib.indexB_cases s ⟨#[c]⟩ with h | ⟨i, h, hr⟩
    · rw [parts_no s c h]; exact ⟨by simp, fun x hx => by rw [List.mem_singleton.1 hx]; exact Nat.le_refl _⟩
    · have : (⟨#[c]⟩ : ByteArray).size = 1 := rfl
      omega
  | succ n ih =>
    intro s hs
    rcases Lib.indexB_cases s ⟨#[c]⟩ with h | ⟨i, h, hr⟩
    · rw [parts_no s c h]; exact ⟨by simp, fun x hx => by rw [List.mem_singleton.1 hx]; exact Nat.le_refl _⟩
    · have h1 : (⟨#[c]⟩ : ByteArray).size = 1 := rfl
      have e : (s.extract (i + 1) s.size).size = s.size - (i + 1) := by rw [ByteArray.size_extract]; omega
      have e0 : (s.extract 0 i).size ≤ s.size := by rw [ByteArray.size_extract]; omega
      obtain ⟨g1, g2⟩ := ih (s.extract (i + 1) s.size) (by omega)
      rw [parts_at s c i h]
      refine ⟨by rw [List.length_cons]; omega, fun x hx => ?_⟩
      rcases List.mem_cons.1 hx with rfl | hx
      · exact e0
      · have := g2 x hx; omega
theorem trimP (s : ByteArray) : strings_TrimPrefix.f s (⟨#[45]⟩ : ByteArray) = some (if 0 < s.size ∧ bt s 0 = 45 then s.extract 1 s.size else s) := by
  have h1 : (⟨#[45]⟩ : ByteArray).size = 1 := rfl
  have hp : stringslite_HasPrefix.f s (⟨#[45]⟩ : ByteArray) = some (decide (0 < s.size ∧ bt s 0 = 45)) := by
    unfold stringslite_HasPrefix.f
    rw [h1]
    by_cases h : 0 < s.size
    · rw [if_pos (by omega), if_pos (by omega), if_pos (by omega)]
      congr 1
      rw [Bool.eq_iff_iff, beq_iff_eq, decide_eq_true_eq, ByteArray.toList_eq, ByteArray.toList_eq]
      have hl : 0 < s.data.toList.length := by rw [Array.length_toList]; exact h
      have e : (s.extract 0 (((1 : Nat) : Int)).toNat).data.toList = [s.data.toList[0]] := by
        rw [Int.toNat_natCast, ByteArray.data_extract, Array.toList_extract]
        simp only [List.extract_eq_take_drop, List.drop_zero]
        have key : ∀ (l : List UInt8) (q : 0 < l.length), List.take (1 - 0) l = [l[0]] := fun l q => by
          cases l with
          | nil => exact absurd q (Nat.lt_irrefl 0)
          | cons a t => rfl
        exact key _ hl
      have g := get_bt s 0 h 45
      rw [List.getElem?_eq_getElem hl] at g
      rw [e]
      constructor
      · intro q
        refine ⟨h, ?_⟩
        have : s.data.toList[0] = 45 := by have := List.cons.inj q; exact this.1
        exact g.1 (by rw [this])
      · intro q
        have := Option.some.inj (g.2 q.2)
        rw [this]
    · rw [if_neg (by omega), decide_eq_false (fun q => h q.1)]
  unfold strings_TrimPrefix.f stringslite_TrimPrefix.f
  rw [hp]
  simp only [Option.bind_some, decide_eq_true_eq]
  by_cases h : 0 < s.size ∧ bt s 0 = 45
  · rw [if_pos h, if_pos h, h1, if_pos (by omega), if_pos (by omega)]
    rfl
  · rw [if_neg h, if_neg h]; rfl
theorem wrap_in (n : Int) : -9223372036854775808 ≤ wrap64 n ∧ wrap64 n ≤ 9223372036854775807 := by unfold wrap64; omega
theorem cut_val (s : ByteArray) (hs : s.size < 100000000) : strings_Cut.f s (⟨#[47]⟩ : ByteArray) = some (if Lib.indexB s ⟨#[47]⟩ = -1 then (s, (⟨#[]⟩ : ByteArray), false) else (s.extract 0 (Lib.indexB s ⟨#[47]⟩).toNat, s.extract ((Lib.indexB s ⟨#[47]⟩).toNat + 1) s.size, true)) := by
  unfold strings_Cut.f
  rw [if_pos (by omega)]
  congr 1
  have hi : Lib.index s.data.toList ((⟨#[47]⟩ : ByteArray).data.toList) = Lib.indexB s ⟨#[47]⟩ := rfl
  unfold Lib.cut
  rw [hi]
  rcases Lib.indexB_cases s ⟨#[47]⟩ with h | ⟨i, h, hr⟩
  · rw [h, if_neg (by omega), if_pos rfl]
  · have h1 : (⟨#[47]⟩ : ByteArray).size = 1 := rfl
    rw [h, if_pos (by omega), if_neg (by omega), Int.toNat_natCast]
    refine Prod.ext ?_ (Prod.ext ?_ rfl)
    · apply ByteArray.ext
      apply Array.toList_inj.1
      rw [ByteArray.data_extract, Array.toList_extract]
      simp [List.extract_eq_take_drop]
    · apply ByteArray.ext
      apply Array.toList_inj.1
      rw [ByteArray.data_extract, Array.toList_extract]
      have hl : s.data.toList.length = s.size := by rw [Array.length_toList]; rfl
      simp only [List.extract_eq_take_drop]
      rw [List.take_of_length_le (by rw [List.length_drop, hl]; omega)]
      rfl
theorem index_byte (s : ByteArray) (c : UInt8) (i : Nat) (h : Lib.indexB s ⟨#[c]⟩ = i) : i < s.size ∧ bt s (i : Int) = (c.toNat : Int) := by
  have h2 : Lib.indexByte s.data.toList c = i := by rw [← Lib.index_one]; exact h
  have h1 := (Lib.indexByte_some h2).1
  have hl : i < s.size := by have := (List.getElem?_eq_some_iff.1 h1).1; rw [Array.length_toList] at this; exact this
  exact ⟨hl, (get_bt s i hl c).1 h1⟩
theorem strings_Split_val (s : ByteArray) (c : UInt8) (hs : s.size < 100000000) : strings_Split.f s (⟨#[c]⟩ : ByteArray) = some (parts s c) := by
  unfold strings_Split.f
  rw [if_pos ⟨by omega, by show 1 ≤ 1; omega⟩]
  rfl
theorem bt_of (l : List UInt8) (k : Nat) (hk : k < l.length) : bt (⟨l.toArray⟩ : ByteArray) (k : Int) = ((l[k].toNat : Nat) : Int) := (get_bt ⟨l.toArray⟩ k (by show k < l.toArray.size; rw [List.size_toArray]; exact hk) l[k]).1 (by simp [hk])
theorem digits_all (u : Nat) : ∀ b ∈ Lib.decDigits u, 48 ≤ b.toNat ∧ b.toNat ≤ 57 := by
  induction u using Nat.strongRecOn with
  | _ u ih =>
    intro b hb
    by_cases h : u < 10
    · rw [Lib.decDigits_one h] at hb
      rw [List.mem_singleton.1 hb, UInt8.toNat_ofNat_of_lt' (by show 48 + u < 256; omega)]
      omega
    · rw [Lib.decDigits, dif_neg h] at hb
      rcases List.mem_append.1 hb with hb | hb
      · exact ih (u / 10) (by omega) b hb
      · rw [List.mem_singleton.1 hb, UInt8.toNat_ofNat_of_lt' (by show 48 + u % 10 < 256; omega)]
        omega
/-- What digits are worth. -/
def valD (l : List UInt8) : Nat := l.foldl (fun n b => 10 * n + (b.toNat - 48)) 0
theorem valD_snoc (l : List UInt8) (b : UInt8) : valD (l ++ [b]) = 10 * valD l + (b.toNat - 48) := by unfold valD; rw [List.foldl_append]; rfl
theorem valD_dec (u : Nat) : valD (Lib.decDigits u) = u := by
  induction u using Nat.strongRecOn with
  | _ u ih =>
    by_cases h : u < 10
    · rw [Lib.decDigits_one h, ← List.nil_append [_], valD_snoc, UInt8.toNat_ofNat_of_lt' (by show 48 + u < 256; omega), show valD [] = 0 from rfl]
      omega
    · rw [Lib.decDigits, dif_neg h, valD_snoc, ih (u / 10) (by omega), UInt8.toNat_ofNat_of_lt' (by show 48 + u % 10 < 256; omega)]
      omega
theorem valD_bd (l : List UInt8) (h : ∀ b ∈ l, 48 ≤ b.toNat ∧ b.toNat ≤ 57) (i : Nat) : valD (l.take i) < 10 ^ i := by
  induction i with
  | zero => show 0 < 1; omega
  | succ i ih =>
    by_cases hi : i < l.length
    · rw [List.take_add_one, List.getElem?_eq_getElem hi]
      show valD (l.take i ++ [l[i]]) < _
      rw [valD_snoc, Nat.pow_succ]
      have := h l[i] (List.getElem_mem hi)
      omega
    · rw [List.take_of_length_le (by omega)]
      rw [List.take_of_length_le (by omega)] at ih
      rw [Nat.pow_succ]; omega
theorem dec_nat (u : Nat) : dec (u : Int) = ⟨(Lib.decDigits u).toArray⟩ := by unfold dec; rw [Lib.itoa_nonneg]
theorem dec_size (u : Nat) (h : u < 1000) : 1 ≤ (dec (u : Int)).size ∧ (dec (u : Int)).size ≤ 3 ∧ (dec (u : Int)).size = (Lib.decDigits u).length := by
  have e : (dec (u : Int)).size = (Lib.decDigits u).length := by rw [dec_nat]; show (Lib.decDigits u).toArray.size = _; rw [List.size_toArray]
  rw [e, Lib.decDigits_length]
  exact ⟨nD_1 u, nD_le 2 u (by omega), rfl⟩
theorem dec_bt (u : Nat) (h : u < 1000) (k : Nat) (hk : k < (dec (u : Int)).size) : 48 ≤ bt (dec (u : Int)) (k : Int) ∧ bt (dec (u : Int)) (k : Int) ≤ 57 := by
  have hk2 : k < (Lib.decDigits u).length := by rw [← (dec_size u h).2.2]; exact hk
  rw [dec_nat, bt_of _ k hk2]
  have := digits_all u _ (List.getElem_mem hk2)
  omega
/-- A decimal form is read back. -/
theorem read_dec (u : Nat) (h : u < 1000) : impl_ReadDecimal.F (dec (u : Int)) = some ((u : Int), true) := by
  obtain ⟨s1, s2, s3⟩ := dec_size u h
  have hb0 := dec_bt u h 0 (by omega)
  have hT : (if 0 < (dec (u : Int)).size ∧ bt (dec (u : Int)) 0 = 45 then (dec (u : Int)).extract 1 (dec (u : Int)).size else dec (u : Int)) = dec (u : Int) := if_neg (fun q => by have := q.2; rw [show ((0 : Nat) : Int) = 0 from rfl] at hb0; omega)
  rw [impl_ReadDecimal.F_eq, trimP, hT]
  simp only [Option.bind_some]
  rw [if_neg (by omega), impl_ReadDecimal.J0_eq, if_neg (by rw [decide_eq_false (by omega)]; exact nf)]
  have hd := digits_all u
  have := iterF (fun (n : Int) i => impl_ReadDecimal.L0 (dec (u : Int)) (dec (u : Int)) n i) (Lib.decDigits u).length (fun i => (valD ((Lib.decDigits u).take i) : Int)) (fun i hi => by
    show impl_ReadDecimal.L0 (dec (u : Int)) (dec (u : Int)) (valD ((Lib.decDigits u).take i) : Int) (i : Int) = impl_ReadDecimal.L0 (dec (u : Int)) (dec (u : Int)) (valD ((Lib.decDigits u).take (i + 1)) : Int) ((i + 1 : Nat) : Int)
    have hv := valD_bd (Lib.decDigits u) hd i
    have hp : 10 ^ i ≤ 10 ^ 3 := Nat.pow_le_pow_right (by omega) (by omega)
    have hb := dec_bt u h i (by omega)
    have hbe : bt (dec (u : Int)) (i : Int) = (((Lib.decDigits u)[i].toNat : Nat) : Int) := by rw [dec_nat, bt_of _ i hi]
    have hg := hd _ (List.getElem_mem hi)
    rw [impl_ReadDecimal.L0_eq, if_pos (by omega), if_pos (by omega), if_neg (by omega), if_neg (by omega), wS (by omega), List.take_add_one, List.getElem?_eq_getElem hi]
    show _ = impl_ReadDecimal.L0 _ _ (valD ((Lib.decDigits u).take i ++ [(Lib.decDigits u)[i]]) : Int) _
    rw [valD_snoc, hbe, w64 (n := 10 * (valD ((Lib.decDigits u).take i) : Int)) (by omega) (by omega), w64 (by omega) (by omega)]
    congr 1
    omega)
  refine Eq.trans this ?_
  show impl_ReadDecimal.L0 _ _ (valD ((Lib.decDigits u).take (Lib.decDigits u).length) : Int) ((Lib.decDigits u).length : Int) = _
  rw [List.take_length, valD_dec, impl_ReadDecimal.L0_eq, if_neg (by omega), if_neg (by omega), impl_Decimal_val _ (by omega) (by omega)]
  simp
theorem bt_left (x y : ByteArray) (k : Nat) (hk : k < x.size) : bt (x ++ y) (k : Int) = bt x (k : Int) := by
  have hxl : k < x.data.toList.length := by rw [Array.length_toList]; exact hk
  refine (get_bt (x ++ y) k (by rw [ByteArray.size_append]; omega) x.data.toList[k]).1 ?_ |>.trans ((get_bt x k hk x.data.toList[k]).1 (List.getElem?_eq_getElem hxl)).symm
  rw [ByteArray.data_append, Array.toList_append, List.getElem?_append_left hxl, List.getElem?_eq_getElem hxl]
theorem bt_right (x y : ByteArray) (k : Nat) (hk : k < y.size) : bt (x ++ y) ((x.size + k : Nat) : Int) = bt y (k : Int) := by
  have hyl : k < y.data.toList.length := by rw [Array.length_toList]; exact hk
  have hx : x.data.toList.length = x.size := by rw [Array.length_toList]; rfl
  refine (get_bt (x ++ y) (x.size + k) (by rw [ByteArray.size_append]; omega) y.data.toList[k]).1 ?_ |>.trans ((get_bt y k hk y.data.toList[k]).1 (List.getElem?_eq_getElem hyl)).symm
  rw [ByteArray.data_append, Array.toList_append, List.getElem?_append_right (by omega), hx, show x.size + k - x.size = k by omega, List.getElem?_eq_getElem hyl]
theorem ext_left (x y : ByteArray) : (x ++ y).extract 0 x.size = x := by
  apply ByteArray.ext
  apply Array.toList_inj.1
  have hx : x.data.toList.length = x.size := by rw [Array.length_toList]; rfl
  rw [ByteArray.data_extract, Array.toList_extract, ByteArray.data_append, Array.toList_append]
  simp only [List.extract_eq_take_drop, List.drop_zero, Nat.sub_zero]
  rw [← hx, List.take_left']
  rfl
theorem ext_right (x y : ByteArray) : (x ++ y).extract x.size (x ++ y).size = y := by
  apply ByteArray.ext
  apply Array.toList_inj.1
  have hx : x.data.toList.length = x.size := by rw [Array.length_toList]; rfl
  have hy : y.data.toList.length = y.size := by rw [Array.length_toList]; rfl
  rw [ByteArray.data_extract, Array.toList_extract, ByteArray.data_append, Array.toList_append, ByteArray.size_append]
  simp only [List.extract_eq_take_drop]
  rw [← hx, List.drop_left', hx, show x.size + y.size - x.size = y.size by omega, List.take_of_length_le (by omega)]
  rfl
/-- A sign between two texts, of which the first lacks it. -/
theorem idx_mid (x y : ByteArray) (c : UInt8) (h : ∀ k : Nat, k < x.size → bt x (k : Int) ≠ (c.toNat : Int)) : Lib.indexB ((x ++ (⟨#[c]⟩ : ByteArray)) ++ y) ⟨#[c]⟩ = x.size := by
  have h1 : (⟨#[c]⟩ : ByteArray).size = 1 := rfl
  refine idx_hit _ c x.size (by rw [ByteArray.size_append, ByteArray.size_append]; omega) ?_ fun k hk => ?_
  · rw [bt_left _ _ _ (by rw [ByteArray.size_append]; omega)]
    have := bt_right x (⟨#[c]⟩ : ByteArray) 0 (by omega)
    rw [Nat.add_zero] at this
    rw [this]
    exact bt_of [c] 0 (by simp)
  · rw [bt_left _ _ _ (by rw [ByteArray.size_append]; omega), bt_left _ _ _ hk]
    exact h k hk
theorem mid_left (x y : ByteArray) (c : UInt8) : ((x ++ (⟨#[c]⟩ : ByteArray)) ++ y).extract 0 x.size = x := by rw [ByteArray.append_assoc]; exact ext_left x _
theorem mid_right (x y : ByteArray) (c : UInt8) : ((x ++ (⟨#[c]⟩ : ByteArray)) ++ y).extract (x.size + 1) ((x ++ (⟨#[c]⟩ : ByteArray)) ++ y).size = y := by
  have h1 : (x ++ (⟨#[c]⟩ : ByteArray)).size = x.size + 1 := by rw [ByteArray.size_append]; rfl
  rw [← h1]; exact ext_right _ y
/-- A list of words, with blanks between them, comes apart as it was. -/
def joinB (ws : List ByteArray) : ByteArray := ⟨(Lib.join (ws.map (·.data.toList)) [32]).toArray⟩
theorem joinB_one (w : ByteArray) : joinB [w] = w := by unfold joinB; rw [List.map_cons, List.map_nil, Lib.join_one]
theorem joinB_cons (w v : ByteArray) (r : List ByteArray) : joinB (w :: v :: r) = (w ++ (⟨#[32]⟩ : ByteArray)) ++ joinB (v :: r) := by
  apply ByteArray.ext
  apply Array.toList_inj.1
  unfold joinB
  rw [ByteArray.data_append, ByteArray.data_append, Array.toList_append, Array.toList_append, List.map_cons, List.map_cons, Lib.join_cons, Lib.join_cons]
  unfold Lib.joinTail
  simp
theorem parts_join (ws : List ByteArray) (h : ∀ w ∈ ws, ∀ k : Nat, k < w.size → bt w (k : Int) ≠ 32) (h0 : ws ≠ []) : parts (joinB ws) 32 = ws := by
  induction ws with
  | nil => exact absurd rfl h0
  | cons w r ih =>
    cases r with
    | nil => rw [joinB_one]; exact parts_no w 32 (idx_miss w 32 (h w (by simp)))
    | cons v r =>
      have hi := idx_mid w (joinB (v :: r)) 32 (h w (by simp))
      rw [joinB_cons, parts_at _ 32 w.size hi, mid_left, mid_right, ih (fun x hx => h x (by simp [hx])) (by simp)]
theorem pair_bt (a b : Nat) (ha : a < 1000) (hb : b < 1000) (k : Nat) (hk : k < (pairT 47 (a : Int) (b : Int)).size) : bt (pairT 47 (a : Int) (b : Int)) (k : Int) ≠ 32 ∧ (k < (dec (a : Int)).size → bt (pairT 47 (a : Int) (b : Int)) (k : Int) ≠ 47) := by
  unfold pairT at *
  have h1 : (dec (a : Int) ++ (⟨#[47]⟩ : ByteArray)).size = (dec (a : Int)).size + 1 := by rw [ByteArray.size_append]; rfl
  rw [ByteArray.size_append, h1] at hk
  by_cases q : k < (dec (a : Int)).size
  · have := dec_bt a ha k q
    rw [bt_left _ _ _ (by omega), bt_left _ _ _ q]
    exact ⟨by omega, fun _ => by omega⟩
  · refine ⟨?_, fun q2 => absurd q2 q⟩
    by_cases q2 : k = (dec (a : Int)).size
    · subst q2
      rw [bt_left _ _ _ (by omega)]
      have := bt_right (dec (a : Int)) (⟨#[47]⟩ : ByteArray) 0 (by show 0 < 1; omega)
      rw [Nat.add_zero] at this
      rw [this, bt_of [47] 0 (by simp)]
      decide
    · have := dec_bt b hb (k - (dec (a : Int)).size - 1) (by omega)
      have e := bt_right (dec (a : Int) ++ (⟨#[47]⟩ : ByteArray)) (dec (b : Int)) (k - (dec (a : Int)).size - 1) (by omega)
      rw [h1, show (dec (a : Int)).size + 1 + (k - (dec (a : Int)).size - 1) = k by omega] at e
      rw [e]; omega
/-- A reefing's text form is read back. -/
theorem read_back (a b : List Int) (h : refOk a b = true) : ∃ t, impl_ReefText.F a b = some t ∧ impl_ReadReefing.F t = some (a, b, true) := by
  obtain ⟨h6, hl⟩ := ref_len h
  refine ⟨_, impl_ReefText_val a b (by omega) (by omega), ?_⟩
  unfold reefT
  rw [if_pos h, impl_ReadReefing.F_eq]
  by_cases h0 : (a.length : Int) = 0
  · have ea : a = [] := List.eq_nil_of_length_eq_zero (by omega)
    have eb : b = [] := List.eq_nil_of_length_eq_zero (by omega)
    rw [if_pos h0, if_pos (by rw [ByteArray.toList_eq]), ea, eb]
  · rw [if_neg h0]
    have hv : ∀ i, i < a.length → ∃ x y : Nat, rd a (i : Int) = (x : Int) ∧ rd b (i : Int) = (y : Int) ∧ x < 1000 ∧ y < 1000 := fun i hi => by
      have := ((refOk_iff a b).1 h).2.2 i hi
      exact ⟨(rd a (i : Int)).toNat, (rd b (i : Int)).toNat, by omega, by omega, by omega, by omega⟩
    have hW : ∀ w ∈ (List.range a.length).map (reefW a b), ∀ k : Nat, k < w.size → bt w (k : Int) ≠ 32 := fun w hw k hk => by
      obtain ⟨i, hi, rfl⟩ := List.mem_map.1 hw
      obtain ⟨x, y, e1, e2, e3, e4⟩ := hv i (List.mem_range.1 hi)
      unfold reefW at *
      rw [e1, e2] at hk ⊢
      exact (pair_bt x y e3 e4 k hk).1
    have ht : txt (reefW a b) a.length = joinB ((List.range a.length).map (reefW a b)) := by
      apply ByteArray.ext
      apply Array.toList_inj.1
      unfold joinB
      rw [txt_join]
    have hparts := parts_join _ hW (by intro q; have := congrArg List.length q; rw [List.length_map, List.length_range, List.length_nil] at this; omega)
    have hsz := txt_size (reefW a b) a.length (fun i hi => by have hb2 := reefW_bd h i hi; have := (pairT_size 47 hb2.1 hb2.2).2.2; unfold reefW; omega)
    have hne : ¬ (txt (reefW a b) a.length).toList = [110, 111, 110, 101] := fun q => by
      have hno : parts (txt (reefW a b) a.length) 32 = [txt (reefW a b) a.length] := by
        refine parts_no _ 32 (idx_miss _ 32 fun k hk => ?_)
        have e : txt (reefW a b) a.length = ⟨([110, 111, 110, 101] : List UInt8).toArray⟩ := by
          apply ByteArray.ext
          apply Array.toList_inj.1
          rw [ByteArray.toList_eq] at q
          exact q
        rw [e] at hk ⊢
        have hk2 : k < ([110, 111, 110, 101] : List UInt8).length := hk
        rw [bt_of _ k hk2]
        have h4 : k = 0 ∨ k = 1 ∨ k = 2 ∨ k = 3 := by have hk3 : k < 4 := hk; omega
        rcases h4 with rfl | rfl | rfl | rfl <;> simp
      rw [ht, hparts] at hno
      have hlen := congrArg List.length hno
      simp at hlen
      obtain ⟨x, y, e1, e2, e3, e4⟩ := hv 0 (by omega)
      rw [ht, hlen] at q
      have hw0 : joinB ((List.range 1).map (reefW a b)) = pairT 47 (x : Int) (y : Int) := by
        rw [show (List.range 1).map (reefW a b) = [reefW a b 0] from rfl, joinB_one]; unfold reefW; rw [e1, e2]
      rw [hw0, ByteArray.toList_eq] at q
      have hs := (dec_size x e3).1
      have hp : 0 < (pairT 47 (x : Int) (y : Int)).size := by unfold pairT; rw [ByteArray.size_append, ByteArray.size_append]; omega
      have hg := dec_bt x e3 0 (by omega)
      have hb : bt (pairT 47 (x : Int) (y : Int)) ((0 : Nat) : Int) = bt (dec (x : Int)) ((0 : Nat) : Int) := by
        unfold pairT
        rw [bt_left _ _ _ (by rw [ByteArray.size_append]; omega), bt_left _ _ _ (by omega)]
      have hc := (get_bt (pairT 47 (x : Int) (y : Int)) 0 hp 110).1 (by rw [q]; rfl)
      rw [hb] at hc
      have : ((110 : UInt8).toNat : Int) = 110 := rfl
      omega
    rw [if_neg hne, strings_Split_val _ 32 (by omega), ht, hparts]
    simp only [Option.bind_some]
    have hn : ((List.range a.length).map (reefW a b)).length = a.length := by simp
    rw [hn]
    have := iterF (fun (s : List Int × List Int) i => impl_ReadReefing.L0 ((List.range a.length).map (reefW a b)) (a.length : Int) i s.1 s.2) a.length (fun i => (a.take i, b.take i)) (fun i hi => by
      show impl_ReadReefing.L0 ((List.range a.length).map (reefW a b)) (a.length : Int) (i : Int) (a.take i) (b.take i) = impl_ReadReefing.L0 ((List.range a.length).map (reefW a b)) (a.length : Int) ((i + 1 : Nat) : Int) (a.take (i + 1)) (b.take (i + 1))
      obtain ⟨x, y, e1, e2, e3, e4⟩ := hv i hi
      have hr : rdOf ByteArray.empty ((List.range a.length).map (reefW a b)) (i : Int) = pairT 47 (x : Int) (y : Int) := by
        have : rdOf ByteArray.empty ((List.range a.length).map (reefW a b)) (i : Int) = reefW a b i := by simp [rdOf, hi]
        rw [this]; unfold reefW; rw [e1, e2]
      have hx := idx_mid (dec (x : Int)) (dec (y : Int)) 47 (fun k hk => by have := dec_bt x e3 k hk; rw [show ((47 : UInt8).toNat : Int) = 47 from rfl]; omega)
      have hcut : strings_Cut.f (pairT 47 (x : Int) (y : Int)) (⟨#[47]⟩ : ByteArray) = some (dec (x : Int), dec (y : Int), true) := by
        have hsz2 := (pairT_size 47 (show (0 : Int) ≤ (x : Int) ∧ (x : Int) ≤ 100000 by omega) (show (0 : Int) ≤ (y : Int) ∧ (y : Int) ≤ 100000 by omega)).2.2
        rw [cut_val _ (by omega)]
        unfold pairT
        rw [hx, if_neg (by omega), Int.toNat_natCast, mid_left, mid_right]
      have ha1 : a.take (i + 1) = a.take i ++ [(x : Int)] := by rw [List.take_add_one, List.getElem?_eq_getElem hi, ← e1, rd_get a i hi]; rfl
      have hb1 : b.take (i + 1) = b.take i ++ [(y : Int)] := by rw [List.take_add_one, List.getElem?_eq_getElem (by omega), ← e2, rd_get b i (by omega)]; rfl
      rw [impl_ReadReefing.L0_eq, if_pos (by omega), if_pos (by omega), if_pos (by rw [hn]; omega), hr, hcut]
      simp only [Option.bind_some]
      rw [read_dec x e3, read_dec y e4]
      simp only [Option.bind_some, if_true]
      rw [if_pos (by rw [List.length_take]; omega), if_pos (by rw [List.length_take]; omega), wS (by omega), ha1, hb1])
    refine Eq.trans this ?_
    show impl_ReadReefing.L0 ((List.range a.length).map (reefW a b)) (a.length : Int) (a.length : Int) (a.take a.length) (b.take a.length) = _
    rw [impl_ReadReefing.L0_eq, if_neg (by omega), List.take_length, ← hl, List.take_length, impl_ValidReefing_val a b (by omega) (by omega), h]
    simp only [Option.bind_some, if_true]
theorem runs_loop {p q ws : List Int} {x : Int} (h : refOk p q = true) (h0 : 0 ≤ x) (h1 : x ≤ p.length) (hw : windsOk ws = true) (hwl : ws.length ≤ 1000) : laws_FnReefRuns.L0 (p.length : Int) ws (runV p q ws x ws.length) (chV p q ws x ws.length) (tmV p q ws x ws.length) 0 0 x 0 p q = some true := by
  obtain ⟨h6, hl⟩ := ref_len h
  have hL := runV_len p q ws x ws.length
  have hws : ∀ i (hi : i < ws.length), windsOk [rd ws (i : Int)] = true := fun i hi => by
    unfold windsOk at hw ⊢
    rw [Bool.and_eq_true] at hw
    have := List.all_eq_true.1 hw.1 ws[i] (List.getElem_mem hi)
    rw [rd_get ws i hi]
    simpa using this
  have := iterF (fun (s : Int × Int × Int) i => laws_FnReefRuns.L0 (p.length : Int) ws (runV p q ws x ws.length) (chV p q ws x ws.length) (tmV p q ws x ws.length) s.1 s.2.1 s.2.2 i p q) ws.length (fun i => (chV p q ws x i, tmV p q ws x i, nowV p q ws x i)) (fun i hi => by
    show laws_FnReefRuns.L0 (p.length : Int) ws (runV p q ws x ws.length) (chV p q ws x ws.length) (tmV p q ws x ws.length) (chV p q ws x i) (tmV p q ws x i) (nowV p q ws x i) (i : Int) p q = laws_FnReefRuns.L0 (p.length : Int) ws (runV p q ws x ws.length) (chV p q ws x ws.length) (tmV p q ws x ws.length) (chV p q ws x (i + 1)) (tmV p q ws x (i + 1)) (nowV p q ws x (i + 1)) ((i + 1 : Nat) : Int) p q
    have hb := nowV_bd (ws := ws) h h0 h1 i
    obtain ⟨n1, n2, n3, n4, n5⟩ := nextV_all h (nowV p q ws x i) (rd ws (i : Int)) hb.1 hb.2
    obtain ⟨m1, m2⟩ := needV_all h (nowV p q ws x i) (rd ws (i : Int)) hb.1 hb.2
    have hc : reefCode p q (nowV p q ws x i) [rd ws (i : Int)] = 0 := by
      unfold reefCode
      rw [if_pos h, if_pos (by rw [hws i hi, Bool.and_true, inB_iff]; exact hb)]
    have hc0 : reefCode p q 0 [rd ws (i : Int)] = 0 := by
      unfold reefCode
      rw [if_pos h, if_pos (by rw [hws i hi, Bool.and_true, inB_iff]; omega)]
    have e1 : impl_NextReef.F p q (nowV p q ws x i) (rd ws (i : Int)) = some (nowV p q ws x (i + 1), 0) := by
      rw [impl_NextReef.F_eq, impl_reefCode_val p q _ _ (by omega) (by omega) (by simp), hc]
      simp only [Option.bind_some, if_true]
      rw [n1]; rfl
    have e2 : impl_NeededReefs.F p q (rd ws (i : Int)) = some (needV p q (rd ws (i : Int)), 0) := by
      rw [impl_NeededReefs.F_eq, impl_reefCode_val p q _ _ (by omega) (by omega) (by simp), hc0]
      simp only [Option.bind_some, if_true]
      rw [m1]; rfl
    have hj : laws_FnReefRuns.J2 (p.length : Int) ws (runV p q ws x ws.length) (chV p q ws x ws.length) (tmV p q ws x ws.length) (chV p q ws x i) (tmV p q ws x i) (nowV p q ws x i) (i : Int) (nowV p q ws x (i + 1)) (needV p q (rd ws (i : Int))) false p q = laws_FnReefRuns.L0 (p.length : Int) ws (runV p q ws x ws.length) (chV p q ws x ws.length) (tmV p q ws x ws.length) (chV p q ws x (i + 1)) (tmV p q ws x (i + 1)) (nowV p q ws x (i + 1)) ((i + 1 : Nat) : Int) p q := by
      rw [laws_FnReefRuns.J2_eq, if_neg nf, chV, tmV, wS (by omega)]
      split <;> rfl
    change nextV p q (nowV p q ws x i) (rd ws (i : Int)) ≤ _ at n3
    have hN : nowV p q ws x (i + 1) = nextV p q (nowV p q ws x i) (rd ws (i : Int)) := rfl
    rw [laws_FnReefRuns.L0_eq, if_pos (by omega), if_pos (by omega), if_pos (by rw [hL]; omega), e1, e2, runV_rd _ _ _ _ _ i hi]
    simp only [Option.bind_some, if_true]
    rw [← hN] at n2 n3 n4 n5 m2
    generalize nowV p q ws x (i + 1) = k at *
    rw [if_neg (show ¬ k < 0 by omega), if_neg (show ¬ k > (p.length : Int) by omega), if_neg (show ¬ k < needV p q (rd ws (i : Int)) by omega)]
    have hout : (if k > 0 then (if 0 ≤ (wrap64 (k - 1)) then (if (wrap64 (k - 1)) < (q.length : Int) then (laws_FnReefRuns.J2 (p.length : Int) ws (runV p q ws x ws.length) (chV p q ws x ws.length) (tmV p q ws x ws.length) (chV p q ws x i) (tmV p q ws x i) (nowV p q ws x i) (i : Int) k (needV p q (rd ws (i : Int))) (decide ((rd ws (i : Int)) < (rd q (wrap64 (k - 1))))) p q) else (none)) else (none)) else (laws_FnReefRuns.J2 (p.length : Int) ws (runV p q ws x ws.length) (chV p q ws x ws.length) (tmV p q ws x ws.length) (chV p q ws x i) (tmV p q ws x i) (nowV p q ws x i) (i : Int) k (needV p q (rd ws (i : Int))) false p q)) = laws_FnReefRuns.J2 (p.length : Int) ws (runV p q ws x ws.length) (chV p q ws x ws.length) (tmV p q ws x ws.length) (chV p q ws x i) (tmV p q ws x i) (nowV p q ws x i) (i : Int) k (needV p q (rd ws (i : Int))) false p q := by
      by_cases hk : k > 0
      · rw [if_pos hk, w64 (n := k - 1) (by omega) (by omega), if_pos (by omega), if_pos (by omega), decide_eq_false (n5 (by omega))]
      · rw [if_neg hk]
    by_cases hkn : k < (p.length : Int)
    · have := n4 k.toNat (by omega) (by omega)
      rw [show ((k.toNat : Nat) : Int) = k by omega] at this
      rw [if_pos hkn, if_pos n2, if_pos hkn, if_neg (show ¬ rd ws (i : Int) ≥ rd p k by omega)]
      exact hout.trans hj
    · rw [if_neg hkn]
      exact hout.trans hj)
  refine Eq.trans this ?_
  show laws_FnReefRuns.L0 (p.length : Int) ws (runV p q ws x ws.length) (chV p q ws x ws.length) (tmV p q ws x ws.length) (chV p q ws x ws.length) (tmV p q ws x ws.length) (nowV p q ws x ws.length) (ws.length : Int) p q = _
  obtain ⟨t, e5, e6⟩ := read_back p q h
  rw [laws_FnReefRuns.L0_eq, if_neg (by omega), e5]
  simp only [Option.bind_some]
  rw [e6]
  simp only [Option.bind_some, if_true]
  rw [a2Same_val p (by omega), a2Same_val q (by omega)]
  rfl
theorem pure_FnReefRuns : laws_FnReefRuns.Pure := by
  intro code more h1 h2
  refine of_lim (g := fun k => laws_FnReefRuns.f k code more) ?_
  show laws_FnReefRuns.F code more = some true
  rw [laws_FnReefRuns.F_eq]
  unfold laws_a2Long.f
  by_cases hb : (code.length : Int) > 3000
  · rw [if_pos hb]; rfl
  rw [if_neg hb]
  simp only [Option.bind_some]
  by_cases hb2 : (more.length : Int) > 3000
  · rw [decide_eq_true hb2, if_pos rfl]
  rw [decide_eq_false hb2, if_neg nf]
  have s1 := src_bytes h1 (by omega)
  have s2 := src_bytes h2 (by omega)
  obtain ⟨p, q, e1, hr⟩ := A2Reefing_val s1
  obtain ⟨ws, e2, hw, hwl⟩ := A2Blows_val s2
  obtain ⟨h6, hl⟩ := ref_len hr
  obtain ⟨x, e3, hx0, hx1⟩ := a2At_val s2 0 ((p.length : Int) + 1) (by omega)
  have e3' : laws_a2At.f more 0 ((p.length : Int) + 1) = some x := e3
  rw [e1]; simp only [Option.bind_some]
  rw [e2]; simp only [Option.bind_some]
  rw [w64 (n := (p.length : Int) + 1) (by omega) (by omega), e3']
  simp only [Option.bind_some]
  have hc : reefCode p q x ws = 0 := by
    unfold reefCode
    rw [if_pos hr, if_pos (by rw [hw, Bool.and_true, inB_iff]; omega)]
  have ea : impl_RunReefs.F p q x ws = some (runV p q ws x ws.length, 0) := by
    rw [impl_RunReefs.F_eq, impl_reefCode_val p q x ws (by omega) (by omega) (by omega), hc]
    simp only [Option.bind_some, if_true]
    rw [run_val hr hx0 (by omega) (by omega)]; rfl
  have eb : impl_CountChanges.F p q x ws = some (chV p q ws x ws.length, 0) := by
    rw [impl_CountChanges.F_eq, impl_reefCode_val p q x ws (by omega) (by omega) (by omega), hc]
    simp only [Option.bind_some, if_true]
    rw [count_val hr hx0 (by omega) (by omega)]; rfl
  have ec : impl_TooManyReefs.F p q x ws = some (tmV p q ws x ws.length, 0) := by
    rw [impl_TooManyReefs.F_eq, impl_reefCode_val p q x ws (by omega) (by omega) (by omega), hc]
    simp only [Option.bind_some, if_true]
    rw [run_val hr hx0 (by omega) (by omega)]
    simp only [Option.bind_some]
    rw [runV_len]
    exact many_val hr hx0 (by omega) (by omega)
  rw [ea]; simp only [Option.bind_some]
  rw [eb]; simp only [Option.bind_some]
  rw [ec]; simp only [Option.bind_some, if_true]
  rw [runV_len, if_pos rfl, laws_FnReefRuns.J0_eq, if_neg (by decide)]
  exact runs_loop hr hx0 (by omega) hw (by omega)
end Go.Proofs.YtdlckliobloodaaDoor.PFnReefRuns
namespace Go.Proofs.YtdlckliobloodaaDoor.Pure
theorem FnReefRuns : PFnReefRuns.laws_FnReefRuns.Pure := PFnReefRuns.pure_FnReefRuns
end Go.Proofs.YtdlckliobloodaaDoor.Pure
