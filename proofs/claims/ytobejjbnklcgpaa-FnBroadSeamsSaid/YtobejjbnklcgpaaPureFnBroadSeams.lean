/-
  The pure side of FnBroadSeams: the broad seams are what the reference says, their depths' sum is the depth that was asked for, and no two of them differ by more than one. No conditions.
-/
import Derived.Test.YtobejjbnklcgpaaQFnBroadSeams
set_option linter.unusedVariables false
set_option linter.unusedSimpArgs false
set_option linter.unnecessarySimpa false
namespace Go.Proofs.Ytobejjbnklcgpaa.PFnBroadSeams
open Go.RowKit Go.Proofs.Ytobejjbnklcgpaa.Kit Go.Proofs.YtobejjbnklcgpaaW.PrintWords Go.Proofs.YtobejjbnklcgpaaW.PrintLast Go.Proofs.YtobejjbnklcgpaaW.PrintMore

/-- The bytes that a source reads. -/
def Src (c : List Int) : Prop := c.length ≤ 1048576 ∧ ∀ y ∈ c, 0 ≤ y ∧ y ≤ 255
theorem and255 (x : Int) : 0 ≤ Go.bits .and .u64 x 255 ∧ Go.bits .and .u64 x 255 ≤ 255 := by
  have h : (BitVec.ofInt 64 x &&& BitVec.ofInt 64 255).toNat ≤ 255 := by
    rw [BitVec.toNat_and]
    exact Nat.le_trans Nat.and_le_right (by decide)
  have e : Go.bits .and .u64 x 255 = IntKind.u64.wrap ((BitVec.ofInt 64 x &&& BitVec.ofInt 64 255).toNat : Int) := rfl
  rw [e, IntKind.wrap_u64]
  omega
theorem next_val {c : List Int} (hc : Src c) (at_ seed : Int) (h0 : 0 ≤ at_) (h1 : at_ ≤ 4000000000000000000) : ∃ x sd, spec_l00Src_next.f c at_ seed = some (x, at_ + 1, sd) ∧ 0 ≤ x ∧ x ≤ 255 := by
  unfold spec_l00Src_next.f
  by_cases hb : at_ < (c.length : Int)
  · obtain ⟨j, rfl⟩ : ∃ j : Nat, at_ = j := ⟨at_.toNat, by omega⟩
    have hj : j < c.length := by omega
    have hy := hc.2 c[j] (List.getElem_mem hj)
    have hle : wrap64 ((j : Int) + 1) ≤ (c.length : Int) := by rw [w64 (by omega) (by omega)]; omega
    rw [if_pos hb, if_pos h0, if_pos hle, rd_get c j hj, w64 (n := (j : Int) + 1) (by omega) (by omega), w64 (n := c[j]) (by omega) (by omega)]
    exact ⟨_, _, rfl, hy.1, hy.2⟩
  · have hle : ¬ wrap64 (at_ + 1) ≤ (c.length : Int) := by rw [w64 (by omega) (by omega)]; omega
    rw [if_neg hb, if_neg hle, w64 (n := at_ + 1) (by omega) (by omega)]
    refine ⟨_, _, rfl, ?_⟩
    have h := and255 ((IntKind.u64.wrap ((IntKind.u64.wrap ((IntKind.u64.wrap (seed * 6364136223846793005)) + 0)) + 1442695040888963407)) / 1099511627776)
    rw [w64 (by omega) (by omega)]
    exact h
theorem pick_val {c : List Int} (hc : Src c) (at_ seed n : Int) (h0 : 0 ≤ at_) (h1 : at_ ≤ 1000000000000000000) : ∃ x a sd, spec_l00Src_pick.f c at_ seed n = some (x, a, sd) ∧ at_ ≤ a ∧ a ≤ at_ + 2 ∧ 0 ≤ x ∧ (1 ≤ n → x < n) ∧ (n ≤ 1 → x = 0) := by
  unfold spec_l00Src_pick.f
  by_cases hn : n ≤ 1
  · rw [if_pos hn]
    exact ⟨0, at_, seed, rfl, by omega, by omega, by omega, by omega, by omega⟩
  · obtain ⟨x, sd, e, hx0, hx1⟩ := next_val hc at_ seed h0 (by omega)
    have hn0 : ¬ n = 0 := by omega
    rw [if_neg hn, e]
    simp only [Option.bind_some]
    by_cases hm : n > 200
    · obtain ⟨y, sd2, e2, hy0, hy1⟩ := next_val hc (at_ + 1) sd (by omega) (by omega)
      rw [if_pos hm, e2]
      simp only [Option.bind_some]
      rw [if_neg hn0, w64 (n := x * 256) (by omega) (by omega), w64 (n := x * 256 + y) (by omega) (by omega), Int.tmod_eq_emod_of_nonneg (by omega)]
      exact ⟨_, _, _, rfl, by omega, by omega, Int.emod_nonneg _ hn0, fun _ => Int.emod_lt_of_pos _ (by omega), fun h => absurd h hn⟩
    · rw [if_neg hm, if_neg hn0, Int.tmod_eq_emod_of_nonneg (by omega)]
      exact ⟨_, _, _, rfl, by omega, by omega, Int.emod_nonneg _ hn0, fun _ => Int.emod_lt_of_pos _ (by omega), fun h => absurd h hn⟩
theorem among_val {c : List Int} (hc : Src c) (at_ seed : Int) (l : List Int) (hl : 1 ≤ l.length) (h0 : 0 ≤ at_) (h1 : at_ ≤ 1000000000000000000) : ∃ x a sd, spec_l00Src_among.f c at_ seed l = some (x, a, sd) ∧ at_ ≤ a ∧ a ≤ at_ + 2 ∧ x ∈ l := by
  obtain ⟨x, a, sd, e, h2, h3, h4, h5, _⟩ := pick_val hc at_ seed (l.length : Int) h0 h1
  have h6 := h5 (by omega)
  unfold spec_l00Src_among.f
  rw [e]
  simp only [Option.bind_some]
  rw [if_pos h4, if_pos h6]
  obtain ⟨j, rfl⟩ : ∃ j : Nat, x = j := ⟨x.toNat, by omega⟩
  have hj : j < l.length := by omega
  refine ⟨_, _, _, rfl, h2, h3, ?_⟩
  rw [rd_get l j hj]
  exact List.getElem_mem hj
theorem drawBroad_val {c : List Int} (hc : Src c) : ∃ n x l, spec_DrawBroadSeams.f c = some (n, x, l) := by
  unfold spec_DrawBroadSeams.f spec_l00From.f
  simp only [Option.bind_some]
  obtain ⟨x1, a1, s1, e1, _, _, _⟩ := pick_val hc 0 0 12 (by omega) (by omega)
  rw [e1]; simp only [Option.bind_some]
  obtain ⟨x2, a2, s2, e2, _, _, _⟩ := pick_val hc a1 s1 120 (by omega) (by omega)
  rw [e2]; simp only [Option.bind_some]
  obtain ⟨x3, a3, s3, e3, _, _, _⟩ := pick_val hc a2 s2 12 (by omega) (by omega)
  rw [e3]; simp only [Option.bind_some]
  by_cases h1 : x3 = 0
  · rw [if_pos h1]
    obtain ⟨x4, a4, s4, e4, _, _, _⟩ := among_val hc a3 s3 [(-1), 0, 1, 40, 41] (by decide) (by omega) (by omega)
    rw [e4]; simp only [Option.bind_some]
    obtain ⟨x5, a5, s5, e5, _⟩ := pick_val hc a4 s4 300 (by omega) (by omega)
    rw [e5]; exact ⟨_, _, _, rfl⟩
  rw [if_neg h1]
  by_cases h2 : x3 = 1
  · rw [if_pos h2]
    obtain ⟨x4, a4, s4, e4, _, _, _⟩ := among_val hc a3 s3 [(-1), 0, 1000, 1001] (by decide) (by omega) (by omega)
    rw [e4]; simp only [Option.bind_some]
    obtain ⟨x5, a5, s5, e5, _⟩ := pick_val hc a4 s4 300 (by omega) (by omega)
    rw [e5]; exact ⟨_, _, _, rfl⟩
  rw [if_neg h2]
  by_cases h3 : x3 = 2
  · rw [if_pos h3]
    obtain ⟨x4, a4, s4, e4, _⟩ := among_val hc a3 s3 [(-1), 0, 1, 10000, 10001] (by decide) (by omega) (by omega)
    rw [e4]; exact ⟨_, _, _, rfl⟩
  rw [if_neg h3]
  obtain ⟨x5, a5, s5, e5, _⟩ := pick_val hc a3 s3 300 (by omega) (by omega)
  rw [e5]; exact ⟨_, _, _, rfl⟩
theorem one_val {c : List Int} (hc : Src c) (at_ seed n : Int) (h0 : 0 ≤ at_) (h1 : at_ ≤ 1000000000000000000) : ∃ b a sd, spec_l00Src_one.f c at_ seed n = some (b, a, sd) ∧ at_ ≤ a ∧ a ≤ at_ + 2 := by
  obtain ⟨x, a, sd, e, h2, h3, _⟩ := pick_val hc at_ seed n h0 h1
  unfold spec_l00Src_one.f
  rw [e]
  exact ⟨_, _, _, rfl, h2, h3⟩
theorem drawDepth_loop {c : List Int} (hc : Src c) (k : Int) (hk : k ≤ 41) (d : Nat) : ∀ (j : Int) (out : List Int) (a s : Int), j = d → (out.length : Int) + j = k → 0 ≤ a → a ≤ 1000 - 4 * j → ∃ l, spec_DrawDepthOf.L0 out k j c a s = some l ∧ l.length ≤ 41 := by
  induction d with
  | zero =>
    intro j out a s hj hl h0 h1
    have hj0 : ¬ j > 0 := by omega
    rw [spec_DrawDepthOf.L0_eq, if_neg hj0]
    by_cases hk0 : k > 0
    · obtain ⟨b, a2, s2, e, _, _⟩ := one_val hc a s 12 h0 (by omega)
      rw [if_pos hk0, e]; simp only [Option.bind_some]
      cases b with
      | true =>
        rw [if_pos rfl]
        obtain ⟨x, a3, s3, e3, _⟩ := among_val hc a2 s2 [(-1), 0, 30, 31] (by decide) (by omega) (by omega)
        have ho : 0 < (out.length : Int) := by omega
        rw [e3]; simp only [Option.bind_some]
        rw [if_pos ho]
        exact ⟨_, rfl, by rw [List.length_set]; omega⟩
      | false => rw [if_neg nf]; exact ⟨out, rfl, by omega⟩
    · rw [if_neg hk0]; exact ⟨out, rfl, by omega⟩
  | succ d ih =>
    intro j out a s hj hl h0 h1
    have hj0 : j > 0 := by omega
    have ho : out.length < 17592186044416 := by omega
    obtain ⟨x, a2, s2, e, _, _, _⟩ := pick_val hc a s 20 h0 (by omega)
    rw [spec_DrawDepthOf.L0_eq, if_pos hj0, e]; simp only [Option.bind_some]
    rw [if_pos ho, w64 (n := j - 1) (by omega) (by omega)]
    exact ih (j - 1) (out ++ [x]) a2 s2 (by omega) (by rw [List.length_append]; simp; omega) (by omega) (by omega)
theorem drawDepth_val {c : List Int} (hc : Src c) : ∃ l, spec_DrawDepthOf.F c = some l ∧ l.length ≤ 41 := by
  rw [spec_DrawDepthOf.F_eq]
  unfold spec_l00From.f
  simp only [Option.bind_some]
  obtain ⟨x1, a1, s1, e1, _, _, g0, g1, _⟩ := pick_val hc 0 0 9 (by omega) (by omega)
  have g2 := g1 (by omega)
  rw [e1]; simp only [Option.bind_some]
  obtain ⟨b, a2, s2, e2, _, _⟩ := one_val hc a1 s1 20 (by omega) (by omega)
  rw [e2]; simp only [Option.bind_some]
  cases b with
  | true =>
    rw [if_pos rfl]
    obtain ⟨x3, a3, s3, e3, _, _, g3, g4, _⟩ := pick_val hc a2 s2 2 (by omega) (by omega)
    have g5 := g4 (by omega)
    rw [e3]; simp only [Option.bind_some]
    rw [spec_DrawDepthOf.J0_eq, w64 (n := 40 + x3) (by omega) (by omega)]
    exact drawDepth_loop hc (40 + x3) (by omega) (40 + x3).toNat (40 + x3) [] a3 s3 (by omega) (by show (0 : Int) + _ = _; omega) (by omega) (by omega)
  | false =>
    rw [if_neg nf, spec_DrawDepthOf.J0_eq]
    exact drawDepth_loop hc x1 (by omega) x1.toNat x1 [] a2 s2 (by omega) (by show (0 : Int) + _ = _; omega) (by omega) (by omega)
theorem f6ints_val (l : List Int) (hl : l.length ≤ 1048576) : laws_f6ints.F l l = some true := by
  rw [laws_f6ints.F_eq, if_pos rfl]
  have h := allLoop l (fun _ => true) (fun i => laws_f6ints.L0 l l i) true (fun i hi => by
    show laws_f6ints.L0 l l i = _
    rw [laws_f6ints.L0_eq, if_pos (by omega), if_pos (by omega), if_pos (by omega), if_pos rfl, wS (by omega)]
    rfl) (by
    show laws_f6ints.L0 l l _ = _
    rw [laws_f6ints.L0_eq, if_neg (by omega)])
  refine h.trans ?_
  rw [Bool.and_true, List.all_eq_true.2 (fun _ _ => rfl)]
/-- The sum of numbers. -/
def tot : List Int → Int
  | [] => 0
  | x :: l => x + tot l
theorem tot_snoc (l : List Int) (x : Int) : tot (l ++ [x]) = tot l + x := by
  induction l with
  | nil => show x + 0 = 0 + x; omega
  | cons y l ih => show y + tot (l ++ [x]) = y + tot l + x; rw [ih]; omega
theorem tot_bound (b : Int) (hb : 0 ≤ b) (l : List Int) (h : ∀ y ∈ l, 0 ≤ y ∧ y ≤ b) : 0 ≤ tot l ∧ tot l ≤ b * l.length := by
  induction l with
  | nil => exact ⟨Int.le_refl _, by show (0 : Int) ≤ b * 0; omega⟩
  | cons y l ih =>
    have h1 := h y List.mem_cons_self
    have h2 := ih (fun z hz => h z (List.mem_cons_of_mem _ hz))
    show 0 ≤ y + tot l ∧ y + tot l ≤ b * ((y :: l).length : Int)
    rw [List.length_cons, show ((l.length + 1 : Nat) : Int) = (l.length : Int) + 1 by omega, Int.mul_add, Int.mul_one]
    omega
theorem sumLoop (l : List Int) (hl : l.length ≤ 1048576) (hy : ∀ y ∈ l, 0 ≤ y ∧ y ≤ 1000000) (f : Int → Int → Option Int) (hs : ∀ (i : Nat) (h : i < l.length) (s : Int), f s i = f (wrap64 (s + l[i])) (wrap64 ((i : Int) + 1))) (he : ∀ s, f s l.length = some s) : f 0 0 = some (tot l) := by
  have key : ∀ (d i : Nat) (s : Int), i + d = l.length → 0 ≤ s → s ≤ 1000000 * i → f s i = some (s + tot (l.drop i)) := by
    intro d
    induction d with
    | zero =>
      intro i s hd h0 h1
      rw [show i = l.length by omega, he, List.drop_length]
      show some s = some (s + 0)
      rw [Int.add_zero]
    | succ d ih =>
      intro i s hd h0 h1
      have hi : i < l.length := by omega
      have hyi := hy l[i] (List.getElem_mem hi)
      rw [hs i hi s, w64 (n := s + l[i]) (by omega) (by omega), wS (by omega), ih (i + 1) (s + l[i]) (by omega) (by omega) (by omega), List.drop_eq_getElem_cons hi]
      show some (s + l[i] + tot (l.drop (i + 1))) = some (s + (l[i] + tot (l.drop (i + 1))))
      rw [Int.add_assoc]
  have h := key l.length 0 0 (by omega) (by omega) (by omega)
  rw [Int.zero_add] at h
  exact h
def inB (n a b : Int) : Bool := decide (a ≤ n) && decide (n ≤ b)
theorem inB_iff (n a b : Int) : inB n a b = true ↔ a ≤ n ∧ n ≤ b := by simp [inB]
theorem inB_no (n a b : Int) : inB n a b = false ↔ ¬ (a ≤ n ∧ n ≤ b) := by rw [← inB_iff]; simp
theorem spec_l00In_val (n a b : Int) : spec_l00In.f n a b = some (inB n a b) := by
  unfold spec_l00In.f inB
  by_cases h : n ≥ a
  · rw [if_pos h]; simp [show a ≤ n from h]
  · rw [if_neg h]; simp; omega
theorem impl_within_val (n a b : Int) : impl_within.f n a b = some (inB n a b) := by
  unfold impl_within.f inB
  by_cases h : n ≥ a
  · rw [if_pos h]; simp [show a ≤ n from h]
  · rw [if_neg h]; simp; omega
/-- Depths as told. -/
def depthOk (l : List Int) : Bool := l.all (fun n => inB n 0 30) && decide (l.length ≤ 40)
theorem depthOk_iff {l : List Int} : depthOk l = true ↔ (∀ y ∈ l, 0 ≤ y ∧ y ≤ 30) ∧ l.length ≤ 40 := by
  unfold depthOk
  rw [Bool.and_eq_true, List.all_eq_true, decide_eq_true_eq]
  exact ⟨fun h => ⟨fun y hy => (inB_iff _ _ _).1 (h.1 y hy), h.2⟩, fun h => ⟨fun y hy => (inB_iff _ _ _).2 (h.1 y hy), h.2⟩⟩
theorem impl_Depth_loop (l : List Int) (hl : l.length ≤ 40) (d : Nat) : ∀ (i : Nat) (s : Int), i + d = l.length → 0 ≤ s → s ≤ 30 * i → impl_DepthOf.L0 s l (l.length : Int) i = some (if (l.drop i).all (fun n => inB n 0 30) then (s + tot (l.drop i), 0) else (0, 2)) := by
  induction d with
  | zero =>
    intro i s hd h0 h1
    rw [impl_DepthOf.L0_eq, if_neg (by omega), show i = l.length by omega, List.drop_length]
    show some (s, (0 : Int)) = some (s + 0, 0)
    rw [Int.add_zero]
  | succ d ih =>
    intro i s hd h0 h1
    have hi : i < l.length := by omega
    have hi' : (i : Int) < (l.length : Int) := by omega
    rw [impl_DepthOf.L0_eq, if_pos hi', if_pos (by omega), if_pos hi', rd_get l i hi, impl_within_val, List.drop_eq_getElem_cons hi, List.all_cons]
    simp only [Option.bind_some]
    by_cases hb : inB l[i] 0 30 = true
    · have hb2 := (inB_iff _ _ _).1 hb
      rw [if_pos hb, hb, Bool.true_and, w64 (n := s + l[i]) (by omega) (by omega), wS (by omega), ih (i + 1) (s + l[i]) (by omega) (by omega) (by omega)]
      have e : s + tot (l[i] :: l.drop (i + 1)) = s + l[i] + tot (l.drop (i + 1)) := by show s + (l[i] + tot (l.drop (i + 1))) = _; rw [Int.add_assoc]
      rw [e]
    · rw [if_neg hb, Bool.eq_false_iff.mpr hb, Bool.false_and, if_neg nf]
theorem spec_Sum_val (l : List Int) (h : depthOk l = true) : spec_l00Sum.F l = some (tot l) := by
  rw [depthOk_iff] at h
  rw [spec_l00Sum.F_eq]
  refine sumLoop l (by omega) (fun y hy => by have := h.1 y hy; omega) (fun s i => spec_l00Sum.L0 l s i) (fun i hi s => ?_) (fun s => ?_)
  · show spec_l00Sum.L0 l s i = _
    rw [spec_l00Sum.L0_eq, if_pos (by omega), if_pos (by omega), rd_get l i hi]
  · show spec_l00Sum.L0 l s _ = _
    rw [spec_l00Sum.L0_eq, if_neg (by omega)]
theorem spec_Depth_loop (l : List Int) (hl : l.length ≤ 1048576) (d : Nat) : ∀ (i : Nat), i + d = l.length → (∀ j, (h : j < l.length) → j < i → inB l[j] 0 30 = true) → spec_DepthOf.L0 l i = some (if depthOk l = true then (tot l, 0) else (0, 2)) := by
  induction d with
  | zero =>
    intro i hd hb
    have hall : l.all (fun n => inB n 0 30) = true := by
      rw [List.all_eq_true]
      intro y hy
      obtain ⟨j, hj, rfl⟩ := List.getElem_of_mem hy
      exact hb j hj (by omega)
    rw [spec_DepthOf.L0_eq, if_neg (by omega)]
    by_cases h40 : (l.length : Int) > 40
    · have h : ¬ depthOk l = true := by rw [depthOk_iff]; omega
      rw [if_pos h40, if_neg h]
    · have h : depthOk l = true := by unfold depthOk; rw [hall, decide_eq_true (by omega)]; rfl
      rw [if_neg h40, if_pos h, spec_Sum_val l h]; rfl
  | succ d ih =>
    intro i hd hb
    have hi : i < l.length := by omega
    rw [spec_DepthOf.L0_eq, if_pos (by omega), if_pos (by omega), rd_get l i hi, spec_l00In_val]
    simp only [Option.bind_some]
    by_cases h : inB l[i] 0 30 = true
    · rw [if_pos h, wS (by omega)]
      refine ih (i + 1) (by omega) (fun j hj hji => ?_)
      by_cases he : j = i
      · subst he; exact h
      · exact hb j hj (by omega)
    · have hn : ¬ depthOk l = true := by
        rw [depthOk_iff]
        intro hh
        exact h ((inB_iff _ _ _).2 (hh.1 _ (List.getElem_mem hi)))
      rw [if_neg h, if_neg hn]
theorem DepthOf_vals (l : List Int) (hl : l.length ≤ 1048576) : impl_DepthOf.F l = some (if depthOk l = true then (tot l, 0) else (0, 2)) ∧ spec_DepthOf.F l = some (if depthOk l = true then (tot l, 0) else (0, 2)) := by
  constructor
  · rw [impl_DepthOf.F_eq]
    by_cases h40 : (l.length : Int) > 40
    · have h : ¬ depthOk l = true := by rw [depthOk_iff]; omega
      rw [if_pos h40, if_neg h]
    · rw [if_neg h40]
      have h := impl_Depth_loop l (by omega) l.length 0 0 (by omega) (by omega) (by omega)
      rw [List.drop_zero, Int.zero_add] at h
      refine h.trans ?_
      have e : depthOk l = l.all (fun n => inB n 0 30) := by unfold depthOk; rw [decide_eq_true (by omega), Bool.and_true]
      rw [e]
  · rw [spec_DepthOf.F_eq]
    exact spec_Depth_loop l hl l.length 0 (by omega) (fun j _ h => absurd h (by omega))
/-- What the broad seams are that were found. -/
def seamsGood (n x l q : Int) (o : List Int) : Prop := (o.length : Int) = n ∧ tot o = x ∧ (∀ y ∈ o, 0 ≤ y ∧ y ≤ 30) ∧ (∀ y ∈ o, q ≤ y ∧ y ≤ q + 1) ∧ ∀ y ∈ o, y ≤ l
/-- How many of the first i seams take one more. -/
def more (i fr r : Int) : Int := if i ≤ fr then 0 else if i ≤ fr + r then i - fr else r
theorem broad2_loop (n x l q r fr : Int) (hn : n ≤ 40) (hF : wrap64 (Int.tdiv (wrap64 (n - r)) 2) = fr) (hf0 : 0 ≤ fr) (hr : 0 ≤ r) (hfr : fr + r ≤ n) (hq : 0 ≤ q) (hq2 : q ≤ 1000) (hx : x = q * n + r) (d : Nat) : ∀ (i : Int) (out : List Int), 0 ≤ i → i + d = n → (out.length : Int) = i → tot out = q * i + more i fr r → (∀ y ∈ out, 0 ≤ y ∧ y ≤ 30) → (∀ y ∈ out, q ≤ y ∧ y ≤ q + 1) → (∀ y ∈ out, y ≤ l) →
    ∃ (o : List Int) (c : Int), spec_BroadSeams.L0 n l q r out i = some (o, c) ∧ impl_BroadSeams.L0 n l q r fr out i = some (o, c) ∧ o.length ≤ 40 ∧ (c = 0 → seamsGood n x l q o) := by
  induction d with
  | zero =>
    intro i out h0 hd hl ht h1 h2 h3
    refine ⟨out, 0, ?_, ?_, by omega, fun _ => ⟨by omega, ?_, h1, h2, h3⟩⟩
    · rw [spec_BroadSeams.L0_eq, if_neg (by omega)]
    · rw [impl_BroadSeams.L0_eq, if_neg (by omega)]
    · rw [ht, hx, show i = n by omega]
      unfold more
      split
      · omega
      · split <;> omega
  | succ d ih =>
    intro i out h0 hd hl ht h1 h2 h3
    have hlt : i < n := by omega
    have put : ∀ y : Int, 0 ≤ y → q ≤ y → y ≤ q + 1 → more i fr r + (y - q) = more (i + 1) fr r → ∃ (o : List Int) (c : Int), (if y > 30 then some (([] : List Int), (5 : Int)) else if y > l then some (([] : List Int), 5) else if out.length < 17592186044416 then spec_BroadSeams.L0 n l q r (out ++ [y]) (wrap64 (i + 1)) else none) = some (o, c) ∧ (if y > 30 then some (([] : List Int), (5 : Int)) else if y > l then some (([] : List Int), 5) else if out.length < 17592186044416 then impl_BroadSeams.L0 n l q r fr (out ++ [y]) (wrap64 (i + 1)) else none) = some (o, c) ∧ o.length ≤ 40 ∧ (c = 0 → seamsGood n x l q o) := by
      intro y hy0 hy1 hy2 hm
      by_cases g1 : y > 30
      · rw [if_pos g1, if_pos g1]; exact ⟨[], 5, rfl, rfl, by simp, by omega⟩
      · rw [if_neg g1, if_neg g1]
        by_cases g2 : y > l
        · rw [if_pos g2, if_pos g2]; exact ⟨[], 5, rfl, rfl, by simp, by omega⟩
        · have hol : out.length < 17592186044416 := by omega
          rw [if_neg g2, if_neg g2, if_pos hol, if_pos hol, w64 (by omega) (by omega)]
          refine ih (i + 1) (out ++ [y]) (by omega) (by omega) (by rw [List.length_append]; simp; omega) ?_ ?_ ?_ ?_
          · rw [tot_snoc, ht, Int.mul_add, Int.mul_one]; omega
          · intro z hz
            rcases List.mem_append.1 hz with h | h
            · exact h1 z h
            · rw [List.mem_singleton.1 h]; omega
          · intro z hz
            rcases List.mem_append.1 hz with h | h
            · exact h2 z h
            · rw [List.mem_singleton.1 h]; omega
          · intro z hz
            rcases List.mem_append.1 hz with h | h
            · exact h3 z h
            · rw [List.mem_singleton.1 h]; omega
    rw [spec_BroadSeams.L0_eq, impl_BroadSeams.L0_eq, if_pos hlt, if_pos hlt, hF]
    by_cases h : i ≥ fr
    · rw [if_pos h, if_pos h, w64 (n := fr + r) (by omega) (by omega), spec_BroadSeams.J2_eq, impl_BroadSeams.J2_eq, w64 (n := q + 1) (by omega) (by omega)]
      by_cases hb : i < fr + r
      · rw [decide_eq_true hb, if_pos rfl, if_pos rfl]
        refine put (q + 1) (by omega) (by omega) (by omega) ?_
        unfold more
        split <;> split <;> (try split) <;> (try split) <;> omega
      · rw [decide_eq_false hb, if_neg nf, if_neg nf]
        refine put q (by omega) (by omega) (by omega) ?_
        unfold more
        split <;> split <;> (try split) <;> (try split) <;> omega
    · rw [if_neg h, if_neg h, spec_BroadSeams.J2_eq, impl_BroadSeams.J2_eq, if_neg nf, if_neg nf]
      refine put q (by omega) (by omega) (by omega) ?_
      unfold more
      split <;> split <;> (try split) <;> (try split) <;> omega
theorem BroadSeams_good (n x l : Int) : ∃ (o : List Int) (c q : Int), spec_BroadSeams.F n x l = some (o, c) ∧ impl_BroadSeams.F n x l = some (o, c) ∧ o.length ≤ 40 ∧ (c = 0 → seamsGood n x l q o) := by
  rw [spec_BroadSeams.F_eq, impl_BroadSeams.F_eq, spec_l00In_val, spec_l00In_val, spec_l00In_val, impl_within_val, impl_within_val, impl_within_val]
  simp only [Option.bind_some]
  have no : ∀ (b : Bool), b = true → ∃ (o : List Int) (c q : Int), spec_BroadSeams.J0 n x l b = some (o, c) ∧ impl_BroadSeams.J0 n x l b = some (o, c) ∧ o.length ≤ 40 ∧ (c = 0 → seamsGood n x l q o) := by
    intro b hb
    subst hb
    exact ⟨[], 2, 0, by rw [spec_BroadSeams.J0_eq, if_pos rfl], by rw [impl_BroadSeams.J0_eq, if_pos rfl], by simp, by omega⟩
  by_cases h1 : inB n 1 40 = true
  · rw [if_pos h1, if_pos h1]
    by_cases h2 : inB x 0 1000 = true
    · rw [if_pos h2, if_pos h2]
      cases h3 : inB l 1 10000 with
      | false => exact no _ rfl
      | true =>
        rw [inB_iff] at h1 h2
        have hn0 : ¬ n = 0 := by omega
        have hr0 := Int.emod_nonneg x hn0
        have hr1 := Int.emod_lt_of_pos x (show 0 < n by omega)
        have hd := Int.mul_ediv_add_emod x n
        have hq0 : 0 ≤ x / n := Int.ediv_nonneg h2.1 (by omega)
        have hq1 : x / n ≤ x := Int.ediv_le_self n h2.1
        have ht : Int.tdiv x n = x / n := Int.tdiv_eq_ediv_of_nonneg h2.1
        have hm : Int.tmod x n = x % n := Int.tmod_eq_emod_of_nonneg h2.1
        have hF : wrap64 (Int.tdiv (wrap64 (n - x % n)) 2) = (n - x % n) / 2 := by
          rw [w64 (n := n - x % n) (by omega) (by omega), Int.tdiv_eq_ediv_of_nonneg (by omega), w64 (by omega) (by omega)]
        rw [spec_BroadSeams.J0_eq, impl_BroadSeams.J0_eq, Bool.not_true, if_neg nf, if_neg nf, if_neg hn0, if_neg hn0, ht, hm, w64 (n := x / n) (by omega) (by omega), hF]
        obtain ⟨o, c, e1, e2, e3, e4⟩ := broad2_loop n x l (x / n) (x % n) ((n - x % n) / 2) h1.2 hF (by omega) hr0 (by omega) hq0 (by omega) (by rw [Int.mul_comm]; omega) n.toNat 0 [] (by omega) (by omega) rfl (by
          show (0 : Int) = _
          unfold more
          rw [if_pos (by omega), Int.mul_zero]; rfl) (by simp) (by simp) (by simp)
        exact ⟨o, c, x / n, e1, e2, e3, e4⟩
    · rw [if_neg h2, if_neg h2]; exact no _ rfl
  · rw [if_neg h1, if_neg h1]; exact no _ rfl
theorem f6sum_val (l : List Int) (h : depthOk l = true) : laws_f6sum.F l = some (tot l) := by
  rw [depthOk_iff] at h
  rw [laws_f6sum.F_eq]
  refine sumLoop l (by omega) (fun y hy => by have := h.1 y hy; omega) (fun s i => laws_f6sum.L0 l s i) (fun i hi s => ?_) (fun s => ?_)
  · show laws_f6sum.L0 l s i = _
    rw [laws_f6sum.L0_eq, if_pos (by omega), if_pos (by omega), rd_get l i hi]
  · show laws_f6sum.L0 l s _ = _
    rw [laws_f6sum.L0_eq, if_neg (by omega)]
theorem law_inner (o : List Int) (ho : o.length ≤ 40) (l q : Int) (hq : ∀ y ∈ o, q ≤ y ∧ y ≤ q + 1) (hy : ∀ y ∈ o, 0 ≤ y ∧ y ≤ 30) (hl : ∀ y ∈ o, y ≤ l) (i : Nat) (hi : i < o.length) (d : Nat) : ∀ j : Nat, j + d = o.length → laws_FnBroadSeams.L1 l o i j = laws_FnBroadSeams.L0 l o ((i + 1 : Nat) : Int) := by
  have h0 : (0 : Int) ≤ (i : Int) := by omega
  have h1 : (i : Int) < (o.length : Int) := by omega
  have qi := hq o[i] (List.getElem_mem hi)
  have yi := hy o[i] (List.getElem_mem hi)
  have li := hl o[i] (List.getElem_mem hi)
  induction d with
  | zero =>
    intro j hj
    have hj2 : ¬ (j : Int) < (o.length : Int) := by omega
    have n1 : ¬ o[i] < 0 := by omega
    have n2 : ¬ o[i] > l := by omega
    rw [laws_FnBroadSeams.L1_eq, if_neg hj2, if_pos h0, if_pos h1, rd_get o i hi, if_neg n1, if_neg n2, wS (by omega)]
  | succ d ih =>
    intro j hj
    have hjl : j < o.length := by omega
    have hj2 : (j : Int) < (o.length : Int) := by omega
    have hj0 : (0 : Int) ≤ (j : Int) := by omega
    have qj := hq o[j] (List.getElem_mem hjl)
    have yj := hy o[j] (List.getElem_mem hjl)
    have n1 : ¬ o[i] > o[j] + 1 := by omega
    rw [laws_FnBroadSeams.L1_eq, if_pos hj2, if_pos h0, if_pos h1, if_pos hj0, rd_get o i hi, rd_get o j hjl, w64 (n := o[j] + 1) (by omega) (by omega), if_neg n1, wS (by omega)]
    exact ih (j + 1) (by omega)
theorem law_outer (o : List Int) (ho : o.length ≤ 40) (l q : Int) (hq : ∀ y ∈ o, q ≤ y ∧ y ≤ q + 1) (hy : ∀ y ∈ o, 0 ≤ y ∧ y ≤ 30) (hl : ∀ y ∈ o, y ≤ l) (d : Nat) : ∀ i : Nat, i + d = o.length → laws_FnBroadSeams.L0 l o i = some true := by
  induction d with
  | zero =>
    intro i hi
    rw [laws_FnBroadSeams.L0_eq, if_neg (by omega)]
  | succ d ih =>
    intro i hi
    have h := law_inner o ho l q hq hy hl i (by omega) o.length 0 (by omega)
    rw [laws_FnBroadSeams.L0_eq, if_pos (by omega)]
    exact h.trans (ih (i + 1) (by omega))
theorem pure_FnBroadSeams : laws_FnBroadSeams.Pure := by
  intro code hcode
  refine of_lim (g := fun k => laws_FnBroadSeams.f k code) ?_
  show laws_FnBroadSeams.F code = some true
  rw [laws_FnBroadSeams.F_eq]
  unfold laws_f6big.f
  simp only [Option.bind_some]
  by_cases hb : (code.length : Int) > 4096
  · rw [decide_eq_true hb, if_pos rfl]
  have hc : Src code := ⟨by omega, fun y hy => by
    have h := hcode.2 y hy
    have h2 : IntKind.u8.min ≤ y ∧ y ≤ IntKind.u8.max := by simpa [Lit.wf] using h
    exact h2⟩
  rw [decide_eq_false hb, if_neg nf]
  obtain ⟨n, x, l, e1⟩ := drawBroad_val hc
  obtain ⟨o, c, q, e2, e3, ho, hgood⟩ := BroadSeams_good n x l
  obtain ⟨t, e4, ht⟩ := drawDepth_val hc
  obtain ⟨e5, e6⟩ := DepthOf_vals t (by omega)
  rw [e1]; simp only [Option.bind_some]
  rw [e3]; simp only [Option.bind_some]
  rw [e2]; simp only [Option.bind_some]
  rw [e4]; simp only [Option.bind_some]
  rw [e5]; simp only [Option.bind_some]
  rw [e6]; simp only [Option.bind_some]
  rw [if_pos trivial, f6ints_val o (by omega)]; simp only [Option.bind_some]
  have last : laws_FnBroadSeams.J1 n x l o c o false = some true := by
    rw [laws_FnBroadSeams.J1_eq, if_neg nf]
    by_cases h0 : c = 0
    · obtain ⟨g1, g2, g3, g4, g5⟩ := hgood h0
      have gd : depthOk o = true := by rw [depthOk_iff]; exact ⟨g3, ho⟩
      obtain ⟨e7, _⟩ := DepthOf_vals o (by omega)
      rw [if_pos gd] at e7
      rw [if_pos h0, e7]; simp only [Option.bind_some]
      have hne : ((o.length : Int) != n) = false := by rw [g1]; simp
      rw [if_pos trivial, if_pos g2, laws_FnBroadSeams.J2_eq, hne, if_neg nf]
      exact law_outer o ho l q g4 g3 g5 o.length 0 (by omega)
    · rw [if_neg h0]
  rw [if_pos trivial, if_pos trivial, laws_FnBroadSeams.J0_eq, bne_self_eq_false, if_neg nf]
  by_cases hd : depthOk t = true
  · rw [if_pos hd, if_pos rfl, f6sum_val t hd]; simp only [Option.bind_some]
    rw [bne_self_eq_false]
    exact last
  · rw [if_neg hd, if_neg (by decide)]
    exact last
end Go.Proofs.Ytobejjbnklcgpaa.PFnBroadSeams
namespace Go.Proofs.Ytobejjbnklcgpaa.Pure
theorem FnBroadSeams : PFnBroadSeams.laws_FnBroadSeams.Pure := PFnBroadSeams.pure_FnBroadSeams
end Go.Proofs.Ytobejjbnklcgpaa.Pure
