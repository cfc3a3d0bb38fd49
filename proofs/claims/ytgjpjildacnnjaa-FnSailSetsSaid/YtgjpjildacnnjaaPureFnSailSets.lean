/-
 The pure side of FnSailSets: what BestSails tells keeps the area and balances, a wider range keeps the helm, and overlaps are told in order. No conditions.
-/
import Derived.Test.YtgjpjildacnnjaaQFnSailSets
set_option linter.unusedVariables false
set_option linter.unusedSimpArgs false
set_option linter.unnecessarySimpa false
namespace Go.Proofs.Ytgjpjildacnnjaa.PFnSailSets
open Go.RowKit Go.Proofs.Ytgjpjildacnnjaa.Kit Go.Proofs.YtgjpjildacnnjaaW.PrintWords Go.Proofs.YtgjpjildacnnjaaW.PrintLast Go.Proofs.YtgjpjildacnnjaaW.PrintMore

/-- The bytes that a source reads. -/
def Src (c : List Int) : Prop := c.length ≤ 1048576 ∧ ∀ y ∈ c, 0 ≤ y ∧ y ≤ 255
theorem and255 (x : Int) : 0 ≤ Go.bits .and .u64 x 255 ∧ Go.bits .and .u64 x 255 ≤ 255 := by
 have h : (BitVec.ofInt 64 x &&& BitVec.ofInt 64 255).toNat ≤ 255 := by
  rw [BitVec.toNat_and]
  exact Nat.le_trans Nat.and_le_right (by decide)
 have e : Go.bits .and .u64 x 255 = IntKind.u64.wrap ((BitVec.ofInt 64 x &&& BitVec.ofInt 64 255).toNat : Int) := rfl
 rw [e, IntKind.wrap_u64]
 omega
theorem next_val {c : List Int} (hc : Src c) (at_ seed : Int) (h0 : 0 ≤ at_) (h1 : at_ ≤ 4000000000000000000) : ∃ x sd, spec_l00Src_next.f c at_ seed = some (x, at_ + 1, sd) ∧ 0 ≤ x ∧ x ≤ 255 := by
 unfold spec_l00Src_next.f
 by_cases hb : at_ < (c.length : Int)
 ·obtain ⟨j, rfl⟩ : ∃ j : Nat, at_ = j := ⟨at_.toNat, by omega⟩
  have hj : j < c.length := by omega
  have hy := hc.2 c[j] (List.getElem_mem hj)
  have hle : wrap64 ((j : Int) + 1) ≤ (c.length : Int) := by rw [w64 (by omega) (by omega)]; omega
  rw [if_pos hb, if_pos h0, if_pos hle, rd_get c j hj, w64 (n := (j : Int) + 1) (by omega) (by omega), w64 (n := c[j]) (by omega) (by omega)]
  exact ⟨_, _, rfl, hy.1, hy.2⟩
 ·have hle : ¬ wrap64 (at_ + 1) ≤ (c.length : Int) := by rw [w64 (by omega) (by omega)]; omega
  rw [if_neg hb, if_neg hle, w64 (n := at_ + 1) (by omega) (by omega)]
  refine ⟨_, _, rfl, ?_⟩
  have h := and255 ((IntKind.u64.wrap ((IntKind.u64.wrap ((IntKind.u64.wrap (seed * 6364136223846793005)) + 0)) + 1442695040888963407)) / 1099511627776)
  rw [w64 (by omega) (by omega)]
  exact h
theorem src_bytes {c : List Int} (h : c.length ≤ 9223372036854775807 ∧ ∀ y0 ∈ c, (Lit.int .u8 y0).wf = true) (hl : c.length ≤ 1048576) : Src c := ⟨hl, fun y hy => by
 have h1 := h.2 y hy
 have h2 : IntKind.u8.min ≤ y ∧ y ≤ IntKind.u8.max := by simpa [Lit.wf] using h1
 exact h2⟩
theorem pick_val {c : List Int} (hc : Src c) (at_ seed n : Int) (h0 : 0 ≤ at_) (h1 : at_ ≤ 1000000000000000000) : ∃ x a sd, spec_l00Src_pick.f c at_ seed n = some (x, a, sd) ∧ at_ ≤ a ∧ a ≤ at_ + 2 ∧ 0 ≤ x ∧ (1 ≤ n → x < n) ∧ (n ≤ 1 → x = 0) := by
 unfold spec_l00Src_pick.f
 by_cases hn : n ≤ 1
 ·rw [if_pos hn]
  exact ⟨0, at_, seed, rfl, by omega, by omega, by omega, by omega, by omega⟩
 ·obtain ⟨x, sd, e, hx0, hx1⟩ := next_val hc at_ seed h0 (by omega)
  have hn0 : ¬ n = 0 := by omega
  rw [if_neg hn, e]
  simp only [Option.bind_some]
  by_cases hm : n > 200
  ·obtain ⟨y, sd2, e2, hy0, hy1⟩ := next_val hc (at_ + 1) sd (by omega) (by omega)
   rw [if_pos hm, e2]
   simp only [Option.bind_some]
   rw [if_neg hn0, w64 (n := x * 256) (by omega) (by omega), w64 (n := x * 256 + y) (by omega) (by omega), Int.tmod_eq_emod_of_nonneg (by omega)]
   exact ⟨_, _, _, rfl, by omega, by omega, Int.emod_nonneg _ hn0, fun _ => Int.emod_lt_of_pos _ (by omega), fun h => absurd h hn⟩
  ·rw [if_neg hm, if_neg hn0, Int.tmod_eq_emod_of_nonneg (by omega)]
   exact ⟨_, _, _, rfl, by omega, by omega, Int.emod_nonneg _ hn0, fun _ => Int.emod_lt_of_pos _ (by omega), fun h => absurd h hn⟩
theorem bnd {α β : Type} {o : Option α} {a : α} {f : α → Option β} {r : Option β} (h : o = some a) (h2 : f a = r) : o.bind f = r := by rw [h, Option.bind_some, h2]
theorem itT {α : Type} {c : Prop} [Decidable c] {a b r : α} (h : c) (h2 : a = r) : (if c then a else b) = r := by rw [if_pos h, h2]
theorem itF {α : Type} {c : Prop} [Decidable c] {a b r : α} (h : ¬ c) (h2 : b = r) : (if c then a else b) = r := by rw [if_neg h, h2]
theorem rdIHung (l : List S45) (i : Nat) (h : i < l.length) : rd_T45 l (i : Int) = l[i] := by simp [rd_T45, h]
theorem rdStr (l : List ByteArray) (i : Nat) (h : i < l.length) : rdOf ByteArray.empty l (i : Int) = l[i] := by simp [rdOf, h]
def SmallM (m : List S45) (n : Nat) : Prop := m.length ≤ n ∧ ∀ y ∈ m, y.f0.size ≤ 20 ∧ y.f1.length ≤ 20
theorem smallM_snoc {m : List S45} {n : Nat} {y : S45} (h : SmallM m n) (h1 : y.f0.size ≤ 20) (h2 : y.f1.length ≤ 20) : SmallM (m ++ [y]) (n + 1) := by
 refine ⟨by rw [List.length_append]; have := h.1; simp; omega, fun z hz => ?_⟩
 rcases List.mem_append.1 hz with hz | hz
 ·exact h.2 z hz
 ·rw [List.mem_singleton.1 hz]; exact ⟨h1, h2⟩
theorem smallM_up {m : List S45} {n k : Nat} (h : SmallM m n) (hk : n ≤ k) : SmallM m k := ⟨Nat.le_trans h.1 hk, h.2⟩
theorem pkE {c : List Int} (hc : Src c) {a s n : Int} {β : Type} {f : Int × Int × Int → Option β} {P : β → Prop} (h0 : 0 ≤ a) (h1 : a ≤ 1000000) (k : ∀ x a' s', a ≤ a' → a' ≤ a + 2 → 0 ≤ x → (1 ≤ n → x < n) → ∃ z, f (x, a', s') = some z ∧ P z) : ∃ z, (spec_l00Src_pick.f c a s n).bind f = some z ∧ P z := by
 obtain ⟨x, a', s', e, b1, b2, b3, b4, _⟩ := pick_val hc a s n h0 (by omega)
 obtain ⟨z, e2, p⟩ := k x a' s' b1 b2 b3 b4
 exact ⟨z, bnd e e2, p⟩
theorem one_val {c : List Int} (hc : Src c) {a s n : Int} (h0 : 0 ≤ a) (h1 : a ≤ 1000000) : ∃ x a' s', spec_l00Src_one.f c a s n = some (x, a', s') ∧ a ≤ a' ∧ a' ≤ a + 2 := by
 obtain ⟨x, a', s', e, b1, b2, b3, b4, _⟩ := pick_val hc a s n h0 (by omega)
 refine ⟨x == 0, a', s', ?_, b1, b2⟩
 unfold spec_l00Src_one.f
 exact bnd e rfl
theorem oneE {c : List Int} (hc : Src c) {a s n : Int} {β : Type} {f : Bool × Int × Int → Option β} {P : β → Prop} (h0 : 0 ≤ a) (h1 : a ≤ 1000000) (k : ∀ x a' s', a ≤ a' → a' ≤ a + 2 → ∃ z, f (x, a', s') = some z ∧ P z) : ∃ z, (spec_l00Src_one.f c a s n).bind f = some z ∧ P z := by
 obtain ⟨x, a', s', e, b1, b2⟩ := one_val hc (s := s) (n := n) h0 h1
 obtain ⟨z, e2, p⟩ := k x a' s' b1 b2
 exact ⟨z, bnd e e2, p⟩
theorem amE {c : List Int} (hc : Src c) {a s : Int} {l : List Int} {β : Type} {f : Int × Int × Int → Option β} {P : β → Prop} (hl : 1 ≤ l.length) (h0 : 0 ≤ a) (h1 : a ≤ 1000000) (k : ∀ x a' s', a ≤ a' → a' ≤ a + 2 → ∃ z, f (x, a', s') = some z ∧ P z) : ∃ z, (spec_l00Src_among.f c a s l).bind f = some z ∧ P z := by
 obtain ⟨x, a', s', e, b1, b2, b3, b4, _⟩ := pick_val hc a s (l.length : Int) h0 (by omega)
 have b5 := b4 (by omega)
 obtain ⟨z, e2, p⟩ := k (rd l x) a' s' b1 b2
 refine ⟨z, bnd ?_ e2, p⟩
 unfold spec_l00Src_among.f
 exact bnd e (itT b3 (itT b5 rfl))
theorem rdStr_le {l : List ByteArray} (hq : ∀ y ∈ l, y.size ≤ 20) (x : Int) (h0 : 0 ≤ x) (h1 : x < (l.length : Int)) : (rdOf ByteArray.empty l x).size ≤ 20 := by
 obtain ⟨n, rfl⟩ : ∃ n : Nat, x = (n : Int) := ⟨x.toNat, by omega⟩
 rw [rdStr l n (by omega)]
 exact hq _ (List.getElem_mem _)
theorem txE {c : List Int} (hc : Src c) {a s : Int} {l : List ByteArray} {β : Type} {f : ByteArray × Int × Int → Option β} {P : β → Prop} (hl : 1 ≤ l.length) (hq : ∀ y ∈ l, y.size ≤ 20) (h0 : 0 ≤ a) (h1 : a ≤ 1000000) (k : ∀ x a' s', x.size ≤ 20 → a ≤ a' → a' ≤ a + 2 → ∃ z, f (x, a', s') = some z ∧ P z) : ∃ z, (spec_l00Src_text.f c a s l).bind f = some z ∧ P z := by
 obtain ⟨x, a', s', e, b1, b2, b3, b4, _⟩ := pick_val hc a s (l.length : Int) h0 (by omega)
 have b5 := b4 (by omega)
 obtain ⟨z, e2, p⟩ := k (rdOf ByteArray.empty l x) a' s' (rdStr_le hq x b3 b5) b1 b2
 refine ⟨z, bnd ?_ e2, p⟩
 unfold spec_l00Src_text.f
 exact bnd e (itT b3 (itT b5 rfl))
theorem bE {α β : Type} {o : Option α} {v : α} {f : α → Option β} {P : β → Prop} (h : o = some v) (k : ∃ z, f v = some z ∧ P z) : ∃ z, o.bind f = some z ∧ P z := by
 obtain ⟨z, e, p⟩ := k
 exact ⟨z, bnd h e, p⟩
theorem itE {α : Type} {c : Prop} [Decidable c] {a b : Option α} {P : α → Prop} (h1 : c → ∃ z, a = some z ∧ P z) (h2 : ¬ c → ∃ z, b = some z ∧ P z) : ∃ z, (if c then a else b) = some z ∧ P z := by
 by_cases h : c
 ·rw [if_pos h]; exact h1 h
 ·rw [if_neg h]; exact h2 h
theorem draw13 {c : List Int} (hc : Src c) {a s : Int} (h0 : 0 ≤ a) (h1 : a ≤ 900000) : ∃ z, spec_l13Draw.f c a s = some z ∧ (3 ≤ z.1.length ∧ z.1.length ≤ 4 ∧ a ≤ z.2.1 ∧ z.2.1 ≤ a + 14) := by
 unfold spec_l13Draw.f
 refine pkE hc h0 (by omega) (fun x1 a1 s1 p1 q1 _ _ => ?_)
 dsimp only
 refine pkE hc (by omega) (by omega) (fun x2 a2 s2 p2 q2 _ _ => ?_)
 dsimp only
 refine pkE hc (by omega) (by omega) (fun x3 a3 s3 p3 q3 _ _ => ?_)
 dsimp only
 refine pkE hc (by omega) (by omega) (fun x4 a4 s4 p4 q4 _ _ => ?_)
 dsimp only
 refine pkE hc (by omega) (by omega) (fun x5 a5 s5 p5 q5 _ _ => ?_)
 dsimp only
 refine itE (fun _ => ?_) (fun _ => itE (fun _ => ?_) (fun _ => itE (fun _ => ?_) (fun _ => ?_)))
 ·refine pkE hc (by omega) (by omega) (fun x6 a6 s6 p6 q6 _ _ => ?_)
  dsimp only
  refine pkE hc (by omega) (by omega) (fun x7 a7 s7 p7 q7 _ _ => ?_)
  exact ⟨_, rfl, by simp, by simp, by dsimp only; omega, by dsimp only; omega⟩
 ·refine pkE hc (by omega) (by omega) (fun x6 a6 s6 p6 q6 _ _ => ?_)
  exact ⟨_, rfl, by simp, by simp, by dsimp only; omega, by dsimp only; omega⟩
 ·refine pkE hc (by omega) (by omega) (fun x6 a6 s6 p6 q6 _ _ => ?_)
  exact ⟨_, rfl, by simp, by simp, by dsimp only; omega, by dsimp only; omega⟩
 ·exact ⟨_, rfl, by simp, by simp, by dsimp only; omega, by dsimp only; omega⟩
theorem new17 {c : List Int} (hc : Src c) {a s : Int} (nm : ByteArray) (h0 : 0 ≤ a) (h1 : a ≤ 900000) : ∃ l b a' s', spec_l17New.f c a s nm = some (nm, l, b, a', s') ∧ l.length ≤ 4 ∧ a ≤ a' ∧ a' ≤ a + 16 := by
 obtain ⟨⟨l, a1, s1⟩, e, q1, q2, q3, q4⟩ := draw13 hc (s := s) h0 h1
 dsimp only at q1 q2 q3 q4
 obtain ⟨x, a2, s2, e2, b1, b2⟩ := one_val hc (a := a1) (s := s1) (n := 3) (by omega) (by omega)
 refine ⟨l, !x, a2, s2, ?_, by omega, by omega, by omega⟩
 unfold spec_l17New.f
 exact bnd e (bnd e2 rfl)
theorem bent13 {c : List Int} (hc : Src c) {a s : Int} (h0 : 0 ≤ a) (h1 : a ≤ 900000) : ∃ z, spec_l13Bent.f c a s = some z ∧ (z.1.length ≤ 9 ∧ a ≤ z.2.1 ∧ z.2.1 ≤ a + 24) := by
 obtain ⟨⟨l, a1, s1⟩, e, q1, q2, q3, q4⟩ := draw13 hc (s := s) h0 h1
 dsimp only at q1 q2 q3 q4
 unfold spec_l13Bent.f
 refine bE e ?_
 dsimp only
 refine pkE hc (by omega) (by omega) (fun x2 a2 s2 p2 q2 g2 l2 => ?_)
 dsimp only
 have l3 := l2 (by omega)
 rw [if_pos g2, if_pos l3]
 refine pkE hc (by omega) (by omega) (fun x3 a3 s3 p3 q3 _ _ => ?_)
 dsimp only
 refine itE (fun _ => ?_) (fun _ => itE (fun _ => ?_) (fun _ => itE (fun _ => ?_) (fun _ => itE (fun _ => ?_) (fun _ => itE (fun _ => ?_) (fun _ => ?_)))))
 ·refine amE hc (by simp) (by omega) (by omega) (fun x4 a4 s4 p4 q4 => ?_)
  exact ⟨_, rfl, by dsimp only; rw [List.length_set]; omega, by dsimp only; omega, by dsimp only; omega⟩
 ·refine amE hc (by simp) (by omega) (by omega) (fun x4 a4 s4 p4 q4 => ?_)
  exact ⟨_, rfl, by dsimp only; rw [List.length_set]; omega, by dsimp only; omega, by dsimp only; omega⟩
 ·rw [if_pos (by omega)]
  exact ⟨_, rfl, by dsimp only; rw [List.length_take]; omega, by dsimp only; omega, by dsimp only; omega⟩
 ·refine bE rfl ?_
  (try dsimp only)
  refine oneE hc (by omega) (by omega) (fun x4 a4 s4 p4 q4 => ?_)
  dsimp only
  refine itE (fun _ => ?_) (fun _ => ?_)
  ·rw [if_pos (by simp)]
   exact ⟨_, rfl, by simp, by dsimp only; omega, by dsimp only; omega⟩
  ·exact ⟨_, rfl, by simp, by dsimp only; omega, by dsimp only; omega⟩
 ·rw [if_pos (by omega), if_pos (by omega)]
  exact ⟨_, rfl, by dsimp only; rw [List.length_set, List.length_set]; omega, by dsimp only; omega, by dsimp only; omega⟩
 ·exact ⟨_, rfl, by dsimp only; omega, by dsimp only; omega, by dsimp only; omega⟩
theorem draw17_loop {c : List Int} (hc : Src c) {x3 : List ByteArray} (h3 : x3.length = 5) (hq : ∀ y ∈ x3, y.size ≤ 20) (ct ln : Int) (d : Nat) : ∀ (k a s : Int) (m : List S45), k = d → m.length + d ≤ 5 → SmallM m m.length → 0 ≤ a → a + 20 * d ≤ 800000 → ∃ z, spec_l17Draw.L0 x3 k c a s m ct ln = some z ∧ (SmallM z.1 5 ∧ a ≤ z.2.2.2.1 ∧ z.2.2.2.1 ≤ a + 20 * d) := by
 induction d with
 | zero =>
  intro k a s m hk hl hm h0 h1
  rw [spec_l17Draw.L0_eq, if_neg (by omega)]
  exact ⟨_, rfl, smallM_up hm (by omega), by dsimp only; omega, by dsimp only; omega⟩
 | succ d ih =>
  intro k a s m hk hl hm h0 h1
  have hb := rdStr_le hq (m.length : Int) (by omega) (by omega)
  obtain ⟨l, b, a', s', e, q1, q2, q3⟩ := new17 hc (s := s) (rdOf ByteArray.empty x3 (m.length : Int)) h0 (by omega)
  rw [spec_l17Draw.L0_eq, if_pos (by omega), if_pos (by omega), if_pos (by omega)]
  refine bE e ?_
  dsimp only
  rw [if_pos (by omega), w64 (n := k - 1) (by omega) (by omega)]
  have hm2 := smallM_snoc (y := (⟨rdOf ByteArray.empty x3 (m.length : Int), l, b⟩ : S45)) hm hb (by show l.length ≤ 20; omega)
  obtain ⟨z, e2, p1, p2, p3⟩ := ih (k - 1) a' s' (m ++ [(⟨rdOf ByteArray.empty x3 (m.length : Int), l, b⟩ : S45)]) (by omega) (by rw [List.length_append]; simp; omega) (by rw [List.length_append]; exact hm2) (by omega) (by omega)
  exact ⟨z, e2, p1, by omega, by omega⟩
theorem min_some (a b : Int) : ∃ r, spec_l00Min.f a b = some r := by
 unfold spec_l00Min.f
 split
 ·exact ⟨_, rfl⟩
 ·exact ⟨_, rfl⟩
theorem max_some (a b : Int) : ∃ r, spec_l00Max.f a b = some r := by
 unfold spec_l00Max.f
 split
 ·exact ⟨_, rfl⟩
 ·exact ⟨_, rfl⟩
theorem draw17_J0 {c : List Int} (hc : Src c) {x3 : List ByteArray} (h3 : x3.length = 5) (hq : ∀ y ∈ x3, y.size ≤ 20) (ct ln : Int) {a s : Int} (h0 : 0 ≤ a) (h1 : a ≤ 700000) : ∃ z, spec_l17Draw.J0 x3 c a s [] ct ln = some z ∧ (SmallM z.1 5 ∧ a ≤ z.2.2.2.1 ∧ z.2.2.2.1 ≤ a + 102) := by
 rw [spec_l17Draw.J0_eq]
 refine pkE hc h0 (by omega) (fun x1 a1 s1 p1 q1 g1 l1 => ?_)
 dsimp only
 have l2 := l1 (by omega)
 obtain ⟨z, e, r1, r2, r3⟩ := draw17_loop hc h3 hq ct ln x1.toNat x1 a1 s1 [] (by omega) (by simp; omega) ⟨by simp, by simp⟩ (by omega) (by omega)
 exact ⟨z, e, r1, by omega, by omega⟩
theorem draw17 {c : List Int} (hc : Src c) {a s : Int} (h0 : 0 ≤ a) (h1 : a ≤ 600000) : ∃ z, spec_l17Draw.F c a s = some z ∧ (SmallM z.1 5 ∧ a ≤ z.2.2.2.1 ∧ z.2.2.2.1 ≤ a + 112) := by
 rw [spec_l17Draw.F_eq]
 refine bE rfl ?_
 refine bE rfl ?_
 refine pkE hc h0 (by omega) (fun x1 a1 s1 p1 q1 _ _ => ?_)
 dsimp only
 refine pkE hc (by omega) (by omega) (fun x2 a2 s2 p2 q2 _ _ => ?_)
 dsimp only
 refine oneE hc (by omega) (by omega) (fun x3 a3 s3 p3 q3 => ?_)
 dsimp only
 refine itE (fun _ => ?_) (fun _ => ?_)
 ·refine pkE hc (by omega) (by omega) (fun x4 a4 s4 p4 q4 _ _ => ?_)
  dsimp only
  obtain ⟨r, e⟩ := min_some (wrap64 (200 + x1)) (wrap64 (60 + x4))
  refine bE e ?_
  obtain ⟨z, e2, r1, r2, r3⟩ := draw17_J0 hc (x3 := [(⟨#[106, 105, 98]⟩ : ByteArray), (⟨#[109, 97, 105, 110]⟩ : ByteArray), (⟨#[109, 105, 122, 122, 101, 110]⟩ : ByteArray), (⟨#[116, 111, 112, 115, 97, 105, 108]⟩ : ByteArray), (⟨#[102, 111, 114, 101, 45, 50]⟩ : ByteArray)]) rfl (by decide) r (wrap64 (200 + x1)) (a := a4) (s := s4) (by omega) (by omega)
  exact ⟨z, e2, r1, by omega, by omega⟩
 ·obtain ⟨z, e2, r1, r2, r3⟩ := draw17_J0 hc (x3 := [(⟨#[106, 105, 98]⟩ : ByteArray), (⟨#[109, 97, 105, 110]⟩ : ByteArray), (⟨#[109, 105, 122, 122, 101, 110]⟩ : ByteArray), (⟨#[116, 111, 112, 115, 97, 105, 108]⟩ : ByteArray), (⟨#[102, 111, 114, 101, 45, 50]⟩ : ByteArray)]) rfl (by decide) x2 (wrap64 (200 + x1)) (a := a3) (s := s3) (by omega) (by omega)
  exact ⟨z, e2, r1, by omega, by omega⟩
theorem bent17_loop {c : List Int} (hc : Src c) (ct ln : Int) (d : Nat) : ∀ (k a s : Int) (m : List S45), k = d → m.length + d ≤ 9 → SmallM m m.length → 0 ≤ a → a + 20 * d ≤ 800000 → ∃ z, spec_l17Bent.L0 k c a s m ct ln = some z ∧ (SmallM z.1 9 ∧ a ≤ z.2.2.2.1 ∧ z.2.2.2.1 ≤ a + 20 * d) := by
 induction d with
 | zero =>
  intro k a s m hk hl hm h0 h1
  rw [spec_l17Bent.L0_eq, if_neg (by omega)]
  exact ⟨_, rfl, smallM_up hm (by omega), by dsimp only; omega, by dsimp only; omega⟩
 | succ d ih =>
  intro k a s m hk hl hm h0 h1
  have hz : ∀ n : Int, (strOfNums [n]).size = 1 := fun n => rfl
  rw [spec_l17Bent.L0_eq, if_pos (by omega)]
  refine bE rfl ?_
  rw [if_pos (by rw [hz]; omega)]
  generalize hnm : (⟨#[115]⟩ : ByteArray) ++ strOfNums [(97 + (((m.length : Int)) % 256)) % 256] = nm
  have hb : nm.size ≤ 20 := by rw [← hnm, ByteArray.size_append, hz]; decide
  obtain ⟨l, b, a', s', e, q1, q2, q3⟩ := new17 hc (s := s) nm h0 (by omega)
  refine bE e ?_
  dsimp only
  rw [if_pos (by omega), w64 (n := k - 1) (by omega) (by omega)]
  have hm2 := smallM_snoc (y := (⟨nm, l, b⟩ : S45)) hm hb (by show l.length ≤ 20; omega)
  obtain ⟨z, e2, p1, p2, p3⟩ := ih (k - 1) a' s' (m ++ [(⟨nm, l, b⟩ : S45)]) (by omega) (by rw [List.length_append]; simp; omega) (by rw [List.length_append]; exact hm2) (by omega) (by omega)
  exact ⟨z, e2, p1, by omega, by omega⟩
theorem bent17 {c : List Int} (hc : Src c) {a s : Int} (h0 : 0 ≤ a) (h1 : a ≤ 500000) : ∃ z, spec_l17Bent.F c a s = some z ∧ (SmallM z.1 20 ∧ a ≤ z.2.2.2.1 ∧ z.2.2.2.1 ≤ a + 400) := by
 obtain ⟨⟨m, ct, ln, a1, s1⟩, e, r1, r2, r3⟩ := draw17 hc (s := s) h0 (by omega)
 dsimp only at r1 r2 r3
 have hm := r1.1
 rw [spec_l17Bent.F_eq]
 refine bE e ?_
 dsimp only
 refine pkE hc (by omega) (by omega) (fun x2 a2 s2 p2 q2 _ _ => ?_)
 dsimp only
 refine itE (fun _ => ?_) (fun _ => itE (fun _ => ?_) (fun _ => itE (fun _ => ?_) (fun _ => itE (fun _ => ?_) (fun _ => itE (fun _ => ?_) (fun _ => ?_)))))
 ·refine amE hc (by simp) (by omega) (by omega) (fun x4 a4 s4 p4 q4 => ?_)
  exact ⟨_, rfl, smallM_up r1 (by omega), by dsimp only; omega, by dsimp only; omega⟩
 ·refine amE hc (by simp) (by omega) (by omega) (fun x4 a4 s4 p4 q4 => ?_)
  exact ⟨_, rfl, smallM_up r1 (by omega), by dsimp only; omega, by dsimp only; omega⟩
 ·refine txE hc (by simp) (by decide) (by omega) (by omega) (fun x4 a4 s4 h4 p4 q4 => ?_)
  dsimp only
  obtain ⟨l, b, a5, s5, e5, g1, g2, g3⟩ := new17 hc (a := a4) (s := s4) x4 (by omega) (by omega)
  refine bE e5 ?_
  dsimp only
  rw [if_pos (by omega)]
  exact ⟨_, rfl, smallM_up (smallM_snoc (y := (⟨x4, l, b⟩ : S45)) r1 h4 (by show l.length ≤ 20; omega)) (by omega), by dsimp only; omega, by dsimp only; omega⟩
 ·obtain ⟨⟨l, a5, s5⟩, e5, g1, g2, g3⟩ := bent13 hc (a := a2) (s := s2) (by omega) (by omega)
  dsimp only at g1 g2 g3
  refine bE e5 ?_
  dsimp only
  rw [if_pos (by omega)]
  exact ⟨_, rfl, smallM_up (smallM_snoc (y := (⟨(⟨#[114, 111, 121, 97, 108]⟩ : ByteArray), l, false⟩ : S45)) r1 (by show (⟨#[114, 111, 121, 97, 108]⟩ : ByteArray).size ≤ 20; decide) (by show l.length ≤ 20; omega)) (by omega), by dsimp only; omega, by dsimp only; omega⟩
 ·refine pkE hc (by omega) (by omega) (fun x4 a4 s4 p4 q4 g4 l4 => ?_)
  dsimp only
  have l5 := l4 (by omega)
  rw [w64 (n := 8 + x4) (by omega) (by omega)]
  obtain ⟨z, e2, g1, g2, g3⟩ := bent17_loop hc ct ln (8 + x4).toNat (8 + x4) a4 s4 [] (by omega) (by simp; omega) ⟨by simp, by simp⟩ (by omega) (by omega)
  exact ⟨z, e2, smallM_up g1 (by omega), by omega, by omega⟩
 ·exact ⟨_, rfl, smallM_up r1 (by omega), by dsimp only; omega, by dsimp only; omega⟩
theorem range17 {c : List Int} (hc : Src c) {a s : Int} (h0 : 0 ≤ a) (h1 : a ≤ 600000) : ∃ z, spec_l17DrawRange.F c a s = some z ∧ True := by
 have key : ∀ (x a s : Int), 0 ≤ a → a ≤ 700000 → ∃ z, spec_l17DrawRange.J0 x c a s = some z ∧ True := by
  intro x a s h0 h1
  rw [spec_l17DrawRange.J0_eq]
  refine oneE hc h0 (by omega) (fun x1 a1 s1 p1 q1 => ?_)
  dsimp only
  refine itE (fun _ => ?_) (fun _ => ?_)
  ·refine amE hc (by simp) (by omega) (by omega) (fun x4 a4 s4 p4 q4 => ?_)
   exact ⟨_, rfl, trivial⟩
  ·obtain ⟨r, e⟩ := min_some 1000 x
   refine bE e ?_
   obtain ⟨r2, e2⟩ := max_some (-1000) r
   refine bE e2 ?_
   refine pkE hc (by omega) (by omega) (fun x4 a4 s4 p4 q4 _ _ => ?_)
   exact ⟨_, rfl, trivial⟩
 rw [spec_l17DrawRange.F_eq]
 refine pkE hc h0 (by omega) (fun x1 a1 s1 p1 q1 _ _ => ?_)
 dsimp only
 refine oneE hc (by omega) (by omega) (fun x2 a2 s2 p2 q2 => ?_)
 dsimp only
 refine itE (fun _ => ?_) (fun _ => ?_)
 ·refine amE hc (by simp) (by omega) (by omega) (fun x4 a4 s4 p4 q4 => ?_)
  exact key x4 a4 s4 (by omega) (by omega)
 ·exact key _ _ _ (by omega) (by omega)
theorem drawBest {c : List Int} (hc : Src c) : ∃ m ct ln ar u v, spec_DrawBestSails.F c = some (m, ct, ln, ar, u, v) ∧ SmallM m 20 := by
 have h : ∃ z, spec_DrawBestSails.F c = some z ∧ SmallM z.1 20 := by
  rw [spec_DrawBestSails.F_eq]
  refine bE (v := (c, 0, 0)) rfl ?_
  dsimp only
  obtain ⟨⟨m, ct, ln, a1, s1⟩, e, r1, r2, r3⟩ := bent17 hc (a := 0) (s := 0) (by omega) (by omega)
  dsimp only at r1 r2 r3
  refine bE e ?_
  dsimp only
  refine pkE hc (by omega) (by omega) (fun x2 a2 s2 p2 q2 _ _ => ?_)
  dsimp only
  refine oneE hc (by omega) (by omega) (fun x3 a3 s3 p3 q3 => ?_)
  dsimp only
  refine itE (fun _ => ?_) (fun _ => ?_)
  ·refine amE hc (by simp) (by omega) (by omega) (fun x4 a4 s4 p4 q4 => ?_)
   dsimp only
   obtain ⟨z, e5, _⟩ := range17 hc (a := a4) (s := s4) (by omega) (by omega)
   exact bE e5 ⟨_, rfl, r1⟩
  ·obtain ⟨z, e5, _⟩ := range17 hc (a := a3) (s := s3) (by omega) (by omega)
   exact bE e5 ⟨_, rfl, r1⟩
 obtain ⟨⟨m, ct, ln, ar, u, v⟩, e, r⟩ := h
 exact ⟨m, ct, ln, ar, u, v, e, r⟩
theorem drawHelm {c : List Int} (hc : Src c) : ∃ m ct ln u v, spec_DrawHelmOf.F c = some (m, ct, ln, u, v) ∧ SmallM m 20 := by
 rw [spec_DrawHelmOf.F_eq]
 obtain ⟨⟨m, ct, ln, a1, s1⟩, e, r1, r2, r3⟩ := bent17 hc (a := 0) (s := 0) (by omega) (by omega)
 dsimp only at r1 r2 r3
 obtain ⟨⟨u, v, a2, s2⟩, e5, _⟩ := range17 hc (a := a1) (s := s1) (by omega) (by omega)
 exact ⟨m, ct, ln, u, v, bnd (a := (c, 0, 0)) rfl (bnd e (bnd e5 rfl)), r1⟩
theorem drawOver {c : List Int} (hc : Src c) : ∃ m ct ln, spec_DrawOverlapsOf.F c = some (m, ct, ln) ∧ SmallM m 20 := by
 rw [spec_DrawOverlapsOf.F_eq]
 obtain ⟨⟨m, ct, ln, a1, s1⟩, e, r1, r2, r3⟩ := bent17 hc (a := 0) (s := 0) (by omega) (by omega)
 exact ⟨m, ct, ln, bnd (a := (c, 0, 0)) rfl (bnd e rfl), r1⟩
theorem mul_bd (a b A B : Int) (h1 : -A ≤ a) (h2 : a ≤ A) (h3 : -B ≤ b) (h4 : b ≤ B) : -(A * B) ≤ a * b ∧ a * b ≤ A * B := by
 constructor
 ·have x1 := Int.mul_nonneg (show 0 ≤ A + a by omega) (show 0 ≤ B + b by omega)
  have x2 := Int.mul_nonneg (show 0 ≤ A - a by omega) (show 0 ≤ B - b by omega)
  grind
 ·have x1 := Int.mul_nonneg (show 0 ≤ A + a by omega) (show 0 ≤ B - b by omega)
  have x2 := Int.mul_nonneg (show 0 ≤ A - a by omega) (show 0 ≤ B + b by omega)
  grind
def R2 (x : Int) : Prop := 0 ≤ x ∧ x ≤ 2000
theorem R2.w {x y : Int} (hx : R2 x) (hy : R2 y) : wrap64 (x - y) = x - y := w64 (by unfold R2 at *; omega) (by unfold R2 at *; omega)
theorem R2.ww {a b c d e f g h : Int} (ha : R2 a) (hb : R2 b) (hc : R2 c) (hd : R2 d) (he : R2 e) (hf : R2 f) (hg : R2 g) (hh : R2 h) : wrap64 ((wrap64 ((wrap64 (a - b)) * (wrap64 (c - d)))) - (wrap64 ((wrap64 (e - f)) * (wrap64 (g - h))))) = (a - b) * (c - d) - (e - f) * (g - h) := by
 rw [ha.w hb, hc.w hd, he.w hf, hg.w hh]
 unfold R2 at *
 have h1 := mul_bd (a - b) (c - d) 2000 2000 (by omega) (by omega) (by omega) (by omega)
 have h2 := mul_bd (e - f) (g - h) 2000 2000 (by omega) (by omega) (by omega) (by omega)
 rw [w64 (n := (a - b) * (c - d)) (by omega) (by omega), w64 (n := (e - f) * (g - h)) (by omega) (by omega), w64 (by omega) (by omega)]
def crossZ (ax ay bx b_y cx cy : Int) : Int := (bx - ax) * (cy - ay) - (b_y - ay) * (cx - ax)
def inB (n a b : Int) : Bool := decide (a ≤ n) && decide (n ≤ b)
theorem inB_iff (n a b : Int) : inB n a b = true ↔ a ≤ n ∧ n ≤ b := by simp [inB]
theorem inB_no (n a b : Int) : inB n a b = false ↔ ¬ (a ≤ n ∧ n ≤ b) := by rw [← inB_iff]; simp
def betB (ax ay bx b_y px py : Int) : Bool := inB px (min ax bx) (max ax bx) && inB py (min ay b_y) (max ay b_y)
def onB (ax ay bx b_y px py : Int) : Bool := decide (crossZ ax ay bx b_y px py = 0) && betB ax ay bx b_y px py
def sidesB (a b c d e f g h : Int) : Bool := (decide (crossZ a b c d e f < 0) && decide (crossZ a b c d g h > 0)) || (decide (crossZ a b c d e f > 0) && decide (crossZ a b c d g h < 0))
def meetB (a b c d e f g h : Int) : Bool := onB a b c d e f || onB a b c d g h || onB e f g h a b || onB e f g h c d || (sidesB a b c d e f g h && sidesB e f g h a b c d)
theorem rdISpot (l : List S70) (i : Nat) (h : i < l.length) : rd_T70 l (i : Int) = l[i] := by simp [rd_T70, h]
/-- A loop from m to n that ends with 'no' at the first place that isn't as it should be. -/
theorem stepLoop {β : Type} (m n : Nat) (p : Nat → Bool) (g : Int → β) (no r : β) (h : ∀ k, m ≤ k → k < n → g (k : Int) = if p k = true then g ((k + 1 : Nat) : Int) else no) (he : ∀ k, n ≤ k → g (k : Int) = r) : g (m : Int) = if (List.range' m (n - m)).all p = true then r else no := by
 have key : ∀ (d i : Nat), n - i = d → m ≤ i → g (i : Int) = if (List.range' i (n - i)).all p = true then r else no := by
  intro d
  induction d with
  | zero =>
   intro i hd hi
   rw [hd, he i (by omega)]; rfl
  | succ d ih =>
   intro i hd hi
   rw [h i hi (by omega), ih (i + 1) (by omega) (by omega), show n - i = (n - (i + 1)) + 1 by omega, List.range'_succ, List.all_cons]
   by_cases hp : p i = true
   ·rw [if_pos hp, hp, Bool.true_and]
   ·rw [if_neg hp, if_neg (by simp [hp])]
 exact key _ m rfl (Nat.le_refl _)
/-- The x and the y of a sail's spot. -/
def sx (l : List S70) (i : Nat) : Int := (rd_T70 l (i : Int)).f0
def sy (l : List S70) (i : Nat) : Int := (rd_T70 l (i : Int)).f1
theorem sx_def (l : List S70) (i : Nat) : (rd_T70 l (i : Int)).f0 = sx l i := rfl
theorem sy_def (l : List S70) (i : Nat) : (rd_T70 l (i : Int)).f1 = sy l i := rfl
def spotIn (p : S70) : Bool := inB p.f0 0 2000 && inB p.f1 0 2000
theorem spots_R (l : List S70) (h : l.all spotIn = true) (i : Nat) (hi : i < l.length) : R2 (sx l i) ∧ R2 (sy l i) := by
 have := List.all_eq_true.1 h l[i] (List.getElem_mem hi)
 simp only [spotIn, Bool.and_eq_true, inB_iff] at this
 unfold sx sy
 rw [rdISpot l i hi]
 exact this
def crossAt (l : List S70) (i j k : Nat) : Int := crossZ (sx l i) (sy l i) (sx l j) (sy l j) (sx l k) (sy l k)
def meetAt (l : List S70) (i j h k : Nat) : Bool := meetB (sx l i) (sy l i) (sx l j) (sy l j) (sx l h) (sy l h) (sx l k) (sy l k)
theorem tmodN (i n : Nat) (h : i < 4611686018427387904) : Int.tmod (wrap64 ((i : Int) + 1)) (n : Int) = (((i + 1) % n : Nat) : Int) := by
 rw [w64 (by omega) (by omega), Int.tmod_eq_emod_of_nonneg (by omega)]; push_cast; rfl
theorem tmodN2 (i n : Nat) (h : i < 4611686018427387904) : Int.tmod (wrap64 ((i : Int) + 2)) (n : Int) = (((i + 2) % n : Nat) : Int) := by
 rw [w64 (by omega) (by omega), Int.tmod_eq_emod_of_nonneg (by omega)]; push_cast; rfl
/-- Twice a sail's area, as the machine sums it up. -/
def twZ (l : List S70) : Nat → Int
 | 0 => 0
 | i + 1 => wrap64 (twZ l i + wrap64 (wrap64 (sx l i * sy l ((i + 1) % l.length)) - wrap64 (sx l ((i + 1) % l.length) * sy l i)))
def pairsOk (l : List S70) (i : Nat) : Bool := (List.range' (i + 2) (l.length - (i + 2))).all fun k => !((decide (i > 0) || decide (k < l.length - 1)) && meetAt l i ((i + 1) % l.length) k ((k + 1) % l.length))
def sailB (l : List S70) : Bool := decide (3 ≤ l.length) && decide (l.length ≤ 8) && (l.all spotIn && ((List.range l.length).all (fun i => decide (crossAt l i ((i + 1) % l.length) ((i + 2) % l.length) ≠ 0) && pairsOk l i) && decide (twZ l l.length > 0)))
theorem sailB_len {l : List S70} (h : sailB l = true) : 3 ≤ l.length ∧ l.length ≤ 8 ∧ l.all spotIn = true := by
 simp only [sailB, Bool.and_eq_true, decide_eq_true_eq] at h
 exact ⟨h.1.1, h.1.2, h.2.1⟩
/-- The sum of the first k. -/
def sumN (f : Nat → Int) : Nat → Int
 | 0 => 0
 | k + 1 => sumN f k + f k
theorem sumN_bd (f : Nat → Int) (B : Int) (k : Nat) (h : ∀ i, i < k → -B ≤ f i ∧ f i ≤ B) : -((k : Int) * B) ≤ sumN f k ∧ sumN f k ≤ (k : Int) * B := by
 induction k with
 | zero => simp [sumN]
 | succ k ih =>
  have h1 := ih (fun i hi => h i (by omega))
  have h2 := h k (by omega)
  have e : ((k + 1 : Nat) : Int) * B = (k : Int) * B + B := by push_cast; grind
  rw [e]
  show -((k : Int) * B + B) ≤ sumN f k + f k ∧ sumN f k + f k ≤ (k : Int) * B + B
  generalize (k : Int) * B = z at *
  omega
theorem sumN_bd8 (f : Nat → Int) (B : Int) (k : Nat) (h0 : 0 ≤ B) (hk : k ≤ 8) (h : ∀ i, i < k → -B ≤ f i ∧ f i ≤ B) : -(8 * B) ≤ sumN f k ∧ sumN f k ≤ 8 * B := by
 have h1 := sumN_bd f B k h
 have h2 : (k : Int) * B ≤ 8 * B := Int.mul_le_mul_of_nonneg_right (by omega) h0
 omega
def cAt (l : List S70) (i : Nat) : Int := sx l i * sy l ((i + 1) % l.length) - sx l ((i + 1) % l.length) * sy l i
def mxt (l : List S70) (i : Nat) : Int := (sx l i + sx l ((i + 1) % l.length)) * cAt l i
def myt (l : List S70) (i : Nat) : Int := (sy l i + sy l ((i + 1) % l.length)) * cAt l i
theorem sail_ts (l : List S70) (hs : sailB l = true) (i : Nat) (hi : i < l.length) :
  (wrap64 (wrap64 (sx l i * sy l ((i + 1) % l.length)) - wrap64 (sx l ((i + 1) % l.length) * sy l i)) = cAt l i) ∧ (-8000000 ≤ cAt l i ∧ cAt l i ≤ 8000000)
  ∧ (wrap64 (wrap64 (sx l i + sx l ((i + 1) % l.length)) * cAt l i) = mxt l i) ∧ (-32000000000 ≤ mxt l i ∧ mxt l i ≤ 32000000000)
  ∧ (wrap64 (wrap64 (sy l i + sy l ((i + 1) % l.length)) * cAt l i) = myt l i) ∧ (-32000000000 ≤ myt l i ∧ myt l i ≤ 32000000000) := by
 obtain ⟨h3, h8, ha⟩ := sailB_len hs
 have hR := spots_R l ha
 have a1 := hR i hi
 have a2 := hR ((i + 1) % l.length) (Nat.mod_lt _ (by omega))
 unfold R2 at a1 a2
 have p1 := mul_bd (sx l i) (sy l ((i + 1) % l.length)) 2000 2000 (by omega) (by omega) (by omega) (by omega)
 have p2 := mul_bd (sx l ((i + 1) % l.length)) (sy l i) 2000 2000 (by omega) (by omega) (by omega) (by omega)
 have hc : -8000000 ≤ cAt l i ∧ cAt l i ≤ 8000000 := by unfold cAt; omega
 have p3 := mul_bd (sx l i + sx l ((i + 1) % l.length)) (cAt l i) 4000 8000000 (by omega) (by omega) (by omega) (by omega)
 have p4 := mul_bd (sy l i + sy l ((i + 1) % l.length)) (cAt l i) 4000 8000000 (by omega) (by omega) (by omega) (by omega)
 refine ⟨?_, hc, ?_, ⟨by unfold mxt; omega, by unfold mxt; omega⟩, ?_, ⟨by unfold myt; omega, by unfold myt; omega⟩⟩
 ·rw [w64 (n := sx l i * sy l ((i + 1) % l.length)) (by omega) (by omega), w64 (n := sx l ((i + 1) % l.length) * sy l i) (by omega) (by omega), w64 (by omega) (by omega)]; rfl
 ·rw [w64 (n := sx l i + sx l ((i + 1) % l.length)) (by omega) (by omega), w64 (by omega) (by omega)]; rfl
 ·rw [w64 (n := sy l i + sy l ((i + 1) % l.length)) (by omega) (by omega), w64 (by omega) (by omega)]; rfl
theorem sail_sums (l : List S70) (hs : sailB l = true) (k : Nat) (hk : k ≤ l.length) : (-64000000 ≤ sumN (cAt l) k ∧ sumN (cAt l) k ≤ 64000000) ∧ (-256000000000 ≤ sumN (mxt l) k ∧ sumN (mxt l) k ≤ 256000000000) ∧ (-256000000000 ≤ sumN (myt l) k ∧ sumN (myt l) k ≤ 256000000000) := by
 obtain ⟨h3, h8, ha⟩ := sailB_len hs
 have h1 := sumN_bd8 (cAt l) 8000000 k (by omega) (by omega) (fun i hi => (sail_ts l hs i (by omega)).2.1)
 have h2 := sumN_bd8 (mxt l) 32000000000 k (by omega) (by omega) (fun i hi => (sail_ts l hs i (by omega)).2.2.2.1)
 have h3 := sumN_bd8 (myt l) 32000000000 k (by omega) (by omega) (fun i hi => (sail_ts l hs i (by omega)).2.2.2.2.2)
 omega
theorem twZ_sum (l : List S70) (hs : sailB l = true) (k : Nat) (hk : k ≤ l.length) : twZ l k = sumN (cAt l) k := by
 induction k with
 | zero => rfl
 | succ k ih =>
  show wrap64 (twZ l k + wrap64 (wrap64 (sx l k * sy l ((k + 1) % l.length)) - wrap64 (sx l ((k + 1) % l.length) * sy l k))) = sumN (cAt l) k + cAt l k
  rw [ih (by omega), (sail_ts l hs k (by omega)).1]
  have h1 := (sail_sums l hs k (by omega)).1
  have h2 := (sail_ts l hs k (by omega)).2.1
  rw [w64 (by omega) (by omega)]
theorem twZ_pos {l : List S70} (hs : sailB l = true) : 0 < twZ l l.length := by
 simp only [sailB, Bool.and_eq_true, decide_eq_true_eq] at hs
 exact hs.2.2.2
/-- The sums over the sails that are set. -/
def hArea (m : List S45) (i : Nat) : Int := if (rd_T45 m (i : Int)).f2 = true then twZ (rd_T45 m (i : Int)).f1 (rd_T45 m (i : Int)).f1.length else 0
def hMx (m : List S45) (i : Nat) : Int := if (rd_T45 m (i : Int)).f2 = true then sumN (mxt (rd_T45 m (i : Int)).f1) (rd_T45 m (i : Int)).f1.length else 0
def hMy (m : List S45) (i : Nat) : Int := if (rd_T45 m (i : Int)).f2 = true then sumN (myt (rd_T45 m (i : Int)).f1) (rd_T45 m (i : Int)).f1.length else 0
def charB (n : Int) : Bool := inB n 97 122 || (inB n 48 57 || decide (n = 45))
theorem charB_iff (n : Int) : charB n = true ↔ (97 ≤ n ∧ n ≤ 122) ∨ (48 ≤ n ∧ n ≤ 57) ∨ n = 45 := by
 simp only [charB, Bool.or_eq_true, inB_iff, decide_eq_true_eq]
/-- Whether a text is a name. -/
def nameB (s : ByteArray) : Bool := decide (1 ≤ s.size) && (decide (s.size ≤ 12) && (inB (bt s 0) 97 122 && (List.range s.size).all fun i => charB (bt s (i : Int))))
theorem idxF_cases {α : Type} (p : α → Bool) (l : List α) : (∃ k, ∃ hk : k < l.length, p l[k] = true ∧ (∀ j (hj : j < k), p (l[j]'(by omega)) = false) ∧ idxF p l = (k : Int)) ∨ ((∀ j (hj : j < l.length), p l[j] = false) ∧ idxF p l = -1) := by
 cases h : l.findIdx? p with
 | some k =>
  left
  obtain ⟨hk, h1, h2⟩ := List.findIdx?_eq_some_iff_getElem.1 h
  exact ⟨k, hk, h1, fun j hj => by simpa using h2 j hj, by unfold idxF; rw [h]⟩
 | none =>
  right
  rw [List.findIdx?_eq_none_iff] at h
  exact ⟨fun j hj => h _ (List.getElem_mem hj), by unfold idxF; rw [List.findIdx?_eq_none_iff.2 h]⟩
theorem idxF_first {α : Type} (p : α → Bool) (l : List α) (i : Nat) (hi : i < l.length) (hp : p l[i] = true) (ha : ∀ j (hj : j < i), p (l[j]'(by omega)) = false) : idxF p l = (i : Int) := by
 rcases idxF_cases p l with ⟨k, hk, h1, h2, e⟩ | ⟨h1, e⟩
 ·by_cases h3 : k < i
  ·have := ha k h3
   rw [h1] at this; cases this
  ·by_cases h4 : i < k
   ·have := h2 i h4
    rw [hp] at this; cases this
   ·rw [e]; omega
 ·have := h1 i hi
  rw [hp] at this; cases this
theorem idxF_take {α : Type} (p : α → Bool) (l : List α) (i : Nat) (hi : i < l.length) (hp : p l[i] = true) : (idxF p l = (i : Int)) ↔ ¬ (idxF p (l.take i) ≥ 0) := by
 have hlen : (l.take i).length = i := by rw [List.length_take]; omega
 rcases idxF_cases p (l.take i) with ⟨k, hk, h1, h2, e⟩ | ⟨h1, e⟩
 ·have hk2 : k < i := by omega
  rw [List.getElem_take] at h1
  constructor
  ·intro h
   rcases idxF_cases p l with ⟨k', hk', h3, h4, e'⟩ | ⟨h3, e'⟩
   ·have : k' = i := by omega
    subst this
    have := h4 k hk2
    rw [h1] at this
    cases this
   ·omega
  ·intro h; omega
 ·constructor
  ·intro _; omega
  ·intro _
   exact idxF_first p l i hi hp (fun j hj => by have := h1 j (by omega); rwa [List.getElem_take] at this)
/-- A loop that finds the first. -/
theorem findLoop {α : Type} (l : List α) (p : α → Bool) (g : Int → Option Int) (h : ∀ i (hi : i < l.length), g (i : Int) = if p l[i] = true then some (i : Int) else g ((i + 1 : Nat) : Int)) (he : g (l.length : Int) = some (-1)) : g 0 = some (idxF p l) := by
 have key : ∀ (d i : Nat), l.length - i = d → i ≤ l.length → (∀ j (hj : j < i) (hl : j < l.length), p l[j] = false) → g (i : Int) = some (idxF p l) := by
  intro d
  induction d with
  | zero =>
   intro i hd hi ha
   obtain rfl : i = l.length := by omega
   rcases idxF_cases p l with ⟨k, hk, h1, h2, e⟩ | ⟨h1, e⟩
   ·have := ha k hk hk
    rw [h1] at this; cases this
   ·rw [he, e]
  | succ d ih =>
   intro i hd hi ha
   have hlt : i < l.length := by omega
   rw [h i hlt]
   by_cases hp : p l[i] = true
   ·rw [if_pos hp, idxF_first p l i hlt hp (fun j hj => ha j hj (by omega))]
   ·rw [if_neg hp]
    refine ih (i + 1) (by omega) (by omega) (fun j hj hl => ?_)
    by_cases e : j = i
    ·subst e; simpa using hp
    ·exact ha j (by omega) hl
 exact key l.length 0 (by omega) (by omega) (fun j hj => absurd hj (Nat.not_lt_zero _))
def hungAt (m : List S45) (i : Nat) : Bool := match m[i]? with
 | some x => nameB x.f0 && (sailB x.f1 && decide (¬ idxF (fun y : S45 => decide (y.f0 = x.f0)) (m.take i) ≥ 0))
 | none => true
def planB (m : List S45) (c d : Int) : Bool := (List.range m.length).all (hungAt m) && (decide (m.length ≤ 8) && (inB d 1 5000 && inB c 0 d))
theorem planB_sails {m : List S45} {c d : Int} (h : planB m c d = true) : m.length ≤ 8 ∧ (1 ≤ d ∧ d ≤ 5000) ∧ (0 ≤ c ∧ c ≤ d) ∧ ∀ y ∈ m, sailB y.f1 = true := by
 simp only [planB, Bool.and_eq_true, decide_eq_true_eq, inB_iff, List.all_eq_true, List.mem_range] at h
 refine ⟨h.2.1, h.2.2.1, h.2.2.2, fun y hy => ?_⟩
 obtain ⟨i, hi, rfl⟩ := List.getElem_of_mem hy
 have := h.1 i hi
 simp only [hungAt, List.getElem?_eq_getElem hi, Bool.and_eq_true] at this
 exact this.2.1
theorem hungAt_eq (m : List S45) (i : Nat) (hi : i < m.length) : hungAt m i = (nameB m[i].f0 && (sailB m[i].f1 && decide (¬ idxF (fun y : S45 => decide (y.f0 = m[i].f0)) (m.take i) ≥ 0))) := by
 unfold hungAt
 rw [List.getElem?_eq_getElem hi]
theorem hung_bd (m : List S45) (hs : ∀ y ∈ m, sailB y.f1 = true) (i : Nat) (hi : i < m.length) : (0 ≤ hArea m i ∧ hArea m i ≤ 64000000) ∧ (-256000000000 ≤ hMx m i ∧ hMx m i ≤ 256000000000) ∧ (-256000000000 ≤ hMy m i ∧ hMy m i ≤ 256000000000) := by
 have h1 := hs m[i] (List.getElem_mem hi)
 unfold hArea hMx hMy
 rw [rdIHung m i hi]
 split
 ·have h2 := sail_sums m[i].f1 h1 m[i].f1.length (Nat.le_refl _)
  have h3 := twZ_sum m[i].f1 h1 m[i].f1.length (Nat.le_refl _)
  have h4 := twZ_pos h1
  omega
 ·omega
def areaZ (m : List S45) : Int := sumN (hArea m) m.length
def mxZ (m : List S45) : Int := sumN (hMx m) m.length
def myZ (m : List S45) : Int := sumN (hMy m) m.length
theorem plan_bd (m : List S45) (h8 : m.length ≤ 8) (hs : ∀ y ∈ m, sailB y.f1 = true) (k : Nat) (hk : k ≤ m.length) : (0 ≤ sumN (hArea m) k ∧ sumN (hArea m) k ≤ 512000000) ∧ (-2048000000000 ≤ sumN (hMx m) k ∧ sumN (hMx m) k ≤ 2048000000000) ∧ (-2048000000000 ≤ sumN (hMy m) k ∧ sumN (hMy m) k ≤ 2048000000000) := by
 have h1 := sumN_bd8 (hArea m) 64000000 k (by omega) (by omega) (fun i hi => by have := hung_bd m hs i (by omega); omega)
 have h2 := sumN_bd8 (hMx m) 256000000000 k (by omega) (by omega) (fun i hi => (hung_bd m hs i (by omega)).2.1)
 have h3 := sumN_bd8 (hMy m) 256000000000 k (by omega) (by omega) (fun i hi => (hung_bd m hs i (by omega)).2.2)
 have h4 : 0 ≤ sumN (hArea m) k := by
  clear h1 h2 h3
  induction k with
  | zero => exact Int.le_refl _
  | succ k ih =>
   have := hung_bd m hs k (by omega)
   have := ih (by omega)
   show 0 ≤ sumN (hArea m) k + hArea m k
   omega
 omega
/-- What the sums need of a plan. -/
def planS (m : List S45) (c d : Int) : Prop := m.length ≤ 8 ∧ (1 ≤ d ∧ d ≤ 5000) ∧ (0 ≤ c ∧ c ≤ d) ∧ ∀ y ∈ m, sailB y.f1 = true
theorem area_bdS {m : List S45} {c d : Int} (hp : planS m c d) : (0 ≤ areaZ m ∧ areaZ m ≤ 512000000) ∧ (-2048000000000 ≤ mxZ m ∧ mxZ m ≤ 2048000000000) ∧ (-2048000000000 ≤ myZ m ∧ myZ m ≤ 2048000000000) := by
 obtain ⟨p1, p2, p3, p4⟩ := id hp
 exact plan_bd m p1 p4 m.length (Nat.le_refl _)
theorem spec_l13Moments_val (l : List S70) (hs : sailB l = true) : spec_l13Moments.F l = some (sumN (mxt l) l.length, sumN (myt l) l.length) := by
 obtain ⟨h3, h8, ha⟩ := sailB_len hs
 rw [spec_l13Moments.F_eq]
 have := iterF (fun (s : Int × Int) i => spec_l13Moments.L0 l s.1 s.2 i) l.length (fun i => (sumN (mxt l) i, sumN (myt l) i)) (fun i hi => by
  show spec_l13Moments.L0 _ _ _ _ = spec_l13Moments.L0 _ (sumN (mxt l) i + mxt l i) (sumN (myt l) i + myt l i) _
  have hm := Nat.mod_lt (i + 1) (show 0 < l.length by omega)
  obtain ⟨e1, b1, e2, b2, e3, b3⟩ := sail_ts l hs i hi
  have h5 := sail_sums l hs i (by omega)
  rw [spec_l13Moments.L0_eq, if_pos (by omega), if_pos (by omega), if_neg (by omega), tmodN i l.length (by omega), if_pos (by omega), if_pos (by omega), wS (by omega)]
  simp only [sx_def, sy_def]
  rw [e1, e2, e3, w64 (n := sumN (mxt l) i + mxt l i) (by omega) (by omega), w64 (n := sumN (myt l) i + myt l i) (by omega) (by omega)])
 refine Eq.trans this ?_
 show spec_l13Moments.L0 _ _ _ _ = _
 rw [spec_l13Moments.L0_eq, if_neg (by omega)]
theorem l17Moments_L0 (m : List S45) (c d : Int) (s t i : Int) : spec_l17Moments.L0 [⟨m, c, d⟩] s t i = if i < (m.length : Int) then (if 0 ≤ i then (if (rd_T45 m i).f2 = true then ((spec_l13Moments.F ((rd_T45 m i).f1)).bind fun b => (spec_l17Moments.L0 [⟨m, c, d⟩] (wrap64 (s + b.1)) (wrap64 (t + b.2)) (wrap64 (i + 1)))) else (spec_l17Moments.L0 [⟨m, c, d⟩] s t (wrap64 (i + 1)))) else (none)) else (some (s, t)) := spec_l17Moments.L0_eq [⟨m, c, d⟩] s t i
theorem spec_l17Moments_val (m : List S45) (c d : Int) (h8 : m.length ≤ 8) (hs : ∀ y ∈ m, sailB y.f1 = true) : spec_l17Moments.F [⟨m, c, d⟩] = some (mxZ m, myZ m) := by
 rw [spec_l17Moments.F_eq, if_pos (by simp)]
 have := iterF (fun (s : Int × Int) i => spec_l17Moments.L0 [⟨m, c, d⟩] s.1 s.2 i) m.length (fun i => (sumN (hMx m) i, sumN (hMy m) i)) (fun i hi => by
  show spec_l17Moments.L0 _ _ _ _ = spec_l17Moments.L0 _ (sumN (hMx m) i + hMx m i) (sumN (hMy m) i + hMy m i) _
  have h1 := hs m[i] (List.getElem_mem hi)
  have h3 := plan_bd m h8 hs i (by omega)
  have h4 := hung_bd m hs i hi
  rw [l17Moments_L0, if_pos (by omega), if_pos (by omega), wS (by omega)]
  unfold hMx hMy at *
  rw [rdIHung m i hi] at *
  split
  ·rename_i hf
   rw [spec_l13Moments_val _ h1]
   simp only [Option.bind_some]
   rw [if_pos hf, if_pos hf] at h4
   rw [w64 (n := _ + sumN (mxt _) _) (by omega) (by omega), w64 (n := _ + sumN (myt _) _) (by omega) (by omega)]
  ·rw [Int.add_zero, Int.add_zero])
 refine Eq.trans this ?_
 show spec_l17Moments.L0 _ _ _ _ = _
 rw [l17Moments_L0, if_neg (by omega)]
 rfl
theorem spec_l13Twice_val (l : List S70) (hn : 0 < l.length) (hl : l.length < 4611686018427387904) : spec_l13Twice.F l = some (twZ l l.length) := by
 rw [spec_l13Twice.F_eq]
 have := iterF (fun s i => spec_l13Twice.L0 l s i) l.length (twZ l) (fun i hi => by
  show spec_l13Twice.L0 l _ _ = spec_l13Twice.L0 l _ _
  have hm := Nat.mod_lt (i + 1) hn
  rw [spec_l13Twice.L0_eq, if_pos (by omega), if_neg (by omega), tmodN i l.length (by omega), if_pos (by omega), if_pos (by omega), if_pos (by omega), wS (by omega)]
  rfl)
 refine Eq.trans this ?_
 show spec_l13Twice.L0 l _ _ = _
 rw [spec_l13Twice.L0_eq, if_neg (by omega)]
theorem l17Area_L0 (m : List S45) (c d : Int) (s i : Int) : spec_l17Area.L0 [⟨m, c, d⟩] s i = if i < (m.length : Int) then (if 0 ≤ i then (if (rd_T45 m i).f2 = true then ((spec_l13Twice.F ((rd_T45 m i).f1)).bind fun t => (spec_l17Area.L0 [⟨m, c, d⟩] (wrap64 (s + t)) (wrap64 (i + 1)))) else (spec_l17Area.L0 [⟨m, c, d⟩] s (wrap64 (i + 1)))) else (none)) else (some s) := spec_l17Area.L0_eq [⟨m, c, d⟩] s i
theorem spec_l17Area_val (m : List S45) (c d : Int) (h8 : m.length ≤ 8) (hs : ∀ y ∈ m, sailB y.f1 = true) : spec_l17Area.F [⟨m, c, d⟩] = some (areaZ m) := by
 rw [spec_l17Area.F_eq, if_pos (by simp)]
 have := iterF (fun s i => spec_l17Area.L0 [⟨m, c, d⟩] s i) m.length (sumN (hArea m)) (fun i hi => by
  show spec_l17Area.L0 _ _ _ = spec_l17Area.L0 _ (sumN (hArea m) i + hArea m i) _
  have h1 := hs m[i] (List.getElem_mem hi)
  have h2 := sailB_len h1
  have h3 := plan_bd m h8 hs i (by omega)
  have h4 := plan_bd m h8 hs (i + 1) (by omega)
  have h5 : sumN (hArea m) (i + 1) = sumN (hArea m) i + hArea m i := rfl
  rw [l17Area_L0, if_pos (by omega), if_pos (by omega), wS (by omega)]
  unfold hArea at *
  rw [rdIHung m i hi] at *
  split
  ·rename_i hf
   rw [spec_l13Twice_val _ (by omega) (by omega)]
   simp only [Option.bind_some]
   rw [if_pos hf] at h5
   rw [w64 (by omega) (by omega)]
  ·rw [Int.add_zero])
 refine this.trans ?_
 show spec_l17Area.L0 _ _ _ = _
 rw [l17Area_L0, if_neg (by omega)]
 rfl
theorem impl_twiceSail_val (l : List S70) (hn : 0 < l.length) (hl : l.length < 4611686018427387904) : impl_twiceSail.F l = some (twZ l l.length) := by
 rw [impl_twiceSail.F_eq]
 have := iterF (fun s i => impl_twiceSail.L0 l s l (l.length : Int) i) l.length (twZ l) (fun i hi => by
  show impl_twiceSail.L0 l _ _ _ _ = impl_twiceSail.L0 l _ _ _ _
  have hm := Nat.mod_lt (i + 1) hn
  rw [impl_twiceSail.L0_eq, if_pos (by omega), if_pos (by omega), if_pos (by omega), if_neg (by omega), tmodN i l.length (by omega), if_pos (by omega), if_pos (by omega), wS (by omega)]
  rfl)
 refine Eq.trans this ?_
 show impl_twiceSail.L0 l _ _ _ _ = _
 rw [impl_twiceSail.L0_eq, if_neg (by omega)]
theorem impl_planSums_val (m : List S45) (c d : Int) (h8 : m.length ≤ 8) (hs : ∀ y ∈ m, sailB y.f1 = true) : impl_planSums.F m c d = some (areaZ m, mxZ m, myZ m) := by
 rw [impl_planSums.F_eq]
 have := iterF (fun (s : Int × Int × Int) i => impl_planSums.L0 s.1 s.2.1 s.2.2 m (m.length : Int) i) m.length (fun i => (sumN (hArea m) i, sumN (hMx m) i, sumN (hMy m) i)) (fun i hi => by
  show impl_planSums.L0 _ _ _ _ _ _ = impl_planSums.L0 (sumN (hArea m) i + hArea m i) (sumN (hMx m) i + hMx m i) (sumN (hMy m) i + hMy m i) _ _ _
  have h1 := hs m[i] (List.getElem_mem hi)
  have h2 := sailB_len h1
  have h3 := plan_bd m h8 hs i (by omega)
  have h4 := hung_bd m hs i hi
  rw [impl_planSums.L0_eq, if_pos (by omega), if_pos (by omega), if_pos (by omega)]
  unfold hArea hMx hMy at *
  rw [rdIHung m i hi] at *
  by_cases hf : m[i].f2 = true
  ·simp only [if_pos hf] at h4 ⊢
   rw [impl_twiceSail_val _ (by omega) (by omega)]
   simp only [Option.bind_some]
   rw [w64 (n := _ + twZ _ _) (by omega) (by omega)]
   generalize hA : sumN (hArea m) i + twZ m[i].f1 m[i].f1.length = A at *
   have hA2 : sumN (fun i => if (rd_T45 m (i : Int)).f2 = true then twZ (rd_T45 m (i : Int)).f1 (rd_T45 m (i : Int)).f1.length else 0) i + twZ m[i].f1 m[i].f1.length = A := hA
   simp only [hA2] at *
   generalize hX : sumN (fun i => if (rd_T45 m (i : Int)).f2 = true then sumN (mxt (rd_T45 m (i : Int)).f1) (rd_T45 m (i : Int)).f1.length else 0) i = X at *
   generalize hY : sumN (fun i => if (rd_T45 m (i : Int)).f2 = true then sumN (myt (rd_T45 m (i : Int)).f1) (rd_T45 m (i : Int)).f1.length else 0) i = Y at *
   have h3x : -2048000000000 ≤ X ∧ X ≤ 2048000000000 := h3.2.1
   have h3y : -2048000000000 ≤ Y ∧ Y ≤ 2048000000000 := h3.2.2
   generalize m[i].f0 = nm
   generalize m[i].f2 = st
   generalize hl : m[i].f1 = l at *
   clear hA2 hA hX hY hl h3 h4
   have hin := iterF (fun (s : Int × Int) j => impl_planSums.L1 A s.1 s.2 m (m.length : Int) (i : Int) l (l.length : Int) j nm l st) l.length (fun j => (X + sumN (mxt l) j, Y + sumN (myt l) j)) (fun j hj => by
    show impl_planSums.L1 _ _ _ _ _ _ _ _ _ _ _ _ = impl_planSums.L1 _ (X + (sumN (mxt l) j + mxt l j)) (Y + (sumN (myt l) j + myt l j)) _ _ _ _ _ _ _ _ _
    have hm := Nat.mod_lt (j + 1) (show 0 < l.length by omega)
    obtain ⟨e1, b1, e2, b2, e3, b3⟩ := sail_ts l h1 j hj
    have h5 := sail_sums l h1 j (by omega)
    rw [impl_planSums.L1_eq, if_pos (by omega), if_pos (by omega), if_pos (by omega), if_neg (by omega), tmodN j l.length (by omega), if_pos (by omega), if_pos (by omega), wS (by omega)]
    simp only [sx_def, sy_def]
    rw [e1, e2, e3, w64 (n := X + sumN (mxt l) j + mxt l j) (by omega) (by omega), w64 (n := Y + sumN (myt l) j + myt l j) (by omega) (by omega), Int.add_assoc, Int.add_assoc])
   simp only [sumN, Int.add_zero] at hin
   refine hin.trans ?_
   rw [impl_planSums.L1_eq, if_neg (by omega), wS (by omega)]
  ·simp only [if_neg hf, Int.add_zero]
   rw [wS (by omega)])
 refine Eq.trans this ?_
 show impl_planSums.L0 _ _ _ _ _ _ = _
 rw [impl_planSums.L0_eq, if_neg (by omega)]
 rfl
theorem gcdLoop (L : Int → Int → Option Int) (hL : ∀ a b, L a b = if b = 0 then some a else L b (Int.tmod a b)) (b : Nat) : ∀ a : Nat, L (a : Int) (b : Int) = some ((Nat.gcd a b : Nat) : Int) := by
 induction b using Nat.strongRecOn with
 | _ b ih =>
  intro a
  rw [hL]
  by_cases h : b = 0
  ·subst h; simp
  ·rw [if_neg (by omega), ← Int.ofNat_tmod, ih (a % b) (Nat.mod_lt _ (by omega)) b, Nat.gcd_comm a b, Nat.gcd_rec b a, Nat.gcd_comm]
/-- A fraction in lowest terms. -/
def fgcd (a b : Int) : Int := ((Nat.gcd a.natAbs b.natAbs : Nat) : Int)
def fracN (a b : Int) : Int := wrap64 (Int.tdiv a (fgcd a b))
def fracD (a b : Int) : Int := wrap64 (Int.tdiv b (fgcd a b))
theorem fgcd_pos (a b : Int) (hb : 0 < b) : 0 < fgcd a b := by
 have : 0 < Nat.gcd a.natAbs b.natAbs := Nat.gcd_pos_of_pos_right _ (by omega)
 unfold fgcd; omega
theorem frac_mul (a b : Int) (ha : -9223372036854775807 ≤ a) (ha2 : a ≤ 9223372036854775807) (hb : 0 < b) (hb2 : b ≤ 9223372036854775807) : fgcd a b * fracN a b = a ∧ fgcd a b * fracD a b = b := by
 have hp := fgcd_pos a b hb
 have d1 : fgcd a b ∣ a := Int.natAbs_dvd_natAbs.1 (by unfold fgcd; exact Nat.gcd_dvd_left _ _)
 have d2 : fgcd a b ∣ b := Int.natAbs_dvd_natAbs.1 (by unfold fgcd; exact Nat.gcd_dvd_right _ _)
 have e1 := Int.mul_tdiv_cancel' d1
 have e2 := Int.mul_tdiv_cancel' d2
 have n1 : (Int.tdiv a (fgcd a b)).natAbs ≤ a.natAbs := by rw [Int.natAbs_tdiv]; exact Nat.div_le_self _ _
 have n2 : (Int.tdiv b (fgcd a b)).natAbs ≤ b.natAbs := by rw [Int.natAbs_tdiv]; exact Nat.div_le_self _ _
 unfold fracN fracD
 rw [w64 (by omega) (by omega), w64 (by omega) (by omega)]
 exact ⟨e1, e2⟩
theorem impl_fraction_val (a b : Int) (ha : -9223372036854775807 ≤ a) (ha2 : a ≤ 9223372036854775807) (hb : 0 < b) (hb2 : b ≤ 9223372036854775807) : impl_fraction.F a b = some (fracN a b, fracD a b) := by
 rw [impl_fraction.F_eq, if_neg (by omega)]
 have hg := gcdLoop (fun x y => impl_gcd.L0 x y) (fun x y => impl_gcd.L0_eq x y) b.natAbs a.natAbs
 have hg2 : impl_gcd.F a b = some (fgcd a b) := by
  rw [impl_gcd.F_eq]
  simp only [impl_gcd.J0_eq]
  rw [show b = ((b.natAbs : Nat) : Int) by omega]
  by_cases h : a < 0
  ·rw [if_pos h, w64 (by omega) (by omega), show -a = ((a.natAbs : Nat) : Int) by omega]
   refine Eq.trans hg ?_
   simp [fgcd]
  ·rw [if_neg h]
   refine Eq.trans (congrArg (fun z => impl_gcd.L0 z _) (show a = ((a.natAbs : Nat) : Int) by omega)) (Eq.trans hg ?_)
   simp [fgcd]
 have hp := fgcd_pos a b hb
 rw [hg2]; simp only [Option.bind_some]
 rw [if_neg (by omega)]; rfl
/-- By how much the sails' centre is in front, times thrice the area. -/
def leadZ (m : List S45) (c : Int) : Int := mxZ m - c * (3 * areaZ m)
theorem lead_bdS {m : List S45} {c d : Int} (hp : planS m c d) : (0 ≤ c * (3 * areaZ m) ∧ c * (3 * areaZ m) ≤ 7680000000000) ∧ -9728000000000 ≤ leadZ m c ∧ leadZ m c ≤ 9728000000000 := by
 have hb := area_bdS hp
 obtain ⟨p1, p2, p3, p4⟩ := id hp
 have h1 := mul_bd c (3 * areaZ m) 5000 1536000000 (by omega) (by omega) (by omega) (by omega)
 have h2 := Int.mul_nonneg p3.1 (show 0 ≤ 3 * areaZ m by omega)
 unfold leadZ
 omega
theorem spec_l17Lead_val (m : List S45) (c d : Int) (hp : planS m c d) : spec_l17Lead.F [⟨m, c, d⟩] = some (leadZ m c, 3 * areaZ m) := by
 obtain ⟨p1, p2, p3, p4⟩ := id hp
 have hb := area_bdS hp
 have hl := lead_bdS hp
 have e : spec_l17Lead.F [⟨m, c, d⟩] = if 0 < (([⟨m, c, d⟩] : List S26).length : Int) then ((spec_l17Moments.F [⟨m, c, d⟩]).bind fun b => ((spec_l17Area.F [⟨m, c, d⟩]).bind fun t => (some (wrap64 (b.1 - (wrap64 (c * (wrap64 (3 * t))))), wrap64 (3 * t))))) else (none) := spec_l17Lead.F_eq _
 rw [e, if_pos (by simp), spec_l17Moments_val m c d p1 p4]
 simp only [Option.bind_some]
 rw [spec_l17Area_val m c d p1 p4]
 simp only [Option.bind_some]
 unfold leadZ at *
 rw [w64 (n := 3 * areaZ m) (by omega) (by omega), w64 (n := c * (3 * areaZ m)) (by omega) (by omega), w64 (by omega) (by omega)]
theorem impl_leadOf_val (m : List S45) (c d : Int) (hp : planS m c d) : impl_leadOf.F m c d = some (if areaZ m = 0 then (0, 0, false) else (fracN (leadZ m c) (3 * areaZ m), fracD (leadZ m c) (3 * areaZ m), true)) := by
 obtain ⟨p1, p2, p3, p4⟩ := id hp
 have hb := area_bdS hp
 have hl := lead_bdS hp
 rw [impl_leadOf.F_eq, impl_planSums_val m c d p1 p4]
 simp only [Option.bind_some]
 by_cases h0 : areaZ m = 0
 ·rw [if_pos h0, if_pos h0]
 ·rw [if_neg h0, if_neg h0]
  have e : wrap64 (mxZ m - wrap64 (wrap64 (3 * areaZ m) * c)) = leadZ m c := by
   rw [w64 (n := 3 * areaZ m) (by omega) (by omega), Int.mul_comm (3 * areaZ m) c]
   unfold leadZ at *
   rw [w64 (n := c * (3 * areaZ m)) (by omega) (by omega), w64 (by omega) (by omega)]
  rw [e, w64 (n := 3 * areaZ m) (by omega) (by omega), impl_fraction_val _ _ (by omega) (by omega) (by omega) (by omega)]
  rfl
theorem spec_l00In_val (n a b : Int) : spec_l00In.f n a b = some (inB n a b) := by
 unfold spec_l00In.f inB
 by_cases h : n ≥ a
 ·rw [if_pos h]; simp [show a ≤ n from h]
 ·rw [if_neg h]; simp; omega
theorem spec_l00Floor_lt (a b t : Int) (hb : 0 < b) (ha : -9223372036854775807 ≤ a) (ha2 : a ≤ 9223372036854775807) : ∃ q, spec_l00Floor.f a b = some q ∧ (q < t ↔ a < t * b) := by
 have e := Int.mul_tdiv_add_tmod a b
 have u := Int.tmod_lt_of_pos a hb
 have v := Int.lt_tmod_of_pos a hb
 have n1 : (Int.tdiv a b).natAbs ≤ a.natAbs := by rw [Int.natAbs_tdiv]; exact Nat.div_le_self _ _
 unfold spec_l00Floor.f
 rw [if_neg (by omega), w64 (n := Int.tdiv a b) (by omega) (by omega)]
 generalize Int.tmod a b = r at *
 generalize Int.tdiv a b = q at *
 have key : ∀ q' r' : Int, b * q' + r' = a → 0 ≤ r' → r' < b → (q' < t ↔ a < t * b) := by
  intro q' r' e' h0 h1
  constructor
  ·intro h
   have h2 : b * (q' + 1) ≤ b * t := Int.mul_le_mul_of_nonneg_left (by omega) (by omega)
   have h3 : b * (q' + 1) = b * q' + b := by grind
   rw [Int.mul_comm t b]; omega
  ·intro h
   by_cases hq : q' < t
   ·exact hq
   ·have h2 : b * t ≤ b * q' := Int.mul_le_mul_of_nonneg_left (by omega) (by omega)
    rw [Int.mul_comm t b] at h; omega
 by_cases hr : r < 0
 ·rw [if_pos hr]
  by_cases hq : q = -9223372036854775808
  ·omega
  ·rw [w64 (n := q - 1) (by omega) (by omega)]
   refine ⟨_, rfl, key (q - 1) (r + b) ?_ (by omega) (by omega)⟩
   have : b * (q - 1) = b * q - b := by grind
   omega
 ·rw [if_neg hr]
  exact ⟨_, rfl, key q r e (by omega) (by omega)⟩
def weatherS : ByteArray := ⟨#[119, 101, 97, 116, 104, 101, 114]⟩
def leeS : ByteArray := ⟨#[108, 101, 101]⟩
def balancedS : ByteArray := ⟨#[98, 97, 108, 97, 110, 99, 101, 100]⟩
def helmZ (m : List S45) (c d a b : Int) : ByteArray := if 1000 * leadZ m c < a * d * (3 * areaZ m) then weatherS else (if b * d * (3 * areaZ m) < 1000 * leadZ m c then leeS else balancedS)
theorem spec_l17Helm_val (m : List S45) (c d a b : Int) (hp : planS m c d) (h0 : areaZ m ≠ 0) (ha : -1000 ≤ a ∧ a ≤ 1000) (hb' : -1000 ≤ b ∧ b ≤ 1000) : spec_l17Helm.F [⟨m, c, d⟩] a b = some (helmZ m c d a b) := by
 obtain ⟨p1, p2, p3, p4⟩ := id hp
 have hb := area_bdS hp
 have hl := lead_bdS hp
 have e : spec_l17Helm.F [⟨m, c, d⟩] a b = if 0 < (([⟨m, c, d⟩] : List S26).length : Int) then ((spec_l17Lead.F [⟨m, c, d⟩]).bind fun x => ((spec_l00Floor.f (wrap64 (1000 * x.1)) x.2).bind fun t => (if t < (wrap64 (a * d)) then (some weatherS) else ((spec_l00Floor.f (wrap64 ((-1000) * x.1)) x.2).bind fun u => (if u < (wrap64 ((wrap64 (-b)) * d)) then (some leeS) else (some balancedS)))))) else (none) := spec_l17Helm.F_eq _ a b
 have m1 := mul_bd a d 1000 5000 (by omega) (by omega) (by omega) (by omega)
 have m2 := mul_bd (-b) d 1000 5000 (by omega) (by omega) (by omega) (by omega)
 rw [e, if_pos (by simp), spec_l17Lead_val m c d hp]
 simp only [Option.bind_some]
 rw [w64 (n := 1000 * leadZ m c) (by omega) (by omega), w64 (n := -1000 * leadZ m c) (by omega) (by omega), w64 (n := -b) (by omega) (by omega), w64 (n := a * d) (by omega) (by omega), w64 (n := -b * d) (by omega) (by omega)]
 obtain ⟨q1, e1, i1⟩ := spec_l00Floor_lt (1000 * leadZ m c) (3 * areaZ m) (a * d) (by omega) (by omega) (by omega)
 obtain ⟨q2, e2, i2⟩ := spec_l00Floor_lt (-1000 * leadZ m c) (3 * areaZ m) (-b * d) (by omega) (by omega) (by omega)
 rw [e1]; simp only [Option.bind_some]
 rw [e2]; simp only [Option.bind_some]
 have i3 : (-1000 * leadZ m c < -b * d * (3 * areaZ m)) ↔ (b * d * (3 * areaZ m) < 1000 * leadZ m c) := by
  have : -b * d * (3 * areaZ m) = -(b * d * (3 * areaZ m)) := by grind
  rw [this]; omega
 unfold helmZ
 simp only [i1, i2, i3]
 split
 ·rfl
 ·split <;> rfl
theorem impl_helmOf_val (m : List S45) (c d a b : Int) (hp : planS m c d) (ha : -1000 ≤ a ∧ a ≤ 1000) (hb' : -1000 ≤ b ∧ b ≤ 1000) : impl_helmOf.F m c d a b = some (if areaZ m = 0 then ⟨#[]⟩ else helmZ m c d a b) := by
 obtain ⟨p1, p2, p3, p4⟩ := id hp
 have hb := area_bdS hp
 have hl := lead_bdS hp
 rw [impl_helmOf.F_eq, impl_leadOf_val m c d hp]
 simp only [Option.bind_some]
 by_cases h0 : areaZ m = 0
 ·rw [if_pos h0, if_pos h0]; rfl
 ·rw [if_neg h0, if_neg h0, if_pos rfl]
  have m1 := mul_bd a d 1000 5000 (by omega) (by omega) (by omega) (by omega)
  have m2 := mul_bd b d 1000 5000 (by omega) (by omega) (by omega) (by omega)
  obtain ⟨f1, f2⟩ := frac_mul (leadZ m c) (3 * areaZ m) (by omega) (by omega) (by omega) (by omega)
  have hg := fgcd_pos (leadZ m c) (3 * areaZ m) (by omega)
  have hN : (fracN (leadZ m c) (3 * areaZ m)).natAbs ≤ (leadZ m c).natAbs := by
   rw [← f1, Int.natAbs_mul, f1]; exact Nat.le_mul_of_pos_left _ (by omega)
  have hD : (fracD (leadZ m c) (3 * areaZ m)).natAbs ≤ (3 * areaZ m).natAbs := by
   rw [← f2, Int.natAbs_mul, f2]; exact Nat.le_mul_of_pos_left _ (by omega)
  generalize fracN (leadZ m c) (3 * areaZ m) = n' at *
  generalize fracD (leadZ m c) (3 * areaZ m) = d' at *
  generalize fgcd (leadZ m c) (3 * areaZ m) = g at *
  have m3 := mul_bd (a * d) d' 5000000 1536000000 (by omega) (by omega) (by omega) (by omega)
  have m4 := mul_bd (b * d) d' 5000000 1536000000 (by omega) (by omega) (by omega) (by omega)
  rw [w64 (n := 1000 * n') (by omega) (by omega), w64 (n := a * d) (by omega) (by omega), w64 (n := b * d) (by omega) (by omega), w64 (n := a * d * d') (by omega) (by omega), w64 (n := b * d * d') (by omega) (by omega)]
  have key : ∀ x y : Int, (x < y) ↔ (g * x < g * y) := fun x y => ⟨fun h => Int.mul_lt_mul_of_pos_left h hg, fun h => Int.lt_of_mul_lt_mul_left h (by omega)⟩
  have k1 : (1000 * n' < a * d * d') ↔ (1000 * leadZ m c < a * d * (3 * areaZ m)) := by
   rw [key, show g * (1000 * n') = 1000 * (g * n') by grind, show g * (a * d * d') = a * d * (g * d') by grind, f1, f2]
  have k2 : (1000 * n' > b * d * d') ↔ (b * d * (3 * areaZ m) < 1000 * leadZ m c) := by
   show b * d * d' < 1000 * n' ↔ _
   rw [key, show g * (1000 * n') = 1000 * (g * n') by grind, show g * (b * d * d') = b * d * (g * d') by grind, f1, f2]
  unfold helmZ
  simp only [k1, k2]
  split
  ·rfl
  ·split <;> rfl
theorem l17Find_L0 (m : List S45) (c d : Int) (s : ByteArray) (i : Int) : spec_l17Find.L0 [⟨m, c, d⟩] s i = if i < (m.length : Int) then (if 0 ≤ i then (if ((rd_T45 m i).f0).toList = s.toList then some i else spec_l17Find.L0 [⟨m, c, d⟩] s (wrap64 (i + 1))) else none) else some (-1) := spec_l17Find.L0_eq [⟨m, c, d⟩] s i
theorem spec_l17Find_val (m : List S45) (c d : Int) (s : ByteArray) (hl : m.length ≤ 1048576) : spec_l17Find.F [⟨m, c, d⟩] s = some (idxF (fun y : S45 => decide (y.f0 = s)) m) := by
 rw [spec_l17Find.F_eq, if_pos (by simp)]
 refine findLoop m _ (fun i => spec_l17Find.L0 [⟨m, c, d⟩] s i) (fun i hi => ?_) ?_
 ·show spec_l17Find.L0 _ _ _ = if _ then _ else spec_l17Find.L0 _ _ _
  rw [l17Find_L0, if_pos (by omega), if_pos (by omega), rdIHung m i hi, wS (by omega)]
  have : (m[i].f0.toList = s.toList) ↔ m[i].f0 = s := by
   rw [ByteArray.toList_eq, ByteArray.toList_eq]
   exact ⟨fun h => ByteArray.ext (Array.toList_inj.mp h), fun h => by rw [h]⟩
  by_cases h : m[i].f0 = s
  ·rw [if_pos (this.2 h), if_pos (by simpa using h)]
  ·rw [if_neg (fun z => h (this.1 z)), if_neg (by simpa using h)]
 ·show spec_l17Find.L0 _ _ _ = _
  rw [l17Find_L0, if_neg (by omega)]
theorem toList_nil (s : ByteArray) : s.toList = ([] : List UInt8) ↔ s.size = 0 := by
 rw [ByteArray.toList_eq]
 constructor
 ·intro h
  have := congrArg List.length h
  simpa using this
 ·intro h
  apply List.eq_nil_of_length_eq_zero
  simpa using h
theorem spec_l01Small_val (n : Int) : spec_l01Small.f n = some (inB n 97 122) := by
 unfold spec_l01Small.f inB
 by_cases h : n ≥ 97
 ·rw [if_pos h]; simp [show 97 ≤ n from h]
 ·rw [if_neg h]; simp; omega
theorem spec_l01Digit_val (n : Int) : spec_l01Digit.f n = some (inB n 48 57) := by
 unfold spec_l01Digit.f inB
 by_cases h : n ≥ 48
 ·rw [if_pos h]; simp [show 48 ≤ n from h]
 ·rw [if_neg h]; simp; omega
theorem spec_IsName_val (s : ByteArray) (hs : s.size ≤ 1048576) : spec_IsName.F s = some (nameB s) := by
 rw [spec_IsName.F_eq]
 unfold nameB
 by_cases h0 : s.size = 0
 ·rw [if_pos ((toList_nil s).2 h0), spec_IsName.J0_eq, if_pos rfl]
  simp [h0]
 ·rw [if_neg (fun h => h0 ((toList_nil s).1 h)), show decide (1 ≤ s.size) = true from decide_eq_true (by omega), Bool.true_and]
  by_cases h1 : (s.size : Int) > 12
  ·rw [if_pos h1, spec_IsName.J0_eq, if_pos rfl, show decide (s.size ≤ 12) = false from decide_eq_false (by omega), Bool.false_and]
  ·rw [if_neg h1, if_pos (by omega), spec_l01Small_val]
   simp only [Option.bind_some]
   rw [show decide (s.size ≤ 12) = true from decide_eq_true (by omega), Bool.true_and, spec_IsName.J0_eq]
   cases h2 : inB (bt s 0) 97 122
   ·simp
   ·rw [if_neg (by simp), Bool.true_and, ← Bool.and_true (List.all _ _)]
    refine allRange s.size _ (fun i => spec_IsName.L0 s i) true (fun i hi => ?_) ?_
    ·show spec_IsName.L0 s _ = if _ then spec_IsName.L0 s _ else _
     rw [spec_IsName.L0_eq, if_pos (by omega), if_pos (by omega), wS (by omega)]
     simp only [spec_l01Small_val, spec_l01Digit_val, Option.bind_some]
     unfold charB
     cases inB (bt s (i : Int)) 97 122 <;> cases inB (bt s (i : Int)) 48 57 <;> by_cases h3 : bt s (i : Int) = 45 <;> simp [h3]
    ·show spec_IsName.L0 s _ = _
     rw [spec_IsName.L0_eq, if_neg (by omega)]
theorem spec_l13Cross_val {a b c d e f : Int} (ha : R2 a) (hb : R2 b) (hc : R2 c) (hd : R2 d) (he : R2 e) (hf : R2 f) : spec_l13Cross.f a b c d e f = some (crossZ a b c d e f) := by
 unfold spec_l13Cross.f crossZ
 rw [hc.ww ha hf hb hd hb he ha]
theorem spec_l00Min_val (a b : Int) : spec_l00Min.f a b = some (min a b) := by unfold spec_l00Min.f; rw [Int.min_def]; split <;> split <;> first | rfl | (congr 1; omega)
theorem spec_l00Max_val (a b : Int) : spec_l00Max.f a b = some (max a b) := by unfold spec_l00Max.f; rw [Int.max_def]; split <;> split <;> first | rfl | (congr 1; omega)
theorem spec_l13On_val {a b c d e f : Int} (ha : R2 a) (hb : R2 b) (hc : R2 c) (hd : R2 d) (he : R2 e) (hf : R2 f) : spec_l13On.f a b c d e f = some (onB a b c d e f) := by
 unfold spec_l13On.f onB betB
 simp only [spec_l13Cross_val ha hb hc hd he hf, Option.bind_some, spec_l00Min_val, spec_l00Max_val, spec_l00In_val]
 by_cases h : crossZ a b c d e f = 0
 ·rw [if_pos h]
  cases inB e (min a c) (max a c) <;> simp [h]
 ·rw [if_neg h]; simp [h]
theorem spec_l13Sides_val {a b c d e f g h : Int} (ha : R2 a) (hb : R2 b) (hc : R2 c) (hd : R2 d) (he : R2 e) (hf : R2 f) (hg : R2 g) (hh : R2 h) : spec_l13Sides.f a b c d e f g h = some (sidesB a b c d e f g h) := by
 unfold spec_l13Sides.f sidesB
 simp only [spec_l13Cross_val ha hb hc hd he hf, spec_l13Cross_val ha hb hc hd hg hh, Option.bind_some]
 generalize crossZ a b c d e f = x
 generalize crossZ a b c d g h = y
 by_cases h1 : x < 0 <;> by_cases h2 : y > 0 <;> by_cases h3 : x > 0 <;> simp [h1, h2, h3] <;> omega
theorem spec_l13Meet_val {a b c d e f g h : Int} (ha : R2 a) (hb : R2 b) (hc : R2 c) (hd : R2 d) (he : R2 e) (hf : R2 f) (hg : R2 g) (hh : R2 h) : spec_l13Meet.F a b c d e f g h = some (meetB a b c d e f g h) := by
 rw [spec_l13Meet.F_eq]
 simp only [spec_l13On_val ha hb hc hd he hf, spec_l13On_val ha hb hc hd hg hh, spec_l13On_val he hf hg hh ha hb, spec_l13On_val he hf hg hh hc hd, Option.bind_some, spec_l13Meet.J0_eq, spec_l13Sides_val ha hb hc hd he hf hg hh, spec_l13Sides_val he hf hg hh ha hb hc hd]
 unfold meetB
 cases onB a b c d e f <;> cases onB a b c d g h <;> cases onB e f g h a b <;> cases onB e f g h c d <;> cases sidesB a b c d e f g h <;> simp
/-- A loop that ends with one answer at the first element that isn't as it should be, with another one behind the last. -/
theorem allTo {α β : Type} (l : List α) (p : α → Bool) (g : Int → β) (no r : β) (h : ∀ i (hi : i < l.length), g (i : Int) = if p l[i] = true then g ((i + 1 : Nat) : Int) else no) (he : g (l.length : Int) = r) : g 0 = if l.all p = true then r else no := by
 have key : ∀ (d i : Nat), l.length - i = d → i ≤ l.length → g (i : Int) = if (l.drop i).all p = true then r else no := by
  intro d
  induction d with
  | zero =>
   intro i hd hi
   obtain rfl : i = l.length := by omega
   rw [he]; simp
  | succ d ih =>
   intro i hd hi
   have hlt : i < l.length := by omega
   rw [h i hlt, ih (i + 1) (by omega) (by omega), List.drop_eq_getElem_cons hlt, List.all_cons]
   by_cases hp : p l[i] = true
   ·rw [if_pos hp, hp, Bool.true_and]
   ·rw [if_neg hp, if_neg (by simp [hp])]
 have := key l.length 0 (by omega) (by omega)
 simpa using this
theorem spec_l13Ok_val (l : List S70) (hl : l.length < 2305843009213693952) : spec_l13Ok.F l = some (sailB l) := by
 rw [spec_l13Ok.F_eq, spec_l00In_val]
 simp only [Option.bind_some]
 by_cases hc : 3 ≤ l.length ∧ l.length ≤ 8
 ·obtain ⟨h3, h8⟩ := hc
  rw [if_pos ((inB_iff _ _ _).2 (by omega))]
  unfold sailB
  rw [show (decide (3 ≤ l.length) && decide (l.length ≤ 8)) = true by simp [h3, h8], Bool.true_and]
  have e0 := allTo l spotIn (fun i => spec_l13Ok.L0 l (l.length : Int) i) (some false) _ (fun i hi => by
   show spec_l13Ok.L0 l _ _ = if _ then spec_l13Ok.L0 l _ _ else _
   rw [spec_l13Ok.L0_eq, if_pos (by omega), if_pos (by omega), if_pos (by omega), rdISpot l i hi, wS (by omega)]
   simp only [spec_l00In_val, Option.bind_some]
   unfold spotIn
   rw [ite_band]) (by
   show spec_l13Ok.L0 l _ _ = _
   rw [spec_l13Ok.L0_eq, if_neg (by omega)])
  refine e0.trans ?_
  by_cases ha : l.all spotIn = true
  ·rw [if_pos ha, ha, Bool.true_and]
   have hR := spots_R l ha
   have hM : ∀ i, i % l.length < l.length := fun i => Nat.mod_lt i (by omega)
   refine allRange l.length _ (fun i => spec_l13Ok.L1 l (l.length : Int) i) _ (fun i hi => ?_) ?_
   ·show spec_l13Ok.L1 l _ _ = if _ then spec_l13Ok.L1 l _ _ else _
    have hm1 := hM (i + 1)
    have hm2 := hM (i + 2)
    rw [spec_l13Ok.L1_eq, if_pos (by omega), if_pos (by omega), if_pos (by omega), if_neg (by omega), tmodN i l.length (by omega), tmodN2 i l.length (by omega), if_pos (by omega), if_pos (by omega), if_pos (by omega), if_pos (by omega)]
    simp only [sx_def, sy_def]
    rw [spec_l13Cross_val (hR i hi).1 (hR i hi).2 (hR _ hm1).1 (hR _ hm1).2 (hR _ hm2).1 (hR _ hm2).2]
    simp only [Option.bind_some]
    rw [ite_band]
    show (if crossAt l i _ _ = 0 then _ else _) = _
    by_cases hcr : crossAt l i ((i + 1) % l.length) ((i + 2) % l.length) = 0
    ·rw [if_pos hcr, if_neg (by simp [hcr])]
    ·rw [if_neg hcr, if_pos (by simp [hcr]), w64 (by omega) (by omega), show ((i : Int) + 2) = ((i + 2 : Nat) : Int) by omega]
     refine stepLoop (i + 2) l.length _ (fun k => spec_l13Ok.L2 l (l.length : Int) i k _ _ _ _) _ _ (fun k hk1 hk => ?_) (fun k hk => ?_)
     ·show spec_l13Ok.L2 l _ _ _ _ _ _ _ = if _ then spec_l13Ok.L2 l _ _ _ _ _ _ _ else _
      have hk3 := hM (k + 1)
      rw [spec_l13Ok.L2_eq, if_pos (by omega), tmodN k l.length (by omega), w64 (n := (l.length : Int) - 1) (by omega) (by omega), wS (i := k) (by omega)]
      simp only [sx_def, sy_def, spec_l13Meet_val (hR i hi).1 (hR i hi).2 (hR _ hm1).1 (hR _ hm1).2 (hR k hk).1 (hR k hk).2 (hR _ hk3).1 (hR _ hk3).2, Option.bind_some]
      rw [show meetB (sx l i) (sy l i) (sx l ((i + 1) % l.length)) (sy l ((i + 1) % l.length)) (sx l k) (sy l k) (sx l ((k + 1) % l.length)) (sy l ((k + 1) % l.length)) = meetAt l i ((i + 1) % l.length) k ((k + 1) % l.length) from rfl]
      have c1 : ((i : Int) > 0) ↔ i > 0 := by omega
      have c2 : ((k : Int) < (l.length : Int) - 1) ↔ k < l.length - 1 := by omega
      rw [if_pos (show (0 : Int) ≤ (k : Int) by omega), if_pos (show (k : Int) < (l.length : Int) by omega), if_neg (show ¬ (l.length : Int) = 0 by omega), if_pos (show (0 : Int) ≤ (((k + 1) % l.length : Nat) : Int) by omega), if_pos (show (((k + 1) % l.length : Nat) : Int) < (l.length : Int) by omega)]
      simp only [c1, c2]
      cases meetAt l i ((i + 1) % l.length) k ((k + 1) % l.length) <;> by_cases h1 : i > 0 <;> by_cases h2 : k < l.length - 1 <;> simp [h1, h2]
     ·show spec_l13Ok.L2 l _ _ _ _ _ _ _ = _
      rw [spec_l13Ok.L2_eq, if_neg (by omega), wS (by omega)]
   ·show spec_l13Ok.L1 l _ _ = _
    rw [spec_l13Ok.L1_eq, if_neg (by omega), spec_l13Twice_val l (by omega) (by omega)]
    rfl
  ·rw [if_neg ha]; simp [ha]
 ·rw [if_neg (by rw [inB_iff]; omega)]
  unfold sailB
  have : (decide (3 ≤ l.length) && decide (l.length ≤ 8)) = false := by
   rw [← Bool.not_eq_true]; simp only [Bool.and_eq_true, decide_eq_true_eq]; exact hc
  rw [this, Bool.false_and]
theorem l17Ok_L0 (m : List S45) (c d : Int) (i : Int) : spec_l17Ok.L0 [⟨m, c, d⟩] i = if i < (m.length : Int) then (if 0 ≤ i then ((spec_IsName.F ((rd_T45 m i).f0)).bind fun t => (if t = true then ((spec_l17Find.F [⟨m, c, d⟩] ((rd_T45 m i).f0)).bind fun u => (if u = i then ((spec_l13Ok.F ((rd_T45 m i).f1)).bind fun v => (if v = true then (spec_l17Ok.L0 [⟨m, c, d⟩] (wrap64 (i + 1))) else (some false))) else (some false))) else (some false))) else none) else (if (m.length : Int) ≤ 8 then ((spec_l00In.f d 1 5000).bind fun t => (if t = true then ((spec_l00In.f c 0 d).bind fun u => (some u)) else (some false))) else (some false)) := spec_l17Ok.L0_eq [⟨m, c, d⟩] i
theorem spec_l17Ok_val (m : List S45) (c d : Int) (hl : m.length ≤ 1048576) (hy : ∀ y ∈ m, y.f0.size ≤ 1048576 ∧ y.f1.length ≤ 1048576) : spec_l17Ok.F [⟨m, c, d⟩] = some (planB m c d) := by
 rw [spec_l17Ok.F_eq, if_pos (by simp)]
 unfold planB
 refine allRange m.length _ (fun i => spec_l17Ok.L0 [⟨m, c, d⟩] i) _ (fun i hi => ?_) ?_
 ·show spec_l17Ok.L0 _ _ = if _ then spec_l17Ok.L0 _ _ else _
  have h1 := hy m[i] (List.getElem_mem hi)
  rw [l17Ok_L0, if_pos (by omega), if_pos (by omega), rdIHung m i hi, wS (by omega), spec_IsName_val _ h1.1, spec_l17Find_val m c d _ hl, spec_l13Ok_val _ (by omega), hungAt_eq m i hi]
  simp only [Option.bind_some]
  have h2 := idxF_take (fun y : S45 => decide (y.f0 = m[i].f0)) m i hi (by simp)
  cases nameB m[i].f0
  ·simp
  ·by_cases h3 : idxF (fun y : S45 => decide (y.f0 = m[i].f0)) m = (i : Int)
   ·rw [if_pos rfl, if_pos h3, show decide (¬ idxF (fun y : S45 => decide (y.f0 = m[i].f0)) (m.take i) ≥ 0) = true from decide_eq_true (h2.1 h3)]
    simp
   ·rw [if_pos rfl, if_neg h3, show decide (¬ idxF (fun y : S45 => decide (y.f0 = m[i].f0)) (m.take i) ≥ 0) = false from decide_eq_false (fun z => h3 (h2.2 z))]
    simp
 ·show spec_l17Ok.L0 _ _ = _
  rw [l17Ok_L0, if_neg (by omega), spec_l00In_val, spec_l00In_val]
  simp only [Option.bind_some]
  by_cases h : (m.length : Int) ≤ 8
  ·rw [if_pos h, show decide (m.length ≤ 8) = true from decide_eq_true (by omega)]
   cases inB d 1 5000 <;> simp
  ·rw [if_neg h, show decide (m.length ≤ 8) = false from decide_eq_false (by omega)]; rfl
theorem impl_IsName_val (s : ByteArray) (hs : s.size ≤ 1048576) : impl_IsName.F s = some (nameB s) := by
 rw [impl_IsName.F_eq]
 unfold nameB
 by_cases h0 : (s.size : Int) < 1
 ·rw [if_pos h0, impl_IsName.J0_eq, if_pos rfl, show decide (1 ≤ s.size) = false from decide_eq_false (by omega), Bool.false_and]
 ·rw [if_neg h0, show decide (1 ≤ s.size) = true from decide_eq_true (by omega), Bool.true_and]
  by_cases h1 : (s.size : Int) > 12
  ·rw [if_pos h1, impl_IsName.J0_eq, if_pos rfl, show decide (s.size ≤ 12) = false from decide_eq_false (by omega), Bool.false_and]
  ·rw [if_neg h1, if_pos (by omega), show decide (s.size ≤ 12) = true from decide_eq_true (by omega), Bool.true_and]
   have hl : impl_IsName.L0 s 0 = some ((List.range s.size).all (fun i => charB (bt s (i : Int))) && true) := by
    refine allRange s.size _ (fun i => impl_IsName.L0 s i) true (fun i hi => ?_) ?_
    ·show impl_IsName.L0 s _ = if _ then impl_IsName.L0 s _ else _
     rw [impl_IsName.L0_eq, if_pos (by omega), if_pos (by omega), wS (by omega)]
     generalize bt s (i : Int) = n
     have hc := charB_iff n
     by_cases h : charB n = true
     ·have h' := hc.1 h
      rw [if_pos h]
      repeat' split
      all_goals first | rfl | (exfalso; omega)
     ·have h' := fun z => h (hc.2 z)
      rw [if_neg h]
      repeat' split
      all_goals first | rfl | (exfalso; apply h'; omega)
    ·show impl_IsName.L0 s _ = _
     rw [impl_IsName.L0_eq, if_neg (by omega)]
   rw [Bool.and_true] at hl
   simp only [impl_IsName.J0_eq, hl]
   unfold inB
   by_cases a1 : bt s 0 < 97
   ·rw [if_pos a1, if_pos trivial, show decide (97 ≤ bt s 0) = false from decide_eq_false (by omega)]; rfl
   ·rw [if_neg a1]
    by_cases a2 : bt s 0 > 122
    ·rw [if_pos (by simpa using a2), show decide (bt s 0 ≤ 122) = false from decide_eq_false (by omega), Bool.and_false]; rfl
    ·rw [if_neg (by simpa using a2), show decide (97 ≤ bt s 0) = true from decide_eq_true (by omega), show decide (bt s 0 ≤ 122) = true from decide_eq_true (by omega)]; rfl
theorem crossZ_bd {a b c d e f : Int} (ha : R2 a) (hb : R2 b) (hc : R2 c) (hd : R2 d) (he : R2 e) (hf : R2 f) : -8000000 ≤ crossZ a b c d e f ∧ crossZ a b c d e f ≤ 8000000 := by
 unfold crossZ R2 at *
 have h1 := mul_bd (c - a) (f - b) 2000 2000 (by omega) (by omega) (by omega) (by omega)
 have h2 := mul_bd (d - b) (e - a) 2000 2000 (by omega) (by omega) (by omega) (by omega)
 omega
theorem impl_turnAt_val {a b c d e f : Int} (ha : R2 a) (hb : R2 b) (hc : R2 c) (hd : R2 d) (he : R2 e) (hf : R2 f) : impl_turnAt.f a b c d e f = some (crossZ a b c d e f) := by
 unfold impl_turnAt.f
 rw [hc.ww ha hf hd hd hb he hc]
 unfold crossZ
 congr 1
 grind
theorem mn_min (a b : Int) : mn a b = min a b := by unfold mn; rw [Int.min_def]; split <;> split <;> omega
theorem mx_max (a b : Int) : mx a b = max a b := by unfold mx; rw [Int.max_def]; split <;> split <;> omega
theorem impl_within_val (n a b : Int) : impl_within.f n a b = some (inB n a b) := by
 unfold impl_within.f inB
 by_cases h : n ≥ a
 ·rw [if_pos h]; simp [show a ≤ n from h]
 ·rw [if_neg h]; simp; omega
theorem impl_sign_val (x : Int) : impl_sign.f x = some x.sign := by
 unfold impl_sign.f
 by_cases h : x > 0
 ·rw [if_pos h, Int.sign_eq_one_of_pos h]
 ·by_cases h2 : x < 0
  ·rw [if_neg h, if_pos h2, Int.sign_eq_neg_one_of_neg h2]
  ·rw [if_neg h, if_neg h2, show x = 0 by omega]; rfl
theorem sign_cross (x y : Int) : decide (wrap64 (x.sign * y.sign) < 0) = ((decide (x < 0) && decide (y > 0)) || (decide (x > 0) && decide (y < 0))) := by
 rcases Int.lt_trichotomy x 0 with hx | hx | hx <;> rcases Int.lt_trichotomy y 0 with hy | hy | hy <;>
  simp only [hx, hy, Int.sign_eq_neg_one_of_neg, Int.sign_eq_one_of_pos, Int.sign_zero] <;> (have := hx; have := hy; simp [wrap64]; try omega)
theorem impl_between_val (a b c d e f : Int) : impl_between.f a b c d e f = some (betB a b c d e f) := by
 unfold impl_between.f betB
 simp only [impl_within_val, mn_min, mx_max, Option.bind_some]
 cases inB e (min a c) (max a c) <;> simp
theorem impl_edgesMeet_val {a b c d e f g h : Int} (ha : R2 a) (hb : R2 b) (hc : R2 c) (hd : R2 d) (he : R2 e) (hf : R2 f) (hg : R2 g) (hh : R2 h) : impl_edgesMeet.F a b c d e f g h = some (meetB a b c d e f g h) := by
 rw [impl_edgesMeet.F_eq]
 simp only [impl_turnAt_val ha hb hc hd he hf, impl_turnAt_val ha hb hc hd hg hh, impl_turnAt_val he hf hg hh ha hb, impl_turnAt_val he hf hg hh hc hd, Option.bind_some, impl_sign_val, impl_edgesMeet.J0_eq, impl_between_val]
 have s1 := sign_cross (crossZ a b c d e f) (crossZ a b c d g h)
 have s2 := sign_cross (crossZ e f g h a b) (crossZ e f g h c d)
 rw [s2]
 unfold meetB onB sidesB
 rw [← s2, ← s1]
 generalize crossZ a b c d e f = x1 at *
 generalize crossZ a b c d g h = x2 at *
 generalize crossZ e f g h a b = x3 at *
 generalize crossZ e f g h c d = x4 at *
 generalize betB a b c d e f = b1
 generalize betB a b c d g h = b2
 generalize betB e f g h a b = b3
 generalize betB e f g h c d = b4
 by_cases hs : wrap64 (x1.sign * x2.sign) < 0
 ·rw [if_pos hs]
  by_cases hs2 : wrap64 (x3.sign * x4.sign) < 0
  ·simp [hs, hs2]
  ·simp only [hs2, decide_false, nf, if_false]
   by_cases h1 : x1 = 0 <;> by_cases h2 : x2 = 0 <;> by_cases h3 : x3 = 0 <;> by_cases h4 : x4 = 0 <;> cases b1 <;> cases b2 <;> cases b3 <;> cases b4 <;> simp [h1, h2, h3, h4]
 ·rw [if_neg hs]
  simp only [hs, decide_false, nf, if_false]
  by_cases h1 : x1 = 0 <;> by_cases h2 : x2 = 0 <;> by_cases h3 : x3 = 0 <;> by_cases h4 : x4 = 0 <;> cases b1 <;> cases b2 <;> cases b3 <;> cases b4 <;> simp [h1, h2, h3, h4]
theorem impl_ValidSail_val (l : List S70) (hl : l.length < 2305843009213693952) : impl_ValidSail.F l = some (sailB l) := by
 rw [impl_ValidSail.F_eq]
 simp only [impl_ValidSail.J0_eq]
 by_cases hc : 3 ≤ l.length ∧ l.length ≤ 8
 ·obtain ⟨h3, h8⟩ := hc
  rw [if_neg (by omega), if_neg (by simp; omega)]
  unfold sailB
  rw [show (decide (3 ≤ l.length) && decide (l.length ≤ 8)) = true by simp [h3, h8], Bool.true_and]
  have e0 := allTo l spotIn (fun i => impl_ValidSail.L0 l (l.length : Int) l (l.length : Int) i) (some false) _ (fun i hi => by
   show impl_ValidSail.L0 l _ _ _ _ = if _ then impl_ValidSail.L0 l _ _ _ _ else _
   rw [impl_ValidSail.L0_eq, if_pos (by omega), if_pos (by omega), if_pos (by omega), rdISpot l i hi, wS (by omega)]
   simp only [impl_within_val, Option.bind_some]
   unfold spotIn
   rw [ite_band]) (by
   show impl_ValidSail.L0 l _ _ _ _ = _
   rw [impl_ValidSail.L0_eq, if_neg (by omega)])
  refine e0.trans ?_
  by_cases ha : l.all spotIn = true
  ·rw [if_pos ha, ha, Bool.true_and]
   have hR := spots_R l ha
   have hM : ∀ i, i % l.length < l.length := fun i => Nat.mod_lt i (by omega)
   have e1 := allTo (List.range l.length) (fun i => decide (crossAt l i ((i + 1) % l.length) ((i + 2) % l.length) ≠ 0)) (fun i => impl_ValidSail.L1 l (l.length : Int) (l.length : Int) i) (some false) (impl_ValidSail.L2 l (l.length : Int) (l.length : Int) 0) (fun i hi => by
    rw [List.length_range] at hi
    rw [List.getElem_range]
    show impl_ValidSail.L1 l _ _ _ = if _ then impl_ValidSail.L1 l _ _ _ else _
    have hm1 := hM (i + 1)
    have hm2 := hM (i + 2)
    rw [impl_ValidSail.L1_eq, if_pos (by omega), if_pos (by omega), if_pos (by omega), if_neg (by omega), tmodN i l.length (by omega), tmodN2 i l.length (by omega), if_pos (by omega), if_pos (by omega), if_pos (by omega), if_pos (by omega)]
    simp only [sx_def, sy_def]
    rw [impl_turnAt_val (hR i hi).1 (hR i hi).2 (hR _ hm1).1 (hR _ hm1).2 (hR _ hm2).1 (hR _ hm2).2, wS (by omega)]
    simp only [Option.bind_some]
    show (if crossAt l i _ _ = 0 then _ else _) = _
    by_cases hcr : crossAt l i ((i + 1) % l.length) ((i + 2) % l.length) = 0
    ·rw [if_pos hcr, if_neg (by simp [hcr])]
    ·rw [if_neg hcr, if_pos (by simp [hcr])]) (by
    rw [List.length_range]
    show impl_ValidSail.L1 l _ _ _ = _
    rw [impl_ValidSail.L1_eq, if_neg (by omega)])
   refine e1.trans ?_
   have e2 : impl_ValidSail.L2 l (l.length : Int) (l.length : Int) 0 = some ((List.range l.length).all (pairsOk l) && decide (twZ l l.length > 0)) := by
    refine allRange l.length _ (fun i => impl_ValidSail.L2 l (l.length : Int) (l.length : Int) i) _ (fun i hi => ?_) ?_
    ·show impl_ValidSail.L2 l _ _ _ = if _ then impl_ValidSail.L2 l _ _ _ else _
     have hm1 := hM (i + 1)
     rw [impl_ValidSail.L2_eq, if_pos (by omega), w64 (n := (i : Int) + 2) (by omega) (by omega), show ((i : Int) + 2) = ((i + 2 : Nat) : Int) by omega]
     refine stepLoop (i + 2) l.length _ (fun k => impl_ValidSail.L3 l (l.length : Int) i k _ _) _ _ (fun k hk1 hk => ?_) (fun k hk => ?_)
     ·show impl_ValidSail.L3 l _ _ _ _ _ = if _ then impl_ValidSail.L3 l _ _ _ _ _ else _
      have hk3 := hM (k + 1)
      have hi1 : (i + 1) % l.length = i + 1 := Nat.mod_eq_of_lt (by omega)
      rw [hi1] at hm1
      rw [impl_ValidSail.L3_eq, if_pos (by omega), if_neg (by omega), tmodN k l.length (by omega), wS (i := k) (by omega), wS (i := i) (by omega), if_pos (show (0 : Int) ≤ (i : Int) by omega), if_pos (show (i : Int) < (l.length : Int) by omega), if_pos (show (0 : Int) ≤ ((i + 1 : Nat) : Int) by omega), if_pos (show ((i + 1 : Nat) : Int) < (l.length : Int) by omega), if_pos (show (0 : Int) ≤ (k : Int) by omega), if_pos (show (k : Int) < (l.length : Int) by omega), if_pos (show (0 : Int) ≤ (((k + 1) % l.length : Nat) : Int) by omega), if_pos (show (((k + 1) % l.length : Nat) : Int) < (l.length : Int) by omega)]
      simp only [sx_def, sy_def, impl_edgesMeet_val (hR i hi).1 (hR i hi).2 (hR _ hm1).1 (hR _ hm1).2 (hR k hk).1 (hR k hk).2 (hR _ hk3).1 (hR _ hk3).2, Option.bind_some]
      rw [hi1]
      rw [show meetB (sx l i) (sy l i) (sx l (i + 1)) (sy l (i + 1)) (sx l k) (sy l k) (sx l ((k + 1) % l.length)) (sy l ((k + 1) % l.length)) = meetAt l i (i + 1) k ((k + 1) % l.length) from rfl]
      have hcase : ((((k + 1) % l.length : Nat) : Int) = (i : Int)) ↔ ¬ (i > 0 ∨ k < l.length - 1) := by
       by_cases hlast : k + 1 = l.length
       ·rw [hlast, Nat.mod_self]; omega
       ·rw [Nat.mod_eq_of_lt (by omega)]; omega
      by_cases hq : i > 0 ∨ k < l.length - 1
      ·rw [if_neg (by rw [hcase]; exact fun h => h hq)]
       have : (decide (i > 0) || decide (k < l.length - 1)) = true := by simpa using hq
       rw [this]
       cases meetAt l i (i + 1) k ((k + 1) % l.length) <;> simp
      ·rw [if_pos (hcase.2 hq)]
       have : (decide (i > 0) || decide (k < l.length - 1)) = false := by rw [← Bool.not_eq_true]; simpa using hq
       rw [this]; simp
     ·show impl_ValidSail.L3 l _ _ _ _ _ = _
      rw [impl_ValidSail.L3_eq, if_neg (by omega), wS (by omega)]
    ·show impl_ValidSail.L2 l _ _ _ = _
     rw [impl_ValidSail.L2_eq, if_neg (by omega), impl_twiceSail_val l (by omega) (by omega)]
     rfl
   rw [e2]
   generalize decide (twZ l l.length > 0) = t
   by_cases hA : (List.range l.length).all (fun i => decide (crossAt l i ((i + 1) % l.length) ((i + 2) % l.length) ≠ 0)) = true
   ·rw [if_pos hA]
    congr 2
    rw [Bool.eq_iff_iff]
    simp only [List.all_eq_true, Bool.and_eq_true] at hA ⊢
    exact ⟨fun h x hx => ⟨hA x hx, h x hx⟩, fun h x hx => (h x hx).2⟩
   ·rw [if_neg hA]
    have : (List.range l.length).all (fun i => decide (crossAt l i ((i + 1) % l.length) ((i + 2) % l.length) ≠ 0) && pairsOk l i) = false := by
     rw [← Bool.not_eq_true]
     intro h
     apply hA
     simp only [List.all_eq_true, Bool.and_eq_true] at h ⊢
     exact fun x hx => (h x hx).1
    rw [this]; rfl
  ·rw [if_neg ha]; simp [ha]
 ·unfold sailB
  have : (decide (3 ≤ l.length) && decide (l.length ≤ 8)) = false := by
   rw [← Bool.not_eq_true]; simp only [Bool.and_eq_true, decide_eq_true_eq]; exact hc
  rw [this, Bool.false_and]
  by_cases h3 : (l.length : Int) < 3
  ·rw [if_pos h3]; rfl
  ·rw [if_neg h3, if_pos (by simp; omega)]
theorem impl_ValidPlan_val (m : List S45) (c d : Int) (hl : m.length ≤ 1048576) (hy : ∀ y ∈ m, y.f0.size ≤ 1048576 ∧ y.f1.length ≤ 1048576) : impl_ValidPlan.F m c d = some (planB m c d) := by
 have hloop : impl_ValidPlan.L0 m (m.length : Int) 0 m c d = some ((List.range m.length).all (hungAt m) && true) := by
  refine allRange m.length _ (fun i => impl_ValidPlan.L0 m (m.length : Int) i m c d) _ (fun i hi => ?_) ?_
  ·show impl_ValidPlan.L0 _ _ _ _ _ _ = if _ then impl_ValidPlan.L0 _ _ _ _ _ _ else _
   have h1 := hy m[i] (List.getElem_mem hi)
   rw [impl_ValidPlan.L0_eq, if_pos (by omega), if_pos (by omega), if_pos (by omega), rdIHung m i hi, wS (by omega), impl_IsName_val _ h1.1, impl_ValidSail_val _ (by omega), if_pos (show (i : Int) ≤ (m.length : Int) by omega), hungAt_eq m i hi, Int.toNat_natCast]
   unfold impl_sailNamed.f
   rw [if_pos (by rw [List.length_take]; omega)]
   simp only [Option.bind_some]
   cases nameB m[i].f0
   ·simp
   ·cases sailB m[i].f1
    ·simp
    ·by_cases h3 : idxF (fun y : S45 => decide (y.f0 = m[i].f0)) (m.take i) ≥ 0
     ·rw [if_pos rfl, if_pos rfl, if_pos h3, if_neg (by simp [h3])]
     ·rw [if_pos rfl, if_pos rfl, if_neg h3, if_pos (by simp [h3])]
  ·show impl_ValidPlan.L0 _ _ _ _ _ _ = _
   rw [impl_ValidPlan.L0_eq, if_neg (by omega)]
 rw [Bool.and_true] at hloop
 rw [impl_ValidPlan.F_eq]
 unfold planB
 simp only [impl_within_val, impl_ValidPlan.J0_eq, hloop, Option.bind_some]
 by_cases h : (m.length : Int) > 8
 ·rw [if_pos h, if_pos trivial, show decide (m.length ≤ 8) = false from decide_eq_false (by omega)]; simp
 ·rw [if_neg h, show decide (m.length ≤ 8) = true from decide_eq_true (by omega)]
  cases inB d 1 5000 <;> cases inB c 0 d <;> simp
/-- The sums over a row, told by the row. -/
def lsum (g : S45 → Int) : List S45 → Int
 | [] => 0
 | y :: t => g y + lsum g t
theorem lsum_append (g : S45 → Int) (a b : List S45) : lsum g (a ++ b) = lsum g a + lsum g b := by
 induction a with
 | nil => simp [lsum]
 | cons x t ih => simp only [List.cons_append, lsum, ih]; omega
theorem sumN_lsum (g : S45 → Int) (m : List S45) : ∀ k, k ≤ m.length → sumN (fun i => g (rd_T45 m (i : Int))) k = lsum g (m.take k) := by
 intro k
 induction k with
 | zero => intro _; simp [sumN, lsum]
 | succ k ih =>
  intro hk
  have hk' : k < m.length := by omega
  show sumN (fun i => g (rd_T45 m (i : Int))) k + g (rd_T45 m (k : Int)) = _
  rw [ih (by omega), rdIHung m k hk', List.take_add_one, lsum_append, List.getElem?_eq_getElem hk']
  simp [lsum]
def gA (y : S45) : Int := if y.f2 = true then twZ y.f1 y.f1.length else 0
def gX (y : S45) : Int := if y.f2 = true then sumN (mxt y.f1) y.f1.length else 0
theorem areaZ_l (m : List S45) : areaZ m = lsum gA m := by
 have := sumN_lsum gA m m.length (Nat.le_refl _)
 rw [List.take_length] at this
 exact this
theorem mxZ_l (m : List S45) : mxZ m = lsum gX m := by
 have := sumN_lsum gX m m.length (Nat.le_refl _)
 rw [List.take_length] at this
 exact this
/-- Whether a sail's bit is on. -/
def bitOn (b : Int) (i : Nat) : Bool := (Go.bits .and .i64 (shr .i64 b (i : Int)) 1) == 1
def setFrom (b : Int) (i : Nat) : List S45 → List S45
 | [] => []
 | x :: t => (⟨x.f0, x.f1, bitOn b i⟩ : S45) :: setFrom b (i + 1) t
def pickFrom (b : Int) (i : Nat) : List S45 → List S45
 | [] => []
 | x :: t => if bitOn b i = true then (⟨⟨#[]⟩, x.f1, true⟩ : S45) :: pickFrom b (i + 1) t else pickFrom b (i + 1) t
def namesFrom (b : Int) (i : Nat) : List S45 → List ByteArray
 | [] => []
 | x :: t => if bitOn b i = true then x.f0 :: namesFrom b (i + 1) t else namesFrom b (i + 1) t
theorem lsum_two (g : S45 → Int) (hg : ∀ (s s' : ByteArray) (p : List S70), g ⟨s, p, true⟩ = g ⟨s', p, true⟩) (h0 : ∀ (s : ByteArray) (p : List S70), g ⟨s, p, false⟩ = 0) (b : Int) (m : List S45) : ∀ i, lsum g (setFrom b i m) = lsum g (pickFrom b i m) := by
 induction m with
 | nil => intro i; rfl
 | cons x t ih =>
  intro i
  simp only [setFrom, pickFrom, lsum]
  cases hb : bitOn b i with
  | false => rw [h0, if_neg nf, ih]; omega
  | true => rw [if_pos rfl]; simp only [lsum]; rw [hg x.f0 ⟨#[]⟩, ih]
theorem gA_two (b : Int) (m : List S45) : areaZ (pickFrom b 0 m) = areaZ (setFrom b 0 m) := by
 rw [areaZ_l, areaZ_l]
 exact (lsum_two gA (fun _ _ _ => rfl) (fun _ _ => rfl) b m 0).symm
theorem gX_two (b : Int) (m : List S45) : mxZ (pickFrom b 0 m) = mxZ (setFrom b 0 m) := by
 rw [mxZ_l, mxZ_l]
 exact (lsum_two gX (fun _ _ _ => rfl) (fun _ _ => rfl) b m 0).symm
theorem helm_two (b : Int) (m : List S45) (c d u v : Int) : helmZ (pickFrom b 0 m) c d u v = helmZ (setFrom b 0 m) c d u v := by
 unfold helmZ leadZ
 rw [gA_two, gX_two]
theorem setFrom_len (b : Int) (m : List S45) : ∀ i, (setFrom b i m).length = m.length := by
 induction m with
 | nil => intro i; rfl
 | cons x t ih => intro i; simp [setFrom, ih]
theorem pickFrom_len (b : Int) (m : List S45) : ∀ i, (pickFrom b i m).length ≤ m.length := by
 induction m with
 | nil => intro i; exact Nat.le_refl _
 | cons x t ih =>
  intro i
  have := ih (i + 1)
  simp only [pickFrom]
  split <;> simp <;> omega
theorem namesFrom_len (b : Int) (m : List S45) : ∀ i, (namesFrom b i m).length ≤ m.length := by
 induction m with
 | nil => intro i; exact Nat.le_refl _
 | cons x t ih =>
  intro i
  have := ih (i + 1)
  simp only [namesFrom]
  split <;> simp <;> omega
theorem setFrom_ok (b : Int) (m : List S45) (h : ∀ y ∈ m, sailB y.f1 = true) : ∀ i, ∀ y ∈ setFrom b i m, sailB y.f1 = true := by
 induction m with
 | nil => intro i y hy; simp [setFrom] at hy
 | cons x t ih =>
  intro i y hy
  simp only [setFrom, List.mem_cons] at hy
  rcases hy with rfl | hy
  ·exact h x List.mem_cons_self
  ·exact ih (fun z hz => h z (List.mem_cons_of_mem _ hz)) (i + 1) y hy
theorem pickFrom_ok (b : Int) (m : List S45) (h : ∀ y ∈ m, sailB y.f1 = true) : ∀ i, ∀ y ∈ pickFrom b i m, sailB y.f1 = true := by
 induction m with
 | nil => intro i y hy; simp [pickFrom] at hy
 | cons x t ih =>
  intro i y hy
  simp only [pickFrom] at hy
  split at hy
  ·rcases List.mem_cons.1 hy with rfl | hy
   ·exact h x List.mem_cons_self
   ·exact ih (fun z hz => h z (List.mem_cons_of_mem _ hz)) (i + 1) y hy
  ·exact ih (fun z hz => h z (List.mem_cons_of_mem _ hz)) (i + 1) y hy
theorem setFrom_zero (m : List S45) : ∀ i, i + m.length ≤ 8 → lsum gA (setFrom 0 i m) = 0 := by
 induction m with
 | nil => intro i _; rfl
 | cons x t ih =>
  intro i hi
  simp only [List.length_cons] at hi
  have h0 : bitOn 0 i = false := by
   have : i = 0 ∨ i = 1 ∨ i = 2 ∨ i = 3 ∨ i = 4 ∨ i = 5 ∨ i = 6 ∨ i = 7 := by omega
   rcases this with rfl | rfl | rfl | rfl | rfl | rfl | rfl | rfl <;> decide
  simp only [setFrom, lsum, h0]
  rw [ih (i + 1) (by omega)]
  rfl
theorem u64w (n : Nat) (h : n ≤ 1048576) : IntKind.u64.wrap (n : Int) = (n : Int) := by
 simp only [IntKind.wrap, IntKind.signed, IntKind.bits, Bool.false_and]
 rw [if_neg nf]
 omega
theorem bit_iff (b : Int) (i : Nat) : (Go.bits .and .i64 (shr .i64 b (i : Int)) 1 = 1) ↔ bitOn b i = true := by
 unfold bitOn
 exact (beq_iff_eq).symm
theorem bal_iff (t : ByteArray) : t.toList = ([98, 97, 108, 97, 110, 99, 101, 100] : List UInt8) ↔ t = balancedS := by
 rw [ByteArray.toList_eq]
 exact ⟨fun h => ByteArray.ext (Array.toList_inj.mp h), fun h => by rw [h]; rfl⟩
theorem planS_set (b : Int) {m : List S45} {c d : Int} (h : planS m c d) : planS (setFrom b 0 m) c d := ⟨by rw [setFrom_len]; exact h.1, h.2.1, h.2.2.1, setFrom_ok b m h.2.2.2 0⟩
theorem planS_pick (b : Int) {m : List S45} {c d : Int} (h : planS m c d) : planS (pickFrom b 0 m) c d := ⟨by have := pickFrom_len b m 0; have := h.1; omega, h.2.1, h.2.2.1, pickFrom_ok b m h.2.2.2 0⟩
theorem impl_withSet_val (m : List S45) (c d b : Int) (h8 : m.length ≤ 8) : impl_withSet.F m c d b = some (setFrom b 0 m, c, d) := by
 have key : ∀ (t p s : List S45), p ++ t = m → s.length ≤ p.length → impl_withSet.L0 b m (m.length : Int) (p.length : Int) s c d = some (s ++ setFrom b p.length t, c, d) := by
  intro t
  induction t with
  | nil =>
   intro p s hm hs
   have : p.length = m.length := by rw [← hm]; simp
   rw [impl_withSet.L0_eq, if_neg (by omega)]
   simp [setFrom]
  | cons x t ih =>
   intro p s hm hs
   have hlt : p.length < m.length := by rw [← hm]; simp
   have hg : m[p.length] = x := by simp [← hm]
   rw [impl_withSet.L0_eq, if_pos (by omega), if_pos (by omega), if_pos (by omega), if_pos (by omega), rdIHung m _ hlt, hg, wS (by omega)]
   have := ih (p ++ [x]) (s ++ [(⟨x.f0, x.f1, bitOn b p.length⟩ : S45)]) (by rw [← hm]; simp) (by simp; omega)
   simp only [List.length_append, List.length_cons, List.length_nil, Nat.zero_add] at this
   refine Eq.trans this ?_
   simp [setFrom]
 rw [impl_withSet.F_eq]
 have := key m [] [] rfl (Nat.le_refl _)
 simpa using this
theorem spec_pick_val (x1 x2 x3 x10 x11 b : Int) (m : List S45) (c d : Int) (h8 : m.length ≤ 8) : spec_BestSails.L1 x1 x2 x3 x10 x11 b 0 m c d [] c d = spec_BestSails.L1 x1 x2 x3 x10 x11 b (m.length : Int) m c d (pickFrom b 0 m) c d := by
 have key : ∀ (t p s : List S45), p ++ t = m → s.length ≤ p.length → spec_BestSails.L1 x1 x2 x3 x10 x11 b (p.length : Int) m c d s c d = spec_BestSails.L1 x1 x2 x3 x10 x11 b (m.length : Int) m c d (s ++ pickFrom b p.length t) c d := by
  intro t
  induction t with
  | nil =>
   intro p s hm hs
   have : p.length = m.length := by rw [← hm]; simp
   rw [this]
   simp [pickFrom]
  | cons x t ih =>
   intro p s hm hs
   have hlt : p.length < m.length := by rw [← hm]; simp
   have hg : m[p.length] = x := by simp [← hm]
   have e := spec_BestSails.L1_eq x1 x2 x3 x10 x11 b (p.length : Int) m c d s c d
   rw [if_pos (show (p.length : Int) < (m.length : Int) by omega), u64w p.length (by omega), if_pos (show (0 : Int) ≤ (p.length : Int) by omega), rdIHung m _ hlt, hg, wS (by omega)] at e
   rw [e]
   by_cases hb : bitOn b p.length = true
   ·rw [if_pos ((bit_iff b p.length).2 hb), if_pos (by omega), if_pos (by omega)]
    have := ih (p ++ [x]) (s ++ [(⟨⟨#[]⟩, x.f1, true⟩ : S45)]) (by rw [← hm]; simp) (by simp; omega)
    simp only [List.length_append, List.length_cons, List.length_nil, Nat.zero_add] at this
    refine Eq.trans this ?_
    simp [pickFrom, hb]
   ·rw [if_neg (fun z => hb ((bit_iff b p.length).1 z))]
    have := ih (p ++ [x]) s (by rw [← hm]; simp) (by simp; omega)
    simp only [List.length_append, List.length_cons, List.length_nil, Nat.zero_add] at this
    refine Eq.trans this ?_
    simp [pickFrom, hb]
 have := key m [] [] rfl (Nat.le_refl _)
 simpa using this
theorem impl_names_val (b : Int) (m : List S45) (h8 : m.length ≤ 8) : impl_BestSails.L1 b [] m (m.length : Int) 0 = some (namesFrom b 0 m, 0) := by
 have key : ∀ (t p : List S45) (s : List ByteArray), p ++ t = m → s.length ≤ p.length → impl_BestSails.L1 b s m (m.length : Int) (p.length : Int) = some (s ++ namesFrom b p.length t, 0) := by
  intro t
  induction t with
  | nil =>
   intro p s hm hs
   have : p.length = m.length := by rw [← hm]; simp
   rw [impl_BestSails.L1_eq, if_neg (by omega)]
   simp [namesFrom]
  | cons x t ih =>
   intro p s hm hs
   have hlt : p.length < m.length := by rw [← hm]; simp
   have hg : m[p.length] = x := by simp [← hm]
   rw [impl_BestSails.L1_eq, if_pos (by omega), if_pos (by omega), if_pos (by omega), rdIHung m _ hlt, hg, wS (by omega)]
   by_cases hb : bitOn b p.length = true
   ·rw [if_pos ((bit_iff b p.length).2 hb), if_pos (by omega)]
    have := ih (p ++ [x]) (s ++ [x.f0]) (by rw [← hm]; simp) (by simp; omega)
    simp only [List.length_append, List.length_cons, List.length_nil, Nat.zero_add] at this
    refine Eq.trans this ?_
    simp [namesFrom, hb]
   ·rw [if_neg (fun z => hb ((bit_iff b p.length).1 z))]
    have := ih (p ++ [x]) s (by rw [← hm]; simp) (by simp; omega)
    simp only [List.length_append, List.length_cons, List.length_nil, Nat.zero_add] at this
    refine Eq.trans this ?_
    simp [namesFrom, hb]
 have := key m [] [] rfl (Nat.le_refl _)
 simpa using this
theorem spec_names_val (b : Int) (m : List S45) (c d : Int) (h8 : m.length ≤ 8) : spec_BestSails.L2 b [] 0 m c d = some (namesFrom b 0 m, 0) := by
 have key : ∀ (t p : List S45) (s : List ByteArray), p ++ t = m → s.length ≤ p.length → spec_BestSails.L2 b s (p.length : Int) m c d = some (s ++ namesFrom b p.length t, 0) := by
  intro t
  induction t with
  | nil =>
   intro p s hm hs
   have : p.length = m.length := by rw [← hm]; simp
   rw [spec_BestSails.L2_eq, if_neg (by omega)]
   simp [namesFrom]
  | cons x t ih =>
   intro p s hm hs
   have hlt : p.length < m.length := by rw [← hm]; simp
   have hg : m[p.length] = x := by simp [← hm]
   rw [spec_BestSails.L2_eq, if_pos (by omega), u64w p.length (by omega), if_pos (show (0 : Int) ≤ (p.length : Int) by omega), rdIHung m _ hlt, hg, wS (by omega)]
   by_cases hb : bitOn b p.length = true
   ·rw [if_pos ((bit_iff b p.length).2 hb), if_pos (by omega), if_pos (by omega)]
    have := ih (p ++ [x]) (s ++ [x.f0]) (by rw [← hm]; simp) (by simp; omega)
    simp only [List.length_append, List.length_cons, List.length_nil, Nat.zero_add] at this
    refine Eq.trans this ?_
    simp [namesFrom, hb]
   ·rw [if_neg (fun z => hb ((bit_iff b p.length).1 z))]
    have := ih (p ++ [x]) s (by rw [← hm]; simp) (by simp; omega)
    simp only [List.length_append, List.length_cons, List.length_nil, Nat.zero_add] at this
    refine Eq.trans this ?_
    simp [namesFrom, hb]
 have := key m [] [] rfl (Nat.le_refl _)
 simpa using this
theorem shl8 (n : Nat) (h : n ≤ 8) : 1 ≤ shl .i64 1 (n : Int) ∧ shl .i64 1 (n : Int) ≤ 256 := by
 have : n = 0 ∨ n = 1 ∨ n = 2 ∨ n = 3 ∨ n = 4 ∨ n = 5 ∨ n = 6 ∨ n = 7 ∨ n = 8 := by omega
 rcases this with rfl | rfl | rfl | rfl | rfl | rfl | rfl | rfl | rfl <;> decide
theorem impl_step (x1 u v bi gi b : Int) (m : List S45) (c d : Int) (hp : planS m c d) (hu : -1000 ≤ u ∧ u ≤ 1000) (hv : -1000 ≤ v ∧ v ≤ 1000) (hb : b < shl .i64 1 (m.length : Int)) (h0 : 0 ≤ b) :
  impl_BestSails.L0 x1 u v bi gi b m c d = if areaZ (setFrom b 0 m) ≤ x1 ∧ (areaZ (setFrom b 0 m) ≠ 0 ∧ helmZ (setFrom b 0 m) c d u v = balancedS) ∧ (bi < 0 ∨ areaZ (setFrom b 0 m) > gi) then impl_BestSails.L0 x1 u v b (areaZ (setFrom b 0 m)) (b + 1) m c d else impl_BestSails.L0 x1 u v bi gi (b + 1) m c d := by
 have hN := shl8 m.length hp.1
 have h3 := planS_set b hp
 rw [impl_BestSails.L0_eq, if_pos hb, impl_withSet_val m c d b hp.1]
 simp only [Option.bind_some]
 rw [impl_planSums_val _ c d h3.1 h3.2.2.2]
 simp only [Option.bind_some]
 rw [w64 (n := b + 1) (by omega) (by omega), impl_helmOf_val _ c d u v h3 hu hv]
 simp only [Option.bind_some]
 by_cases g1 : areaZ (setFrom b 0 m) ≤ x1
 ·rw [if_pos g1]
  by_cases g2 : areaZ (setFrom b 0 m) = 0
  ·rw [if_pos g2, if_neg (fun z => by have := (bal_iff _).1 z; revert this; decide), if_neg (fun z => z.2.1.1 g2)]
  ·rw [if_neg g2]
   by_cases g3 : helmZ (setFrom b 0 m) c d u v = balancedS
   ·rw [if_pos ((bal_iff _).2 g3)]
    by_cases g4 : bi < 0
    ·rw [if_pos g4, if_pos ⟨g1, ⟨g2, g3⟩, Or.inl g4⟩]
    ·rw [if_neg g4]
     by_cases g5 : areaZ (setFrom b 0 m) > gi
     ·rw [if_pos g5, if_pos ⟨g1, ⟨g2, g3⟩, Or.inr g5⟩]
     ·rw [if_neg g5, if_neg (fun z => by rcases z.2.2 with z | z <;> omega)]
   ·rw [if_neg (fun z => g3 ((bal_iff _).1 z)), if_neg (fun z => g3 z.2.1.2)]
 ·rw [if_neg g1, if_neg (fun z => g1 z.1)]
theorem spec_step (x1 u v bs gs b : Int) (m : List S45) (c d : Int) (hp : planS m c d) (hu : -1000 ≤ u ∧ u ≤ 1000) (hv : -1000 ≤ v ∧ v ≤ 1000) (hb : b < shl .i64 1 (m.length : Int)) (h0 : 0 ≤ b) (hg : 0 ≤ gs) :
  spec_BestSails.L0 x1 u v bs gs b m c d = if areaZ (setFrom b 0 m) ≤ x1 ∧ areaZ (setFrom b 0 m) > gs ∧ helmZ (setFrom b 0 m) c d u v = balancedS then spec_BestSails.L0 x1 u v b (areaZ (setFrom b 0 m)) (b + 1) m c d else spec_BestSails.L0 x1 u v bs gs (b + 1) m c d := by
 have hN := shl8 m.length hp.1
 have h3 := planS_pick b hp
 have h8 := hp.1
 rw [spec_BestSails.L0_eq, u64w m.length (by omega), if_pos (by omega), if_pos hb, spec_pick_val x1 u v bs gs b m c d hp.1, spec_BestSails.L1_eq, if_neg (by omega), spec_l17Area_val _ c d h3.1 h3.2.2.2, w64 (n := b + 1) (by omega) (by omega)]
 simp only [Option.bind_some]
 rw [gA_two]
 by_cases g1 : areaZ (setFrom b 0 m) ≤ x1
 ·rw [if_pos g1]
  by_cases g2 : areaZ (setFrom b 0 m) > gs
  ·rw [if_pos g2, spec_l17Helm_val _ c d u v h3 (by rw [gA_two]; omega) hu hv, helm_two]
   simp only [Option.bind_some]
   by_cases g3 : helmZ (setFrom b 0 m) c d u v = balancedS
   ·rw [if_pos ((bal_iff _).2 g3), if_pos ⟨g1, g2, g3⟩]
   ·rw [if_neg (fun z => g3 ((bal_iff _).1 z)), if_neg (fun z => g3 z.2.2)]
  ·rw [if_neg g2, if_neg (fun z => g2 z.2.1)]
 ·rw [if_neg g1, if_neg (fun z => g1 z.1)]
def BestR (m : List S45) (c d x1 u v b : Int) : Prop := areaZ (setFrom b 0 m) ≤ x1 ∧ areaZ (setFrom b 0 m) > 0 ∧ helmZ (setFrom b 0 m) c d u v = balancedS
theorem loops2 (x1 u v : Int) (m : List S45) (c d : Int) (hp : planS m c d) (hu : -1000 ≤ u ∧ u ≤ 1000) (hv : -1000 ≤ v ∧ v ≤ 1000) : ∀ (n : Nat) (bi gi bs gs b : Int), 1 ≤ b → b + (n : Int) = shl .i64 1 (m.length : Int) → (bi = -1 ∧ bs = 0 ∧ gi = 0 ∧ gs = 0 ∨ (1 ≤ bi ∧ bs = bi ∧ gi = gs ∧ 0 ≤ gs) ∧ BestR m c d x1 u v bs) → ∃ y e, spec_BestSails.L0 x1 u v bs gs b m c d = some (y, e) ∧ impl_BestSails.L0 x1 u v bi gi b m c d = some (y, e) ∧ y.length ≤ 8 ∧ (e = 0 → ∃ b, y = namesFrom b 0 m ∧ BestR m c d x1 u v b) := by
 have h8 := hp.1
 intro n
 induction n with
 | zero =>
  intro bi gi bs gs b h1 h2 h3
  rw [impl_BestSails.L0_eq, if_neg (by omega), spec_BestSails.L0_eq, u64w m.length (by omega), if_pos (by omega), if_neg (by omega)]
  rcases h3 with h3 | ⟨h3, h4⟩
  ·rw [if_pos (show bs = 0 by omega), if_pos (show bi < 0 by omega)]
   exact ⟨_, _, rfl, rfl, by simp, fun h => absurd h (by decide)⟩
  ·rw [if_neg (show ¬ bs = 0 by omega), if_neg (show ¬ bi < 0 by omega), spec_names_val bs m c d h8, impl_names_val bi m h8, h3.2.1]
   have := namesFrom_len bi m 0
   rw [h3.2.1] at h4
   exact ⟨_, _, rfl, rfl, by omega, fun _ => ⟨bi, rfl, h4⟩⟩
 | succ n ih =>
  intro bi gi bs gs b h1 h2 h3
  have hA := (area_bdS (planS_set b hp)).1
  have hgs : 0 ≤ gs := by rcases h3 with h3 | ⟨h3, _⟩ <;> omega
  rw [impl_step x1 u v bi gi b m c d hp hu hv (by omega) (by omega), spec_step x1 u v bs gs b m c d hp hu hv (by omega) (by omega) hgs]
  have hcase : (bi = -1 ∧ bs = 0 ∧ gi = 0 ∧ gs = 0) ∨ (1 ≤ bi ∧ bs = bi ∧ gi = gs ∧ 0 ≤ gs) := by
   rcases h3 with h3 | ⟨h3, _⟩
   ·exact Or.inl h3
   ·exact Or.inr h3
  by_cases g1 : areaZ (setFrom b 0 m) ≤ x1
  ·by_cases g3 : helmZ (setFrom b 0 m) c d u v = balancedS
   ·by_cases g2 : areaZ (setFrom b 0 m) > gs
    ·rw [if_pos ⟨g1, g2, g3⟩, if_pos ⟨g1, ⟨by omega, g3⟩, by omega⟩]
     exact ih _ _ _ _ (b + 1) (by omega) (by omega) (Or.inr ⟨⟨h1, rfl, rfl, by omega⟩, g1, by omega, g3⟩)
    ·rw [if_neg (fun z => g2 z.2.1), if_neg (fun z => by have := z.2.1.1; have := z.2.2; omega)]
     exact ih _ _ _ _ (b + 1) (by omega) (by omega) h3
   ·rw [if_neg (fun z => g3 z.2.2), if_neg (fun z => g3 z.2.1.2)]
    exact ih _ _ _ _ (b + 1) (by omega) (by omega) h3
  ·rw [if_neg (fun z => g1 z.1), if_neg (fun z => g1 z.1)]
   exact ih _ _ _ _ (b + 1) (by omega) (by omega) h3
theorem best_both (m : List S45) (c d x1 u v : Int) (hl : m.length ≤ 1048576) (hy : ∀ y ∈ m, y.f0.size ≤ 1048576 ∧ y.f1.length ≤ 1048576) : ∃ y e, spec_BestSails.F m c d x1 u v = some (y, e) ∧ impl_BestSails.F m c d x1 u v = some (y, e) ∧ y.length ≤ 8 ∧ (e = 0 → planB m c d = true ∧ (-1000 ≤ u ∧ u ≤ v ∧ v ≤ 1000) ∧ ∃ b, y = namesFrom b 0 m ∧ BestR m c d x1 u v b) := by
 rw [spec_BestSails.F_eq, impl_BestSails.F_eq, spec_l17Ok_val m c d hl hy, impl_ValidPlan_val m c d hl hy, spec_l00In_val, impl_within_val]
 simp only [Option.bind_some]
 by_cases hp : planB m c d = true
 ·rw [if_pos hp, if_pos hp]
  have hs : planS m c d := planB_sails hp
  have hr2 : spec_l17Range.f u v = some (inB u (-1000) 1000 && inB v u 1000) := by
   unfold spec_l17Range.f
   simp only [spec_l00In_val, Option.bind_some]
   cases inB u (-1000) 1000 <;> rfl
  rw [hr2]
  simp only [Option.bind_some]
  have zz : ∃ y e, spec_BestSails.J0 x1 u v true m c d = some (y, e) ∧ impl_BestSails.J0 x1 u v true m c d = some (y, e) ∧ y.length ≤ 8 ∧ (e = 0 → planB m c d = true ∧ (-1000 ≤ u ∧ u ≤ v ∧ v ≤ 1000) ∧ ∃ b, y = namesFrom b 0 m ∧ BestR m c d x1 u v b) := by
   rw [spec_BestSails.J0_eq, impl_BestSails.J0_eq, if_pos rfl, if_pos rfl]
   exact ⟨_, _, rfl, rfl, by simp, fun h => absurd h (by decide)⟩
  by_cases hin : (inB u (-1000) 1000 && inB v u 1000) = true
  ·have hin2 := hin
   simp only [Bool.and_eq_true, inB_iff] at hin2
   rw [if_neg (show ¬ u < -1000 by omega), if_neg (show ¬ u > v by omega), if_neg (show ¬ v > 1000 by omega), hin]
   cases hx1 : inB x1 0 100000000 with
   | false => exact zz
   | true =>
    obtain ⟨y, e, e1, e2, e3, e4⟩ : ∃ y e, spec_BestSails.J0 x1 u v false m c d = some (y, e) ∧ impl_BestSails.J0 x1 u v false m c d = some (y, e) ∧ y.length ≤ 8 ∧ (e = 0 → ∃ b, y = namesFrom b 0 m ∧ BestR m c d x1 u v b) := by
     rw [spec_BestSails.J0_eq, impl_BestSails.J0_eq, if_neg nf, if_neg nf]
     have hN := shl8 m.length hs.1
     have h0 : areaZ (setFrom 0 0 m) = 0 := by rw [areaZ_l]; exact setFrom_zero m 0 (by have := hs.1; omega)
     rw [impl_step x1 u v (-1) 0 0 m c d hs (by omega) (by omega) (by omega) (by omega), if_neg (fun z => z.2.1.1 h0)]
     exact loops2 x1 u v m c d hs (by omega) (by omega) (shl .i64 1 (m.length : Int) - 1).toNat (-1) 0 0 0 (0 + 1) (by omega) (by omega) (Or.inl ⟨rfl, rfl, rfl, rfl⟩)
    exact ⟨y, e, e1, e2, e3, fun h => ⟨hp, by omega, e4 h⟩⟩
  ·have hin2 : ¬ ((-1000 ≤ u ∧ u ≤ 1000) ∧ (u ≤ v ∧ v ≤ 1000)) := by
    intro z; apply hin; simp only [Bool.and_eq_true, inB_iff]; exact z
   have hf : (inB u (-1000) 1000 && inB v u 1000) = false := by simpa using hin
   rw [hf]
   have zs : ∃ y e, (if inB x1 0 100000000 = true then spec_BestSails.J0 x1 u v (!false) m c d else spec_BestSails.J0 x1 u v true m c d) = some (y, e) ∧ impl_BestSails.J0 x1 u v true m c d = some (y, e) ∧ y.length ≤ 8 ∧ (e = 0 → planB m c d = true ∧ (-1000 ≤ u ∧ u ≤ v ∧ v ≤ 1000) ∧ ∃ b, y = namesFrom b 0 m ∧ BestR m c d x1 u v b) := by
    rw [Bool.not_false, ite_self]
    exact zz
   by_cases g1 : u < -1000
   ·rw [if_pos g1]; exact zs
   ·rw [if_neg g1]
    by_cases g2 : u > v
    ·rw [if_pos g2]; exact zs
    ·rw [if_neg g2, if_pos (show v > 1000 by omega)]; exact zs
 ·rw [if_neg hp, if_neg hp]
  exact ⟨_, _, rfl, rfl, by simp, fun h => absurd h (by decide)⟩
theorem spec_l17Code_val (m : List S45) (c d : Int) (hl : m.length ≤ 1048576) (hy : ∀ y ∈ m, y.f0.size ≤ 1048576 ∧ y.f1.length ≤ 1048576) : spec_l17Code.F [⟨m, c, d⟩] = some (if planB m c d = true then (if areaZ m = 0 then 3 else 0) else 1) := by
 rw [spec_l17Code.F_eq, if_pos (by simp), spec_l17Ok_val m c d hl hy]
 simp only [Option.bind_some]
 by_cases hp : planB m c d = true
 ·obtain ⟨p1, p2, p3, p4⟩ := planB_sails hp
  rw [if_pos hp, if_pos hp, spec_l17Area_val m c d p1 p4]
  simp only [Option.bind_some]
  split <;> rfl
 ·rw [if_neg hp, if_neg hp]
theorem area_bd {m : List S45} {c d : Int} (hp : planB m c d = true) : (0 ≤ areaZ m ∧ areaZ m ≤ 512000000) ∧ (-2048000000000 ≤ mxZ m ∧ mxZ m ≤ 2048000000000) ∧ (-2048000000000 ≤ myZ m ∧ myZ m ≤ 2048000000000) := by
 obtain ⟨p1, p2, p3, p4⟩ := planB_sails hp
 exact plan_bd m p1 p4 m.length (Nat.le_refl _)
def helmR (m : List S45) (c d u v : Int) : ByteArray × Int := if planB m c d = true then (if (inB u (-1000) 1000 && inB v u 1000) = true then (if areaZ m = 0 then (⟨#[]⟩, 3) else (helmZ m c d u v, 0)) else (⟨#[]⟩, 2)) else (⟨#[]⟩, 1)
theorem helm_both (m : List S45) (c d u v : Int) (hl : m.length ≤ 1048576) (hy : ∀ y ∈ m, y.f0.size ≤ 1048576 ∧ y.f1.length ≤ 1048576) : ∃ x, spec_HelmOf.F m c d u v = some x ∧ impl_HelmOf.F m c d u v = some x ∧ x = helmR m c d u v := by
 rw [spec_HelmOf.F_eq, impl_HelmOf.F_eq, spec_l17Code_val m c d hl hy, impl_ValidPlan_val m c d hl hy]
 simp only [Option.bind_some]
 by_cases hp : planB m c d = true
 ·rw [if_pos hp, if_pos hp]
  have hr2 : spec_l17Range.f u v = some (inB u (-1000) 1000 && inB v u 1000) := by
   unfold spec_l17Range.f
   simp only [spec_l00In_val, Option.bind_some]
   cases inB u (-1000) 1000 <;> rfl
  rw [hr2]
  simp only [Option.bind_some]
  have hc1 : ¬ (if areaZ m = 0 then (3 : Int) else 0) = 1 := by split <;> decide
  rw [if_neg hc1]
  by_cases hin : (inB u (-1000) 1000 && inB v u 1000) = true
  ·have hin2 := hin
   simp only [Bool.and_eq_true, inB_iff] at hin2
   rw [if_pos hin, if_neg (show ¬ u < -1000 by omega), if_neg (show ¬ u > v by omega), impl_HelmOf.J0_eq, if_neg (show ¬ decide (v > 1000) = true by rw [decide_eq_true_eq]; omega), impl_helmOf_val m c d u v (planB_sails hp) (by omega) (by omega)]
   simp only [Option.bind_some]
   by_cases h0 : areaZ m = 0
   ·simp only [if_pos h0]
    rw [if_neg (show ¬ (3 : Int) = 0 by decide), if_pos ((toList_nil _).2 (by decide))]
    exact ⟨_, rfl, rfl, by unfold helmR; rw [if_pos hp, if_pos hin, if_pos h0]⟩
   ·simp only [if_neg h0]
    rw [if_pos trivial, spec_l17Helm_val m c d u v (planB_sails hp) h0 (by omega) (by omega)]
    simp only [Option.bind_some]
    have hne : ¬ (helmZ m c d u v).size = 0 := by
     unfold helmZ
     split
     ·decide
     ·split <;> decide
    rw [if_neg (fun z => hne ((toList_nil _).1 z))]
    exact ⟨_, rfl, rfl, by unfold helmR; rw [if_pos hp, if_pos hin, if_neg h0]⟩
  ·rw [if_neg hin]
   have hin2 : ¬ ((-1000 ≤ u ∧ u ≤ 1000) ∧ (u ≤ v ∧ v ≤ 1000)) := by
    intro z; apply hin; simp only [Bool.and_eq_true, inB_iff]; exact z
   simp only [impl_HelmOf.J0_eq]
   by_cases g1 : u < -1000
   ·rw [if_pos g1, if_pos trivial]; exact ⟨_, rfl, rfl, by unfold helmR; rw [if_pos hp, if_neg hin]⟩
   ·rw [if_neg g1]
    by_cases g2 : u > v
    ·rw [if_pos g2, if_pos trivial]; exact ⟨_, rfl, rfl, by unfold helmR; rw [if_pos hp, if_neg hin]⟩
    ·rw [if_neg g2, if_pos (show decide (v > 1000) = true by rw [decide_eq_true_eq]; omega)]; exact ⟨_, rfl, rfl, by unfold helmR; rw [if_pos hp, if_neg hin]⟩
 ·rw [if_neg hp, if_neg hp, if_pos rfl]
  exact ⟨_, rfl, rfl, by unfold helmR; rw [if_neg hp]⟩
theorem helm_wide {m : List S45} {c d u v u' v' : Int} (hd : 1 ≤ d) (hA : 0 ≤ areaZ m) (h : helmZ m c d u v = balancedS) (h1 : u' ≤ u) (h2 : v ≤ v') : helmZ m c d u' v' = balancedS := by
 have hk : 0 ≤ d * (3 * areaZ m) := Int.mul_nonneg (by omega) (by omega)
 have a1 : u' * (d * (3 * areaZ m)) ≤ u * (d * (3 * areaZ m)) := Int.mul_le_mul_of_nonneg_right h1 hk
 have a2 : v * (d * (3 * areaZ m)) ≤ v' * (d * (3 * areaZ m)) := Int.mul_le_mul_of_nonneg_right h2 hk
 unfold helmZ at h ⊢
 rw [Int.mul_assoc, Int.mul_assoc] at h ⊢
 by_cases g1 : 1000 * leadZ m c < u * (d * (3 * areaZ m))
 ·rw [if_pos g1] at h
  exact absurd h (by decide)
 ·rw [if_neg g1] at h
  by_cases g2 : v * (d * (3 * areaZ m)) < 1000 * leadZ m c
  ·rw [if_pos g2] at h
   exact absurd h (by decide)
  ·rw [if_neg (by omega), if_neg (by omega)]
def bMn (f : S70 → Int) (l : List S70) (z : Int) : Int := l.foldl (fun a x => min a (f x)) z
def bMx (f : S70 → Int) (l : List S70) (z : Int) : Int := l.foldl (fun a x => max a (f x)) z
def pX (p : S70) : Int := p.f0
def pY (p : S70) : Int := p.f1
/-- The box of a sail: least places, greatest places. -/
def boxOf : List S70 → Int × Int × Int × Int
 | [] => (0, 0, 0, 0)
 | x :: t => (bMn pX t x.f0, bMn pY t x.f1, bMx pX t x.f0, bMx pY t x.f1)
theorem bMn_le (f : S70 → Int) (l : List S70) : ∀ z, bMn f l z ≤ z ∧ ∀ y ∈ l, bMn f l z ≤ f y := by
 induction l with
 | nil => intro z; exact ⟨Int.le_refl _, fun y hy => by simp at hy⟩
 | cons x t ih =>
  intro z
  have h := ih (min z (f x))
  show bMn f t (min z (f x)) ≤ z ∧ ∀ y ∈ x :: t, bMn f t (min z (f x)) ≤ f y
  refine ⟨by omega, fun y hy => ?_⟩
  rcases List.mem_cons.1 hy with rfl | hy
  ·omega
  ·exact h.2 y hy
theorem bMx_ge (f : S70 → Int) (l : List S70) : ∀ z, z ≤ bMx f l z ∧ ∀ y ∈ l, f y ≤ bMx f l z := by
 induction l with
 | nil => intro z; exact ⟨Int.le_refl _, fun y hy => by simp at hy⟩
 | cons x t ih =>
  intro z
  have h := ih (max z (f x))
  show z ≤ bMx f t (max z (f x)) ∧ ∀ y ∈ x :: t, f y ≤ bMx f t (max z (f x))
  refine ⟨by omega, fun y hy => ?_⟩
  rcases List.mem_cons.1 hy with rfl | hy
  ·omega
  ·exact h.2 y hy
theorem boxOf_all {l : List S70} {y : S70} (hy : y ∈ l) : (boxOf l).1 ≤ y.f0 ∧ (boxOf l).2.1 ≤ y.f1 ∧ y.f0 ≤ (boxOf l).2.2.1 ∧ y.f1 ≤ (boxOf l).2.2.2 := by
 cases l with
 | nil => simp at hy
 | cons x t =>
  have a := bMn_le pX t x.f0
  have b := bMn_le pY t x.f1
  have c := bMx_ge pX t x.f0
  have d := bMx_ge pY t x.f1
  show bMn pX t x.f0 ≤ _ ∧ bMn pY t x.f1 ≤ _ ∧ _ ≤ bMx pX t x.f0 ∧ _ ≤ bMx pY t x.f1
  rcases List.mem_cons.1 hy with rfl | hy
  ·exact ⟨a.1, b.1, c.1, d.1⟩
  ·exact ⟨a.2 y hy, b.2 y hy, c.2 y hy, d.2 y hy⟩
/-- A sail's box has a width and a height. -/
theorem boxOf_wide {l : List S70} (hs : sailB l = true) : (boxOf l).1 < (boxOf l).2.2.1 ∧ (boxOf l).2.1 < (boxOf l).2.2.2 := by
 obtain ⟨h3, h8, ha⟩ := sailB_len hs
 simp only [sailB, Bool.and_eq_true, decide_eq_true_eq, List.all_eq_true (l := List.range l.length), List.mem_range] at hs
 have hc := (hs.2.2.1 0 (by omega)).1
 rw [Nat.mod_eq_of_lt (show 0 + 1 < l.length by omega), Nat.mod_eq_of_lt (show 0 + 2 < l.length by omega)] at hc
 unfold crossAt crossZ sx sy at hc
 rw [rdISpot l 0 (by omega), rdISpot l (0 + 1) (by omega), rdISpot l (0 + 2) (by omega)] at hc
 have b0 := boxOf_all (List.getElem_mem (l := l) (show 0 < l.length by omega))
 have b1 := boxOf_all (List.getElem_mem (l := l) (show 0 + 1 < l.length by omega))
 have b2 := boxOf_all (List.getElem_mem (l := l) (show 0 + 2 < l.length by omega))
 generalize l[0] = p0 at *
 generalize l[0 + 1] = p1 at *
 generalize l[0 + 2] = p2 at *
 constructor
 ·by_cases h : (boxOf l).1 < (boxOf l).2.2.1
  ·exact h
  ·exfalso; apply hc
   rw [show p1.f0 - p0.f0 = 0 by omega, show p2.f0 - p0.f0 = 0 by omega]; simp
 ·by_cases h : (boxOf l).2.1 < (boxOf l).2.2.2
  ·exact h
  ·exfalso; apply hc
   rw [show p1.f1 - p0.f1 = 0 by omega, show p2.f1 - p0.f1 = 0 by omega]; simp
theorem spec_l17Box_val (l : List S70) (h0 : 0 < l.length) (hl : l.length ≤ 1048576) : spec_l17Box.F l = some (boxOf l) := by
 have mn : ∀ a b : Int, spec_l00Min.f a b = some (min a b) := fun a b => by
  unfold spec_l00Min.f
  split
  ·rw [show min a b = a by omega]
  ·rw [show min a b = b by omega]
 have mx : ∀ a b : Int, spec_l00Max.f a b = some (max a b) := fun a b => by
  unfold spec_l00Max.f
  split
  ·rw [show max a b = a by omega]
  ·rw [show max a b = b by omega]
 have key : ∀ (t p : List S70) (a b c e : Int), p ++ t = l → spec_l17Box.L0 l (p.length : Int) a b c e = some (bMn pX t a, bMn pY t b, bMx pX t c, bMx pY t e) := by
  intro t
  induction t with
  | nil =>
   intro p a b c e hp
   have : p.length = l.length := by rw [← hp]; simp
   rw [spec_l17Box.L0_eq, if_neg (by omega)]
   rfl
  | cons x t ih =>
   intro p a b c e hp
   have hlt : p.length < l.length := by rw [← hp]; simp
   have hg : l[p.length] = x := by simp [← hp]
   rw [spec_l17Box.L0_eq, if_pos (by omega), if_pos (by omega), rdISpot l _ hlt, hg, wS (by omega)]
   simp only [mn, mx, Option.bind_some]
   have := ih (p ++ [x]) (min a x.f0) (min b x.f1) (max c x.f0) (max e x.f1) (by rw [← hp]; simp)
   simp only [List.length_append, List.length_cons, List.length_nil, Nat.zero_add] at this
   exact this
 rw [spec_l17Box.F_eq, if_pos (by omega)]
 cases l with
 | nil => simp at h0
 | cons x t =>
  have e0 : rd_T70 (x :: t) 0 = x := rfl
  rw [e0]
  exact key t [x] _ _ _ _ rfl
theorem best_mn (f : S70 → Int) (p : S70 → S70 → Int) (hp : ∀ x m : S70, spotIn x = true → spotIn m = true → p x m = f x - f m) (l : List S70) (hl : l.all spotIn = true) : ∀ z, spotIn z = true → f (l.foldl (fun m x => if decide (p x m < 0) = true then x else m) z) = bMn f l (f z) := by
 induction l with
 | nil => intro z _; rfl
 | cons x t ih =>
  intro z hz
  simp only [List.all_cons, Bool.and_eq_true] at hl
  have h1 := hp x z hl.1 hz
  show f (t.foldl _ (if decide (p x z < 0) = true then x else z)) = bMn f t (min (f z) (f x))
  by_cases h : p x z < 0
  ·rw [if_pos (decide_eq_true h), ih hl.2 x hl.1, show min (f z) (f x) = f x by omega]
  ·rw [if_neg (by simpa using h), ih hl.2 z hz, show min (f z) (f x) = f z by omega]
theorem best_mx (f : S70 → Int) (p : S70 → S70 → Int) (hp : ∀ x m : S70, spotIn x = true → spotIn m = true → p x m = f x - f m) (l : List S70) (hl : l.all spotIn = true) : ∀ z, spotIn z = true → f (l.foldl (fun m x => if decide (p x m > 0) = true then x else m) z) = bMx f l (f z) := by
 induction l with
 | nil => intro z _; rfl
 | cons x t ih =>
  intro z hz
  simp only [List.all_cons, Bool.and_eq_true] at hl
  have h1 := hp x z hl.1 hz
  show f (t.foldl _ (if decide (p x z > 0) = true then x else z)) = bMx f t (max (f z) (f x))
  by_cases h : p x z > 0
  ·rw [if_pos (decide_eq_true h), ih hl.2 x hl.1, show max (f z) (f x) = f x by omega]
  ·rw [if_neg (by simpa using h), ih hl.2 z hz, show max (f z) (f x) = f z by omega]
theorem leftP_val (x m : S70) (hx : spotIn x = true) (hm : spotIn m = true) : leftP x m = pX x - pX m := by
 simp only [spotIn, Bool.and_eq_true, inB_iff] at hx hm
 unfold leftP pX
 rw [w64 (by omega) (by omega)]
theorem lowP_val (x m : S70) (hx : spotIn x = true) (hm : spotIn m = true) : lowP x m = pY x - pY m := by
 simp only [spotIn, Bool.and_eq_true, inB_iff] at hx hm
 unfold lowP pY
 rw [w64 (by omega) (by omega)]
theorem minP_val (f : S70 → Int) (p : S70 → S70 → Int) (hp : ∀ x m : S70, spotIn x = true → spotIn m = true → p x m = f x - f m) (x : S70) (t : List S70) (hl : (x :: t).all spotIn = true) (h : 0 < (x :: t).length) : f (minP p (x :: t) h) = bMn f t (f x) := by
 have hx : spotIn x = true := by simp only [List.all_cons, Bool.and_eq_true] at hl; exact hl.1
 have := best_mn f p hp (x :: t) hl x hx
 unfold minP bestF
 rw [List.take_length]
 refine this.trans ?_
 show bMn f t (min (f x) (f x)) = _
 rw [Int.min_self]
theorem maxP_val (f : S70 → Int) (p : S70 → S70 → Int) (hp : ∀ x m : S70, spotIn x = true → spotIn m = true → p x m = f x - f m) (x : S70) (t : List S70) (hl : (x :: t).all spotIn = true) (h : 0 < (x :: t).length) : f (maxP p (x :: t) h) = bMx f t (f x) := by
 have hx : spotIn x = true := by simp only [List.all_cons, Bool.and_eq_true] at hl; exact hl.1
 have := best_mx f p hp (x :: t) hl x hx
 unfold maxP bestF
 rw [List.take_length]
 refine this.trans ?_
 show bMx f t (max (f x) (f x)) = _
 rw [Int.max_self]
theorem impl_boxesMeet_val (a b : List S70) (ha : sailB a = true) (hb : sailB b = true) : impl_boxesMeet.f a b = some (decide ((boxOf a).1 < (boxOf b).2.2.1 ∧ (boxOf b).1 < (boxOf a).2.2.1 ∧ (boxOf a).2.1 < (boxOf b).2.2.2 ∧ (boxOf b).2.1 < (boxOf a).2.2.2)) := by
 have wa := boxOf_wide ha
 have wb := boxOf_wide hb
 obtain ⟨a3, a8, aa⟩ := sailB_len ha
 obtain ⟨b3, b8, ba⟩ := sailB_len hb
 unfold impl_boxesMeet.f
 rw [dif_pos (show 0 < a.length by omega), dif_pos (show 0 < b.length by omega), if_pos ⟨by omega, by omega⟩]
 cases a with
 | nil => simp at a3
 | cons x t =>
  cases b with
  | nil => simp at b3
  | cons y s =>
   have e1 := minP_val pX leftP leftP_val x t aa (by simp)
   have e2 := minP_val pX leftP leftP_val y s ba (by simp)
   have e3 := maxP_val pX leftP leftP_val x t aa (by simp)
   have e4 := maxP_val pX leftP leftP_val y s ba (by simp)
   have e5 := minP_val pY lowP lowP_val x t aa (by simp)
   have e6 := minP_val pY lowP lowP_val y s ba (by simp)
   have e7 := maxP_val pY lowP lowP_val x t aa (by simp)
   have e8 := maxP_val pY lowP lowP_val y s ba (by simp)
   have wa1 : bMn pX t x.f0 < bMx pX t x.f0 := wa.1
   have wa2 : bMn pY t x.f1 < bMx pY t x.f1 := wa.2
   have wb1 : bMn pX s y.f0 < bMx pX s y.f0 := wb.1
   have wb2 : bMn pY s y.f1 < bMx pY s y.f1 := wb.2
   show some (decide (max (pX (minP leftP (x :: t) _)) (pX (minP leftP (y :: s) _)) < min (pX (maxP leftP (x :: t) _)) (pX (maxP leftP (y :: s) _))) && decide (max (pY (minP lowP (x :: t) _)) (pY (minP lowP (y :: s) _)) < min (pY (maxP lowP (x :: t) _)) (pY (maxP lowP (y :: s) _)))) = some (decide (bMn pX t x.f0 < bMx pX s y.f0 ∧ bMn pX s y.f0 < bMx pX t x.f0 ∧ bMn pY t x.f1 < bMx pY s y.f1 ∧ bMn pY s y.f1 < bMx pY t x.f1))
   rw [e1, e2, e3, e4, e5, e6, e7, e8]
   have f1 : pX x = x.f0 := rfl
   have f2 : pX y = y.f0 := rfl
   have f3 : pY x = x.f1 := rfl
   have f4 : pY y = y.f1 := rfl
   rw [f1, f2, f3, f4]
   congr 1
   rw [Bool.eq_iff_iff]
   simp only [Bool.and_eq_true, decide_eq_true_eq]
   omega
def pairOn (m : List S45) (i k : Nat) : Bool := (rd_T45 m (i : Int)).f2 && ((rd_T45 m (k : Int)).f2 && decide ((boxOf (rd_T45 m (i : Int)).f1).1 < (boxOf (rd_T45 m (k : Int)).f1).2.2.1 ∧ (boxOf (rd_T45 m (k : Int)).f1).1 < (boxOf (rd_T45 m (i : Int)).f1).2.2.1 ∧ (boxOf (rd_T45 m (i : Int)).f1).2.1 < (boxOf (rd_T45 m (k : Int)).f1).2.2.2 ∧ (boxOf (rd_T45 m (k : Int)).f1).2.1 < (boxOf (rd_T45 m (i : Int)).f1).2.2.2))
theorem spec_one (m : List S45) (c d : Int) (h8 : m.length ≤ 8) (hs : ∀ y ∈ m, sailB y.f1 = true) (out : List (List Int)) (ho : out.length ≤ 100) (i k : Nat) (hi : i < m.length) (hk : k < m.length) :
  spec_OverlapsOf.L1 out i k m c d (boxOf (rd_T45 m (i : Int)).f1).1 (boxOf (rd_T45 m (i : Int)).f1).2.1 (boxOf (rd_T45 m (i : Int)).f1).2.2.1 (boxOf (rd_T45 m (i : Int)).f1).2.2.2 = spec_OverlapsOf.L1 (if pairOn m i k = true then out ++ [[(i : Int), (k : Int)]] else out) i ((k + 1 : Nat) : Int) m c d (boxOf (rd_T45 m (i : Int)).f1).1 (boxOf (rd_T45 m (i : Int)).f1).2.1 (boxOf (rd_T45 m (i : Int)).f1).2.2.1 (boxOf (rd_T45 m (i : Int)).f1).2.2.2 := by
 have hb : sailB (rd_T45 m (k : Int)).f1 = true := by rw [rdIHung m k hk]; exact hs _ (List.getElem_mem hk)
 have h3 := sailB_len hb
 rw [spec_OverlapsOf.L1_eq, if_pos (by omega), if_pos (by omega), spec_l17Box_val _ (by omega) (by omega), wS (by omega)]
 simp only [Option.bind_some]
 rw [if_pos (show (0 : Int) ≤ (i : Int) by omega), if_pos (show (i : Int) < (m.length : Int) by omega)]
 unfold pairOn
 cases (rd_T45 m (i : Int)).f2
 ·simp
 ·cases (rd_T45 m (k : Int)).f2
  ·simp
  ·rw [if_pos rfl, if_pos rfl]
   split
   ·split
    ·split
     ·split
      ·rename_i g1 g2 g3 g4
       rw [if_pos (show out.length < 5864062014805 by omega), if_pos (by simp [g1, g2, g3, g4])]
      ·rename_i g1 g2 g3 g4
       rw [if_neg (by simp [g4])]
     ·rename_i g1 g2 g3
      rw [if_neg (by simp [g3])]
    ·rename_i g1 g2
     rw [if_neg (by simp [g2])]
   ·rename_i g1
    rw [if_neg (by simp [g1])]
theorem impl_one (m : List S45) (c d : Int) (h8 : m.length ≤ 8) (hs : ∀ y ∈ m, sailB y.f1 = true) (out : List (List Int)) (ho : out.length ≤ 100) (i k : Nat) (hi : i < m.length) (hk : k < m.length) :
  impl_OverlapsOf.L1 out i k m (m.length : Int) i m c d (rd_T45 m (i : Int)).f0 (rd_T45 m (i : Int)).f1 (rd_T45 m (i : Int)).f2 = impl_OverlapsOf.L1 (if pairOn m i k = true then out ++ [[(i : Int), (k : Int)]] else out) i ((k + 1 : Nat) : Int) m (m.length : Int) i m c d (rd_T45 m (i : Int)).f0 (rd_T45 m (i : Int)).f1 (rd_T45 m (i : Int)).f2 := by
 have hb : sailB (rd_T45 m (k : Int)).f1 = true := by rw [rdIHung m k hk]; exact hs _ (List.getElem_mem hk)
 have ha : sailB (rd_T45 m (i : Int)).f1 = true := by rw [rdIHung m i hi]; exact hs _ (List.getElem_mem hi)
 rw [impl_OverlapsOf.L1_eq, if_pos (by omega), impl_boxesMeet_val _ _ ha hb, wS (by omega)]
 simp only [Option.bind_some]
 unfold pairOn
 cases hi2 : (rd_T45 m (i : Int)).f2
 ·simp
 ·rw [if_pos rfl, if_pos (show (0 : Int) ≤ (k : Int) by omega)]
  cases hk2 : (rd_T45 m (k : Int)).f2
  ·simp
  ·rw [if_pos rfl]
   simp only [Bool.true_and]
   split
   ·rw [if_pos (show out.length < 5864062014805 by omega)]
   ·rfl
def Ordered (m : List S45) (r : List Int) : Prop := ∃ i k : Nat, i < k ∧ k < m.length ∧ r = [(i : Int), (k : Int)]
theorem pair_ord (m : List S45) (i k : Nat) (hi : i < k) (hk : k < m.length) (out : List (List Int)) (h : ∀ r ∈ out, Ordered m r) : (if pairOn m i k = true then out ++ [[(i : Int), (k : Int)]] else out).length ≤ out.length + 1 ∧ ∀ r ∈ (if pairOn m i k = true then out ++ [[(i : Int), (k : Int)]] else out), Ordered m r := by
 split
 ·refine ⟨by simp, fun r hr => ?_⟩
  rcases List.mem_append.1 hr with hr | hr
  ·exact h r hr
  ·rw [List.mem_singleton] at hr; exact ⟨i, k, hi, hk, hr⟩
 ·exact ⟨by omega, h⟩
def Good (m : List S45) (c d : Int) (i : Nat) (out : List (List Int)) : Prop := ∃ y, spec_OverlapsOf.L0 out (i : Int) m c d = some (y, 0) ∧ impl_OverlapsOf.L0 out m (m.length : Int) (i : Int) m c d = some (y, 0) ∧ y.length ≤ 100 ∧ ∀ r ∈ y, Ordered m r
theorem inner2 (m : List S45) (c d : Int) (h8 : m.length ≤ 8) (hs : ∀ y ∈ m, sailB y.f1 = true) (i : Nat) (hi : i < m.length) (hn : ∀ out : List (List Int), out.length ≤ 8 * (i + 1) → (∀ r ∈ out, Ordered m r) → Good m c d (i + 1) out) :
  ∀ (e k : Nat) (out : List (List Int)), i < k → k + e = m.length → out.length + e ≤ 8 * (i + 1) → (∀ r ∈ out, Ordered m r) → ∃ y, spec_OverlapsOf.L1 out i k m c d (boxOf (rd_T45 m (i : Int)).f1).1 (boxOf (rd_T45 m (i : Int)).f1).2.1 (boxOf (rd_T45 m (i : Int)).f1).2.2.1 (boxOf (rd_T45 m (i : Int)).f1).2.2.2 = some (y, 0) ∧ impl_OverlapsOf.L1 out i k m (m.length : Int) i m c d (rd_T45 m (i : Int)).f0 (rd_T45 m (i : Int)).f1 (rd_T45 m (i : Int)).f2 = some (y, 0) ∧ y.length ≤ 100 ∧ ∀ r ∈ y, Ordered m r := by
 intro e
 induction e with
 | zero =>
  intro k out hik hk ho hr
  rw [spec_OverlapsOf.L1_eq, if_neg (by omega), impl_OverlapsOf.L1_eq, if_neg (by omega), wS (by omega)]
  exact hn out (by omega) hr
 | succ e ih =>
  intro k out hik hk ho hr
  have hp := pair_ord m i k hik (by omega) out hr
  rw [spec_one m c d h8 hs out (by omega) i k hi (by omega), impl_one m c d h8 hs out (by omega) i k hi (by omega)]
  exact ih (k + 1) _ (by omega) (by omega) (by omega) hp.2
theorem outer2 (m : List S45) (c d : Int) (h8 : m.length ≤ 8) (hs : ∀ y ∈ m, sailB y.f1 = true) : ∀ (e i : Nat) (out : List (List Int)), i + e = m.length → out.length ≤ 8 * i → (∀ r ∈ out, Ordered m r) → Good m c d i out := by
 intro e
 induction e with
 | zero =>
  intro i out hi ho hr
  unfold Good
  rw [spec_OverlapsOf.L0_eq, if_neg (by omega), impl_OverlapsOf.L0_eq, if_neg (by omega)]
  exact ⟨_, rfl, rfl, by omega, hr⟩
 | succ e ih =>
  intro i out hi ho hr
  have hlt : i < m.length := by omega
  have ha : sailB (rd_T45 m (i : Int)).f1 = true := by rw [rdIHung m i hlt]; exact hs _ (List.getElem_mem hlt)
  have h3 := sailB_len ha
  unfold Good
  rw [spec_OverlapsOf.L0_eq, if_pos (by omega), if_pos (by omega), spec_l17Box_val _ (by omega) (by omega), impl_OverlapsOf.L0_eq, if_pos (by omega), if_pos (by omega), if_pos (by omega), wS (by omega)]
  simp only [Option.bind_some]
  exact inner2 m c d h8 hs i hlt (fun out' h1 h2 => ih (i + 1) out' (by omega) h1 h2) (m.length - (i + 1)) (i + 1) out (by omega) (by omega) (by omega) hr
theorem over_both (m : List S45) (c d : Int) (hl : m.length ≤ 1048576) (hy : ∀ y ∈ m, y.f0.size ≤ 1048576 ∧ y.f1.length ≤ 1048576) : ∃ y e, spec_OverlapsOf.F m c d = some (y, e) ∧ impl_OverlapsOf.F m c d = some (y, e) ∧ y.length ≤ 100 ∧ ∀ r ∈ y, Ordered m r := by
 rw [spec_OverlapsOf.F_eq, impl_OverlapsOf.F_eq, spec_l17Ok_val m c d hl hy, impl_ValidPlan_val m c d hl hy, Option.bind_some, Option.bind_some]
 by_cases hp : planB m c d = true
 ·obtain ⟨p1, p2, p3, p4⟩ := planB_sails hp
  rw [if_pos hp, if_pos hp]
  obtain ⟨y, q1, q2, q3, q4⟩ := outer2 m c d p1 p4 m.length 0 [] (by omega) (by simp) (by simp)
  exact ⟨y, 0, q1, q2, q3, q4⟩
 ·rw [if_neg hp, if_neg hp]
  exact ⟨_, _, rfl, rfl, by simp, by simp⟩
/-- Whether a text stands in a row. -/
def hasB (l : List ByteArray) (s : ByteArray) : Bool := decide (idxF (fun y => decide (y = s)) l ≥ 0)
theorem hasLoop {α : Type} (l : List α) (p : α → Bool) (g : Int → Option Bool) (h : ∀ i (hi : i < l.length), g (i : Int) = if p l[i] = true then some true else g ((i + 1 : Nat) : Int)) (he : g (l.length : Int) = some false) : g 0 = some (decide (idxF p l ≥ 0)) := by
 have key : ∀ (d i : Nat), l.length - i = d → i ≤ l.length → (∀ j (hj : j < i) (hl : j < l.length), p l[j] = false) → g (i : Int) = some (decide (idxF p l ≥ 0)) := by
  intro d
  induction d with
  | zero =>
   intro i hd hi ha
   obtain rfl : i = l.length := by omega
   rcases idxF_cases p l with ⟨k, hk, h1, h2, e⟩ | ⟨h1, e⟩
   ·have := ha k hk hk
    rw [h1] at this; cases this
   ·rw [he, e]; rfl
  | succ d ih =>
   intro i hd hi ha
   have hlt : i < l.length := by omega
   rw [h i hlt]
   by_cases hp : p l[i] = true
   ·rw [if_pos hp, idxF_first p l i hlt hp (fun j hj => ha j hj (by omega)), decide_eq_true (by omega)]
   ·rw [if_neg hp]
    refine ih (i + 1) (by omega) (by omega) (fun j hj hl => ?_)
    by_cases e : j = i
    ·subst e; simpa using hp
    ·exact ha j (by omega) hl
 exact key l.length 0 (by omega) (by omega) (fun j hj => absurd hj (Nat.not_lt_zero _))
theorem idxF_lt {α : Type} (p : α → Bool) (l : List α) : idxF p l < (l.length : Int) := by
 rcases idxF_cases p l with ⟨k, hk, h1, h2, e⟩ | ⟨h1, e⟩ <;> omega
theorem idxF_hits {α : Type} (p : α → Bool) (l : List α) (h : idxF p l ≥ 0) : ∃ k, ∃ hk : k < l.length, p l[k] = true ∧ idxF p l = (k : Int) := by
 rcases idxF_cases p l with ⟨k, hk, h1, h2, e⟩ | ⟨h1, e⟩
 ·exact ⟨k, hk, h1, e⟩
 ·omega
theorem rdLL (l : List (List Int)) (i : Nat) (h : i < l.length) : rd_L9 l (i : Int) = l[i] := by simp [rd_L9, h]
theorem strEq (a b : ByteArray) : (a.toList = b.toList) ↔ a = b := by
 rw [ByteArray.toList_eq, ByteArray.toList_eq]
 exact ⟨fun h => ByteArray.ext (Array.toList_inj.mp h), fun h => by rw [h]⟩
theorem f6texts_val (l : List ByteArray) (hl : l.length ≤ 1048576) : laws_f6texts.F l l = some true := by
 rw [laws_f6texts.F_eq, if_pos rfl]
 have := allLoop l (fun _ => true) (fun i => laws_f6texts.L0 l l i) true (fun i hi => by
  show laws_f6texts.L0 l l i = _
  rw [laws_f6texts.L0_eq, if_pos (by omega), if_pos (by omega), if_pos (by omega), wS (by omega)]
  simp) (by
  show laws_f6texts.L0 l l _ = _
  rw [laws_f6texts.L0_eq, if_neg (by omega)])
 rw [this]; simp
theorem f6ints_val (l : List Int) (hl : l.length ≤ 1048576) : laws_f6ints.F l l = some true := by
 rw [laws_f6ints.F_eq, if_pos rfl]
 have := allLoop l (fun _ => true) (fun i => laws_f6ints.L0 l l i) true (fun i hi => by
  show laws_f6ints.L0 l l i = _
  rw [laws_f6ints.L0_eq, if_pos (by omega), if_pos (by omega), if_pos (by omega), wS (by omega)]
  simp) (by
  show laws_f6ints.L0 l l _ = _
  rw [laws_f6ints.L0_eq, if_neg (by omega)])
 rw [this]; simp
theorem f6lists_val (l : List (List Int)) (hl : l.length ≤ 1048576) (h : ∀ r ∈ l, r.length ≤ 1048576) : laws_f6lists.F l l = some true := by
 rw [laws_f6lists.F_eq, if_pos rfl]
 have := allLoop l (fun _ => true) (fun i => laws_f6lists.L0 l l i) true (fun i hi => by
  show laws_f6lists.L0 l l i = _
  rw [laws_f6lists.L0_eq, if_pos (by omega), if_pos (by omega), if_pos (by omega), rdLL l i hi, f6ints_val _ (h _ (List.getElem_mem hi)), wS (by omega), Option.bind_some]) (by
  show laws_f6lists.L0 l l _ = _
  rw [laws_f6lists.L0_eq, if_neg (by omega)])
 rw [this]; simp
theorem f6word_val (l : List ByteArray) (s : ByteArray) (hl : l.length ≤ 1048576) : laws_f6word.F l s = some (hasB l s) := by
 rw [laws_f6word.F_eq]
 refine hasLoop l _ (fun i => laws_f6word.L0 l s i) (fun i hi => ?_) ?_
 ·show laws_f6word.L0 _ _ _ = if _ then _ else laws_f6word.L0 _ _ _
  rw [laws_f6word.L0_eq, if_pos (by omega), if_pos (by omega), rdStr l i hi, wS (by omega)]
  by_cases h : l[i] = s
  ·rw [if_pos ((strEq _ _).2 h), if_pos (by simpa using h)]
  ·rw [if_neg (fun z => h ((strEq _ _).1 z)), if_neg (by simpa using h)]
 ·show laws_f6word.L0 _ _ _ = _
  rw [laws_f6word.L0_eq, if_neg (by omega)]
theorem hasB_iff (l : List ByteArray) (s : ByteArray) : hasB l s = true ↔ s ∈ l := by
 unfold hasB
 rw [decide_eq_true_iff]
 rcases idxF_cases (fun y => decide (y = s)) l with ⟨k, hk, h1, h2, e⟩ | ⟨h1, e⟩
 ·rw [e]
  have : l[k] = s := by simpa using h1
  exact ⟨fun _ => this ▸ List.getElem_mem hk, fun _ => by omega⟩
 ·rw [e]
  refine ⟨fun h => absurd h (by omega), fun h => ?_⟩
  obtain ⟨j, hj, rfl⟩ := List.getElem_of_mem h
  have := h1 j hj
  simp at this
theorem names_mem (b : Int) (m : List S45) : ∀ i s, s ∈ namesFrom b i m ↔ ∃ j, ∃ hj : j < m.length, bitOn b (i + j) = true ∧ m[j].f0 = s := by
 induction m with
 | nil => intro i s; simp [namesFrom]
 | cons x t ih =>
  intro i s
  have e : namesFrom b i (x :: t) = if bitOn b i = true then x.f0 :: namesFrom b (i + 1) t else namesFrom b (i + 1) t := rfl
  rw [e]
  by_cases hb : bitOn b i = true
  ·rw [if_pos hb, List.mem_cons, ih]
   constructor
   ·rintro (rfl | ⟨j, hj, h1, h2⟩)
    ·exact ⟨0, by simp, hb, rfl⟩
    ·exact ⟨j + 1, by simpa using hj, by rw [show i + (j + 1) = i + 1 + j by omega]; exact h1, by simpa using h2⟩
   ·rintro ⟨j, hj, h1, h2⟩
    cases j with
    | zero => exact Or.inl h2.symm
    | succ j => exact Or.inr ⟨j, by simpa using hj, by rw [show i + 1 + j = i + (j + 1) by omega]; exact h1, by simpa using h2⟩
  ·rw [if_neg hb, ih]
   constructor
   ·rintro ⟨j, hj, h1, h2⟩
    exact ⟨j + 1, by simpa using hj, by rw [show i + (j + 1) = i + 1 + j by omega]; exact h1, by simpa using h2⟩
   ·rintro ⟨j, hj, h1, h2⟩
    cases j with
    | zero => exact absurd h1 hb
    | succ j => exact ⟨j, by simpa using hj, by rw [show i + 1 + j = i + (j + 1) by omega]; exact h1, by simpa using h2⟩
theorem set_get (b : Int) (m : List S45) : ∀ i j (hj : j < m.length) (hj2 : j < (setFrom b i m).length), (setFrom b i m)[j] = ⟨m[j].f0, m[j].f1, bitOn b (i + j)⟩ := by
 induction m with
 | nil => intro i j hj; simp at hj
 | cons x t ih =>
  intro i j hj hj2
  cases j with
  | zero => rfl
  | succ j =>
   have h1 : j < t.length := by simpa using hj
   have h2 : j < (setFrom b (i + 1) t).length := by rw [setFrom_len]; exact h1
   have e := ih (i + 1) j h1 h2
   rw [show i + 1 + j = i + (j + 1) by omega] at e
   simpa [setFrom] using e
theorem uniq_lt {m : List S45} {c d : Int} (hp : planB m c d = true) (j k : Nat) (hj : j < k) (hk : k < m.length) : m[j].f0 ≠ m[k].f0 := by
 simp only [planB, Bool.and_eq_true, List.all_eq_true, List.mem_range] at hp
 have h := hp.1 k hk
 rw [hungAt_eq m k hk] at h
 simp only [Bool.and_eq_true, decide_eq_true_eq] at h
 have h2 := h.2.2
 rcases idxF_cases (fun y : S45 => decide (y.f0 = m[k].f0)) (m.take k) with ⟨i, hi, h3, h4, e⟩ | ⟨h3, e⟩
 ·rw [e] at h2; omega
 ·have := h3 j (by rw [List.length_take]; omega)
  rw [List.getElem_take] at this
  intro z
  simp [z] at this
theorem set_names {m : List S45} {c d : Int} (hp : planB m c d = true) (b : Int) : m.map (fun y => (⟨y.f0, y.f1, hasB (namesFrom b 0 m) y.f0⟩ : S45)) = setFrom b 0 m := by
 refine List.ext_getElem (by rw [List.length_map, setFrom_len]) (fun j h1 h2 => ?_)
 have hj : j < m.length := by rwa [List.length_map] at h1
 rw [List.getElem_map, set_get b m 0 j hj h2]
 have e : hasB (namesFrom b 0 m) m[j].f0 = bitOn b (0 + j) := by
  rw [Bool.eq_iff_iff, hasB_iff, names_mem]
  constructor
  ·rintro ⟨i, hi, g1, g2⟩
   have : i = j := by
    by_cases g3 : i < j
    ·exact absurd g2 (uniq_lt hp i j g3 hj)
    ·by_cases g4 : j < i
     ·exact absurd g2.symm (uniq_lt hp j i g4 hi)
     ·omega
   rw [← this]; exact g1
  ·intro g
   exact ⟨j, hj, g, rfl⟩
 rw [e]
theorem set_map (b : Int) (m : List S45) : ∀ i, (setFrom b i m).map (fun y => y.f0) = m.map (fun y => y.f0) := by
 induction m with
 | nil => intro i; rfl
 | cons x t ih => intro i; simp [setFrom, ih]
theorem idx_f0 (s : ByteArray) (l : List S45) : idxF (fun y : S45 => decide (y.f0 = s)) l = idxF (fun z => decide (z = s)) (l.map (fun y => y.f0)) := by
 unfold idxF
 rw [List.findIdx?_map]
 rfl
theorem planB_set {m : List S45} {c d : Int} (hp : planB m c d = true) (b : Int) : planB (setFrom b 0 m) c d = true := by
 simp only [planB, Bool.and_eq_true, List.all_eq_true, List.mem_range, setFrom_len] at hp ⊢
 refine ⟨fun i hi => ?_, hp.2⟩
 have h := hp.1 i hi
 have hi2 : i < (setFrom b 0 m).length := by rw [setFrom_len]; exact hi
 rw [hungAt_eq m i hi] at h
 rw [hungAt_eq _ i hi2, set_get b m 0 i hi hi2]
 simp only [idx_f0, List.map_take, set_map] at h ⊢
 exact h
theorem helmR_val {m : List S45} {c d u v : Int} (hp : planB m c d = true) (h1 : -1000 ≤ u ∧ u ≤ v ∧ v ≤ 1000) (h2 : areaZ m ≠ 0) : helmR m c d u v = (helmZ m c d u v, 0) := by
 have hin : (inB u (-1000) 1000 && inB v u 1000) = true := by
  simp only [Bool.and_eq_true, inB_iff]
  omega
 unfold helmR
 rw [if_pos hp, if_pos hin, if_neg h2]
theorem helmR_zero {m : List S45} {c d u v : Int} (h : (helmR m c d u v).2 = 0) : planB m c d = true ∧ (-1000 ≤ u ∧ u ≤ v ∧ v ≤ 1000) ∧ areaZ m ≠ 0 ∧ (helmR m c d u v).1 = helmZ m c d u v := by
 unfold helmR at h ⊢
 by_cases hp : planB m c d = true
 ·rw [if_pos hp] at h ⊢
  by_cases hin : (inB u (-1000) 1000 && inB v u 1000) = true
  ·rw [if_pos hin] at h ⊢
   have hin2 := hin
   simp only [Bool.and_eq_true, inB_iff] at hin2
   by_cases h0 : areaZ m = 0
   ·rw [if_pos h0] at h
    exact absurd h (by decide)
   ·rw [if_neg h0]
    exact ⟨hp, by omega, h0, rfl⟩
  ·rw [if_neg hin] at h
   exact absurd h (by decide)
 ·rw [if_neg hp] at h
  exact absurd h (by decide)
theorem area_val {m : List S45} {c d : Int} (hy : ∀ y ∈ m, y.f0.size ≤ 1048576 ∧ y.f1.length ≤ 1048576) (hp : planB m c d = true) : impl_PlanArea.F m c d = some (areaZ m, 0) := by
 obtain ⟨p1, p2, p3, p4⟩ := planB_sails hp
 rw [impl_PlanArea.F_eq]
 refine bnd ((impl_ValidPlan_val m c d (by omega) hy).trans (by rw [hp])) (itT rfl ?_)
 exact bnd (impl_planSums_val m c d p1 p4) rfl
theorem sails_three (ar u v e : Int) (y : List ByteArray) (m : List S45) (c d : Int) (hl : m.length ≤ 20) (hy : ∀ y ∈ m, y.f0.size ≤ 1048576 ∧ y.f1.length ≤ 1048576) (hyl : y.length ≤ 8)
  (h : e = 0 → planB m c d = true ∧ (-1000 ≤ u ∧ u ≤ v ∧ v ≤ 1000) ∧ ∃ b, y = namesFrom b 0 m ∧ BestR m c d ar u v b) : laws_FnSailSets.J3 ar u v e y m c d = some true := by
 rw [laws_FnSailSets.J3_eq]
 by_cases h0 : e = 0
 ·refine itT h0 ?_
  obtain ⟨hp, hr, b, rfl, g1, g2, g3⟩ := h h0
  have hw := fun s => f6word_val (namesFrom b 0 m) s (by omega)
  have := iterF (fun (out : List S45) i => laws_FnSailSets.L1 ar u v (namesFrom b 0 m) i m c d out c d) m.length (fun i => (m.take i).map (fun y => (⟨y.f0, y.f1, hasB (namesFrom b 0 m) y.f0⟩ : S45))) (fun i hi => by
   show laws_FnSailSets.L1 _ _ _ _ _ _ _ _ _ _ _ = laws_FnSailSets.L1 _ _ _ _ _ _ _ _ _ _ _
   rw [laws_FnSailSets.L1_eq, if_pos (by omega), if_pos (by omega), hw, Option.bind_some, if_pos (by rw [List.length_map, List.length_take]; omega), rdIHung m i hi, wS (by omega), List.take_succ_eq_append_getElem hi, List.map_append]
   rfl)
  refine Eq.trans this ?_
  show laws_FnSailSets.L1 ar u v (namesFrom b 0 m) (m.length : Int) m c d ((m.take m.length).map _) c d = some true
  rw [List.take_length, set_names hp b, laws_FnSailSets.L1_eq, if_neg (by omega)]
  have hq := planB_set hp b
  have hl2 := setFrom_len b m 0
  have hy2 : ∀ y ∈ setFrom b 0 m, y.f0.size ≤ 1048576 ∧ y.f1.length ≤ 1048576 := by
   intro z hz
   obtain ⟨j, hj, rfl⟩ := List.getElem_of_mem hz
   have hj2 : j < m.length := by omega
   rw [set_get b m 0 j hj2 hj]
   exact hy m[j] (List.getElem_mem hj2)
  refine bnd (area_val hy2 hq) ?_
  obtain ⟨x, _, e2, rfl⟩ := helm_both (setFrom b 0 m) c d u v (by omega) hy2
  rw [helmR_val hq hr (by omega), g3] at e2
  exact bnd e2 (itT rfl (itT g1 (itT g2 (itT rfl (congrArg some (beq_iff_eq.2 ((bal_iff _).2 rfl)))))))
 ·exact itF h0 rfl
theorem sails_two (ar u v e : Int) (y : List ByteArray) (a b : Int) (m m2 : List S45) (c d c2 d2 : Int) (h3 : laws_FnSailSets.J3 ar u v e y m c d = some true) (hl : m2.length ≤ 1048576) (hy : ∀ y ∈ m2, y.f0.size ≤ 1048576 ∧ y.f1.length ≤ 1048576) : (if (helmR m2 c2 d2 a b).2 = 0 then laws_FnSailSets.J2 ar u v e y a b ((helmR m2 c2 d2 a b).1.toList == ([98, 97, 108, 97, 110, 99, 101, 100] : List UInt8)) m c d m2 c2 d2 else laws_FnSailSets.J2 ar u v e y a b false m c d m2 c2 d2) = some true := by
 by_cases h0 : (helmR m2 c2 d2 a b).2 = 0
 ·refine itT h0 ?_
  rw [laws_FnSailSets.J2_eq]
  by_cases hb : ((helmR m2 c2 d2 a b).1.toList == ([98, 97, 108, 97, 110, 99, 101, 100] : List UInt8)) = true
  ·refine itT hb ?_
   obtain ⟨hp, hr, hA, hz⟩ := helmR_zero h0
   obtain ⟨p1, p2, p3, p4⟩ := planB_sails hp
   have hA2 := (area_bdS (planB_sails hp)).1
   have hbal : helmZ m2 c2 d2 a b = balancedS := by rw [← hz]; exact (bal_iff _).1 (beq_iff_eq.1 hb)
   have w1 := helm_wide p2.1 hA2.1 hbal hr.1 (Int.le_refl b)
   have w2 := helm_wide p2.1 hA2.1 hbal (Int.le_refl a) hr.2.2
   obtain ⟨x, _, e1, rfl⟩ := helm_both m2 c2 d2 (-1000) b hl hy
   obtain ⟨x, _, e2, rfl⟩ := helm_both m2 c2 d2 a 1000 hl hy
   rw [helmR_val hp (by omega) hA, w1] at e1
   rw [helmR_val hp (by omega) hA, w2] at e2
   exact bnd e1 (bnd e2 (itT rfl (itT ((bal_iff _).2 rfl) (itT rfl (itT ((bal_iff _).2 rfl) h3)))))
  ·exact itF hb h3
 ·refine itF h0 ?_
  rw [laws_FnSailSets.J2_eq]
  exact itF nf h3
theorem sails_pairs (ar u v e : Int) (y : List ByteArray) (a b : Int) (x14 : ByteArray) (x15 : Int) (l : List (List Int)) (m m2 m3 : List S45) (c d c2 d2 c3 d3 : Int) (hl : l.length ≤ 100) (hm : m3.length ≤ 20) (ho : ∀ r ∈ l, Ordered m3 r) : laws_FnSailSets.L0 ar u v e y a b x14 x15 l 0 m c d m2 c2 d2 m3 c3 d3 = (if x15 = 0 then laws_FnSailSets.J2 ar u v e y a b (x14.toList == ([98, 97, 108, 97, 110, 99, 101, 100] : List UInt8)) m c d m2 c2 d2 else laws_FnSailSets.J2 ar u v e y a b false m c d m2 c2 d2) := by
 have := iterF (fun (_ : Unit) i => laws_FnSailSets.L0 ar u v e y a b x14 x15 l i m c d m2 c2 d2 m3 c3 d3) l.length (fun _ => ()) (fun i hi => by
  show laws_FnSailSets.L0 ar u v e y a b x14 x15 l (i : Int) m c d m2 c2 d2 m3 c3 d3 = laws_FnSailSets.L0 ar u v e y a b x14 x15 l ((i + 1 : Nat) : Int) m c d m2 c2 d2 m3 c3 d3
  obtain ⟨p, q, h1, h2, h3⟩ := ho _ (List.getElem_mem hi)
  rw [laws_FnSailSets.L0_eq, if_pos (by omega), if_pos (by omega), rdLL l i hi, h3, wS (by omega)]
  have r0 : rd [(p : Int), (q : Int)] 0 = p := rfl
  have r1 : rd [(p : Int), (q : Int)] 1 = q := rfl
  have l2 : (([(p : Int), (q : Int)]).length : Int) = 2 := rfl
  rw [r0, r1, l2, if_pos rfl, if_pos (by decide), if_neg (by omega), if_pos (by decide), if_neg (by omega), if_neg (by omega)])
 refine Eq.trans this ?_
 show laws_FnSailSets.L0 ar u v e y a b x14 x15 l (l.length : Int) m c d m2 c2 d2 m3 c3 d3 = _
 rw [laws_FnSailSets.L0_eq, if_neg (by omega)]
theorem pure_FnSailSets : laws_FnSailSets.Pure := by
 intro code h
 refine of_lim (g := fun k => laws_FnSailSets.f k code) ?_
 show laws_FnSailSets.F code = some true
 rw [laws_FnSailSets.F_eq]
 refine bnd (a := decide ((code.length : Int) > 4096)) rfl ?_
 by_cases hb : (code.length : Int) > 4096
 ·exact itT (decide_eq_true hb) rfl
 refine itF (by rw [decide_eq_false hb]; exact nf) ?_
 have hs := src_bytes h (by omega)
 obtain ⟨m, c, d, ar, u, v, e1, hm⟩ := drawBest hs
 obtain ⟨m2, c2, d2, a, b, e2, hm2⟩ := drawHelm hs
 obtain ⟨m3, c3, d3, e3, hm3⟩ := drawOver hs
 have up : ∀ {m : List S45}, SmallM m 20 → ∀ y ∈ m, y.f0.size ≤ 1048576 ∧ y.f1.length ≤ 1048576 := fun hm y hy => by have := hm.2 y hy; omega
 have hl := hm.1
 have hl2 := hm2.1
 have hl3 := hm3.1
 obtain ⟨y, e, b1, b2, b3, b4⟩ := best_both m c d ar u v (by omega) (up hm)
 obtain ⟨x, g1, g2, rfl⟩ := helm_both m2 c2 d2 a b (by omega) (up hm2)
 obtain ⟨l, z, o1, o2, o3, o4⟩ := over_both m3 c3 d3 (by omega) (up hm3)
 have o5 : ∀ r ∈ l, r.length ≤ 1048576 := fun r hr => by obtain ⟨i, k, _, _, rfl⟩ := o4 r hr; simp
 refine bnd e1 (bnd b2 (bnd b1 (bnd e2 (bnd g2 (bnd g1 (bnd e3 (bnd o2 (bnd o1 ?_))))))))
 refine itT rfl (bnd (f6texts_val y (by omega)) (itT rfl (itT rfl (itT rfl (itT rfl (bnd (f6lists_val l (by omega) o5) ?_))))))
 rw [laws_FnSailSets.J0_eq]
 refine itF (by decide) ?_
 rw [sails_pairs _ _ _ _ _ _ _ _ _ _ _ _ _ _ _ _ _ _ _ o3 hl3 o4]
 exact sails_two ar u v e y a b m m2 c d c2 d2 (sails_three ar u v e y m c d hl (up hm) b3 b4) (by omega) (up hm2)
end Go.Proofs.Ytgjpjildacnnjaa.PFnSailSets
namespace Go.Proofs.Ytgjpjildacnnjaa.Pure
theorem FnSailSets : PFnSailSets.laws_FnSailSets.Pure := PFnSailSets.pure_FnSailSets
end Go.Proofs.Ytgjpjildacnnjaa.Pure
