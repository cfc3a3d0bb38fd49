/-
  Plain words for the pure side: what a printed function comes to when the bound on its rounds is taken away ('lim'), and small facts on numbers and lists. No program in sight.
-/
import Derived.Test.YtendpecnfaojkaaDoorWWords
set_option linter.unusedVariables false
namespace Go.Proofs.YtendpecnfaojkaaDoor.Kit
open Go.RowKit Go.Proofs.YtendpecnfaojkaaDoorW.PrintWords

open Classical in
/-- What a function with a bound on its rounds tells when the bound is great enough. -/
noncomputable def lim {α : Type} (g : Nat → Option α) : Option α := if h : ∃ r k, g k = some r then some h.choose else none
def Mono {α : Type} (g : Nat → Option α) : Prop := ∀ k, LeO (g k) (g (k + 1))
theorem Mono.le {α : Type} {g : Nat → Option α} (h : Mono g) {k k' : Nat} (hk : k ≤ k') {r : α} (hr : g k = some r) : g k' = some r := at_rounds h hk hr
theorem lim_of {α : Type} {g : Nat → Option α} (h : Mono g) {k : Nat} {r : α} (hr : g k = some r) : lim g = some r := by
  have hex : ∃ r k, g k = some r := ⟨r, k, hr⟩
  unfold lim
  rw [dif_pos hex]
  obtain ⟨k', hk'⟩ := hex.choose_spec
  have h1 := h.le (Nat.le_max_left k k') hr
  have h2 := h.le (Nat.le_max_right k k') hk'
  rw [h1] at h2
  exact h2.symm
theorem of_lim {α : Type} {g : Nat → Option α} {r : α} (h : lim g = some r) : ∃ k, g k = some r := by
  unfold lim at h
  split at h
  · rename_i hex
    have := hex.choose_spec
    rw [Option.some.inj h] at this
    exact this
  · cases h
/-- g comes to r, and more rounds tell the same. -/
structure Lim {α : Type} (g : Nat → Option α) (r : Option α) : Prop where
  eq : lim g = r
  mono : Mono g
theorem Lim.of {α : Type} {g : Nat → Option α} (h : Mono g) : Lim g (lim g) := ⟨rfl, h⟩
theorem lim_ext {α : Type} {g : Nat → Option α} {r : Option α} (hg : Mono g) (h1 : ∀ k a, g k = some a → r = some a) (h2 : ∀ a, r = some a → ∃ k, g k = some a) : lim g = r := by
  cases hr : r with
  | some a =>
    obtain ⟨k, hk⟩ := h2 a hr
    exact lim_of hg hk
  | none =>
    cases hl : lim g with
    | none => rfl
    | some a =>
      obtain ⟨k, hk⟩ := of_lim hl
      have := h1 k a hk
      rw [hr] at this
      cases this
theorem Lim.const {α : Type} (r : Option α) : Lim (fun _ => r) r :=
  ⟨lim_ext (fun _ => LeO.refl _) (fun _ _ h => h) (fun _ h => ⟨0, h⟩), fun _ => LeO.refl _⟩
theorem Lim.ite {α : Type} {c : Prop} [Decidable c] {a b : Nat → Option α} {ra rb : Option α} (ha : Lim a ra) (hb : Lim b rb) : Lim (fun k => if c then a k else b k) (if c then ra else rb) := by
  by_cases h : c
  · simp only [if_pos h]; exact ha
  · simp only [if_neg h]; exact hb
theorem Lim.bind {α β : Type} {g : Nat → Option α} {rg : Option α} {f : Nat → α → Option β} {rf : α → Option β} (hg : Lim g rg) (hf : ∀ a, Lim (fun k => f k a) (rf a)) : Lim (fun k => (g k).bind (f k)) (rg.bind rf) := by
  have hm : Mono (fun k => (g k).bind (f k)) := fun k => LeO.bind (hg.mono k) (fun a => (hf a).mono k)
  refine ⟨lim_ext hm ?_ ?_, hm⟩
  · intro k b hb
    obtain ⟨a, ha, hb⟩ := Option.bind_eq_some_iff.1 hb
    have h1 : rg = some a := by rw [← hg.eq]; exact lim_of hg.mono ha
    have h2 : rf a = some b := by rw [← (hf a).eq]; exact lim_of (hf a).mono hb
    rw [h1, Option.bind_some, h2]
  · intro b hb
    obtain ⟨a, ha, hb⟩ := Option.bind_eq_some_iff.1 hb
    obtain ⟨k, hk⟩ := of_lim (hg.eq.trans ha)
    obtain ⟨k', hk'⟩ := of_lim ((hf a).eq.trans hb)
    have e1 := hg.mono.le (Nat.le_max_left k k') hk
    have e2 := (hf a).mono.le (Nat.le_max_right k k') hk'
    refine ⟨max k k', ?_⟩
    show (g (max k k')).bind (f (max k k')) = some b
    rw [e1]
    exact e2
/-- One round. -/
theorem Lim.step {α : Type} {g f : Nat → Option α} {r : Option α} (hg : Mono g) (h : ∀ k, g (k + 1) = f k) (hf : Lim f r) : lim g = r := by
  refine lim_ext hg ?_ ?_
  · intro k a hk
    have h1 := hg k a hk
    rw [h k] at h1
    rw [← hf.eq]
    exact lim_of hf.mono h1
  · intro a ha
    obtain ⟨k, hk⟩ := of_lim (hf.eq.trans ha)
    exact ⟨k + 1, by rw [h k]; exact hk⟩

/-- The same, the round told by itself. -/
theorem Lim.next {α : Type} {g : Nat → Option α} {r : Option α} (hg : Mono g) (hf : Lim (fun k => g (k + 1)) r) : lim g = r := Lim.step hg (fun _ => rfl) hf

/-! Numbers and lists. -/
theorem w64 {n : Int} (h1 : -9223372036854775808 ≤ n) (h2 : n ≤ 9223372036854775807) : wrap64 n = n := by unfold wrap64; omega
theorem wf_range {n : Int} (h : (Lit.int .i64 n).wf = true) : -9223372036854775808 ≤ n ∧ n ≤ 9223372036854775807 := by
  have h2 : IntKind.i64.min ≤ n ∧ n ≤ IntKind.i64.max := by simpa [Lit.wf] using h
  exact h2
theorem wS {i : Nat} (h : i < 4611686018427387904) : wrap64 ((i : Int) + 1) = ((i + 1 : Nat) : Int) := by
  rw [w64 (by omega) (by omega)]; omega
theorem rd_get (l : List Int) (i : Nat) (h : i < l.length) : rd l (i : Int) = l[i] := by
  simp [rd, h]
theorem nf : ¬ (false = true) := by decide
theorem ite_band {α : Type} (a b : Bool) (x y : α) : (if (a && b) = true then x else y) = if a = true then (if b = true then x else y) else y := by cases a <;> cases b <;> rfl
/-- A loop that goes on to its end. -/
theorem iter {σ β : Type} (g : σ → Int → Option β) (n : Nat) (Inv : Nat → σ → Prop) (h : ∀ i s, i < n → Inv i s → ∃ s', g s (i : Int) = g s' ((i + 1 : Nat) : Int) ∧ Inv (i + 1) s') (s0 : σ) (h0 : Inv 0 s0) :
    ∃ s, Inv n s ∧ g s0 0 = g s (n : Int) := by
  have key : ∀ m, m ≤ n → ∃ s, Inv m s ∧ g s0 0 = g s (m : Int) := by
    intro m
    induction m with
    | zero => exact fun _ => ⟨s0, h0, rfl⟩
    | succ m ih =>
      intro hm
      obtain ⟨s, hi, he⟩ := ih (by omega)
      obtain ⟨s', e, hi'⟩ := h m s (by omega) hi
      exact ⟨s', hi', he.trans e⟩
  exact key n (Nat.le_refl n)
/-- The same where what holds is told as a function of the place. -/
theorem iterF {σ β : Type} (g : σ → Int → Option β) (n : Nat) (S : Nat → σ) (h : ∀ i, i < n → g (S i) (i : Int) = g (S (i + 1)) ((i + 1 : Nat) : Int)) : g (S 0) 0 = g (S n) (n : Int) := by
  obtain ⟨s, hs, e⟩ := iter g n (fun i s => s = S i) (fun i s hi hs => ⟨S (i + 1), by rw [hs]; exact h i hi, rfl⟩) (S 0) rfl
  rw [e, hs]
/-- A loop that ends with 'no' at the first element that isn't as it should be. -/
theorem allLoop {α : Type} (l : List α) (p : α → Bool) (g : Int → Option Bool) (r : Bool) (h : ∀ i (hi : i < l.length), g (i : Int) = if p l[i] = true then g ((i + 1 : Nat) : Int) else some false) (he : g (l.length : Int) = some r) :
    g 0 = some (l.all p && r) := by
  have key : ∀ (d i : Nat), l.length - i = d → i ≤ l.length → g (i : Int) = some ((l.drop i).all p && r) := by
    intro d
    induction d with
    | zero =>
      intro i hd hi
      obtain rfl : i = l.length := by omega
      rw [he]; simp
    | succ d ih =>
      intro i hd hi
      have hlt : i < l.length := by omega
      rw [h i hlt, ih (i + 1) (by omega) (by omega), List.drop_eq_getElem_cons hlt, List.all_cons]
      by_cases hp : p l[i] = true
      · rw [if_pos hp, hp]; simp
      · rw [if_neg hp]; simp [Bool.not_eq_true _ ▸ hp]
  have := key l.length 0 (by omega) (by omega)
  simpa using this
/-- The same, where 'no' depends on the place (a row of yes and no by places). -/
theorem allRange (n : Nat) (p : Nat → Bool) (g : Int → Option Bool) (r : Bool) (h : ∀ i, i < n → g (i : Int) = if p i = true then g ((i + 1 : Nat) : Int) else some false) (he : g (n : Int) = some r) :
    g 0 = some ((List.range n).all p && r) := by
  have h2 := allLoop (List.range n) p g r (fun i hi => by
    have hi2 : i < n := by simpa using hi
    rw [List.getElem_range]; exact h i hi2) (by rw [List.length_range]; exact he)
  exact h2
/-- A row that is filled from its begin on. -/
theorem setFill {α : Type} (L : List α) (z : α) (i : Nat) (h : i < L.length) : ((L.take i) ++ List.replicate (L.length - i) z).set i L[i] = (L.take (i + 1)) ++ List.replicate (L.length - (i + 1)) z := by
  have e : L.length - i = (L.length - (i + 1)) + 1 := by omega
  rw [e, List.replicate_succ, List.set_append]
  have hl : (L.take i).length = i := by rw [List.length_take]; omega
  rw [hl, if_neg (Nat.lt_irrefl i), Nat.sub_self, List.set_cons_zero, List.take_succ_eq_append_getElem h, List.append_assoc]
  rfl
/-- A loop that fills a row of its own, place by place. -/
theorem fillLoop {α β : Type} (L : List α) (z : α) (g : List α → Int → Option β) (h : ∀ i s (hi : i < L.length), s.length = L.length → g s (i : Int) = g (s.set i L[i]) ((i + 1 : Nat) : Int)) : g (List.replicate L.length z) 0 = g L (L.length : Int) := by
  have := iterF g L.length (fun i => (L.take i) ++ List.replicate (L.length - i) z) (fun i hi => by
    rw [h i _ hi (by rw [List.length_append, List.length_take, List.length_replicate]; omega), setFill L z i hi])
  simpa using this
/-- A loop that appends to a row of its own. -/
theorem pushLoop {α β : Type} (L : List α) (g : List α → Int → Option β) (h : ∀ i s (hi : i < L.length), s.length = i → g s (i : Int) = g (s ++ [L[i]]) ((i + 1 : Nat) : Int)) : g [] 0 = g L (L.length : Int) := by
  have := iterF g L.length (fun i => L.take i) (fun i hi => by
    rw [h i _ hi (by rw [List.length_take]; omega), List.take_succ_eq_append_getElem hi])
  simpa using this
end Go.Proofs.YtendpecnfaojkaaDoor.Kit
