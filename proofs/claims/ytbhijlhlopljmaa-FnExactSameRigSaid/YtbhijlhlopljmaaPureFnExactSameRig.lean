/-
  The pure side of FnExactSameRig: the program's SameRig tells what the reference's tells. No conditions.
-/
import Derived.Test.YtbhijlhlopljmaaQFnExactSameRig
set_option linter.unusedVariables false
set_option linter.unusedSimpArgs false
set_option linter.unnecessarySimpa false
namespace Go.Proofs.Ytbhijlhlopljmaa.PFnExactSameRig
open Go.RowKit Go.Proofs.Ytbhijlhlopljmaa.Kit Go.Proofs.YtbhijlhlopljmaaW.PrintWords Go.Proofs.YtbhijlhlopljmaaW.PrintLast Go.Proofs.YtbhijlhlopljmaaW.PrintMore

/-- What a sum of sizes tells: it is less than 0, or all that it adds up is small. -/
theorem szLoop {α : Type} (l : List α) (small : α → Prop) (n : Int) (hn0 : 0 ≤ n) (g : Int → Int → Option Int) (h : ∀ (i : Nat) (s : Int) (hi : i < l.length), 0 ≤ s → s ≤ n → g s (i : Int) = some (-1) ∨ ∃ s', g s (i : Int) = g s' ((i + 1 : Nat) : Int) ∧ 0 ≤ s' ∧ s' ≤ s ∧ small l[i]) (he : ∀ s, g s (l.length : Int) = some s) :
    ∃ r, g n 0 = some r ∧ (r < 0 ∨ 0 ≤ r ∧ r ≤ n ∧ ∀ y ∈ l, small y) := by
  have key : ∀ (d i : Nat) (s : Int), i + d = l.length → 0 ≤ s → s ≤ n → (∀ y ∈ l.take i, small y) → ∃ r, g s (i : Int) = some r ∧ (r < 0 ∨ 0 ≤ r ∧ r ≤ n ∧ ∀ y ∈ l, small y) := by
    intro d
    induction d with
    | zero =>
      intro i s hd h0 h1 hs
      rw [show (i : Int) = (l.length : Int) by omega, he]
      rw [List.take_of_length_le (by omega)] at hs
      exact ⟨s, rfl, Or.inr ⟨h0, h1, hs⟩⟩
    | succ d ih =>
      intro i s hd h0 h1 hs
      have hi : i < l.length := by omega
      rcases h i s hi h0 h1 with h2 | ⟨s', h2, h3, h4, h5⟩
      · exact ⟨-1, h2, Or.inl (by omega)⟩
      · rw [h2]
        refine ih (i + 1) s' (by omega) h3 (by omega) (fun y hy => ?_)
        rw [List.take_succ_eq_append_getElem hi, List.mem_append, List.mem_singleton] at hy
        rcases hy with h6 | rfl
        · exact hs y h6
        · exact h5
  exact key l.length 0 n (by omega) hn0 (Int.le_refl _) (by simp)
theorem rdIRail (l : List S106) (i : Nat) (h : i < l.length) : rd_T106 l (i : Int) = l[i] := by simp [rd_T106, h]
theorem rdLRail (l : List S155) (i : Nat) (h : i < l.length) : rd_T155 l (i : Int) = l[i] := by simp [rd_T155, h]
def railTo (p : S155) : S106 := ⟨p.f0, p.f1, p.f2⟩
theorem laws_toRailS_val (l : List S155) (hl : l.length ≤ 1048576) : laws_toRailS.F l = some (l.map railTo) := by
  rw [laws_toRailS.F_eq, if_pos (by omega), if_pos (by omega), Int.toNat_natCast]
  have := fillLoop (l.map railTo) z106 (fun s i => laws_toRailS.L0 l s i) (fun i s hi hs => by
    rw [List.length_map] at hi hs
    show laws_toRailS.L0 l s i = _
    rw [laws_toRailS.L0_eq, if_pos (by omega), if_pos (by omega), rdLRail l i hi, wS (by omega)]
    unfold laws_toRail.f
    simp only [Option.bind_some]
    rw [if_pos (by omega), Int.toNat_natCast, List.getElem_map]
    rfl)
  rw [List.length_map] at this
  refine this.trans ?_
  show laws_toRailS.L0 l _ _ = _
  rw [laws_toRailS.L0_eq, if_neg (by omega)]
theorem laws_eqRailS_val (l : List S106) (hl : l.length < 4611686018427387904) : laws_eqRailS.F l l = some true := by
  rw [laws_eqRailS.F_eq, if_pos rfl]
  have := allLoop l (fun _ => true) (fun i => laws_eqRailS.L0 l l i) true (fun i hi => by
    show laws_eqRailS.L0 l l i = _
    rw [laws_eqRailS.L0_eq, if_pos (by omega), if_pos (by omega), if_pos (by omega), wS (by omega)]
    unfold laws_eqRail.f
    simp) (by
    show laws_eqRailS.L0 l l _ = _
    rw [laws_eqRailS.L0_eq, if_neg (by omega)])
  rw [this]; simp
theorem laws_szRail_val (a0 : ByteArray) (a1 : ByteArray) (a2 : Int) (n : Int) (h0 : a0.size ≤ 9223372036854775807) (h1 : a1.size ≤ 9223372036854775807) (hn : 0 ≤ n) (hn2 : n ≤ 1048576) : ∃ r, laws_szRail.f a0 a1 a2 n = some r ∧ (r < 0 ∨ 0 ≤ r ∧ r ≤ n ∧ (a0.size : Int) ≤ n ∧ (a1.size : Int) ≤ n) := by
  unfold laws_szRail.f
  have e0 : wrap64 (n - (a0.size : Int)) = n - (a0.size : Int) := w64 (by omega) (by omega)
  rw [e0]
  by_cases c0 : n - (a0.size : Int) < 0
  · exact ⟨-1, by rw [if_pos c0], Or.inl (by omega)⟩
  rw [if_neg c0]
  have e1 : wrap64 (n - (a0.size : Int) - (a1.size : Int)) = n - (a0.size : Int) - (a1.size : Int) := w64 (by omega) (by omega)
  rw [e1]
  by_cases c1 : n - (a0.size : Int) - (a1.size : Int) < 0
  · exact ⟨-1, by rw [if_pos c1], Or.inl (by omega)⟩
  rw [if_neg c1]
  exact ⟨_, rfl, Or.inr (by omega)⟩
theorem laws_szRailS_val (l : List S155) (n : Int) (h : l.length ≤ 9223372036854775807) (hy : ∀ y ∈ l, y.f0.size ≤ 9223372036854775807 ∧ y.f1.size ≤ 9223372036854775807) (hn : 0 ≤ n) (hn2 : n ≤ 1048576) : ∃ r, laws_szRailS.F l n = some r ∧ (r < 0 ∨ 0 ≤ r ∧ r ≤ n ∧ (l.length : Int) ≤ n ∧ ∀ y ∈ l, (y.f0.size : Int) ≤ n ∧ (y.f1.size : Int) ≤ n) := by
  rw [laws_szRailS.F_eq, w64 (by omega) (by omega)]
  by_cases hc : n - (l.length : Int) < 0
  · exact ⟨-1, by rw [if_pos hc], Or.inl (by omega)⟩
  · rw [if_neg hc]
    obtain ⟨r, hr, h1⟩ := szLoop l (fun y => (y.f0.size : Int) ≤ n ∧ (y.f1.size : Int) ≤ n) (n - (l.length : Int)) (by omega) (fun s i => laws_szRailS.L0 l s i) (fun i s hi h0 h2 => by
      show laws_szRailS.L0 l s i = _ ∨ ∃ s', laws_szRailS.L0 l s i = laws_szRailS.L0 l s' _ ∧ _
      rw [laws_szRailS.L0_eq, if_pos (by omega), if_pos (by omega), rdLRail l i hi, wS (by omega)]
      have hyi := hy _ (List.getElem_mem hi)
      obtain ⟨q, hq, h3⟩ := laws_szRail_val l[i].f0 l[i].f1 l[i].f2 s hyi.1 hyi.2 h0 (by omega)
      rw [hq]
      simp only [Option.bind_some]
      rcases h3 with h3 | h3
      · left; rw [if_pos h3]
      · right; exact ⟨q, by rw [if_neg (by omega)], by omega, by omega, by omega⟩) (fun s => by
      show laws_szRailS.L0 l s _ = _
      rw [laws_szRailS.L0_eq, if_neg (by omega)])
    refine ⟨r, hr, ?_⟩
    rcases h1 with h1 | ⟨h1, h2, h3⟩
    · exact Or.inl h1
    · exact Or.inr ⟨h1, by omega, by omega, h3⟩
theorem rdIBelay (l : List S108) (i : Nat) (h : i < l.length) : rd_T108 l (i : Int) = l[i] := by simp [rd_T108, h]
theorem rdLBelay (l : List S157) (i : Nat) (h : i < l.length) : rd_T157 l (i : Int) = l[i] := by simp [rd_T157, h]
def belayTo (p : S157) : S108 := ⟨p.f0, p.f1, p.f2⟩
theorem laws_toBelayS_val (l : List S157) (hl : l.length ≤ 1048576) : laws_toBelayS.F l = some (l.map belayTo) := by
  rw [laws_toBelayS.F_eq, if_pos (by omega), if_pos (by omega), Int.toNat_natCast]
  have := fillLoop (l.map belayTo) z108 (fun s i => laws_toBelayS.L0 l s i) (fun i s hi hs => by
    rw [List.length_map] at hi hs
    show laws_toBelayS.L0 l s i = _
    rw [laws_toBelayS.L0_eq, if_pos (by omega), if_pos (by omega), rdLBelay l i hi, wS (by omega)]
    unfold laws_toBelay.f
    simp only [Option.bind_some]
    rw [if_pos (by omega), Int.toNat_natCast, List.getElem_map]
    rfl)
  rw [List.length_map] at this
  refine this.trans ?_
  show laws_toBelayS.L0 l _ _ = _
  rw [laws_toBelayS.L0_eq, if_neg (by omega)]
theorem laws_eqBelayS_val (l : List S108) (hl : l.length < 4611686018427387904) : laws_eqBelayS.F l l = some true := by
  rw [laws_eqBelayS.F_eq, if_pos rfl]
  have := allLoop l (fun _ => true) (fun i => laws_eqBelayS.L0 l l i) true (fun i hi => by
    show laws_eqBelayS.L0 l l i = _
    rw [laws_eqBelayS.L0_eq, if_pos (by omega), if_pos (by omega), if_pos (by omega), wS (by omega)]
    unfold laws_eqBelay.f
    simp) (by
    show laws_eqBelayS.L0 l l _ = _
    rw [laws_eqBelayS.L0_eq, if_neg (by omega)])
  rw [this]; simp
theorem laws_szBelay_val (a0 : ByteArray) (a1 : ByteArray) (a2 : Int) (n : Int) (h0 : a0.size ≤ 9223372036854775807) (h1 : a1.size ≤ 9223372036854775807) (hn : 0 ≤ n) (hn2 : n ≤ 1048576) : ∃ r, laws_szBelay.f a0 a1 a2 n = some r ∧ (r < 0 ∨ 0 ≤ r ∧ r ≤ n ∧ (a0.size : Int) ≤ n ∧ (a1.size : Int) ≤ n) := by
  unfold laws_szBelay.f
  have e0 : wrap64 (n - (a0.size : Int)) = n - (a0.size : Int) := w64 (by omega) (by omega)
  rw [e0]
  by_cases c0 : n - (a0.size : Int) < 0
  · exact ⟨-1, by rw [if_pos c0], Or.inl (by omega)⟩
  rw [if_neg c0]
  have e1 : wrap64 (n - (a0.size : Int) - (a1.size : Int)) = n - (a0.size : Int) - (a1.size : Int) := w64 (by omega) (by omega)
  rw [e1]
  by_cases c1 : n - (a0.size : Int) - (a1.size : Int) < 0
  · exact ⟨-1, by rw [if_pos c1], Or.inl (by omega)⟩
  rw [if_neg c1]
  exact ⟨_, rfl, Or.inr (by omega)⟩
theorem laws_szBelayS_val (l : List S157) (n : Int) (h : l.length ≤ 9223372036854775807) (hy : ∀ y ∈ l, y.f0.size ≤ 9223372036854775807 ∧ y.f1.size ≤ 9223372036854775807) (hn : 0 ≤ n) (hn2 : n ≤ 1048576) : ∃ r, laws_szBelayS.F l n = some r ∧ (r < 0 ∨ 0 ≤ r ∧ r ≤ n ∧ (l.length : Int) ≤ n ∧ ∀ y ∈ l, (y.f0.size : Int) ≤ n ∧ (y.f1.size : Int) ≤ n) := by
  rw [laws_szBelayS.F_eq, w64 (by omega) (by omega)]
  by_cases hc : n - (l.length : Int) < 0
  · exact ⟨-1, by rw [if_pos hc], Or.inl (by omega)⟩
  · rw [if_neg hc]
    obtain ⟨r, hr, h1⟩ := szLoop l (fun y => (y.f0.size : Int) ≤ n ∧ (y.f1.size : Int) ≤ n) (n - (l.length : Int)) (by omega) (fun s i => laws_szBelayS.L0 l s i) (fun i s hi h0 h2 => by
      show laws_szBelayS.L0 l s i = _ ∨ ∃ s', laws_szBelayS.L0 l s i = laws_szBelayS.L0 l s' _ ∧ _
      rw [laws_szBelayS.L0_eq, if_pos (by omega), if_pos (by omega), rdLBelay l i hi, wS (by omega)]
      have hyi := hy _ (List.getElem_mem hi)
      obtain ⟨q, hq, h3⟩ := laws_szBelay_val l[i].f0 l[i].f1 l[i].f2 s hyi.1 hyi.2 h0 (by omega)
      rw [hq]
      simp only [Option.bind_some]
      rcases h3 with h3 | h3
      · left; rw [if_pos h3]
      · right; exact ⟨q, by rw [if_neg (by omega)], by omega, by omega, by omega⟩) (fun s => by
      show laws_szBelayS.L0 l s _ = _
      rw [laws_szBelayS.L0_eq, if_neg (by omega)])
    refine ⟨r, hr, ?_⟩
    rcases h1 with h1 | ⟨h1, h2, h3⟩
    · exact Or.inl h1
    · exact Or.inr ⟨h1, by omega, by omega, h3⟩
theorem rdStr (l : List ByteArray) (i : Nat) (h : i < l.length) : rdOf ByteArray.empty l (i : Int) = l[i] := by simp [rdOf, h]
theorem laws_szStringS_val (l : List ByteArray) (n : Int) (h : l.length ≤ 9223372036854775807) (hy : ∀ y ∈ l, y.size ≤ 9223372036854775807) (hn : 0 ≤ n) (hn2 : n ≤ 1048576) : ∃ r, laws_szStringS.F l n = some r ∧ (r < 0 ∨ 0 ≤ r ∧ r ≤ n ∧ (l.length : Int) ≤ n ∧ ∀ y ∈ l, (y.size : Int) ≤ n) := by
  rw [laws_szStringS.F_eq, w64 (by omega) (by omega)]
  by_cases hc : n - (l.length : Int) < 0
  · exact ⟨-1, by rw [if_pos hc], Or.inl (by omega)⟩
  · rw [if_neg hc]
    obtain ⟨r, hr, h1⟩ := szLoop l (fun y => (y.size : Int) ≤ n) (n - (l.length : Int)) (by omega) (fun s i => laws_szStringS.L0 l s i) (fun i s hi h0 h2 => by
      show laws_szStringS.L0 l s i = _ ∨ ∃ s', laws_szStringS.L0 l s i = laws_szStringS.L0 l s' _ ∧ _
      have hyi := hy _ (List.getElem_mem hi)
      rw [laws_szStringS.L0_eq, if_pos (by omega), if_pos (by omega), rdStr l i hi, wS (by omega), w64 (n := s - (l[i].size : Int)) (by omega) (by omega)]
      by_cases h3 : s - (l[i].size : Int) < 0
      · left; rw [if_pos h3]
      · right; exact ⟨s - (l[i].size : Int), by rw [if_neg h3], by omega, by omega, by omega⟩) (fun s => by
      show laws_szStringS.L0 l s _ = _
      rw [laws_szStringS.L0_eq, if_neg (by omega)])
    refine ⟨r, hr, ?_⟩
    rcases h1 with h1 | ⟨h1, h2, h3⟩
    · exact Or.inl h1
    · exact Or.inr ⟨h1, by omega, by omega, h3⟩
theorem laws_toStringS_val (l : List ByteArray) (hl : l.length ≤ 1048576) : laws_toStringS.F l = some l := by
  rw [laws_toStringS.F_eq, if_pos (by omega), if_pos (by omega), Int.toNat_natCast]
  have := fillLoop l (⟨#[]⟩ : ByteArray) (fun s i => laws_toStringS.L0 l s i) (fun i s hi hs => by
    show laws_toStringS.L0 l s i = _
    rw [laws_toStringS.L0_eq, if_pos (by omega), if_pos (by omega), wS (by omega), if_pos (by omega), Int.toNat_natCast, rdStr l i hi])
  refine this.trans ?_
  show laws_toStringS.L0 l _ _ = _
  rw [laws_toStringS.L0_eq, if_neg (by omega)]
theorem laws_eqStringS_val (l : List ByteArray) (hl : l.length < 4611686018427387904) : laws_eqStringS.F l l = some true := by
  rw [laws_eqStringS.F_eq, if_pos rfl]
  have := allLoop l (fun _ => true) (fun i => laws_eqStringS.L0 l l i) true (fun i hi => by
    show laws_eqStringS.L0 l l i = _
    rw [laws_eqStringS.L0_eq, if_pos (by omega), if_pos (by omega), if_pos (by omega), wS (by omega)]
    simp) (by
    show laws_eqStringS.L0 l l _ = _
    rw [laws_eqStringS.L0_eq, if_neg (by omega)])
  rw [this]; simp
/-- What the laws do with a rig that came in. -/
theorem rig_args (a : List S155) (b : List ByteArray) (c : List S157) (n : Int) (hn0 : 0 ≤ n) (hn1 : n ≤ 1048576) (ha : a.length ≤ 9223372036854775807 ∧ ∀ y ∈ a, y.f0.size ≤ 9223372036854775807 ∧ y.f1.size ≤ 9223372036854775807 ∧ (Lit.int .i64 y.f2).wf = true)
    (hb : b.length ≤ 9223372036854775807 ∧ ∀ y ∈ b, y.size ≤ 9223372036854775807) (hc : c.length ≤ 9223372036854775807 ∧ ∀ y ∈ c, y.f0.size ≤ 9223372036854775807 ∧ y.f1.size ≤ 9223372036854775807 ∧ (Lit.int .i64 y.f2).wf = true) :
    ∃ r, laws_szRig.F a b c n = some r ∧ (r < 0 ∨ ¬ r < 0 ∧ r ≤ n ∧ ∃ (a' : List S106) (c' : List S108), a' = a.map railTo ∧ c' = c.map belayTo ∧ a'.length ≤ 1048576 ∧ b.length ≤ 1048576 ∧ c'.length ≤ 1048576 ∧ laws_toRig.F a b c = some (a', b, c') ∧ laws_eqRig.F a' b c' a' b c' = some true) := by
  rw [laws_szRig.F_eq]
  obtain ⟨r1, e1, h1⟩ := laws_szRailS_val a n ha.1 (fun y hy => ⟨(ha.2 y hy).1, (ha.2 y hy).2.1⟩) hn0 hn1
  rw [e1]; simp only [Option.bind_some]
  rcases h1 with h1 | ⟨h1, h2, h3, h4⟩
  · exact ⟨-1, by rw [if_pos h1], Or.inl (by omega)⟩
  rw [if_neg (by omega)]
  obtain ⟨r2, e2, k1⟩ := laws_szStringS_val b r1 hb.1 hb.2 h1 (by omega)
  rw [e2]; simp only [Option.bind_some]
  rcases k1 with k1 | ⟨k1, k2, k3, k4⟩
  · exact ⟨-1, by rw [if_pos k1], Or.inl (by omega)⟩
  rw [if_neg (by omega)]
  obtain ⟨r3, e3, j1⟩ := laws_szBelayS_val c r2 hc.1 (fun y hy => ⟨(hc.2 y hy).1, (hc.2 y hy).2.1⟩) k1 (by omega)
  rw [e3]; simp only [Option.bind_some]
  rcases j1 with j1 | ⟨j1, j2, j3, j4⟩
  · exact ⟨-1, by rw [if_pos j1], Or.inl (by omega)⟩
  refine ⟨r3, by rw [if_neg (by omega)], Or.inr ⟨by omega, by omega, a.map railTo, c.map belayTo, rfl, rfl, by rw [List.length_map]; omega, by omega, by rw [List.length_map]; omega, ?_, ?_⟩⟩
  · rw [laws_toRig.F_eq, laws_toRailS_val a (by omega)]; simp only [Option.bind_some]
    rw [laws_toStringS_val b (by omega)]; simp only [Option.bind_some]
    rw [laws_toBelayS_val c (by omega)]; rfl
  · rw [laws_eqRig.F_eq, laws_eqRailS_val _ (by rw [List.length_map]; omega)]; simp only [Option.bind_some]
    rw [if_pos trivial, laws_eqStringS_val b (by omega)]; simp only [Option.bind_some]
    rw [if_pos trivial, laws_eqBelayS_val _ (by rw [List.length_map]; omega)]; simp only [Option.bind_some]
    rw [if_pos trivial]
theorem notIf {α : Type} (b : Bool) (x y : α) : (if b = true then x else y) = (if (!b) = true then y else x) := by cases b <;> rfl
def sameRailAt (l m : List S106) (i : Nat) : Bool := !(!((((rd_T106 l (i : Int)).f0).toList) == (((rd_T106 m (i : Int)).f0).toList)) || (!((((rd_T106 l (i : Int)).f1).toList) == (((rd_T106 m (i : Int)).f1).toList)) || (!(((rd_T106 l (i : Int)).f2) == ((rd_T106 m (i : Int)).f2)))))
theorem impl_Rail_val (l m : List S106) (hl : l.length < 4611686018427387904) (h : l.length = m.length) : impl_Rail.F l m = some ((List.range l.length).all (sameRailAt l m)) := by
  rw [impl_Rail.F_eq, if_pos (by omega)]
  refine (allRange l.length (sameRailAt l m) (fun i => impl_Rail.L0 l m (l.length : Int) i) true (fun i hi => ?_) ?_).trans (by rw [Bool.and_true])
  · show impl_Rail.L0 l m _ i = _
    rw [impl_Rail.L0_eq, if_pos (by omega), if_pos (by omega), if_pos (by omega), if_pos (by omega), wS (by omega), notIf]
    rfl
  · show impl_Rail.L0 l m _ _ = _
    rw [impl_Rail.L0_eq, if_neg (by omega)]
def sameBelayAt (l m : List S108) (i : Nat) : Bool := !(!((((rd_T108 l (i : Int)).f0).toList) == (((rd_T108 m (i : Int)).f0).toList)) || (!((((rd_T108 l (i : Int)).f1).toList) == (((rd_T108 m (i : Int)).f1).toList)) || (!(((rd_T108 l (i : Int)).f2) == ((rd_T108 m (i : Int)).f2)))))
theorem impl_Belay_val (l m : List S108) (hl : l.length < 4611686018427387904) (h : l.length = m.length) : impl_Belay.F l m = some ((List.range l.length).all (sameBelayAt l m)) := by
  rw [impl_Belay.F_eq, if_pos (by omega)]
  refine (allRange l.length (sameBelayAt l m) (fun i => impl_Belay.L0 l m (l.length : Int) i) true (fun i hi => ?_) ?_).trans (by rw [Bool.and_true])
  · show impl_Belay.L0 l m _ i = _
    rw [impl_Belay.L0_eq, if_pos (by omega), if_pos (by omega), if_pos (by omega), if_pos (by omega), wS (by omega), notIf]
    rfl
  · show impl_Belay.L0 l m _ _ = _
    rw [impl_Belay.L0_eq, if_neg (by omega)]
def sameStrAt (l m : List ByteArray) (i : Nat) : Bool := decide ((rdOf ByteArray.empty l (i : Int)).toList = (rdOf ByteArray.empty m (i : Int)).toList)
theorem slices_Equal_string_string_val (l m : List ByteArray) (hl : l.length < 4611686018427387904) (h : l.length = m.length) : slices_Equal_string_string.F l m = some ((List.range l.length).all (sameStrAt l m)) := by
  rw [slices_Equal_string_string.F_eq, if_pos (by omega)]
  refine (allRange l.length (sameStrAt l m) (fun i => slices_Equal_string_string.L0 l m (l.length : Int) i) true (fun i hi => ?_) ?_).trans (by rw [Bool.and_true])
  · show slices_Equal_string_string.L0 l m _ i = _
    rw [slices_Equal_string_string.L0_eq, if_pos (by omega), if_pos (by omega), if_pos (by omega), if_pos (by omega), wS (by omega)]
    unfold sameStrAt
    simp only [decide_eq_true_eq]
  · show slices_Equal_string_string.L0 l m _ _ = _
    rw [slices_Equal_string_string.L0_eq, if_neg (by omega)]
theorem same_rigs (a a' : List S106) (b b' : List ByteArray) (c c' : List S108) (ha : a.length ≤ 1048576) (hb : b.length ≤ 1048576) (hc : c.length ≤ 1048576) : ∃ r, spec_SameRig.F a b c a' b' c' = some r ∧ impl_SameRig.F a b c a' b' c' = some r := by
  rw [spec_SameRig.F_eq, impl_SameRig.F_eq]
  have yes : spec_SameRig.J0 true a b c a' b' c' = some false := by rw [spec_SameRig.J0_eq, if_pos rfl]
  have e1 : impl_Rail.F a a' = some (decide (a.length = a'.length) && (List.range a.length).all (sameRailAt a a')) := by
    by_cases h : a.length = a'.length
    · rw [impl_Rail_val a a' (by omega) h, decide_eq_true h]; rfl
    · rw [impl_Rail.F_eq, if_neg (by omega), decide_eq_false h]; rfl
  have e2 : slices_Equal_string_string.F b b' = some (decide (b.length = b'.length) && (List.range b.length).all (sameStrAt b b')) := by
    by_cases h : b.length = b'.length
    · rw [slices_Equal_string_string_val b b' (by omega) h, decide_eq_true h]; rfl
    · rw [slices_Equal_string_string.F_eq, if_neg (by omega), decide_eq_false h]; rfl
  have e3 : impl_Belay.F c c' = some (decide (c.length = c'.length) && (List.range c.length).all (sameBelayAt c c')) := by
    by_cases h : c.length = c'.length
    · rw [impl_Belay_val c c' (by omega) h, decide_eq_true h]; rfl
    · rw [impl_Belay.F_eq, if_neg (by omega), decide_eq_false h]; rfl
  rw [e1]; simp only [Option.bind_some]
  rw [e2]; simp only [Option.bind_some]
  rw [e3]; simp only [Option.bind_some]
  refine ⟨(decide (a.length = a'.length) && (List.range a.length).all (sameRailAt a a')) && ((decide (b.length = b'.length) && (List.range b.length).all (sameStrAt b b')) && (decide (c.length = c'.length) && (List.range c.length).all (sameBelayAt c c'))), ?_, ?_⟩
  · by_cases h1 : (a.length : Int) = (a'.length : Int)
    · rw [if_pos h1, decide_eq_true (show a.length = a'.length by omega)]
      by_cases h2 : (b.length : Int) = (b'.length : Int)
      · rw [if_pos h2, decide_eq_true (show b.length = b'.length by omega)]
        by_cases h3 : c.length = c'.length
        · have hb3 : ((c.length : Int) != (c'.length : Int)) = false := by rw [h3]; simp
          rw [hb3, spec_SameRig.J0_eq, if_neg nf, decide_eq_true h3]
          have s2 := allRange c.length (sameBelayAt c c') (fun i => spec_SameRig.L2 i a b c a' b' c') true (fun i hi => by
            show spec_SameRig.L2 _ _ _ _ _ _ _ = _
            rw [spec_SameRig.L2_eq, if_pos (by omega), if_pos (by omega), if_pos (by omega), wS (by omega), notIf]
            rfl) (by
            show spec_SameRig.L2 _ _ _ _ _ _ _ = _
            rw [spec_SameRig.L2_eq, if_neg (by omega)])
          have s1 := allRange b.length (sameStrAt b b') (fun i => spec_SameRig.L1 i a b c a' b' c') _ (fun i hi => by
            show spec_SameRig.L1 _ _ _ _ _ _ _ = _
            rw [spec_SameRig.L1_eq, if_pos (by omega), if_pos (by omega), if_pos (by omega), wS (by omega)]
            unfold sameStrAt
            simp only [decide_eq_true_eq]) (by
            show spec_SameRig.L1 _ _ _ _ _ _ _ = _
            rw [spec_SameRig.L1_eq, if_neg (by omega)]
            exact s2)
          have s0 := allRange a.length (sameRailAt a a') (fun i => spec_SameRig.L0 i a b c a' b' c') _ (fun i hi => by
            show spec_SameRig.L0 _ _ _ _ _ _ _ = _
            rw [spec_SameRig.L0_eq, if_pos (by omega), if_pos (by omega), if_pos (by omega), wS (by omega), notIf]
            rfl) (by
            show spec_SameRig.L0 _ _ _ _ _ _ _ = _
            rw [spec_SameRig.L0_eq, if_neg (by omega)]
            exact s1)
          refine Eq.trans s0 ?_
          simp only [Bool.true_and, Bool.and_true]
        · have hb3 : ((c.length : Int) != (c'.length : Int)) = true := by simp; omega
          rw [hb3, yes, decide_eq_false h3]
          simp
      · rw [if_neg h2, yes, decide_eq_false (show ¬ b.length = b'.length by omega)]
        simp
    · rw [if_neg h1, yes, decide_eq_false (show ¬ a.length = a'.length by omega)]
      simp
  · cases (decide (a.length = a'.length) && (List.range a.length).all (sameRailAt a a')) <;> cases (decide (b.length = b'.length) && (List.range b.length).all (sameStrAt b b')) <;> simp
theorem pure_FnExactSameRig : laws_FnExactSameRig.Pure := by
  intro a b c a' b' c' ha hb hc ha' hb' hc'
  refine of_lim (g := fun k => laws_FnExactSameRig.f k a b c a' b' c') ?_
  show laws_FnExactSameRig.F a b c a' b' c' = some true
  obtain ⟨r, hr, h⟩ := rig_args a b c 1048576 (by omega) (by omega) ha hb hc
  rcases h with h | ⟨h1, h2, x, y, _, _, hx, hb1, hy, et, ee⟩
  · rw [laws_FnExactSameRig.F_eq, hr]; simp only [Option.bind_some]; rw [if_pos h]
  · obtain ⟨q, hq, h'⟩ := rig_args a' b' c' r (by omega) (by omega) ha' hb' hc'
    rcases h' with h' | ⟨h1', h2', x', y', _, _, hx', hb1', hy', et', ee'⟩
    · rw [laws_FnExactSameRig.F_eq, hr]; simp only [Option.bind_some]; rw [if_neg h1, hq]; simp only [Option.bind_some]; rw [if_pos h']
    · obtain ⟨z, e1, e2⟩ := same_rigs x x' b b' y y' hx hb1 hy
      simp [laws_FnExactSameRig.F_eq, hr, h1, hq, h1', et, ee, et', ee', e1, e2]
end Go.Proofs.Ytbhijlhlopljmaa.PFnExactSameRig
namespace Go.Proofs.Ytbhijlhlopljmaa.Pure
theorem FnExactSameRig : PFnExactSameRig.laws_FnExactSameRig.Pure := PFnExactSameRig.pure_FnExactSameRig
end Go.Proofs.Ytbhijlhlopljmaa.Pure
