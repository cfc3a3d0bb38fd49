/-
  The pure side of FnExactMoveLine: the program's MoveLine gives what the reference's gives. No conditions.
-/
import Derived.Test.YtpngklefeaolfaaQFnExactMoveLine
set_option linter.unusedVariables false
set_option linter.unusedSimpArgs false
set_option linter.unnecessarySimpa false
namespace Go.Proofs.Ytpngklefeaolfaa.PFnExactMoveLine
open Go.RowKit Go.Proofs.Ytpngklefeaolfaa.Kit Go.Proofs.YtpngklefeaolfaaW.PrintWords Go.Proofs.YtpngklefeaolfaaW.PrintLast Go.Proofs.YtpngklefeaolfaaW.PrintMore

/-- What a sum of sizes tells: it is less than 0, or all that it adds up is small. -/
theorem szLoop {α : Type} (l : List α) (small : α → Prop) (n : Int) (hn0 : 0 ≤ n) (g : Int → Int → Option Int) (h : ∀ (i : Nat) (s : Int) (hi : i < l.length), 0 ≤ s → s ≤ n → g s (i : Int) = some (-1) ∨ ∃ s', g s (i : Int) = g s' ((i + 1 : Nat) : Int) ∧ 0 ≤ s' ∧ s' ≤ s ∧ small l[i]) (he : ∀ s, g s (l.length : Int) = some s) :
    ∃ r, g n 0 = some r ∧ (r < 0 ∨ 0 ≤ r ∧ r ≤ n ∧ ∀ y ∈ l, small y) := by
  have key : ∀ (d i : Nat) (s : Int), i + d = l.length → 0 ≤ s → s ≤ n → (∀ y ∈ l.take i, small y) → ∃ r, g s (i : Int) = some r ∧ (r < 0 ∨ 0 ≤ r ∧ r ≤ n ∧ ∀ y ∈ l, small y) := by
    intro d
    induction d with
    | zero =>
      intro i s hd h0 h1 hs
      rw [show (i : Int) = (l.length : Int) by omega, he]
      rw [List.take_of_length_le (by omega)] at hs
      exact ⟨s, rfl, Or.inr ⟨h0, h1, hs⟩⟩
    | succ d ih =>
      intro i s hd h0 h1 hs
      have hi : i < l.length := by omega
      rcases h i s hi h0 h1 with h2 | ⟨s', h2, h3, h4, h5⟩
      · exact ⟨-1, h2, Or.inl (by omega)⟩
      · rw [h2]
        refine ih (i + 1) s' (by omega) h3 (by omega) (fun y hy => ?_)
        rw [List.take_succ_eq_append_getElem hi, List.mem_append, List.mem_singleton] at hy
        rcases hy with h6 | rfl
        · exact hs y h6
        · exact h5
  exact key l.length 0 n (by omega) hn0 (Int.le_refl _) (by simp)
theorem rdIRail (l : List S69) (i : Nat) (h : i < l.length) : rd_T69 l (i : Int) = l[i] := by simp [rd_T69, h]
theorem rdLRail (l : List S92) (i : Nat) (h : i < l.length) : rd_T92 l (i : Int) = l[i] := by simp [rd_T92, h]
def railTo (p : S92) : S69 := ⟨p.f0, p.f1, p.f2⟩
theorem laws_toRailS_val (l : List S92) (hl : l.length ≤ 1048576) : laws_toRailS.F l = some (l.map railTo) := by
  rw [laws_toRailS.F_eq, if_pos (by omega), if_pos (by omega), Int.toNat_natCast]
  have := fillLoop (l.map railTo) z69 (fun s i => laws_toRailS.L0 l s i) (fun i s hi hs => by
    rw [List.length_map] at hi hs
    show laws_toRailS.L0 l s i = _
    rw [laws_toRailS.L0_eq, if_pos (by omega), if_pos (by omega), rdLRail l i hi, wS (by omega)]
    unfold laws_toRail.f
    simp only [Option.bind_some]
    rw [if_pos (by omega), Int.toNat_natCast, List.getElem_map]
    rfl)
  rw [List.length_map] at this
  refine this.trans ?_
  show laws_toRailS.L0 l _ _ = _
  rw [laws_toRailS.L0_eq, if_neg (by omega)]
theorem laws_eqRailS_val (l : List S69) (hl : l.length < 4611686018427387904) : laws_eqRailS.F l l = some true := by
  rw [laws_eqRailS.F_eq, if_pos rfl]
  have := allLoop l (fun _ => true) (fun i => laws_eqRailS.L0 l l i) true (fun i hi => by
    show laws_eqRailS.L0 l l i = _
    rw [laws_eqRailS.L0_eq, if_pos (by omega), if_pos (by omega), if_pos (by omega), wS (by omega)]
    unfold laws_eqRail.f
    simp) (by
    show laws_eqRailS.L0 l l _ = _
    rw [laws_eqRailS.L0_eq, if_neg (by omega)])
  rw [this]; simp
theorem laws_szRail_val (a0 : ByteArray) (a1 : ByteArray) (a2 : Int) (n : Int) (h0 : a0.size ≤ 9223372036854775807) (h1 : a1.size ≤ 9223372036854775807) (hn : 0 ≤ n) (hn2 : n ≤ 1048576) : ∃ r, laws_szRail.f a0 a1 a2 n = some r ∧ (r < 0 ∨ 0 ≤ r ∧ r ≤ n ∧ (a0.size : Int) ≤ n ∧ (a1.size : Int) ≤ n) := by
  unfold laws_szRail.f
  have e0 : wrap64 (n - (a0.size : Int)) = n - (a0.size : Int) := w64 (by omega) (by omega)
  rw [e0]
  by_cases c0 : n - (a0.size : Int) < 0
  · exact ⟨-1, by rw [if_pos c0], Or.inl (by omega)⟩
  rw [if_neg c0]
  have e1 : wrap64 (n - (a0.size : Int) - (a1.size : Int)) = n - (a0.size : Int) - (a1.size : Int) := w64 (by omega) (by omega)
  rw [e1]
  by_cases c1 : n - (a0.size : Int) - (a1.size : Int) < 0
  · exact ⟨-1, by rw [if_pos c1], Or.inl (by omega)⟩
  rw [if_neg c1]
  exact ⟨_, rfl, Or.inr (by omega)⟩
theorem laws_szRailS_val (l : List S92) (n : Int) (h : l.length ≤ 9223372036854775807) (hy : ∀ y ∈ l, y.f0.size ≤ 9223372036854775807 ∧ y.f1.size ≤ 9223372036854775807) (hn : 0 ≤ n) (hn2 : n ≤ 1048576) : ∃ r, laws_szRailS.F l n = some r ∧ (r < 0 ∨ 0 ≤ r ∧ r ≤ n ∧ (l.length : Int) ≤ n ∧ ∀ y ∈ l, (y.f0.size : Int) ≤ n ∧ (y.f1.size : Int) ≤ n) := by
  rw [laws_szRailS.F_eq, w64 (by omega) (by omega)]
  by_cases hc : n - (l.length : Int) < 0
  · exact ⟨-1, by rw [if_pos hc], Or.inl (by omega)⟩
  · rw [if_neg hc]
    obtain ⟨r, hr, h1⟩ := szLoop l (fun y => (y.f0.size : Int) ≤ n ∧ (y.f1.size : Int) ≤ n) (n - (l.length : Int)) (by omega) (fun s i => laws_szRailS.L0 l s i) (fun i s hi h0 h2 => by
      show laws_szRailS.L0 l s i = _ ∨ ∃ s', laws_szRailS.L0 l s i = laws_szRailS.L0 l s' _ ∧ _
      rw [laws_szRailS.L0_eq, if_pos (by omega), if_pos (by omega), rdLRail l i hi, wS (by omega)]
      have hyi := hy _ (List.getElem_mem hi)
      obtain ⟨q, hq, h3⟩ := laws_szRail_val l[i].f0 l[i].f1 l[i].f2 s hyi.1 hyi.2 h0 (by omega)
      rw [hq]
      simp only [Option.bind_some]
      rcases h3 with h3 | h3
      · left; rw [if_pos h3]
      · right; exact ⟨q, by rw [if_neg (by omega)], by omega, by omega, by omega⟩) (fun s => by
      show laws_szRailS.L0 l s _ = _
      rw [laws_szRailS.L0_eq, if_neg (by omega)])
    refine ⟨r, hr, ?_⟩
    rcases h1 with h1 | ⟨h1, h2, h3⟩
    · exact Or.inl h1
    · exact Or.inr ⟨h1, by omega, by omega, h3⟩
theorem rdIBelay (l : List S40) (i : Nat) (h : i < l.length) : rd_T40 l (i : Int) = l[i] := by simp [rd_T40, h]
theorem rdLBelay (l : List S55) (i : Nat) (h : i < l.length) : rd_T55 l (i : Int) = l[i] := by simp [rd_T55, h]
def belayTo (p : S55) : S40 := ⟨p.f0, p.f1, p.f2⟩
theorem laws_toBelayS_val (l : List S55) (hl : l.length ≤ 1048576) : laws_toBelayS.F l = some (l.map belayTo) := by
  rw [laws_toBelayS.F_eq, if_pos (by omega), if_pos (by omega), Int.toNat_natCast]
  have := fillLoop (l.map belayTo) z40 (fun s i => laws_toBelayS.L0 l s i) (fun i s hi hs => by
    rw [List.length_map] at hi hs
    show laws_toBelayS.L0 l s i = _
    rw [laws_toBelayS.L0_eq, if_pos (by omega), if_pos (by omega), rdLBelay l i hi, wS (by omega)]
    unfold laws_toBelay.f
    simp only [Option.bind_some]
    rw [if_pos (by omega), Int.toNat_natCast, List.getElem_map]
    rfl)
  rw [List.length_map] at this
  refine this.trans ?_
  show laws_toBelayS.L0 l _ _ = _
  rw [laws_toBelayS.L0_eq, if_neg (by omega)]
theorem laws_eqBelayS_val (l : List S40) (hl : l.length < 4611686018427387904) : laws_eqBelayS.F l l = some true := by
  rw [laws_eqBelayS.F_eq, if_pos rfl]
  have := allLoop l (fun _ => true) (fun i => laws_eqBelayS.L0 l l i) true (fun i hi => by
    show laws_eqBelayS.L0 l l i = _
    rw [laws_eqBelayS.L0_eq, if_pos (by omega), if_pos (by omega), if_pos (by omega), wS (by omega)]
    unfold laws_eqBelay.f
    simp) (by
    show laws_eqBelayS.L0 l l _ = _
    rw [laws_eqBelayS.L0_eq, if_neg (by omega)])
  rw [this]; simp
theorem laws_szBelay_val (a0 : ByteArray) (a1 : ByteArray) (a2 : Int) (n : Int) (h0 : a0.size ≤ 9223372036854775807) (h1 : a1.size ≤ 9223372036854775807) (hn : 0 ≤ n) (hn2 : n ≤ 1048576) : ∃ r, laws_szBelay.f a0 a1 a2 n = some r ∧ (r < 0 ∨ 0 ≤ r ∧ r ≤ n ∧ (a0.size : Int) ≤ n ∧ (a1.size : Int) ≤ n) := by
  unfold laws_szBelay.f
  have e0 : wrap64 (n - (a0.size : Int)) = n - (a0.size : Int) := w64 (by omega) (by omega)
  rw [e0]
  by_cases c0 : n - (a0.size : Int) < 0
  · exact ⟨-1, by rw [if_pos c0], Or.inl (by omega)⟩
  rw [if_neg c0]
  have e1 : wrap64 (n - (a0.size : Int) - (a1.size : Int)) = n - (a0.size : Int) - (a1.size : Int) := w64 (by omega) (by omega)
  rw [e1]
  by_cases c1 : n - (a0.size : Int) - (a1.size : Int) < 0
  · exact ⟨-1, by rw [if_pos c1], Or.inl (by omega)⟩
  rw [if_neg c1]
  exact ⟨_, rfl, Or.inr (by omega)⟩
theorem laws_szBelayS_val (l : List S55) (n : Int) (h : l.length ≤ 9223372036854775807) (hy : ∀ y ∈ l, y.f0.size ≤ 9223372036854775807 ∧ y.f1.size ≤ 9223372036854775807) (hn : 0 ≤ n) (hn2 : n ≤ 1048576) : ∃ r, laws_szBelayS.F l n = some r ∧ (r < 0 ∨ 0 ≤ r ∧ r ≤ n ∧ (l.length : Int) ≤ n ∧ ∀ y ∈ l, (y.f0.size : Int) ≤ n ∧ (y.f1.size : Int) ≤ n) := by
  rw [laws_szBelayS.F_eq, w64 (by omega) (by omega)]
  by_cases hc : n - (l.length : Int) < 0
  · exact ⟨-1, by rw [if_pos hc], Or.inl (by omega)⟩
  · rw [if_neg hc]
    obtain ⟨r, hr, h1⟩ := szLoop l (fun y => (y.f0.size : Int) ≤ n ∧ (y.f1.size : Int) ≤ n) (n - (l.length : Int)) (by omega) (fun s i => laws_szBelayS.L0 l s i) (fun i s hi h0 h2 => by
      show laws_szBelayS.L0 l s i = _ ∨ ∃ s', laws_szBelayS.L0 l s i = laws_szBelayS.L0 l s' _ ∧ _
      rw [laws_szBelayS.L0_eq, if_pos (by omega), if_pos (by omega), rdLBelay l i hi, wS (by omega)]
      have hyi := hy _ (List.getElem_mem hi)
      obtain ⟨q, hq, h3⟩ := laws_szBelay_val l[i].f0 l[i].f1 l[i].f2 s hyi.1 hyi.2 h0 (by omega)
      rw [hq]
      simp only [Option.bind_some]
      rcases h3 with h3 | h3
      · left; rw [if_pos h3]
      · right; exact ⟨q, by rw [if_neg (by omega)], by omega, by omega, by omega⟩) (fun s => by
      show laws_szBelayS.L0 l s _ = _
      rw [laws_szBelayS.L0_eq, if_neg (by omega)])
    refine ⟨r, hr, ?_⟩
    rcases h1 with h1 | ⟨h1, h2, h3⟩
    · exact Or.inl h1
    · exact Or.inr ⟨h1, by omega, by omega, h3⟩
theorem rdStr (l : List ByteArray) (i : Nat) (h : i < l.length) : rdOf ByteArray.empty l (i : Int) = l[i] := by simp [rdOf, h]
theorem laws_szStringS_val (l : List ByteArray) (n : Int) (h : l.length ≤ 9223372036854775807) (hy : ∀ y ∈ l, y.size ≤ 9223372036854775807) (hn : 0 ≤ n) (hn2 : n ≤ 1048576) : ∃ r, laws_szStringS.F l n = some r ∧ (r < 0 ∨ 0 ≤ r ∧ r ≤ n ∧ (l.length : Int) ≤ n ∧ ∀ y ∈ l, (y.size : Int) ≤ n) := by
  rw [laws_szStringS.F_eq, w64 (by omega) (by omega)]
  by_cases hc : n - (l.length : Int) < 0
  · exact ⟨-1, by rw [if_pos hc], Or.inl (by omega)⟩
  · rw [if_neg hc]
    obtain ⟨r, hr, h1⟩ := szLoop l (fun y => (y.size : Int) ≤ n) (n - (l.length : Int)) (by omega) (fun s i => laws_szStringS.L0 l s i) (fun i s hi h0 h2 => by
      show laws_szStringS.L0 l s i = _ ∨ ∃ s', laws_szStringS.L0 l s i = laws_szStringS.L0 l s' _ ∧ _
      have hyi := hy _ (List.getElem_mem hi)
      rw [laws_szStringS.L0_eq, if_pos (by omega), if_pos (by omega), rdStr l i hi, wS (by omega), w64 (n := s - (l[i].size : Int)) (by omega) (by omega)]
      by_cases h3 : s - (l[i].size : Int) < 0
      · left; rw [if_pos h3]
      · right; exact ⟨s - (l[i].size : Int), by rw [if_neg h3], by omega, by omega, by omega⟩) (fun s => by
      show laws_szStringS.L0 l s _ = _
      rw [laws_szStringS.L0_eq, if_neg (by omega)])
    refine ⟨r, hr, ?_⟩
    rcases h1 with h1 | ⟨h1, h2, h3⟩
    · exact Or.inl h1
    · exact Or.inr ⟨h1, by omega, by omega, h3⟩
theorem laws_toStringS_val (l : List ByteArray) (hl : l.length ≤ 1048576) : laws_toStringS.F l = some l := by
  rw [laws_toStringS.F_eq, if_pos (by omega), if_pos (by omega), Int.toNat_natCast]
  have := fillLoop l (⟨#[]⟩ : ByteArray) (fun s i => laws_toStringS.L0 l s i) (fun i s hi hs => by
    show laws_toStringS.L0 l s i = _
    rw [laws_toStringS.L0_eq, if_pos (by omega), if_pos (by omega), wS (by omega), if_pos (by omega), Int.toNat_natCast, rdStr l i hi])
  refine this.trans ?_
  show laws_toStringS.L0 l _ _ = _
  rw [laws_toStringS.L0_eq, if_neg (by omega)]
theorem laws_eqStringS_val (l : List ByteArray) (hl : l.length < 4611686018427387904) : laws_eqStringS.F l l = some true := by
  rw [laws_eqStringS.F_eq, if_pos rfl]
  have := allLoop l (fun _ => true) (fun i => laws_eqStringS.L0 l l i) true (fun i hi => by
    show laws_eqStringS.L0 l l i = _
    rw [laws_eqStringS.L0_eq, if_pos (by omega), if_pos (by omega), if_pos (by omega), wS (by omega)]
    simp) (by
    show laws_eqStringS.L0 l l _ = _
    rw [laws_eqStringS.L0_eq, if_neg (by omega)])
  rw [this]; simp
/-- What the laws do with a rig that came in. -/
theorem rig_args (a : List S92) (b : List ByteArray) (c : List S55) (n : Int) (hn0 : 0 ≤ n) (hn1 : n ≤ 1048576) (ha : a.length ≤ 9223372036854775807 ∧ ∀ y ∈ a, y.f0.size ≤ 9223372036854775807 ∧ y.f1.size ≤ 9223372036854775807 ∧ (Lit.int .i64 y.f2).wf = true)
    (hb : b.length ≤ 9223372036854775807 ∧ ∀ y ∈ b, y.size ≤ 9223372036854775807) (hc : c.length ≤ 9223372036854775807 ∧ ∀ y ∈ c, y.f0.size ≤ 9223372036854775807 ∧ y.f1.size ≤ 9223372036854775807 ∧ (Lit.int .i64 y.f2).wf = true) :
    ∃ r, laws_szRig.F a b c n = some r ∧ (r < 0 ∨ ¬ r < 0 ∧ r ≤ n ∧ ∃ (a' : List S69) (c' : List S40), a' = a.map railTo ∧ c' = c.map belayTo ∧ a'.length ≤ 1048576 ∧ b.length ≤ 1048576 ∧ c'.length ≤ 1048576 ∧ laws_toRig.F a b c = some (a', b, c') ∧ laws_eqRig.F a' b c' a' b c' = some true) := by
  rw [laws_szRig.F_eq]
  obtain ⟨r1, e1, h1⟩ := laws_szRailS_val a n ha.1 (fun y hy => ⟨(ha.2 y hy).1, (ha.2 y hy).2.1⟩) hn0 hn1
  rw [e1]; simp only [Option.bind_some]
  rcases h1 with h1 | ⟨h1, h2, h3, h4⟩
  · exact ⟨-1, by rw [if_pos h1], Or.inl (by omega)⟩
  rw [if_neg (by omega)]
  obtain ⟨r2, e2, k1⟩ := laws_szStringS_val b r1 hb.1 hb.2 h1 (by omega)
  rw [e2]; simp only [Option.bind_some]
  rcases k1 with k1 | ⟨k1, k2, k3, k4⟩
  · exact ⟨-1, by rw [if_pos k1], Or.inl (by omega)⟩
  rw [if_neg (by omega)]
  obtain ⟨r3, e3, j1⟩ := laws_szBelayS_val c r2 hc.1 (fun y hy => ⟨(hc.2 y hy).1, (hc.2 y hy).2.1⟩) k1 (by omega)
  rw [e3]; simp only [Option.bind_some]
  rcases j1 with j1 | ⟨j1, j2, j3, j4⟩
  · exact ⟨-1, by rw [if_pos j1], Or.inl (by omega)⟩
  refine ⟨r3, by rw [if_neg (by omega)], Or.inr ⟨by omega, by omega, a.map railTo, c.map belayTo, rfl, rfl, by rw [List.length_map]; omega, by omega, by rw [List.length_map]; omega, ?_, ?_⟩⟩
  · rw [laws_toRig.F_eq, laws_toRailS_val a (by omega)]; simp only [Option.bind_some]
    rw [laws_toStringS_val b (by omega)]; simp only [Option.bind_some]
    rw [laws_toBelayS_val c (by omega)]; rfl
  · rw [laws_eqRig.F_eq, laws_eqRailS_val _ (by rw [List.length_map]; omega)]; simp only [Option.bind_some]
    rw [if_pos trivial, laws_eqStringS_val b (by omega)]; simp only [Option.bind_some]
    rw [if_pos trivial, laws_eqBelayS_val _ (by rw [List.length_map]; omega)]; simp only [Option.bind_some]
    rw [if_pos trivial]
def inB (n a b : Int) : Bool := decide (a ≤ n) && decide (n ≤ b)
theorem inB_iff (n a b : Int) : inB n a b = true ↔ a ≤ n ∧ n ≤ b := by simp [inB]
theorem inB_no (n a b : Int) : inB n a b = false ↔ ¬ (a ≤ n ∧ n ≤ b) := by rw [← inB_iff]; simp
def charB (n : Int) : Bool := inB n 97 122 || (inB n 48 57 || decide (n = 45))
theorem charB_iff (n : Int) : charB n = true ↔ (97 ≤ n ∧ n ≤ 122) ∨ (48 ≤ n ∧ n ≤ 57) ∨ n = 45 := by
  simp only [charB, Bool.or_eq_true, inB_iff, decide_eq_true_eq]
/-- Whether a text is a name. -/
def nameB (s : ByteArray) : Bool := decide (1 ≤ s.size) && (decide (s.size ≤ 12) && (inB (bt s 0) 97 122 && (List.range s.size).all fun i => charB (bt s (i : Int))))
theorem idxF_cases {α : Type} (p : α → Bool) (l : List α) : (∃ k, ∃ hk : k < l.length, p l[k] = true ∧ (∀ j (hj : j < k), p (l[j]'(by omega)) = false) ∧ idxF p l = (k : Int)) ∨ ((∀ j (hj : j < l.length), p l[j] = false) ∧ idxF p l = -1) := by
  cases h : l.findIdx? p with
  | some k =>
    left
    obtain ⟨hk, h1, h2⟩ := List.findIdx?_eq_some_iff_getElem.1 h
    exact ⟨k, hk, h1, fun j hj => by simpa using h2 j hj, by unfold idxF; rw [h]⟩
  | none =>
    right
    rw [List.findIdx?_eq_none_iff] at h
    exact ⟨fun j hj => h _ (List.getElem_mem hj), by unfold idxF; rw [List.findIdx?_eq_none_iff.2 h]⟩
theorem idxF_first {α : Type} (p : α → Bool) (l : List α) (i : Nat) (hi : i < l.length) (hp : p l[i] = true) (ha : ∀ j (hj : j < i), p (l[j]'(by omega)) = false) : idxF p l = (i : Int) := by
  rcases idxF_cases p l with ⟨k, hk, h1, h2, e⟩ | ⟨h1, e⟩
  · by_cases h3 : k < i
    · have := ha k h3
      rw [h1] at this; cases this
    · by_cases h4 : i < k
      · have := h2 i h4
        rw [hp] at this; cases this
      · rw [e]; omega
  · have := h1 i hi
    rw [hp] at this; cases this
theorem idxF_take {α : Type} (p : α → Bool) (l : List α) (i : Nat) (hi : i < l.length) (hp : p l[i] = true) : (idxF p l = (i : Int)) ↔ ¬ (idxF p (l.take i) ≥ 0) := by
  have hlen : (l.take i).length = i := by rw [List.length_take]; omega
  rcases idxF_cases p (l.take i) with ⟨k, hk, h1, h2, e⟩ | ⟨h1, e⟩
  · have hk2 : k < i := by omega
    rw [List.getElem_take] at h1
    constructor
    · intro h
      rcases idxF_cases p l with ⟨k', hk', h3, h4, e'⟩ | ⟨h3, e'⟩
      · have : k' = i := by omega
        subst this
        have := h4 k hk2
        rw [h1] at this
        cases this
      · omega
    · intro h; omega
  · constructor
    · intro _; omega
    · intro _
      exact idxF_first p l i hi hp (fun j hj => by have := h1 j (by omega); rwa [List.getElem_take] at this)
/-- A loop that finds the first. -/
theorem findLoop {α : Type} (l : List α) (p : α → Bool) (g : Int → Option Int) (h : ∀ i (hi : i < l.length), g (i : Int) = if p l[i] = true then some (i : Int) else g ((i + 1 : Nat) : Int)) (he : g (l.length : Int) = some (-1)) : g 0 = some (idxF p l) := by
  have key : ∀ (d i : Nat), l.length - i = d → i ≤ l.length → (∀ j (hj : j < i) (hl : j < l.length), p l[j] = false) → g (i : Int) = some (idxF p l) := by
    intro d
    induction d with
    | zero =>
      intro i hd hi ha
      obtain rfl : i = l.length := by omega
      rcases idxF_cases p l with ⟨k, hk, h1, h2, e⟩ | ⟨h1, e⟩
      · have := ha k hk hk
        rw [h1] at this; cases this
      · rw [he, e]
    | succ d ih =>
      intro i hd hi ha
      have hlt : i < l.length := by omega
      rw [h i hlt]
      by_cases hp : p l[i] = true
      · rw [if_pos hp, idxF_first p l i hlt hp (fun j hj => ha j hj (by omega))]
      · rw [if_neg hp]
        refine ih (i + 1) (by omega) (by omega) (fun j hj hl => ?_)
        by_cases e : j = i
        · subst e; simpa using hp
        · exact ha j (by omega) hl
  exact key l.length 0 (by omega) (by omega) (fun j hj => absurd hj (Nat.not_lt_zero _))
/-- Whether a text stands in a row. -/
def hasB (l : List ByteArray) (s : ByteArray) : Bool := decide (idxF (fun y => decide (y = s)) l ≥ 0)
theorem hasLoop {α : Type} (l : List α) (p : α → Bool) (g : Int → Option Bool) (h : ∀ i (hi : i < l.length), g (i : Int) = if p l[i] = true then some true else g ((i + 1 : Nat) : Int)) (he : g (l.length : Int) = some false) : g 0 = some (decide (idxF p l ≥ 0)) := by
  have key : ∀ (d i : Nat), l.length - i = d → i ≤ l.length → (∀ j (hj : j < i) (hl : j < l.length), p l[j] = false) → g (i : Int) = some (decide (idxF p l ≥ 0)) := by
    intro d
    induction d with
    | zero =>
      intro i hd hi ha
      obtain rfl : i = l.length := by omega
      rcases idxF_cases p l with ⟨k, hk, h1, h2, e⟩ | ⟨h1, e⟩
      · have := ha k hk hk
        rw [h1] at this; cases this
      · rw [he, e]; rfl
    | succ d ih =>
      intro i hd hi ha
      have hlt : i < l.length := by omega
      rw [h i hlt]
      by_cases hp : p l[i] = true
      · rw [if_pos hp, idxF_first p l i hlt hp (fun j hj => ha j hj (by omega)), decide_eq_true (by omega)]
      · rw [if_neg hp]
        refine ih (i + 1) (by omega) (by omega) (fun j hj hl => ?_)
        by_cases e : j = i
        · subst e; simpa using hp
        · exact ha j (by omega) hl
  exact key l.length 0 (by omega) (by omega) (fun j hj => absurd hj (Nat.not_lt_zero _))
theorem idxF_lt {α : Type} (p : α → Bool) (l : List α) : idxF p l < (l.length : Int) := by
  rcases idxF_cases p l with ⟨k, hk, h1, h2, e⟩ | ⟨h1, e⟩ <;> omega
theorem idxF_hits {α : Type} (p : α → Bool) (l : List α) (h : idxF p l ≥ 0) : ∃ k, ∃ hk : k < l.length, p l[k] = true ∧ idxF p l = (k : Int) := by
  rcases idxF_cases p l with ⟨k, hk, h1, h2, e⟩ | ⟨h1, e⟩
  · exact ⟨k, hk, h1, e⟩
  · omega
def railIx (R : List S69) (s : ByteArray) : Int := idxF (fun y : S69 => decide (y.f0 = s)) R
def lineIx (B : List S40) (s : ByteArray) : Int := idxF (fun y : S40 => decide (y.f0 = s)) B
def pinIx (B : List S40) (s : ByteArray) (n : Int) : Int := idxF (fun y : S40 => decide (y.f1 = s) && decide (y.f2 = n)) B
theorem impl_railNamed_val (R : List S69) (L : List ByteArray) (B : List S40) (s : ByteArray) (hl : R.length ≤ 1048576) : impl_railNamed.f R L B s = some (railIx R s) := by
  unfold impl_railNamed.f
  rw [if_pos (by omega)]; rfl
theorem impl_within_val (n a b : Int) : impl_within.f n a b = some (inB n a b) := by
  unfold impl_within.f inB
  by_cases h : n ≥ a
  · rw [if_pos h]; simp [show a ≤ n from h]
  · rw [if_neg h]; simp; omega
/-- Whether there is such a pin. -/
def pinB (R : List S69) (s : ByteArray) (n : Int) : Bool := decide (railIx R s ≥ 0) && inB n 1 (rd_T69 R (railIx R s)).f2
theorem impl_hasPin_val (R : List S69) (L : List ByteArray) (B : List S40) (s : ByteArray) (n : Int) (hl : R.length ≤ 1048576) : impl_hasPin.f R L B s n = some (pinB R s n) := by
  have hlt : railIx R s < (R.length : Int) := idxF_lt _ _
  unfold impl_hasPin.f pinB
  rw [impl_railNamed_val R L B s hl]
  simp only [Option.bind_some]
  by_cases h : railIx R s ≥ 0
  · rw [if_pos h, if_pos h, if_pos hlt, impl_within_val, decide_eq_true h, Bool.true_and]; rfl
  · rw [if_neg h, decide_eq_false h, Bool.false_and]
def railN (R : List S69) (x : S69) : Int := addRailN (nameB x.f0) (railSide x.f1) (inB x.f2 1 30) (railIx R x.f0) R.length
def lineN (L : List ByteArray) (s : ByteArray) : Int := addLineN (nameB s) (hasB L s) L.length
def belN (R : List S69) (L : List ByteArray) (B : List S40) (x : S40) : Int := addBelayN (railIx R x.f1) (hasB L x.f0) (pinB R x.f1 x.f2) (lineIx B x.f0) (pinIx B x.f1 x.f2)
def preB {α : Type} (l : List α) (f : List α → α → Int) (i : Nat) : Bool := match l[i]? with | some x => decide (f (l.take i) x = 0) | none => true
theorem preB_eq {α : Type} (l : List α) (f : List α → α → Int) (i : Nat) (h : i < l.length) : preB l f i = decide (f (l.take i) l[i] = 0) := by
  unfold preB
  rw [List.getElem?_eq_getElem h]
/-- Whether a rig is valid. -/
def rigB (R : List S69) (L : List ByteArray) (B : List S40) : Bool := (List.range R.length).all (preB R railN) && ((List.range L.length).all (preB L lineN) && ((List.range B.length).all (preB B (belN R L)) && true))
def RigSmall (R : List S69) (L : List ByteArray) (B : List S40) : Prop := (R.length ≤ 1048576 ∧ ∀ y ∈ R, y.f0.size ≤ 1048576) ∧ (L.length ≤ 1048576 ∧ ∀ y ∈ L, y.size ≤ 1048576) ∧ B.length ≤ 1048576
/-- What the laws do with a rig that came in; what came in is small. -/
theorem rig_args2 (a : List S92) (b : List ByteArray) (c : List S55) (n : Int) (hn0 : 0 ≤ n) (hn1 : n ≤ 1048576) (ha : a.length ≤ 9223372036854775807 ∧ ∀ y ∈ a, y.f0.size ≤ 9223372036854775807 ∧ y.f1.size ≤ 9223372036854775807 ∧ (Lit.int .i64 y.f2).wf = true)
    (hb : b.length ≤ 9223372036854775807 ∧ ∀ y ∈ b, y.size ≤ 9223372036854775807) (hc : c.length ≤ 9223372036854775807 ∧ ∀ y ∈ c, y.f0.size ≤ 9223372036854775807 ∧ y.f1.size ≤ 9223372036854775807 ∧ (Lit.int .i64 y.f2).wf = true) :
    ∃ r, laws_szRig.F a b c n = some r ∧ (r < 0 ∨ ¬ r < 0 ∧ r ≤ n ∧ ∃ (a' : List S69) (c' : List S40), RigSmall a' b c' ∧ laws_toRig.F a b c = some (a', b, c') ∧ laws_eqRig.F a' b c' a' b c' = some true) := by
  obtain ⟨r, hr, h⟩ := rig_args a b c n hn0 hn1 ha hb hc
  refine ⟨r, hr, ?_⟩
  rcases h with h | ⟨h1, h2, a', c', rfl, rfl, h3, h4, h5, h6, h7⟩
  · exact Or.inl h
  · refine Or.inr ⟨h1, h2, _, _, ⟨⟨h3, ?_⟩, ⟨h4, ?_⟩, h5⟩, h6, h7⟩
    · rw [laws_szRig.F_eq] at hr
      obtain ⟨r1, e1, k1⟩ := laws_szRailS_val a n ha.1 (fun y hy => ⟨(ha.2 y hy).1, (ha.2 y hy).2.1⟩) hn0 hn1
      rw [e1] at hr; simp only [Option.bind_some] at hr
      rcases k1 with k1 | ⟨k1, k2, k3, k4⟩
      · rw [if_pos k1] at hr
        have := Option.some.inj hr
        omega
      · intro y hy
        obtain ⟨z, hz, rfl⟩ := List.mem_map.1 hy
        have := (k4 z hz).1
        show z.f0.size ≤ _
        omega
    · rw [laws_szRig.F_eq] at hr
      obtain ⟨r1, e1, k1⟩ := laws_szRailS_val a n ha.1 (fun y hy => ⟨(ha.2 y hy).1, (ha.2 y hy).2.1⟩) hn0 hn1
      rw [e1] at hr; simp only [Option.bind_some] at hr
      rcases k1 with k1 | ⟨k1, k2, k3, k4⟩
      · rw [if_pos k1] at hr
        have := Option.some.inj hr
        omega
      · rw [if_neg (by omega)] at hr
        obtain ⟨r2, e2, j1⟩ := laws_szStringS_val b r1 hb.1 hb.2 k1 (by omega)
        rw [e2] at hr; simp only [Option.bind_some] at hr
        rcases j1 with j1 | ⟨j1, j2, j3, j4⟩
        · rw [if_pos j1] at hr
          have := Option.some.inj hr
          omega
        · intro y hy
          have := j4 y hy
          omega
theorem strOfNums_one (n : Int) : (strOfNums [n]).size = 1 := rfl
theorem markText_L0 : ∀ (n : Nat) (x : Int) (s : ByteArray), 0 ≤ x → x.toNat ≤ n → s.size + n ≤ 4611686018427387904 → ∃ t, laws_markText.L0 x s = some t := by
  intro n
  induction n with
  | zero =>
    intro x s h0 h1 h2
    rw [laws_markText.L0_eq, if_neg (by omega), if_pos (by omega)]
    exact ⟨_, rfl⟩
  | succ n ih =>
    intro x s h0 h1 h2
    rw [laws_markText.L0_eq]
    by_cases hx : x > 0
    · rw [if_pos hx]
      simp only [Option.bind_some]
      rw [if_pos (by rw [strOfNums_one]; omega), Int.tdiv_eq_ediv_of_nonneg h0, w64 (n := x / 10) (by omega) (by omega)]
      exact ih (x / 10) _ (by omega) (by omega) (by rw [ByteArray.size_append, strOfNums_one]; omega)
    · rw [if_neg hx, if_pos (by omega)]
      exact ⟨_, rfl⟩
noncomputable def markT (k : Int) : ByteArray := (laws_markText.F k).getD ByteArray.empty
theorem laws_markText_val (k : Int) (h : k ≤ 2305843009213693952) : laws_markText.F k = some (markT k) := by
  have : ∃ t, laws_markText.F k = some t := by
    rw [laws_markText.F_eq]
    by_cases h0 : k ≤ 0
    · rw [if_pos h0]; exact ⟨_, rfl⟩
    · rw [if_neg h0]
      exact markText_L0 k.toNat k _ (by omega) (Nat.le_refl _) (by have : (⟨#[]⟩ : ByteArray).size = 0 := rfl; omega)
  obtain ⟨t, ht⟩ := this
  unfold markT
  rw [ht]; rfl
noncomputable def upStr (k : Int) (n : Nat) : List ByteArray := (List.range n).map fun (j : Nat) => markT (k + (j : Int))
theorem laws_markStringS_val (l : List ByteArray) (k : Int) (h0 : 0 ≤ k) (h1 : k + l.length ≤ 2305843009213693952) : laws_markStringS.F l k = some (k + l.length, upStr k l.length) := by
  rw [laws_markStringS.F_eq]
  have hlen : ∀ i, i ≤ l.length → (upStr k i ++ l.drop i).length = l.length := fun i hi => by simp [upStr]; omega
  have := iterF (fun (s : List ByteArray × Int) i => laws_markStringS.L0 s.1 s.2 i) l.length (fun i => (upStr k i ++ l.drop i, k + (i : Int))) (fun i hi => by
    show laws_markStringS.L0 _ _ _ = laws_markStringS.L0 _ _ _
    have hl1 := hlen i (by omega)
    rw [laws_markStringS.L0_eq, if_pos (by rw [hl1]; omega), laws_markText_val _ (by omega)]
    simp only [Option.bind_some]
    rw [if_pos (by omega), wS (by omega), w64 (by omega) (by omega), Int.toNat_natCast]
    have e1 : (upStr k i ++ l.drop i).set i (markT (k + (i : Int))) = upStr k (i + 1) ++ l.drop (i + 1) := by
      have hlu : (upStr k i).length = i := by simp [upStr]
      rw [List.set_append, hlu, if_neg (Nat.lt_irrefl i), Nat.sub_self, List.drop_eq_getElem_cons hi, List.set_cons_zero]
      unfold upStr
      rw [List.range_succ, List.map_append, List.append_assoc]
      rfl
    rw [e1]
    congr 1
    omega)
  have e0 : upStr k 0 ++ l.drop 0 = l := by simp [upStr]
  simp only [e0] at this
  rw [show k + ((0 : Nat) : Int) = k by omega] at this
  refine this.trans ?_
  rw [laws_markStringS.L0_eq, if_neg (by rw [hlen l.length (Nat.le_refl _)]; omega)]
  simp
theorem laws_heldStringS_val (n : Nat) (k : Int) (h0 : 0 ≤ k) (h1 : k + n ≤ 2305843009213693952) : laws_heldStringS.F (upStr k n) k = some (k + n) := by
  rw [laws_heldStringS.F_eq]
  have hlen : (upStr k n).length = n := by simp [upStr]
  have := iterF (fun (s : Int) i => laws_heldStringS.L0 (upStr k n) s i) n (fun i => k + (i : Int)) (fun i hi => by
    show laws_heldStringS.L0 _ _ _ = laws_heldStringS.L0 _ _ _
    have hr : rdOf ByteArray.empty (upStr k n) (i : Int) = markT (k + (i : Int)) := by
      rw [rdStr _ i (by omega)]
      simp [upStr]
    rw [laws_heldStringS.L0_eq, if_pos (by rw [hlen]; omega), if_pos (by omega), laws_markText_val _ (by omega), hr]
    simp only [Option.bind_some]
    rw [if_pos trivial, wS (by omega), w64 (by omega) (by omega)]
    congr 1
    omega)
  rw [show k + ((0 : Nat) : Int) = k by omega] at this
  refine this.trans ?_
  show laws_heldStringS.L0 _ _ _ = _
  rw [laws_heldStringS.L0_eq, if_neg (by rw [hlen]; omega)]
theorem bnd {α β : Type} {o : Option α} {a : α} {f : α → Option β} {r : Option β} (h : o = some a) (h2 : f a = r) : o.bind f = r := by rw [h, Option.bind_some, h2]
theorem itT {α : Type} {c : Prop} [Decidable c] {a b r : α} (h : c) (h2 : a = r) : (if c then a else b) = r := by rw [if_pos h, h2]
theorem itF {α : Type} {c : Prop} [Decidable c] {a b r : α} (h : ¬ c) (h2 : b = r) : (if c then a else b) = r := by rw [if_neg h, h2]
/-- What bears the numbers from k on. -/
noncomputable def railsFrom (k : Int) (n : Nat) : List S69 := (List.range n).map fun (j : Nat) => (⟨markT (k + 3 * (j : Int)), markT (k + 3 * (j : Int) + 1), k + 3 * (j : Int) + 1 + 1⟩ : S69)
theorem laws_markRailS_val (l : List S69) (k : Int) (h0 : 0 ≤ k) (h1 : k + 3 * l.length ≤ 2305843009213693952) : laws_markRailS.F l k = some (k + 3 * l.length, railsFrom k l.length) := by
  rw [laws_markRailS.F_eq]
  have hlen : ∀ i, i ≤ l.length → (railsFrom k i ++ l.drop i).length = l.length := fun i hi => by simp [railsFrom]; omega
  have := iterF (fun (s : List S69 × Int) i => laws_markRailS.L0 s.1 s.2 i) l.length (fun i => (railsFrom k i ++ l.drop i, k + 3 * (i : Int))) (fun i hi => by
    show laws_markRailS.L0 _ _ _ = laws_markRailS.L0 _ _ _
    have hl1 := hlen i (by omega)
    have hlu : (railsFrom k i).length = i := by simp [railsFrom]
    have hr : ∀ v : S69, rd_T69 ((railsFrom k i ++ l.drop i).set i v) (i : Int) = v := by
      intro v
      rw [rdIRail _ i (by rw [List.length_set, hl1]; exact hi), List.getElem_set_self]
    rw [laws_markRailS.L0_eq, if_pos (by rw [hl1]; omega), laws_markText_val _ (by omega), Option.bind_some, if_pos (by omega), Option.bind_some, w64 (n := k + 3 * (i : Int) + 1) (by omega) (by omega), laws_markText_val _ (by omega), Option.bind_some, Option.bind_some, w64 (n := k + 3 * (i : Int) + 1 + 1) (by omega) (by omega), w64 (n := k + 3 * (i : Int) + 1 + 1 + 1) (by omega) (by omega), wS (by omega), Int.toNat_natCast]
    simp only [List.set_set, hr]
    have e1 : (railsFrom k i ++ l.drop i).set i (⟨markT (k + 3 * (i : Int)), markT (k + 3 * (i : Int) + 1), k + 3 * (i : Int) + 1 + 1⟩ : S69) = railsFrom k (i + 1) ++ l.drop (i + 1) := by
      rw [List.set_append, hlu, if_neg (Nat.lt_irrefl i), Nat.sub_self, List.drop_eq_getElem_cons hi, List.set_cons_zero]
      unfold railsFrom
      rw [List.range_succ, List.map_append, List.append_assoc]
      rfl
    rw [e1]
    congr 1
    omega)
  have e0 : railsFrom k 0 ++ l.drop 0 = l := by simp [railsFrom]
  simp only [e0] at this
  rw [show k + 3 * ((0 : Nat) : Int) = k by omega] at this
  refine this.trans ?_
  rw [laws_markRailS.L0_eq, if_neg (by rw [hlen l.length (Nat.le_refl _)]; omega)]
  simp
theorem laws_heldRailS_val (n : Nat) (k : Int) (h0 : 0 ≤ k) (h1 : k + 3 * n ≤ 2305843009213693952) : laws_heldRailS.F (railsFrom k n) k = some (k + 3 * n) := by
  rw [laws_heldRailS.F_eq]
  have hlen : (railsFrom k n).length = n := by simp [railsFrom]
  have := iterF (fun (s : Int) i => laws_heldRailS.L0 (railsFrom k n) s i) n (fun i => k + 3 * (i : Int)) (fun i hi => by
    show laws_heldRailS.L0 _ _ _ = laws_heldRailS.L0 _ _ _
    have hr : rd_T69 (railsFrom k n) (i : Int) = ⟨markT (k + 3 * (i : Int)), markT (k + 3 * (i : Int) + 1), k + 3 * (i : Int) + 1 + 1⟩ := by
      rw [rdIRail _ i (by omega)]
      simp [railsFrom]
    rw [laws_heldRailS.L0_eq, if_pos (by rw [hlen]; omega), if_pos (by omega), laws_markText_val _ (by omega), hr, Option.bind_some, if_pos rfl, w64 (n := k + 3 * (i : Int) + 1) (by omega) (by omega), laws_markText_val _ (by omega), Option.bind_some, if_pos rfl, w64 (n := k + 3 * (i : Int) + 1 + 1) (by omega) (by omega), if_pos rfl, w64 (n := k + 3 * (i : Int) + 1 + 1 + 1) (by omega) (by omega), wS (by omega)]
    congr 1
    omega)
  rw [show k + 3 * ((0 : Nat) : Int) = k by omega] at this
  refine this.trans ?_
  show laws_heldRailS.L0 _ _ _ = _
  rw [laws_heldRailS.L0_eq, if_neg (by rw [hlen]; omega)]
/-- What bears the numbers from k on. -/
noncomputable def belaysFrom (k : Int) (n : Nat) : List S40 := (List.range n).map fun (j : Nat) => (⟨markT (k + 3 * (j : Int)), markT (k + 3 * (j : Int) + 1), k + 3 * (j : Int) + 1 + 1⟩ : S40)
theorem laws_markBelayS_val (l : List S40) (k : Int) (h0 : 0 ≤ k) (h1 : k + 3 * l.length ≤ 2305843009213693952) : laws_markBelayS.F l k = some (k + 3 * l.length, belaysFrom k l.length) := by
  rw [laws_markBelayS.F_eq]
  have hlen : ∀ i, i ≤ l.length → (belaysFrom k i ++ l.drop i).length = l.length := fun i hi => by simp [belaysFrom]; omega
  have := iterF (fun (s : List S40 × Int) i => laws_markBelayS.L0 s.1 s.2 i) l.length (fun i => (belaysFrom k i ++ l.drop i, k + 3 * (i : Int))) (fun i hi => by
    show laws_markBelayS.L0 _ _ _ = laws_markBelayS.L0 _ _ _
    have hl1 := hlen i (by omega)
    have hlu : (belaysFrom k i).length = i := by simp [belaysFrom]
    have hr : ∀ v : S40, rd_T40 ((belaysFrom k i ++ l.drop i).set i v) (i : Int) = v := by
      intro v
      rw [rdIBelay _ i (by rw [List.length_set, hl1]; exact hi), List.getElem_set_self]
    rw [laws_markBelayS.L0_eq, if_pos (by rw [hl1]; omega), laws_markText_val _ (by omega), Option.bind_some, if_pos (by omega), Option.bind_some, w64 (n := k + 3 * (i : Int) + 1) (by omega) (by omega), laws_markText_val _ (by omega), Option.bind_some, Option.bind_some, w64 (n := k + 3 * (i : Int) + 1 + 1) (by omega) (by omega), w64 (n := k + 3 * (i : Int) + 1 + 1 + 1) (by omega) (by omega), wS (by omega), Int.toNat_natCast]
    simp only [List.set_set, hr]
    have e1 : (belaysFrom k i ++ l.drop i).set i (⟨markT (k + 3 * (i : Int)), markT (k + 3 * (i : Int) + 1), k + 3 * (i : Int) + 1 + 1⟩ : S40) = belaysFrom k (i + 1) ++ l.drop (i + 1) := by
      rw [List.set_append, hlu, if_neg (Nat.lt_irrefl i), Nat.sub_self, List.drop_eq_getElem_cons hi, List.set_cons_zero]
      unfold belaysFrom
      rw [List.range_succ, List.map_append, List.append_assoc]
      rfl
    rw [e1]
    congr 1
    omega)
  have e0 : belaysFrom k 0 ++ l.drop 0 = l := by simp [belaysFrom]
  simp only [e0] at this
  rw [show k + 3 * ((0 : Nat) : Int) = k by omega] at this
  refine this.trans ?_
  rw [laws_markBelayS.L0_eq, if_neg (by rw [hlen l.length (Nat.le_refl _)]; omega)]
  simp
theorem laws_heldBelayS_val (n : Nat) (k : Int) (h0 : 0 ≤ k) (h1 : k + 3 * n ≤ 2305843009213693952) : laws_heldBelayS.F (belaysFrom k n) k = some (k + 3 * n) := by
  rw [laws_heldBelayS.F_eq]
  have hlen : (belaysFrom k n).length = n := by simp [belaysFrom]
  have := iterF (fun (s : Int) i => laws_heldBelayS.L0 (belaysFrom k n) s i) n (fun i => k + 3 * (i : Int)) (fun i hi => by
    show laws_heldBelayS.L0 _ _ _ = laws_heldBelayS.L0 _ _ _
    have hr : rd_T40 (belaysFrom k n) (i : Int) = ⟨markT (k + 3 * (i : Int)), markT (k + 3 * (i : Int) + 1), k + 3 * (i : Int) + 1 + 1⟩ := by
      rw [rdIBelay _ i (by omega)]
      simp [belaysFrom]
    rw [laws_heldBelayS.L0_eq, if_pos (by rw [hlen]; omega), if_pos (by omega), laws_markText_val _ (by omega), hr, Option.bind_some, if_pos rfl, w64 (n := k + 3 * (i : Int) + 1) (by omega) (by omega), laws_markText_val _ (by omega), Option.bind_some, if_pos rfl, w64 (n := k + 3 * (i : Int) + 1 + 1) (by omega) (by omega), if_pos rfl, w64 (n := k + 3 * (i : Int) + 1 + 1 + 1) (by omega) (by omega), wS (by omega)]
    congr 1
    omega)
  rw [show k + 3 * ((0 : Nat) : Int) = k by omega] at this
  refine this.trans ?_
  show laws_heldBelayS.L0 _ _ _ = _
  rw [laws_heldBelayS.L0_eq, if_neg (by rw [hlen]; omega)]
theorem laws_markRig_val (R : List S69) (L : List ByteArray) (B : List S40) (hr : R.length ≤ 1048577) (hl : L.length ≤ 1048577) (hb : B.length ≤ 1048577) : laws_markRig.F R L B 1 = some (1 + 3 * (R.length : Int) + (L.length : Int) + 3 * (B.length : Int), railsFrom 1 R.length, upStr (1 + 3 * (R.length : Int)) L.length, belaysFrom (1 + 3 * (R.length : Int) + (L.length : Int)) B.length) := by
  rw [laws_markRig.F_eq]
  refine bnd (laws_markRailS_val R 1 (by omega) (by omega)) ?_
  refine bnd (laws_markStringS_val L _ (by omega) (by omega)) ?_
  refine bnd (laws_markBelayS_val B _ (by omega) (by omega)) ?_
  rfl
theorem laws_heldRig_val (a b c : Nat) (hr : a ≤ 1048577) (hl : b ≤ 1048577) (hb : c ≤ 1048577) : laws_heldRig.F (railsFrom 1 a) (upStr (1 + 3 * (a : Int)) b) (belaysFrom (1 + 3 * (a : Int) + (b : Int)) c) 1 = some (1 + 3 * (a : Int) + (b : Int) + 3 * (c : Int)) := by
  rw [laws_heldRig.F_eq]
  refine bnd (laws_heldRailS_val a 1 (by omega) (by omega)) (itF (by omega) ?_)
  refine bnd (laws_heldStringS_val b _ (by omega) (by omega)) (itF (by omega) ?_)
  refine bnd (laws_heldBelayS_val c _ (by omega) (by omega)) (itF (by omega) ?_)
  rfl
theorem laws_eqRig_val (R : List S69) (L : List ByteArray) (B : List S40) (hr : R.length ≤ 1048577) (hl : L.length ≤ 1048577) (hb : B.length ≤ 1048577) : laws_eqRig.F R L B R L B = some true := by
  rw [laws_eqRig.F_eq]
  refine bnd (laws_eqRailS_val R (by omega)) (itT rfl ?_)
  refine bnd (laws_eqStringS_val L (by omega)) (itT rfl ?_)
  exact bnd (laws_eqBelayS_val B (by omega)) (itT rfl rfl)
theorem strEq (a b : ByteArray) : (a.toList = b.toList) ↔ a = b := by
  rw [ByteArray.toList_eq, ByteArray.toList_eq]
  exact ⟨fun h => ByteArray.ext (Array.toList_inj.mp h), fun h => by rw [h]⟩
theorem l19Rail_L0 (R : List S69) (L : List ByteArray) (B : List S40) (s : ByteArray) (i : Int) : spec_l19Rail.L0 [⟨R, L, B⟩] s i = if i < (R.length : Int) then (if 0 ≤ i then (if ((rd_T69 R i).f0).toList = s.toList then some i else spec_l19Rail.L0 [⟨R, L, B⟩] s (wrap64 (i + 1))) else none) else some (-1) := spec_l19Rail.L0_eq _ _ _
theorem spec_l19Rail_val (R : List S69) (L : List ByteArray) (B : List S40) (s : ByteArray) (hl : R.length ≤ 1048576) : spec_l19Rail.F [⟨R, L, B⟩] s = some (railIx R s) := by
  rw [spec_l19Rail.F_eq, if_pos (by simp)]
  refine findLoop R _ (fun i => spec_l19Rail.L0 [⟨R, L, B⟩] s i) (fun i hi => ?_) ?_
  · show spec_l19Rail.L0 _ _ _ = if _ then _ else spec_l19Rail.L0 _ _ _
    rw [l19Rail_L0, if_pos (by omega), if_pos (by omega), rdIRail R i hi, wS (by omega)]
    by_cases h : R[i].f0 = s
    · rw [if_pos ((strEq _ _).2 h), if_pos (by simpa using h)]
    · rw [if_neg (fun z => h ((strEq _ _).1 z)), if_neg (by simpa using h)]
  · show spec_l19Rail.L0 _ _ _ = _
    rw [l19Rail_L0, if_neg (by omega)]
theorem l19Line_L0 (R : List S69) (L : List ByteArray) (B : List S40) (s : ByteArray) (i : Int) : spec_l19Line.L0 [⟨R, L, B⟩] s i = if i < (L.length : Int) then (if 0 ≤ i then (if (rdOf ByteArray.empty L i).toList = s.toList then some true else spec_l19Line.L0 [⟨R, L, B⟩] s (wrap64 (i + 1))) else none) else some false := spec_l19Line.L0_eq _ _ _
theorem spec_l19Line_val (R : List S69) (L : List ByteArray) (B : List S40) (s : ByteArray) (hl : L.length ≤ 1048576) : spec_l19Line.F [⟨R, L, B⟩] s = some (hasB L s) := by
  rw [spec_l19Line.F_eq, if_pos (by simp)]
  refine hasLoop L _ (fun i => spec_l19Line.L0 [⟨R, L, B⟩] s i) (fun i hi => ?_) ?_
  · show spec_l19Line.L0 _ _ _ = if _ then _ else spec_l19Line.L0 _ _ _
    rw [l19Line_L0, if_pos (by omega), if_pos (by omega), rdStr L i hi, wS (by omega)]
    by_cases h : L[i] = s
    · rw [if_pos ((strEq _ _).2 h), if_pos (by simpa using h)]
    · rw [if_neg (fun z => h ((strEq _ _).1 z)), if_neg (by simpa using h)]
  · show spec_l19Line.L0 _ _ _ = _
    rw [l19Line_L0, if_neg (by omega)]
theorem l19Of_L0 (R : List S69) (L : List ByteArray) (B : List S40) (s : ByteArray) (i : Int) : spec_l19Of.L0 [⟨R, L, B⟩] s i = if i < (B.length : Int) then (if 0 ≤ i then (if ((rd_T40 B i).f0).toList = s.toList then some i else spec_l19Of.L0 [⟨R, L, B⟩] s (wrap64 (i + 1))) else none) else some (-1) := spec_l19Of.L0_eq _ _ _
theorem spec_l19Of_val (R : List S69) (L : List ByteArray) (B : List S40) (s : ByteArray) (hl : B.length ≤ 1048576) : spec_l19Of.F [⟨R, L, B⟩] s = some (lineIx B s) := by
  rw [spec_l19Of.F_eq, if_pos (by simp)]
  refine findLoop B _ (fun i => spec_l19Of.L0 [⟨R, L, B⟩] s i) (fun i hi => ?_) ?_
  · show spec_l19Of.L0 _ _ _ = if _ then _ else spec_l19Of.L0 _ _ _
    rw [l19Of_L0, if_pos (by omega), if_pos (by omega), rdIBelay B i hi, wS (by omega)]
    by_cases h : B[i].f0 = s
    · rw [if_pos ((strEq _ _).2 h), if_pos (by simpa using h)]
    · rw [if_neg (fun z => h ((strEq _ _).1 z)), if_neg (by simpa using h)]
  · show spec_l19Of.L0 _ _ _ = _
    rw [l19Of_L0, if_neg (by omega)]
theorem impl_belayOf_val (R : List S69) (L : List ByteArray) (B : List S40) (s : ByteArray) (hl : B.length ≤ 1048576) : impl_belayOf.f R L B s = some (lineIx B s) := by
  unfold impl_belayOf.f
  rw [if_pos (by omega)]; rfl
theorem l19At_L0 (R : List S69) (L : List ByteArray) (B : List S40) (s : ByteArray) (n i : Int) : spec_l19At.L0 [⟨R, L, B⟩] s n i = if i < (B.length : Int) then (if 0 ≤ i then (if ((rd_T40 B i).f1).toList = s.toList then (if (rd_T40 B i).f2 = n then some i else spec_l19At.L0 [⟨R, L, B⟩] s n (wrap64 (i + 1))) else spec_l19At.L0 [⟨R, L, B⟩] s n (wrap64 (i + 1))) else none) else some (-1) := spec_l19At.L0_eq _ _ _ _
theorem spec_l19At_val (R : List S69) (L : List ByteArray) (B : List S40) (s : ByteArray) (n : Int) (hl : B.length ≤ 1048576) : spec_l19At.F [⟨R, L, B⟩] s n = some (pinIx B s n) := by
  rw [spec_l19At.F_eq, if_pos (by simp)]
  refine findLoop B _ (fun i => spec_l19At.L0 [⟨R, L, B⟩] s n i) (fun i hi => ?_) ?_
  · show spec_l19At.L0 _ _ _ _ = if _ then _ else spec_l19At.L0 _ _ _ _
    rw [l19At_L0, if_pos (by omega), if_pos (by omega), rdIBelay B i hi, wS (by omega)]
    by_cases h : B[i].f1 = s
    · rw [if_pos ((strEq _ _).2 h)]
      by_cases h2 : B[i].f2 = n
      · rw [if_pos h2, if_pos (by simp [h, h2])]
      · rw [if_neg h2, if_neg (by simp [h2])]
    · rw [if_neg (fun z => h ((strEq _ _).1 z)), if_neg (by simp [h])]
  · show spec_l19At.L0 _ _ _ _ = _
    rw [l19At_L0, if_neg (by omega)]
theorem impl_belayAt_val (R : List S69) (L : List ByteArray) (B : List S40) (s : ByteArray) (n : Int) (hl : B.length ≤ 1048576) : impl_belayAt.f R L B s n = some (pinIx B s n) := by
  unfold impl_belayAt.f
  rw [if_pos (by omega)]; rfl
theorem toList_nil (s : ByteArray) : s.toList = ([] : List UInt8) ↔ s.size = 0 := by
  rw [ByteArray.toList_eq]
  constructor
  · intro h
    have := congrArg List.length h
    simpa using this
  · intro h
    apply List.eq_nil_of_length_eq_zero
    simpa using h
theorem spec_l01Small_val (n : Int) : spec_l01Small.f n = some (inB n 97 122) := by
  unfold spec_l01Small.f inB
  by_cases h : n ≥ 97
  · rw [if_pos h]; simp [show 97 ≤ n from h]
  · rw [if_neg h]; simp; omega
theorem spec_l01Digit_val (n : Int) : spec_l01Digit.f n = some (inB n 48 57) := by
  unfold spec_l01Digit.f inB
  by_cases h : n ≥ 48
  · rw [if_pos h]; simp [show 48 ≤ n from h]
  · rw [if_neg h]; simp; omega
theorem spec_IsName_val (s : ByteArray) (hs : s.size ≤ 1048576) : spec_IsName.F s = some (nameB s) := by
  rw [spec_IsName.F_eq]
  unfold nameB
  by_cases h0 : s.size = 0
  · rw [if_pos ((toList_nil s).2 h0), spec_IsName.J0_eq, if_pos rfl]
    simp [h0]
  · rw [if_neg (fun h => h0 ((toList_nil s).1 h)), show decide (1 ≤ s.size) = true from decide_eq_true (by omega), Bool.true_and]
    by_cases h1 : (s.size : Int) > 12
    · rw [if_pos h1, spec_IsName.J0_eq, if_pos rfl, show decide (s.size ≤ 12) = false from decide_eq_false (by omega), Bool.false_and]
    · rw [if_neg h1, if_pos (by omega), spec_l01Small_val]
      simp only [Option.bind_some]
      rw [show decide (s.size ≤ 12) = true from decide_eq_true (by omega), Bool.true_and, spec_IsName.J0_eq]
      cases h2 : inB (bt s 0) 97 122
      · simp
      · rw [if_neg (by simp), Bool.true_and, ← Bool.and_true (List.all _ _)]
        refine allRange s.size _ (fun i => spec_IsName.L0 s i) true (fun i hi => ?_) ?_
        · show spec_IsName.L0 s _ = if _ then spec_IsName.L0 s _ else _
          rw [spec_IsName.L0_eq, if_pos (by omega), if_pos (by omega), wS (by omega)]
          simp only [spec_l01Small_val, spec_l01Digit_val, Option.bind_some]
          unfold charB
          cases inB (bt s (i : Int)) 97 122 <;> cases inB (bt s (i : Int)) 48 57 <;> by_cases h3 : bt s (i : Int) = 45 <;> simp [h3]
        · show spec_IsName.L0 s _ = _
          rw [spec_IsName.L0_eq, if_neg (by omega)]
theorem spec_l00In_val (n a b : Int) : spec_l00In.f n a b = some (inB n a b) := by
  unfold spec_l00In.f inB
  by_cases h : n ≥ a
  · rw [if_pos h]; simp [show a ≤ n from h]
  · rw [if_neg h]; simp; omega
theorem spec_l19AddRail_val (R : List S69) (L : List ByteArray) (B : List S40) (x : S69) (hl : R.length ≤ 1048576) (hs : x.f0.size ≤ 1048576) : spec_l19AddRail.F R L B x.f0 x.f1 x.f2 = some (railN R x) := by
  rw [spec_l19AddRail.F_eq, spec_IsName_val _ hs, spec_l00In_val, spec_l19Rail_val R L B _ hl]; rfl
theorem spec_l19AddLine_val (R : List S69) (L : List ByteArray) (B : List S40) (s : ByteArray) (hl : L.length ≤ 1048576) (hs : s.size ≤ 1048576) : spec_l19AddLine.F R L B s = some (lineN L s) := by
  rw [spec_l19AddLine.F_eq, spec_IsName_val _ hs, spec_l19Line_val R L B _ hl]; rfl
theorem spec_l19AddBelay_val (R : List S69) (L : List ByteArray) (B : List S40) (x : S40) (hr : R.length ≤ 1048576) (hl : L.length ≤ 1048576) (hb : B.length ≤ 1048576) : spec_l19AddBelay.F R L B x.f0 x.f1 x.f2 = some (belN R L B x) := by
  have hlt : railIx R x.f1 < (R.length : Int) := idxF_lt _ _
  rw [spec_l19AddBelay.F_eq, spec_l19Rail_val R L B _ hr, spec_l19Line_val R L B _ hl]
  simp only [Option.bind_some]
  rw [spec_l00In_val, spec_l19Of_val R L B _ hb, spec_l19At_val R L B _ _ hb]
  simp only [Option.bind_some]
  rw [if_pos hlt]
  unfold belN pinB addBelayN
  by_cases h : railIx R x.f1 < 0
  · rw [if_pos h, if_pos h]
  · rw [if_neg h, if_neg h, decide_eq_true (show railIx R x.f1 ≥ 0 by omega), Bool.true_and]
theorem spec_l19Ok_val (R : List S69) (L : List ByteArray) (B : List S40) (h : RigSmall R L B) : spec_l19Ok.F [⟨R, L, B⟩] = some (rigB R L B) := by
  obtain ⟨⟨hr, hrs⟩, ⟨hl, hls⟩, hb⟩ := h
  have e2 : spec_l19Ok.L2 R L B 0 = some ((List.range B.length).all (preB B (belN R L)) && true) := by
    refine allRange B.length _ (fun i => spec_l19Ok.L2 R L B i) true (fun i hi => ?_) ?_
    · show spec_l19Ok.L2 _ _ _ _ = if _ then spec_l19Ok.L2 _ _ _ _ else _
      rw [spec_l19Ok.L2_eq, if_pos (by omega), if_pos (by omega), rdIBelay B i hi, wS (by omega), Int.toNat_natCast, spec_l19AddBelay_val R L _ _ hr hl (by rw [List.length_take]; omega), preB_eq _ _ _ hi]
      simp only [Option.bind_some, decide_eq_true_eq]
    · show spec_l19Ok.L2 _ _ _ _ = _
      rw [spec_l19Ok.L2_eq, if_neg (by omega)]
  have e1 : spec_l19Ok.L1 R L B 0 = some ((List.range L.length).all (preB L lineN) && ((List.range B.length).all (preB B (belN R L)) && true)) := by
    refine allRange L.length _ (fun i => spec_l19Ok.L1 R L B i) _ (fun i hi => ?_) ?_
    · show spec_l19Ok.L1 _ _ _ _ = if _ then spec_l19Ok.L1 _ _ _ _ else _
      rw [spec_l19Ok.L1_eq, if_pos (by omega), if_pos (by omega), rdStr L i hi, wS (by omega), Int.toNat_natCast, spec_l19AddLine_val R _ [] _ (by rw [List.length_take]; omega) (hls _ (List.getElem_mem hi)), preB_eq _ _ _ hi]
      simp only [Option.bind_some, decide_eq_true_eq]
    · show spec_l19Ok.L1 _ _ _ _ = _
      rw [spec_l19Ok.L1_eq, if_neg (by omega), e2]
  have e0 : spec_l19Ok.L0 R L B 0 = some (rigB R L B) := by
    refine allRange R.length _ (fun i => spec_l19Ok.L0 R L B i) _ (fun i hi => ?_) ?_
    · show spec_l19Ok.L0 _ _ _ _ = if _ then spec_l19Ok.L0 _ _ _ _ else _
      rw [spec_l19Ok.L0_eq, if_pos (by omega), if_pos (by omega), rdIRail R i hi, wS (by omega), Int.toNat_natCast, spec_l19AddRail_val _ [] [] _ (by rw [List.length_take]; omega) (hrs _ (List.getElem_mem hi)), preB_eq _ _ _ hi]
      simp only [Option.bind_some, decide_eq_true_eq]
    · show spec_l19Ok.L0 _ _ _ _ = _
      rw [spec_l19Ok.L0_eq, if_neg (by omega), e1]
  rw [spec_l19Ok.F_eq, if_pos (by simp)]
  show (if R.length ≤ 1048576 ∧ L.length ≤ 1048576 ∧ B.length ≤ 1048576 then spec_l19Ok.L0 R L B 0 else none) = _
  rw [if_pos ⟨hr, hl, hb⟩, e0]
theorem containsS_val (l : List ByteArray) (s : ByteArray) (hl : l.length ≤ 1048576) : slices_Contains_string_string.F l s = some (hasB l s) := by
  rw [slices_Contains_string_string.F_eq, slices_Index_string_string.F_eq]
  have := findLoop l (fun y => decide (y = s)) (fun i => slices_Index_string_string.L0 l s (l.length : Int) i) (fun i hi => by
    show slices_Index_string_string.L0 _ _ _ _ = if _ then _ else slices_Index_string_string.L0 _ _ _ _
    rw [slices_Index_string_string.L0_eq, if_pos (by omega), if_pos (by omega), if_pos (by omega), rdStr l i hi, wS (by omega)]
    by_cases h : l[i] = s
    · rw [if_pos ((strEq _ _).2 h.symm), if_pos (by simpa using h)]
    · rw [if_neg (fun z => h ((strEq _ _).1 z).symm), if_neg (by simpa using h)]) (by
    show slices_Index_string_string.L0 _ _ _ _ = _
    rw [slices_Index_string_string.L0_eq, if_neg (by omega)])
  rw [show slices_Index_string_string.L0 l s (l.length : Int) 0 = some (idxF (fun y => decide (y = s)) l) from this]; rfl
theorem impl_IsName_val (s : ByteArray) (hs : s.size ≤ 1048576) : impl_IsName.F s = some (nameB s) := by
  rw [impl_IsName.F_eq]
  unfold nameB
  by_cases h0 : (s.size : Int) < 1
  · rw [if_pos h0, impl_IsName.J0_eq, if_pos rfl, show decide (1 ≤ s.size) = false from decide_eq_false (by omega), Bool.false_and]
  · rw [if_neg h0, show decide (1 ≤ s.size) = true from decide_eq_true (by omega), Bool.true_and]
    by_cases h1 : (s.size : Int) > 12
    · rw [if_pos h1, impl_IsName.J0_eq, if_pos rfl, show decide (s.size ≤ 12) = false from decide_eq_false (by omega), Bool.false_and]
    · rw [if_neg h1, if_pos (by omega), show decide (s.size ≤ 12) = true from decide_eq_true (by omega), Bool.true_and]
      have hl : impl_IsName.L0 s 0 = some ((List.range s.size).all (fun i => charB (bt s (i : Int))) && true) := by
        refine allRange s.size _ (fun i => impl_IsName.L0 s i) true (fun i hi => ?_) ?_
        · show impl_IsName.L0 s _ = if _ then impl_IsName.L0 s _ else _
          rw [impl_IsName.L0_eq, if_pos (by omega), if_pos (by omega), wS (by omega)]
          generalize bt s (i : Int) = n
          have hc := charB_iff n
          by_cases h : charB n = true
          · have h' := hc.1 h
            rw [if_pos h]
            repeat' split
            all_goals first | rfl | (exfalso; omega)
          · have h' := fun z => h (hc.2 z)
            rw [if_neg h]
            repeat' split
            all_goals first | rfl | (exfalso; apply h'; omega)
        · show impl_IsName.L0 s _ = _
          rw [impl_IsName.L0_eq, if_neg (by omega)]
      rw [Bool.and_true] at hl
      simp only [impl_IsName.J0_eq, hl]
      unfold inB
      by_cases a1 : bt s 0 < 97
      · rw [if_pos a1, if_pos trivial, show decide (97 ≤ bt s 0) = false from decide_eq_false (by omega)]; rfl
      · rw [if_neg a1]
        by_cases a2 : bt s 0 > 122
        · rw [if_pos (by simpa using a2), show decide (bt s 0 ≤ 122) = false from decide_eq_false (by omega), Bool.and_false]; rfl
        · rw [if_neg (by simpa using a2), show decide (97 ≤ bt s 0) = true from decide_eq_true (by omega), show decide (bt s 0 ≤ 122) = true from decide_eq_true (by omega)]; rfl
theorem impl_addRail_val (R : List S69) (x : S69) (hl : R.length ≤ 1048576) (hs : x.f0.size ≤ 1048576) : impl_addRail.F R x.f0 x.f1 x.f2 = some (railN R x) := by
  rw [impl_addRail.F_eq, impl_IsName_val _ hs, impl_within_val, impl_railNamed_val R [] [] _ hl]; rfl
theorem impl_addLine_val (L : List ByteArray) (s : ByteArray) (hl : L.length ≤ 1048576) (hs : s.size ≤ 1048576) : impl_addLine.F L s = some (lineN L s) := by
  rw [impl_addLine.F_eq, impl_IsName_val _ hs, containsS_val L _ hl]; rfl
theorem impl_addBelay_val (R : List S69) (L : List ByteArray) (B : List S40) (x : S40) (hr : R.length ≤ 1048576) (hl : L.length ≤ 1048576) (hb : B.length ≤ 1048576) : impl_addBelay.F R L B x.f0 x.f1 x.f2 = some (belN R L B x) := by
  rw [impl_addBelay.F_eq, impl_railNamed_val R L B _ hr, containsS_val L _ hl, impl_hasPin_val R L B _ _ hr, impl_belayOf_val R L B _ hb, impl_belayAt_val R L B _ _ hb]; rfl
theorem impl_ValidRig_val (R : List S69) (L : List ByteArray) (B : List S40) (h : RigSmall R L B) : impl_ValidRig.F R L B = some (rigB R L B) := by
  obtain ⟨⟨hr, hrs⟩, ⟨hl, hls⟩, hb⟩ := h
  have e2 : impl_ValidRig.L2 R L B 0 = some ((List.range B.length).all (preB B (belN R L)) && true) := by
    refine allRange B.length _ (fun i => impl_ValidRig.L2 R L B i) true (fun i hi => ?_) ?_
    · show impl_ValidRig.L2 _ _ _ _ = if _ then impl_ValidRig.L2 _ _ _ _ else _
      rw [impl_ValidRig.L2_eq, if_pos (by omega), if_pos (by omega), rdIBelay B i hi, wS (by omega), Int.toNat_natCast, impl_addBelay_val R L _ _ hr hl (by rw [List.length_take]; omega), preB_eq _ _ _ hi]
      simp only [Option.bind_some, decide_eq_true_eq]
    · show impl_ValidRig.L2 _ _ _ _ = _
      rw [impl_ValidRig.L2_eq, if_neg (by omega)]
  have e1 : impl_ValidRig.L1 R L B 0 = some ((List.range L.length).all (preB L lineN) && ((List.range B.length).all (preB B (belN R L)) && true)) := by
    refine allRange L.length _ (fun i => impl_ValidRig.L1 R L B i) _ (fun i hi => ?_) ?_
    · show impl_ValidRig.L1 _ _ _ _ = if _ then impl_ValidRig.L1 _ _ _ _ else _
      rw [impl_ValidRig.L1_eq, if_pos (by omega), if_pos (by omega), rdStr L i hi, wS (by omega), Int.toNat_natCast, impl_addLine_val _ _ (by rw [List.length_take]; omega) (hls _ (List.getElem_mem hi)), preB_eq _ _ _ hi]
      simp only [Option.bind_some, decide_eq_true_eq]
    · show impl_ValidRig.L1 _ _ _ _ = _
      rw [impl_ValidRig.L1_eq, if_neg (by omega), e2]
  have e0 : impl_ValidRig.L0 R L B 0 = some (rigB R L B) := by
    refine allRange R.length _ (fun i => impl_ValidRig.L0 R L B i) _ (fun i hi => ?_) ?_
    · show impl_ValidRig.L0 _ _ _ _ = if _ then impl_ValidRig.L0 _ _ _ _ else _
      rw [impl_ValidRig.L0_eq, if_pos (by omega), if_pos (by omega), rdIRail R i hi, wS (by omega), Int.toNat_natCast, impl_addRail_val _ _ (by rw [List.length_take]; omega) (hrs _ (List.getElem_mem hi)), preB_eq _ _ _ hi]
      simp only [Option.bind_some, decide_eq_true_eq]
    · show impl_ValidRig.L0 _ _ _ _ = _
      rw [impl_ValidRig.L0_eq, if_neg (by omega), e1]
  rw [impl_ValidRig.F_eq, if_pos ⟨hr, hl, hb⟩, e0]
/-- The answer behind the rig's and the line's tests. -/
def mvJ (bad : Bool) (R : List S69) (L : List ByteArray) (B : List S40) (b : S40) : Option ((List S69) × List ByteArray × (List S40) × Int) :=
  if bad = true then some ([], [], [], 2) else if pinIx B b.f1 b.f2 ≥ 0 then some ([], [], [], 9) else if lineIx B b.f0 < 0 then some (R, L, B ++ [b], 0) else some (R, L, B.set (lineIx B b.f0).toNat b, 0)
theorem copyRig_val (R : List S69) (L : List ByteArray) (B : List S40) (hr : R.length ≤ 1048576) (hl : L.length ≤ 1048576) (hb : B.length ≤ 1048576) : impl_copyRig.f R L B = some (R, L, B) := by
  unfold impl_copyRig.f
  refine bnd rfl (itT (by simp; omega) ?_)
  refine bnd rfl (itT (by simp; omega) ?_)
  refine bnd rfl (itT (by simp; omega) ?_)
  rfl
theorem own_val (R : List S69) (L : List ByteArray) (B : List S40) (hr : R.length ≤ 1048576) (hl : L.length ≤ 1048576) (hb : B.length ≤ 1048576) : spec_l19Own.f [⟨R, L, B⟩] = some (R, L, B) := by
  have e : rd_T32 [(⟨R, L, B⟩ : S32)] 0 = ⟨R, L, B⟩ := rfl
  unfold spec_l19Own.f
  rw [e]
  refine itT (by simp) ?_
  refine bnd rfl (itT (by simp; omega) ?_)
  refine bnd rfl (itT (by simp; omega) ?_)
  refine bnd rfl (itT (by simp; omega) ?_)
  rfl
theorem spec_mvJ (bad : Bool) (R : List S69) (L : List ByteArray) (B : List S40) (s0 s1 : ByteArray) (n : Int) (hr : R.length ≤ 1048576) (hl : L.length ≤ 1048576) (hb : B.length ≤ 1048576) : spec_MoveLine.J0 bad R L B s0 s1 n = mvJ bad R L B ⟨s0, s1, n⟩ := by
  have hlt : lineIx B s0 < (B.length : Int) := idxF_lt _ _
  rw [spec_MoveLine.J0_eq]
  unfold mvJ
  by_cases h : bad = true
  · rw [if_pos h, if_pos h]
  · rw [if_neg h, if_neg h]
    refine bnd (spec_l19At_val R L B s1 n hb) ?_
    by_cases h2 : pinIx B s1 n ≥ 0
    · rw [if_pos h2, if_pos h2]
    · rw [if_neg h2, if_neg h2]
      refine bnd (own_val R L B hr hl hb) ?_
      refine bnd (spec_l19Of_val R L B s0 hb) ?_
      by_cases h3 : lineIx B s0 < 0
      · rw [if_pos h3, if_pos h3]
        exact itT (show B.length < 3518437208883 by omega) rfl
      · rw [if_neg h3, if_neg h3]
        exact itT (by omega) (itT hlt rfl)
theorem impl_mvJ (bad : Bool) (R : List S69) (L : List ByteArray) (B : List S40) (s0 s1 : ByteArray) (n : Int) (hr : R.length ≤ 1048576) (hl : L.length ≤ 1048576) (hb : B.length ≤ 1048576) : impl_MoveLine.J0 bad R L B s0 s1 n = mvJ bad R L B ⟨s0, s1, n⟩ := by
  have hlt : lineIx B s0 < (B.length : Int) := idxF_lt _ _
  rw [impl_MoveLine.J0_eq]
  unfold mvJ
  by_cases h : bad = true
  · rw [if_pos h, if_pos h]
  · rw [if_neg h, if_neg h]
    refine bnd (impl_belayAt_val R L B s1 n hb) ?_
    by_cases h2 : pinIx B s1 n ≥ 0
    · rw [if_pos h2, if_pos h2]
    · rw [if_neg h2, if_neg h2]
      refine bnd (copyRig_val R L B hr hl hb) ?_
      refine bnd (impl_belayOf_val R L B s0 hb) ?_
      by_cases h3 : lineIx B s0 < 0
      · rw [if_neg (show ¬ lineIx B s0 ≥ 0 by omega), if_pos h3]
        exact itT (show B.length < 3518437208883 by omega) rfl
      · rw [if_pos (show lineIx B s0 ≥ 0 by omega), if_neg h3]
        exact itT (by omega) (itT hlt rfl)
theorem mvJ_some (bad : Bool) (R : List S69) (L : List ByteArray) (B : List S40) (b : S40) (hr : R.length ≤ 1048576) (hl : L.length ≤ 1048576) (hb : B.length ≤ 1048576) : ∃ q1 q2 q3 z, mvJ bad R L B b = some (q1, q2, q3, z) ∧ q1.length ≤ 1048577 ∧ q2.length ≤ 1048577 ∧ q3.length ≤ 1048577 := by
  unfold mvJ
  by_cases h : bad = true
  · rw [if_pos h]; exact ⟨_, _, _, _, rfl, by simp, by simp, by simp⟩
  · rw [if_neg h]
    by_cases h2 : pinIx B b.f1 b.f2 ≥ 0
    · rw [if_pos h2]; exact ⟨_, _, _, _, rfl, by simp, by simp, by simp⟩
    · rw [if_neg h2]
      by_cases h3 : lineIx B b.f0 < 0
      · rw [if_pos h3]; exact ⟨_, _, _, _, rfl, by omega, by omega, by rw [List.length_append]; simp; omega⟩
      · rw [if_neg h3]; exact ⟨_, _, _, _, rfl, by omega, by omega, by rw [List.length_set]; omega⟩
theorem move_both (R : List S69) (L : List ByteArray) (B : List S40) (s0 s1 : ByteArray) (n : Int) (hm : RigSmall R L B) : ∃ q1 q2 q3 z, spec_MoveLine.F R L B s0 s1 n = some (q1, q2, q3, z) ∧ impl_MoveLine.F R L B s0 s1 n = some (q1, q2, q3, z) ∧ q1.length ≤ 1048577 ∧ q2.length ≤ 1048577 ∧ q3.length ≤ 1048577 := by
  have hR := hm.1.1
  have hL := hm.2.1.1
  have hB := hm.2.2
  have hlt : railIx R s1 < (R.length : Int) := idxF_lt _ _
  have key : ∀ bad, spec_MoveLine.F R L B s0 s1 n = spec_MoveLine.J0 bad R L B s0 s1 n → impl_MoveLine.F R L B s0 s1 n = impl_MoveLine.J0 bad R L B s0 s1 n → ∃ q1 q2 q3 z, spec_MoveLine.F R L B s0 s1 n = some (q1, q2, q3, z) ∧ impl_MoveLine.F R L B s0 s1 n = some (q1, q2, q3, z) ∧ q1.length ≤ 1048577 ∧ q2.length ≤ 1048577 ∧ q3.length ≤ 1048577 := by
    intro bad h1 h2
    obtain ⟨q1, q2, q3, z, e, k⟩ := mvJ_some bad R L B ⟨s0, s1, n⟩ hR hL hB
    exact ⟨q1, q2, q3, z, by rw [h1, spec_mvJ _ R L B s0 s1 n hR hL hB, e], by rw [h2, impl_mvJ _ R L B s0 s1 n hR hL hB, e], k⟩
  by_cases hv : rigB R L B = true
  · have es := spec_l19Ok_val R L B hm
    have ei := impl_ValidRig_val R L B hm
    rw [hv] at es ei
    by_cases hk : railIx R s1 < 0
    · have hp : pinB R s1 n = false := by unfold pinB; rw [decide_eq_false (show ¬ railIx R s1 ≥ 0 by omega)]; rfl
      refine key true ?_ ?_
      · rw [spec_MoveLine.F_eq]
        exact bnd es (itT rfl (bnd (spec_l19Rail_val R L B s1 hR) (itT hk rfl)))
      · rw [impl_MoveLine.F_eq]
        refine bnd ei (itT rfl (bnd (containsS_val L s0 hL) ?_))
        by_cases hl : hasB L s0 = true
        · refine itT hl (bnd (impl_hasPin_val R L B s1 n hR) ?_)
          rw [hp]; rfl
        · exact itF hl rfl
    · by_cases hl : hasB L s0 = true
      · have hp : pinB R s1 n = inB n 1 (rd_T69 R (railIx R s1)).f2 := by unfold pinB; rw [decide_eq_true (show railIx R s1 ≥ 0 by omega), Bool.true_and]
        refine key (!pinB R s1 n) ?_ ?_
        · rw [spec_MoveLine.F_eq, hp]
          refine bnd es (itT rfl (bnd (spec_l19Rail_val R L B s1 hR) (itF hk (bnd (spec_l19Line_val R L B s0 hL) (itT hl (itT (by omega) (itT hlt (bnd (spec_l00In_val _ _ _) ?_))))))))
          rfl
        · rw [impl_MoveLine.F_eq]
          exact bnd ei (itT rfl (bnd (containsS_val L s0 hL) (itT hl (bnd (impl_hasPin_val R L B s1 n hR) rfl))))
      · refine key true ?_ ?_
        · rw [spec_MoveLine.F_eq]
          exact bnd es (itT rfl (bnd (spec_l19Rail_val R L B s1 hR) (itF hk (bnd (spec_l19Line_val R L B s0 hL) (itF hl rfl)))))
        · rw [impl_MoveLine.F_eq]
          exact bnd ei (itT rfl (bnd (containsS_val L s0 hL) (itF hl rfl)))
  · have es := spec_l19Ok_val R L B hm
    have ei := impl_ValidRig_val R L B hm
    refine ⟨[], [], [], 1, ?_, ?_, by simp, by simp, by simp⟩
    · rw [spec_MoveLine.F_eq]
      exact bnd es (itF hv rfl)
    · rw [impl_MoveLine.F_eq]
      exact bnd ei (itF hv rfl)
theorem pure_FnExactMoveLine : laws_FnExactMoveLine.Pure := by
  intro a b c s0 s1 n ha hb hc hs0 hs1 hn
  refine of_lim (g := fun k => laws_FnExactMoveLine.f k a b c s0 s1 n) ?_
  show laws_FnExactMoveLine.F a b c s0 s1 n = some true
  rw [laws_FnExactMoveLine.F_eq]
  obtain ⟨r, hr, h⟩ := rig_args2 a b c 1048576 (by omega) (by omega) ha hb hc
  refine bnd hr ?_
  rcases h with h | ⟨h1, h2, x, y, hm, et, ee⟩
  · exact itT h rfl
  refine itF h1 ?_
  have hz : ∃ t, laws_szBelay.f s0 s1 n r = some t := by
    unfold laws_szBelay.f
    by_cases g1 : wrap64 (r - (s0.size : Int)) < 0
    · exact ⟨_, itT g1 rfl⟩
    · by_cases g2 : wrap64 (wrap64 (r - (s0.size : Int)) - (s1.size : Int)) < 0
      · exact ⟨_, itF g1 (itT g2 rfl)⟩
      · exact ⟨_, itF g1 (itF g2 rfl)⟩
  obtain ⟨t, ht⟩ := hz
  refine bnd ht ?_
  by_cases h3 : t < 0
  · exact itT h3 rfl
  refine itF h3 ?_
  obtain ⟨q1, q2, q3, z, e1, e2, k1, k2, k3⟩ := move_both x b y s0 s1 n hm
  have hR := hm.1.1
  have hL := hm.2.1.1
  have hB := hm.2.2
  have e3 := laws_eqRig_val q1 q2 q3 k1 k2 k3
  have e4 := laws_markRig_val x b y (by omega) (by omega) (by omega)
  have e5 := laws_markRig_val q1 q2 q3 k1 k2 k3
  have e6 := laws_heldRig_val q1.length q2.length q3.length k1 k2 k3
  have n1 : ¬ (1 + 3 * (x.length : Int) + (b.length : Int) + 3 * (y.length : Int) < 0) := by omega
  have n2 : ¬ (1 + 3 * (q1.length : Int) + (q2.length : Int) + 3 * (q3.length : Int) < 0) := by omega
  have hz : (z != z) = false := by simp
  refine bnd et (bnd rfl (bnd e1 (bnd et (bnd rfl (bnd e2 (bnd e3 (itT rfl ?_)))))))
  rw [hz, laws_FnExactMoveLine.J0_eq]
  refine itF nf (bnd et (bnd ee (itT rfl (bnd e4 (itF n1 (bnd e3 (itT rfl ?_)))))))
  rw [hz, laws_FnExactMoveLine.J1_eq]
  refine itF nf (bnd e5 (bnd e6 (itF n2 (itT rfl (bnd et (bnd rfl (bnd e2 (bnd e3 (itT rfl ?_)))))))))
  rw [hz, laws_FnExactMoveLine.J2_eq]
  exact itF nf (bnd e6 (itF n2 (itT rfl rfl)))
end Go.Proofs.Ytpngklefeaolfaa.PFnExactMoveLine
namespace Go.Proofs.Ytpngklefeaolfaa.Pure
theorem FnExactMoveLine : PFnExactMoveLine.laws_FnExactMoveLine.Pure := PFnExactMoveLine.pure_FnExactMoveLine
end Go.Proofs.Ytpngklefeaolfaa.Pure
