/-
  The pure side of FnExactBestCloth: the program's BestCloth gives what the reference's gives. No conditions.
-/
import Derived.Test.YtmljmfepnlpgfaaQFnExactBestCloth
set_option linter.unusedVariables false
set_option linter.unusedSimpArgs false
set_option linter.unnecessarySimpa false
namespace Go.Proofs.Ytmljmfepnlpgfaa.PFnExactBestCloth
open Go.RowKit Go.Proofs.Ytmljmfepnlpgfaa.Kit Go.Proofs.YtmljmfepnlpgfaaW.PrintWords Go.Proofs.YtmljmfepnlpgfaaW.PrintLast Go.Proofs.YtmljmfepnlpgfaaW.PrintMore

theorem laws_szSpotS_val (l : List S53) (n : Int) (h : l.length ≤ 9223372036854775807) (hn : 0 ≤ n) (hn2 : n ≤ 1048576) : ∃ r, laws_szSpotS.f l n = some r ∧ (r < 0 ∨ 0 ≤ r ∧ r ≤ n ∧ (l.length : Int) ≤ n) := by
  unfold laws_szSpotS.f
  rw [w64 (by omega) (by omega)]
  by_cases hc : n < l.length
  · exact ⟨-1, by rw [if_pos (by omega)], Or.inl (by omega)⟩
  · exact ⟨n - l.length, by rw [if_neg (by omega)], Or.inr (by omega)⟩
theorem rdLSpot (l : List S53) (i : Nat) (h : i < l.length) : rd_T53 l (i : Int) = l[i] := by simp [rd_T53, h]
def spotTo (p : S53) : S51 := ⟨p.f0, p.f1⟩
theorem laws_toSpotS_val (l : List S53) (hl : l.length ≤ 1048576) : laws_toSpotS.F l = some (l.map spotTo) := by
  rw [laws_toSpotS.F_eq, if_pos (by omega), if_pos (by omega), Int.toNat_natCast]
  have := fillLoop (l.map spotTo) z51 (fun s i => laws_toSpotS.L0 l s i) (fun i s hi hs => by
    rw [List.length_map] at hi hs
    show laws_toSpotS.L0 l s i = _
    rw [laws_toSpotS.L0_eq, if_pos (by omega), if_pos (by omega), rdLSpot l i hi, wS (by omega)]
    unfold laws_toSpot.f
    simp only [Option.bind_some]
    rw [if_pos (by omega), Int.toNat_natCast, List.getElem_map]
    rfl)
  rw [List.length_map] at this
  refine this.trans ?_
  show laws_toSpotS.L0 l _ _ = _
  rw [laws_toSpotS.L0_eq, if_neg (by omega)]
theorem laws_eqSpotS_val (l : List S51) (hl : l.length < 4611686018427387904) : laws_eqSpotS.F l l = some true := by
  rw [laws_eqSpotS.F_eq, if_pos rfl]
  have := allLoop l (fun _ => true) (fun i => laws_eqSpotS.L0 l l i) true (fun i hi => by
    show laws_eqSpotS.L0 l l i = _
    rw [laws_eqSpotS.L0_eq, if_pos (by omega), if_pos (by omega), if_pos (by omega), wS (by omega)]
    unfold laws_eqSpot.f
    simp) (by
    show laws_eqSpotS.L0 l l _ = _
    rw [laws_eqSpotS.L0_eq, if_neg (by omega)])
  rw [this]; simp
theorem laws_toInt64S_val (l : List Int) (hl : l.length ≤ 1048576) : laws_toInt64S.F l = some l := by
  rw [laws_toInt64S.F_eq, if_pos (by omega), if_pos (by omega), Int.toNat_natCast]
  have := fillLoop l 0 (fun s i => laws_toInt64S.L0 l s i) (fun i s hi hs => by
    show laws_toInt64S.L0 l s i = _
    rw [laws_toInt64S.L0_eq, if_pos (by omega), if_pos (by omega), wS (by omega), if_pos (by omega), Int.toNat_natCast, rd_get l i hi])
  refine this.trans ?_
  show laws_toInt64S.L0 l _ _ = _
  rw [laws_toInt64S.L0_eq, if_neg (by omega)]
theorem laws_eqInt64S_val (l : List Int) (hl : l.length < 4611686018427387904) : laws_eqInt64S.F l l = some true := by
  rw [laws_eqInt64S.F_eq, if_pos rfl]
  have := allLoop l (fun _ => true) (fun i => laws_eqInt64S.L0 l l i) true (fun i hi => by
    show laws_eqInt64S.L0 l l i = _
    rw [laws_eqInt64S.L0_eq, if_pos (by omega), if_pos (by omega), if_pos (by omega), wS (by omega)]
    simp) (by
    show laws_eqInt64S.L0 l l _ = _
    rw [laws_eqInt64S.L0_eq, if_neg (by omega)])
  rw [this]; simp
theorem gcdLoop (L : Int → Int → Option Int) (hL : ∀ a b, L a b = if b = 0 then some a else L b (Int.tmod a b)) (b : Nat) : ∀ a : Nat, L (a : Int) (b : Int) = some ((Nat.gcd a b : Nat) : Int) := by
  induction b using Nat.strongRecOn with
  | _ b ih =>
    intro a
    rw [hL]
    by_cases h : b = 0
    · subst h; simp
    · rw [if_neg (by omega), ← Int.ofNat_tmod, ih (a % b) (Nat.mod_lt _ (by omega)) b, Nat.gcd_comm a b, Nat.gcd_rec b a, Nat.gcd_comm]
/-- A fraction in lowest terms. -/
def fgcd (a b : Int) : Int := ((Nat.gcd a.natAbs b.natAbs : Nat) : Int)
def fracN (a b : Int) : Int := wrap64 (Int.tdiv a (fgcd a b))
def fracD (a b : Int) : Int := wrap64 (Int.tdiv b (fgcd a b))
theorem fgcd_pos (a b : Int) (hb : 0 < b) : 0 < fgcd a b := by
  have : 0 < Nat.gcd a.natAbs b.natAbs := Nat.gcd_pos_of_pos_right _ (by omega)
  unfold fgcd; omega
theorem frac_mul (a b : Int) (ha : -9223372036854775807 ≤ a) (ha2 : a ≤ 9223372036854775807) (hb : 0 < b) (hb2 : b ≤ 9223372036854775807) : fgcd a b * fracN a b = a ∧ fgcd a b * fracD a b = b := by
  have hp := fgcd_pos a b hb
  have d1 : fgcd a b ∣ a := Int.natAbs_dvd_natAbs.1 (by unfold fgcd; exact Nat.gcd_dvd_left _ _)
  have d2 : fgcd a b ∣ b := Int.natAbs_dvd_natAbs.1 (by unfold fgcd; exact Nat.gcd_dvd_right _ _)
  have e1 := Int.mul_tdiv_cancel' d1
  have e2 := Int.mul_tdiv_cancel' d2
  have n1 : (Int.tdiv a (fgcd a b)).natAbs ≤ a.natAbs := by rw [Int.natAbs_tdiv]; exact Nat.div_le_self _ _
  have n2 : (Int.tdiv b (fgcd a b)).natAbs ≤ b.natAbs := by rw [Int.natAbs_tdiv]; exact Nat.div_le_self _ _
  unfold fracN fracD
  rw [w64 (by omega) (by omega), w64 (by omega) (by omega)]
  exact ⟨e1, e2⟩
theorem mul_bd (a b A B : Int) (h1 : -A ≤ a) (h2 : a ≤ A) (h3 : -B ≤ b) (h4 : b ≤ B) : -(A * B) ≤ a * b ∧ a * b ≤ A * B := by
  constructor
  · have x1 := Int.mul_nonneg (show 0 ≤ A + a by omega) (show 0 ≤ B + b by omega)
    have x2 := Int.mul_nonneg (show 0 ≤ A - a by omega) (show 0 ≤ B - b by omega)
    grind
  · have x1 := Int.mul_nonneg (show 0 ≤ A + a by omega) (show 0 ≤ B - b by omega)
    have x2 := Int.mul_nonneg (show 0 ≤ A - a by omega) (show 0 ≤ B + b by omega)
    grind
/-- A fraction in lowest terms. -/
def Can (q : Int × Int) : Prop := 0 < q.2 ∧ Nat.gcd q.1.natAbs q.2.natAbs = 1
theorem can_eq {p q : Int × Int} (hp : Can p) (hq : Can q) (h : p.1 * q.2 = q.1 * p.2) : p = q := by
  obtain ⟨p1, p2⟩ := hp
  obtain ⟨q1, q2⟩ := hq
  have hn : p.1.natAbs * q.2.natAbs = q.1.natAbs * p.2.natAbs := by rw [← Int.natAbs_mul, ← Int.natAbs_mul, h]
  have c1 : Nat.Coprime p.2.natAbs p.1.natAbs := by rw [Nat.Coprime, Nat.gcd_comm]; exact p2
  have c2 : Nat.Coprime q.2.natAbs q.1.natAbs := by rw [Nat.Coprime, Nat.gcd_comm]; exact q2
  have d1 : p.2.natAbs ∣ q.2.natAbs := Nat.Coprime.dvd_of_dvd_mul_left c1 (by rw [hn]; exact Nat.dvd_mul_left _ _)
  have d2 : q.2.natAbs ∣ p.2.natAbs := Nat.Coprime.dvd_of_dvd_mul_left c2 (by rw [← hn]; exact Nat.dvd_mul_left _ _)
  have e := Nat.dvd_antisymm d1 d2
  have e2 : p.2 = q.2 := by omega
  rw [e2] at h
  have e1 : p.1 = q.1 := Int.eq_of_mul_eq_mul_right (by omega) h
  exact Prod.ext e1 e2
def frP (a b : Int) : Int × Int := (fracN a b, fracD a b)
/-- What a fraction in lowest terms is worth, and how large it is. -/
theorem frP_all (a b : Int) (ha : -9223372036854775807 ≤ a) (ha2 : a ≤ 9223372036854775807) (hb : 0 < b) (hb2 : b ≤ 9223372036854775807) : Can (frP a b) ∧ (frP a b).1 * b = a * (frP a b).2 ∧ (frP a b).2 ≤ b ∧ (0 ≤ a → 0 ≤ (frP a b).1 ∧ (frP a b).1 ≤ a) ∧ (frP a b).1.natAbs ≤ a.natAbs := by
  have hg := fgcd_pos a b hb
  obtain ⟨e1, e2⟩ := frac_mul a b ha ha2 hb hb2
  have n1 : (Int.tdiv a (fgcd a b)).natAbs ≤ a.natAbs := by rw [Int.natAbs_tdiv]; exact Nat.div_le_self _ _
  have n2 : (Int.tdiv b (fgcd a b)).natAbs ≤ b.natAbs := by rw [Int.natAbs_tdiv]; exact Nat.div_le_self _ _
  have w1 : fracN a b = Int.tdiv a (fgcd a b) := by unfold fracN; exact w64 (by omega) (by omega)
  have w2 : fracD a b = Int.tdiv b (fgcd a b) := by unfold fracD; exact w64 (by omega) (by omega)
  have hD : 0 < fracD a b := by
    refine Int.not_le.1 fun h => ?_
    have := Int.mul_nonneg (show 0 ≤ fgcd a b by omega) (show 0 ≤ -fracD a b by omega)
    rw [Int.mul_neg] at this
    omega
  refine ⟨⟨hD, ?_⟩, ?_, ?_, fun h => ?_, by show (fracN a b).natAbs ≤ _; rw [w1]; exact n1⟩
  · show Nat.gcd (fracN a b).natAbs (fracD a b).natAbs = 1
    rw [w1, w2, Int.natAbs_tdiv, Int.natAbs_tdiv]
    have : (fgcd a b).natAbs = Nat.gcd a.natAbs b.natAbs := by unfold fgcd; rfl
    rw [this]
    exact Nat.coprime_div_gcd_div_gcd (by unfold fgcd at hg; omega)
  · show fracN a b * b = a * fracD a b
    have h1 : fracN a b * b = fracN a b * (fgcd a b * fracD a b) := by rw [e2]
    have h2 : a * fracD a b = (fgcd a b * fracN a b) * fracD a b := by rw [e1]
    rw [h1, h2]; grind
  · show fracD a b ≤ b
    rw [w2] at hD ⊢; omega
  · show 0 ≤ fracN a b ∧ fracN a b ≤ a
    have h0 : 0 ≤ fracN a b := by rw [w1]; exact Int.tdiv_nonneg h (by omega)
    refine ⟨h0, ?_⟩
    rw [w1] at h0 ⊢; omega
def leF (p q : Int × Int) : Prop := p.1 * q.2 ≤ q.1 * p.2
theorem leF_refl (p : Int × Int) : leF p p := Int.le_refl _
theorem leF_trans {p q r : Int × Int} (hp : 0 < p.2) (hq : 0 < q.2) (hr : 0 < r.2) (h1 : leF p q) (h2 : leF q r) : leF p r := by
  unfold leF at *
  have a1 := Int.mul_le_mul_of_nonneg_right h1 (show 0 ≤ r.2 by omega)
  have a2 := Int.mul_le_mul_of_nonneg_right h2 (show 0 ≤ p.2 by omega)
  refine Int.le_of_mul_le_mul_right (a := q.2) ?_ hq
  have e1 : p.1 * r.2 * q.2 = p.1 * q.2 * r.2 := by grind
  have e2 : r.1 * p.2 * q.2 = r.1 * q.2 * p.2 := by grind
  have e3 : q.1 * p.2 * r.2 = q.1 * r.2 * p.2 := by grind
  omega
theorem leF_antisymm {p q : Int × Int} (hp : Can p) (hq : Can q) (h1 : leF p q) (h2 : leF q p) : p = q := can_eq hp hq (Int.le_antisymm h1 h2)
def pmin (m x : Int × Int) : Int × Int := if x.1 * m.2 < m.1 * x.2 then x else m
def pmax (m x : Int × Int) : Int × Int := if m.1 * x.2 < x.1 * m.2 then x else m
theorem pmin_in (P : Int × Int → Prop) {m x : Int × Int} (hm : P m) (hx : P x) : P (pmin m x) := by unfold pmin; split <;> assumption
theorem pmax_in (P : Int × Int → Prop) {m x : Int × Int} (hm : P m) (hx : P x) : P (pmax m x) := by unfold pmax; split <;> assumption
theorem fold_in (f : Int × Int → Int × Int → Int × Int) (P : Int × Int → Prop) (hf : ∀ m x, P m → P x → P (f m x)) (L : List (Int × Int)) : ∀ a, P a → (∀ q ∈ L, P q) → P (L.foldl f a) := by
  induction L with
  | nil => intro a h _; exact h
  | cons x L ih => intro a h hL; exact ih _ (hf _ _ h (hL x (by simp))) (fun q hq => hL q (by simp [hq]))
theorem fold_mem (f : Int × Int → Int × Int → Int × Int) (hf : ∀ m x, f m x = m ∨ f m x = x) (L : List (Int × Int)) : ∀ a, L.foldl f a = a ∨ L.foldl f a ∈ L := by
  induction L with
  | nil => intro a; exact Or.inl rfl
  | cons x L ih =>
    intro a
    rw [List.foldl_cons]
    rcases ih (f a x) with h | h
    · rw [h]
      rcases hf a x with h2 | h2
      · exact Or.inl h2
      · exact Or.inr (by rw [h2]; simp)
    · exact Or.inr (by simp [h])
theorem fold_best (f : Int × Int → Int × Int → Int × Int) (R : Int × Int → Int × Int → Prop) (P : Int × Int → Prop) (hr : ∀ p, R p p) (ht : ∀ p q r, P p → P q → P r → R p q → R q r → R p r) (hP : ∀ m x, P m → P x → P (f m x)) (h1 : ∀ m x, P m → P x → R (f m x) m) (h2 : ∀ m x, P m → P x → R (f m x) x)
    (L : List (Int × Int)) : ∀ a, P a → (∀ q ∈ L, P q) → R (L.foldl f a) a ∧ ∀ q ∈ L, R (L.foldl f a) q := by
  induction L with
  | nil => intro a _ _; exact ⟨hr _, fun q hq => by cases hq⟩
  | cons x L ih =>
    intro a ha hL
    have hx := hL x (by simp)
    have hL2 : ∀ q ∈ L, P q := fun q hq => hL q (by simp [hq])
    have hfa := hP a x ha hx
    have hz := fold_in f P hP L _ hfa hL2
    obtain ⟨g1, g2⟩ := ih (f a x) hfa hL2
    rw [List.foldl_cons]
    refine ⟨ht _ _ _ hz hfa ha g1 (h1 a x ha hx), fun q hq => ?_⟩
    rcases List.mem_cons.1 hq with rfl | hq
    · exact ht _ _ _ hz hfa hx g1 (h2 a q ha hx)
    · exact g2 q hq
theorem fold_min (L : List (Int × Int)) (a : Int × Int) (ha : 0 < a.2) (hL : ∀ q ∈ L, 0 < q.2) : (L.foldl pmin a = a ∨ L.foldl pmin a ∈ L) ∧ leF (L.foldl pmin a) a ∧ ∀ q ∈ L, leF (L.foldl pmin a) q :=
  ⟨fold_mem pmin (fun m x => by unfold pmin; split <;> simp) L a, fold_best pmin leF (fun q => 0 < q.2) leF_refl (fun p q r hp hq hr => leF_trans hp hq hr) (fun m x hm hx => pmin_in (fun q => 0 < q.2) hm hx)
    (fun m x _ _ => by unfold pmin leF; split <;> omega) (fun m x _ _ => by unfold pmin leF; split <;> omega) L a ha hL⟩
theorem fold_max (L : List (Int × Int)) (a : Int × Int) (ha : 0 < a.2) (hL : ∀ q ∈ L, 0 < q.2) : (L.foldl pmax a = a ∨ L.foldl pmax a ∈ L) ∧ leF a (L.foldl pmax a) ∧ ∀ q ∈ L, leF q (L.foldl pmax a) :=
  ⟨fold_mem pmax (fun m x => by unfold pmax; split <;> simp) L a, fold_best pmax (fun p q => leF q p) (fun q => 0 < q.2) leF_refl (fun p q r hp hq hr h1 h2 => leF_trans hr hq hp h2 h1) (fun m x hm hx => pmax_in (fun q => 0 < q.2) hm hx)
    (fun m x _ _ => by unfold pmax leF; split <;> omega) (fun m x _ _ => by unfold pmax leF; split <;> omega) L a ha hL⟩
/-- The sum of two fractions. -/
def sumF (a b : Int × Int) : Int × Int := frP (a.1 * Int.tdiv b.2 (fgcd a.2 b.2) + b.1 * Int.tdiv a.2 (fgcd a.2 b.2)) (Int.tdiv a.2 (fgcd a.2 b.2) * b.2)
theorem gcd_parts (a b : Int) (ha : 0 < a) (hb : 0 < b) : ∃ g x y : Int, fgcd a b = g ∧ Int.tdiv a g = x ∧ Int.tdiv b g = y ∧ 0 < g ∧ a = g * x ∧ b = g * y ∧ 0 < x ∧ 0 < y ∧ x ≤ a ∧ y ≤ b := by
  have hg := fgcd_pos a b hb
  have d1 : fgcd a b ∣ a := Int.natAbs_dvd_natAbs.1 (by unfold fgcd; exact Nat.gcd_dvd_left _ _)
  have d2 : fgcd a b ∣ b := Int.natAbs_dvd_natAbs.1 (by unfold fgcd; exact Nat.gcd_dvd_right _ _)
  have e1 := Int.mul_tdiv_cancel' d1
  have e2 := Int.mul_tdiv_cancel' d2
  have n1 : (Int.tdiv a (fgcd a b)).natAbs ≤ a.natAbs := by rw [Int.natAbs_tdiv]; exact Nat.div_le_self _ _
  have n2 : (Int.tdiv b (fgcd a b)).natAbs ≤ b.natAbs := by rw [Int.natAbs_tdiv]; exact Nat.div_le_self _ _
  have p1 : 0 ≤ Int.tdiv a (fgcd a b) := Int.tdiv_nonneg (by omega) (by omega)
  have p2 : 0 ≤ Int.tdiv b (fgcd a b) := Int.tdiv_nonneg (by omega) (by omega)
  refine ⟨_, _, _, rfl, rfl, rfl, hg, e1.symm, e2.symm, ?_, ?_, by omega, by omega⟩
  · rcases Int.lt_or_eq_of_le p1 with h | h
    · exact h
    · rw [← h] at e1; omega
  · rcases Int.lt_or_eq_of_le p2 with h | h
    · exact h
    · rw [← h] at e2; omega
/-- Fractions that come up: not too large. -/
def FB (q : Int × Int) : Prop := (-4000000 ≤ q.1 ∧ q.1 ≤ 4000000) ∧ 0 < q.2 ∧ q.2 ≤ 2000
theorem sum_bd {a b : Int × Int} (ha : FB a) (hb : FB b) {x y : Int} (hx : 0 < x ∧ x ≤ a.2) (hy : 0 < y ∧ y ≤ b.2) : (-8000000000 ≤ a.1 * y ∧ a.1 * y ≤ 8000000000) ∧ (-8000000000 ≤ b.1 * x ∧ b.1 * x ≤ 8000000000) ∧ 0 < x * b.2 ∧ x * b.2 ≤ 4000000 := by
  unfold FB at *
  have h1 := mul_bd a.1 y 4000000 2000 (by omega) (by omega) (by omega) (by omega)
  have h2 := mul_bd b.1 x 4000000 2000 (by omega) (by omega) (by omega) (by omega)
  have h3 := mul_bd x b.2 2000 2000 (by omega) (by omega) (by omega) (by omega)
  have h4 := Int.mul_pos hx.1 hb.2.1
  omega
theorem sumF_val (F : Int → Int → Int → Int → Option (Int × Int)) (G M : Int → Int → Option _) (hG : ∀ a b : Int, 0 < a → 0 < b → G a b = some (fgcd a b)) (hM : ∀ a b : Int, -9223372036854775807 ≤ a → a ≤ 9223372036854775807 → 0 < b → b ≤ 9223372036854775807 → M a b = some (frP a b))
    (hF : ∀ a b c d, F a b c d = (G b d).bind fun t => if t = 0 then none else (M (wrap64 ((wrap64 (a * (wrap64 (Int.tdiv d t)))) + (wrap64 (c * (wrap64 (Int.tdiv b t)))))) (wrap64 ((wrap64 (Int.tdiv b t)) * d))).bind fun z => some (z.1, z.2)) {a b : Int × Int} (ha : FB a) (hb : FB b) : F a.1 a.2 b.1 b.2 = some (sumF a b) := by
  obtain ⟨g, x, y, e0, e1, e2, h0, h1, h2, h3, h4, h5, h6⟩ := gcd_parts a.2 b.2 ha.2.1 hb.2.1
  obtain ⟨b1, b2, b3, b4⟩ := sum_bd ha hb ⟨h3, h5⟩ ⟨h4, h6⟩
  rw [hF, hG _ _ ha.2.1 hb.2.1]
  unfold sumF
  rw [e0]
  have ha2 := ha.2.2
  have hb2 := hb.2.2
  simp only [Option.bind_some]
  rw [e1, e2]
  rw [if_neg (by omega), w64 (n := y) (by omega) (by omega), w64 (n := x) (by omega) (by omega), w64 (n := a.1 * y) (by omega) (by omega), w64 (n := b.1 * x) (by omega) (by omega), w64 (n := a.1 * y + b.1 * x) (by omega) (by omega), w64 (n := x * b.2) (by omega) (by omega), hM _ _ (by omega) (by omega) (by omega) (by omega)]
  rfl
/-- What a sum is worth. -/
theorem sumF_all {a b : Int × Int} (ha : FB a) (hb : FB b) : Can (sumF a b) ∧ (sumF a b).1 * (a.2 * b.2) = (a.1 * b.2 + b.1 * a.2) * (sumF a b).2 ∧ (sumF a b).2 ≤ 4000000 ∧ (0 ≤ a.1 * b.2 + b.1 * a.2 → 0 ≤ (sumF a b).1 ∧ (sumF a b).1 ≤ 16000000000) := by
  obtain ⟨g, x, y, e0, e1, e2, h0, h1, h2, h3, h4, h5, h6⟩ := gcd_parts a.2 b.2 ha.2.1 hb.2.1
  obtain ⟨b1, b2, b3, b4⟩ := sum_bd ha hb ⟨h3, h5⟩ ⟨h4, h6⟩
  unfold sumF
  rw [e0, e1, e2]
  obtain ⟨c1, c2, c3, c4, _⟩ := frP_all (a.1 * y + b.1 * x) (x * b.2) (by omega) (by omega) (by omega) (by omega)
  have en : a.1 * b.2 + b.1 * a.2 = g * (a.1 * y + b.1 * x) := by rw [h2]; rw (occs := .pos [1]) [h1]; grind
  have ed : a.2 * b.2 = g * (x * b.2) := by rw (occs := .pos [1]) [h1]; grind
  refine ⟨c1, ?_, by omega, fun h => ?_⟩
  · rw [en, ed]
    generalize frP (a.1 * y + b.1 * x) (x * b.2) = r at *
    generalize a.1 * y + b.1 * x = n at *
    generalize x * b.2 = d at *
    have : r.1 * (g * d) = g * (r.1 * d) := by grind
    rw [this, c2]; grind
  · have hn : 0 ≤ a.1 * y + b.1 * x := by
      rw [en] at h
      refine Int.not_lt.1 fun hlt => ?_
      have := Int.mul_pos h0 (show 0 < -(a.1 * y + b.1 * x) by omega)
      rw [Int.mul_neg] at this
      omega
    have := c4 hn
    omega
def R2 (x : Int) : Prop := 0 ≤ x ∧ x ≤ 2000
theorem R2.w {x y : Int} (hx : R2 x) (hy : R2 y) : wrap64 (x - y) = x - y := w64 (by unfold R2 at *; omega) (by unfold R2 at *; omega)
theorem R2.ww {a b c d e f g h : Int} (ha : R2 a) (hb : R2 b) (hc : R2 c) (hd : R2 d) (he : R2 e) (hf : R2 f) (hg : R2 g) (hh : R2 h) : wrap64 ((wrap64 ((wrap64 (a - b)) * (wrap64 (c - d)))) - (wrap64 ((wrap64 (e - f)) * (wrap64 (g - h))))) = (a - b) * (c - d) - (e - f) * (g - h) := by
  rw [ha.w hb, hc.w hd, he.w hf, hg.w hh]
  unfold R2 at *
  have h1 := mul_bd (a - b) (c - d) 2000 2000 (by omega) (by omega) (by omega) (by omega)
  have h2 := mul_bd (e - f) (g - h) 2000 2000 (by omega) (by omega) (by omega) (by omega)
  rw [w64 (n := (a - b) * (c - d)) (by omega) (by omega), w64 (n := (e - f) * (g - h)) (by omega) (by omega), w64 (by omega) (by omega)]
def crossZ (ax ay bx b_y cx cy : Int) : Int := (bx - ax) * (cy - ay) - (b_y - ay) * (cx - ax)
def inB (n a b : Int) : Bool := decide (a ≤ n) && decide (n ≤ b)
theorem inB_iff (n a b : Int) : inB n a b = true ↔ a ≤ n ∧ n ≤ b := by simp [inB]
theorem inB_no (n a b : Int) : inB n a b = false ↔ ¬ (a ≤ n ∧ n ≤ b) := by rw [← inB_iff]; simp
def betB (ax ay bx b_y px py : Int) : Bool := inB px (min ax bx) (max ax bx) && inB py (min ay b_y) (max ay b_y)
def onB (ax ay bx b_y px py : Int) : Bool := decide (crossZ ax ay bx b_y px py = 0) && betB ax ay bx b_y px py
def sidesB (a b c d e f g h : Int) : Bool := (decide (crossZ a b c d e f < 0) && decide (crossZ a b c d g h > 0)) || (decide (crossZ a b c d e f > 0) && decide (crossZ a b c d g h < 0))
def meetB (a b c d e f g h : Int) : Bool := onB a b c d e f || onB a b c d g h || onB e f g h a b || onB e f g h c d || (sidesB a b c d e f g h && sidesB e f g h a b c d)
theorem rdISpot (l : List S51) (i : Nat) (h : i < l.length) : rd_T51 l (i : Int) = l[i] := by simp [rd_T51, h]
/-- A loop from m to n that ends with 'no' at the first place that isn't as it should be. -/
theorem stepLoop {β : Type} (m n : Nat) (p : Nat → Bool) (g : Int → β) (no r : β) (h : ∀ k, m ≤ k → k < n → g (k : Int) = if p k = true then g ((k + 1 : Nat) : Int) else no) (he : ∀ k, n ≤ k → g (k : Int) = r) : g (m : Int) = if (List.range' m (n - m)).all p = true then r else no := by
  have key : ∀ (d i : Nat), n - i = d → m ≤ i → g (i : Int) = if (List.range' i (n - i)).all p = true then r else no := by
    intro d
    induction d with
    | zero =>
      intro i hd hi
      rw [hd, he i (by omega)]; rfl
    | succ d ih =>
      intro i hd hi
      rw [h i hi (by omega), ih (i + 1) (by omega) (by omega), show n - i = (n - (i + 1)) + 1 by omega, List.range'_succ, List.all_cons]
      by_cases hp : p i = true
      · rw [if_pos hp, hp, Bool.true_and]
      · rw [if_neg hp, if_neg (by simp [hp])]
  exact key _ m rfl (Nat.le_refl _)
/-- The x and the y of a sail's spot. -/
def sx (l : List S51) (i : Nat) : Int := (rd_T51 l (i : Int)).f0
def sy (l : List S51) (i : Nat) : Int := (rd_T51 l (i : Int)).f1
theorem sx_def (l : List S51) (i : Nat) : (rd_T51 l (i : Int)).f0 = sx l i := rfl
theorem sy_def (l : List S51) (i : Nat) : (rd_T51 l (i : Int)).f1 = sy l i := rfl
def spotIn (p : S51) : Bool := inB p.f0 0 2000 && inB p.f1 0 2000
theorem spots_R (l : List S51) (h : l.all spotIn = true) (i : Nat) (hi : i < l.length) : R2 (sx l i) ∧ R2 (sy l i) := by
  have := List.all_eq_true.1 h l[i] (List.getElem_mem hi)
  simp only [spotIn, Bool.and_eq_true, inB_iff] at this
  unfold sx sy
  rw [rdISpot l i hi]
  exact this
def crossAt (l : List S51) (i j k : Nat) : Int := crossZ (sx l i) (sy l i) (sx l j) (sy l j) (sx l k) (sy l k)
def meetAt (l : List S51) (i j h k : Nat) : Bool := meetB (sx l i) (sy l i) (sx l j) (sy l j) (sx l h) (sy l h) (sx l k) (sy l k)
theorem tmodN (i n : Nat) (h : i < 4611686018427387904) : Int.tmod (wrap64 ((i : Int) + 1)) (n : Int) = (((i + 1) % n : Nat) : Int) := by
  rw [w64 (by omega) (by omega), Int.tmod_eq_emod_of_nonneg (by omega)]; push_cast; rfl
theorem tmodN2 (i n : Nat) (h : i < 4611686018427387904) : Int.tmod (wrap64 ((i : Int) + 2)) (n : Int) = (((i + 2) % n : Nat) : Int) := by
  rw [w64 (by omega) (by omega), Int.tmod_eq_emod_of_nonneg (by omega)]; push_cast; rfl
/-- Twice a sail's area, as the machine sums it up. -/
def twZ (l : List S51) : Nat → Int
  | 0 => 0
  | i + 1 => wrap64 (twZ l i + wrap64 (wrap64 (sx l i * sy l ((i + 1) % l.length)) - wrap64 (sx l ((i + 1) % l.length) * sy l i)))
def pairsOk (l : List S51) (i : Nat) : Bool := (List.range' (i + 2) (l.length - (i + 2))).all fun k => !((decide (i > 0) || decide (k < l.length - 1)) && meetAt l i ((i + 1) % l.length) k ((k + 1) % l.length))
def sailB (l : List S51) : Bool := decide (3 ≤ l.length) && decide (l.length ≤ 8) && (l.all spotIn && ((List.range l.length).all (fun i => decide (crossAt l i ((i + 1) % l.length) ((i + 2) % l.length) ≠ 0) && pairsOk l i) && decide (twZ l l.length > 0)))
theorem sailB_len {l : List S51} (h : sailB l = true) : 3 ≤ l.length ∧ l.length ≤ 8 ∧ l.all spotIn = true := by
  simp only [sailB, Bool.and_eq_true, decide_eq_true_eq] at h
  exact ⟨h.1.1, h.1.2, h.2.1⟩
/-- The least and the greatest y of the first i spots. -/
def limZ (l : List S51) : Nat → Int × Int
  | 0 => (sy l 0, sy l 0)
  | i + 1 => (min (limZ l i).1 (sy l i), max (limZ l i).2 (sy l i))
def loZ (l : List S51) : Int := (limZ l l.length).1
def hiZ (l : List S51) : Int := (limZ l l.length).2
theorem limZ_R (l : List S51) (h3 : 0 < l.length) (ha : l.all spotIn = true) (i : Nat) (hi : i ≤ l.length) : R2 (limZ l i).1 ∧ R2 (limZ l i).2 ∧ (limZ l i).1 ≤ (limZ l i).2 := by
  have hR := spots_R l ha
  induction i with
  | zero => exact ⟨(hR 0 h3).2, (hR 0 h3).2, Int.le_refl _⟩
  | succ i ih =>
    have h1 := ih (by omega)
    have h2 := (hR i (by omega)).2
    show R2 (min _ _) ∧ R2 (max _ _) ∧ min _ _ ≤ max _ _
    unfold R2 at *
    omega
theorem lohi (l : List S51) (hs : sailB l = true) : R2 (loZ l) ∧ R2 (hiZ l) ∧ loZ l ≤ hiZ l := by
  obtain ⟨h3, h8, ha⟩ := sailB_len hs
  exact limZ_R l (by omega) ha l.length (Nat.le_refl _)
theorem can_one (x : Int) : Can (x, 1) := ⟨show (0 : Int) < 1 by decide, by simp⟩
/-- There is one fraction in lowest terms of a worth. -/
theorem frP_uniq {q : Int × Int} {a b : Int} (ha : -9223372036854775807 ≤ a) (ha2 : a ≤ 9223372036854775807) (hb : 0 < b) (hb2 : b ≤ 9223372036854775807) (hq : Can q) (h : q.1 * b = a * q.2) : q = frP a b := by
  obtain ⟨c1, c2, _⟩ := frP_all a b ha ha2 hb hb2
  refine can_eq hq c1 (Int.eq_of_mul_eq_mul_right (a := b) (by omega) ?_)
  generalize frP a b = r at *
  have e1 : q.1 * r.2 * b = q.1 * b * r.2 := by grind
  have e2 : r.1 * q.2 * b = r.1 * b * q.2 := by grind
  rw [e1, e2, h, c2]; grind
theorem frP_one (x : Int) (h1 : -9223372036854775807 ≤ x) (h2 : x ≤ 9223372036854775807) : frP x 1 = (x, 1) := (frP_uniq h1 h2 (by decide) (by decide) (can_one x) (by simp)).symm
abbrev nx (l : List S51) (i : Nat) : Nat := (i + 1) % l.length
/-- Where an edge is at a height. -/
def cutN (l : List S51) (y : Int) (i : Nat) : Int := if sy l (nx l i) - sy l i < 0 then -(sx l i * (sy l (nx l i) - y) + sx l (nx l i) * (y - sy l i)) else sx l i * (sy l (nx l i) - y) + sx l (nx l i) * (y - sy l i)
def cutD (l : List S51) (i : Nat) : Int := if sy l (nx l i) - sy l i < 0 then -(sy l (nx l i) - sy l i) else sy l (nx l i) - sy l i
def cutF (l : List S51) (y : Int) (i : Nat) : Int × Int := frP (cutN l y i) (cutD l i)
/-- A fraction that comes up at a height. -/
def FG (q : Int × Int) : Prop := Can q ∧ 0 ≤ q.1 ∧ q.1 ≤ 2000 * q.2 ∧ q.2 ≤ 2000
theorem FG.fb {q : Int × Int} (h : FG q) : FB q := by obtain ⟨h1, h2, h3, h4⟩ := h; have := h1.1; unfold FB; omega
theorem FG_one {x : Int} (h : R2 x) : FG (x, 1) := ⟨can_one x, h.1, by have := h.2; show x ≤ 2000 * 1; omega, show (1 : Int) ≤ 2000 by decide⟩
def inE (l : List S51) (y : Int) (i : Nat) : Bool := inB y (min (sy l i) (sy l (nx l i))) (max (sy l i) (sy l (nx l i)))
theorem cut_uv (l : List S51) (y : Int) (i : Nat) (hr : inE l y i = true) (hne : sy l i ≠ sy l (nx l i)) : ∃ u v, 0 ≤ u ∧ 0 ≤ v ∧ cutD l i = u + v ∧ cutN l y i = sx l i * u + sx l (nx l i) * v ∧ 0 < u + v ∧ (y = sy l i → v = 0) ∧ (y = sy l (nx l i) → u = 0) := by
  unfold inE at hr
  rw [inB_iff] at hr
  unfold cutD cutN
  generalize sy l i = p at *
  generalize sy l (nx l i) = q at *
  by_cases h : q - p < 0
  · rw [if_pos h, if_pos h]
    exact ⟨y - q, p - y, by omega, by omega, by omega, by grind, by omega, by omega, by omega⟩
  · rw [if_neg h, if_neg h]
    exact ⟨q - y, y - p, by omega, by omega, by omega, rfl, by omega, by omega, by omega⟩
theorem cut_bd (l : List S51) (ha : l.all spotIn = true) (y : Int) (i : Nat) (hi : i < l.length) (hr : inE l y i = true) (hne : sy l i ≠ sy l (nx l i)) : (0 < cutD l i ∧ cutD l i ≤ 2000) ∧ 0 ≤ cutN l y i ∧ cutN l y i ≤ 2000 * cutD l i := by
  have hR := spots_R l ha
  have hm : nx l i < l.length := Nat.mod_lt _ (by omega)
  obtain ⟨u, v, h1, h2, h3, h4, h5, _⟩ := cut_uv l y i hr hne
  have hD : cutD l i ≤ 2000 := by
    have r1 := (hR i hi).2
    have r2 := (hR _ hm).2
    unfold cutD R2 at *
    split <;> omega
  refine ⟨⟨by omega, hD⟩, ?_⟩
  have r1 := (hR i hi).1
  have r2 := (hR _ hm).1
  rw [h3, h4]
  have a1 := Int.mul_nonneg r1.1 h1
  have a2 := Int.mul_nonneg r2.1 h2
  have a3 := Int.mul_le_mul_of_nonneg_right r1.2 h1
  have a4 := Int.mul_le_mul_of_nonneg_right r2.2 h2
  omega
theorem cut_all (l : List S51) (ha : l.all spotIn = true) (y : Int) (i : Nat) (hi : i < l.length) (hr : inE l y i = true) (hne : sy l i ≠ sy l (nx l i)) : FG (cutF l y i) ∧ (y = sy l i → cutF l y i = (sx l i, 1)) ∧ (y = sy l (nx l i) → cutF l y i = (sx l (nx l i), 1)) := by
  obtain ⟨b1, b2⟩ := cut_bd l ha y i hi hr hne
  obtain ⟨u, v, h1, h2, h3, h4, h5, h6, h7⟩ := cut_uv l y i hr hne
  obtain ⟨c1, c2, c3, c4, _⟩ := frP_all (cutN l y i) (cutD l i) (by omega) (by omega) (by omega) (by omega)
  refine ⟨⟨c1, (c4 b2.1).1, ?_, by unfold cutF; omega⟩, fun e => ?_, fun e => ?_⟩
  · refine Int.le_of_mul_le_mul_right (a := cutD l i) ?_ b1.1
    show (frP (cutN l y i) (cutD l i)).1 * cutD l i ≤ 2000 * (frP (cutN l y i) (cutD l i)).2 * cutD l i
    rw [c2]
    have := Int.mul_le_mul_of_nonneg_right b2.2 (show 0 ≤ (frP (cutN l y i) (cutD l i)).2 from Int.le_of_lt c1.1)
    have e : 2000 * (frP (cutN l y i) (cutD l i)).2 * cutD l i = 2000 * cutD l i * (frP (cutN l y i) (cutD l i)).2 := by grind
    omega
  · refine (frP_uniq (by omega) (by omega) (by omega) (by omega) (can_one _) ?_).symm
    show sx l i * cutD l i = cutN l y i * 1
    rw [h3, h4, h6 e]; grind
  · refine (frP_uniq (by omega) (by omega) (by omega) (by omega) (can_one _) ?_).symm
    show sx l (nx l i) * cutD l i = cutN l y i * 1
    rw [h3, h4, h7 e]; grind
/-- What the reference compares at an edge, and what the program keeps of it. -/
def hitS (l : List S51) (y : Int) (i : Nat) : List (Int × Int) := if inE l y i = true then (if sy l i = sy l (nx l i) then [(sx l i, 1), (sx l (nx l i), 1)] else [cutF l y i, cutF l y i]) else []
def crossB (l : List S51) (y : Int) (i : Nat) : Bool := (decide (sy l i < y) != decide (sy l (nx l i) < y)) && (decide (sy l i ≠ y) && decide (sy l (nx l i) ≠ y))
def hitI (l : List S51) (y : Int) (i : Nat) : List (Int × Int) := (if sy l i = y then [(sx l i, 1)] else []) ++ (if crossB l y i = true then [cutF l y i] else [])
def hits {α : Type} (h : Nat → List α) : Nat → List α
  | 0 => []
  | i + 1 => hits h i ++ h i
theorem mem_hits {α : Type} (h : Nat → List α) (q : α) (n : Nat) : q ∈ hits h n ↔ ∃ i, i < n ∧ q ∈ h i := by
  induction n with
  | zero => simp [hits]
  | succ n ih =>
    show q ∈ hits h n ++ h n ↔ _
    rw [List.mem_append, ih]
    constructor
    · rintro (⟨i, h1, h2⟩ | h1)
      · exact ⟨i, by omega, h2⟩
      · exact ⟨n, by omega, h1⟩
    · rintro ⟨i, h1, h2⟩
      by_cases e : i = n
      · subst e; exact Or.inr h2
      · exact Or.inl ⟨i, by omega, h2⟩
theorem crossB_iff (l : List S51) (y : Int) (i : Nat) : crossB l y i = true ↔ (sy l i < y ∧ y < sy l (nx l i)) ∨ (y < sy l i ∧ sy l (nx l i) < y) := by
  unfold crossB
  generalize sy l i = p
  generalize sy l (nx l i) = q
  by_cases h1 : p < y <;> by_cases h2 : q < y <;> simp [h1, h2] <;> omega
theorem cross_in {l : List S51} {y : Int} {i : Nat} (h : crossB l y i = true) : inE l y i = true ∧ sy l i ≠ sy l (nx l i) := by
  rw [crossB_iff] at h
  unfold inE
  rw [inB_iff]
  omega
theorem hitS_good (l : List S51) (ha : l.all spotIn = true) (y : Int) (i : Nat) (hi : i < l.length) : ∀ q ∈ hitS l y i, FG q := by
  have hR := spots_R l ha
  have hm : nx l i < l.length := Nat.mod_lt _ (by omega)
  intro q hq
  unfold hitS at hq
  by_cases h1 : inE l y i = true
  · rw [if_pos h1] at hq
    by_cases h2 : sy l i = sy l (nx l i)
    · rw [if_pos h2] at hq
      rcases List.mem_cons.1 hq with rfl | hq
      · exact FG_one (hR i hi).1
      · obtain rfl := List.mem_singleton.1 hq
        exact FG_one (hR _ hm).1
    · rw [if_neg h2] at hq
      have := (cut_all l ha y i hi h1 h2).1
      rcases List.mem_cons.1 hq with rfl | hq
      · exact this
      · obtain rfl := List.mem_singleton.1 hq
        exact this
  · rw [if_neg h1] at hq; cases hq
theorem hits_same (l : List S51) (ha : l.all spotIn = true) (y : Int) (q : Int × Int) : q ∈ hits (hitI l y) l.length ↔ q ∈ hits (hitS l y) l.length := by
  rw [mem_hits, mem_hits]
  have hI : ∀ i, sy l i = y → (sx l i, 1) ∈ hitI l y i := fun i h => by unfold hitI; rw [if_pos h]; simp
  constructor
  · rintro ⟨i, hi, h⟩
    refine ⟨i, hi, ?_⟩
    unfold hitI at h
    unfold hitS
    rcases List.mem_append.1 h with h | h
    · by_cases e : sy l i = y
      · rw [if_pos e] at h
        obtain rfl := List.mem_singleton.1 h
        have hr : inE l y i = true := by unfold inE; rw [inB_iff]; omega
        rw [if_pos hr]
        by_cases h2 : sy l i = sy l (nx l i)
        · rw [if_pos h2]; simp
        · rw [if_neg h2, (cut_all l ha y i hi hr h2).2.1 e.symm]; simp
      · rw [if_neg e] at h; cases h
    · by_cases e : crossB l y i = true
      · rw [if_pos e] at h
        obtain rfl := List.mem_singleton.1 h
        rw [if_pos (cross_in e).1, if_neg (cross_in e).2]; simp
      · rw [if_neg e] at h; cases h
  · rintro ⟨i, hi, h⟩
    have hm : nx l i < l.length := Nat.mod_lt _ (by omega)
    unfold hitS at h
    by_cases hr : inE l y i = true
    · rw [if_pos hr] at h
      by_cases h2 : sy l i = sy l (nx l i)
      · rw [if_pos h2] at h
        have e : sy l i = y := by unfold inE at hr; rw [inB_iff] at hr; omega
        rcases List.mem_cons.1 h with rfl | h
        · exact ⟨i, hi, hI i e⟩
        · obtain rfl := List.mem_singleton.1 h
          exact ⟨nx l i, hm, hI _ (h2.symm.trans e)⟩
      · rw [if_neg h2] at h
        have hq : q = cutF l y i := by
          rcases List.mem_cons.1 h with h | h
          · exact h
          · exact List.mem_singleton.1 h
        subst hq
        obtain ⟨_, c2, c3⟩ := cut_all l ha y i hi hr h2
        by_cases e1 : sy l i = y
        · rw [c2 e1.symm]; exact ⟨i, hi, hI i e1⟩
        · by_cases e2 : sy l (nx l i) = y
          · rw [c3 e2.symm]; exact ⟨nx l i, hm, hI _ e2⟩
          · refine ⟨i, hi, ?_⟩
            have : crossB l y i = true := by rw [crossB_iff]; unfold inE at hr; rw [inB_iff] at hr; omega
            unfold hitI
            rw [if_pos this]; simp
    · rw [if_neg hr] at h; cases h
theorem lim_at (l : List S51) (h0 : 0 < l.length) (n : Nat) (hn : n ≤ l.length) : (∃ j, j < l.length ∧ sy l j = (limZ l n).1) ∧ ∃ j, j < l.length ∧ sy l j = (limZ l n).2 := by
  induction n with
  | zero => exact ⟨⟨0, h0, rfl⟩, ⟨0, h0, rfl⟩⟩
  | succ n ih =>
    obtain ⟨⟨j, h1, h2⟩, k, h3, h4⟩ := ih (by omega)
    show (∃ j, j < l.length ∧ sy l j = min (limZ l n).1 (sy l n)) ∧ ∃ j, j < l.length ∧ sy l j = max (limZ l n).2 (sy l n)
    constructor
    · by_cases h : (limZ l n).1 ≤ sy l n
      · exact ⟨j, h1, by omega⟩
      · exact ⟨n, by omega, by omega⟩
    · by_cases h : (limZ l n).2 ≤ sy l n
      · exact ⟨n, by omega, by omega⟩
      · exact ⟨k, h3, by omega⟩
/-- A height between the limits meets the sail. -/
theorem hits_some (l : List S51) (h0 : 0 < l.length) (y : Int) (h1 : loZ l ≤ y) (h2 : y ≤ hiZ l) : ∃ q, q ∈ hits (hitI l y) l.length := by
  obtain ⟨⟨j, hj, ej⟩, k, hk, ek⟩ := lim_at l h0 l.length (Nat.le_refl _)
  refine Classical.byContradiction fun hno => ?_
  have hI : ∀ i, i < l.length → hitI l y i = [] := fun i hi => by
    refine List.eq_nil_iff_forall_not_mem.2 fun q hq => hno ⟨q, ?_⟩
    rw [mem_hits]; exact ⟨i, hi, hq⟩
  have hne : ∀ i, i < l.length → sy l i ≠ y ∧ ¬ crossB l y i = true := fun i hi => by
    have := hI i hi
    unfold hitI at this
    constructor
    · intro e; rw [if_pos e] at this; simp at this
    · intro e; rw [if_pos e] at this; simp at this
  have key : ∀ i, i < l.length → (sy l i < y ↔ sy l 0 < y) := by
    intro i
    induction i with
    | zero => intro _; exact Iff.rfl
    | succ i ih =>
      intro hi
      have a1 := ih (by omega)
      have a2 := hne i (by omega)
      have a3 := (hne (i + 1) hi).1
      rw [crossB_iff, show nx l i = i + 1 from Nat.mod_eq_of_lt hi] at a2
      omega
  have k1 := key j hj
  have k2 := key k hk
  have n1 := (hne j hj).1
  have n2 := (hne k hk).1
  change sy l j = loZ l at ej
  change sy l k = hiZ l at ek
  omega
def lowF (l : List S51) (y : Int) (n : Nat) : Int × Int := (hits (hitS l y) n).foldl pmin (2000, 1)
def highF (l : List S51) (y : Int) (n : Nat) : Int × Int := (hits (hitS l y) n).foldl pmax (0, 1)
def negF (q : Int × Int) : Int × Int := (-q.1, q.2)
/-- A sail's width at a height. -/
def widF (l : List S51) (y : Int) : Int × Int := sumF (highF l y l.length) (negF (lowF l y l.length))
theorem hits_good (l : List S51) (ha : l.all spotIn = true) (y : Int) (n : Nat) (hn : n ≤ l.length) : ∀ q ∈ hits (hitS l y) n, FG q := fun q hq => by
  rw [mem_hits] at hq
  obtain ⟨i, hi, h⟩ := hq
  exact hitS_good l ha y i (by omega) q h
theorem ends_good (l : List S51) (ha : l.all spotIn = true) (y : Int) (n : Nat) (hn : n ≤ l.length) : FG (lowF l y n) ∧ FG (highF l y n) :=
  ⟨fold_in pmin FG (fun _ _ => pmin_in FG) _ _ (FG_one ⟨by decide, by decide⟩) (hits_good l ha y n hn), fold_in pmax FG (fun _ _ => pmax_in FG) _ _ (FG_one ⟨by decide, by decide⟩) (hits_good l ha y n hn)⟩
theorem FG.neg {q : Int × Int} (h : FG q) : FB (negF q) := by have := h.fb; unfold FB negF at *; dsimp only; omega
def FWb (q : Int × Int) : Prop := (0 ≤ q.1 ∧ q.1 ≤ 16000000000) ∧ 0 < q.2 ∧ q.2 ≤ 4000000
theorem widF_all (l : List S51) (hs : sailB l = true) (y : Int) (h1 : loZ l ≤ y) (h2 : y ≤ hiZ l) : Can (widF l y) ∧ FWb (widF l y) := by
  obtain ⟨h3, h8, ha⟩ := sailB_len hs
  obtain ⟨q, hq⟩ := hits_some l (by omega) y h1 h2
  rw [hits_same l ha y q] at hq
  have g := ends_good l ha y l.length (Nat.le_refl _)
  have hG := hits_good l ha y l.length (Nat.le_refl _)
  have m1 := (fold_min (hits (hitS l y) l.length) (2000, 1) (by decide) (fun q hq => (hG q hq).1.1)).2.2 q hq
  have m2 := (fold_max (hits (hitS l y) l.length) (0, 1) (by decide) (fun q hq => (hG q hq).1.1)).2.2 q hq
  have m := leF_trans g.1.1.1 (hG q hq).1.1 g.2.1.1 m1 m2
  obtain ⟨c1, c2, c3, c4⟩ := sumF_all g.2.fb g.1.neg
  have := c4 (by unfold leF at m; unfold negF; dsimp only; rw [Int.neg_mul]; omega)
  exact ⟨c1, ⟨this, c1.1, c3⟩⟩
theorem spec_l00Min_val (a b : Int) : spec_l00Min.f a b = some (min a b) := by unfold spec_l00Min.f; rw [Int.min_def]; split <;> split <;> first | rfl | (congr 1; omega)
theorem spec_l00Max_val (a b : Int) : spec_l00Max.f a b = some (max a b) := by unfold spec_l00Max.f; rw [Int.max_def]; split <;> split <;> first | rfl | (congr 1; omega)
theorem spec_l00In_val (n a b : Int) : spec_l00In.f n a b = some (inB n a b) := by
  unfold spec_l00In.f inB
  by_cases h : n ≥ a
  · rw [if_pos h]; simp [show a ≤ n from h]
  · rw [if_neg h]; simp; omega
theorem spec_l01Make_val (a b : Int) (ha : -9223372036854775807 ≤ a) (ha2 : a ≤ 9223372036854775807) (hb : 0 < b) (hb2 : b ≤ 9223372036854775807) : spec_l01Make.F a b = some (fracN a b, fracD a b) := by
  rw [spec_l01Make.F_eq]
  have hs : spec_l00Size.f a = some ((a.natAbs : Nat) : Int) := by
    unfold spec_l00Size.f
    by_cases h : a < 0
    · rw [if_pos h, w64 (by omega) (by omega)]; congr 1; omega
    · rw [if_neg h]; congr 1; omega
  have hg := gcdLoop (fun x y => spec_l00Gcd.L0 x y) (fun x y => spec_l00Gcd.L0_eq x y) b.natAbs a.natAbs
  have hg2 : spec_l00Gcd.F ((a.natAbs : Nat) : Int) b = some (fgcd a b) := by
    rw [spec_l00Gcd.F_eq, show b = ((b.natAbs : Nat) : Int) by omega]
    exact hg
  have hp := fgcd_pos a b hb
  rw [hs]; simp only [Option.bind_some]
  rw [hg2]; simp only [Option.bind_some]
  rw [if_neg (by omega)]; rfl
theorem l00Gcd_val (a b : Int) (ha : 0 < a) (hb : 0 < b) : spec_l00Gcd.F a b = some (fgcd a b) := by
  have hg := gcdLoop (fun x y => spec_l00Gcd.L0 x y) (fun x y => spec_l00Gcd.L0_eq x y) b.natAbs a.natAbs
  rw [spec_l00Gcd.F_eq]
  refine Eq.trans ?_ hg
  show spec_l00Gcd.L0 a b = spec_l00Gcd.L0 _ _
  congr 1 <;> omega
theorem l13Sum_val {a b : Int × Int} (ha : FB a) (hb : FB b) : spec_l13Sum.F a.1 a.2 b.1 b.2 = some (sumF a b) :=
  sumF_val spec_l13Sum.F spec_l00Gcd.F spec_l01Make.F l00Gcd_val (fun a b h1 h2 h3 h4 => spec_l01Make_val a b h1 h2 h3 h4) spec_l13Sum.F_eq ha hb
theorem less_val {p q : Int × Int} (hp : FB p) (hq : FB q) : spec_l13Less.f p.1 p.2 q.1 q.2 = some (decide (p.1 * q.2 < q.1 * p.2)) := by
  unfold FB at *
  have h1 := mul_bd p.1 q.2 4000000 2000 (by omega) (by omega) (by omega) (by omega)
  have h2 := mul_bd q.1 p.2 4000000 2000 (by omega) (by omega) (by omega) (by omega)
  unfold spec_l13Less.f
  rw [w64 (n := p.1 * q.2) (by omega) (by omega), w64 (n := q.1 * p.2) (by omega) (by omega)]
theorem l13At_val (l : List S51) (ha : l.all spotIn = true) (y : Int) (i : Nat) (hi : i < l.length) (hr : inE l y i = true) (hne : sy l i ≠ sy l (nx l i)) : spec_l13At.F (sx l i) (sy l i) (sx l (nx l i)) (sy l (nx l i)) y = some (cutF l y i) := by
  have hR := spots_R l ha
  have hm : nx l i < l.length := Nat.mod_lt _ (by omega)
  have hb := cut_bd l ha y i hi hr hne
  have r1 := hR i hi
  have r2 := hR _ hm
  have hy : R2 y := by unfold inE at hr; rw [inB_iff] at hr; unfold R2 at *; omega
  have m1 := mul_bd (sx l i) (sy l (nx l i) - y) 2000 2000 (by unfold R2 at *; omega) (by unfold R2 at *; omega) (by unfold R2 at *; omega) (by unfold R2 at *; omega)
  have m2 := mul_bd (sx l (nx l i)) (y - sy l i) 2000 2000 (by unfold R2 at *; omega) (by unfold R2 at *; omega) (by unfold R2 at *; omega) (by unfold R2 at *; omega)
  rw [spec_l13At.F_eq, R2.w r2.2 r1.2, R2.w r2.2 hy, R2.w hy r1.2, w64 (n := sx l i * (sy l (nx l i) - y)) (by omega) (by omega), w64 (n := sx l (nx l i) * (y - sy l i)) (by omega) (by omega), w64 (n := sx l i * (sy l (nx l i) - y) + sx l (nx l i) * (y - sy l i)) (by omega) (by omega)]
  unfold cutF
  unfold cutN cutD at *
  by_cases h : sy l (nx l i) - sy l i < 0
  · rw [if_pos h] at hb ⊢
    rw [if_pos h] at hb
    rw [if_pos h, if_pos h, w64 (n := -(sy l (nx l i) - sy l i)) (by omega) (by omega), w64 (n := -(sx l i * (sy l (nx l i) - y) + sx l (nx l i) * (y - sy l i))) (by omega) (by omega), spec_l01Make_val _ _ (by omega) (by omega) (by omega) (by omega)]
    rfl
  · rw [if_neg h] at hb ⊢
    rw [if_neg h] at hb
    rw [if_neg h, if_neg h, spec_l01Make_val _ _ (by omega) (by omega) (by omega) (by omega)]
    rfl
theorem l13Width_step (l : List S51) (y n i : Int) {a b p q : Int × Int} (ha : FB a) (hb : FB b) (hp : FB p) (hq : FB q) : spec_l13Width.J1 l y n i a.1 a.2 b.1 b.2 p.1 p.2 q.1 q.2 = spec_l13Width.L0 l y n (wrap64 (i + 1)) (pmin (pmin a p) q).1 (pmin (pmin a p) q).2 (pmax (pmax b p) q).1 (pmax (pmax b p) q).2 := by
  have e1 : spec_l13Width.J1 l y n i a.1 a.2 b.1 b.2 p.1 p.2 q.1 q.2 = spec_l13Width.J2 l y n i (pmin a p).1 (pmin a p).2 b.1 b.2 p.1 p.2 q.1 q.2 := by
    rw [spec_l13Width.J1_eq, less_val hp ha]
    simp only [Option.bind_some, decide_eq_true_eq]
    unfold pmin
    by_cases h : p.1 * a.2 < a.1 * p.2
    · rw [if_pos h, if_pos h]
    · rw [if_neg h, if_neg h]
  have hap : FB (pmin a p) := pmin_in FB ha hp
  have e2 : spec_l13Width.J2 l y n i (pmin a p).1 (pmin a p).2 b.1 b.2 p.1 p.2 q.1 q.2 = spec_l13Width.J3 l y n i (pmin (pmin a p) q).1 (pmin (pmin a p) q).2 b.1 b.2 p.1 p.2 q.1 q.2 := by
    generalize pmin a p = c at *
    rw [spec_l13Width.J2_eq, less_val hq hap]
    simp only [Option.bind_some, decide_eq_true_eq]
    unfold pmin
    by_cases h : q.1 * c.2 < c.1 * q.2
    · rw [if_pos h, if_pos h]
    · rw [if_neg h, if_neg h]
  rw [e1, e2]
  generalize pmin (pmin a p) q = c
  rw [spec_l13Width.J3_eq, less_val hb hp, less_val hb hq, less_val hp hq]
  simp only [Option.bind_some, decide_eq_true_eq]
  unfold pmax
  by_cases h : b.1 * p.2 < p.1 * b.2
  · rw [if_pos h, if_pos h]
    by_cases h2 : p.1 * q.2 < q.1 * p.2
    · rw [if_pos h2, if_pos h2]
    · rw [if_neg h2, if_neg h2]
  · rw [if_neg h, if_neg h]
    by_cases h2 : b.1 * q.2 < q.1 * b.2
    · rw [if_pos h2, if_pos h2]
    · rw [if_neg h2, if_neg h2]
theorem spec_l13Width_val (l : List S51) (hs : sailB l = true) (y : Int) : spec_l13Width.F l y = some (widF l y) := by
  obtain ⟨h3, h8, ha⟩ := sailB_len hs
  have hR := spots_R l ha
  rw [spec_l13Width.F_eq]
  have := iterF (fun (s : (Int × Int) × (Int × Int)) i => spec_l13Width.L0 l y (l.length : Int) i s.1.1 s.1.2 s.2.1 s.2.2) l.length (fun i => (lowF l y i, highF l y i)) (fun i hi => by
    show spec_l13Width.L0 l y (l.length : Int) (i : Int) (lowF l y i).1 (lowF l y i).2 (highF l y i).1 (highF l y i).2 = spec_l13Width.L0 l y (l.length : Int) ((i + 1 : Nat) : Int) (lowF l y (i + 1)).1 (lowF l y (i + 1)).2 (highF l y (i + 1)).1 (highF l y (i + 1)).2
    have hm : nx l i < l.length := Nat.mod_lt _ (by omega)
    have g := ends_good l ha y i (by omega)
    have eL : lowF l y (i + 1) = (hitS l y i).foldl pmin (lowF l y i) := by unfold lowF; show List.foldl _ _ (hits _ i ++ hitS l y i) = _; rw [List.foldl_append]
    have eH : highF l y (i + 1) = (hitS l y i).foldl pmax (highF l y i) := by unfold highF; show List.foldl _ _ (hits _ i ++ hitS l y i) = _; rw [List.foldl_append]
    have hw : wrap64 ((i : Int) + 1) = ((i + 1 : Nat) : Int) := wS (by omega)
    have hm2 : (i + 1) % l.length < l.length := hm
    rw [spec_l13Width.L0_eq, if_pos (by omega), if_pos (by omega), if_pos (by omega), if_neg (by omega), tmodN i l.length (by omega), if_pos (by omega), if_pos (by omega)]
    simp only [sx_def, sy_def, spec_l00Min_val, spec_l00Max_val, spec_l00In_val, Option.bind_some]
    show (if inE l y i = true then _ else _) = _
    rw [eL, eH]
    unfold hitS
    by_cases hr : inE l y i = true
    · rw [if_pos hr, if_pos hr]
      change (if sy l i = sy l (nx l i) then spec_l13Width.J1 l y _ _ _ _ _ _ (sx l i) 1 (sx l (nx l i)) 1 else (spec_l13At.F (sx l i) (sy l i) (sx l (nx l i)) (sy l (nx l i)) y).bind _) = _
      by_cases h2 : sy l i = sy l (nx l i)
      · rw [if_pos h2, if_pos h2]
        exact (l13Width_step l y (l.length : Int) (i : Int) (p := (sx l i, 1)) (q := (sx l (nx l i), 1)) g.1.fb g.2.fb (FG_one (hR i hi).1).fb (FG_one (hR _ hm).1).fb).trans (by rw [hw]; rfl)
      · rw [if_neg h2, if_neg h2]
        rw [l13At_val l ha y i hi hr h2]
        simp only [Option.bind_some]
        have hc := (cut_all l ha y i hi hr h2).1.fb
        exact (l13Width_step l y (l.length : Int) (i : Int) g.1.fb g.2.fb hc hc).trans (by rw [hw]; rfl)
    · rw [if_neg hr, if_neg hr, hw]; rfl)
  refine Eq.trans this ?_
  show spec_l13Width.L0 l y (l.length : Int) (l.length : Int) (lowF l y l.length).1 (lowF l y l.length).2 (highF l y l.length).1 (highF l y l.length).2 = _
  have g := ends_good l ha y l.length (Nat.le_refl _)
  have hb := g.1.fb
  rw [spec_l13Width.L0_eq, if_neg (by omega), w64 (n := -(lowF l y l.length).1) (by unfold FB at hb; omega) (by unfold FB at hb; omega)]
  have e : spec_l13Sum.F (highF l y l.length).1 (highF l y l.length).2 (-(lowF l y l.length).1) (lowF l y l.length).2 = some (widF l y) := l13Sum_val g.2.fb g.1.neg
  rw [e]; rfl
/-- How many panels' heads lie below hi. -/
def manyN (lo hi each : Int) : Nat := ((hi - lo + each - 1) / each).toNat
def edgesF (lo hi each : Int) : List Int := ((List.range (manyN lo hi each)).map fun (i : Nat) => lo + (i : Int) * each) ++ [hi]
theorem many_bd {lo hi each : Int} (h1 : R2 lo) (h2 : R2 hi) (h3 : lo ≤ hi) (h4 : 1 ≤ each) (h5 : each ≤ 200) : ((hi - lo + each - 1) / each) = (manyN lo hi each : Int) ∧ manyN lo hi each ≤ 2200 := by
  have hn : 0 ≤ (hi - lo + each - 1) / each := Int.ediv_nonneg (by omega) (by omega)
  have hle : (hi - lo + each - 1) / each ≤ hi - lo + each - 1 := Int.ediv_le_self _ (by omega)
  unfold manyN R2 at *
  omega
theorem many_lt {lo hi each : Int} (h3 : lo ≤ hi) (h4 : 1 ≤ each) (i : Nat) : lo + (i : Int) * each < hi ↔ i < manyN lo hi each := by
  have hn : 0 ≤ (hi - lo + each - 1) / each := Int.ediv_nonneg (by omega) (by omega)
  have h0 : ((manyN lo hi each : Nat) : Int) = (hi - lo + each - 1) / each := Int.toNat_of_nonneg hn
  have key : ((i : Int) + 1 ≤ (hi - lo + each - 1) / each) ↔ ((i : Int) + 1) * each ≤ hi - lo + each - 1 := Int.le_ediv_iff_mul_le (by omega)
  have e : ((i : Int) + 1) * each = (i : Int) * each + each := by grind
  rw [e] at key
  generalize (i : Int) * each = z at *
  omega
theorem edges_loop (L : Int → List Int → Int → Option (List Int)) (lo hi each : Int) (h1 : R2 lo) (h2 : R2 hi) (h3 : lo ≤ hi) (h4 : 1 ≤ each) (h5 : each ≤ 200)
    (hL : ∀ x7 x8, L hi x7 x8 = if x8 < hi then (if x7.length < 17592186044416 then L hi (x7 ++ [x8]) (wrap64 (x8 + each)) else none) else (if x7.length < 17592186044416 then some (x7 ++ [hi]) else none)) :
    L hi [] lo = some (edgesF lo hi each) := by
  have hb := (many_bd h1 h2 h3 h4 h5).2
  have := iterF (fun (s : List Int) i => L hi s (lo + i * each)) (manyN lo hi each) (fun k => (List.range k).map fun (i : Nat) => lo + (i : Int) * each) (fun i hi' => by
    show L hi _ _ = L hi _ _
    have hlt := (many_lt h3 h4 i).2 hi'
    have hlen : ((List.range i).map fun (i : Nat) => lo + (i : Int) * each).length = i := by simp
    have hz : 0 ≤ (i : Int) * each := Int.mul_nonneg (by omega) (by omega)
    rw [hL, if_pos hlt, if_pos (by rw [hlen]; omega), List.range_succ, List.map_append, List.map_cons, List.map_nil]
    have e : ((i + 1 : Nat) : Int) * each = (i : Int) * each + each := by push_cast; grind
    rw [e]
    generalize (i : Int) * each = z at *
    unfold R2 at *
    rw [w64 (by omega) (by omega), Int.add_assoc])
  simp only [Int.zero_mul, Int.add_zero, List.range_zero, List.map_nil] at this
  refine this.trans ?_
  rw [hL, if_neg (by rw [many_lt h3 h4]; omega), if_pos (by simp; omega)]
  rfl
theorem edges_len (lo hi each : Int) : (edgesF lo hi each).length = manyN lo hi each + 1 := by simp [edgesF]
/-- The widths at which the reference looks between two heights. -/
def midS (l : List S51) (p q : Int) (i : Nat) : List (Int × Int) := if sy l i > p ∧ sy l i < q then [widF l (sy l i)] else []
def reachS (l : List S51) (p q : Int) (n : Nat) : Int × Int := (hits (midS l p q) n).foldl pmax (pmax (widF l p) (widF l q))
def ceilZ (q : Int × Int) : Int := wrap64 (Int.tdiv (wrap64 ((wrap64 (q.1 + q.2)) - 1)) q.2)
theorem ceilZ_bd {q : Int × Int} (h : FWb q) : 0 ≤ ceilZ q ∧ ceilZ q ≤ 20000000000 := by
  unfold FWb at h
  unfold ceilZ
  rw [w64 (n := q.1 + q.2) (by omega) (by omega), w64 (n := q.1 + q.2 - 1) (by omega) (by omega)]
  have h1 : 0 ≤ Int.tdiv (q.1 + q.2 - 1) q.2 := Int.tdiv_nonneg (by omega) (by omega)
  have h2 : (Int.tdiv (q.1 + q.2 - 1) q.2).natAbs ≤ (q.1 + q.2 - 1).natAbs := by rw [Int.natAbs_tdiv]; exact Nat.div_le_self _ _
  rw [w64 (by omega) (by omega)]
  omega
def WG (q : Int × Int) : Prop := Can q ∧ FWb q
theorem sy_lohi (l : List S51) (h0 : 0 < l.length) (i : Nat) (hi : i < l.length) : loZ l ≤ sy l i ∧ sy l i ≤ hiZ l := by
  have key : ∀ n, i < n → n ≤ l.length → (limZ l n).1 ≤ sy l i ∧ sy l i ≤ (limZ l n).2 := by
    intro n
    induction n with
    | zero => intro h; omega
    | succ n ih =>
      intro h1 h2
      show min (limZ l n).1 (sy l n) ≤ sy l i ∧ sy l i ≤ max (limZ l n).2 (sy l n)
      by_cases e : i = n
      · subst e; omega
      · have := ih (by omega) (by omega)
        omega
  exact key l.length hi (Nat.le_refl _)
theorem mid_good (l : List S51) (hs : sailB l = true) (p q : Int) (n : Nat) (hn : n ≤ l.length) : ∀ z ∈ hits (midS l p q) n, WG z := fun z hz => by
  obtain ⟨h3, h8, ha⟩ := sailB_len hs
  rw [mem_hits] at hz
  obtain ⟨i, hi, h⟩ := hz
  unfold midS at h
  split at h
  · obtain rfl := List.mem_singleton.1 h
    have := sy_lohi l (by omega) i (by omega)
    exact widF_all l hs _ this.1 this.2
  · cases h
def inL (l : List S51) (y : Int) : Prop := loZ l ≤ y ∧ y ≤ hiZ l
theorem reachS_good (l : List S51) (hs : sailB l = true) (p q : Int) (hp : inL l p) (hq : inL l q) (n : Nat) (hn : n ≤ l.length) : WG (reachS l p q n) :=
  fold_in pmax WG (fun _ _ => pmax_in WG) _ _ (pmax_in WG (widF_all l hs p hp.1 hp.2) (widF_all l hs q hq.1 hq.2)) (mid_good l hs p q n hn)
theorem lessW_val {p q : Int × Int} (hp : FWb p) (hq : FWb q) : spec_l13Less.f p.1 p.2 q.1 q.2 = some (decide (p.1 * q.2 < q.1 * p.2)) := by
  unfold FWb at *
  have h1 := mul_bd p.1 q.2 16000000000 4000000 (by omega) (by omega) (by omega) (by omega)
  have h2 := mul_bd q.1 p.2 16000000000 4000000 (by omega) (by omega) (by omega) (by omega)
  unfold spec_l13Less.f
  rw [w64 (n := p.1 * q.2) (by omega) (by omega), w64 (n := q.1 * p.2) (by omega) (by omega)]
theorem spec_l15Reach_val (l : List S51) (hs : sailB l = true) (p q : Int) (hp : inL l p) (hq : inL l q) : spec_l15Reach.F l p q = some (ceilZ (reachS l p q l.length)) := by
  obtain ⟨h3, h8, ha⟩ := sailB_len hs
  have gp := widF_all l hs p hp.1 hp.2
  have gq := widF_all l hs q hq.1 hq.2
  rw [spec_l15Reach.F_eq, spec_l13Width_val l hs p, spec_l13Width_val l hs q]
  simp only [Option.bind_some]
  rw [lessW_val gp.2 gq.2]
  simp only [Option.bind_some, decide_eq_true_eq, spec_l15Reach.J0_eq]
  have := iterF (fun (s : Int × Int) i => spec_l15Reach.L0 l p q i s.1 s.2) l.length (reachS l p q) (fun i hi => by
    show spec_l15Reach.L0 l p q (i : Int) (reachS l p q i).1 (reachS l p q i).2 = spec_l15Reach.L0 l p q ((i + 1 : Nat) : Int) (reachS l p q (i + 1)).1 (reachS l p q (i + 1)).2
    have hw : wrap64 ((i : Int) + 1) = ((i + 1 : Nat) : Int) := wS (by omega)
    have eR : reachS l p q (i + 1) = (midS l p q i).foldl pmax (reachS l p q i) := by unfold reachS; show List.foldl _ _ (hits _ i ++ midS l p q i) = _; rw [List.foldl_append]
    have g := reachS_good l hs p q hp hq i (by omega)
    rw [spec_l15Reach.L0_eq, if_pos (by omega), if_pos (by omega), eR]
    change (if sy l i > p then spec_l15Reach.J2 l p q _ (decide (sy l i < q)) _ _ else spec_l15Reach.J2 l p q _ false _ _) = _
    unfold midS
    by_cases h1 : sy l i > p
    · rw [if_pos h1]
      by_cases h2 : sy l i < q
      · have hy := sy_lohi l (by omega) i hi
        have gy := widF_all l hs _ hy.1 hy.2
        rw [decide_eq_true h2, if_pos ⟨h1, h2⟩, spec_l15Reach.J2_eq, if_pos rfl, if_pos (by omega), if_pos (by omega)]
        simp only [sy_def]
        rw [spec_l13Width_val l hs]
        simp only [Option.bind_some]
        rw [lessW_val g.2 gy.2]
        simp only [Option.bind_some, decide_eq_true_eq]
        show _ = spec_l15Reach.L0 l p q _ (pmax _ _).1 (pmax _ _).2
        unfold pmax
        by_cases h3 : (reachS l p q i).1 * (widF l (sy l i)).2 < (widF l (sy l i)).1 * (reachS l p q i).2
        · rw [if_pos h3, if_pos h3, hw]
        · rw [if_neg h3, if_neg h3, hw]
      · rw [decide_eq_false h2, if_neg (fun h => h2 h.2), spec_l15Reach.J2_eq, if_neg (by decide), hw]
        rfl
    · rw [if_neg h1, if_neg (fun h => h1 h.1), spec_l15Reach.J2_eq, if_neg (by decide), hw]
      rfl)
  have e0 : reachS l p q 0 = if (widF l p).1 * (widF l q).2 < (widF l q).1 * (widF l p).2 then widF l q else widF l p := rfl
  have e1 : spec_l15Reach.L0 l p q 0 (reachS l p q 0).1 (reachS l p q 0).2 = if (widF l p).1 * (widF l q).2 < (widF l q).1 * (widF l p).2 then spec_l15Reach.L0 l p q 0 (widF l q).1 (widF l q).2 else spec_l15Reach.L0 l p q 0 (widF l p).1 (widF l p).2 := by rw [e0]; split <;> rfl
  rw [← e1]
  refine Eq.trans this ?_
  show spec_l15Reach.L0 l p q (l.length : Int) (reachS l p q l.length).1 (reachS l p q l.length).2 = _
  have g := (reachS_good l hs p q hp hq l.length (Nat.le_refl _)).1.1
  rw [spec_l15Reach.L0_eq, if_neg (by omega), if_neg (by omega)]
  rfl
theorem spec_l13Limits_val (l : List S51) (h0 : 0 < l.length) (hl : l.length < 4611686018427387904) : spec_l13Limits.F l = some (loZ l, hiZ l) := by
  rw [spec_l13Limits.F_eq, if_pos (by omega)]
  have hst : ∀ i s t, i < l.length → spec_l13Limits.L0 l s t (i : Int) = spec_l13Limits.L0 l (min s (sy l i)) (max t (sy l i)) ((i + 1 : Nat) : Int) := fun i s t hi => by
    rw [spec_l13Limits.L0_eq, if_pos (by omega), if_pos (by omega), wS (by omega)]
    simp only [spec_l00Min_val, spec_l00Max_val, Option.bind_some]
    rfl
  have e1 : spec_l13Limits.L0 l (sy l 0) (sy l 0) 1 = spec_l13Limits.L0 l (sy l 0) (sy l 0) 0 := by
    have := hst 0 (sy l 0) (sy l 0) h0
    rw [Int.min_self, Int.max_self] at this
    exact this.symm
  have := iterF (fun (s : Int × Int) i => spec_l13Limits.L0 l s.1 s.2 i) l.length (limZ l) (fun i hi => hst i _ _ hi)
  refine Eq.trans e1 (Eq.trans this ?_)
  show spec_l13Limits.L0 l _ _ _ = _
  rw [spec_l13Limits.L0_eq, if_neg (by omega)]
  rfl
def weaveB (a b c : Int) : Bool := inB a 2 200 && inB b 0 20 && decide (b < a) && inB c 0 100
theorem weaveB_iff {a b c : Int} : weaveB a b c = true ↔ (2 ≤ a ∧ a ≤ 200) ∧ (0 ≤ b ∧ b ≤ 20) ∧ b < a ∧ (0 ≤ c ∧ c ≤ 100) := by
  simp only [weaveB, Bool.and_eq_true, inB_iff, decide_eq_true_eq, and_assoc]
theorem spec_l15Edges_val (l : List S51) (a b c : Int) (hs : sailB l = true) (hw : weaveB a b c = true) : spec_l15Edges.F l a b c = some (edgesF (loZ l) (hiZ l) (a - b)) := by
  have h := sailB_len hs
  obtain ⟨r1, r2, r3⟩ := lohi l hs
  have hw := weaveB_iff.1 hw
  rw [spec_l15Edges.F_eq, spec_l13Limits_val l (by omega) (by omega)]
  simp only [Option.bind_some]
  refine edges_loop (fun x6 x7 x8 => spec_l15Edges.L0 x6 x7 x8 a b c) _ _ _ r1 r2 r3 (by omega) (by omega) (fun x7 x8 => ?_)
  show spec_l15Edges.L0 _ _ _ _ _ _ = _
  rw [spec_l15Edges.L0_eq, w64 (n := a - b) (by omega) (by omega)]
theorem edge_in (l : List S51) (a b c : Int) (hs : sailB l = true) (hw : weaveB a b c = true) (i : Nat) (hi : i < (edgesF (loZ l) (hiZ l) (a - b)).length) : inL l (rd (edgesF (loZ l) (hiZ l) (a - b)) (i : Int)) := by
  obtain ⟨r1, r2, r3⟩ := lohi l hs
  have hw := weaveB_iff.1 hw
  rw [rd_get _ i hi]
  have hm := List.getElem_mem hi
  generalize (edgesF (loZ l) (hiZ l) (a - b))[i] = z at hm
  unfold edgesF at hm
  rcases List.mem_append.1 hm with h | h
  · obtain ⟨k, hk, rfl⟩ := List.mem_map.1 h
    have := (many_lt (each := a - b) r3 (by omega) k).2 (List.mem_range.1 hk)
    have h0 := Int.mul_nonneg (show (0 : Int) ≤ (k : Int) by omega) (show 0 ≤ a - b by omega)
    unfold inL
    omega
  · obtain rfl := List.mem_singleton.1 h
    exact ⟨r3, Int.le_refl _⟩
/-- The first i panels. -/
def panF (l : List S51) (e : List Int) (a b c : Int) : Nat → List S60
  | 0 => []
  | i + 1 => panF l e a b c i ++ [⟨wrap64 (ceilZ (reachS l (rd e (i : Int)) (rd e ((i + 1 : Nat) : Int)) l.length) + wrap64 (2 * c)), min a (wrap64 (wrap64 (rd e ((i + 1 : Nat) : Int) - rd e (i : Int)) + b))⟩]
theorem panF_len (l : List S51) (e : List Int) (a b c : Int) (n : Nat) : (panF l e a b c n).length = n := by
  induction n with
  | zero => rfl
  | succ n ih => show (_ ++ [_]).length = _; rw [List.length_append, ih]; rfl
def panels (l : List S51) (a b c : Int) : List S60 := panF l (edgesF (loZ l) (hiZ l) (a - b)) a b c (manyN (loZ l) (hiZ l) (a - b))
theorem spec_l15Panels_val (l : List S51) (a b c : Int) (hs : sailB l = true) (hw : weaveB a b c = true) (hk : manyN (loZ l) (hiZ l) (a - b) ≤ 40) : spec_l15Panels.F l a b c = some (panels l a b c) := by
  have hE := edge_in l a b c hs hw
  have hL := edges_len (loZ l) (hiZ l) (a - b)
  rw [spec_l15Panels.F_eq, spec_l15Edges_val l a b c hs hw]
  simp only [Option.bind_some]
  unfold panels
  generalize edgesF (loZ l) (hiZ l) (a - b) = e at *
  generalize manyN (loZ l) (hiZ l) (a - b) = n at *
  have := iterF (fun (s : List S60) i => spec_l15Panels.L0 l e s (i + 1) a b c) n (panF l e a b c) (fun i hi => by
    show spec_l15Panels.L0 l e (panF l e a b c i) ((i : Int) + 1) a b c = spec_l15Panels.L0 l e (panF l e a b c (i + 1)) (((i + 1 : Nat) : Int) + 1) a b c
    have h1 := hE i (by omega)
    have h2 := hE (i + 1) (by omega)
    have hp := panF_len l e a b c i
    rw [spec_l15Panels.L0_eq, w64 (n := (i : Int) + 1 - 1) (by omega) (by omega), show (i : Int) + 1 - 1 = (i : Int) by omega, show (i : Int) + 1 = ((i + 1 : Nat) : Int) by omega, if_pos (by omega), if_pos (by omega), if_pos (by omega), if_pos (by omega), spec_l15Reach_val l hs _ _ h1 h2]
    simp only [Option.bind_some, spec_l00Min_val]
    rw [if_pos (by omega), wS (by omega)]
    rfl)
  refine Eq.trans this ?_
  show spec_l15Panels.L0 l e (panF l e a b c n) ((n : Int) + 1) a b c = _
  rw [spec_l15Panels.L0_eq, if_neg (by omega)]
theorem rdIPanel (l : List S60) (i : Nat) (h : i < l.length) : rd_T60 l (i : Int) = l[i] := by simp [rd_T60, h]
/-- The sum of lengths, as a machine has it. -/
def lenSum (l : List S60) (i : Nat) : Int := match i with
  | 0 => 0
  | i + 1 => wrap64 (lenSum l i + (rd_T60 l (i : Int)).f0)
theorem impl_clothLength_val (l : List S60) (hl : l.length < 4611686018427387904) : impl_clothLength.F l = some (lenSum l l.length) := by
  rw [impl_clothLength.F_eq]
  have := iterF (fun (s : Int) i => impl_clothLength.L0 s l (l.length : Int) i) l.length (lenSum l) (fun i hi => by
    show impl_clothLength.L0 _ _ _ _ = impl_clothLength.L0 _ _ _ _
    rw [impl_clothLength.L0_eq, if_pos (by omega), if_pos (by omega), if_pos (by omega), wS (by omega)]
    rfl)
  refine this.trans ?_
  show impl_clothLength.L0 _ _ _ _ = _
  rw [impl_clothLength.L0_eq, if_neg (by omega)]
theorem panF_bd (l : List S51) (a b c : Int) (hs : sailB l = true) (hw : weaveB a b c = true) (n : Nat) (hn : n ≤ manyN (loZ l) (hiZ l) (a - b)) : ∀ p ∈ panF l (edgesF (loZ l) (hiZ l) (a - b)) a b c n, 0 ≤ p.f0 ∧ p.f0 ≤ 20000000200 := by
  have hE := edge_in l a b c hs hw
  have hL := edges_len (loZ l) (hiZ l) (a - b)
  have hw := weaveB_iff.1 hw
  induction n with
  | zero => intro p hp; cases hp
  | succ n ih =>
    intro p hp
    rcases List.mem_append.1 hp with h | h
    · exact ih (by omega) p h
    · obtain rfl := List.mem_singleton.1 h
      have g := ceilZ_bd (reachS_good l hs _ _ (hE n (by omega)) (hE (n + 1) (by omega)) l.length (Nat.le_refl _)).2
      show 0 ≤ wrap64 (ceilZ _ + wrap64 (2 * c)) ∧ wrap64 (ceilZ _ + wrap64 (2 * c)) ≤ 20000000200
      rw [w64 (n := 2 * c) (by omega) (by omega), w64 (by omega) (by omega)]
      omega
/-- The plain sum of the first i lengths. -/
def sumP (l : List S60) : Nat → Int
  | 0 => 0
  | i + 1 => sumP l i + (rd_T60 l (i : Int)).f0
theorem sumP_bd (l : List S60) (hl : l.length ≤ 40) (hb : ∀ p ∈ l, 0 ≤ p.f0 ∧ p.f0 ≤ 20000000200) (i : Nat) (hi : i ≤ l.length) : (0 ≤ sumP l i ∧ sumP l i ≤ (i : Int) * 20000000200) ∧ lenSum l i = sumP l i := by
  induction i with
  | zero => exact ⟨⟨Int.le_refl _, by show (0 : Int) ≤ ((0 : Nat) : Int) * 20000000200; omega⟩, rfl⟩
  | succ i ih =>
    obtain ⟨h1, h2⟩ := ih (by omega)
    have h3 := hb l[i] (List.getElem_mem (by omega))
    have e : (rd_T60 l (i : Int)).f0 = l[i].f0 := by rw [rdIPanel l i (by omega)]
    have h4 : 0 ≤ sumP l i + (rd_T60 l (i : Int)).f0 ∧ sumP l i + (rd_T60 l (i : Int)).f0 ≤ ((i + 1 : Nat) : Int) * 20000000200 := by rw [e]; omega
    refine ⟨h4, ?_⟩
    show wrap64 (lenSum l i + _) = sumP l i + _
    rw [h2, w64 (by omega) (by omega)]
theorem panels_sum (l : List S51) (a b c : Int) (hs : sailB l = true) (hw : weaveB a b c = true) (hk : manyN (loZ l) (hiZ l) (a - b) ≤ 40) : (panels l a b c).length ≤ 40 ∧ ∀ i, i ≤ (panels l a b c).length → (0 ≤ sumP (panels l a b c) i ∧ sumP (panels l a b c) i ≤ 800000008000) ∧ lenSum (panels l a b c) i = sumP (panels l a b c) i := by
  have h1 : (panels l a b c).length ≤ 40 := by unfold panels; rw [panF_len]; exact hk
  have h2 := panF_bd l a b c hs hw _ (Nat.le_refl _)
  refine ⟨h1, fun i hi => ?_⟩
  have := sumP_bd (panels l a b c) h1 h2 i hi
  omega
/-- What the reference holds for waste, in plain numbers. -/
def wasteZ (l : List S51) (a b c : Int) : Int := 2 * sumP (panels l a b c) (panels l a b c).length * a
theorem waste_bd (l : List S51) (a b c : Int) (hs : sailB l = true) (hw : weaveB a b c = true) (hk : manyN (loZ l) (hiZ l) (a - b) ≤ 40) (i : Nat) (hi : i ≤ (panels l a b c).length) : 0 ≤ sumP (panels l a b c) i * a ∧ sumP (panels l a b c) i * a ≤ 160000001600000 := by
  have h1 := ((panels_sum l a b c hs hw hk).2 i hi).1
  have hw := weaveB_iff.1 hw
  have := mul_bd (sumP (panels l a b c) i) a 800000008000 200 (by omega) (by omega) (by omega) (by omega)
  have := Int.mul_nonneg h1.1 (show 0 ≤ a by omega)
  omega
theorem twZ_w (l : List S51) (i : Nat) : -9223372036854775808 ≤ twZ l i ∧ twZ l i ≤ 9223372036854775807 := by
  cases i with
  | zero => show _ ≤ (0 : Int) ∧ (0 : Int) ≤ _; omega
  | succ i => show _ ≤ wrap64 _ ∧ wrap64 _ ≤ _; unfold wrap64; omega
theorem spec_l13Twice_val (l : List S51) (hn : 0 < l.length) (hl : l.length < 4611686018427387904) : spec_l13Twice.F l = some (twZ l l.length) := by
  rw [spec_l13Twice.F_eq]
  have := iterF (fun s i => spec_l13Twice.L0 l s i) l.length (twZ l) (fun i hi => by
    show spec_l13Twice.L0 l _ _ = spec_l13Twice.L0 l _ _
    have hm := Nat.mod_lt (i + 1) hn
    rw [spec_l13Twice.L0_eq, if_pos (by omega), if_neg (by omega), tmodN i l.length (by omega), if_pos (by omega), if_pos (by omega), if_pos (by omega), wS (by omega)]
    rfl)
  refine Eq.trans this ?_
  show spec_l13Twice.L0 l _ _ = _
  rw [spec_l13Twice.L0_eq, if_neg (by omega)]
theorem spec_l15Waste_val (l : List S51) (a b c : Int) (hs : sailB l = true) (hw : weaveB a b c = true) (hk : manyN (loZ l) (hiZ l) (a - b) ≤ 40) : spec_l15Waste.F l a b c = some (wrap64 (wasteZ l a b c - twZ l l.length)) := by
  have h := sailB_len hs
  have hS := panels_sum l a b c hs hw hk
  have hB := waste_bd l a b c hs hw hk
  rw [spec_l15Waste.F_eq, spec_l15Panels_val l a b c hs hw hk]
  simp only [Option.bind_some]
  unfold wasteZ
  generalize panels l a b c = P at *
  have := iterF (fun (s : Int) i => spec_l15Waste.L0 l s P i a b c) P.length (fun i => 2 * sumP P i * a) (fun i hi => by
    show spec_l15Waste.L0 l _ P (i : Int) a b c = spec_l15Waste.L0 l (2 * (sumP P i + (rd_T60 P (i : Int)).f0) * a) P ((i + 1 : Nat) : Int) a b c
    have h1 := hB i (by omega)
    have h2 := hB (i + 1) (by omega)
    have h3 := (hS.2 i (by omega)).1
    have h4 := (hS.2 (i + 1) (by omega)).1
    change 0 ≤ (sumP P i + (rd_T60 P (i : Int)).f0) * a ∧ (sumP P i + (rd_T60 P (i : Int)).f0) * a ≤ _ at h2
    change 0 ≤ sumP P i + (rd_T60 P (i : Int)).f0 ∧ sumP P i + (rd_T60 P (i : Int)).f0 ≤ _ at h4
    rw [spec_l15Waste.L0_eq, if_pos (by omega), if_pos (by omega), wS (by omega)]
    generalize (rd_T60 P (i : Int)).f0 = z at *
    generalize sumP P i = s at *
    have e1 : 2 * z * a = 2 * ((s + z) * a) - 2 * (s * a) := by grind
    have e2 : 2 * s * a = 2 * (s * a) := by grind
    have e3 : 2 * (s + z) * a = 2 * ((s + z) * a) := by grind
    rw [w64 (n := 2 * z) (by omega) (by omega), w64 (n := 2 * z * a) (by omega) (by omega), w64 (by omega) (by omega), show 2 * s * a + 2 * z * a = 2 * (s + z) * a by omega])
  refine Eq.trans (b := spec_l15Waste.L0 l (2 * sumP P 0 * a) P 0 a b c) (by rw [show 2 * sumP P 0 * a = 0 by show 2 * 0 * a = 0; omega]) (Eq.trans this ?_)
  show spec_l15Waste.L0 l _ P (P.length : Int) a b c = _
  rw [spec_l15Waste.L0_eq, if_neg (by omega), spec_l13Twice_val l (by omega) (by omega)]
  rfl
theorem or2_val (a b : Int) : cmp_Or_int.f 3 [a, b] = some (if a = 0 then b else a) := by
  simp [cmp_Or_int.f, cmp_Or_int.l0, rd, wrap64]
  by_cases h : a = 0
  · by_cases h2 : b = 0 <;> simp [h, h2]
  · simp [h]
theorem cmpI_val (a b : Int) : cmp_Compare_int64.f a b = some (if a < b then -1 else if a > b then 1 else 0) := by
  unfold cmp_Compare_int64.f cmp_isNaN_int64.f
  simp only [Option.bind_some, bne_self_eq_false, Bool.false_eq_true, if_false]
  split
  · rfl
  · split <;> rfl
theorem cmpU_val (a b : Int) : cmp_Compare_uint64.f a b = some (if a < b then -1 else if a > b then 1 else 0) := by
  unfold cmp_Compare_uint64.f cmp_isNaN_uint64.f
  simp only [Option.bind_some, bne_self_eq_false, Bool.false_eq_true, if_false]
  split
  · rfl
  · split <;> rfl
theorem wu64 {n : Int} (h1 : 0 ≤ n) (h2 : n < 18446744073709551616) : IntKind.u64.wrap n = n := by rw [IntKind.wrap_u64]; omega
theorem size_val {a : Int} (h1 : 0 ≤ a) (h2 : a ≤ 9223372036854775807) : impl_size.f a = some a := by
  unfold impl_size.f
  rw [if_neg (by omega), wu64 h1 (by omega)]
theorem sign_val {a : Int} (h1 : 0 ≤ a) : impl_sign.f a = some (if a = 0 then 0 else 1) := by
  unfold impl_sign.f
  by_cases h : a = 0
  · rw [if_neg (by omega), if_neg (by omega), if_pos h]
  · rw [if_pos (by omega), if_neg h]
theorem and_mask (a : Int) (h1 : 0 ≤ a) (h2 : a < 18446744073709551616) : Go.bits .and .u64 a 4294967295 = a % 4294967296 := by
  obtain ⟨n, rfl⟩ : ∃ n : Nat, a = (n : Int) := ⟨a.toNat, by omega⟩
  have := bits_and_u64_nat n 4294967295 (by omega) (by omega)
  rw [show ((4294967295 : Nat) : Int) = 4294967295 from rfl] at this
  rw [this, show (4294967295 : Nat) = 2 ^ 32 - 1 from rfl, Nat.and_two_pow_sub_one_eq_mod]
  omega
theorem mul64_val {a b : Int} (h1 : 0 ≤ a) (h2 : a ≤ 16000000000) (h3 : 0 ≤ b) (h4 : b ≤ 4000000) : bits_Mul64.f a b = some (0, a * b) := by
  have hb := mul_bd a b 16000000000 4000000 (by omega) (by omega) (by omega) (by omega)
  have hn := Int.mul_nonneg h1 h3
  unfold bits_Mul64.f
  rw [and_mask a h1 (by omega), and_mask b h3 (by omega), show b / 4294967296 = 0 by omega, show b % 4294967296 = b by omega]
  have hx : 0 ≤ a / 4294967296 ∧ a / 4294967296 ≤ 3 := by omega
  have hy : 0 ≤ a % 4294967296 ∧ a % 4294967296 ≤ 4294967295 := by omega
  generalize a / 4294967296 = x at hx ⊢
  generalize a % 4294967296 = y at hy ⊢
  have m1 := mul_bd x b 3 4000000 (by omega) (by omega) (by omega) (by omega)
  have m2 := mul_bd y b 4294967295 4000000 (by omega) (by omega) (by omega) (by omega)
  have n1 := Int.mul_nonneg hx.1 h3
  have n2 := Int.mul_nonneg hy.1 h3
  rw [Int.mul_zero, Int.mul_zero, wu64 (n := 0) (by omega) (by omega), wu64 (n := a * b) (by omega) (by omega), wu64 (n := x * b) (by omega) (by omega), wu64 (n := y * b) (by omega) (by omega), wu64 (n := x * b + y * b / 4294967296) (by omega) (by omega), and_mask _ (by omega) (by omega)]
  have e1 : (x * b + y * b / 4294967296) / 4294967296 = 0 := by omega
  have e2 : ((x * b + y * b / 4294967296) % 4294967296) = x * b + y * b / 4294967296 := by omega
  rw [e1, e2, Int.add_zero, Int.add_zero, wu64 (n := 0) (by omega) (by omega), wu64 (n := x * b + y * b / 4294967296) (by omega) (by omega), e1, Int.add_zero, wu64 (n := 0) (by omega) (by omega)]
/-- How two fractions compare. -/
def cmpZ (p q : Int × Int) : Int := if p.1 * q.2 < q.1 * p.2 then -1 else if p.1 * q.2 > q.1 * p.2 then 1 else 0
def FW (q : Int × Int) : Prop := (0 ≤ q.1 ∧ q.1 ≤ 16000000000) ∧ 0 < q.2 ∧ q.2 ≤ 4000000
theorem cmpF_val3 {p q : Int × Int} (hp : FW p) (hq : FW q) : impl_compareFractions.f 3 p.1 p.2 q.1 q.2 = some (cmpZ p q) := by
  unfold FW at *
  have hP := Int.mul_nonneg hp.1.1 (show 0 ≤ q.2 by omega)
  have hQ := Int.mul_nonneg hq.1.1 (show 0 ≤ p.2 by omega)
  have key : impl_compareProducts.f 3 p.1 q.2 q.1 p.2 = some (cmpZ p q) := by
    unfold impl_compareProducts.f
    rw [mul64_val hp.1.1 hp.1.2 (by omega) hq.2.2, mul64_val hq.1.1 hq.1.2 (by omega) hp.2.2]
    simp only [Option.bind_some, cmpU_val, Int.lt_irrefl, if_false, or2_val, gt_iff_lt, if_true]
    unfold cmpZ
    rfl
  unfold impl_compareFractions.f
  rw [sign_val hp.1.1, sign_val hq.1.1, size_val hp.1.1 (by omega), size_val hq.1.1 (by omega), size_val (a := p.2) (by omega) (by omega), size_val (a := q.2) (by omega) (by omega)]
  simp only [Option.bind_some, cmpI_val, key, or2_val]
  congr 1
  by_cases h1 : p.1 = 0
  · by_cases h2 : q.1 = 0
    · unfold cmpZ; simp [h1, h2, wrap64]
    · have := Int.mul_pos (show 0 < q.1 by omega) hp.2.1
      unfold cmpZ; simp [h1, h2]; omega
  · by_cases h2 : q.1 = 0
    · have := Int.mul_pos (show 0 < p.1 by omega) hq.2.1
      unfold cmpZ; simp [h1, h2]; omega
    · have : wrap64 (1 * cmpZ p q) = cmpZ p q := by
        rw [Int.one_mul]
        unfold cmpZ
        split
        · exact w64 (by omega) (by omega)
        · split <;> exact w64 (by omega) (by omega)
      simp only [h1, h2, if_false, Int.lt_irrefl, gt_iff_lt, if_true]
      exact this
theorem cmpF_val {p q : Int × Int} (hp : FW p) (hq : FW q) : impl_compareFractions.F p.1 p.2 q.1 q.2 = some (cmpZ p q) := lim_of (fun k => impl_compareFractions.mono _ _ _ _ k) (cmpF_val3 hp hq)
theorem impl_fraction_val (a b : Int) (ha : -9223372036854775807 ≤ a) (ha2 : a ≤ 9223372036854775807) (hb : 0 < b) (hb2 : b ≤ 9223372036854775807) : impl_fraction.F a b = some (fracN a b, fracD a b) := by
  rw [impl_fraction.F_eq, if_neg (by omega)]
  have hg := gcdLoop (fun x y => impl_gcd.L0 x y) (fun x y => impl_gcd.L0_eq x y) b.natAbs a.natAbs
  have hg2 : impl_gcd.F a b = some (fgcd a b) := by
    rw [impl_gcd.F_eq]
    simp only [impl_gcd.J0_eq]
    rw [show b = ((b.natAbs : Nat) : Int) by omega]
    by_cases h : a < 0
    · rw [if_pos h, w64 (by omega) (by omega), show -a = ((a.natAbs : Nat) : Int) by omega]
      refine Eq.trans hg ?_
      simp [fgcd]
    · rw [if_neg h]
      refine Eq.trans (congrArg (fun z => impl_gcd.L0 z _) (show a = ((a.natAbs : Nat) : Int) by omega)) (Eq.trans hg ?_)
      simp [fgcd]
  have hp := fgcd_pos a b hb
  rw [hg2]; simp only [Option.bind_some]
  rw [if_neg (by omega)]; rfl
def toF (q : Int × Int) : S67 := ⟨q.1, q.2⟩
theorem frac_any (a b : Int) (ha : -9223372036854775807 ≤ a) (ha2 : a ≤ 9223372036854775807) (hb : b ≠ 0) (hb2 : -9223372036854775807 ≤ b) (hb3 : b ≤ 9223372036854775807) : impl_fraction.F a b = some (frP (if b < 0 then -a else a) (if b < 0 then -b else b)) := by
  by_cases h : b < 0
  · have e := impl_fraction_val (-a) (-b) (by omega) (by omega) (by omega) (by omega)
    rw [impl_fraction.F_eq, if_neg (by omega)] at e
    rw [impl_fraction.F_eq, if_pos h, if_pos h, if_pos h, w64 (n := -a) (by omega) (by omega), w64 (n := -b) (by omega) (by omega)]
    exact e
  · rw [if_neg h, if_neg h, impl_fraction_val a b ha ha2 (by omega) hb3]
    rfl
theorem gcd_val (a b : Int) (ha : 0 < a) (hb : 0 < b) : impl_gcd.F a b = some (fgcd a b) := by
  have hg := gcdLoop (fun x y => impl_gcd.L0 x y) (fun x y => impl_gcd.L0_eq x y) b.natAbs a.natAbs
  rw [impl_gcd.F_eq, if_neg (by omega), impl_gcd.J0_eq]
  refine Eq.trans ?_ hg
  show impl_gcd.L0 a b = impl_gcd.L0 _ _
  congr 1 <;> omega
theorem addFr_val {a b : Int × Int} (ha : FB a) (hb : FB b) : impl_addFractions.F a.1 a.2 b.1 b.2 = some (sumF a b) :=
  sumF_val impl_addFractions.F impl_gcd.F impl_fraction.F gcd_val (fun a b h1 h2 h3 h4 => impl_fraction_val a b h1 h2 h3 h4) impl_addFractions.F_eq ha hb
theorem cut_sum (l : List S51) (ha : l.all spotIn = true) (y : Int) (i : Nat) (hi : i < l.length) (hr : inE l y i = true) (hne : sy l i ≠ sy l (nx l i)) : ∃ r : Int × Int, impl_fraction.F (wrap64 ((wrap64 (sx l (nx l i) - sx l i)) * (wrap64 (y - sy l i)))) (wrap64 (sy l (nx l i) - sy l i)) = some r ∧ impl_addFractions.F (sx l i) 1 r.1 r.2 = some (cutF l y i) := by
  have hR := spots_R l ha
  have hm : nx l i < l.length := Nat.mod_lt _ (by omega)
  have hb := cut_bd l ha y i hi hr hne
  have r1 := hR i hi
  have r2 := hR _ hm
  have hy : R2 y := by unfold inE at hr; rw [inB_iff] at hr; unfold R2 at *; omega
  have m1 := mul_bd (sx l (nx l i) - sx l i) (y - sy l i) 2000 2000 (by unfold R2 at *; omega) (by unfold R2 at *; omega) (by unfold R2 at *; omega) (by unfold R2 at *; omega)
  rw [R2.w r2.1 r1.1, R2.w hy r1.2, R2.w r2.2 r1.2, w64 (n := (sx l (nx l i) - sx l i) * (y - sy l i)) (by omega) (by omega)]
  have hd : sy l (nx l i) - sy l i ≠ 0 := by omega
  refine ⟨_, frac_any _ _ (by omega) (by omega) hd (by unfold R2 at *; omega) (by unfold R2 at *; omega), ?_⟩
  have hD : (if sy l (nx l i) - sy l i < 0 then -(sy l (nx l i) - sy l i) else sy l (nx l i) - sy l i) = cutD l i := rfl
  rw [hD]
  have hN : (if sy l (nx l i) - sy l i < 0 then -((sx l (nx l i) - sx l i) * (y - sy l i)) else (sx l (nx l i) - sx l i) * (y - sy l i)) = cutN l y i - sx l i * cutD l i := by
    unfold cutN cutD
    split <;> grind
  have hNb : -4000000 ≤ cutN l y i - sx l i * cutD l i ∧ cutN l y i - sx l i * cutD l i ≤ 4000000 := by rw [← hN]; split <;> omega
  rw [hN]
  obtain ⟨c1, c2, c3, c4, c5⟩ := frP_all (cutN l y i - sx l i * cutD l i) (cutD l i) (by omega) (by omega) hb.1.1 (by omega)
  have hfb : FB (frP (cutN l y i - sx l i * cutD l i) (cutD l i)) := ⟨by omega, c1.1, by omega⟩
  have hx : FB (sx l i, 1) := (FG_one r1.1).fb
  refine (addFr_val hx hfb).trans (congrArg some ?_)
  obtain ⟨s1, s2, _⟩ := sumF_all hx hfb
  refine frP_uniq (by omega) (by omega) hb.1.1 (by omega) s1 ?_
  generalize sumF (sx l i, 1) (frP (cutN l y i - sx l i * cutD l i) (cutD l i)) = s at *
  generalize frP (cutN l y i - sx l i * cutD l i) (cutD l i) = r at *
  dsimp only at s2
  refine Int.eq_of_mul_eq_mul_right (a := r.2) (by have := c1.1; omega) ?_
  have k1 : s.1 * (1 * r.2) * cutD l i = (sx l i * r.2 + r.1 * 1) * s.2 * cutD l i := by rw [s2]
  have k2 : r.1 * cutD l i * s.2 = (cutN l y i - sx l i * cutD l i) * r.2 * s.2 := by rw [c2]
  grind
theorem FG.fw {q : Int × Int} (h : FG q) : FW q := by have h1 := h.1.1; obtain ⟨_, h2, h3, h4⟩ := h; unfold FW; omega
theorem fcmp_val {p q : Int × Int} (hp : FW p) (hq : FW q) : fcmp (toF p) (toF q) = cmpZ p q := by
  unfold fcmp
  show (impl_compareFractions.f 3 p.1 p.2 q.1 q.2).getD 0 = _
  rw [cmpF_val3 hp hq]; rfl
theorem cmpZ_neg (p q : Int × Int) : cmpZ p q < 0 ↔ p.1 * q.2 < q.1 * p.2 := by
  unfold cmpZ
  split
  · omega
  · split <;> omega
theorem cmpZ_pos (p q : Int × Int) : cmpZ p q > 0 ↔ q.1 * p.2 < p.1 * q.2 := by
  unfold cmpZ
  split
  · omega
  · split <;> omega
theorem fold_toF (f : Int × Int → Int × Int → Int × Int) (b : S67 → S67 → Bool) (hb : ∀ m x, FG m → FG x → (if b (toF x) (toF m) = true then toF x else toF m) = toF (f m x)) (hf : ∀ m x, FG m → FG x → FG (f m x)) (M : List (Int × Int)) : ∀ a, FG a → (∀ q ∈ M, FG q) → (M.map toF).foldl (fun m x => if b x m = true then x else m) (toF a) = toF (M.foldl f a) := by
  induction M with
  | nil => intro a _ _; rfl
  | cons x M ih =>
    intro a ha hM
    have hx := hM x (by simp)
    rw [List.map_cons, List.foldl_cons, List.foldl_cons]
    show List.foldl _ (if b (toF x) (toF a) = true then toF x else toF a) _ = _
    rw [hb a x ha hx]
    exact ih _ (hf a x ha hx) (fun q hq => hM q (by simp [hq]))
theorem minF_val (a : Int × Int) (t : List (Int × Int)) (hL : ∀ q ∈ a :: t, FG q) (h : 0 < ((a :: t).map toF).length) : minP fcmp ((a :: t).map toF) h = toF ((a :: t).foldl pmin a) := by
  unfold minP bestF
  rw [List.take_length]
  refine fold_toF pmin (fun x y => decide (fcmp x y < 0)) (fun m x hm hx => ?_) (fun _ _ => pmin_in FG) (a :: t) a (hL a (by simp)) hL
  rw [fcmp_val hx.fw hm.fw]
  simp only [decide_eq_true_eq, cmpZ_neg]
  unfold pmin
  split <;> rfl
theorem maxF_val (a : Int × Int) (t : List (Int × Int)) (hL : ∀ q ∈ a :: t, FG q) (h : 0 < ((a :: t).map toF).length) : maxP fcmp ((a :: t).map toF) h = toF ((a :: t).foldl pmax a) := by
  unfold maxP bestF
  rw [List.take_length]
  refine fold_toF pmax (fun x y => decide (fcmp x y > 0)) (fun m x hm hx => ?_) (fun _ _ => pmax_in FG) (a :: t) a (hL a (by simp)) hL
  rw [fcmp_val hx.fw hm.fw]
  simp only [decide_eq_true_eq, cmpZ_pos]
  unfold pmax
  split <;> rfl
theorem hits_len (l : List S51) (y : Int) (n : Nat) : (hits (hitI l y) n).length ≤ 2 * n := by
  induction n with
  | zero => exact Nat.le_refl _
  | succ n ih =>
    have : (hitI l y n).length ≤ 2 := by unfold hitI; split <;> split <;> simp
    show (hits (hitI l y) n ++ hitI l y n).length ≤ _
    rw [List.length_append]; omega
/-- The ends that the program finds are the reference's. -/
theorem ends_same (l : List S51) (ha : l.all spotIn = true) (y : Int) (a : Int × Int) (t : List (Int × Int)) (h : hits (hitI l y) l.length = a :: t) : (a :: t).foldl pmin a = lowF l y l.length ∧ (a :: t).foldl pmax a = highF l y l.length := by
  have hG := hits_good l ha y l.length (Nat.le_refl _)
  have hS : ∀ q, q ∈ a :: t ↔ q ∈ hits (hitS l y) l.length := fun q => by rw [← h]; exact hits_same l ha y q
  have hG2 : ∀ q ∈ a :: t, FG q := fun q hq => hG q ((hS q).1 hq)
  have hA := hG2 a (by simp)
  have hp2 : ∀ q ∈ a :: t, 0 < q.2 := fun q hq => (hG2 q hq).1.1
  have hp3 : ∀ q ∈ hits (hitS l y) l.length, 0 < q.2 := fun q hq => (hG q hq).1.1
  have g := ends_good l ha y l.length (Nat.le_refl _)
  constructor
  · obtain ⟨m1, m2, m3⟩ := fold_min (a :: t) a hA.1.1 hp2
    obtain ⟨n1, n2, n3⟩ := fold_min (hits (hitS l y) l.length) (2000, 1) (by decide) hp3
    have mm : (a :: t).foldl pmin a ∈ a :: t := by rcases m1 with e | e; · rw [e]; simp
                                                   · exact e
    have mg := hG2 _ mm
    refine leF_antisymm mg.1 g.1.1 ?_ (n3 _ ((hS _).1 mm))
    rcases n1 with e | e
    · show leF _ (List.foldl _ _ _)
      rw [e]
      have := mg.2.2.1
      show _ * 1 ≤ 2000 * _
      omega
    · exact m3 _ ((hS _).2 e)
  · obtain ⟨m1, m2, m3⟩ := fold_max (a :: t) a hA.1.1 hp2
    obtain ⟨n1, n2, n3⟩ := fold_max (hits (hitS l y) l.length) (0, 1) (by decide) hp3
    have mm : (a :: t).foldl pmax a ∈ a :: t := by rcases m1 with e | e; · rw [e]; simp
                                                   · exact e
    have mg := hG2 _ mm
    refine leF_antisymm mg.1 g.2.1 (n3 _ ((hS _).1 mm)) ?_
    rcases n1 with e | e
    · show leF (List.foldl _ _ _) _
      rw [e]
      have := mg.2.1
      show 0 * _ ≤ _ * 1
      omega
    · exact m3 _ ((hS _).2 e)
theorem impl_widthAt_val (l : List S51) (hs : sailB l = true) (y : Int) (h1 : loZ l ≤ y) (h2 : y ≤ hiZ l) : impl_widthAt.F l y = some (widF l y) := by
  obtain ⟨h3, h8, ha⟩ := sailB_len hs
  have hR := spots_R l ha
  obtain ⟨b1, b2, _⟩ := lohi l hs
  rw [impl_widthAt.F_eq]
  have := iterF (fun (s : List S67) i => impl_widthAt.L0 l y s l (l.length : Int) i) l.length (fun i => (hits (hitI l y) i).map toF) (fun i hi => by
    show impl_widthAt.L0 l y ((hits (hitI l y) i).map toF) l (l.length : Int) (i : Int) = impl_widthAt.L0 l y ((hits (hitI l y) i ++ hitI l y i).map toF) l (l.length : Int) ((i + 1 : Nat) : Int)
    have hm : nx l i < l.length := Nat.mod_lt _ (by omega)
    have hm2 : (i + 1) % l.length < l.length := hm
    have hw : wrap64 ((i : Int) + 1) = ((i + 1 : Nat) : Int) := wS (by omega)
    have hlen := hits_len l y i
    rw [impl_widthAt.L0_eq, if_pos (by omega), if_pos (by omega), if_pos (by omega), if_neg (by omega), tmodN i l.length (by omega), if_pos (by omega), if_pos (by omega)]
    simp only [sx_def, sy_def]
    change (if sy l i = y then (impl_fraction.F (sx l i) 1).bind _ else impl_widthAt.J1 l y _ l _ _ (sx l i) (sy l i) (sx l (nx l i)) (sy l (nx l i))) = _
    have hJ : ∀ s : List S67, s.length ≤ 100 → impl_widthAt.J1 l y s l (l.length : Int) (i : Int) (sx l i) (sy l i) (sx l (nx l i)) (sy l (nx l i)) = impl_widthAt.L0 l y (s ++ (if crossB l y i = true then [cutF l y i] else []).map toF) l (l.length : Int) ((i + 1 : Nat) : Int) := fun s hsl => by
      have e : impl_widthAt.J1 l y s l (l.length : Int) (i : Int) (sx l i) (sy l i) (sx l (nx l i)) (sy l (nx l i)) = impl_widthAt.J2 l y s l (l.length : Int) (i : Int) (crossB l y i) (sx l i) (sy l i) (sx l (nx l i)) (sy l (nx l i)) := by
        rw [impl_widthAt.J1_eq]
        unfold crossB
        by_cases c1 : (decide (sy l i < y) != decide (sy l (nx l i) < y)) = true
        · rw [if_pos c1, c1, Bool.true_and]
          by_cases c2 : sy l i = y
          · rw [if_pos c2]; simp [c2]
          · rw [if_neg c2, decide_eq_true c2, Bool.true_and]
            congr 1
            by_cases c3 : sy l (nx l i) = y <;> simp [c3]
        · rw [if_neg c1, Bool.eq_false_iff.2 c1, Bool.false_and]
      rw [e, impl_widthAt.J2_eq]
      by_cases c : crossB l y i = true
      · obtain ⟨k1, k2⟩ := cross_in c
        obtain ⟨r, f1, f2⟩ := cut_sum l ha y i hi k1 k2
        rw [if_pos c, if_pos c, impl_fraction_val (sx l i) 1 (by have := (hR i hi).1; unfold R2 at this; omega) (by have := (hR i hi).1; unfold R2 at this; omega) (by omega) (by omega)]
        simp only [Option.bind_some]
        rw [f1]
        simp only [Option.bind_some]
        have hone := frP_one (sx l i) (by have := (hR i hi).1; unfold R2 at this; omega) (by have := (hR i hi).1; unfold R2 at this; omega)
        rw [show fracN (sx l i) 1 = sx l i from congrArg Prod.fst hone, show fracD (sx l i) 1 = 1 from congrArg Prod.snd hone, f2]
        simp only [Option.bind_some]
        rw [if_pos (by omega), hw]
        rfl
      · rw [if_neg c, if_neg c, hw, List.map_nil, List.append_nil]
    unfold hitI at *
    by_cases hy : sy l i = y
    · rw [if_pos hy, if_pos hy, impl_fraction_val (sx l i) 1 (by have := (hR i hi).1; unfold R2 at this; omega) (by have := (hR i hi).1; unfold R2 at this; omega) (by omega) (by omega)]
      simp only [Option.bind_some]
      have hone := frP_one (sx l i) (by have := (hR i hi).1; unfold R2 at this; omega) (by have := (hR i hi).1; unfold R2 at this; omega)
      rw [if_pos (by rw [List.length_map]; omega), show fracN (sx l i) 1 = sx l i from congrArg Prod.fst hone, show fracD (sx l i) 1 = 1 from congrArg Prod.snd hone, hJ _ (by rw [List.length_append, List.length_map, List.length_singleton]; omega), List.map_append, List.map_append, List.append_assoc]
      rfl
    · rw [if_neg hy, if_neg hy, hJ _ (by rw [List.length_map]; omega), List.map_append, List.nil_append])
  refine Eq.trans this ?_
  show impl_widthAt.L0 l y ((hits (hitI l y) l.length).map toF) l (l.length : Int) (l.length : Int) = _
  have hlen := hits_len l y l.length
  obtain ⟨q, hq⟩ := hits_some l (by omega) y h1 h2
  have hG : ∀ q ∈ hits (hitI l y) l.length, FG q := fun q hq => hits_good l ha y l.length (Nat.le_refl _) q ((hits_same l ha y q).1 hq)
  rw [impl_widthAt.L0_eq, if_neg (by omega)]
  cases h : hits (hitI l y) l.length with
  | nil => rw [h] at hq; cases hq
  | cons a t =>
    rw [h] at hG hlen
    obtain ⟨e1, e2⟩ := ends_same l ha y a t h
    have hp : 0 < ((a :: t).map toF).length := by simp
    have hl : ((a :: t).map toF).length < 4611686018427387904 := by rw [List.length_map]; omega
    have g := ends_good l ha y l.length (Nat.le_refl _)
    have hb := g.1.fb
    unfold impl_Fraction_67.f impl_Fraction_68.f
    rw [dif_pos hp, if_pos hl, dif_pos hp, if_pos hl, minF_val a t hG hp, maxF_val a t hG hp, e1, e2]
    simp only [Option.bind_some]
    show ((impl_addFractions.F (highF l y l.length).1 (highF l y l.length).2 (wrap64 (-(lowF l y l.length).1)) (lowF l y l.length).2).bind _) = _
    rw [w64 (n := -(lowF l y l.length).1) (by unfold FB at hb; omega) (by unfold FB at hb; omega)]
    have e : impl_addFractions.F (highF l y l.length).1 (highF l y l.length).2 (-(lowF l y l.length).1) (lowF l y l.length).2 = some (widF l y) := addFr_val g.2.fb g.1.neg
    rw [e]; rfl
theorem mn_min (a b : Int) : mn a b = min a b := by unfold mn; rw [Int.min_def]; split <;> split <;> omega
theorem mx_max (a b : Int) : mx a b = max a b := by unfold mx; rw [Int.max_def]; split <;> split <;> omega
theorem impl_heightsOf_val (l : List S51) (h0 : 0 < l.length) (hl : l.length < 4611686018427387904) : impl_heightsOf.F l = some (loZ l, hiZ l) := by
  rw [impl_heightsOf.F_eq, if_pos (by omega)]
  have := iterF (fun (s : Int × Int) i => impl_heightsOf.L0 s.1 s.2 l (l.length : Int) i) l.length (limZ l) (fun i hi => by
    show impl_heightsOf.L0 _ _ _ _ _ = impl_heightsOf.L0 _ _ _ _ _
    rw [impl_heightsOf.L0_eq, if_pos (by omega), if_pos (by omega), if_pos (by omega), wS (by omega), mn_min, mx_max]
    rfl)
  refine Eq.trans this ?_
  show impl_heightsOf.L0 _ _ _ _ _ = _
  rw [impl_heightsOf.L0_eq, if_neg (by omega)]
  rfl
theorem impl_panelEdges_val (l : List S51) (a b c : Int) (hs : sailB l = true) (hw : weaveB a b c = true) : impl_panelEdges.F l a b c = some (edgesF (loZ l) (hiZ l) (a - b)) := by
  have h := sailB_len hs
  obtain ⟨r1, r2, r3⟩ := lohi l hs
  have hw := weaveB_iff.1 hw
  rw [impl_panelEdges.F_eq, impl_heightsOf_val l (by omega) (by omega)]
  simp only [Option.bind_some]
  refine edges_loop (fun x6 x7 x8 => impl_panelEdges.L0 x6 x7 x8 a b c) _ _ _ r1 r2 r3 (by omega) (by omega) (fun x7 x8 => ?_)
  show impl_panelEdges.L0 _ _ _ _ _ _ = _
  rw [impl_panelEdges.L0_eq, w64 (n := a - b) (by omega) (by omega)]
theorem impl_within_val (n a b : Int) : impl_within.f n a b = some (inB n a b) := by
  unfold impl_within.f inB
  by_cases h : n ≥ a
  · rw [if_pos h]; simp [show a ≤ n from h]
  · rw [if_neg h]; simp; omega
theorem lessW_cmp {p q : Int × Int} (hp : FWb p) (hq : FWb q) : impl_compareFractions.F p.1 p.2 q.1 q.2 = some (cmpZ p q) := cmpF_val hp hq
/-- The heights at which the program looks. -/
def midI (l : List S51) (p q : Int) (i : Nat) : List Int := if inB (sy l i) p q = true then [sy l i] else []
def reachI (l : List S51) (H : List Int) (n : Nat) : Int × Int := ((H.take n).map (widF l)).foldl pmax (0, 1)
theorem reach_same (l : List S51) (hs : sailB l = true) (p q : Int) (hp : inL l p) (hq : inL l q) : (([p, q] ++ hits (midI l p q) l.length).map (widF l)).foldl pmax (0, 1) = reachS l p q l.length := by
  obtain ⟨h3, h8, ha⟩ := sailB_len hs
  have gp := widF_all l hs p hp.1 hp.2
  have gq := widF_all l hs q hq.1 hq.2
  have hH : ∀ y ∈ [p, q] ++ hits (midI l p q) l.length, inL l y := fun y hy => by
    rcases List.mem_append.1 hy with h | h
    · rcases List.mem_cons.1 h with rfl | h
      · exact hp
      · obtain rfl := List.mem_singleton.1 h; exact hq
    · rw [mem_hits] at h
      obtain ⟨i, hi, h⟩ := h
      unfold midI at h
      split at h
      · obtain rfl := List.mem_singleton.1 h
        exact sy_lohi l (by omega) i hi
      · cases h
  have hG : ∀ z ∈ ([p, q] ++ hits (midI l p q) l.length).map (widF l), WG z := fun z hz => by
    obtain ⟨y, hy, rfl⟩ := List.mem_map.1 hz
    exact widF_all l hs y (hH y hy).1 (hH y hy).2
  have h01 : WG (0, 1) := ⟨can_one 0, ⟨show (0 : Int) ≤ 0 by decide, show (0 : Int) ≤ 16000000000 by decide⟩, show (0 : Int) < 1 by decide, show (1 : Int) ≤ 4000000 by decide⟩
  obtain ⟨m1, m2, m3⟩ := fold_max (([p, q] ++ hits (midI l p q) l.length).map (widF l)) (0, 1) (by decide) (fun z hz => (hG z hz).1.1)
  have gI : WG ((([p, q] ++ hits (midI l p q) l.length).map (widF l)).foldl pmax (0, 1)) := fold_in pmax WG (fun _ _ => pmax_in WG) _ _ h01 hG
  have gm := mid_good l hs p q l.length (Nat.le_refl _)
  obtain ⟨n1, n2, n3⟩ := fold_max (hits (midS l p q) l.length) (pmax (widF l p) (widF l q)) (pmax_in (fun z => 0 < z.2) gp.1.1 gq.1.1) (fun z hz => (gm z hz).1.1)
  have gS := reachS_good l hs p q hp hq l.length (Nat.le_refl _)
  change leF _ (reachS l p q l.length) at n2
  change ∀ z ∈ _, leF z (reachS l p q l.length) at n3
  change reachS l p q l.length = _ ∨ reachS l p q l.length ∈ _ at n1
  generalize reachS l p q l.length = rS at *
  have np : leF (widF l p) (pmax (widF l p) (widF l q)) ∧ leF (widF l q) (pmax (widF l p) (widF l q)) := by unfold pmax leF; split <;> omega
  have gpq : 0 < (pmax (widF l p) (widF l q)).2 := pmax_in (fun z => 0 < z.2) gp.1.1 gq.1.1
  have hP : leF (widF l p) rS := leF_trans gp.1.1 gpq gS.1.1 np.1 n2
  have hQ : leF (widF l q) rS := leF_trans gq.1.1 gpq gS.1.1 np.2 n2
  have mp : widF l p ∈ ([p, q] ++ hits (midI l p q) l.length).map (widF l) := by simp
  have mq : widF l q ∈ ([p, q] ++ hits (midI l p q) l.length).map (widF l) := by simp
  generalize hL : ([p, q] ++ hits (midI l p q) l.length).map (widF l) = L at *
  refine leF_antisymm gI.1 gS.1 ?_ ?_
  · rcases m1 with e | e
    · rw [e]
      have := gS.2.1.1
      show 0 * _ ≤ _ * 1
      omega
    · generalize L.foldl pmax (0, 1) = z at *
      rw [← hL] at e
      obtain ⟨y, hy, rfl⟩ := List.mem_map.1 e
      rcases List.mem_append.1 hy with h | h
      · rcases List.mem_cons.1 h with rfl | h
        · exact hP
        · obtain rfl := List.mem_singleton.1 h; exact hQ
      · rw [mem_hits] at h
        obtain ⟨i, hi, h⟩ := h
        unfold midI at h
        split at h
        · rename_i hr
          obtain rfl := List.mem_singleton.1 h
          rw [inB_iff] at hr
          by_cases e1 : sy l i = p
          · rw [e1]; exact hP
          · by_cases e2 : sy l i = q
            · rw [e2]; exact hQ
            · refine n3 _ ((mem_hits _ _ _).2 ⟨i, hi, ?_⟩)
              unfold midS
              rw [if_pos (by omega)]; simp
        · cases h
  · rcases n1 with e | e
    · rw [e]
      exact pmax_in (fun z => leF z (L.foldl pmax (0, 1))) (m3 _ mp) (m3 _ mq)
    · rw [mem_hits] at e
      obtain ⟨i, hi, h⟩ := e
      unfold midS at h
      split at h
      · rename_i hr
        obtain rfl := List.mem_singleton.1 h
        refine m3 _ ?_
        rw [← hL]
        refine List.mem_map.2 ⟨sy l i, List.mem_append.2 (Or.inr ((mem_hits _ _ _).2 ⟨i, hi, ?_⟩)), rfl⟩
        unfold midI
        rw [if_pos (by rw [inB_iff]; omega)]; simp
      · cases h
theorem impl_panelsOf_val (l : List S51) (a b c : Int) (hs : sailB l = true) (hw : weaveB a b c = true) (hk : manyN (loZ l) (hiZ l) (a - b) ≤ 40) : impl_panelsOf.F l a b c = some (panels l a b c) := by
  obtain ⟨h3, h8, ha⟩ := sailB_len hs
  have hE := edge_in l a b c hs hw
  have hL := edges_len (loZ l) (hiZ l) (a - b)
  rw [impl_panelsOf.F_eq, impl_panelEdges_val l a b c hs hw]
  simp only [Option.bind_some]
  unfold panels
  generalize edgesF (loZ l) (hiZ l) (a - b) = e at *
  generalize manyN (loZ l) (hiZ l) (a - b) = n at *
  have := iterF (fun (s : List S60) i => impl_panelsOf.L0 l s e (i + 1) a b c) n (panF l e a b c) (fun i hi => by
    show impl_panelsOf.L0 l (panF l e a b c i) e ((i : Int) + 1) a b c = impl_panelsOf.L0 l (panF l e a b c (i + 1)) e (((i + 1 : Nat) : Int) + 1) a b c
    have h1 := hE i (by omega)
    have h2 := hE (i + 1) (by omega)
    have hp := panF_len l e a b c i
    rw [impl_panelsOf.L0_eq, w64 (n := (i : Int) + 1 - 1) (by omega) (by omega), show (i : Int) + 1 - 1 = (i : Int) by omega, show (i : Int) + 1 = ((i + 1 : Nat) : Int) by omega, if_pos (by omega), if_pos (by omega), if_pos (by omega), if_pos (by omega)]
    show _ = impl_panelsOf.L0 l (panF l e a b c i ++ [⟨wrap64 (ceilZ (reachS l (rd e (i : Int)) (rd e ((i + 1 : Nat) : Int)) l.length) + wrap64 (2 * c)), min a (wrap64 (wrap64 (rd e ((i + 1 : Nat) : Int) - rd e (i : Int)) + b))⟩]) e (((i + 1 : Nat) : Int) + 1) a b c
    generalize panF l e a b c i = s at *
    generalize rd e (i : Int) = p at *
    generalize rd e ((i + 1 : Nat) : Int) = q at *
    have hn : ∀ m, (hits (midI l p q) m).length ≤ m := fun m => by
      induction m with
      | zero => exact Nat.le_refl _
      | succ m ih =>
        have : (midI l p q m).length ≤ 1 := by unfold midI; split <;> simp
        show (hits (midI l p q) m ++ midI l p q m).length ≤ _
        rw [List.length_append]; omega
    have L1 := iterF (fun (H : List Int) j => impl_panelsOf.L1 l s e ((i + 1 : Nat) : Int) p q H l (l.length : Int) j a b c) l.length (fun j => [p, q] ++ hits (midI l p q) j) (fun j hj => by
      show impl_panelsOf.L1 l s e ((i + 1 : Nat) : Int) p q ([p, q] ++ hits (midI l p q) j) l (l.length : Int) (j : Int) a b c = impl_panelsOf.L1 l s e ((i + 1 : Nat) : Int) p q ([p, q] ++ (hits (midI l p q) j ++ midI l p q j)) l (l.length : Int) ((j + 1 : Nat) : Int) a b c
      have hnj := hn j
      rw [impl_panelsOf.L1_eq, if_pos (by omega), if_pos (by omega), if_pos (by omega), wS (by omega)]
      simp only [sy_def, impl_within_val, Option.bind_some]
      unfold midI at *
      by_cases hr : inB (sy l j) p q = true
      · rw [if_pos hr, if_pos hr, if_pos (by rw [List.length_append]; show 2 + _ < _; omega), List.append_assoc]
      · rw [if_neg hr, if_neg hr, List.append_nil])
    refine Eq.trans (b := impl_panelsOf.L1 l s e ((i + 1 : Nat) : Int) p q ([p, q] ++ hits (midI l p q) 0) l (l.length : Int) 0 a b c) (by rw [show hits (midI l p q) 0 = [] from rfl, List.append_nil]) (Eq.trans L1 ?_)
    show impl_panelsOf.L1 l s e ((i + 1 : Nat) : Int) p q ([p, q] ++ hits (midI l p q) l.length) l (l.length : Int) (l.length : Int) a b c = _
    have hsame := reach_same l hs p q h1 h2
    have hH : ∀ y ∈ [p, q] ++ hits (midI l p q) l.length, inL l y := fun y hy => by
      rcases List.mem_append.1 hy with h | h
      · rcases List.mem_cons.1 h with rfl | h
        · exact h1
        · obtain rfl := List.mem_singleton.1 h; exact h2
      · rw [mem_hits] at h
        obtain ⟨j, hj, h⟩ := h
        unfold midI at h
        split at h
        · obtain rfl := List.mem_singleton.1 h
          exact sy_lohi l (by omega) j hj
        · cases h
    have hHn : ([p, q] ++ hits (midI l p q) l.length).length ≤ 10 := by have := hn l.length; rw [List.length_append]; show 2 + _ ≤ _; omega
    rw [impl_panelsOf.L1_eq, if_neg (by omega)]
    generalize [p, q] ++ hits (midI l p q) l.length = H at *
    have h01 : WG (0, 1) := ⟨can_one 0, ⟨show (0 : Int) ≤ 0 by decide, show (0 : Int) ≤ 16000000000 by decide⟩, show (0 : Int) < 1 by decide, show (1 : Int) ≤ 4000000 by decide⟩
    have e0 : impl_fraction.F 0 1 = some (0, 1) := by rw [impl_fraction_val 0 1 (by omega) (by omega) (by omega) (by omega)]; exact congrArg some (frP_one 0 (by omega) (by omega))
    rw [e0]
    simp only [Option.bind_some]
    have L2 := iterF (fun (z : Int × Int) j => impl_panelsOf.L2 l s e ((i + 1 : Nat) : Int) p q H (H.length : Int) j a b c z.1 z.2) H.length (reachI l H) (fun j hj => by
      show impl_panelsOf.L2 l s e ((i + 1 : Nat) : Int) p q H (H.length : Int) (j : Int) a b c (reachI l H j).1 (reachI l H j).2 = impl_panelsOf.L2 l s e ((i + 1 : Nat) : Int) p q H (H.length : Int) ((j + 1 : Nat) : Int) a b c (reachI l H (j + 1)).1 (reachI l H (j + 1)).2
      have eR : reachI l H (j + 1) = pmax (reachI l H j) (widF l H[j]) := by unfold reachI; rw [List.take_add_one, List.getElem?_eq_getElem hj, List.map_append, List.foldl_append]; rfl
      have hy := hH _ (List.getElem_mem hj)
      have gy := widF_all l hs _ hy.1 hy.2
      have g : WG (reachI l H j) := fold_in pmax WG (fun _ _ => pmax_in WG) _ _ h01 (fun z hz => by
        obtain ⟨y, hy, rfl⟩ := List.mem_map.1 hz
        have := hH y (List.mem_of_mem_take hy)
        exact widF_all l hs y this.1 this.2)
      rw [impl_panelsOf.L2_eq, if_pos (by omega), if_pos (by omega), if_pos (by omega), rd_get H j hj, impl_widthAt_val l hs _ hy.1 hy.2, wS (by omega), eR]
      simp only [Option.bind_some]
      rw [lessW_cmp gy.2 g.2]
      simp only [Option.bind_some, cmpZ_pos]
      unfold pmax
      by_cases hc : (reachI l H j).1 * (widF l H[j]).2 < (widF l H[j]).1 * (reachI l H j).2
      · rw [if_pos hc, if_pos hc]
      · rw [if_neg hc, if_neg hc])
    refine Eq.trans L2 ?_
    show impl_panelsOf.L2 l s e ((i + 1 : Nat) : Int) p q H (H.length : Int) (H.length : Int) a b c (reachI l H H.length).1 (reachI l H H.length).2 = _
    have eR : reachI l H H.length = reachS l p q l.length := by unfold reachI; rw [List.take_length]; exact hsame
    have gd := (reachS_good l hs p q h1 h2 l.length (Nat.le_refl _)).1.1
    rw [impl_panelsOf.L2_eq, if_neg (by omega), eR]
    unfold impl_ceilDiv.f
    rw [if_neg (by omega)]
    simp only [Option.bind_some]
    rw [if_pos (by omega), wS (by omega), mn_min]
    rfl)
  refine Eq.trans this ?_
  show impl_panelsOf.L0 l (panF l e a b c n) e ((n : Int) + 1) a b c = _
  rw [impl_panelsOf.L0_eq, if_neg (by omega)]
def bulgedB (l : List S51) : Bool := (List.range l.length).all fun i => decide (¬ crossAt l i ((i + 1) % l.length) ((i + 2) % l.length) < 0)
def weaveCodeZ (l : List S51) (a b c : Int) : Int := if sailB l = true then (if weaveB a b c = true then (if bulgedB l = true then (if manyN (loZ l) (hiZ l) (a - b) > 40 then 5 else 0) else 6) else 1) else 1
theorem weaveCode_0 {l : List S51} {a b c : Int} (h : weaveCodeZ l a b c = 0) : sailB l = true ∧ weaveB a b c = true ∧ bulgedB l = true ∧ manyN (loZ l) (hiZ l) (a - b) ≤ 40 := by
  unfold weaveCodeZ at h
  split at h <;> rename_i h1
  · split at h <;> rename_i h2
    · split at h <;> rename_i h3
      · split at h <;> rename_i h4
        · omega
        · exact ⟨h1, h2, h3, by omega⟩
      · omega
    · omega
  · omega
theorem impl_twiceSail_val (l : List S51) (hn : 0 < l.length) (hl : l.length < 4611686018427387904) : impl_twiceSail.F l = some (twZ l l.length) := by
  rw [impl_twiceSail.F_eq]
  have := iterF (fun s i => impl_twiceSail.L0 l s l (l.length : Int) i) l.length (twZ l) (fun i hi => by
    show impl_twiceSail.L0 l _ _ _ _ = impl_twiceSail.L0 l _ _ _ _
    have hm := Nat.mod_lt (i + 1) hn
    rw [impl_twiceSail.L0_eq, if_pos (by omega), if_pos (by omega), if_pos (by omega), if_neg (by omega), tmodN i l.length (by omega), if_pos (by omega), if_pos (by omega), wS (by omega)]
    rfl)
  refine Eq.trans this ?_
  show impl_twiceSail.L0 l _ _ _ _ = _
  rw [impl_twiceSail.L0_eq, if_neg (by omega)]
theorem crossZ_bd {a b c d e f : Int} (ha : R2 a) (hb : R2 b) (hc : R2 c) (hd : R2 d) (he : R2 e) (hf : R2 f) : -8000000 ≤ crossZ a b c d e f ∧ crossZ a b c d e f ≤ 8000000 := by
  unfold crossZ R2 at *
  have h1 := mul_bd (c - a) (f - b) 2000 2000 (by omega) (by omega) (by omega) (by omega)
  have h2 := mul_bd (d - b) (e - a) 2000 2000 (by omega) (by omega) (by omega) (by omega)
  omega
theorem impl_turnAt_val {a b c d e f : Int} (ha : R2 a) (hb : R2 b) (hc : R2 c) (hd : R2 d) (he : R2 e) (hf : R2 f) : impl_turnAt.f a b c d e f = some (crossZ a b c d e f) := by
  unfold impl_turnAt.f
  rw [hc.ww ha hf hd hd hb he hc]
  unfold crossZ
  congr 1
  grind
theorem impl_sign_val (x : Int) : impl_sign.f x = some x.sign := by
  unfold impl_sign.f
  by_cases h : x > 0
  · rw [if_pos h, Int.sign_eq_one_of_pos h]
  · by_cases h2 : x < 0
    · rw [if_neg h, if_pos h2, Int.sign_eq_neg_one_of_neg h2]
    · rw [if_neg h, if_neg h2, show x = 0 by omega]; rfl
theorem sign_cross (x y : Int) : decide (wrap64 (x.sign * y.sign) < 0) = ((decide (x < 0) && decide (y > 0)) || (decide (x > 0) && decide (y < 0))) := by
  rcases Int.lt_trichotomy x 0 with hx | hx | hx <;> rcases Int.lt_trichotomy y 0 with hy | hy | hy <;>
    simp only [hx, hy, Int.sign_eq_neg_one_of_neg, Int.sign_eq_one_of_pos, Int.sign_zero] <;> (have := hx; have := hy; simp [wrap64]; try omega)
theorem impl_between_val (a b c d e f : Int) : impl_between.f a b c d e f = some (betB a b c d e f) := by
  unfold impl_between.f betB
  simp only [impl_within_val, mn_min, mx_max, Option.bind_some]
  cases inB e (min a c) (max a c) <;> simp
theorem impl_edgesMeet_val {a b c d e f g h : Int} (ha : R2 a) (hb : R2 b) (hc : R2 c) (hd : R2 d) (he : R2 e) (hf : R2 f) (hg : R2 g) (hh : R2 h) : impl_edgesMeet.F a b c d e f g h = some (meetB a b c d e f g h) := by
  rw [impl_edgesMeet.F_eq]
  simp only [impl_turnAt_val ha hb hc hd he hf, impl_turnAt_val ha hb hc hd hg hh, impl_turnAt_val he hf hg hh ha hb, impl_turnAt_val he hf hg hh hc hd, Option.bind_some, impl_sign_val, impl_edgesMeet.J0_eq, impl_between_val]
  have s1 := sign_cross (crossZ a b c d e f) (crossZ a b c d g h)
  have s2 := sign_cross (crossZ e f g h a b) (crossZ e f g h c d)
  rw [s2]
  unfold meetB onB sidesB
  rw [← s2, ← s1]
  generalize crossZ a b c d e f = x1 at *
  generalize crossZ a b c d g h = x2 at *
  generalize crossZ e f g h a b = x3 at *
  generalize crossZ e f g h c d = x4 at *
  generalize betB a b c d e f = b1
  generalize betB a b c d g h = b2
  generalize betB e f g h a b = b3
  generalize betB e f g h c d = b4
  by_cases hs : wrap64 (x1.sign * x2.sign) < 0
  · rw [if_pos hs]
    by_cases hs2 : wrap64 (x3.sign * x4.sign) < 0
    · simp [hs, hs2]
    · simp only [hs2, decide_false, nf, if_false]
      by_cases h1 : x1 = 0 <;> by_cases h2 : x2 = 0 <;> by_cases h3 : x3 = 0 <;> by_cases h4 : x4 = 0 <;> cases b1 <;> cases b2 <;> cases b3 <;> cases b4 <;> simp [h1, h2, h3, h4]
  · rw [if_neg hs]
    simp only [hs, decide_false, nf, if_false]
    by_cases h1 : x1 = 0 <;> by_cases h2 : x2 = 0 <;> by_cases h3 : x3 = 0 <;> by_cases h4 : x4 = 0 <;> cases b1 <;> cases b2 <;> cases b3 <;> cases b4 <;> simp [h1, h2, h3, h4]
/-- A loop that ends with one answer at the first element that isn't as it should be, with another one behind the last. -/
theorem allTo {α β : Type} (l : List α) (p : α → Bool) (g : Int → β) (no r : β) (h : ∀ i (hi : i < l.length), g (i : Int) = if p l[i] = true then g ((i + 1 : Nat) : Int) else no) (he : g (l.length : Int) = r) : g 0 = if l.all p = true then r else no := by
  have key : ∀ (d i : Nat), l.length - i = d → i ≤ l.length → g (i : Int) = if (l.drop i).all p = true then r else no := by
    intro d
    induction d with
    | zero =>
      intro i hd hi
      obtain rfl : i = l.length := by omega
      rw [he]; simp
    | succ d ih =>
      intro i hd hi
      have hlt : i < l.length := by omega
      rw [h i hlt, ih (i + 1) (by omega) (by omega), List.drop_eq_getElem_cons hlt, List.all_cons]
      by_cases hp : p l[i] = true
      · rw [if_pos hp, hp, Bool.true_and]
      · rw [if_neg hp, if_neg (by simp [hp])]
  have := key l.length 0 (by omega) (by omega)
  simpa using this
theorem impl_ValidSail_val (l : List S51) (hl : l.length < 2305843009213693952) : impl_ValidSail.F l = some (sailB l) := by
  rw [impl_ValidSail.F_eq]
  simp only [impl_ValidSail.J0_eq]
  by_cases hc : 3 ≤ l.length ∧ l.length ≤ 8
  · obtain ⟨h3, h8⟩ := hc
    rw [if_neg (by omega), if_neg (by simp; omega)]
    unfold sailB
    rw [show (decide (3 ≤ l.length) && decide (l.length ≤ 8)) = true by simp [h3, h8], Bool.true_and]
    have e0 := allTo l spotIn (fun i => impl_ValidSail.L0 l (l.length : Int) l (l.length : Int) i) (some false) _ (fun i hi => by
      show impl_ValidSail.L0 l _ _ _ _ = if _ then impl_ValidSail.L0 l _ _ _ _ else _
      rw [impl_ValidSail.L0_eq, if_pos (by omega), if_pos (by omega), if_pos (by omega), rdISpot l i hi, wS (by omega)]
      simp only [impl_within_val, Option.bind_some]
      unfold spotIn
      rw [ite_band]) (by
      show impl_ValidSail.L0 l _ _ _ _ = _
      rw [impl_ValidSail.L0_eq, if_neg (by omega)])
    refine e0.trans ?_
    by_cases ha : l.all spotIn = true
    · rw [if_pos ha, ha, Bool.true_and]
      have hR := spots_R l ha
      have hM : ∀ i, i % l.length < l.length := fun i => Nat.mod_lt i (by omega)
      have e1 := allTo (List.range l.length) (fun i => decide (crossAt l i ((i + 1) % l.length) ((i + 2) % l.length) ≠ 0)) (fun i => impl_ValidSail.L1 l (l.length : Int) (l.length : Int) i) (some false) (impl_ValidSail.L2 l (l.length : Int) (l.length : Int) 0) (fun i hi => by
        rw [List.length_range] at hi
        rw [List.getElem_range]
        show impl_ValidSail.L1 l _ _ _ = if _ then impl_ValidSail.L1 l _ _ _ else _
        have hm1 := hM (i + 1)
        have hm2 := hM (i + 2)
        rw [impl_ValidSail.L1_eq, if_pos (by omega), if_pos (by omega), if_pos (by omega), if_neg (by omega), tmodN i l.length (by omega), tmodN2 i l.length (by omega), if_pos (by omega), if_pos (by omega), if_pos (by omega), if_pos (by omega)]
        simp only [sx_def, sy_def]
        rw [impl_turnAt_val (hR i hi).1 (hR i hi).2 (hR _ hm1).1 (hR _ hm1).2 (hR _ hm2).1 (hR _ hm2).2, wS (by omega)]
        simp only [Option.bind_some]
        show (if crossAt l i _ _ = 0 then _ else _) = _
        by_cases hcr : crossAt l i ((i + 1) % l.length) ((i + 2) % l.length) = 0
        · rw [if_pos hcr, if_neg (by simp [hcr])]
        · rw [if_neg hcr, if_pos (by simp [hcr])]) (by
        rw [List.length_range]
        show impl_ValidSail.L1 l _ _ _ = _
        rw [impl_ValidSail.L1_eq, if_neg (by omega)])
      refine e1.trans ?_
      have e2 : impl_ValidSail.L2 l (l.length : Int) (l.length : Int) 0 = some ((List.range l.length).all (pairsOk l) && decide (twZ l l.length > 0)) := by
        refine allRange l.length _ (fun i => impl_ValidSail.L2 l (l.length : Int) (l.length : Int) i) _ (fun i hi => ?_) ?_
        · show impl_ValidSail.L2 l _ _ _ = if _ then impl_ValidSail.L2 l _ _ _ else _
          have hm1 := hM (i + 1)
          rw [impl_ValidSail.L2_eq, if_pos (by omega), w64 (n := (i : Int) + 2) (by omega) (by omega), show ((i : Int) + 2) = ((i + 2 : Nat) : Int) by omega]
          refine stepLoop (i + 2) l.length _ (fun k => impl_ValidSail.L3 l (l.length : Int) i k _ _) _ _ (fun k hk1 hk => ?_) (fun k hk => ?_)
          · show impl_ValidSail.L3 l _ _ _ _ _ = if _ then impl_ValidSail.L3 l _ _ _ _ _ else _
            have hk3 := hM (k + 1)
            have hi1 : (i + 1) % l.length = i + 1 := Nat.mod_eq_of_lt (by omega)
            rw [hi1] at hm1
            rw [impl_ValidSail.L3_eq, if_pos (by omega), if_neg (by omega), tmodN k l.length (by omega), wS (i := k) (by omega), wS (i := i) (by omega), if_pos (show (0 : Int) ≤ (i : Int) by omega), if_pos (show (i : Int) < (l.length : Int) by omega), if_pos (show (0 : Int) ≤ ((i + 1 : Nat) : Int) by omega), if_pos (show ((i + 1 : Nat) : Int) < (l.length : Int) by omega), if_pos (show (0 : Int) ≤ (k : Int) by omega), if_pos (show (k : Int) < (l.length : Int) by omega), if_pos (show (0 : Int) ≤ (((k + 1) % l.length : Nat) : Int) by omega), if_pos (show (((k + 1) % l.length : Nat) : Int) < (l.length : Int) by omega)]
            simp only [sx_def, sy_def, impl_edgesMeet_val (hR i hi).1 (hR i hi).2 (hR _ hm1).1 (hR _ hm1).2 (hR k hk).1 (hR k hk).2 (hR _ hk3).1 (hR _ hk3).2, Option.bind_some]
            rw [hi1]
            rw [show meetB (sx l i) (sy l i) (sx l (i + 1)) (sy l (i + 1)) (sx l k) (sy l k) (sx l ((k + 1) % l.length)) (sy l ((k + 1) % l.length)) = meetAt l i (i + 1) k ((k + 1) % l.length) from rfl]
            have hcase : ((((k + 1) % l.length : Nat) : Int) = (i : Int)) ↔ ¬ (i > 0 ∨ k < l.length - 1) := by
              by_cases hlast : k + 1 = l.length
              · rw [hlast, Nat.mod_self]; omega
              · rw [Nat.mod_eq_of_lt (by omega)]; omega
            by_cases hq : i > 0 ∨ k < l.length - 1
            · rw [if_neg (by rw [hcase]; exact fun h => h hq)]
              have : (decide (i > 0) || decide (k < l.length - 1)) = true := by simpa using hq
              rw [this]
              cases meetAt l i (i + 1) k ((k + 1) % l.length) <;> simp
            · rw [if_pos (hcase.2 hq)]
              have : (decide (i > 0) || decide (k < l.length - 1)) = false := by rw [← Bool.not_eq_true]; simpa using hq
              rw [this]; simp
          · show impl_ValidSail.L3 l _ _ _ _ _ = _
            rw [impl_ValidSail.L3_eq, if_neg (by omega), wS (by omega)]
        · show impl_ValidSail.L2 l _ _ _ = _
          rw [impl_ValidSail.L2_eq, if_neg (by omega), impl_twiceSail_val l (by omega) (by omega)]
          rfl
      rw [e2]
      generalize decide (twZ l l.length > 0) = t
      by_cases hA : (List.range l.length).all (fun i => decide (crossAt l i ((i + 1) % l.length) ((i + 2) % l.length) ≠ 0)) = true
      · rw [if_pos hA]
        congr 2
        rw [Bool.eq_iff_iff]
        simp only [List.all_eq_true, Bool.and_eq_true] at hA ⊢
        exact ⟨fun h x hx => ⟨hA x hx, h x hx⟩, fun h x hx => (h x hx).2⟩
      · rw [if_neg hA]
        have : (List.range l.length).all (fun i => decide (crossAt l i ((i + 1) % l.length) ((i + 2) % l.length) ≠ 0) && pairsOk l i) = false := by
          rw [← Bool.not_eq_true]
          intro h
          apply hA
          simp only [List.all_eq_true, Bool.and_eq_true] at h ⊢
          exact fun x hx => (h x hx).1
        rw [this]; rfl
    · rw [if_neg ha]; simp [ha]
  · unfold sailB
    have : (decide (3 ≤ l.length) && decide (l.length ≤ 8)) = false := by
      rw [← Bool.not_eq_true]; simp only [Bool.and_eq_true, decide_eq_true_eq]; exact hc
    rw [this, Bool.false_and]
    by_cases h3 : (l.length : Int) < 3
    · rw [if_pos h3]; rfl
    · rw [if_neg h3, if_pos (by simp; omega)]
theorem impl_ValidWeave_val (a b c : Int) : impl_ValidWeave.f a b c = some (weaveB a b c) := by
  unfold impl_ValidWeave.f weaveB
  simp only [impl_within_val, Option.bind_some]
  cases inB a 2 200 <;> cases inB b 0 20 <;> by_cases h : b < a <;> simp [h]
theorem impl_isBulged_val (l : List S51) (hs : sailB l = true) : impl_isBulged.F l = some (bulgedB l) := by
  obtain ⟨h3, h8, ha⟩ := sailB_len hs
  have hR := spots_R l ha
  have hM : ∀ i, i % l.length < l.length := fun i => Nat.mod_lt i (by omega)
  rw [impl_isBulged.F_eq]
  unfold bulgedB
  rw [← Bool.and_true (List.all _ _)]
  refine allRange l.length _ (fun i => impl_isBulged.L0 l (l.length : Int) (l.length : Int) i) true (fun i hi => ?_) ?_
  · show impl_isBulged.L0 l _ _ _ = if _ then impl_isBulged.L0 l _ _ _ else _
    have hm1 := hM (i + 1)
    have hm2 := hM (i + 2)
    rw [impl_isBulged.L0_eq, if_pos (by omega), if_pos (by omega), if_pos (by omega), if_neg (by omega), tmodN i l.length (by omega), tmodN2 i l.length (by omega), if_pos (by omega), if_pos (by omega), if_pos (by omega), if_pos (by omega)]
    simp only [sx_def, sy_def]
    rw [impl_turnAt_val (hR i hi).1 (hR i hi).2 (hR _ hm1).1 (hR _ hm1).2 (hR _ hm2).1 (hR _ hm2).2, wS (by omega)]
    simp only [Option.bind_some]
    show (if crossAt l i _ _ < 0 then _ else _) = _
    by_cases hcr : crossAt l i ((i + 1) % l.length) ((i + 2) % l.length) < 0
    · rw [if_pos hcr, if_neg (by simp [hcr])]
    · rw [if_neg hcr, if_pos (by simpa using hcr)]
  · show impl_isBulged.L0 l _ _ _ = _
    rw [impl_isBulged.L0_eq, if_neg (by omega)]
theorem impl_weaveCode_val (l : List S51) (a b c : Int) (hl : l.length < 2305843009213693952) : impl_weaveCode.F l a b c = some (weaveCodeZ l a b c) := by
  rw [impl_weaveCode.F_eq, impl_ValidSail_val l hl]
  simp only [Option.bind_some]
  unfold weaveCodeZ
  by_cases hs : sailB l = true
  · rw [if_pos hs, if_pos hs, impl_ValidWeave_val]
    simp only [Option.bind_some]
    rw [impl_weaveCode.J0_eq]
    by_cases hw : weaveB a b c = true
    · rw [if_pos hw, if_neg (by simp [hw]), impl_isBulged_val l hs]
      simp only [Option.bind_some]
      by_cases hg : bulgedB l = true
      · rw [if_pos hg, if_pos hg, impl_panelEdges_val l a b c hs hw]
        simp only [Option.bind_some]
        rw [edges_len]
        by_cases h4 : manyN (loZ l) (hiZ l) (a - b) > 40
        · rw [if_pos h4, if_pos (by omega)]
        · rw [if_neg h4, if_neg (by omega)]
      · rw [if_neg hg, if_neg hg]
    · rw [if_neg hw, if_pos (by simp [hw])]
  · rw [if_neg hs, if_neg hs, impl_weaveCode.J0_eq, if_pos rfl]
theorem spec_l13Cross_val {a b c d e f : Int} (ha : R2 a) (hb : R2 b) (hc : R2 c) (hd : R2 d) (he : R2 e) (hf : R2 f) : spec_l13Cross.f a b c d e f = some (crossZ a b c d e f) := by
  unfold spec_l13Cross.f crossZ
  rw [hc.ww ha hf hb hd hb he ha]
theorem spec_l13On_val {a b c d e f : Int} (ha : R2 a) (hb : R2 b) (hc : R2 c) (hd : R2 d) (he : R2 e) (hf : R2 f) : spec_l13On.f a b c d e f = some (onB a b c d e f) := by
  unfold spec_l13On.f onB betB
  simp only [spec_l13Cross_val ha hb hc hd he hf, Option.bind_some, spec_l00Min_val, spec_l00Max_val, spec_l00In_val]
  by_cases h : crossZ a b c d e f = 0
  · rw [if_pos h]
    cases inB e (min a c) (max a c) <;> simp [h]
  · rw [if_neg h]; simp [h]
theorem spec_l13Sides_val {a b c d e f g h : Int} (ha : R2 a) (hb : R2 b) (hc : R2 c) (hd : R2 d) (he : R2 e) (hf : R2 f) (hg : R2 g) (hh : R2 h) : spec_l13Sides.f a b c d e f g h = some (sidesB a b c d e f g h) := by
  unfold spec_l13Sides.f sidesB
  simp only [spec_l13Cross_val ha hb hc hd he hf, spec_l13Cross_val ha hb hc hd hg hh, Option.bind_some]
  generalize crossZ a b c d e f = x
  generalize crossZ a b c d g h = y
  by_cases h1 : x < 0 <;> by_cases h2 : y > 0 <;> by_cases h3 : x > 0 <;> simp [h1, h2, h3] <;> omega
theorem spec_l13Meet_val {a b c d e f g h : Int} (ha : R2 a) (hb : R2 b) (hc : R2 c) (hd : R2 d) (he : R2 e) (hf : R2 f) (hg : R2 g) (hh : R2 h) : spec_l13Meet.F a b c d e f g h = some (meetB a b c d e f g h) := by
  rw [spec_l13Meet.F_eq]
  simp only [spec_l13On_val ha hb hc hd he hf, spec_l13On_val ha hb hc hd hg hh, spec_l13On_val he hf hg hh ha hb, spec_l13On_val he hf hg hh hc hd, Option.bind_some, spec_l13Meet.J0_eq, spec_l13Sides_val ha hb hc hd he hf hg hh, spec_l13Sides_val he hf hg hh ha hb hc hd]
  unfold meetB
  cases onB a b c d e f <;> cases onB a b c d g h <;> cases onB e f g h a b <;> cases onB e f g h c d <;> cases sidesB a b c d e f g h <;> simp
theorem spec_l13Ok_val (l : List S51) (hl : l.length < 2305843009213693952) : spec_l13Ok.F l = some (sailB l) := by
  rw [spec_l13Ok.F_eq, spec_l00In_val]
  simp only [Option.bind_some]
  by_cases hc : 3 ≤ l.length ∧ l.length ≤ 8
  · obtain ⟨h3, h8⟩ := hc
    rw [if_pos ((inB_iff _ _ _).2 (by omega))]
    unfold sailB
    rw [show (decide (3 ≤ l.length) && decide (l.length ≤ 8)) = true by simp [h3, h8], Bool.true_and]
    have e0 := allTo l spotIn (fun i => spec_l13Ok.L0 l (l.length : Int) i) (some false) _ (fun i hi => by
      show spec_l13Ok.L0 l _ _ = if _ then spec_l13Ok.L0 l _ _ else _
      rw [spec_l13Ok.L0_eq, if_pos (by omega), if_pos (by omega), if_pos (by omega), rdISpot l i hi, wS (by omega)]
      simp only [spec_l00In_val, Option.bind_some]
      unfold spotIn
      rw [ite_band]) (by
      show spec_l13Ok.L0 l _ _ = _
      rw [spec_l13Ok.L0_eq, if_neg (by omega)])
    refine e0.trans ?_
    by_cases ha : l.all spotIn = true
    · rw [if_pos ha, ha, Bool.true_and]
      have hR := spots_R l ha
      have hM : ∀ i, i % l.length < l.length := fun i => Nat.mod_lt i (by omega)
      refine allRange l.length _ (fun i => spec_l13Ok.L1 l (l.length : Int) i) _ (fun i hi => ?_) ?_
      · show spec_l13Ok.L1 l _ _ = if _ then spec_l13Ok.L1 l _ _ else _
        have hm1 := hM (i + 1)
        have hm2 := hM (i + 2)
        rw [spec_l13Ok.L1_eq, if_pos (by omega), if_pos (by omega), if_pos (by omega), if_neg (by omega), tmodN i l.length (by omega), tmodN2 i l.length (by omega), if_pos (by omega), if_pos (by omega), if_pos (by omega), if_pos (by omega)]
        simp only [sx_def, sy_def]
        rw [spec_l13Cross_val (hR i hi).1 (hR i hi).2 (hR _ hm1).1 (hR _ hm1).2 (hR _ hm2).1 (hR _ hm2).2]
        simp only [Option.bind_some]
        rw [ite_band]
        show (if crossAt l i _ _ = 0 then _ else _) = _
        by_cases hcr : crossAt l i ((i + 1) % l.length) ((i + 2) % l.length) = 0
        · rw [if_pos hcr, if_neg (by simp [hcr])]
        · rw [if_neg hcr, if_pos (by simp [hcr]), w64 (by omega) (by omega), show ((i : Int) + 2) = ((i + 2 : Nat) : Int) by omega]
          refine stepLoop (i + 2) l.length _ (fun k => spec_l13Ok.L2 l (l.length : Int) i k _ _ _ _) _ _ (fun k hk1 hk => ?_) (fun k hk => ?_)
          · show spec_l13Ok.L2 l _ _ _ _ _ _ _ = if _ then spec_l13Ok.L2 l _ _ _ _ _ _ _ else _
            have hk3 := hM (k + 1)
            rw [spec_l13Ok.L2_eq, if_pos (by omega), tmodN k l.length (by omega), w64 (n := (l.length : Int) - 1) (by omega) (by omega), wS (i := k) (by omega)]
            simp only [sx_def, sy_def, spec_l13Meet_val (hR i hi).1 (hR i hi).2 (hR _ hm1).1 (hR _ hm1).2 (hR k hk).1 (hR k hk).2 (hR _ hk3).1 (hR _ hk3).2, Option.bind_some]
            rw [show meetB (sx l i) (sy l i) (sx l ((i + 1) % l.length)) (sy l ((i + 1) % l.length)) (sx l k) (sy l k) (sx l ((k + 1) % l.length)) (sy l ((k + 1) % l.length)) = meetAt l i ((i + 1) % l.length) k ((k + 1) % l.length) from rfl]
            have c1 : ((i : Int) > 0) ↔ i > 0 := by omega
            have c2 : ((k : Int) < (l.length : Int) - 1) ↔ k < l.length - 1 := by omega
            rw [if_pos (show (0 : Int) ≤ (k : Int) by omega), if_pos (show (k : Int) < (l.length : Int) by omega), if_neg (show ¬ (l.length : Int) = 0 by omega), if_pos (show (0 : Int) ≤ (((k + 1) % l.length : Nat) : Int) by omega), if_pos (show (((k + 1) % l.length : Nat) : Int) < (l.length : Int) by omega)]
            simp only [c1, c2]
            cases meetAt l i ((i + 1) % l.length) k ((k + 1) % l.length) <;> by_cases h1 : i > 0 <;> by_cases h2 : k < l.length - 1 <;> simp [h1, h2]
          · show spec_l13Ok.L2 l _ _ _ _ _ _ _ = _
            rw [spec_l13Ok.L2_eq, if_neg (by omega), wS (by omega)]
      · show spec_l13Ok.L1 l _ _ = _
        rw [spec_l13Ok.L1_eq, if_neg (by omega), spec_l13Twice_val l (by omega) (by omega)]
        rfl
    · rw [if_neg ha]; simp [ha]
  · rw [if_neg (by rw [inB_iff]; omega)]
    unfold sailB
    have : (decide (3 ≤ l.length) && decide (l.length ≤ 8)) = false := by
      rw [← Bool.not_eq_true]; simp only [Bool.and_eq_true, decide_eq_true_eq]; exact hc
    rw [this, Bool.false_and]
theorem spec_l15Ok_val (a b c : Int) : spec_l15Ok.f a b c = some (weaveB a b c) := by
  unfold spec_l15Ok.f weaveB
  simp only [spec_l00In_val, Option.bind_some]
  cases inB a 2 200 <;> cases inB b 0 20 <;> by_cases h : b < a <;> simp [h]
theorem spec_l13Bulged_val (l : List S51) (hs : sailB l = true) : spec_l13Bulged.F l = some (bulgedB l) := by
  obtain ⟨h3, h8, ha⟩ := sailB_len hs
  have hR := spots_R l ha
  have hM : ∀ i, i % l.length < l.length := fun i => Nat.mod_lt i (by omega)
  rw [spec_l13Bulged.F_eq]
  unfold bulgedB
  rw [← Bool.and_true (List.all _ _)]
  refine allRange l.length _ (fun i => spec_l13Bulged.L0 l (l.length : Int) i) true (fun i hi => ?_) ?_
  · show spec_l13Bulged.L0 l _ _ = if _ then spec_l13Bulged.L0 l _ _ else _
    have hm1 := hM (i + 1)
    have hm2 := hM (i + 2)
    rw [spec_l13Bulged.L0_eq, if_pos (by omega), if_pos (by omega), if_pos (by omega), if_neg (by omega), tmodN i l.length (by omega), tmodN2 i l.length (by omega), if_pos (by omega), if_pos (by omega), if_pos (by omega), if_pos (by omega)]
    simp only [sx_def, sy_def]
    rw [spec_l13Cross_val (hR i hi).1 (hR i hi).2 (hR _ hm1).1 (hR _ hm1).2 (hR _ hm2).1 (hR _ hm2).2, wS (by omega)]
    simp only [Option.bind_some]
    show (if crossAt l i _ _ < 0 then _ else _) = _
    by_cases hcr : crossAt l i ((i + 1) % l.length) ((i + 2) % l.length) < 0
    · rw [if_pos hcr, if_neg (by simp [hcr])]
    · rw [if_neg hcr, if_pos (by simpa using hcr)]
  · show spec_l13Bulged.L0 l _ _ = _
    rw [spec_l13Bulged.L0_eq, if_neg (by omega)]
theorem spec_l15Code_val (l : List S51) (a b c : Int) (hl : l.length < 2305843009213693952) : spec_l15Code.F l a b c = some (weaveCodeZ l a b c) := by
  rw [spec_l15Code.F_eq, spec_l13Ok_val l hl]
  simp only [Option.bind_some]
  unfold weaveCodeZ
  by_cases hs : sailB l = true
  · rw [if_pos hs, if_pos hs, spec_l15Ok_val]
    simp only [Option.bind_some]
    rw [spec_l15Code.J0_eq]
    by_cases hw : weaveB a b c = true
    · rw [if_pos hw, if_neg (by simp [hw]), spec_l13Bulged_val l hs]
      simp only [Option.bind_some]
      by_cases hg : bulgedB l = true
      · rw [if_pos hg, if_pos hg, spec_l13Limits_val l (by have := sailB_len hs; omega) (by omega)]
        simp only [Option.bind_some]
        obtain ⟨r1, r2, r3⟩ := lohi l hs
        have hw := weaveB_iff.1 hw
        have hb := many_bd r1 r2 r3 (each := a - b) (by omega) (by omega)
        unfold spec_l15Many.f
        unfold R2 at r1 r2
        rw [w64 (n := a - b) (by omega) (by omega), if_neg (by omega), w64 (n := hiZ l - loZ l) (by omega) (by omega), w64 (n := hiZ l - loZ l + (a - b)) (by omega) (by omega), w64 (n := hiZ l - loZ l + (a - b) - 1) (by omega) (by omega), Int.tdiv_eq_ediv_of_nonneg (by omega), hb.1, w64 (by omega) (by omega)]
        simp only [Option.bind_some]
        by_cases h4 : manyN (loZ l) (hiZ l) (a - b) > 40
        · rw [if_pos h4, if_pos (by omega)]
        · rw [if_neg h4, if_neg (by omega)]
      · rw [if_neg hg, if_neg hg]
    · rw [if_neg hw, if_pos (by simp [hw])]
  · rw [if_neg hs, if_neg hs, spec_l15Code.J0_eq, if_pos rfl]
def clothZ (l : List S51) (a b c : Int) : Int := sumP (panels l a b c) (panels l a b c).length * a
/-- The best width of the first i, and its cloth. -/
def bestC (l : List S51) (b c : Int) (W : List Int) : Nat → Int × Int
  | 0 => (-1, 0)
  | i + 1 => if weaveCodeZ l (rd W (i : Int)) b c = 0 ∧ ((bestC l b c W i).1 < 0 ∨ clothZ l (rd W (i : Int)) b c < (bestC l b c W i).2) then ((i : Int), clothZ l (rd W (i : Int)) b c) else bestC l b c W i
theorem clothZ_bd {l : List S51} {a b c : Int} (h : weaveCodeZ l a b c = 0) : 0 ≤ clothZ l a b c ∧ clothZ l a b c ≤ 160000001600000 := by
  obtain ⟨hs, hw, _, hk⟩ := weaveCode_0 h
  exact waste_bd l a b c hs hw hk _ (Nat.le_refl _)
theorem bestC_bd (l : List S51) (b c : Int) (W : List Int) (i : Nat) : 0 ≤ (bestC l b c W i).2 ∧ (bestC l b c W i).2 ≤ 160000001600000 := by
  induction i with
  | zero => show 0 ≤ (0 : Int) ∧ (0 : Int) ≤ _; omega
  | succ i ih =>
    unfold bestC
    split
    · rename_i h; exact clothZ_bd h.1
    · exact ih
theorem twZ_bd (l : List S51) (hs : sailB l = true) (i : Nat) (hi : i ≤ l.length) : -((i : Int) * 8000000) ≤ twZ l i ∧ twZ l i ≤ (i : Int) * 8000000 := by
  obtain ⟨h3, h8, ha⟩ := sailB_len hs
  have hR := spots_R l ha
  induction i with
  | zero => show _ ≤ (0 : Int) ∧ (0 : Int) ≤ _; omega
  | succ i ih =>
    have h := ih (by omega)
    have hm : (i + 1) % l.length < l.length := Nat.mod_lt _ (by omega)
    have r1 := hR i (by omega)
    have r2 := hR _ hm
    have m1 := mul_bd (sx l i) (sy l ((i + 1) % l.length)) 2000 2000 (by unfold R2 at *; omega) (by unfold R2 at *; omega) (by unfold R2 at *; omega) (by unfold R2 at *; omega)
    have m2 := mul_bd (sx l ((i + 1) % l.length)) (sy l i) 2000 2000 (by unfold R2 at *; omega) (by unfold R2 at *; omega) (by unfold R2 at *; omega) (by unfold R2 at *; omega)
    show _ ≤ wrap64 _ ∧ wrap64 _ ≤ _
    rw [w64 (n := sx l i * sy l ((i + 1) % l.length)) (by omega) (by omega), w64 (n := sx l ((i + 1) % l.length) * sy l i) (by omega) (by omega), w64 (n := sx l i * sy l ((i + 1) % l.length) - sx l ((i + 1) % l.length) * sy l i) (by omega) (by omega), w64 (by omega) (by omega)]
    omega
theorem impl_best (l : List S51) (b c : Int) (W : List Int) (hW : W.length ≤ 10) (hl : l.length < 2305843009213693952) (a : Int) : impl_BestCloth.L0 l (-1) 0 W (W.length : Int) 0 a b c = some (if (bestC l b c W W.length).1 < 0 then (0, 3) else ((bestC l b c W W.length).1, 0)) := by
  have := iterF (fun (s : Int × Int × Int) i => impl_BestCloth.L0 l s.1 s.2.1 W (W.length : Int) i s.2.2 b c) W.length (fun i => ((bestC l b c W i).1, (bestC l b c W i).2, if i = 0 then a else rd W ((i - 1 : Nat) : Int))) (fun i hi => by
    show impl_BestCloth.L0 l (bestC l b c W i).1 (bestC l b c W i).2 W (W.length : Int) (i : Int) _ b c = impl_BestCloth.L0 l (bestC l b c W (i + 1)).1 (bestC l b c W (i + 1)).2 W (W.length : Int) ((i + 1 : Nat) : Int) (rd W (i : Int)) b c
    rw [impl_BestCloth.L0_eq, if_pos (by omega), if_pos (by omega), if_pos (by omega), impl_weaveCode_val l _ b c hl, wS (by omega)]
    simp only [Option.bind_some]
    rw [bestC]
    by_cases hz : weaveCodeZ l (rd W (i : Int)) b c = 0
    · obtain ⟨hs, hw, _, hk⟩ := weaveCode_0 hz
      have hS := panels_sum l _ b c hs hw hk
      have h2 := clothZ_bd hz
      rw [if_pos hz, impl_panelsOf_val l _ b c hs hw hk]
      simp only [Option.bind_some]
      rw [impl_clothLength_val _ (by omega), (hS.2 _ (Nat.le_refl _)).2]
      simp only [Option.bind_some]
      rw [show wrap64 (sumP (panels l (rd W (i : Int)) b c) (panels l (rd W (i : Int)) b c).length * rd W (i : Int)) = clothZ l (rd W (i : Int)) b c from w64 (by unfold clothZ at h2; omega) (by unfold clothZ at h2; omega)]
      by_cases h3 : (bestC l b c W i).1 < 0
      · rw [if_pos h3, if_pos ⟨hz, Or.inl h3⟩]
      · rw [if_neg h3]
        by_cases h4 : clothZ l (rd W (i : Int)) b c < (bestC l b c W i).2
        · rw [if_pos h4, if_pos ⟨hz, Or.inr h4⟩]
        · rw [if_neg h4, if_neg (fun h => by rcases h.2 with h | h <;> contradiction)]
    · have hno : ¬ (weaveCodeZ l (rd W (i : Int)) b c = 0 ∧ ((bestC l b c W i).1 < 0 ∨ clothZ l (rd W (i : Int)) b c < (bestC l b c W i).2)) := fun h => hz h.1
      rw [if_neg hz, if_neg hno])
  refine Eq.trans this ?_
  show impl_BestCloth.L0 l (bestC l b c W W.length).1 (bestC l b c W W.length).2 W (W.length : Int) (W.length : Int) _ b c = _
  rw [impl_BestCloth.L0_eq, if_neg (by omega)]
  split <;> rfl
theorem spec_best (l : List S51) (b c : Int) (W : List Int) (hW : W.length ≤ 10) (hl : l.length < 2305843009213693952) (a : Int) : spec_BestCloth.L0 l W (-1) 0 0 a b c = some (if (bestC l b c W W.length).1 < 0 then (0, 3) else ((bestC l b c W W.length).1, 0)) := by
  have := iterF (fun (s : Int × Int) i => spec_BestCloth.L0 l W s.1 s.2 i a b c) W.length (fun i => ((bestC l b c W i).1, if (bestC l b c W i).1 < 0 then 0 else 2 * (bestC l b c W i).2 - twZ l l.length)) (fun i hi => by
    show spec_BestCloth.L0 l W (bestC l b c W i).1 (if (bestC l b c W i).1 < 0 then 0 else 2 * (bestC l b c W i).2 - twZ l l.length) (i : Int) a b c = spec_BestCloth.L0 l W (bestC l b c W (i + 1)).1 (if (bestC l b c W (i + 1)).1 < 0 then 0 else 2 * (bestC l b c W (i + 1)).2 - twZ l l.length) ((i + 1 : Nat) : Int) a b c
    rw [spec_BestCloth.L0_eq, if_pos (by omega), if_pos (by omega), spec_l15Code_val l _ b c hl, wS (by omega)]
    simp only [Option.bind_some]
    rw [bestC]
    by_cases hz : weaveCodeZ l (rd W (i : Int)) b c = 0
    · obtain ⟨hs, hw, _, hk⟩ := weaveCode_0 hz
      have h2 := clothZ_bd hz
      have h8 := sailB_len hs
      have ht := twZ_bd l hs l.length (Nat.le_refl _)
      rw [if_pos hz, spec_l15Waste_val l _ b c hs hw hk]
      simp only [Option.bind_some]
      rw [show wasteZ l (rd W (i : Int)) b c = 2 * clothZ l (rd W (i : Int)) b c by unfold wasteZ clothZ; grind, w64 (by omega) (by omega)]
      by_cases h3 : (bestC l b c W i).1 < 0
      · rw [if_pos h3, if_pos ⟨hz, Or.inl h3⟩, if_neg (show ¬ (i : Int) < 0 by omega)]
      · rw [if_neg h3, if_neg h3]
        by_cases h4 : clothZ l (rd W (i : Int)) b c < (bestC l b c W i).2
        · rw [if_pos (by omega), if_pos ⟨hz, Or.inr h4⟩, if_neg (show ¬ (i : Int) < 0 by omega)]
        · rw [if_neg (by omega), if_neg (fun h => by rcases h.2 with h | h <;> contradiction), if_neg h3]
    · have hno : ¬ (weaveCodeZ l (rd W (i : Int)) b c = 0 ∧ ((bestC l b c W i).1 < 0 ∨ clothZ l (rd W (i : Int)) b c < (bestC l b c W i).2)) := fun h => hz h.1
      rw [if_neg hz, if_neg hno])
  refine Eq.trans this ?_
  show spec_BestCloth.L0 l W (bestC l b c W W.length).1 _ (W.length : Int) a b c = _
  rw [spec_BestCloth.L0_eq, if_neg (by omega)]
  split <;> rfl
theorem pure_FnExactBestCloth : laws_FnExactBestCloth.Pure := by
  intro q a b c W hq ha hb hc hW
  refine of_lim (g := fun k => laws_FnExactBestCloth.f k q a b c W) ?_
  show laws_FnExactBestCloth.F q a b c W = some true
  by_cases hn : (W.length : Int) > 1048576
  · rw [laws_FnExactBestCloth.F_eq, if_pos hn]
  obtain ⟨r, hr, h⟩ := laws_szSpotS_val q 1048576 hq.1 (by omega) (by omega)
  rcases h with h | ⟨h1, h2, h3⟩
  · rw [laws_FnExactBestCloth.F_eq, if_neg hn, hr]; simp only [Option.bind_some]; rw [if_pos h]
  · have hm : (q.map spotTo).length ≤ 1048576 := by rw [List.length_map]; omega
    have e3 := laws_toSpotS_val q (by omega)
    generalize q.map spotTo = l at e3 hm
    have e4 := laws_eqSpotS_val l (by omega)
    have e5 := laws_toInt64S_val W (by omega)
    have e6 := laws_eqInt64S_val W (by omega)
    obtain ⟨y, z, e1, e2⟩ : ∃ y z, spec_BestCloth.F l a b c W = some (y, z) ∧ impl_BestCloth.F l a b c W = some (y, z) := by
      rw [spec_BestCloth.F_eq, impl_BestCloth.F_eq, spec_l13Ok_val l (by omega), impl_ValidSail_val l (by omega), spec_l15Ok_val, impl_ValidWeave_val]
      simp only [Option.bind_some, spec_BestCloth.J0_eq, impl_BestCloth.J0_eq]
      by_cases hs : sailB l = true
      · rw [if_pos hs, if_pos hs]
        cases hw : weaveB a b c with
        | false => exact ⟨_, _, rfl, rfl⟩
        | true =>
          rw [show (!true) = false from rfl, if_neg nf, if_neg nf]
          by_cases h10 : (W.length : Int) > 10
          · rw [if_pos h10, if_pos h10]; exact ⟨_, _, rfl, rfl⟩
          · rw [if_neg h10, if_neg h10, spec_l13Bulged_val l hs, impl_isBulged_val l hs]
            simp only [Option.bind_some]
            by_cases hb : bulgedB l = true
            · rw [if_pos hb, if_pos hb, spec_best l b c W (by omega) (by omega), impl_best l b c W (by omega) (by omega)]
              exact ⟨_, _, rfl, rfl⟩
            · rw [if_neg hb, if_neg hb]; exact ⟨_, _, rfl, rfl⟩
      · rw [if_neg hs, if_neg hs]; exact ⟨_, _, rfl, rfl⟩
    have n2 : ¬ r < 0 := by omega
    simp [laws_FnExactBestCloth.F_eq, laws_FnExactBestCloth.J0_eq, laws_toWeave.f, hn, hr, n2, e3, e4, e5, e6, e1, e2]
end Go.Proofs.Ytmljmfepnlpgfaa.PFnExactBestCloth
namespace Go.Proofs.Ytmljmfepnlpgfaa.Pure
theorem FnExactBestCloth : PFnExactBestCloth.laws_FnExactBestCloth.Pure := PFnExactBestCloth.pure_FnExactBestCloth
end Go.Proofs.Ytmljmfepnlpgfaa.Pure
