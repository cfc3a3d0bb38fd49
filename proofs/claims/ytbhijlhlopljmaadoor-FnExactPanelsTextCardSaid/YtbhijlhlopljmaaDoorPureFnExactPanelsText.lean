/-
  The pure side of FnExactPanelsText: the program's PanelsText gives what the reference's gives. No conditions.
-/
import Derived.Test.YtbhijlhlopljmaaDoorQFnExactPanelsText
set_option linter.unusedVariables false
set_option linter.unusedSimpArgs false
set_option linter.unnecessarySimpa false
namespace Go.Proofs.YtbhijlhlopljmaaDoor.PFnExactPanelsText
open Go.RowKit Go.Proofs.YtbhijlhlopljmaaDoor.Kit Go.Proofs.YtbhijlhlopljmaaDoorW.PrintWords Go.Proofs.YtbhijlhlopljmaaDoorW.PrintLast Go.Proofs.YtbhijlhlopljmaaDoorW.PrintMore

theorem laws_szPanelS_val (l : List S55) (n : Int) (h : l.length ≤ 9223372036854775807) (hn : 0 ≤ n) (hn2 : n ≤ 1048576) : ∃ r, laws_szPanelS.f l n = some r ∧ (r < 0 ∨ 0 ≤ r ∧ r ≤ n ∧ (l.length : Int) ≤ n) := by
  unfold laws_szPanelS.f
  rw [w64 (by omega) (by omega)]
  by_cases hc : n < l.length
  · exact ⟨-1, by rw [if_pos (by omega)], Or.inl (by omega)⟩
  · exact ⟨n - l.length, by rw [if_neg (by omega)], Or.inr (by omega)⟩
theorem rdLPanel (l : List S55) (i : Nat) (h : i < l.length) : rd_T55 l (i : Int) = l[i] := by simp [rd_T55, h]
def panelTo (p : S55) : S53 := ⟨p.f0, p.f1⟩
theorem laws_toPanelS_val (l : List S55) (hl : l.length ≤ 1048576) : laws_toPanelS.F l = some (l.map panelTo) := by
  rw [laws_toPanelS.F_eq, if_pos (by omega), if_pos (by omega), Int.toNat_natCast]
  have := fillLoop (l.map panelTo) z53 (fun s i => laws_toPanelS.L0 l s i) (fun i s hi hs => by
    rw [List.length_map] at hi hs
    show laws_toPanelS.L0 l s i = _
    rw [laws_toPanelS.L0_eq, if_pos (by omega), if_pos (by omega), rdLPanel l i hi, wS (by omega)]
    unfold laws_toPanel.f
    simp only [Option.bind_some]
    rw [if_pos (by omega), Int.toNat_natCast, List.getElem_map]
    rfl)
  rw [List.length_map] at this
  refine this.trans ?_
  show laws_toPanelS.L0 l _ _ = _
  rw [laws_toPanelS.L0_eq, if_neg (by omega)]
theorem laws_eqPanelS_val (l : List S53) (hl : l.length < 4611686018427387904) : laws_eqPanelS.F l l = some true := by
  rw [laws_eqPanelS.F_eq, if_pos rfl]
  have := allLoop l (fun _ => true) (fun i => laws_eqPanelS.L0 l l i) true (fun i hi => by
    show laws_eqPanelS.L0 l l i = _
    rw [laws_eqPanelS.L0_eq, if_pos (by omega), if_pos (by omega), if_pos (by omega), wS (by omega)]
    unfold laws_eqPanel.f
    simp) (by
    show laws_eqPanelS.L0 l l _ = _
    rw [laws_eqPanelS.L0_eq, if_neg (by omega)])
  rw [this]; simp
def inB (n a b : Int) : Bool := decide (a ≤ n) && decide (n ≤ b)
theorem inB_iff (n a b : Int) : inB n a b = true ↔ a ≤ n ∧ n ≤ b := by simp [inB]
theorem inB_no (n a b : Int) : inB n a b = false ↔ ¬ (a ≤ n ∧ n ≤ b) := by rw [← inB_iff]; simp
theorem spec_l00In_val (n a b : Int) : spec_l00In.f n a b = some (inB n a b) := by
  unfold spec_l00In.f inB
  by_cases h : n ≥ a
  · rw [if_pos h]; simp [show a ≤ n from h]
  · rw [if_neg h]; simp; omega
def panelOk (p : S53) : Bool := inB p.f0 1 10000 && inB p.f1 1 200
theorem panelOk_def (p : S53) : panelOk p = (inB p.f0 1 10000 && inB p.f1 1 200) := rfl
def panelsOk (l : List S53) : Bool := l.all panelOk && decide (l.length ≤ 40)
theorem rdIPanel (l : List S53) (i : Nat) (h : i < l.length) : rd_T53 l (i : Int) = l[i] := by simp [rd_T53, h]
theorem spec_l15List_val (l : List S53) (hl : l.length < 4611686018427387904) : spec_l15List.F l = some (panelsOk l) := by
  rw [spec_l15List.F_eq]
  refine allLoop l panelOk (fun i => spec_l15List.L0 l i) _ (fun i hi => ?_) ?_
  · show spec_l15List.L0 l i = _
    rw [spec_l15List.L0_eq, if_pos (by omega), if_pos (by omega), rdIPanel l i hi, wS (by omega), spec_l00In_val, spec_l00In_val]
    simp only [Option.bind_some]
    rw [panelOk_def, ite_band]
  · show spec_l15List.L0 l _ = _
    rw [spec_l15List.L0_eq, if_neg (by omega)]
    simp; omega
theorem impl_within_val (n a b : Int) : impl_within.f n a b = some (inB n a b) := by
  unfold impl_within.f inB
  by_cases h : n ≥ a
  · rw [if_pos h]; simp [show a ≤ n from h]
  · rw [if_neg h]; simp; omega
theorem impl_ValidPanels_val (l : List S53) (hl : l.length < 4611686018427387904) : impl_ValidPanels.F l = some (panelsOk l) := by
  rw [impl_ValidPanels.F_eq]
  unfold panelsOk
  by_cases h : (l.length : Int) > 40
  · rw [if_pos h]; simp; omega
  · rw [if_neg h]
    have := allLoop l panelOk (fun i => impl_ValidPanels.L0 l (l.length : Int) i) true (fun i hi => by
      show impl_ValidPanels.L0 l _ i = _
      rw [impl_ValidPanels.L0_eq, if_pos (by omega), if_pos (by omega), if_pos (by omega), rdIPanel l i hi, wS (by omega), impl_within_val, impl_within_val]
      simp only [Option.bind_some]
      rw [panelOk_def, ite_band]) (by
      show impl_ValidPanels.L0 l _ _ = _
      rw [impl_ValidPanels.L0_eq, if_neg (by omega)])
    rw [this]
    simp; omega
/-- A number's decimal form. -/
def dec (n : Int) : ByteArray := ⟨(Lib.itoa n).toArray⟩
def digN (u : Nat) : List Int := (Lib.decDigits u).map fun b => (b.toNat : Int)
theorem digN_small {u : Nat} (h : u < 10) : digN u = [48 + (u : Int)] := by
  unfold digN
  rw [Lib.decDigits_one h, List.map_cons, List.map_nil]
  congr 1
  rw [UInt8.toNat_ofNat_of_lt' (by show 48 + u < 256; omega)]
  push_cast; rfl
theorem digN_big {u : Nat} (h : ¬ u < 10) : digN u = digN (u / 10) ++ [48 + ((u % 10 : Nat) : Int)] := by
  unfold digN
  rw [Lib.decDigits, dif_neg h, List.map_append, List.map_cons, List.map_nil, UInt8.toNat_ofNat_of_lt' (by show 48 + u % 10 < 256; omega)]
  push_cast; rfl
theorem nD_le (k : Nat) : ∀ u, u < 10 ^ (k + 1) → Lib.nDigits u ≤ k + 1 := by
  induction k with
  | zero => intro u h; rw [Lib.nDigits_small (by omega)]; omega
  | succ k ih =>
    intro u h
    by_cases hu : u < 10
    · rw [Lib.nDigits_small hu]; omega
    · rw [Lib.nDigits_big hu]
      have := ih (u / 10) (by rw [Nat.pow_succ] at h; omega)
      omega
theorem nD_20 (u : Nat) (h : u < 18446744073709551616) : Lib.nDigits u ≤ 20 := nD_le 19 u (by omega)
theorem nD_1 (u : Nat) : 1 ≤ Lib.nDigits u := by
  by_cases h : u < 10
  · rw [Lib.nDigits_small h]; omega
  · rw [Lib.nDigits_big h]; omega
theorem digN_len (u : Nat) : (digN u).length = Lib.nDigits u := by unfold digN; rw [List.length_map, Lib.decDigits_length]
theorem digN_str (u : Nat) : strOfNums (digN u) = ⟨(Lib.decDigits u).toArray⟩ := by
  unfold digN strOfNums
  rw [List.map_map]
  congr 2
  rw [show ((fun z : Int => UInt8.ofNat z.toNat) ∘ fun b : UInt8 => (b.toNat : Int)) = id from funext fun b => by simp]
  exact List.map_id _
theorem itoa_len (n : Int) (h0 : -9223372036854775808 ≤ n) (h1 : n ≤ 9223372036854775807) : (dec n).size ≤ 21 := by
  show (Lib.itoa n).toArray.size ≤ 21
  rw [List.size_toArray]
  by_cases hneg : n < 0
  · obtain ⟨u, rfl⟩ : ∃ u : Nat, n = -(u : Int) := ⟨n.natAbs, by omega⟩
    rw [Lib.itoa_neg u (by omega), List.length_cons, Lib.decDigits_length]
    have := nD_20 u (by omega)
    omega
  · obtain ⟨u, rfl⟩ : ∃ u : Nat, n = u := ⟨n.toNat, by omega⟩
    rw [Lib.itoa_nonneg, Lib.decDigits_length]
    have := nD_20 u (by omega)
    omega
theorem l01Dec_loop (n : Int) (u : Nat) : ∀ (k : Int) (out : List Int), k.natAbs = u → u ≠ 0 → -9223372036854775808 ≤ k → k ≤ 9223372036854775807 → out.length + Lib.nDigits u ≤ 1000 → spec_l01Dec.L0 n out k = spec_l01Dec.L0 n (digN u ++ out) 0 := by
  induction u using Nat.strongRecOn with
  | _ u ih =>
    intro k out hk hu h0 h1 hl
    have hd := nD_1 u
    have hm : (Int.tmod k 10).natAbs = u % 10 := by rw [Int.natAbs_tmod, hk]; rfl
    have hq : (Int.tdiv k 10).natAbs = u / 10 := by rw [Int.natAbs_tdiv, hk]; rfl
    have hstep : spec_l01Dec.L0 n out k = spec_l01Dec.L0 n ([48 + ((u % 10 : Nat) : Int)] ++ out) (Int.tdiv k 10) := by
      rw [spec_l01Dec.L0_eq, if_neg (by omega)]
      simp only [Option.bind_some]
      rw [w64 (n := Int.tdiv k 10) (by omega) (by omega)]
      by_cases h : Int.tmod k 10 < 0
      · rw [if_pos h, w64 (n := -(Int.tmod k 10)) (by omega) (by omega), w64 (by omega) (by omega), show (48 + -(Int.tmod k 10)) % 256 = 48 + ((u % 10 : Nat) : Int) by omega, if_pos (by simp only [List.length_singleton]; omega)]
      · rw [if_neg h, w64 (n := 48 + Int.tmod k 10) (by omega) (by omega), show (48 + (Int.tmod k 10)) % 256 = 48 + ((u % 10 : Nat) : Int) by omega, if_pos (by simp only [List.length_singleton]; omega)]
    rw [hstep]
    by_cases h : u < 10
    · rw [digN_small h, show Int.tdiv k 10 = 0 by omega, show u % 10 = u by omega]
    · rw [Lib.nDigits_big h] at hl
      rw [ih (u / 10) (by omega) (Int.tdiv k 10) _ hq (by omega) (by omega) (by omega) (by rw [List.length_append, List.length_singleton]; omega), digN_big h, List.append_assoc]
theorem spec_l01Dec_val (n : Int) (h0 : -9223372036854775808 ≤ n) (h1 : n ≤ 9223372036854775807) : spec_l01Dec.F n = some (dec n) := by
  rw [spec_l01Dec.F_eq]
  by_cases hz : n = 0
  · subst hz
    rw [spec_l01Dec.L0_eq, if_pos rfl, if_pos (by simp)]
    unfold dec
    rw [show (0 : Int) = ((0 : Nat) : Int) from rfl, Lib.itoa_nonneg, Lib.decDigits_one (by omega)]
    rfl
  · have hl := nD_20 n.natAbs (by omega)
    have hd := nD_1 n.natAbs
    have hz2 := digN_len n.natAbs
    have hsz : (strOfNums (digN n.natAbs)).size = Lib.nDigits n.natAbs := by rw [digN_str]; show (Lib.decDigits _).toArray.size = _; rw [List.size_toArray, Lib.decDigits_length]
    rw [l01Dec_loop n n.natAbs n [] rfl (by omega) h0 h1 (by simp only [List.length_nil]; omega), List.append_nil, spec_l01Dec.L0_eq, if_pos rfl, if_neg (by omega)]
    unfold dec
    by_cases hneg : n < 0
    · rw [if_pos hneg, if_pos (by rw [hsz]; omega), digN_str]
      have e : Lib.itoa n = 45 :: Lib.decDigits n.natAbs := by unfold Lib.itoa; rw [if_pos hneg]
      rw [e]
      congr 1
    · have e : Lib.itoa n = Lib.decDigits n.natAbs := by unfold Lib.itoa; rw [if_neg hneg, show n.toNat = n.natAbs by omega]
      rw [if_neg hneg, digN_str, e]
theorem impl_Decimal_val (n : Int) (h0 : -9223372036854775808 ≤ n) (h1 : n ≤ 9223372036854775807) : impl_Decimal.f n = some (dec n) := by
  unfold impl_Decimal.f strconv_FormatInt.f
  rw [if_pos ⟨rfl, h0, h1⟩]
  rfl
/-- Words with blanks between them. -/
def txt (W : Nat → ByteArray) : Nat → ByteArray
  | 0 => ⟨#[]⟩
  | i + 1 => (if 0 < i then txt W i ++ (⟨#[32]⟩ : ByteArray) else txt W i) ++ W i
theorem txt_join (W : Nat → ByteArray) (n : Nat) : Lib.join (((List.range n).map W).map (·.data.toList)) [32] = (txt W n).data.toList := by
  induction n with
  | zero => rfl
  | succ n ih =>
    rw [List.range_succ, List.map_append, List.map_append, List.map_cons, List.map_nil, List.map_cons, List.map_nil]
    cases n with
    | zero =>
      rw [show (List.map (fun x : ByteArray => x.data.toList) (List.map W (List.range 0))) = [] from rfl, List.nil_append, Lib.join_one]
      show _ = ((if 0 < 0 then _ else txt W 0) ++ W 0).data.toList
      rw [if_neg (by omega)]
      simp [txt]
    | succ n =>
      cases hL : List.map (fun x : ByteArray => x.data.toList) (List.map W (List.range (n + 1))) with
      | nil => have := congrArg List.length hL; simp at this
      | cons a t =>
        rw [hL, Lib.join_cons] at ih
        rw [List.cons_append, Lib.join_cons]
        show _ = ((if 0 < n + 1 then txt W (n + 1) ++ (⟨#[32]⟩ : ByteArray) else txt W (n + 1)) ++ W (n + 1)).data.toList
        rw [if_pos (by omega)]
        unfold Lib.joinTail at *
        rw [List.map_append, List.flatten_append, ← List.append_assoc, ih]
        simp
theorem txt_size (W : Nat → ByteArray) (n : Nat) (h : ∀ i, i < n → (W i).size ≤ 100) : (txt W n).size ≤ n * 101 := by
  induction n with
  | zero => show (⟨#[]⟩ : ByteArray).size ≤ _; exact Nat.zero_le _
  | succ n ih =>
    have h1 := ih (fun i hi => h i (by omega))
    have h2 := h n (by omega)
    show ((if 0 < n then txt W n ++ (⟨#[32]⟩ : ByteArray) else txt W n) ++ W n).size ≤ _
    rw [ByteArray.size_append]
    split
    · rw [ByteArray.size_append, show (⟨#[32]⟩ : ByteArray).size = 1 from rfl]; omega
    · omega
theorem join_val (W : Nat → ByteArray) (n : Nat) (hn : n ≤ 1000) (h : ∀ i, i < n → (W i).size ≤ 100) : strings_Join.f ((List.range n).map W) (⟨#[32]⟩ : ByteArray) = some (txt W n) := by
  have hs := txt_size W n h
  have e : Lib.join (((List.range n).map W).map (·.data.toList)) ((⟨#[32]⟩ : ByteArray).data.toList) = (txt W n).data.toList := txt_join W n
  have hl : (txt W n).data.toList.length = (txt W n).size := by rw [Array.length_toList]; rfl
  unfold strings_Join.f
  rw [e, if_pos ⟨by rw [List.length_map, List.length_range]; omega, by rw [hl]; omega⟩]
/-- Two numbers with a sign between them. -/
def pairT (s : UInt8) (a b : Int) : ByteArray := (dec a ++ (⟨#[s]⟩ : ByteArray)) ++ dec b
theorem pairT_size (s : UInt8) {a b : Int} (ha : 0 ≤ a ∧ a ≤ 100000) (hb : 0 ≤ b ∧ b ≤ 100000) : (dec a).size ≤ 21 ∧ (dec b).size ≤ 21 ∧ (pairT s a b).size ≤ 43 := by
  have h1 := itoa_len a (by omega) (by omega)
  have h2 := itoa_len b (by omega) (by omega)
  refine ⟨h1, h2, ?_⟩
  unfold pairT
  rw [ByteArray.size_append, ByteArray.size_append, show (⟨#[s]⟩ : ByteArray).size = 1 from rfl]
  omega
def panW (l : List S53) (i : Nat) : ByteArray := pairT 120 (rd_T53 l (i : Int)).f0 (rd_T53 l (i : Int)).f1
theorem panW_bd {l : List S53} (h : panelsOk l = true) (i : Nat) (hi : i < l.length) : l.length ≤ 40 ∧ (0 ≤ (rd_T53 l (i : Int)).f0 ∧ (rd_T53 l (i : Int)).f0 ≤ 100000) ∧ (0 ≤ (rd_T53 l (i : Int)).f1 ∧ (rd_T53 l (i : Int)).f1 ≤ 100000) := by
  unfold panelsOk at h
  rw [Bool.and_eq_true, decide_eq_true_iff] at h
  have := List.all_eq_true.1 h.1 l[i] (List.getElem_mem hi)
  rw [panelOk_def, Bool.and_eq_true, inB_iff, inB_iff] at this
  rw [rdIPanel l i hi]
  omega
theorem spec_PanelsText_val (l : List S53) (hn : l.length < 4611686018427387904) : spec_PanelsText.F l = some (if panelsOk l = true then txt (panW l) l.length else ⟨#[]⟩) := by
  rw [spec_PanelsText.F_eq, spec_l15List_val l hn]
  simp only [Option.bind_some]
  by_cases h : panelsOk l = true
  · rw [if_pos h, if_pos h]
    have := iterF (fun (s : ByteArray) i => spec_PanelsText.L0 l s i) l.length (txt (panW l)) (fun i hi => by
      obtain ⟨h40, hb1, hb2⟩ := panW_bd h i hi
      have hz := pairT_size 120 hb1 hb2
      have hs := txt_size (panW l) i (fun j hj => by have hb3 := panW_bd h j (by omega); have := (pairT_size 120 hb3.2.1 hb3.2.2).2.2; unfold panW; omega)
      show spec_PanelsText.L0 l (txt (panW l) i) (i : Int) = spec_PanelsText.L0 l ((if 0 < i then txt (panW l) i ++ (⟨#[32]⟩ : ByteArray) else txt (panW l) i) ++ panW l i) ((i + 1 : Nat) : Int)
      rw [spec_PanelsText.L0_eq, spec_l01Dec_val _ (by omega) (by omega), spec_l01Dec_val (rd_T53 l (i : Int)).f1 (by omega) (by omega), if_pos (by omega), wS (by omega)]
      simp only [Option.bind_some]
      by_cases h0 : 0 < i
      · rw [if_pos (by omega), if_pos h0, if_pos (by omega), if_pos (by omega), if_pos (by omega), if_pos (by omega), if_pos (by omega)]
        rfl
      · rw [if_neg (by omega), if_neg h0, if_pos (by omega), if_pos (by omega), if_pos (by omega), if_pos (by omega)]
        rfl)
    refine Eq.trans this ?_
    show spec_PanelsText.L0 l (txt (panW l) l.length) (l.length : Int) = _
    rw [spec_PanelsText.L0_eq, if_neg (by omega)]
  · rw [if_neg h, if_neg h]
theorem impl_PanelsText_val (l : List S53) (hn : l.length < 4611686018427387904) : impl_PanelsText.F l = some (if panelsOk l = true then txt (panW l) l.length else ⟨#[]⟩) := by
  rw [impl_PanelsText.F_eq, impl_ValidPanels_val l hn]
  simp only [Option.bind_some]
  by_cases h : panelsOk l = true
  · rw [if_pos h, if_pos h]
    have h40 : l.length ≤ 40 := by unfold panelsOk at h; rw [Bool.and_eq_true, decide_eq_true_iff] at h; exact h.2
    have := iterF (fun (s : List ByteArray) i => impl_PanelsText.L0 s l (l.length : Int) i) l.length (fun i => (List.range i).map (panW l)) (fun i hi => by
      obtain ⟨_, hb1, hb2⟩ := panW_bd h i hi
      have hz := pairT_size 120 hb1 hb2
      show impl_PanelsText.L0 ((List.range i).map (panW l)) l (l.length : Int) (i : Int) = impl_PanelsText.L0 ((List.range (i + 1)).map (panW l)) l (l.length : Int) ((i + 1 : Nat) : Int)
      rw [impl_PanelsText.L0_eq, if_pos (by omega), if_pos (by omega), if_pos (by omega), impl_Decimal_val _ (by omega) (by omega), impl_Decimal_val (rd_T53 l (i : Int)).f1 (by omega) (by omega)]
      simp only [Option.bind_some]
      rw [if_pos (by omega), if_pos (by omega), if_pos (by rw [List.length_map, List.length_range]; omega), wS (by omega), List.range_succ, List.map_append]
      rfl)
    refine Eq.trans this ?_
    show impl_PanelsText.L0 ((List.range l.length).map (panW l)) l (l.length : Int) (l.length : Int) = _
    rw [impl_PanelsText.L0_eq, if_neg (by omega), join_val (panW l) l.length (by omega) (fun j hj => by have hb3 := panW_bd h j hj; have := (pairT_size 120 hb3.2.1 hb3.2.2).2.2; unfold panW; omega)]
    rfl
  · rw [if_neg h, if_neg h]
theorem pure_FnExactPanelsText : laws_FnExactPanelsText.Pure := by
  intro l0 hg
  refine of_lim (g := fun k => laws_FnExactPanelsText.f k l0) ?_
  show laws_FnExactPanelsText.F l0 = some true
  obtain ⟨r, hr, h⟩ := laws_szPanelS_val l0 1048576 hg.1 (by omega) (by omega)
  rcases h with h | ⟨h1, h2, h3⟩
  · rw [laws_FnExactPanelsText.F_eq, hr]; simp only [Option.bind_some]; rw [if_pos h]
  · have et := laws_toPanelS_val l0 (by omega)
    have hm : (l0.map panelTo).length ≤ 1048576 := by rw [List.length_map]; omega
    generalize hL : l0.map panelTo = l at et hm
    have ee := laws_eqPanelS_val l (by omega)
    have hn : ¬ r < 0 := by omega
    have e1 := spec_PanelsText_val l (by omega)
    have e2 := impl_PanelsText_val l (by omega)
    generalize (if panelsOk l = true then txt (panW l) l.length else ⟨#[]⟩ : ByteArray) = y at e1 e2
    simp [laws_FnExactPanelsText.F_eq, hn, hr, et, ee, e1, e2]
end Go.Proofs.YtbhijlhlopljmaaDoor.PFnExactPanelsText
namespace Go.Proofs.YtbhijlhlopljmaaDoor.Pure
theorem FnExactPanelsText : PFnExactPanelsText.laws_FnExactPanelsText.Pure := PFnExactPanelsText.pure_FnExactPanelsText
end Go.Proofs.YtbhijlhlopljmaaDoor.Pure
