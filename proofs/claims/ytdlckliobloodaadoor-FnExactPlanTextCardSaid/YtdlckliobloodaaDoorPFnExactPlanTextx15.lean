-- Written by a program of this session (wip/tools/pp.sh).
import Derived.Test.YtdlckliobloodaaDoorPFnExactPlanTextx0
import Derived.Test.YtdlckliobloodaaDoorPFnExactPlanTextx12
namespace Go.Proofs.YtdlckliobloodaaDoor.PFnExactPlanText
open Go.RowKit Go.Proofs.YtdlckliobloodaaDoorW.PrintWords Go.Proofs.YtdlckliobloodaaDoorW.PrintLast Go.Proofs.YtdlckliobloodaaDoorW.PrintMore Go.Proofs.YtdlckliobloodaaDoor.Small
open Bool renaming true → T, false → F
attribute [local go_sem] max2_int min2_int max_two min_two max_three min_three max_four min_four   -- for this text's walks alone
set_option linter.unusedVariables false
set_option linter.unusedSimpArgs false

/-! ### strconv_FormatInt: function 56, by the kit's shelf -/
theorem S_hand {α : Type} {d : Kd α} {e : Nat} {w : World} {base : Nat} {ok : Nat → Prop} {v : Value} {xs : List α} (h : Kd.S d e w base ok v xs) : ∃ P : Nat → Prop, Kd.S d e w base P v xs ∧ (∀ k, P k → ok k) ∧ ∀ k, P k → base ≤ k ∧ k < w.heap.size ∧ ∃ q, q ∈ e :: d.E ∧ ∃ cells, w.heap[k]? = some (.cells cells q (0, 0)) :=
 ⟨_, Kd.S_bound h, fun k hk => hk.1, fun k hk => hk.2⟩
theorem typed_no {w : World} {k : Nat} {l l' : List Nat} (h : ∃ q, q ∈ l ∧ ∃ cells, w.heap[k]? = some (.cells cells q (0, 0))) (h' : ∃ q, q ∈ l' ∧ ∃ cells, w.heap[k]? = some (.cells cells q (0, 0))) (hd : ∀ q, q ∈ l → q ∉ l') : False := by
 obtain ⟨q, hq, c, hc⟩ := h; obtain ⟨q', hq', c', hc'⟩ := h'; rw [hc] at hc'; (have : q = q' := by injection hc' with h1; injection h1); exact hd q hq (this ▸ hq')
theorem typed_blk {w : World} {k t : Nat} {cells : Array Value} {l : List Nat} (h : ∃ q, q ∈ l ∧ ∃ cells, w.heap[k]? = some (.cells cells q (0, 0))) (h' : w.heap[k]? = some (.cells cells t (0, 0))) (hd : ∀ q, q ∈ l → q ≠ t) : False := by
 obtain ⟨q, hq, c, hc⟩ := h; rw [hc] at h'; (have : q = t := by injection h' with h1; injection h1); exact hd q hq this
theorem sz_set (w : World) (p : Addr) (u : Value) : (w.setCell p u).heap.size = w.heap.size := by simp [World.setCell]
theorem sz_drewN (w : World) (n : Nat) : (w.drewN n).heap.size = w.heap.size := rfl
theorem sz_drew (w : World) : w.drew.heap.size = w.heap.size := rfl
def ltN (N k : Nat) : Nat := if k < N then k + 1 else k
def geN (N k : Nat) : Nat := if N ≤ k then k + 1 else k
theorem gapN {N k : Nat} (h : k ≠ ltN N k) (h' : k ≠ geN N k) : False := by
 unfold ltN at h; unfold geN at h'; by_cases c : k < N
 ·rw [if_neg (by omega)] at h'; exact h' rfl
 ·rw [if_neg c] at h; exact h rfl
theorem S_ltN {α : Type} {d : Kd α} {e : Nat} {w : World} {base : Nat} {ok : Nat → Prop} {v : Value} {xs : List α} (h : Kd.S d e w base ok v xs) {N : Nat} (hN : N = w.heap.size) : Kd.S d e w base (fun k => ok k ∧ k ≠ ltN N k) v xs :=
 Kd.S_mono (Kd.S_bound h) (fun k hk => ⟨hk.1, by unfold ltN; rw [if_pos (by have := hk.2.2.1; omega)]; omega⟩)
theorem S_geN {α : Type} {d : Kd α} {e : Nat} {w : World} {base : Nat} {ok : Nat → Prop} {v : Value} {xs : List α} (h : Kd.S d e w base ok v xs) {N : Nat} (hN : N ≤ base) : Kd.S d e w base (fun k => ok k ∧ k ≠ geN N k) v xs :=
 Kd.S_mono (Kd.S_bound h) (fun k hk => ⟨hk.1, by unfold geN; rw [if_pos (by have := hk.2.1; omega)]; omega⟩)
def Tab (w : World) : Prop := Lib.TabIs Tryd.prog w "internal/strconv.uint64pow10" .u64 Lib.pow10Tab
theorem tabB {w w' : World} (h : Tab w) (hb : Below w.heap.size w w') : Tab w' := by
 unfold Tab Lib.TabIs World.var? at h ⊢; obtain ⟨g, hg, h1⟩ := Option.bind_eq_some_iff.1 h; rw [hg, Option.bind_some, hb.block g (Nat.lt_of_not_le fun hn => by rw [Array.getElem?_eq_none hn] at h1; cases h1)]; exact h1
theorem tab_pow {w : World} (h : Tab w) : Lib.TabIs Tryd.prog w "internal/strconv.uint64pow10" .u64 Lib.pow10Tab := h
def strconv_FormatInt.f (a0 : Int) (a1 : Int) : Option (ByteArray) := if a1 = 10 ∧ -9223372036854775808 ≤ a0 ∧ a0 ≤ 9223372036854775807 then some ⟨(Lib.itoa a0).toArray⟩ else none
theorem strconv_FormatInt.calls (a0 : Int) (a1 : Int) (r : ByteArray) (w : World) (ht : Tab w) (h : strconv_FormatInt.f a0 a1 = some r) :
 Calls Tryd.prog 56 #[.int .i64 a0, .int .i64 a1] w fun e w' => e = .returned (.string r) ∧ Below w.heap.size w w' := by
 unfold strconv_FormatInt.f at h; split at h
 ·rename_i hc; obtain ⟨rfl, h0, h1⟩ := hc; obtain rfl := Option.some.inj h; refine (Tryd.strconv_FormatInt_10 a0 h0 h1 w (tab_pow ht)).mono ?_; rintro e w' ⟨rfl, k, os, rfl⟩; exact ⟨rfl, ⟨rfl, rfl, rfl, by simp [Sort.grow], fun i hi => by simp [Sort.grow, Array.getElem?_append, hi]⟩⟩
 ·cases h

/-! ### impl_Decimal: function 28 -/
def impl_Decimal.f (a0 : Int) : Option (ByteArray) := (strconv_FormatInt.f a0 10).bind fun t309 => (some t309)
set_option maxHeartbeats 8000000 in
set_option maxRecDepth 100000 in
theorem impl_Decimal.calls (a0 : Int) (r : ByteArray) (w : World) (ht : Tab w) (h : impl_Decimal.f a0 = some r) :
  Calls Tryd.prog 28 #[.int .i64 a0] w fun e w' => e = .returned (.string r) ∧ Below w.heap.size w w' := by
 have HTAB := Aside0.mk ht; clear ht; have HB := Aside0.mk (Below.refl w.heap.size w); have H : ((strconv_FormatInt.f a0 10).bind fun t309 => (some t309)) = some r := h; clear h; replace H := Option.bind_eq_some_iff.mp H; obtain ⟨t309, A20, H⟩ := H; (try dsimp only at H); have A2 := Aside0.mk A20; clear A20; obtain rfl := Option.some.inj H; simp only [Option.some.injEq, Prod.mk.injEq] at H; obtain ⟨rfl⟩ := H; (go_enter Tryd.func28, Tryd.ntmps28); (go_wp2_with (first | ((with_reducible refine gate_callee (f := 56) rfl ?_); refine goesL_ (some 4) rfl rfl Tryd.func56 (by kernel_rfl) rfl #[.int .i64 a0, .int .i64 10] rfl zM ?_; (with_reducible refine (strconv_FormatInt.calls a0 10 t309 _ ?side1 A2.out).mono ?_); (case side1 => exact tabB HTAB.out (pR HB)); rintro e w3 ⟨rfl, hb⟩; refine ⟨_, rfl, ?_⟩; replace HB := pS HB hb; (try clear hb)))); (go_ret); exact ⟨zE, pR HB⟩

/-! ### strings_Join: function 45, by the kit's shelf -/
def strings_Join.f (l0 : List ByteArray) (a1 : ByteArray) : Option (ByteArray) := if l0.length ≤ 140737488355328 ∧ (Lib.join (l0.map (·.data.toList)) a1.data.toList).length ≤ 140737488355328 then some ⟨(Lib.join (l0.map (·.data.toList)) a1.data.toList).toArray⟩ else none
theorem strings_Join.calls (A0 : Option Addr) (c0 : Nat) (l0 : List ByteArray) (a1 : ByteArray) (r : ByteArray) (w : World) (hr0 : Kd.C Kd.string w A0 l0.length l0) (hc0 : l0.length ≤ c0) (h : strings_Join.f l0 a1 = some r) :
 Calls Tryd.prog 45 #[.slice A0 l0.length c0, .string a1] w fun e w' => e = .returned (.string r) ∧ Below w.heap.size w w' := by
 unfold strings_Join.f at h; split at h
 ·rename_i hc; obtain rfl := Option.some.inj h
  have cell : ∀ (j : Nat) x, l0[j]? = some x → ∃ ad, A0 = some ad ∧ w.cell? (ad.add j) = some (.string x) := fun j x hj => by
   have hlt : j < l0.length := (List.getElem?_eq_some_iff.1 hj).1; obtain ⟨ad, e, hx⟩ := Kd.at_string hr0 (j : Int) (by omega) (by omega); rw [Int.toNat_natCast] at hx; exact ⟨ad, e, by rw [hx]; simp [rdOf, hj]⟩
  by_cases h0 : l0 = []
  ·subst h0; exact (Tryd.strings_Join_none A0 c0 a1 w).mono fun e w' ⟨he, hw⟩ => ⟨by rw [he]; rfl, hw ▸ Below.refl _ _⟩
  ·obtain ⟨x0, hx0⟩ : ∃ x, l0[0]? = some x := by
    cases l0 with
    | nil => exact absurd rfl h0
    | cons x t => exact ⟨x, rfl⟩
   obtain ⟨ad, e, hz⟩ := cell 0 x0 hx0; obtain ⟨bk, o, sp⟩ := ad; rw [Addr.add_zero'] at hz
   have hsp : sp = none := by
    cases sp with
    | none => rfl
    | some q => unfold World.cell? at hz; split at hz <;> simp at hz
   subst hsp; subst e; refine Tryd.strings_Join bk o c0 l0 a1 w (fun j x hj => ?_) (World.block_lt_of_cell? _ _ hz) hc.1 hc0 hc.2; obtain ⟨ad2, e2, h2⟩ := cell j x hj
   cases e2
   (have ea : (⟨bk, o, none⟩ : Addr).add j = ⟨bk, o + j, none⟩ := by unfold Addr.add; split <;> simp_all); rw [ea] at h2; exact h2
 ·cases h

/-! ### impl_SailText: function 29 -/
def impl_SailText.l0 : Nat → List ByteArray → List (S89) → Int → Int → Option (ByteArray)
 | 0, _, _, _, _ => none
 | k + 1, x3, x10, x11, x12 => if x12 < x11 then (if 0 ≤ x12 then (if x12 < (x10.length : Int) then ((impl_Decimal.f ((rd_T89 x10 x12).f0)).bind fun t316 => (if t316.size + 1 ≤ 9223372036854775807 then ((impl_Decimal.f ((rd_T89 x10 x12).f1)).bind fun t317 => (if t316.size + 1 + t317.size ≤ 9223372036854775807 then (if x3.length < 8796093022208 then (impl_SailText.l0 k (x3 ++ [(t316 ++ (⟨#[44]⟩ : ByteArray)) ++ t317]) x10 x11 (wrap64 (x12 + 1))) else (none)) else (none))) else (none))) else (none)) else (none)) else ((strings_Join.f x3 (⟨#[32]⟩ : ByteArray)).bind fun t321 => (some t321))
def impl_SailText.f (k : Nat) (l0 : List (S89)) : Option (ByteArray) := (impl_ValidSail.f k l0).bind fun t310 => (if t310 = true then (impl_SailText.l0 k (([] : List ByteArray)) l0 (l0.length : Int) 0) else (some (⟨#[]⟩ : ByteArray)))
theorem impl_SailText.mono_l : ∀ k, (∀ y0 y1 y2 y3, LeO (impl_SailText.l0 k y0 y1 y2 y3) (impl_SailText.l0 (k + 1) y0 y1 y2 y3))
 | 0 => fun _ _ _ _ r h => by simp [impl_SailText.l0] at h
 | k + 1 => by
  have ih0 := impl_SailText.mono_l k
  ·intro y0 y1 y2 y3
   unfold impl_SailText.l0
   repeat' with_reducible first | exact ih0 _ _ _ _ | exact impl_ValidSail.mono _ _ | exact LeO.refl _ | exact LeO.none _ | refine LeO.ite ?_ ?_ | refine LeO.bind ?_ (fun _ => ?_)
theorem impl_SailText.mono : ∀ a0 k, LeO (impl_SailText.f k a0) (impl_SailText.f (k + 1) a0) := by
 intro a0 k; have ih0 := impl_SailText.mono_l k; unfold impl_SailText.f; repeat' with_reducible first | exact ih0 _ _ _ _ | exact impl_ValidSail.mono _ _ | exact LeO.refl _ | exact LeO.none _ | refine LeO.ite ?_ ?_ | refine LeO.bind ?_ (fun _ => ?_)
def impl_SailText.T7 : Bool × List (List Nat × List Nat) := (true, [([], []), ([], []), ([1], [1]), ([2], [2]), ([3], [3]), ([], []), ([5], [5]), ([6, 3], [6]), ([4, 7], [4, 7]), ([8], [8]), ([0, 9, 7], [0, 9]), ([10, 10, 0, 1, 2, 3, 4, 5, 6, 7, 8, 9, 10], [0, 10])])
def impl_SailText.B7 : List Nat := [0, 0, 2, 6, 14, 0, 32, 110, 254, 510, 1023, 2047]
theorem impl_SailText.tab7 : rtab .any (opsOf Tryd.f29 7) = impl_SailText.T7 := by kernel_rfl
theorem impl_SailText.bits7 : waitsOk impl_SailText.T7.2 impl_SailText.B7 = true := by kernel_rfl
set_option maxHeartbeats 8000000 in
set_option maxRecDepth 100000 in
theorem impl_SailText.calls (k : Nat) (A0 : Option Addr) (c0 : Nat) (l0 : List (S89)) (r : ByteArray) (w : World) (hr0 : Kd.C k89 w A0 l0.length l0) (hc0 : l0.length ≤ c0) (ht : Tab w) (h : impl_SailText.f k l0 = some r) :
  Calls Tryd.prog 29 #[.slice A0 l0.length c0] w fun e w' => e = .returned (.string r) ∧ Below w.heap.size w w' := by
 have hu89 := Tryd.underlying89; have HTAB := Aside0.mk ht; clear ht; have HR0 := Aside0.mk hr0; have HC0 := Aside0.mk hc0; clear hr0 hc0; have HB := Aside0.mk (Below.refl w.heap.size w); have H : ((impl_ValidSail.f k l0).bind fun t310 => (if t310 = true then (impl_SailText.l0 k (([] : List ByteArray)) l0 (l0.length : Int) 0) else (some (⟨#[]⟩ : ByteArray)))) = some r := h; clear h; replace H := Option.bind_eq_some_iff.mp H; obtain ⟨t310, A20, H⟩ := H; (try dsimp only at H); have A2 := Aside0.mk A20; clear A20; by_cases c3 : t310 = true
 ·subst c3; (have H1 : (impl_SailText.l0 k (([] : List ByteArray)) l0 (l0.length : Int) 0) = some r := by rw [if_pos rfl] at H; exact H); clear H; have H := H1; clear H1; obtain ⟨y311, hy311⟩ : ∃ y_ : List ByteArray, y_ = (([] : List ByteArray)) := ⟨_, rfl⟩; (replace H : (impl_SailText.l0 k y311 l0 (l0.length : Int) 0) = some r := by first | (rw [hy311]; with_reducible exact H) | (have H2_ := (Option.bind_some _ _).symm.trans H; rw [hy311]; with_reducible exact H2_) | (have H2_ := (Option.bind_some _ _).symm.trans H; with_reducible exact H2_) | with_reducible exact H | (rw [hy311]; exact H) | exact H); have Ny311 := Aside0.mk hy311; clear hy311; have H' := Aside0.mk H; clear H; (go_enter Tryd.func29, Tryd.ntmps29); (go_wp2_with (first | ((with_reducible refine gate_callee (f := 54) rfl ?_); refine goesL_ (some 7) rfl rfl Tryd.func54 (by kernel_rfl) rfl #[.slice A0 l0.length c0] rfl zM ?_; (with_reducible refine (impl_ValidSail.calls k _ _ l0 true _ ?side1 ?side2 A2.out).mono ?_); (case side1 => (refine zC ?_; exact HR0.out)); (case side2 => exact HC0.out); rintro e w4 ⟨rfl, hb⟩; refine ⟨_, rfl, ?_⟩; replace HB := pS HB hb; (try clear hb)) | ((with_reducible refine gate_dst (N := 9) rfl ?_); refine Kd.R_lit Kd.string _ 9 ?hg (N := 9) ?hd (xs := ([] : List ByteArray)) (inner := []) (ok := fun _ => True) (okp := fun _ => True) ?hr ?hp (fun _ hk => hk) trivial (Below.refl _ _) (Nat.le_refl _) (by simp) ?_; (case hd => rfl); (case hg => rfl); (case hr => first | (go_simp; done) | (go_simp; rfl)); (case hp => exact (Reps.none _ _)); intro v312 w5 ho6 hb hg_ hnew_; clear hg_ hnew_; (first | rw [← Ny311.out] at ho6 | (simp only [Int.reduceToNat] at ho6; rw [← Ny311.out] at ho6)); have HO313 := Aside0.mk (Kd.R_lower ho6 (below_size (pR HB))); replace HB := pS HB hb; clear hb ho6))); go_loopg [3, 12] k (fun kq v3 v12 w' => ∃ (x3_1 : List ByteArray) (x12_1 : Int), v12 = .int .i64 x12_1 ∧ Aside0 (impl_SailText.l0 kq x3_1 l0 (l0.length : Int) x12_1 = some r) ∧ Aside0 (kq ≤ k) ∧ Aside0 (Kd.R Kd.string 9 w' w.heap.size (fun _ => True) v3 x3_1) ∧ Aside0 (Below w.heap.size w w'))
  case atStart => exact ⟨(y311), (0), zF, H', ⟨Nat.le_refl _⟩, ⟨by refine zR ?_; exact HO313.out⟩, ⟨pR HB⟩⟩
  case round =>
   clear H'; (try clear c2); (try clear p2); (try clear c3); (try clear c5); obtain ⟨x3_1, x12_1, rfl, HA, HK1, HO_3, HB⟩ := hrel
   cases gk with
   | zero => exact absurd HA.out (by simp [impl_SailText.l0])
   | succ k1 =>
    have H := HA.out; clear HA; simp only [impl_SailText.l0] at H; by_cases c7 : x12_1 < (l0.length : Int)
    ·rw [if_pos c7] at H; have c7b0 : decide (x12_1 < (l0.length : Int)) = true := decide_eq_true c7; clear c7; by_cases c8 : 0 ≤ x12_1
     ·rw [if_pos c8] at H; have c8b0 : decide (0 ≤ x12_1) = true := decide_eq_true c8; clear c8; by_cases c9 : x12_1 < (l0.length : Int)
      ·rw [if_pos c9] at H; have c9b0 : decide (x12_1 < (l0.length : Int)) = true := decide_eq_true c9; clear c9; replace H := Option.bind_eq_some_iff.mp H; obtain ⟨t316, A100, H⟩ := H; (try dsimp only at H); have A10 := Aside0.mk A100; clear A100; by_cases c11 : t316.size + 1 ≤ 9223372036854775807
       ·rw [if_pos c11] at H; have c11b0 := eq_true c11; have c11b1 : decide (t316.size + 1 ≤ 9223372036854775807) = true := decide_eq_true c11; (try have c11b2 : (9223372036854775807 < t316.size + 1) = False := eq_false (Nat.not_lt.2 c11)); replace H := Option.bind_eq_some_iff.mp H; obtain ⟨t317, A120, H⟩ := H; (try dsimp only at H); have A12 := Aside0.mk A120; clear A120; by_cases c13 : t316.size + 1 + t317.size ≤ 9223372036854775807
        ·rw [if_pos c13] at H; have c13b0 := eq_true c13; have c13b1 : decide (t316.size + 1 + t317.size ≤ 9223372036854775807) = true := decide_eq_true c13; (try have c13b2 : (9223372036854775807 < t316.size + 1 + t317.size) = False := eq_false (Nat.not_lt.2 c13)); by_cases c14 : x3_1.length < 8796093022208
         ·rw [if_pos c14] at H; have LMc14 := Aside0.mk c14; clear c14; obtain ⟨y318, hy318⟩ : ∃ y_ : List ByteArray, y_ = (x3_1 ++ [(t316 ++ (⟨#[44]⟩ : ByteArray)) ++ t317]) := ⟨_, rfl⟩; (replace H : (impl_SailText.l0 k1 y318 l0 (l0.length : Int) (wrap64 (x12_1 + 1))) = some r := by first | (rw [hy318]; with_reducible exact H) | (have H2_ := (Option.bind_some _ _).symm.trans H; rw [hy318]; with_reducible exact H2_) | (have H2_ := (Option.bind_some _ _).symm.trans H; with_reducible exact H2_) | with_reducible exact H | (rw [hy318]; exact H) | exact H); have Ny318 := Aside0.mk hy318; clear hy318; have H' := Aside0.mk H; clear H; have p314 : 0 ≤ (x12_1 : Int) := of_decide_eq_true (by first | (with_reducible assumption) | assumption); have q314 : x12_1 < (l0.length : Int) := of_decide_eq_true (by first | (with_reducible assumption) | assumption); obtain ⟨ad314, e314, hx314_0, hx314_1⟩ := at_T89 HR0.out x12_1 p314 q314
          cases e314
          replace hx314_0 := bC HB hx314_0; replace hx314_1 := bC HB hx314_1; replace p314 := eq_true p314; replace q314 := eq_true q314; (try go_wp2_with (first | ((with_reducible refine gate_dst (N := 5) rfl ?_); refine box_event ?hg (N := 5) ?hd (cs := #[.int .i64 0, .int .i64 0]) (t := 89) ?hr ?_; (case hd => rfl); (case hg => rfl); (case hr => first | (go_simp; done) | (go_simp; rfl)); intro gb315 hg w15 hbox hb; replace HO_3 := zLR HO_3 hb; have BK315 := Aside0.mk (hbox); have GW315 := pG HB hg; have GE315 := pG HB hg; replace HB := pS HB hb; clear hb hbox hg; obtain ⟨hcz16_0, hcz16_1, hfz16_0, hfz16_1⟩ := cz2 BK315))); have n0_ : Aside0 (Kd.R Kd.string 9 ((w15.setCell ⟨gb315, 0, none⟩ (.int .i64 ((rd_T89 l0 x12_1).f0))).setCell ⟨gb315, 1, none⟩ (.int .i64 ((rd_T89 l0 x12_1).f1))) w.heap.size (fun _ => True) u3 x3_1) := ⟨by refine zR ?_; exact Kd.R_mono (Kd.R_far (p := ⟨gb315, 1, none⟩) (Kd.R_far (p := ⟨gb315, 0, none⟩) (Kd.R_types HO_3.out BK315.out (by decide)) (fun _ hk => hk.2) (.int .i64 ((rd_T89 l0 x12_1).f0))) (fun _ hk => hk.2) (.int .i64 ((rd_T89 l0 x12_1).f1))) (fun _ hk => trivial)⟩; have n1_ : Aside0 (((w15.setCell ⟨gb315, 0, none⟩ (.int .i64 ((rd_T89 l0 x12_1).f0))).setCell ⟨gb315, 1, none⟩ (.int .i64 ((rd_T89 l0 x12_1).f1))).heap[gb315]? = some (.cells #[.int .i64 ((rd_T89 l0 x12_1).f0), .int .i64 ((rd_T89 l0 x12_1).f1)] 89 (0, 0))) := ⟨by refine zB ?_; refine blk_put (cs := #[.int .i64 ((rd_T89 l0 x12_1).f0), .int .i64 0]) ?_ 1 _ rfl; refine zB ?_; refine blk_put (cs := #[.int .i64 0, .int .i64 0]) ?_ 0 _ rfl; refine zB ?_; exact BK315.out⟩; have n2_ : Aside0 (Below w.heap.size w ((w15.setCell ⟨gb315, 0, none⟩ (.int .i64 ((rd_T89 l0 x12_1).f0))).setCell ⟨gb315, 1, none⟩ (.int .i64 ((rd_T89 l0 x12_1).f1)))) := ⟨pR HB⟩; skip; generalize ((w15.setCell ⟨gb315, 0, none⟩ (.int .i64 ((rd_T89 l0 x12_1).f0))).setCell ⟨gb315, 1, none⟩ (.int .i64 ((rd_T89 l0 x12_1).f1))) = w17 at n0_ n1_ n2_ ⊢; have HO_3 := n0_; have BK315 := n1_; have HB := n2_; clear n0_ n1_ n2_; replace HO_3 := Aside0.mk (Kd.R_drew HO_3.out); replace BK315 := Aside0.mk (blk_drew BK315.out); replace HB := Aside0.mk (below_drew1 HB.out); refine start_ (n := 12) (S := fun w' => w'.cell? ⟨gb315, 0, none⟩ = some (.int .i64 ((rd_T89 l0 x12_1).f0)) ∧ w'.cell? ⟨gb315, 1, none⟩ = some (.int .i64 ((rd_T89 l0 x12_1).f1))) (ds := []) #[F,F,F,F,F,F,F,F,F,F,F,F] (by kernel_rfl) rfl rfl ⟨bk BK315 0, bk BK315 1⟩ (fun hHeld => ?_); refine with_tabW impl_SailText.tab7 impl_SailText.bits7 (fun HT_ HW_ => ?_); generalize w17.drew = w18 at HO_3 BK315 HB hHeld ⊢; refine pV (i := 0) (N := some 16) #[T,F,F,F,F,F,F,F,F,F,F,F] HT_ ?_; refine pV (i := 1) (N := some 17) #[T,T,F,F,F,F,F,F,F,F,F,F] HT_ ?_; refine pV (i := 5) (N := some 21) #[T,T,F,F,F,T,F,F,F,F,F,F] HT_ ?_; refine tV (i := 2) (N := some 18) #[T,T,T,F,F,T,F,F,F,F,F,F] rfl rfl HT_ HW_ hHeld (by rintro w' ⟨s0, s1⟩; go_simp; with_reducible rfl) ?_; refine tV (i := 6) (N := some 22) #[T,T,T,F,F,T,T,F,F,F,F,F] rfl rfl HT_ HW_ hHeld (by rintro w' ⟨s0, s1⟩; go_simp; with_reducible rfl) ?_; refine one_ (i := 3) (N := some 19) #[T,T,T,T,F,T,T,F,F,F,F,F] rfl rfl (one_of HT_.out (by kernel_rfl)) (by decide) (fun K hK => ?_); refine goes_ Tryd.func28 (by kernel_rfl) rfl #[.int .i64 ((rd_T89 l0 x12_1).f0)] (by rfl) rfl rfl zM ?_; (with_reducible refine (impl_Decimal.calls ((rd_T89 l0 x12_1).f0) t316 _ ?side1 A10.out).mono ?_); (case side1 => exact tabB HTAB.out (pR HB)); rintro e w19 ⟨rfl, hb⟩; refine ⟨_, rfl, ?_⟩; replace HO_3 := zLR HO_3 hb; replace BK315 := pB BK315 hb; replace HB := pS HB hb; (try clear hb); refine hK.out _ _ ⟨bk BK315 0, bk BK315 1⟩ (fun hHeld => ?_); clear hK K; refine norm_ (a' := ?_) ?_ ?_; rotate_left
          ·(show Act.put _ (some 19) _ = _); simp only [NS]; rfl
          refine pV (i := 4) (N := some 20) #[T,T,T,T,T,T,T,F,F,F,F,F] HT_ ?_; refine one_ (i := 7) (N := some 23) #[T,T,T,T,T,T,T,T,F,F,F,F] rfl rfl (one_of HT_.out (by kernel_rfl)) (by decide) (fun K hK => ?_); refine goes_ Tryd.func28 (by kernel_rfl) rfl #[.int .i64 ((rd_T89 l0 x12_1).f1)] (by rfl) rfl rfl zM ?_; (with_reducible refine (impl_Decimal.calls ((rd_T89 l0 x12_1).f1) t317 _ ?side1 A12.out).mono ?_); (case side1 => exact tabB HTAB.out (pR HB)); rintro e w20 ⟨rfl, hb⟩; refine ⟨_, rfl, ?_⟩; replace HO_3 := zLR HO_3 hb; replace BK315 := pB BK315 hb; replace HB := pS HB hb; (try clear hb); refine hK.out _ _ ⟨bk BK315 0, bk BK315 1⟩ (fun hHeld => ?_); clear hK K; refine norm_ (a' := ?_) ?_ ?_; rotate_left
          ·(show Act.put _ (some 23) _ = _); simp only [NS]; rfl
          refine pV (i := 8) (N := some 24) #[T,T,T,T,T,T,T,T,T,F,F,F] HT_ ?_; refine one_ (i := 9) (N := some 25) #[T,T,T,T,T,T,T,T,T,T,F,F] rfl rfl (one_of HT_.out (by kernel_rfl)) (by decide) (fun K hK => ?_); refine value_ (w1 := ?_) (v := ?_) (by rfl) rfl ?_ ?_; rotate_left 2
          ·(go_simp); constructor
           ·rfl
           ·rfl
          refine hK.out _ _ ⟨(blk_cell (blk_alloc BK315.out _) 0).trans rfl, (blk_cell (blk_alloc BK315.out _) 1).trans rfl⟩ (fun hHeld => ?_); clear hK K; refine norm_ (a' := ?_) ?_ ?_; rotate_left
          ·(show Act.put _ (some 25) _ = _); simp only [NS]; rfl
          refine one_ (i := 10) (N := some 26) #[T,T,T,T,T,T,T,T,T,T,T,F] rfl rfl (one_of HT_.out (by kernel_rfl)) (by decide) (fun K hK => ?_); refine Kd.R_append_step Kd.string (w0 := w) w.heap.size (by rfl) (.tmp 16) (.tmp 25) 71 9 (.string ⟨#[]⟩) 16 rfl Tryd.underlying71 info9 rfl (by decide) (by omega) u3 x3_1 ((t316 ++ (⟨#[44]⟩ : ByteArray)) ++ t317) [.string ((t316 ++ (⟨#[44]⟩ : ByteArray)) ++ t317)] (fun _ => True) (fun _ => False) rfl rfl ?aP (fun _ hk => hk.elim) ?aF ?aO ?aB ?aS ?aL ?_; (case aP => exact rfl); (case aB => exact (pR HB)); (case aF => exact (fun _ _ => trivial)); (case aO => exact (by refine zR ?_; exact HO_3.out)); (case aS => exact (below_size (pR HB))); (case aL => have := LMc14.out; omega); intro v319 w21 ho hb hg hat; rw [← Ny318.out] at ho; replace BK315 := Aside0.mk (blk_grown (g := gb315) (o := .cells #[.int .i64 ((rd_T89 l0 x12_1).f0), .int .i64 ((rd_T89 l0 x12_1).f1)] 89 (0, 0)) (by refine zB ?_; exact BK315.out) hg (Kd.R_ne HO_3.out BK315.out (by decide))); replace HB := Aside0.mk (hb); have HO320 := Aside0.mk (ho); clear HO_3; clear ho hb hg hat; refine hK.out _ _ ⟨bk BK315 0, bk BK315 1⟩ (fun hHeld => ?_); clear hK K; refine norm_ (a' := ?_) ?_ ?_; rotate_left
          ·(show Act.put _ (some 26) _ = _); simp only [NS]; rfl
          refine pV (i := 11) (N := some 3) #[T,T,T,T,T,T,T,T,T,T,T,T] HT_ ?_; refine done_ (done_of HT_.out (by kernel_rfl)) ?_; (try go_wp2); go_roundg k1
          case measure => have := HK1.out; omega
          case rel => exact ⟨(y318), (wrap64 (x12_1 + 1)), zF, H', ⟨by have := HK1.out; omega⟩, ⟨by refine zR ?_; exact HO320.out⟩, ⟨pR HB⟩⟩
         ·rw [if_neg c14] at H; exact absurd H (by simp)
        ·rw [if_neg c13] at H; exact absurd H (by simp)
       ·rw [if_neg c11] at H; exact absurd H (by simp)
      ·rw [if_neg c9] at H; exact absurd H (by simp)
     ·rw [if_neg c8] at H; exact absurd H (by simp)
    ·rw [if_neg c7] at H; have c7b0 : decide (x12_1 < (l0.length : Int)) = false := decide_eq_false c7; clear c7; replace H := Option.bind_eq_some_iff.mp H; obtain ⟨t321, A220, H⟩ := H; (try dsimp only at H); have A22 := Aside0.mk A220; clear A220; obtain rfl := Option.some.inj H; simp only [Option.some.injEq, Prod.mk.injEq] at H; obtain ⟨rfl⟩ := H; obtain ⟨Ao23, co23, eo23⟩ := Kd.R_slice HO_3.out; subst eo23; (go_wp2_with (first | ((with_reducible refine gate_callee (f := 45) rfl ?_); refine goesL_ (some 29) rfl rfl Tryd.func45 (by kernel_rfl) rfl #[.slice Ao23 x3_1.length co23, .string (⟨#[32]⟩ : ByteArray)] rfl zM ?_; (with_reducible refine (strings_Join.calls _ _ x3_1 (⟨#[32]⟩ : ByteArray) t321 _ ?side1 ?side2 A22.out).mono ?_); (case side1 => (refine zC ?_; exact (Kd.R_reads' HO_3.out).2.2)); (case side2 => exact (Kd.R_reads' HO_3.out).2.1); rintro e w24 ⟨rfl, hb⟩; refine ⟨_, rfl, ?_⟩; replace HO_3 := zLR HO_3 hb; replace HB := pS HB hb; (try clear hb)))); (go_ret); exact ⟨zE, pR HB⟩
 ·replace c3 := Bool.eq_false_iff.mpr c3; subst c3; (have H1 : (some (⟨#[]⟩ : ByteArray)) = some r := by rw [if_neg (show ¬ (false = true) by decide)] at H; exact H); clear H; have H := H1; clear H1; obtain rfl := Option.some.inj H; simp only [Option.some.injEq, Prod.mk.injEq] at H; obtain ⟨rfl⟩ := H; (go_enter Tryd.func29, Tryd.ntmps29); (go_wp2_with (first | ((with_reducible refine gate_callee (f := 54) rfl ?_); refine goesL_ (some 7) rfl rfl Tryd.func54 (by kernel_rfl) rfl #[.slice A0 l0.length c0] rfl zM ?_; (with_reducible refine (impl_ValidSail.calls k _ _ l0 false _ ?side1 ?side2 A2.out).mono ?_); (case side1 => (refine zC ?_; exact HR0.out)); (case side2 => exact HC0.out); rintro e w25 ⟨rfl, hb⟩; refine ⟨_, rfl, ?_⟩; replace HB := pS HB hb; (try clear hb)))); (go_ret); exact ⟨zE, pR HB⟩

end Go.Proofs.YtdlckliobloodaaDoor.PFnExactPlanText
