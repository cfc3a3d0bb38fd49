-- Written by a program of this session (wip/tools/pp.sh).
import Derived.Test.YtdlckliobloodaaDoorPFnExactPlanTextx0
namespace Go.Proofs.YtdlckliobloodaaDoor.PFnExactPlanText
open Go.RowKit Go.Proofs.YtdlckliobloodaaDoorW.PrintWords Go.Proofs.YtdlckliobloodaaDoorW.PrintLast Go.Proofs.YtdlckliobloodaaDoorW.PrintMore Go.Proofs.YtdlckliobloodaaDoor.Small
open Bool renaming true → T, false → F
attribute [local go_sem] max2_int min2_int max_two min_two max_three min_three max_four min_four   -- for this text's walks alone
set_option linter.unusedVariables false
set_option linter.unusedSimpArgs false

-- NOT PRINTED: function 76 (impl_Hung)

/-! ### impl_sailNamed: function 55, by hand -/
def idxF {α : Type} (p : α → Bool) (l : List α) : Int := match l.findIdx? p with | some i => (i : Int) | none => -1
theorem idxF_hit {α : Type} (p : α → Bool) (l : List α) (k : Nat) (hk : k < l.length) (h : p l[k] = true) (ha : ∀ j (hj : j < k), p (l[j]'(by omega)) = false) : idxF p l = (k : Int) := by
 have : l.findIdx? p = some k := by
  rw [List.findIdx?_eq_some_iff_getElem]; exact ⟨hk, h, fun j hj => by rw [ha j hj]; decide⟩
 unfold idxF; rw [this]
theorem idxF_miss {α : Type} (p : α → Bool) (l : List α) (ha : ∀ j (hj : j < l.length), p l[j] = false) : idxF p l = -1 := by
 have : l.findIdx? p = none := by
  rw [List.findIdx?_eq_none_iff]; intro x hx; obtain ⟨j, hj, rfl⟩ := List.getElem_of_mem hx; exact ha j hj
 unfold idxF; rw [this]
set_option maxHeartbeats 8000000 in
set_option maxRecDepth 100000 in
theorem gen76 (g : Nat) (lb : Array Value) (p : S57 → Bool) (A0 : Option Addr) (c0 : Nat) (l0 : List S57) (w : World) (eg : ∀ args w, (callFunc g args).run Tryd.prog w = .ok (.enter g args) w) (hr0 : Kd.C k57 w A0 l0.length l0) (hn : l0.length < 4611686018427387904)
 (hp : ∀ (W : World) (x : S57) (Av1 : Option Addr) (cv1 : Nat), Below w.heap.size w W → Calls Tryd.prog g (#[.agg #[.string x.f0, .slice Av1 x.f1.length cv1, .bool x.f2]] ++ lb) W fun e w' => e = .returned (.bool (p x)) ∧ Below w.heap.size w w') :
 Calls Tryd.prog 76 #[.slice A0 l0.length c0, .func (.func g) #[] lb] w fun e w' => e = .returned (.int .i64 (idxF p l0)) ∧ Below w.heap.size w w' := by
 have HR := Aside0.mk hr0; clear hr0; generalize hL : l0.length = n at hn HR; have HN := Aside0.mk hL; clear hL; (go_enter Tryd.func76, Tryd.ntmps76); (go_wp2); go_loopg [5, 8] n (fun gg _ s8 wr => ∃ kk : Nat, kk ≤ n ∧ n - kk ≤ gg ∧ s8 = .int .i64 kk ∧ Aside0 (Below w.heap.size w wr) ∧ Aside0 (∀ j (hj : j < kk) (hl : j < l0.length), p l0[j] = false))
 case atStart => exact ⟨0, Nat.zero_le _, by omega, rfl, ⟨Below.refl _ w⟩, ⟨fun j hj => absurd hj (Nat.not_lt_zero _)⟩⟩
 case round =>
  obtain ⟨kk, hkk, hg, rfl, BW, A⟩ := hrel; by_cases hlt : kk < n
  ·(have hltz : (kk : Int) < (n : Int) := by omega); have hb0 : decide ((kk : Int) < (n : Int)) = true := decide_eq_true hltz; have hb2 : decide (kk < n) = true := decide_eq_true hlt; (have hkl : kk < l0.length := by rw [HN.out]; exact hlt); obtain ⟨ad, Av1, cv1, e0, hx0, hx1, hx2, sl0, sg0⟩ := at_T57 HR.out (kk : Int) (by omega) (by omega)
   cases e0
   (have ex : rd_T57 l0 (kk : Int) = l0[kk] := by simp [rd_T57, hkl]); rw [ex] at hx0 hx1 hx2; rw [Int.toNat_natCast] at hx0 hx1 hx2; replace hx0 := (BW.out.cell (World.block_lt_of_cell? w _ hx0)).trans hx0; replace hx1 := (BW.out.cell (World.block_lt_of_cell? w _ hx1)).trans hx1; replace hx2 := (BW.out.cell (World.block_lt_of_cell? w _ hx2)).trans hx2; have hcall := hp wr l0[kk] Av1 cv1 BW.out; generalize hy : l0[kk] = y at hx0 hx1 hx2 hcall; have B := Aside0.mk hy; clear hy ex sl0 sg0; have HP := Aside0.mk hp; clear hp
   cases hq : p y with
   | true =>
    rw [hq] at hcall; have HQ := Aside0.mk hq; clear hq; (go_wp2_with (fail)); refine hcall.mono ?_; rintro e w' ⟨rfl, hb'⟩; clear hcall hx0 hx1 hx2; have HB' := Aside0.mk hb'; clear hb'; (go_wp2); (go_ret); refine ⟨?_, HB'.out⟩; rw [idxF_hit p l0 kk hkl (by rw [B.out]; exact HQ.out) (fun j hj => A.out j hj (by omega))]; rfl
   | false =>
    rw [hq] at hcall; have HQ := Aside0.mk hq; clear hq; (go_wp2_with (fail)); refine hcall.mono ?_; rintro e w' ⟨rfl, hb'⟩; clear hcall hx0 hx1 hx2; have HB' := Aside0.mk hb'; clear hb'; (go_wp2); go_roundg (n - (kk + 1))
    case measure => omega
    case rel =>
     refine ⟨kk + 1, by omega, by omega, by go_num, HB', ⟨fun j hj hl => ?_⟩⟩; by_cases e : j = kk
     ·subst e; rw [B.out]; exact HQ.out
     ·exact A.out j (by omega) hl
  ·(have hltz : ¬ (kk : Int) < (n : Int) := by omega); have hb0 : decide ((kk : Int) < (n : Int)) = false := decide_eq_false hltz; have hb2 : decide (kk < n) = false := decide_eq_false hlt; (have hkn : kk = n := by omega); have HKN := Aside0.mk hkn; clear hkn; (go_wp2); (go_ret); refine ⟨?_, BW.out⟩; rw [idxF_miss p l0 (fun j hj => A.out j (by rw [HKN.out, ← HN.out]; exact hj) hj)]; rfl
set_option maxHeartbeats 8000000 in
set_option maxRecDepth 100000 in
theorem pred77 (g : Nat) (s : ByteArray) (w : World) (x : S57) (Av1 : Option Addr) (cv1 : Nat) (BK : w.heap[g]? = some (.cells #[.string s] 9 (0, 0))) :
 Calls Tryd.prog 77 #[.agg #[.string x.f0, .slice Av1 x.f1.length cv1, .bool x.f2], .pointer (some ⟨g, 0, none⟩)] w fun e w' => e = .returned (.bool (decide (x.f0 = s))) ∧ Below w.heap.size w w' := by
 have B1 := Aside0.mk BK; clear BK; have HB := Aside0.mk (Below.refl w.heap.size w); (go_enter Tryd.func77, Tryd.ntmps77); (go_wp2_with (first | ((with_reducible refine gate_dst (N := 2) rfl ?_); refine box_event ?hg (N := 2) ?hd (cs := #[.string x.f0, .slice Av1 x.f1.length cv1, .bool x.f2]) (t := 57) ?hr ?_; (case hd => rfl); (case hg => rfl); (case hr => first | (go_simp; done) | (go_simp; rfl)); intro gb hg w4 hbox hb; replace HB := pS HB hb; have BK := Aside0.mk hbox; replace B1 := pB B1 hb; clear hbox hb hg; obtain ⟨hc0, hc1, hc2, hf0, hf1, hf2⟩ := cz3 BK; obtain ⟨hd0, hg0⟩ := cz1 B1))); (go_ret); refine ⟨?_, pR HB⟩
 rw [show (x.f0.toList == s.toList) = decide (x.f0 = s) from by
  rw [Bool.eq_iff_iff, beq_iff_eq, decide_eq_true_eq, ByteArray.toList_eq, ByteArray.toList_eq]
  exact ⟨fun h => ByteArray.ext (Array.toList_inj.mp h), fun h => by rw [h]⟩]
 rfl
set_option maxHeartbeats 8000000 in
set_option maxRecDepth 100000 in
theorem impl_sailNamed.go (A0 : Option Addr) (c0 : Nat) (l0 : List S57) (a1 : ByteArray) (w : World) (hr0 : Kd.C k57 w A0 l0.length l0) (hn : l0.length < 4611686018427387904) :
 Calls Tryd.prog 55 #[.slice A0 l0.length c0, .string a1] w fun e w' => e = .returned (.int .i64 (idxF (fun x : S57 => decide (x.f0 = a1)) l0)) ∧ Below w.heap.size w w' := by
 have HR0 := Aside0.mk hr0; have HN := Aside0.mk hn; clear hr0 hn; have HB := Aside0.mk (Below.refl w.heap.size w); (go_enter Tryd.func55, Tryd.ntmps55); (go_wp2_with (first | ((with_reducible refine gate_dst (N := 3) rfl ?_); refine box_event ?hg (N := 3) ?hd (cs := #[.string a1]) (t := 9) ?hr ?_; (case hd => rfl); (case hg => rfl); (case hr => first | (go_simp; done) | (go_simp; rfl)); intro gb hg w4 hbox hb; replace HB := pS HB hb; have BK := Aside0.mk hbox; clear hbox hb hg))); refine (gen76 77 #[.pointer (some ⟨gb, 0, none⟩)] (fun x => decide (x.f0 = a1)) A0 c0 l0 w4 (fun _ _ => rfl) (Kd.C_below HR0.out HB.out) HN.out (fun W x Av cv hb => (pred77 gb a1 W x Av cv (blk_below BK.out hb)).mono ?_)).mono ?_
 ·rintro e w' ⟨h1, h2⟩; exact ⟨h1, below_step hb h2⟩
 rintro e w' ⟨rfl, hb⟩; have HB2 := pS HB hb; clear hb BK HB; (go_wp2); (go_ret); exact ⟨rfl, HB2.out⟩
def impl_sailNamed.f (l0 : List (S57)) (a1 : ByteArray) : Option (Int) := if l0.length < 4611686018427387904 then some (idxF (fun x : S57 => decide (x.f0 = a1)) l0) else none
theorem impl_sailNamed.calls (A0 : Option Addr) (c0 : Nat) (l0 : List (S57)) (a1 : ByteArray) (r : Int) (w : World) (hr0 : Kd.C k57 w A0 l0.length l0) (hc0 : l0.length ≤ c0) (h : impl_sailNamed.f l0 a1 = some r) :
 Calls Tryd.prog 55 #[.slice A0 l0.length c0, .string a1] w fun e w' => e = .returned (.int .i64 r) ∧ Below w.heap.size w w' := by
 unfold impl_sailNamed.f at h; split at h
 ·rename_i hn; obtain rfl := Option.some.inj h; exact impl_sailNamed.go A0 c0 l0 a1 w hr0 hn
 ·cases h

end Go.Proofs.YtdlckliobloodaaDoor.PFnExactPlanText
