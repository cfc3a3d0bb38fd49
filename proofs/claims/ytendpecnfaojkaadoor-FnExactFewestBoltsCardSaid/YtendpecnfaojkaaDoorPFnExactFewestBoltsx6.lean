-- Written by a program of this session (wip/tools/pp.sh).
import Derived.Test.YtendpecnfaojkaaDoorPFnExactFewestBoltsx0
import Derived.Test.YtendpecnfaojkaaDoorPFnExactFewestBoltsx5
namespace Go.Proofs.YtendpecnfaojkaaDoor.PFnExactFewestBolts
open Go.RowKit Go.Proofs.YtendpecnfaojkaaDoorW.PrintWords Go.Proofs.YtendpecnfaojkaaDoorW.PrintLast Go.Proofs.YtendpecnfaojkaaDoorW.PrintMore Go.Proofs.YtendpecnfaojkaaDoor.Small
open Bool renaming true → T, false → F
attribute [local go_sem] max2_int min2_int max_two min_two max_three min_three max_four min_four   -- for this text's walks alone
set_option linter.unusedVariables false
set_option linter.unusedSimpArgs false

/-! ### spec_FewestBolts: function 11, by hand -/
theorem ok_same {P : Program} {w : World} {m : Sem Value} {v v' : Value} {w1 w2 : World} (h : m.run P w = .ok v w1) (h' : m.run P w = .ok v' w2) : v = v' ∧ w1 = w2 := by
 rw [h] at h'; injection h' with e1 e2; exact ⟨e1, e2⟩
/-- Which of the two an append to an own row does: in place, with the room that there was; or to a new block, and then no old block is written. -/
theorem append_keep {P : Program} {w : World} (base : Nat) (t ty e : TypeId) (i : TypeInfo) (z : Value) (size bytes : Nat) (ht : P.underlying t = some (.slice e)) (hi : P.info? e = some i) (hz : i.zero = some z)
  (hsize : i.size = size) (hby : i.bytes = bytes) (hzs : z.cells.size = size) (hsz : 0 < size) (v : Value) (n : Nat) (xs : List Value) (hown : w.ownsRow base e size v n xs)
  (a : Addr) (m c : Nat) (hm0 : 0 < m) (news : List Value) (hl : news.length = m * size) (hnews : ∀ j u, news[j]? = some u → w.cell? (a.add j) = some u) (h1 : ∀ u ∈ news, u.oneCell' = true)
  (h63 : n + m ≤ maxLen) (hbytes : (n + m) * bytes ≤ 140737488355328) (hbase : base ≤ w.heap.size) :
  ∃ v' w', (Builtin.append_ #[t, t] ty #[v, .slice (some a) m c]).run P w = .ok v' w' ∧ w'.ownsRow base e size v' (n + m) (xs ++ news) ∧
   ((∃ g cap, v = .slice (some ⟨g, 0, none⟩) n cap ∧ v' = .slice (some ⟨g, 0, none⟩) (n + m) cap ∧ w.grownBy w' (some g)) ∨ (v'.ownBlock = some w.heap.size ∧ w.grownBy w' none)) := by
 obtain ⟨v', w', hr, h2, _, _, _⟩ := run_append_own_at (P := P) w base t ty e i z size bytes ht hi hz hsize hby hzs hsz v n xs hown a m c news hl hnews h1 h63 hbytes hbase; refine ⟨v', w', hr, h2, ?_⟩; (have hn63 : n + m ≤ 9223372036854775807 := by simp only [maxLen] at h63; omega); subst hsize; subst hby
 rcases hown.2 with ⟨ev, en⟩ | ⟨g, cap, cur, ev, _, hg, _, _, _, _⟩
 ·subst ev; subst en; have hr2 := run_append_nil (P := P) w t ty e i z ht hi hz a m c news hl hnews hm0 (by omega) (by have h_ := hbytes; simp only [Nat.zero_add] at h_; omega); obtain ⟨e1, e2⟩ := ok_same hr hr2; subst e1; subst e2; exact Or.inr ⟨rfl, ⟨rfl, rfl, rfl, by simp, fun k hk _ => heap_alloc_old w.drew _ hk⟩⟩
 ·subst ev; by_cases hroom : n + m ≤ cap
  ·obtain ⟨w2, hr2, _, h7⟩ := run_append_own_spare (P := P) w base t ty e i i.size ht hi rfl g n cap xs hown a m c news hl hnews h1 hroom; obtain ⟨e1, e2⟩ := ok_same hr hr2; subst e1; subst e2; exact Or.inl ⟨g, cap, rfl, rfl, h7⟩
  ·have hr2 := run_append_grow (P := P) w t ty e i z ht hi hz ⟨g, 0, none⟩ n cap xs hown.1 (hown.cells (g := g) rfl) a m c news hl hnews (by omega) (by omega) (growslice_fits (by omega) hbytes); obtain ⟨e1, e2⟩ := ok_same hr hr2; subst e1; subst e2; exact Or.inr ⟨rfl, ⟨rfl, rfl, rfl, by simp, fun k hk _ => heap_alloc_old w.drew _ hk⟩⟩
theorem wpList_append_keep {P : Program} {w : World} {ops : Array Oper} {rest : List Oper} {o : Oper} {a : Act} {Q : Exit → Act → World → Prop} (base : Nat) (hgd : o.guard = none) (s x : Operand) (t e : TypeId) (z : Value) (size bytes : Nat)
  (ho : o.op = .call { callee := .builtin .append, args := #[s, x], argTypes := #[t, t] }) (ht : P.underlying t = some (.slice e)) (hinfo : (P.info? e).map (fun i => (i.zero, i.size, i.bytes)) = some (some z, size, bytes)) (hzs : z.cells.size = size) (hsz : 0 < size) (hb0 : 0 < bytes)
  (v : Value) (n : Nat) (xs cs : List Value) (hs : a.eval s = v) (hx : a.eval x = .slice (some ⟨w.heap.size, 0, none⟩) 1 1) (hown : w.ownsRow base e size v n xs) (hl : cs.length = size) (h1 : ∀ u ∈ cs, u.oneCell' = true) (hbytes : (n + 1) * bytes ≤ 140737488355328) (hbase : base ≤ w.heap.size)
  (h : ∀ v' w', w'.ownsRow base e size v' (n + 1) (xs ++ cs) → ((∃ g cap, v = .slice (some ⟨g, 0, none⟩) n cap ∧ v' = .slice (some ⟨g, 0, none⟩) (n + 1) cap ∧ w.grownBy w' (some g)) ∨ ((∃ b, v'.ownBlock = some b ∧ w.heap.size ≤ b) ∧ w.grownBy w' none)) → wpList P ops Q rest (a.put o.dst v') w') :
  wpList P ops Q (o :: rest) a (w.alloc (.cells cs.toArray e)) := by
 obtain ⟨i, hi, hzz⟩ := Option.map_eq_some_iff.1 hinfo; simp only [Prod.mk.injEq] at hzz; obtain ⟨hz, hsize, hby⟩ := hzz; have hn : n + 1 ≤ 140737488355328 := Nat.le_trans (Nat.le_mul_of_pos_right _ hb0) hbytes; refine wpList_plain hgd fun K hK => ?_
 obtain ⟨v', w', hr, h2, h3⟩ := append_keep (P := P) (w := w.alloc (.cells cs.toArray e)) base t o.type e i z size bytes ht hi hz hsize hby hzs hsz v n xs (hown.alloc _) ⟨w.heap.size, 0, none⟩ 1 1 (by omega) cs (by rw [hl]; omega)
  (by simpa using World.news_of_block (cs := cs.toArray) (t := e) (fr := (0, 0)) (heap_alloc_new w (.cells cs.toArray e))) h1 (by simp only [maxLen]; omega) hbytes (by simp; omega)
 unfold Oper.wp execOp; simp only [ho, resolve, invoke, builtin, Sem.run_bind, Sem.run_pure, Result.andThen_ok, List.map_toArray, List.map_cons, List.map_nil, hs, hx, hr]; refine hK _ _ (h v' w' h2 ?_)
 rcases h3 with ⟨g, cap, e1, e2, h4⟩ | ⟨h4, h5⟩
 ·exact Or.inl ⟨g, cap, e1, e2, World.grownBy.trans (World.grownBy_alloc w _ _) h4⟩
 ·exact Or.inr ⟨⟨_, h4, by simp⟩, World.grownBy.trans (World.grownBy_alloc w _ _) h5⟩
section
variable {P : Program} {w : World} {ops : Array Oper} {rest : List Oper} {o : Oper} {a : Act} {Q : Exit → Act → World → Prop} {α : Type}
/-- What is known of an own row behind an append: which of the two it was. -/
def Kept2 (w w1 : World) (v v1 : Value) (n : Nat) : Prop := (∃ g cap, v = .slice (some ⟨g, 0, none⟩) n cap ∧ v1 = .slice (some ⟨g, 0, none⟩) (n + 1) cap ∧ w.grownBy w1 (some g)) ∨ ((∃ b, v1.ownBlock = some b ∧ w.heap.size ≤ b) ∧ w.grownBy w1 none)
theorem Kept2.grown {w w1 : World} {v v1 : Value} {n : Nat} (h : Kept2 w w1 v v1 n) : w.grownBy w1 v.ownBlock := by
 rcases h with ⟨g, cap, rfl, rfl, hg⟩ | ⟨_, hg⟩
 ·exact hg
 ·exact ⟨hg.os, hg.tape, hg.output, hg.size, fun k hk _ => hg.block k hk (by simp)⟩
theorem Kept2.at_ {w w1 : World} {v v1 : Value} {n : Nat} (h : Kept2 w w1 v v1 n) : v1.ownBlock = v.ownBlock ∨ ∃ b, v1.ownBlock = some b ∧ w.heap.size ≤ b := by
 rcases h with ⟨g, cap, rfl, rfl, _⟩ | ⟨hb, _⟩
 ·exact Or.inl rfl
 ·exact Or.inr hb
theorem R_append_keep (d : Kd α) {w0 : World} (base : Nat) (hgd : o.guard = none) (s x : Operand) (t e : TypeId) (z : Value) (bytes : Nat)
  (ho : o.op = .call { callee := .builtin .append, args := #[s, x], argTypes := #[t, t] })
  (ht : P.underlying t = some (.slice e)) (hinfo : (P.info? e).map (fun i => (i.zero, i.size, i.bytes)) = some (some z, d.sz, bytes)) (hz : z.cells.size = d.sz) (hs0 : 0 < d.sz) (hb0 : 0 < bytes)
  (v : Value) (xs : List α) (p : α) (cs : List Value) (ok okp : Nat → Prop) (hs : a.eval s = v) (hx : a.eval x = .slice (some ⟨w.heap.size, 0, none⟩) 1 1) (hp : d.M w base okp p cs) (hokp : ∀ k, okp k → ok k ∧ some k ≠ v.ownBlock) (hfresh : ∀ k, w.heap.size ≤ k → ok k)
  (HO : d.R e w base ok v xs) (HB : Below base w0 w) (hbase : base ≤ w.heap.size) (hl : (xs.length + 1) * bytes ≤ 140737488355328)
  (h : ∀ v1 w1, d.R e w1 base ok v1 (xs ++ [p]) → Below base w0 w1 → Kept2 w w1 v v1 xs.length → wpList P ops Q rest (a.put o.dst v1) w1) :
  wpList P ops Q (o :: rest) a (w.alloc (.cells cs.toArray e)) := by
 have hbk := Kd.R_base HO; obtain ⟨h0, inner, hown, hr⟩ := HO; refine wpList_append_keep base hgd s x t e z d.sz bytes ho ht hinfo hz hs0 hb0 v xs.length inner cs hs hx hown (d.K_len (d.K_of_M hp)) (d.K_one (d.K_of_M hp)) hl hbase ?_; intro v1 w1 hown1 hk; have hk2 : Kept2 w w1 v v1 xs.length := hk; exact h v1 w1 (Kd.R_appended h0 hr hp hokp hfresh hown1 hk2.grown hk2.at_) (HB.grown hk2.grown hbase hbk) hk2
/-- Behind what was done with the longer row, the shorter one reads as it did. -/
theorem R_back (d : Kd α) {base e : Nat} {ok : Nat → Prop} {w1 w2 : World} {v v1 : Value} {xs : List α} {p : α} (hE : d.E = []) (hk : Kept2 w w1 v v1 xs.length) (h1 : d.R e w base ok v xs) (h2 : d.R e w2 base ok v1 (xs ++ [p])) (hf : ∀ k, k < w1.heap.size → some k = v.ownBlock → some k ≠ v1.ownBlock → w2.heap[k]? = w1.heap[k]?) : d.R e w2 base ok v xs := by
 rcases hk with ⟨g, cap, e1, e2, _⟩ | ⟨⟨b, hb, hlt⟩, hg⟩
 ·rw [e2] at h2; have := Kd.R_take (m := xs.length) h2 (by simp); rw [List.take_left] at this; rw [e1]; exact this
 ·have h3 := Kd.R_tight hE h1; have h4 := Kd.R_grown h3 hg (fun k _ => by simp)
  have h5 := Kd.R_step h4 (w1 := w2) (fun k hok hk => hf k hk hok (by
   intro e; rw [hb] at e; have := Kd.R_lt h1 k hok.symm; injection e with e
   omega))
  exact Kd.R_mono h5 (fun k hok => h1.1 k hok.symm)
end
structure WalkAt (w0 w : World) (g : Nat) (v0 v1 v2 v3 : Value) (few : Int) (ps : List S98) (us : List Int) (be : List S60) : Prop where
 box : w.heap[g]? = some (.cells #[v0, v1, v2, v3, .int .i64 few] 78 (0, 0))
 new : w0.heap.size ≤ g
 r0 : Kd.R k98 98 w w0.heap.size (fun _ => True) v0 ps
 r2 : Kd.R (Kd.int .i64) 2 w w0.heap.size (fun _ => True) v2 us
 r3 : Kd.R k60 60 w w0.heap.size (fun _ => True) v3 be
 below : Below w0.heap.size w0 w
section
variable {w0 w w' : World} {g : Nat} {v0 v1 v2 v3 : Value} {few : Int} {ps : List S98} {us : List Int} {be : List S60}
theorem WalkAt.later (h : WalkAt w0 w g v0 v1 v2 v3 few ps us be) (hb : Below w.heap.size w w') : WalkAt w0 w' g v0 v1 v2 v3 few ps us be :=
 ⟨blk_below h.box hb, h.new, Kd.R_below h.r0 hb, Kd.R_below h.r2 hb, Kd.R_below h.r3 hb, below_step h.below hb⟩
theorem WalkAt.drew (h : WalkAt w0 w g v0 v1 v2 v3 few ps us be) : WalkAt w0 w.drew g v0 v1 v2 v3 few ps us be := h.later (below_drew (Below.refl _ _))
theorem WalkAt.putBest (h : WalkAt w0 w g v0 v1 v2 v3 few ps us be) {v3' : Value} {be' : List S60} (h3 : Kd.R k60 60 w w0.heap.size (fun _ => True) v3' be') : WalkAt w0 (w.setCell ⟨g, 3, none⟩ v3') g v0 v1 v2 v3' few ps us be' :=
 ⟨blk_put h.box 3 v3' rfl, h.new, Kd.R_set h.r0 h.box (by decide) 3 v3', Kd.R_set h.r2 h.box (by decide) 3 v3', Kd.R_set h3 h.box (by decide) 3 v3', h.below.setCell h.new _⟩
theorem WalkAt.putFew (h : WalkAt w0 w g v0 v1 v2 v3 few ps us be) (n : Int) : WalkAt w0 (w.setCell ⟨g, 4, none⟩ (.int .i64 n)) g v0 v1 v2 v3 n ps us be :=
 ⟨blk_put h.box 4 _ rfl, h.new, Kd.R_set h.r0 h.box (by decide) 4 _, Kd.R_set h.r2 h.box (by decide) 4 _, Kd.R_set h.r3 h.box (by decide) 4 _, h.below.setCell h.new _⟩
/-- Behind an append to the places: the state is as it was. -/
theorem WalkAt.grown (h : WalkAt w0 w g v0 v1 v2 v3 few ps us be) {vp : Value} {pl : List S60} {w1 : World} (hp : Kd.R k60 60 w w0.heap.size (fun k => some k ≠ v3.ownBlock) vp pl) (hb : Below w0.heap.size w0 w1) (hg : w.grownBy w1 vp.ownBlock) : WalkAt w0 w1 g v0 v1 v2 v3 few ps us be :=
 ⟨blk_grown h.box hg (Kd.R_ne hp h.box (by decide)), h.new, Kd.R_mono (Kd.R_grown (Kd.R_apart' h.r0 (Kd.R_typed hp) (by decide)) hg (fun k hk => hk.2)) (fun _ _ => trivial),
  Kd.R_mono (Kd.R_grown (Kd.R_apart' h.r2 (Kd.R_typed hp) (by decide)) hg (fun k hk => hk.2)) (fun _ _ => trivial),
  Kd.R_mono (Kd.R_grown (Kd.R_tight rfl h.r3) hg (fun k hk e => hp.1 k e.symm hk)) (fun _ _ => trivial), hb⟩
theorem WalkAt.putU {gu n c : Nat} (h : WalkAt w0 w g v0 v1 (.slice (some ⟨gu, 0, none⟩) n c) v3 few ps us be) (i y x : Int) (e : y = x) : WalkAt w0 (w.setCell ⟨gu, i.toNat, none⟩ (.int .i64 y)) g v0 v1 (.slice (some ⟨gu, 0, none⟩) n c) v3 few ps (us.set i.toNat x) be := by
 subst e; obtain rfl := (Kd.R_reads' h.r2).1; have e1 := Kd.R_ne h.r2 h.box (by decide); (have hne : gu ≠ g := fun e => e1 (by simp [Value.ownBlock, e])); have hp := Kd.R_put h.r2 i y; refine ⟨(Below.heap_setCell w _ _ g hne.symm).trans h.box, h.new, ?_, ?_, ?_, h.below.setCell (Kd.R_base h.r2 gu rfl) _⟩
 ·exact Kd.R_mono (Kd.R_grown (Kd.R_apart' h.r0 (Kd.R_typed h.r2) (by decide)) hp.2 (fun k hk => hk.2)) (fun _ _ => trivial)
 ·exact hp.1
 ·exact Kd.R_mono (Kd.R_grown (Kd.R_apart' h.r3 (Kd.R_typed h.r2) (by decide)) hp.2 (fun k hk => hk.2)) (fun _ _ => trivial)
theorem WalkAt.putP {gp n c : Nat} (h : WalkAt w0 w g (.slice (some ⟨gp, 0, none⟩) n c) v1 v2 v3 few ps us be) (i : Int) (h0 : 0 ≤ i) (h1 : i < n) (y x : Int) (e : y = x) {b f : Int} (hb : b = (rd_T98 ps i).f0) (hf : f = (rd_T98 ps i).f2) :
  WalkAt w0 (w.setCell ⟨gp, i.toNat * 3 + 1, none⟩ (.int .i64 y)) g (.slice (some ⟨gp, 0, none⟩) n c) v1 v2 v3 few (ps.set i.toNat ⟨b, x, f⟩) us be := by
 subst e; subst hb; subst hf; obtain rfl := (Kd.R_reads' h.r0).1; have e1 := Kd.R_ne h.r0 h.box (by decide); (have hne : gp ≠ g := fun e => e1 (by simp [Value.ownBlock, e])); obtain ⟨ce, hcl, hM, hcc, hfr⟩ := Kd.R_elem h.r0 z98 i h0 h1; obtain rfl := k98_openM hM; have HP := Kd.R_seg h.r0 i h0 h1 (seg := [.int .i64 y]) (j := 1) hcl hcc (show 2 ≤ 3 from by decide) (x' := (⟨(rd_T98 ps i).f0, y, (rd_T98 ps i).f2⟩ : S98)) (k98_mkM _ _ _ (⟨(rd_T98 ps i).f0, y, (rd_T98 ps i).f2⟩ : S98)) (fun _ hk => hk); simp only [World.setCells, show (k98).sz = 3 from rfl] at HP; refine ⟨(Below.heap_setCell w _ _ g hne.symm).trans h.box, h.new, HP.1, ?_, ?_, h.below.setCell (Kd.R_base h.r0 gp rfl) _⟩
 ·exact Kd.R_mono (Kd.R_far (p := ⟨gp, i.toNat * 3 + 1, none⟩) (Kd.R_apart' h.r2 (Kd.R_typed h.r0) (by decide)) (fun k hk e => hk.2 (by rw [e]; rfl)) _) (fun _ _ => trivial)
 ·exact Kd.R_mono (Kd.R_far (p := ⟨gp, i.toNat * 3 + 1, none⟩) (Kd.R_apart' h.r3 (Kd.R_typed h.r0) (by decide)) (fun k hk e => hk.2 (by rw [e]; rfl)) _) (fun _ _ => trivial)
end
theorem wrapIdW {n : Int} (h0 : -9223372036854775808 ≤ n) (h1 : n ≤ 9223372036854775807) : wrap64 n = n := by unfold wrap64; omega
def cntUW : List Int → Int
 | [] => 0
 | u :: l => (if 0 < u then 1 else 0) + cntUW l
theorem cntU_leW : ∀ l : List Int, 0 ≤ cntUW l ∧ cntUW l ≤ l.length
 | [] => ⟨Int.le_refl _, Int.le_refl _⟩
 | u :: l => by
  have := cntU_leW l
  simp only [cntUW, List.length_cons]
  split <;> omega
theorem rdT_memW (ps : List S98) (x : Int) (h0 : 0 ≤ x) (h1 : x < ps.length) : rd_T98 ps x ∈ ps := by
 (have : rd_T98 ps x = ps[x.toNat]'(by omega) := by simp [rd_T98, rdOf, show x.toNat < ps.length by omega]); rw [this]; exact List.getElem_mem _
abbrev SW := List S98 × List Int
def okW (p : Int) (s : SW) (k : Nat) : Bool := decide (p ≤ (rd_T98 s.1 k).f2 - (rd_T98 s.1 k).f1)
def stW (p : Int) (s : SW) (k : Nat) : SW := (s.1.set k ⟨(rd_T98 s.1 k).f0, (rd_T98 s.1 k).f1 + p, (rd_T98 s.1 k).f2⟩, s.2.set (rd_T98 s.1 k).f0.toNat (rd s.2 (rd_T98 s.1 k).f0 + 1))
def pcW (s : SW) (k : Nat) : S60 := ⟨(rd_T98 s.1 k).f0, (rd_T98 s.1 k).f1⟩
def cntW (s : SW) : Nat := (cntUW s.2).toNat
def freshW (s : SW) (k : Nat) : Bool := decide (rd s.2 (rd_T98 s.1 k).f0 = 0)
structure InvW (r : Nat) (s : SW) : Prop where
 a : ∀ q ∈ s.1, 0 ≤ q.f0 ∧ q.f0 < s.2.length ∧ 0 ≤ q.f1 ∧ q.f1 ≤ q.f2 ∧ q.f2 ≤ 10000
 b : ∀ u ∈ s.2, 0 ≤ u ∧ u + r ≤ 6
 c : s.1.length ≤ 28
 d : s.2.length ≤ 4
theorem rd_memW (us : List Int) (x : Int) (h0 : 0 ≤ x) (h1 : x < us.length) : rd us x ∈ us := by
 (have : rd us x = us[x.toNat]'(by omega) := by simp [rd, rdOf, show x.toNat < us.length by omega]); rw [this]; exact List.getElem_mem _
theorem rd_setPW (ps : List S98) (x : Int) (h0 : 0 ≤ x) (h1 : x < ps.length) (y : S98) : rd_T98 (ps.set x.toNat y) x = y := by
 simp [rd_T98, rdOf, show x.toNat < ps.length by omega]
theorem rd_setUW (us : List Int) (x : Int) (h0 : 0 ≤ x) (h1 : x < us.length) (y : Int) : rd (us.set x.toNat y) x = y := by
 simp [rd, rdOf, show x.toNat < us.length by omega]
theorem set_backPW (ps : List S98) (x : Int) (h0 : 0 ≤ x) (h1 : x < ps.length) (y : S98) : (ps.set x.toNat y).set x.toNat (rd_T98 ps x) = ps := by
 (have h : x.toNat < ps.length := by omega); (have : rd_T98 ps x = ps[x.toNat] := by simp [rd_T98, rdOf, h]); rw [List.set_set, this, List.set_getElem_self]
theorem set_backUW (us : List Int) (x : Int) (h0 : 0 ≤ x) (h1 : x < us.length) (y : Int) : (us.set x.toNat y).set x.toNat (rd us x) = us := by
 (have h : x.toNat < us.length := by omega); (have : rd us x = us[x.toNat] := by simp [rd, rdOf, h]); rw [List.set_set, this, List.set_getElem_self]
theorem InvW.step {r : Nat} {s : SW} (h : InvW (r + 1) s) (p : Int) (hp : 1 ≤ p) (k : Nat) (hk : k < s.1.length) (ho : okW p s k = true) : InvW r (stW p s k) := by
 have hq := h.a _ (rdT_memW s.1 (k : Int) (by omega) (by omega)); have ho' : p ≤ (rd_T98 s.1 (k : Int)).f2 - (rd_T98 s.1 (k : Int)).f1 := of_decide_eq_true ho; refine ⟨?_, ?_, ?_, ?_⟩
 ·intro q hm; simp only [stW, List.length_set] at hm ⊢
  rcases List.mem_or_eq_of_mem_set hm with hm | rfl
  ·exact h.a q hm
  ·exact ⟨hq.1, hq.2.1, by show 0 ≤ (rd_T98 s.1 (k : Int)).f1 + p; omega, by show (rd_T98 s.1 (k : Int)).f1 + p ≤ (rd_T98 s.1 (k : Int)).f2; omega, hq.2.2.2.2⟩
 ·intro u hm; simp only [stW] at hm
  rcases List.mem_or_eq_of_mem_set hm with hm | rfl
  ·have := h.b u hm; omega
  ·have := h.b _ (rd_memW s.2 (rd_T98 s.1 k).f0 hq.1 hq.2.1); omega
 ·simpa [stW] using h.c
 ·simpa [stW] using h.d
theorem WalkAt.part {w0 w : World} {g : Nat} {v1 v2 v3 : Value} {few : Int} {ps : List S98} {us : List Int} {be : List S60} {gp n c : Nat} (h : WalkAt w0 w g (.slice (some ⟨gp, 0, none⟩) n c) v1 v2 v3 few ps us be) (x : Int) (h0 : 0 ≤ x) (h1 : x < n) {b a e : Int} (hb : b = (rd_T98 ps x).f0) (ha : a = (rd_T98 ps x).f1) (he : e = (rd_T98 ps x).f2) :
  w.cell? ⟨gp, x.toNat * 3, none⟩ = some (.int .i64 b) ∧ w.cell? ⟨gp, x.toNat * 3 + 1, none⟩ = some (.int .i64 a) ∧ w.cell? ⟨gp, x.toNat * 3 + 2, none⟩ = some (.int .i64 e) ∧ w.frozen? ⟨gp, x.toNat * 3 + 1, none⟩ = false := by
 subst hb; subst ha; subst he; obtain ⟨ce, hcl, hM, hcc, hfr⟩ := Kd.R_elem h.r0 z98 x h0 h1; obtain rfl := k98_openM hM; exact ⟨hcc 0 _ rfl, hcc 1 _ rfl, hcc 2 _ rfl, hfr 1⟩
theorem WalkAt.use {w0 w : World} {g : Nat} {v0 v1 v3 : Value} {few : Int} {ps : List S98} {us : List Int} {be : List S60} {gu n c : Nat} (h : WalkAt w0 w g v0 v1 (.slice (some ⟨gu, 0, none⟩) n c) v3 few ps us be) (b : Int) (h0 : 0 ≤ b) (h1 : b < n) {u : Int} (hu : u = rd us b) :
  w.cell? ⟨gu, b.toNat, none⟩ = some (.int .i64 u) ∧ w.frozen? ⟨gu, b.toNat, none⟩ = false := by
 subst hu; exact Kd.R_celln 0 h.r2 b h0 h1
/-- What a walk leaves as it was: every old block but the state's own. -/
def FrameW (w w' : World) (g : Nat) (v0 v2 vp : Value) : Prop := w.heap.size ≤ w'.heap.size ∧ ∀ k, k < w.heap.size → k ≠ g → some k ≠ v0.ownBlock → some k ≠ v2.ownBlock → some k ≠ vp.ownBlock → w'.heap[k]? = w.heap[k]?
theorem FrameW.refl (w : World) (g : Nat) (v0 v2 vp : Value) : FrameW w w g v0 v2 vp := ⟨Nat.le_refl _, fun _ _ _ _ _ _ => rfl⟩
theorem FrameW.trans {a b c : World} {g : Nat} {v0 v2 vp : Value} (h : FrameW a b g v0 v2 vp) (h' : FrameW b c g v0 v2 vp) : FrameW a c g v0 v2 vp :=
 ⟨Nat.le_trans h.1 h'.1, fun k hk h1 h2 h3 h4 => (h'.2 k (Nat.lt_of_lt_of_le hk h.1) h1 h2 h3 h4).trans (h.2 k hk h1 h2 h3 h4)⟩
theorem FrameW.below {w w' : World} {g : Nat} {v0 v2 vp : Value} (h : Below w.heap.size w w') : FrameW w w' g v0 v2 vp := ⟨h.size, fun k hk _ _ _ _ => h.block k hk⟩
theorem FrameW.set {w : World} {g : Nat} {v0 v2 vp : Value} (a : Addr) (u : Value) (h : a.block = g ∨ some a.block = v0.ownBlock ∨ some a.block = v2.ownBlock ∨ some a.block = vp.ownBlock) : FrameW w (w.setCell a u) g v0 v2 vp := by
 refine ⟨((Below.refl 0 w).setCell (p := a) (Nat.zero_le _) u).size, fun k hk h1 h2 h3 h4 => Below.heap_setCell w a u k ?_⟩; rintro rfl
 rcases h with h | h | h | h
 ·exact h1 h
 ·exact h2 h
 ·exact h3 h
 ·exact h4 h
theorem FrameW.grown {w w' : World} {g : Nat} {v0 v2 vp : Value} (h : w.grownBy w' vp.ownBlock) : FrameW w w' g v0 v2 vp := ⟨h.size, fun k hk _ _ _ h4 => h.block k hk h4⟩
/-- A walk with a longer row, seen from the shorter one. -/
theorem FrameW.back {w w1 w2 : World} {g : Nat} {v0 v2 vp v1 : Value} {n : Nat} (hk : Kept2 w w1 vp v1 n) (h : FrameW w1 w2 g v0 v2 v1) : FrameW w w2 g v0 v2 vp := by
 have hg := hk.grown; refine ⟨Nat.le_trans hg.size h.1, fun k hlt h1 h2 h3 h4 => ?_⟩; refine (h.2 k (Nat.lt_of_lt_of_le hlt hg.size) h1 h2 h3 ?_).trans (hg.block k hlt h4)
 rcases hk with ⟨g', cap, e1, e2, _⟩ | ⟨⟨b, hb, hle⟩, _⟩
 ·rw [e1] at h4; rw [e2]; exact h4
 ·rw [hb]; intro e; injection e with e; omega
/-- The reference's walk. -/
def stopW (b : Option (List S60 × Nat)) (s : SW) : Bool := match b with
 | none => false
 | some y => decide (y.2 ≤ cntW s)
def walkW (m : Nat) : List Int → SW → List S60 → Option (List S60 × Nat) → Option (List S60 × Nat)
 | [], s, acc, b => if stopW b s = true then b else some (acc, cntW s)
 | p :: ps, s, acc, b => if stopW b s = true then b else (List.range m).foldl (fun b k => if okW p s k = true then walkW m ps (stW p s k) (acc ++ [pcW s k]) b else b) b
def encF : Option (List S60 × Nat) → Int
 | none => -1
 | some y => (y.2 : Int)
def encB : Option (List S60 × Nat) → List S60
 | none => []
 | some y => y.1
theorem winfo60 : (Tryd.prog.info? 60).map (fun i => (i.zero, i.size, i.bytes)) = some (some (.agg #[(.int .i64 0), (.int .i64 0)]), 2, 16) := by kernel_rfl
theorem cz5 {w : World} {g t : Nat} {a b c d e : Value} (h : Aside0 (w.heap[g]? = some (.cells #[a, b, c, d, e] t (0, 0)))) : w.cell? ⟨g, 0, none⟩ = some a ∧ w.cell? ⟨g, 1, none⟩ = some b ∧ w.cell? ⟨g, 2, none⟩ = some c ∧ w.cell? ⟨g, 3, none⟩ = some d ∧ w.cell? ⟨g, 4, none⟩ = some e :=
 ⟨(blk_cell h.out 0).trans rfl, (blk_cell h.out 1).trans rfl, (blk_cell h.out 2).trans rfl, (blk_cell h.out 3).trans rfl, (blk_cell h.out 4).trans rfl⟩
theorem stop_eq (b : Option (List S60 × Nat)) (ps : List S98) (us : List Int) (h : stopW b (ps, us) = false) : (decide ((0 : Int) ≤ encF b) = false) ∨ (decide ((0 : Int) ≤ encF b) = true ∧ decide (encF b ≤ cntUW us) = false) := by
 have hcn := cntU_leW us
 cases b with
 | none => exact Or.inl rfl
 | some y =>
  refine Or.inr ⟨decide_eq_true (Int.natCast_nonneg _), decide_eq_false ?_⟩; have h1 : ¬ (y.2 ≤ cntW (ps, us)) := of_decide_eq_false h; (show ¬ ((y.2 : Int) ≤ cntUW us)); simp only [cntW] at h1; omega
/-- Behind what was done with the longer row, the shorter one reads as it did. -/
theorem R_back2 {α : Type} (d : Kd α) {base e : Nat} {ok ok' : Nat → Prop} {w w1 w2 : World} {v v1 : Value} {xs : List α} {p : α} (hE : d.E = []) (hk : Kept2 w w1 v v1 xs.length) (h1 : d.R e w base ok v xs) (h2 : d.R e w2 base ok' v1 (xs ++ [p])) (hf : ∀ k, k < w1.heap.size → some k = v.ownBlock → some k ≠ v1.ownBlock → w2.heap[k]? = w1.heap[k]?) (hok : ∀ k, v.ownBlock = some k → ok' k) : d.R e w2 base ok' v xs := by
 rcases hk with ⟨g, cap, e1, e2, _⟩ | ⟨⟨b, hb, hlt⟩, hg⟩
 ·rw [e2] at h2; have := Kd.R_take (m := xs.length) h2 (by simp); rw [List.take_left] at this; rw [e1]; exact this
 ·have h3 := Kd.R_tight hE h1; have h4 := Kd.R_grown h3 hg (fun k _ => by simp)
  have h5 := Kd.R_step h4 (w1 := w2) (fun k hok hk => hf k hk hok (by
   intro e; rw [hb] at e; have := Kd.R_lt h1 k hok.symm; injection e with e
   omega))
  exact Kd.R_mono h5 (fun k hk => hok k hk.symm)
/-- All that stands between two steps of the loop: the state, the places, what was left as it was since ws, and which block the best ones lie in. -/
structure AtW (w0 ws : World) (v3s vp : Value) (pl : List S60) (w : World) (g : Nat) (v0 v1 v2 v3 : Value) (few : Int) (ps : List S98) (us : List Int) (be : List S60) : Prop where
 i : WalkAt w0 w g v0 v1 v2 v3 few ps us be
 p : Kd.R k60 60 w w0.heap.size (fun k => some k ≠ v3.ownBlock) vp pl
 f : FrameW ws w g v0 v2 vp
 n : ∀ k, v3.ownBlock = some k → v3s.ownBlock = some k ∨ ws.heap.size ≤ k
theorem keepV {w w' : World} {base : Nat} {ok : Nat → Prop} {vp : Value} {pl : List S60} (hp : Kd.R k60 60 w base ok vp pl) (h : ∀ k, k < w.heap.size → vp.ownBlock = some k → w'.heap[k]? = w.heap[k]?) : Kd.R k60 60 w' base ok vp pl :=
 Kd.R_mono (Kd.R_step (Kd.R_tight rfl hp) (fun k hk hlt => h k hlt hk.symm)) (fun k hk => hp.1 k hk.symm)
section
variable {w0 ws w w' : World} {v3s vp v0 v1 v2 v3 : Value} {pl be : List S60} {g : Nat} {few : Int} {ps : List S98} {us : List Int}
theorem AtW.start (hI : WalkAt w0 w g v0 v1 v2 v3 few ps us be) (hp : Kd.R k60 60 w w0.heap.size (fun k => some k ≠ v3.ownBlock) vp pl) : AtW w0 w v3 vp pl w g v0 v1 v2 v3 few ps us be := ⟨hI, hp, FrameW.refl _ _ _ _ _, fun _ h => Or.inl h⟩
theorem AtW.later (h : AtW w0 ws v3s vp pl w g v0 v1 v2 v3 few ps us be) (hb : Below w.heap.size w w') : AtW w0 ws v3s vp pl w' g v0 v1 v2 v3 few ps us be :=
 ⟨h.i.later hb, Kd.R_below h.p hb, h.f.trans (FrameW.below hb), h.n⟩
theorem AtW.drew (h : AtW w0 ws v3s vp pl w g v0 v1 v2 v3 few ps us be) : AtW w0 ws v3s vp pl w.drew g v0 v1 v2 v3 few ps us be := h.later (below_drew (Below.refl _ _))
theorem AtW.ne0 (h : AtW w0 ws v3s vp pl w g v0 v1 v2 v3 few ps us be) {k : Nat} (hk : vp.ownBlock = some k) : k ≠ g ∧ some k ≠ v0.ownBlock ∧ some k ≠ v2.ownBlock := by
 refine ⟨fun e => Kd.R_ne h.p h.i.box (by decide) (by rw [hk, e]), fun e => ?_, fun e => ?_⟩
 ·obtain ⟨c, hc⟩ := Kd.R_typed h.p k hk; obtain ⟨c', hc'⟩ := Kd.R_typed h.i.r0 k e.symm; rw [hc] at hc'; injection hc' with h1; injection h1 with _ h2; exact absurd h2 (by decide)
 ·obtain ⟨c, hc⟩ := Kd.R_typed h.p k hk; obtain ⟨c', hc'⟩ := Kd.R_typed h.i.r2 k e.symm; rw [hc] at hc'; injection hc' with h1; injection h1 with _ h2; exact absurd h2 (by decide)
theorem AtW.putU {gu n c : Nat} (h : AtW w0 ws v3s vp pl w g v0 v1 (.slice (some ⟨gu, 0, none⟩) n c) v3 few ps us be) (i y x : Int) (e : y = x) : AtW w0 ws v3s vp pl (w.setCell ⟨gu, i.toNat, none⟩ (.int .i64 y)) g v0 v1 (.slice (some ⟨gu, 0, none⟩) n c) v3 few ps (us.set i.toNat x) be :=
 ⟨h.i.putU i y x e, keepV h.p (fun k _ hk => Below.heap_setCell w _ _ k (fun e => (h.ne0 hk).2.2 (by rw [e]; rfl))), h.f.trans (FrameW.set _ _ (Or.inr (Or.inr (Or.inl rfl)))), h.n⟩
theorem AtW.putP {gp n c : Nat} (h : AtW w0 ws v3s vp pl w g (.slice (some ⟨gp, 0, none⟩) n c) v1 v2 v3 few ps us be) (i : Int) (h0 : 0 ≤ i) (h1 : i < n) (y x : Int) (e : y = x) {b f : Int} (hb : b = (rd_T98 ps i).f0) (hf : f = (rd_T98 ps i).f2) :
  AtW w0 ws v3s vp pl (w.setCell ⟨gp, i.toNat * 3 + 1, none⟩ (.int .i64 y)) g (.slice (some ⟨gp, 0, none⟩) n c) v1 v2 v3 few (ps.set i.toNat ⟨b, x, f⟩) us be :=
 ⟨h.i.putP i h0 h1 y x e hb hf, keepV h.p (fun k _ hk => Below.heap_setCell w _ _ k (fun e => (h.ne0 hk).2.1 (by rw [e]; rfl))), h.f.trans (FrameW.set _ _ (Or.inr (Or.inl rfl))), h.n⟩
/-- The call of itself with one place more, seen from the loop. -/
theorem AtW.call {w1 w2 : World} {v1p v3' : Value} {q : S60} {few' : Int} {be' : List S60} (h : AtW w0 ws v3s vp pl w g v0 v1 v2 v3 few ps us be) (hk : Kept2 w w1 vp v1p pl.length) (hI : WalkAt w0 w2 g v0 v1 v2 v3' few' ps us be') (h2 : Kd.R k60 60 w2 w0.heap.size (fun k => some k ≠ v3'.ownBlock) v1p (pl ++ [q])) (hF : FrameW w1 w2 g v0 v2 v1p)
  (hn : ∀ k, v3'.ownBlock = some k → v3.ownBlock = some k ∨ w1.heap.size ≤ k) : AtW w0 ws v3s vp pl w2 g v0 v1 v2 v3' few' ps us be' := by
 refine ⟨hI, R_back2 k60 rfl hk h.p h2 (fun k hlt hk1 hk2 => ?_) (fun k hk1 e => ?_), h.f.trans (FrameW.back hk hF), fun k hk1 => ?_⟩
 ·have hne := h.ne0 hk1.symm; exact hF.2 k hlt hne.1 hne.2.1 hne.2.2 hk2
 ·rcases hn k e.symm with h3 | h3
  ·exact h.p.1 k hk1 h3.symm
  ·have := Kd.R_lt h.p k hk1; have := hk.grown.size; omega
 ·rcases hn k hk1 with h3 | h3
  ·exact h.n k h3
  ·refine Or.inr ?_; have := hk.grown.size; have := h.f.1; omega
/-- A block that was made in this round stays behind the call. -/
theorem boxCall {w1 w2 : World} {v1p : Value} {n gb : Nat} {o : Obj} (hb : w.heap[gb]? = some o) (hk : Kept2 w w1 vp v1p n) (hF : FrameW w1 w2 g v0 v2 v1p) (h1 : gb ≠ g) (h2 : some gb ≠ v0.ownBlock) (h3 : some gb ≠ v2.ownBlock) (h4 : some gb ≠ vp.ownBlock) : w2.heap[gb]? = some o := by
 have hlt := blk_lt hb; have hF2 := FrameW.back hk hF; exact (hF2.2 gb hlt h1 h2 h3 h4).trans hb
theorem AtW.grown {w1 : World} {v1p : Value} {n : Nat} (h : AtW w0 ws v3s vp pl w g v0 v1 v2 v3 few ps us be) (hk : Kept2 w w1 vp v1p n) (hb : Below w0.heap.size w0 w1) : WalkAt w0 w1 g v0 v1 v2 v3 few ps us be := h.i.grown h.p hb hk.grown
end
def foldW (m : Nat) (rest : List Int) (p : Int) (s : SW) (pl : List S60) (b : Option (List S60 × Nat)) (ks : List Nat) : Option (List S60 × Nat) := ks.foldl (fun b k => if okW p s k = true then walkW m rest (stW p s k) (pl ++ [pcW s k]) b else b) b
theorem fold_skip {m : Nat} {rest : List Int} {p : Int} {s : SW} {pl : List S60} {b : Option (List S60 × Nat)} {k j : Nat} (h : okW p s k = false) : foldW m rest p s pl b (List.range' k (j + 1)) = foldW m rest p s pl b (List.range' (k + 1) j) := by
 unfold foldW; rw [List.range'_succ, List.foldl_cons, h]; rfl
theorem fold_hit {m : Nat} {rest : List Int} {p : Int} {s : SW} {pl : List S60} {b : Option (List S60 × Nat)} {k j : Nat} (h : okW p s k = true) : foldW m rest p s pl b (List.range' k (j + 1)) = foldW m rest p s pl (walkW m rest (stW p s k) (pl ++ [pcW s k]) b) (List.range' (k + 1) j) := by
 unfold foldW; rw [List.range'_succ, List.foldl_cons, h]; rfl
theorem walkW_cons {m : Nat} {rest : List Int} {p : Int} {s : SW} {pl : List S60} {b : Option (List S60 × Nat)} (h : stopW b s = false) : walkW m (p :: rest) s pl b = foldW m rest p s pl b (List.range' 0 m) := by
 unfold walkW foldW; rw [if_neg (by rw [h]; decide), List.range_eq_range']
theorem walkW_stop {m : Nat} {rest : List Int} {s : SW} {pl : List S60} {b : Option (List S60 × Nat)} (h : stopW b s = true) : walkW m rest s pl b = b := by
 cases rest <;> (unfold walkW; rw [if_pos h])
theorem cntU_setW : ∀ (us : List Int) (i : Nat), i < us.length → (∀ u ∈ us, 0 ≤ u) → cntUW (us.set i (us.getD i 0 + 1)) = cntUW us + (if us.getD i 0 = 0 then 1 else 0)
 | u :: l, 0, _, h => by
  have := h u (by simp)
  simp only [List.set_cons_zero, cntUW, List.getD_cons_zero]
  split <;> split <;> split <;> omega
 | u :: l, i + 1, hi, h => by
  have := cntU_setW l i (by simpa using hi) (fun u hu => h u (by simp [hu]))
  simp only [List.set_cons_succ, cntUW, List.getD_cons_succ]
  rw [this]
  omega
theorem cnt_more (us : List Int) (b u : Int) (h0 : 0 ≤ b) (h1 : b < us.length) (hu : u = rd us b) (h : ∀ u ∈ us, 0 ≤ u) : cntUW (us.set b.toNat (u + 1)) = cntUW us + (if u = 0 then 1 else 0) := by
 subst hu; exact cntU_setW us b.toNat (by omega) h
def lwalk.T9 : Bool × List (List Nat × List Nat) := (true, [([], []), ([0], [0]), ([], []), ([2], [2]), ([1, 3], [1, 3]), ([], []), ([5], [5]), ([6], [6]), ([7], [7]), ([], []), ([8, 9], [8, 9]), ([10], [10]), ([4, 11], [4, 11])])
def lwalk.B9 : List Nat := [0, 1, 0, 4, 15, 0, 32, 96, 224, 0, 992, 2016, 4095]
theorem lwalk.tab9 : rtab .any (opsOf Tryd.f36 9) = lwalk.T9 := by kernel_rfl
theorem lwalk.bits9 : waitsOk lwalk.T9.2 lwalk.B9 = true := by kernel_rfl
def lwalk.T11 : Bool × List (List Nat × List Nat) := (true, [([], []), ([0], [0]), ([1], [1]), ([2], [2]), ([], []), ([4], [4]), ([3, 5], [3, 5]), ([6], [6]), ([7], [7])])
def lwalk.B11 : List Nat := [0, 1, 3, 7, 0, 16, 63, 127, 255]
theorem lwalk.tab11 : rtab .any (opsOf Tryd.f36 11) = lwalk.T11 := by kernel_rfl
theorem lwalk.bits11 : waitsOk lwalk.T11.2 lwalk.B11 = true := by kernel_rfl
def lwalk.T13 : Bool × List (List Nat × List Nat) := (true, [([], []), ([0], [0]), ([1], [1]), ([2], [2]), ([], []), ([4], [4]), ([3, 5], [3, 5]), ([6], [6]), ([7], [7]), ([3, 5, 0, 1, 2, 3, 4, 5, 6, 7, 8], [3, 5]), ([9, 8, 0, 1, 2, 3, 4, 5, 6, 7, 8], [8, 9])])
def lwalk.B13 : List Nat := [0, 1, 3, 7, 0, 16, 63, 127, 255, 511, 1023]
theorem lwalk.tab13 : rtab .any (opsOf Tryd.f36 13) = lwalk.T13 := by kernel_rfl
theorem lwalk.bits13 : waitsOk lwalk.T13.2 lwalk.B13 = true := by kernel_rfl
def lwalk.T14 : Bool × List (List Nat × List Nat) := (true, [([], []), ([0], [0]), ([1], [1]), ([2], [2]), ([], []), ([3, 4], [3, 4]), ([5], [5]), ([6], [6]), ([], []), ([8], [8]), ([9], [9]), ([10], [10]), ([], []), ([11, 12], [11, 12]), ([13], [13]), ([7, 14], [7, 14]), ([3, 4, 0, 1, 2, 3, 4, 5, 6, 7, 8, 9, 10, 11, 12, 13, 14, 15], [3, 4]), ([16, 0, 1, 2, 3, 4, 5, 6, 7, 8, 9, 10, 11, 12, 13, 14, 15], [16]), ([17, 15, 0, 1, 2, 3, 4, 5, 6, 7, 8, 9, 10, 11, 12, 13, 14, 15], [15, 17])])
def lwalk.B14 : List Nat := [0, 1, 3, 7, 0, 31, 63, 127, 0, 256, 768, 1792, 0, 7936, 16128, 32767, 65535, 131071, 262143]
theorem lwalk.tab14 : rtab .any (opsOf Tryd.f36 14) = lwalk.T14 := by kernel_rfl
theorem lwalk.bits14 : waitsOk lwalk.T14.2 lwalk.B14 = true := by kernel_rfl
def lwalk.T16 : Bool × List (List Nat × List Nat) := (true, [([], []), ([0], [0]), ([1], [1]), ([2], [2]), ([], []), ([], []), ([5], [5]), ([3, 4, 0, 1, 2, 3, 4, 5, 6], [3, 4]), ([7, 0, 1, 2, 3, 4, 5, 6], [7]), ([8, 6, 0, 1, 2, 3, 4, 5, 6], [6, 8])])
def lwalk.B16 : List Nat := [0, 1, 3, 7, 0, 0, 32, 127, 255, 511]
theorem lwalk.tab16 : rtab .any (opsOf Tryd.f36 16) = lwalk.T16 := by kernel_rfl
theorem lwalk.bits16 : waitsOk lwalk.T16.2 lwalk.B16 = true := by kernel_rfl
def lwalk.T17 : Bool × List (List Nat × List Nat) := (true, [([], []), ([0], [0]), ([1], [1]), ([2], [2]), ([], []), ([4], [4]), ([3, 5], [3, 5]), ([6], [6]), ([7], [7]), ([3, 5, 0, 1, 2, 3, 4, 5, 6, 7, 8], [3, 5]), ([9, 8, 0, 1, 2, 3, 4, 5, 6, 7, 8], [8, 9])])
def lwalk.B17 : List Nat := [0, 1, 3, 7, 0, 16, 63, 127, 255, 511, 1023]
theorem lwalk.tab17 : rtab .any (opsOf Tryd.f36 17) = lwalk.T17 := by kernel_rfl
theorem lwalk.bits17 : waitsOk lwalk.T17.2 lwalk.B17 = true := by kernel_rfl
set_option maxHeartbeats 8000000 in
set_option maxRecDepth 100000 in
theorem walk_stop (w0 : World) (panels : List Int) (PA : Option Addr) (cp : Nat) (g : Nat) (A1 : Option Addr) (c1 : Nat) (A2 : Option Addr) (c2 m n2 : Nat) (w : World) (v3 vp : Value) (ps : List S98) (us : List Int) (pl : List S60) (b : Option (List S60 × Nat)) (hst : stopW b (ps, us) = true) (hI : WalkAt w0 w g (.slice A1 m c1) (.slice PA panels.length cp) (.slice A2 n2 c2) v3 (encF b) ps us (encB b)) (hp : Kd.R k60 60 w w0.heap.size (fun k => some k ≠ v3.ownBlock) vp pl) :
  Calls Tryd.prog 36 #[.pointer (some ⟨g, 0, none⟩), vp, .int .i64 (cntUW us)] w fun e w' => ∃ v3', e = .returned (.tuple #[]) ∧ AtW w0 w v3 vp pl w' g (.slice A1 m c1) (.slice PA panels.length cp) (.slice A2 n2 c2) v3' (encF b) ps us (encB b) := by
 have HI := Aside0.mk hI; have HPL := Aside0.mk hp; have BX := Aside0.mk hI.box; have hcn := cntU_leW us
 cases b with
 | none => cases hst
 | some y =>
  have hy : (y.2 : Int) ≤ cntUW us := by
   have h1 : y.2 ≤ cntW (ps, us) := of_decide_eq_true hst; unfold cntW at h1; simp only at h1; omega
  have c1b : decide ((0 : Int) ≤ (y.2 : Int)) = true := decide_eq_true (by omega); have c2b : decide ((y.2 : Int) ≤ cntUW us) = true := decide_eq_true hy; have BX2 : Aside0 (w.heap[g]? = some (.cells #[.slice A1 m c1, .slice PA panels.length cp, .slice A2 n2 c2, v3, .int .i64 (y.2 : Int)] 78 (0, 0))) := BX; obtain ⟨hx0, hx1, hx2, hx3, hx4⟩ := cz5 BX2; clear hI hp hst BX BX2 hy hcn; (go_enter Tryd.func36, Tryd.ntmps36); (go_wp2); (try simp only [Exit.inBlock, Exit.then]); (first | refine bodyPost_ret (results_none rfl _ _ _) rfl ?_ | refine bodyPost_end (results_none rfl _ _ _) rfl ?_); exact ⟨v3, rfl, AtW.start HI.out HPL.out⟩
theorem cz3p {w : World} {g t : Nat} {a b c : Value} (h : Aside0 (w.heap[g]? = some (.cells #[a, b, c] t (0, 0)))) : w.cell? ⟨g, 0, none⟩ = some a ∧ w.cell? ⟨g, 1, none⟩ = some b ∧ w.cell? ⟨g, 2, none⟩ = some c :=
 ⟨(blk_cell h.out 0).trans rfl, (blk_cell h.out 1).trans rfl, (blk_cell h.out 2).trans rfl⟩
set_option maxHeartbeats 8000000 in
set_option maxRecDepth 100000 in
theorem walk_go (w0 : World) (panels : List Int) (PA : Option Addr) (cp : Nat) (hP : Kd.C (Kd.int .i64) w0 PA panels.length panels) (hpan : ∀ p ∈ panels, 1 ≤ p ∧ p ≤ 10000) (hpl : panels.length ≤ 6) (g : Nat) (A1 : Option Addr) (c1 : Nat) (A2 : Option Addr) (c2 m n2 : Nat) :
  ∀ (rest : List Int) (i : Nat), panels.drop i = rest → i + rest.length = panels.length → ∀ (w : World) (v3 vp : Value) (ps : List S98) (us : List Int) (pl : List S60) (b : Option (List S60 × Nat)), ps.length = m → us.length = n2 → pl.length = i → InvW rest.length (ps, us) → WalkAt w0 w g (.slice A1 m c1) (.slice PA panels.length cp) (.slice A2 n2 c2) v3 (encF b) ps us (encB b) → Kd.R k60 60 w w0.heap.size (fun k => some k ≠ v3.ownBlock) vp pl →
  Calls Tryd.prog 36 #[.pointer (some ⟨g, 0, none⟩), vp, .int .i64 (cntUW us)] w fun e w' => ∃ v3', e = .returned (.tuple #[]) ∧ AtW w0 w v3 vp pl w' g (.slice A1 m c1) (.slice PA panels.length cp) (.slice A2 n2 c2) v3' (encF (walkW m rest (ps, us) pl b)) ps us (encB (walkW m rest (ps, us) pl b)) := by
 intro rest
 induction rest with
 | nil =>
  intro i hd hi w v3 vp ps us pl b hm hn hl hinv hI hp; by_cases hst : stopW b (ps, us) = true
  ·rw [walkW_stop hst]; exact walk_stop w0 panels PA cp g A1 c1 A2 c2 m n2 w v3 vp ps us pl b hst hI hp
  ·have HI := Aside0.mk hI; have HPL := Aside0.mk hp; have BX := Aside0.mk hI.box; have hcn := cntU_leW us; (have hst' : stopW b (ps, us) = false := by cases h_ : stopW b (ps, us) with | true => exact absurd h_ hst | false => rfl); (have ew : walkW m [] (ps, us) pl b = some (pl, cntW (ps, us)) := by unfold walkW; rw [if_neg hst]); rw [ew]; (have ei : i = panels.length := by simpa using hi); (have elp : pl.length = panels.length := by rw [hl, ei]); (have ecn : ((cntW (ps, us) : Nat) : Int) = cntUW us := by show (((cntUW us).toNat : Nat) : Int) = _; omega); (show Calls Tryd.prog 36 _ w fun e w' => ∃ v3', e = .returned (.tuple #[]) ∧ AtW w0 w v3 vp pl w' g (.slice A1 m c1) (.slice PA panels.length cp) (.slice A2 n2 c2) v3' ((cntW (ps, us) : Nat) : Int) ps us pl); rw [ecn]; have hs := stop_eq b ps us hst'; obtain ⟨fb, hfb⟩ : ∃ fb, fb = encF b := ⟨_, rfl⟩; obtain ⟨bb, hbb⟩ : ∃ bb, bb = encB b := ⟨_, rfl⟩; rw [← hfb] at hs BX HI; rw [← hbb] at HI; have HPN := Aside0.mk hpl; have HWS := Aside0.mk (below_size HI.out.below); obtain ⟨hx0, hx1, hx2, hx3, hx4⟩ := cz5 BX; have hf3 := blk_frozen BX.out 3; have hf4 := blk_frozen BX.out 4; obtain ⟨Ap, cp_, evp⟩ := Kd.R_slice hp; rw [hl] at evp; subst evp; have c3b : ((i : Int) == (panels.length : Int)) = true := beq_iff_eq.mpr (by rw [ei]); have HIE := Aside0.mk ei; have LP := Aside0.mk hl; clear hI hp hd hi hm hn hl hinv hst hst' ew hfb hbb ei elp hpl ecn
   rcases hs with c1b | ⟨c1b, c2b⟩
   all_goals
    go_enter Tryd.func36, Tryd.ntmps36
    go_wp2_with (first
     | ((with_reducible refine gate_dst (N := 33) rfl ?_); refine Kd.R_lit k60 (w0 := w0) w0.heap.size 60 ?hg (N := 33) ?hd (xs := ([] : List S60)) (inner := []) (ok := fun k => w.heap.size ≤ k) (okp := fun _ => False) ?hr (Reps.none _ _) (fun _ hk => hk.elim) (Nat.le_refl _) HI.out.below HWS.out (by simp) ?_; (case hd => rfl); (case hg => rfl); (case hr => first | (go_simp; done) | (go_simp; rfl)); intro v33 w3 ho hb hg_ hnew_; have HO := Aside0.mk ho; have HB3 := Aside0.mk hb; have HG3 := Aside0.mk hg_; clear ho hb hg_ hnew_)
     | ((with_reducible refine gate_dst (N := 35) rfl ?_); refine Kd.R_append_rows k60 (w0 := w0) w0.heap.size (by rfl) (.tmp 33) (.tmp 34) 28 60 (.agg #[(.int .i64 0), (.int .i64 0)]) 16 rfl Tryd.underlying28 winfo60 rfl (by decide) (by omega) v33 [] pl Ap i cp_ (fun k => w.heap.size ≤ k) (fun _ => False) rfl rfl HO.out (by have h_ := (Kd.R_reads' (Kd.R_grown HPL.out HG3.out (fun _ _ => by simp))).2.2; rw [LP.out] at h_; exact h_) (fun x cs hk => hk) (fun _ hk => hk.elim) (fun k hk => Nat.le_trans HG3.out.size hk) HB3.out (below_size HB3.out) (by have := HPN.out; have := HIE.out; simp only [List.length_nil]; omega) ?_; intro v35 w4 ho hb hg_ hat; have HO4 := Aside0.mk ho; have HG4 := Aside0.mk hg_; have hbw := ((Below.refl w.heap.size w).grown HG3.out (Nat.le_refl _) (fun k hk => by simp at hk)).grown HG4.out HG3.out.size (fun k hk => HO.out.1 k hk); have HBW := Aside0.mk hbw; have HI4 := Aside0.mk (HI.out.later hbw); have BX4 := Aside0.mk HI4.out.box; obtain ⟨A5, c5, rfl⟩ := Kd.R_slice HO4.out; clear ho hb hg_ hat hbw hx0 hx1 hx2 hx3 hx4 hf3 hf4; obtain ⟨hx0, hx1, hx2, hx3, hx4⟩ := cz5 BX4; have hf3 := blk_frozen BX4.out 3; have hf4 := blk_frozen BX4.out 4))
    refine bodyPost_ret (results_none rfl _ _ _) rfl ?_; have hO := HO4.out; simp only [List.nil_append] at hO; have hlt := Kd.R_lt HPL.out; have hv := Kd.R_mono (Kd.R_tight rfl HPL.out) (ok' := fun k => some k ≠ (Value.slice A5 pl.length c5).ownBlock) (fun k hk he => by have := hO.1 k he.symm; have := hlt k hk.symm; omega); have hv4 := Kd.R_below hv HBW.out; have hI5 := HI4.out.putBest (Kd.R_mono hO (fun _ _ => trivial)); have hI6 := hI5.putFew (cntUW us); have hv5 := Kd.R_set hv4 BX4.out (by decide) 3 (Value.slice A5 pl.length c5); have hv6 := Kd.R_set hv5 hI5.box (by decide) 4 (.int .i64 (cntUW us)); refine ⟨.slice A5 pl.length c5, rfl, hI6, hv6, ?_, fun k hk => Or.inr (hO.1 k hk)⟩; exact ((FrameW.below HBW.out).trans (FrameW.set ⟨g, 3, none⟩ (.slice A5 pl.length c5) (Or.inl rfl))).trans (FrameW.set ⟨g, 4, none⟩ (.int .i64 (cntUW us)) (Or.inl rfl))
 | cons p rest ih =>
  intro i hd hi w v3 vp ps us pl b hm hn hl hinv hI hp; by_cases hst : stopW b (ps, us) = true
  ·rw [walkW_stop hst]; exact walk_stop w0 panels PA cp g A1 c1 A2 c2 m n2 w v3 vp ps us pl b hst hI hp
  ·(have hst' : stopW b (ps, us) = false := by cases h_ : stopW b (ps, us) with | true => exact absurd h_ hst | false => rfl); obtain ⟨R0, hR0⟩ : ∃ R0, R0 = foldW m rest p (ps, us) pl b (List.range' 0 m) := ⟨_, rfl⟩; rw [walkW_cons hst', ← hR0]; have hs := stop_eq b ps us hst'; have HP := Aside0.mk hP; have HPAN := Aside0.mk hpan; have HPL6 := Aside0.mk hpl; have IH := Aside0.mk ih; have HM := Aside0.mk hm; have HN := Aside0.mk hn; have HL := Aside0.mk hl; have HV := Aside0.mk hinv; have HD := Aside0.mk hd; have HE := Aside0.mk hi; have HR0 := Aside0.mk hR0; have hlen : i < panels.length := by simp only [List.length_cons] at hi; omega
   have hpi : panels[i]'hlen = p := by
    have h3 := List.getElem_cons_drop (h := hlen); rw [hd] at h3; injection h3
   (have hpi2 : rd panels (i : Int) = p := by simp [rd, rdOf, hlen, hpi]); have hp1 : 1 ≤ p ∧ p ≤ 10000 := hpan p (by rw [← hpi]; exact List.getElem_mem _)
   have hd2 : panels.drop (i + 1) = rest := by
    rw [← List.drop_drop, hd]; rfl
   have HPI := Aside0.mk hpi2; have HP1 := Aside0.mk hp1; have HD2 := Aside0.mk hd2; have HLEN := Aside0.mk hlen; have c3b : ((i : Int) == (panels.length : Int)) = false := beq_eq_false_iff_ne.mpr (by omega); obtain ⟨Ap, cp_, evp⟩ := Kd.R_slice hp; rw [hl] at evp; subst evp; have BX := Aside0.mk hI.box; have HI := Aside0.mk (AtW.start hI hp); obtain ⟨b0, hb0⟩ : ∃ b0, b0 = b := ⟨_, rfl⟩; rw [← hb0] at hs BX HI HR0; obtain ⟨hx0, hx1, hx2, hx3, hx4⟩ := cz5 BX; clear hP hpan hpl ih hI hp hd hi hm hn hl hinv hst hst' hR0 hlen hpi hpi2 hp1 hd2 hb0
   rcases hs with c1b | ⟨c1b, c2b⟩
   all_goals
    as_aux_lemma =>
     (go_enter Tryd.func36, Tryd.ntmps36); (go_wp2); go_loopg [7] m (fun kq v7 wl => ∃ (x : Int) (v3_ : Value) (b_ : Option (List S60 × Nat)), v7 = .int .i64 x ∧ Aside0 (0 ≤ x ∧ x + kq = m ∧ foldW m rest p (ps, us) pl b_ (List.range' x.toNat kq) = R0) ∧ Aside0 (AtW w0 w v3 (.slice Ap i cp_) pl wl g (.slice A1 m c1) (.slice PA panels.length cp) (.slice A2 n2 c2) v3_ (encF b_) ps us (encB b_)))
     case atStart => exact ⟨0, v3, b0, zF, ⟨by omega, by omega, HR0.out.symm⟩, HI⟩
     case round =>
      (try clear c2b); clear hx0 hx1 hx2 hx3 hx4 HI BX c1b c3b; obtain ⟨x, v3b, b, rfl, HX, HI⟩ := hrel; have BX := Aside0.mk HI.out.i.box; obtain ⟨hx0, hx1, hx2, hx3, hx4⟩ := cz5 BX
      cases gk with
      | zero =>
       (have eR : R0 = b := by have h1 := HX.out.2.2; rw [← h1]; rfl); subst eR; have c2b : decide (x < (m : Int)) = false := decide_eq_false (by have := HX.out.2.1; omega); (go_wp2); (try simp only [Exit.inBlock, Exit.then]); (first | refine bodyPost_ret (results_none rfl _ _ _) rfl ?_ | refine bodyPost_end (results_none rfl _ _ _) rfl ?_); exact ⟨v3b, rfl, HI.out⟩
      | succ k1 =>
       have h0 : 0 ≤ x := HX.out.1; (have h1 : x < (m : Int) := by have := HX.out.2.1; omega); obtain ⟨gp, ca, e1, _, hgp, _⟩ := Kd.R_form HI.out.i.r0 (by have := HM.out; omega); injection e1 with ea en ec; subst ea; clear en ec; have hF := HV.out.a _ (rdT_memW ps x h0 (by have := HM.out; omega)); simp only at hF; (have hok0 : okW p (ps, us) x.toNat = decide (p ≤ (rd_T98 ps x).f2 - (rd_T98 ps x).f1) := by unfold okW; simp only; rw [Int.toNat_of_nonneg h0]); (have hpc0 : pcW (ps, us) x.toNat = ⟨(rd_T98 ps x).f0, (rd_T98 ps x).f1⟩ := by unfold pcW; simp only; rw [Int.toNat_of_nonneg h0]); (have hst0 : stW p (ps, us) x.toNat = (ps.set x.toNat ⟨(rd_T98 ps x).f0, (rd_T98 ps x).f1 + p, (rd_T98 ps x).f2⟩, us.set (rd_T98 ps x).f0.toNat (rd us (rd_T98 ps x).f0 + 1)) := by unfold stW; simp only; rw [Int.toNat_of_nonneg h0]); obtain ⟨bo, hb_⟩ : ∃ b, b = (rd_T98 ps x).f0 := ⟨_, rfl⟩; obtain ⟨a, ha_⟩ : ∃ a, a = (rd_T98 ps x).f1 := ⟨_, rfl⟩; obtain ⟨e, he_⟩ : ∃ e, e = (rd_T98 ps x).f2 := ⟨_, rfl⟩; rw [← hb_, ← ha_, ← he_] at hF; rw [← ha_, ← he_] at hok0; rw [← hb_, ← ha_] at hpc0; rw [← hb_, ← ha_, ← he_] at hst0; obtain ⟨u, hu_⟩ : ∃ u, u = rd us bo := ⟨_, rfl⟩; rw [← hu_] at hst0; have hU := HV.out.b _ (rd_memW us bo hF.1 hF.2.1); rw [← hu_] at hU; simp only [List.length_cons] at hU; obtain ⟨gu, cb, e2, _, hgu, _⟩ := Kd.R_form HI.out.i.r2 (by have := hF.1; have := hF.2.1; omega); injection e2 with ea en ec; subst ea; clear en ec; obtain ⟨ad, ea, hpan_⟩ := Kd.at_int (Kd.C_below HP.out HI.out.i.below) (i : Int) (by omega) (by have := HLEN.out; omega); subst ea; clear hpan_; have HF := Aside0.mk hF; have HU := Aside0.mk hU; have HH := Aside0.mk (show 0 ≤ x ∧ x < (m : Int) from ⟨h0, h1⟩); have EB := Aside0.mk hb_; have EA := Aside0.mk ha_; have EE := Aside0.mk he_; have EU := Aside0.mk hu_; have OK0 := Aside0.mk hok0; have PC0 := Aside0.mk hpc0; have ST0 := Aside0.mk hst0; have HNN := HN.out; have c2b : decide (x < (m : Int)) = true := decide_eq_true h1; have q1 := eq_true h0; have q2 := eq_true h1; have q4 := eq_true HLEN.out; have q5 := eq_true hF.1; have q6 := eq_true (show bo < (n2 : Int) by have := hF.2.1; omega); clear h0 h1 hF hU hb_ ha_ he_ hu_ hok0 hpc0 hst0 HNN; obtain ⟨hz0, hz1, hz2, hzf⟩ := HI.out.i.part x HH.out.1 HH.out.2 EB.out EA.out EE.out; (go_wp2_with (first | ((with_reducible refine gate_dst (N := 8) rfl ?_); refine bx (N := 8) ?_; intro gb hgb w8 hbx hbb; have HBB := Aside0.mk hbb; have HGB := Aside0.mk hgb; have BX8 := Aside0.mk hbx; have hf80 := blk_frozen hbx 0; have hf81 := blk_frozen hbx 1; have hf82 := blk_frozen hbx 2; have hy0 := blk_cell hbx 0; have hy1 := blk_cell hbx 1; have hy2 := blk_cell hbx 2; simp at hy0 hy1 hy2; clear hbx hbb hgb))); have n0_ := Aside0.mk (HI.out.later (((HBB.out.setCell (p := ⟨gb, 0, none⟩) (Nat.le_of_eq HGB.out.symm) (.int .i64 bo)).setCell (p := ⟨gb, 1, none⟩) (Nat.le_of_eq HGB.out.symm) (.int .i64 a)).setCell (p := ⟨gb, 2, none⟩) (Nat.le_of_eq HGB.out.symm) (.int .i64 e))); have p1_ := blk_put BX8.out 0 (.int .i64 bo) rfl; have p2_ := blk_put p1_ 1 (.int .i64 a) rfl; have p3_ : (((w8.setCell ⟨gb, 0, none⟩ (.int .i64 bo)).setCell ⟨gb, 1, none⟩ (.int .i64 a)).setCell ⟨gb, 2, none⟩ (.int .i64 e)).heap[gb]? = some (.cells #[.int .i64 bo, .int .i64 a, .int .i64 e] 98 (0, 0)) := blk_put p2_ 2 (.int .i64 e) rfl; have BP := Aside0.mk p3_; have GB : Aside0 (gb ≠ g ∧ gb ≠ gp ∧ gb ≠ gu ∧ some gb ≠ (Value.slice Ap i cp_).ownBlock) := ⟨by have := blk_lt BX.out; have := HGB.out; omega, by have := HGB.out; omega, by have := HGB.out; omega, fun e_ => by have := Kd.R_lt HI.out.p gb e_.symm; have := HGB.out; omega⟩; clear p1_ p2_ p3_ hx0 hx1 hx2 hx3 hx4 hz0 hz1 hz2 hzf hf80 hf81 hf82 hy0 hy1 hy2 BX BX8 HBB HGB HI hgp hgu; generalize World.setCell (World.setCell (World.setCell w8 _ _) _ _) _ _ = w9 at n0_ BP ⊢; have HI := n0_; clear n0_; have HI2 := Aside0.mk HI.out.drew; have BP2 := Aside0.mk (blk_drew BP.out); clear HI BP; obtain ⟨hx0, hx1, hx2, hx3, hx4⟩ := cz5 (Aside0.mk HI2.out.i.box); obtain ⟨hq0, hq1, hq2⟩ := cz3p BP2; obtain ⟨ad_, ea_, hp0⟩ := Kd.at_int (Kd.C_below HP.out HI2.out.i.below) (i : Int) (by omega) (by have := HLEN.out; omega)
       cases ea_
       rw [HPI.out, Int.toNat_natCast] at hp0; have ed : wrap64 (e - a) = e - a := wrapIdW (by have := HF.out; omega) (by have := HF.out; omega); by_cases cs : e - a < p
       ·(have t1 : decide (wrap64 (e - a) < p) = true := by rw [ed]; exact decide_eq_true cs); (have t2 : okW p (ps, us) x.toNat = false := by rw [OK0.out]; exact decide_eq_false (by omega)); clear cs ed; refine start_ (n := 13) (S := fun w' => w'.cell? ⟨g, 1, none⟩ = some (.slice (some ad) panels.length cp) ∧ w'.cell? ⟨gb, 2, none⟩ = some (.int .i64 e) ∧ w'.cell? ⟨gb, 1, none⟩ = some (.int .i64 a) ∧ w'.cell? (ad.add i) = some (.int .i64 p)) (ds := []) (ms 13 0) (by kernel_rfl) rfl rfl ⟨hx1, hq2, hq1, hp0⟩ (fun hHeld => ?_); refine with_tabW lwalk.tab9 lwalk.bits9 (fun HT_ HW_ => ?_); generalize w9.drew = w2 at HI2 BP2 hx0 hx1 hx2 hx3 hx4 hq0 hq1 hq2 hp0 hHeld ⊢; refine pW 0 58 13 1 HT_ ?_; refine pW 2 60 13 5 HT_ ?_; refine pW 5 63 13 37 HT_ ?_; refine pW 6 64 13 101 HT_ ?_; refine pW 7 65 13 229 HT_ ?_; refine pW 9 67 13 741 HT_ ?_; refine tV (i := 1) (N := some 59) (ms 13 743) rfl rfl HT_ HW_ hHeld (by rintro w' ⟨s0, s1, s2, s3⟩; go_simp; with_reducible rfl) ?_; refine tV (i := 3) (N := some 61) (ms 13 751) rfl rfl HT_ HW_ hHeld (by rintro w' ⟨s0, s1, s2, s3⟩; go_simp; with_reducible rfl) ?_; refine pW 4 62 13 767 HT_ ?_; refine tV (i := 8) (N := some 66) (ms 13 1023) rfl rfl HT_ HW_ hHeld (by rintro w' ⟨s0, s1, s2, s3⟩; go_simp; with_reducible rfl) ?_; refine pW 10 68 13 2047 HT_ ?_; refine tV (i := 11) (N := some 69) (ms 13 4095) rfl rfl HT_ HW_ hHeld (by rintro w' ⟨s0, s1, s2, s3⟩; go_simp; with_reducible rfl) ?_; refine pW 12 70 13 8191 HT_ ?_; refine done_ (done_of HT_.out (by kernel_rfl)) ?_; have ew : wrap64 (x + 1) = x + 1 := wrapIdW (by have := HH.out; omega) (by have := HH.out; have := HM.out; have := HV.out.c; simp only at *; omega); have ET := Aside0.mk (fold_skip (m := m) (rest := rest) (pl := pl) (b := b) (j := k1) t2); clear t2 hHeld hx0 hx1 hx2 hx3 hx4 hq0 hq1 hq2 hp0; (go_wp2); go_roundg k1
        case measure => omega
        case rel => exact ⟨x + 1, v3b, b, by rw [ew], ⟨by have := HH.out; omega, by have := HX.out.2.1; omega, by rw [show (x + 1).toNat = x.toNat + 1 by have := HH.out; omega, ← ET.out]; exact HX.out.2.2⟩, HI2⟩
       ·(have t1 : decide (wrap64 (e - a) < p) = false := by rw [ed]; exact decide_eq_false cs); (have t2 : okW p (ps, us) x.toNat = true := by rw [OK0.out]; exact decide_eq_true (by omega)); have T2 := Aside0.mk t2; have CS := Aside0.mk cs; clear cs ed t2; refine start_ (n := 13) (S := fun w' => w'.cell? ⟨g, 1, none⟩ = some (.slice (some ad) panels.length cp) ∧ w'.cell? ⟨gb, 2, none⟩ = some (.int .i64 e) ∧ w'.cell? ⟨gb, 1, none⟩ = some (.int .i64 a) ∧ w'.cell? (ad.add i) = some (.int .i64 p)) (ds := []) (ms 13 0) (by kernel_rfl) rfl rfl ⟨hx1, hq2, hq1, hp0⟩ (fun hHeld => ?_); refine with_tabW lwalk.tab9 lwalk.bits9 (fun HT_ HW_ => ?_); generalize w9.drew = w2 at HI2 BP2 hx0 hx1 hx2 hx3 hx4 hq0 hq1 hq2 hp0 hHeld ⊢; refine pW 0 58 13 1 HT_ ?_; refine pW 2 60 13 5 HT_ ?_; refine pW 5 63 13 37 HT_ ?_; refine pW 6 64 13 101 HT_ ?_; refine pW 7 65 13 229 HT_ ?_; refine pW 9 67 13 741 HT_ ?_; refine tV (i := 1) (N := some 59) (ms 13 743) rfl rfl HT_ HW_ hHeld (by rintro w' ⟨s0, s1, s2, s3⟩; go_simp; with_reducible rfl) ?_; refine tV (i := 3) (N := some 61) (ms 13 751) rfl rfl HT_ HW_ hHeld (by rintro w' ⟨s0, s1, s2, s3⟩; go_simp; with_reducible rfl) ?_; refine pW 4 62 13 767 HT_ ?_; refine tV (i := 8) (N := some 66) (ms 13 1023) rfl rfl HT_ HW_ hHeld (by rintro w' ⟨s0, s1, s2, s3⟩; go_simp; with_reducible rfl) ?_; refine pW 10 68 13 2047 HT_ ?_; refine tV (i := 11) (N := some 69) (ms 13 4095) rfl rfl HT_ HW_ hHeld (by rintro w' ⟨s0, s1, s2, s3⟩; go_simp; with_reducible rfl) ?_; refine pW 12 70 13 8191 HT_ ?_; refine done_ (done_of HT_.out (by kernel_rfl)) ?_; clear hx0 hx1 hx2 hx3 hx4 hq0 hq1 hq2 hp0 hHeld t1; have HI := HI2; have BP := BP2; clear HI2 BP2; obtain ⟨mo, hmo⟩ : ∃ mo, mo = cntUW (us.set bo.toNat (u + 1)) := ⟨_, rfl⟩; (have hmo2 : mo = cntUW us + (if u = 0 then 1 else 0) := by rw [hmo]; exact cnt_more us bo u HF.out.1 HF.out.2.1 EU.out (fun q hq => (HV.out.b q hq).1)); have HMO := Aside0.mk hmo; have HMO2 := Aside0.mk hmo2; clear hmo hmo2; generalize w2 = w10 at HI BP ⊢; (go_upto_if 80 with (fail)); go_cut [80] (fun v80 wc => ∃ bb : Bool, v80 = .bool bb ∧ Aside0 (bb = decide (u = 0)) ∧ Aside0 (AtW w0 w v3 (.slice Ap i cp_) pl wc g (.slice (some ⟨gp, 0, none⟩) m c1) (.slice (some ad) panels.length cp) (.slice (some ⟨gu, 0, none⟩) n2 c2) v3b (encF b) ps us (encB b)) ∧ Aside0 (wc.heap[gb]? = some (.cells #[.int .i64 bo, .int .i64 a, .int .i64 e] 98 (0, 0))))
        case first =>
         as_aux_lemma =>
          have HI2 := Aside0.mk HI.out.drew; have BP2 := Aside0.mk (blk_drew BP.out); clear HI BP; obtain ⟨hx0, hx1, hx2, hx3, hx4⟩ := cz5 (Aside0.mk HI2.out.i.box); obtain ⟨hq0, hq1, hq2⟩ := cz3p BP2; obtain ⟨hu0, huf⟩ := HI2.out.i.use bo HF.out.1 (by have := HF.out.2.1; have := HN.out; omega) EU.out; refine start_ (n := 9) (S := fun w' => w'.cell? ⟨g, 2, none⟩ = some (.slice (some ⟨gu, 0, none⟩) n2 c2) ∧ w'.cell? ⟨gb, 0, none⟩ = some (.int .i64 bo) ∧ w'.cell? ⟨gu, bo.toNat, none⟩ = some (.int .i64 u)) (ds := []) (ms 9 0) (by kernel_rfl) rfl rfl ⟨hx2, hq0, hu0⟩ (fun hHeld => ?_); refine with_tabW lwalk.tab11 lwalk.bits11 (fun HT_ HW_ => ?_); generalize w10.drew = w2 at HI2 BP2 hx0 hx1 hx2 hx3 hx4 hq0 hq1 hq2 hu0 huf hHeld ⊢; refine pW 0 72 9 1 HT_ ?_; refine pW 1 73 9 3 HT_ ?_; refine pW 2 74 9 7 HT_ ?_; refine pW 4 76 9 23 HT_ ?_; refine tV (i := 3) (N := some 75) (ms 9 31) rfl rfl HT_ HW_ hHeld (by rintro w' ⟨s0, s1, s2⟩; go_simp; with_reducible rfl) ?_; refine tV (i := 5) (N := some 77) (ms 9 63) rfl rfl HT_ HW_ hHeld (by rintro w' ⟨s0, s1, s2⟩; go_simp; with_reducible rfl) ?_; refine pW 6 78 9 127 HT_ ?_; refine tV (i := 7) (N := some 79) (ms 9 255) rfl rfl HT_ HW_ hHeld (by rintro w' ⟨s0, s1, s2⟩; go_simp; with_reducible rfl) ?_; refine pW 8 80 9 511 HT_ ?_; refine done_ (done_of HT_.out (by kernel_rfl)) ?_; (try go_wp2); go_meet
          case rel => exact ⟨_, rfl, ⟨rfl⟩, HI2, BP2⟩
        case rest =>
         obtain ⟨bb, rfl, HBB, HI, BP⟩ := hcut; have hcn := cntU_leW us; have hl4 : us.length ≤ 4 := HV.out.d
         have hmo3 : mo = if bb = true then wrap64 (cntUW us + 1) else cntUW us := by
          rw [HMO2.out, HBB.out]; by_cases cu : u = 0
          ·rw [if_pos cu, if_pos (decide_eq_true cu), wrapIdW (by omega) (by omega)]
          ·rw [if_neg cu, if_neg (by rw [decide_eq_false cu]; decide)]; omega
         have HMO3 := Aside0.mk hmo3; clear hcn hl4 hmo3 HBB; (go_upto_if 80 with (fail)); go_cut [9] (fun v9 wc => ∃ n_ : Int, v9 = .int .i64 n_ ∧ Aside0 (n_ = mo) ∧ Aside0 (AtW w0 w v3 (.slice Ap i cp_) pl wc g (.slice (some ⟨gp, 0, none⟩) m c1) (.slice (some ad) panels.length cp) (.slice (some ⟨gu, 0, none⟩) n2 c2) v3b (encF b) ps us (encB b)) ∧ Aside0 (wc.heap[gb]? = some (.cells #[.int .i64 bo, .int .i64 a, .int .i64 e] 98 (0, 0))))
         case first =>
          as_aux_lemma =>
           cases bb with
           | true => go_wp2; go_meet; case rel => exact ⟨_, rfl, ⟨HMO3.out.symm⟩, HI, BP⟩
           | false => go_wp2; go_meet; case rel => exact ⟨_, rfl, ⟨HMO3.out.symm⟩, HI, BP⟩
         case rest =>
          (try clear HMO3); (try clear HI); (try clear BP); obtain ⟨n_, rfl, HN_, HI, BP⟩ := hcut; have e_ := HN_.out; clear HN_; subst n_; (try go_wp2); have HI2 := Aside0.mk HI.out.drew; have BP2 := Aside0.mk (blk_drew BP.out); clear HI BP; obtain ⟨hx0, hx1, hx2, hx3, hx4⟩ := cz5 (Aside0.mk HI2.out.i.box); obtain ⟨hq0, hq1, hq2⟩ := cz3p BP2; obtain ⟨hu0, huf⟩ := HI2.out.i.use bo HF.out.1 (by have := HF.out.2.1; have := HN.out; omega) EU.out; refine start_ (n := 11) (S := fun w' => w'.cell? ⟨g, 2, none⟩ = some (.slice (some ⟨gu, 0, none⟩) n2 c2) ∧ w'.cell? ⟨gb, 0, none⟩ = some (.int .i64 bo) ∧ w'.cell? ⟨gu, bo.toNat, none⟩ = some (.int .i64 u)) (ds := [10]) (ms 11 0) (by kernel_rfl) rfl rfl ⟨hx2, hq0, hu0⟩ (fun hHeld => ?_); refine with_tabW lwalk.tab13 lwalk.bits13 (fun HT_ HW_ => ?_); generalize wc.drew = w2 at HI2 BP2 hx0 hx1 hx2 hx3 hx4 hq0 hq1 hq2 hu0 huf hHeld ⊢; refine pW 0 83 11 1 HT_ ?_; refine pW 1 84 11 3 HT_ ?_; refine pW 2 85 11 7 HT_ ?_; refine pW 4 87 11 23 HT_ ?_; refine tV (i := 3) (N := some 86) (ms 11 31) rfl rfl HT_ HW_ hHeld (by rintro w' ⟨s0, s1, s2⟩; go_simp; with_reducible rfl) ?_; refine tV (i := 5) (N := some 88) (ms 11 63) rfl rfl HT_ HW_ hHeld (by rintro w' ⟨s0, s1, s2⟩; go_simp; with_reducible rfl) ?_; refine pW 6 89 11 127 HT_ ?_; refine tV (i := 7) (N := some 90) (ms 11 255) rfl rfl HT_ HW_ hHeld (by rintro w' ⟨s0, s1, s2⟩; go_simp; with_reducible rfl) ?_; refine pW 8 91 11 511 HT_ ?_; refine pW 9 92 11 1023 HT_ ?_; refine last_ (i := 10) (N := none) (ms 11 2047) rfl rfl (one_of HT_.out (by kernel_rfl)) (by decide) (fun K hK => ?_); refine skip_ (w1 := ?_) (by rfl) rfl ?_ ?_; rotate_left
          ·(go_simp); rfl
          refine hK.out _ _ ?_; clear hK K; refine done_ (done_of HT_.out (by kernel_rfl)) ?_; have n0_ := Aside0.mk (HI2.out.putU bo (wrap64 (u + 1)) (u + 1) (wrapIdW (by have := HU.out; omega) (by have := HU.out; omega))); have p3_ := Aside0.mk (blk_far BP2.out (p := ⟨gu, bo.toNat, none⟩) GB.out.2.2.1 (.int .i64 (wrap64 (u + 1)))); clear hx0 hx1 hx2 hx3 hx4 hq0 hq1 hq2 hu0 huf HI2 BP2 hHeld; generalize w2.setCell _ _ = w13 at n0_ p3_ ⊢; have HI := n0_; have BP := p3_; clear n0_ p3_; (try go_wp2); have HI2 := Aside0.mk HI.out.drew; have BP2 := Aside0.mk (blk_drew BP.out); clear HI BP; obtain ⟨hx0, hx1, hx2, hx3, hx4⟩ := cz5 (Aside0.mk HI2.out.i.box); obtain ⟨hq0, hq1, hq2⟩ := cz3p BP2; obtain ⟨hz0, hz1, hz2, hzf⟩ := HI2.out.i.part x HH.out.1 HH.out.2 EB.out EA.out EE.out; obtain ⟨ad_, ea_, hp0⟩ := Kd.at_int (Kd.C_below HP.out HI2.out.i.below) (i : Int) (by omega) (by have := HLEN.out; omega)
          cases ea_
          rw [HPI.out, Int.toNat_natCast] at hp0; refine start_ (n := 19) (S := fun w' => w'.cell? ⟨g, 0, none⟩ = some (.slice (some ⟨gp, 0, none⟩) m c1) ∧ w'.cell? ⟨g, 1, none⟩ = some (.slice (some ad) panels.length cp) ∧ w'.cell? ⟨gp, x.toNat * 3 + 1, none⟩ = some (.int .i64 a) ∧ w'.cell? (ad.add i) = some (.int .i64 p)) (ds := [18]) (ms 19 0) (by kernel_rfl) rfl rfl ⟨hx0, hx1, hz1, hp0⟩ (fun hHeld => ?_); refine with_tabW lwalk.tab14 lwalk.bits14 (fun HT_ HW_ => ?_); generalize w13.drew = w2 at HI2 BP2 hx0 hx1 hx2 hx3 hx4 hq0 hq1 hq2 hz0 hz1 hz2 hzf hp0 hHeld ⊢; refine pW 0 93 19 1 HT_ ?_; refine pW 1 94 19 3 HT_ ?_; refine pW 2 95 19 7 HT_ ?_; refine pW 4 97 19 23 HT_ ?_; refine pW 8 101 19 279 HT_ ?_; refine pW 9 102 19 791 HT_ ?_; refine pW 10 103 19 1815 HT_ ?_; refine pW 12 105 19 5911 HT_ ?_; refine tV (i := 3) (N := some 96) (ms 19 5919) rfl rfl HT_ HW_ hHeld (by rintro w' ⟨s0, s1, s2, s3⟩; go_simp; with_reducible rfl) ?_; refine pW 5 98 19 5951 HT_ ?_; refine pW 6 99 19 6015 HT_ ?_; refine tV (i := 7) (N := some 100) (ms 19 6143) rfl rfl HT_ HW_ hHeld (by rintro w' ⟨s0, s1, s2, s3⟩; go_simp; with_reducible rfl) ?_; refine tV (i := 11) (N := some 104) (ms 19 8191) rfl rfl HT_ HW_ hHeld (by rintro w' ⟨s0, s1, s2, s3⟩; go_simp; with_reducible rfl) ?_; refine pW 13 106 19 16383 HT_ ?_; refine tV (i := 14) (N := some 107) (ms 19 32767) rfl rfl HT_ HW_ hHeld (by rintro w' ⟨s0, s1, s2, s3⟩; go_simp; with_reducible rfl) ?_; refine pW 15 108 19 65535 HT_ ?_; refine pW 16 109 19 131071 HT_ ?_; refine pW 17 110 19 262143 HT_ ?_; refine last_ (i := 18) (N := none) (ms 19 524287) rfl rfl (one_of HT_.out (by kernel_rfl)) (by decide) (fun K hK => ?_); refine skip_ (w1 := ?_) (by rfl) rfl ?_ ?_; rotate_left
          ·(go_simp); rfl
          refine hK.out _ _ ?_; clear hK K; refine done_ (done_of HT_.out (by kernel_rfl)) ?_; have n0_ := Aside0.mk (HI2.out.putP x HH.out.1 HH.out.2 (wrap64 (a + p)) (a + p) (wrapIdW (by have := HF.out; have := HP1.out; omega) (by have := HF.out; have := HP1.out; omega)) EB.out EE.out); have p3_ := Aside0.mk (blk_far BP2.out (p := ⟨gp, x.toNat * 3 + 1, none⟩) GB.out.2.1 (.int .i64 (wrap64 (a + p)))); clear hx0 hx1 hx2 hx3 hx4 hq0 hq1 hq2 hz0 hz1 hz2 hzf hp0 HI2 BP2 hHeld; generalize w2.setCell _ _ = w14 at n0_ p3_ ⊢; have HI := n0_; have BP := p3_; clear n0_ p3_; obtain ⟨ps1, hps1⟩ : ∃ l_ : List S98, l_ = ps.set x.toNat ⟨bo, a + p, e⟩ := ⟨_, rfl⟩; obtain ⟨us1, hus1⟩ : ∃ l_ : List Int, l_ = us.set bo.toNat (u + 1) := ⟨_, rfl⟩; have hst := ST0.out; have hmo := HMO.out; rw [← hps1, ← hus1] at HI hst; rw [← hus1] at hmo; (have hinv1 : InvW rest.length (ps1, us1) := by rw [← hst]; exact HV.out.step p HP1.out.1 x.toNat (by have := HH.out; have := HM.out; show x.toNat < ps.length; omega) T2.out); (have hl2 : (pl ++ [(⟨bo, a⟩ : S60)]).length = i + 1 := by rw [List.length_append, HL.out]; rfl); obtain ⟨b1, hb1⟩ : ∃ b1, b1 = walkW m rest (ps1, us1) (pl ++ [(⟨bo, a⟩ : S60)]) b := ⟨_, rfl⟩; (have hcall := fun w11 vp1 hI11 hO11 => IH.out (i + 1) HD2.out (by have := HE.out; simp only [List.length_cons] at this; omega) w11 v3b vp1 ps1 us1 (pl ++ [(⟨bo, a⟩ : S60)]) b (by rw [hps1, List.length_set]; exact HM.out) (by rw [hus1, List.length_set]; exact HN.out) hl2 hinv1 hI11 hO11); rw [← hb1, ← hmo] at hcall; have HCALL := Aside0.mk hcall; have HPS1 := Aside0.mk hps1; have HUS1 := Aside0.mk hus1; have HST := Aside0.mk hst; have HL2 := Aside0.mk hl2; have HB1 := Aside0.mk hb1; clear hps1 hus1 hst hmo hinv1 hl2 hb1 hcall; obtain ⟨hq0, hq1, hq2⟩ := cz3p BP
          go_wp2_with (first
           | ((with_reducible refine gate_dst (N := 119) rfl ?_); refine R_append_keep k60 (w0 := w0) w0.heap.size (by rfl) (.tmp 112) (.tmp 118) 28 60 (.agg #[(.int .i64 0), (.int .i64 0)]) 16 rfl Tryd.underlying28 winfo60 rfl (by decide) (by omega) (.slice Ap i cp_) pl (⟨bo, a⟩ : S60) [.int .i64 bo, .int .i64 a] (fun k_ => some k_ ≠ v3b.ownBlock) (fun _ => False) rfl rfl (k60_mkM _ _ _ (⟨bo, a⟩ : S60)) (fun _ hk => hk.elim) (fun k_ hk e_ => by have := Kd.R_lt HI.out.i.r3 k_ e_.symm; omega) HI.out.p HI.out.i.below (below_size HI.out.i.below) (by have := HL.out; have := HPL6.out; have := HLEN.out; omega) ?_; intro vp1 w11 ho hb hk; have HC2 := Aside0.mk (HCALL.out w11 vp1 (HI.out.grown hk hb) ho); have HK := Aside0.mk hk; clear ho hb hk hq0 hq1 hq2)
           | ((with_reducible refine gate_callee (f := 36) rfl ?_); refine goesL_ (some 121) rfl rfl Tryd.func36 (by kernel_rfl) rfl #[.pointer (some ⟨g, 0, none⟩), vp1, .int .i64 mo] rfl zM ?_; (with_reducible refine (HC2.out).mono ?_); rintro e_ w15 ⟨v3', rfl, hI15⟩; refine ⟨_, rfl, ?_⟩; have n0_ := Aside0.mk (HI.out.call HK.out hI15.i hI15.p hI15.f hI15.n); have p3_ := Aside0.mk (boxCall BP.out HK.out hI15.f GB.out.1 (fun e_ => GB.out.2.1 (by injection e_)) (fun e_ => GB.out.2.2.1 (by injection e_)) GB.out.2.2.2); clear HI BP hI15 HC2 HK; have HI := n0_; have BP := p3_; clear n0_ p3_))
          have EP1 := Aside0.mk (show rd_T98 ps1 x = ⟨bo, a + p, e⟩ by rw [HPS1.out]; exact rd_setPW ps x HH.out.1 (by have := HH.out; have := HM.out; omega) _); have EU1 := Aside0.mk (show u + 1 = rd us1 bo by rw [HUS1.out]; exact (rd_setUW us bo HF.out.1 HF.out.2.1 _).symm); (try go_wp2); have HI2 := Aside0.mk HI.out.drew; have BP2 := Aside0.mk (blk_drew BP.out); clear HI BP; obtain ⟨hx0, hx1, hx2, hx3, hx4⟩ := cz5 (Aside0.mk HI2.out.i.box); obtain ⟨hq0, hq1, hq2⟩ := cz3p BP2; obtain ⟨hz0, hz1, hz2, hzf⟩ := HI2.out.i.part x HH.out.1 HH.out.2 (b := bo) (a := a + p) (e := e) (by rw [EP1.out]) (by rw [EP1.out]) (by rw [EP1.out]); refine start_ (n := 10) (S := fun w' => w'.cell? ⟨g, 0, none⟩ = some (.slice (some ⟨gp, 0, none⟩) m c1) ∧ w'.cell? ⟨gb, 1, none⟩ = some (.int .i64 a)) (ds := [9]) (ms 10 0) (by kernel_rfl) rfl rfl ⟨hx0, hq1⟩ (fun hHeld => ?_); refine with_tabW lwalk.tab16 lwalk.bits16 (fun HT_ HW_ => ?_); generalize w15.drew = w2 at HI2 BP2 hx0 hx1 hx2 hx3 hx4 hq0 hq1 hq2 hz0 hz1 hz2 hzf hHeld ⊢; refine pW 0 122 10 1 HT_ ?_; refine pW 1 123 10 3 HT_ ?_; refine pW 2 124 10 7 HT_ ?_; refine pW 4 126 10 23 HT_ ?_; refine pW 5 127 10 55 HT_ ?_; refine tV (i := 3) (N := some 125) (ms 10 63) rfl rfl HT_ HW_ hHeld (by rintro w' ⟨s0, s1⟩; go_simp; with_reducible rfl) ?_; refine tV (i := 6) (N := some 128) (ms 10 127) rfl rfl HT_ HW_ hHeld (by rintro w' ⟨s0, s1⟩; go_simp; with_reducible rfl) ?_; refine pW 7 129 10 255 HT_ ?_; refine pW 8 130 10 511 HT_ ?_; refine last_ (i := 9) (N := none) (ms 10 1023) rfl rfl (one_of HT_.out (by kernel_rfl)) (by decide) (fun K hK => ?_); refine skip_ (w1 := ?_) (by rfl) rfl ?_ ?_; rotate_left
          ·(go_simp); rfl
          refine hK.out _ _ ?_; clear hK K; refine done_ (done_of HT_.out (by kernel_rfl)) ?_; have n0_ := Aside0.mk (HI2.out.putP x HH.out.1 HH.out.2 a a rfl (b := bo) (f := e) (by rw [EP1.out]) (by rw [EP1.out])); have p3_ := Aside0.mk (blk_far BP2.out (p := ⟨gp, x.toNat * 3 + 1, none⟩) GB.out.2.1 (.int .i64 a)); (have eps : ps1.set x.toNat ⟨bo, a, e⟩ = ps := by rw [HPS1.out, EB.out, EA.out, EE.out]; exact set_backPW ps x HH.out.1 (by have := HH.out; have := HM.out; omega) _); rw [eps] at n0_; clear eps; clear hx0 hx1 hx2 hx3 hx4 hq0 hq1 hq2 hz0 hz1 hz2 hzf HI2 BP2 hHeld; generalize w2.setCell _ _ = w16 at n0_ p3_ ⊢; have HI := n0_; have BP := p3_; clear n0_ p3_; (try go_wp2); have HI2 := Aside0.mk HI.out.drew; have BP2 := Aside0.mk (blk_drew BP.out); clear HI BP; obtain ⟨hx0, hx1, hx2, hx3, hx4⟩ := cz5 (Aside0.mk HI2.out.i.box); obtain ⟨hq0, hq1, hq2⟩ := cz3p BP2; obtain ⟨hu0, huf⟩ := HI2.out.i.use bo HF.out.1 (by have := HF.out.2.1; have := HN.out; omega) (u := u + 1) EU1.out; refine start_ (n := 11) (S := fun w' => w'.cell? ⟨g, 2, none⟩ = some (.slice (some ⟨gu, 0, none⟩) n2 c2) ∧ w'.cell? ⟨gb, 0, none⟩ = some (.int .i64 bo) ∧ w'.cell? ⟨gu, bo.toNat, none⟩ = some (.int .i64 (u + 1))) (ds := [10]) (ms 11 0) (by kernel_rfl) rfl rfl ⟨hx2, hq0, hu0⟩ (fun hHeld => ?_); refine with_tabW lwalk.tab17 lwalk.bits17 (fun HT_ HW_ => ?_); generalize w16.drew = w2 at HI2 BP2 hx0 hx1 hx2 hx3 hx4 hq0 hq1 hq2 hu0 huf hHeld ⊢; refine pW 0 131 11 1 HT_ ?_; refine pW 1 132 11 3 HT_ ?_; refine pW 2 133 11 7 HT_ ?_; refine pW 4 135 11 23 HT_ ?_; refine tV (i := 3) (N := some 134) (ms 11 31) rfl rfl HT_ HW_ hHeld (by rintro w' ⟨s0, s1, s2⟩; go_simp; with_reducible rfl) ?_; refine tV (i := 5) (N := some 136) (ms 11 63) rfl rfl HT_ HW_ hHeld (by rintro w' ⟨s0, s1, s2⟩; go_simp; with_reducible rfl) ?_; refine pW 6 137 11 127 HT_ ?_; refine tV (i := 7) (N := some 138) (ms 11 255) rfl rfl HT_ HW_ hHeld (by rintro w' ⟨s0, s1, s2⟩; go_simp; with_reducible rfl) ?_; refine pW 8 139 11 511 HT_ ?_; refine pW 9 140 11 1023 HT_ ?_; refine last_ (i := 10) (N := none) (ms 11 2047) rfl rfl (one_of HT_.out (by kernel_rfl)) (by decide) (fun K hK => ?_); refine skip_ (w1 := ?_) (by rfl) rfl ?_ ?_; rotate_left
          ·(go_simp); rfl
          refine hK.out _ _ ?_; clear hK K; refine done_ (done_of HT_.out (by kernel_rfl)) ?_; have n0_ := Aside0.mk (HI2.out.putU bo (wrap64 u) u (wrapIdW (by have := HU.out; omega) (by have := HU.out; omega))); have p3_ := Aside0.mk (blk_far BP2.out (p := ⟨gu, bo.toNat, none⟩) GB.out.2.2.1 (.int .i64 (wrap64 u))); (have eus : us1.set bo.toNat u = us := by rw [HUS1.out, EU.out]; exact set_backUW us bo HF.out.1 HF.out.2.1 _); rw [eus] at n0_; clear eus; clear hx0 hx1 hx2 hx3 hx4 hq0 hq1 hq2 hu0 huf HI2 BP2 hHeld; generalize w2.setCell _ _ = w17 at n0_ p3_ ⊢; have HI := n0_; have BP := p3_; clear n0_ p3_; have ew : wrap64 (x + 1) = x + 1 := wrapIdW (by have := HH.out; omega) (by have := HH.out; have := HM.out; have := HV.out.c; simp only at *; omega); have ET := Aside0.mk (fold_hit (m := m) (rest := rest) (pl := pl) (b := b) (j := k1) T2.out); (go_wp2); go_roundg k1
          case measure => omega
          case rel => exact ⟨x + 1, v3', b1, by rw [ew], ⟨by have := HH.out; omega, by have := HX.out.2.1; omega, by rw [show (x + 1).toNat = x.toNat + 1 by have := HH.out; omega, HB1.out, ← HST.out, ← PC0.out, ← ET.out]; exact HX.out.2.2⟩, HI⟩
theorem wbelow_of_grown {w w1 : World} (h : w.grownBy w1 none) : Below w.heap.size w w1 := ⟨h.os, h.tape, h.output, h.size, fun k hk => h.block k hk (by simp)⟩
theorem winfo2 : (Tryd.prog.info? 2).map (fun i => (i.zero, i.size, i.bytes)) = some (some (.int .i64 0), 1, 8) := by kernel_rfl
theorem cntU_repW : ∀ n : Nat, cntUW (List.replicate n (0 : Int)) = 0
 | 0 => rfl
 | n + 1 => by rw [List.replicate_succ, cntUW, cntU_repW n]; rfl
theorem WalkAt.init {w W : World} {g : Nat} {v0 v1 v2 : Value} {ps : List S98} {us : List Int} (hg : W.heap[g]? = some (.cells #[v0, v1, v2, .slice none 0 0, .int .i64 (-1)] 78 (0, 0))) (hgb : w.heap.size ≤ g)
  (hp : Kd.R k98 98 W w.heap.size (fun _ => True) v0 ps) (hu : Kd.R (Kd.int .i64) 2 W w.heap.size (fun _ => True) v2 us) (hB : Below w.heap.size w W) : WalkAt w W g v0 v1 v2 (.slice none 0 0) (encF none) ps us (encB none) :=
 ⟨hg, hgb, hp, hu, Kd.R_nil _ _ _ _ _, hB⟩
def fewW (o : Option (List S60 × Nat)) : List S60 × Int × Int := match o with
 | some z => (z.1, (z.2 : Int), 0)
 | none => ([], 0, 5)
def goodW (l0 : List S50) (l1 : List Int) (parts : List S98) : Bool :=
 decide (l0.length ≤ 4) && decide (l1.length ≤ 6) && decide (parts.length ≤ 28) && l1.all (fun p => decide (1 ≤ p) && decide (p ≤ 10000)) && parts.all (fun q => decide (0 ≤ q.f0) && decide (q.f0 < l0.length) && decide (0 ≤ q.f1) && decide (q.f1 ≤ q.f2) && decide (q.f2 ≤ 10000))
def spec_FewestBolts.f (k : Nat) (l0 : List S50) (l1 : List Int) : Option (List S60 × Int × Int) := (spec_l16Two.f k l0 l1).bind fun c => if c = 0 then ((spec_l16All.f k l0).bind fun parts => if goodW l0 l1 parts = true then some (fewW (walkW parts.length l1 (parts, List.replicate l0.length 0) [] none)) else none) else some ([], 0, c)
theorem spec_FewestBolts.mono : ∀ a0 a1 k, LeO (spec_FewestBolts.f k a0 a1) (spec_FewestBolts.f (k + 1) a0 a1) := by
 intro a0 a1 k; unfold spec_FewestBolts.f; repeat' with_reducible first | exact spec_l16Two.mono _ _ _ | exact spec_l16All.mono _ _ | exact LeO.refl _ | exact LeO.none _ | refine LeO.ite ?_ ?_ | refine LeO.bind ?_ (fun _ => ?_)
def lfew.T4 : Bool × List (List Nat × List Nat) := (true, [([], []), ([0], [0]), ([], []), ([], []), ([3], [3]), ([4, 4], [4]), ([1, 2, 5], [1, 2, 5]), ([6], [6]), ([7, 1, 0, 1, 2, 3, 4, 5, 6, 7], [7])])
def lfew.B4 : List Nat := [0, 1, 0, 0, 8, 24, 63, 127, 255]
theorem lfew.tab4 : rtab .any (opsOf Tryd.f11 4) = lfew.T4 := by kernel_rfl
theorem lfew.bits4 : waitsOk lfew.T4.2 lfew.B4 = true := by kernel_rfl
def lfew.T8 : Bool × List (List Nat × List Nat) := (true, [([], []), ([0], [0]), ([1], [1]), ([2], [2]), ([], []), ([4], [4]), ([5], [5]), ([6], [6]), ([3, 0, 1, 2, 3], [3]), ([7, 8, 0, 1, 2, 3, 4, 5, 6, 7, 8], [7]), ([9, 0, 1, 2, 3, 4, 5, 6, 7, 8, 9], [])])
def lfew.B8 : List Nat := [0, 1, 3, 7, 0, 16, 48, 112, 15, 511, 1023]
theorem lfew.tab8 : rtab .any (opsOf Tryd.f11 8) = lfew.T8 := by kernel_rfl
theorem lfew.bits8 : waitsOk lfew.T8.2 lfew.B8 = true := by kernel_rfl
set_option maxHeartbeats 8000000 in
set_option maxRecDepth 100000 in
theorem spec_FewestBolts.calls (k : Nat) (A0 : Option Addr) (c0 : Nat) (l0 : List (S50)) (A1 : Option Addr) (c1 : Nat) (l1 : List Int) (r1 : List (S60)) (r2 : Int) (r3 : Int) (w : World) (hr0 : Kd.C k50 w A0 l0.length l0) (hc0 : l0.length ≤ c0) (hr1 : Kd.C (Kd.int .i64) w A1 l1.length l1) (hc1 : l1.length ≤ c1) (h : spec_FewestBolts.f k l0 l1 = some (r1, r2, r3)) :
  Calls Tryd.prog 11 #[.slice A0 l0.length c0, .slice A1 l1.length c1] w fun e w' => ∃ v0_ : Value, e = .returned (.tuple #[v0_, .int .i64 r2, .int .i64 r3]) ∧ Kd.R k60 60 w' w.heap.size (fun _ => True) v0_ r1 ∧ Below w.heap.size w w' := by
 unfold spec_FewestBolts.f at h; obtain ⟨c, hc, h⟩ := Option.bind_eq_some_iff.mp h; have HR0 := Aside0.mk hr0; have HC0 := Aside0.mk hc0; have HR1 := Aside0.mk hr1; have HC1 := Aside0.mk hc1; have HPC := Aside0.mk hc; have HB := Aside0.mk (Below.refl w.heap.size w); clear hr0 hc0 hr1 hc1 hc; by_cases c4 : c = 0
 ·rw [if_pos c4] at h; obtain ⟨parts, hpt, h⟩ := Option.bind_eq_some_iff.mp h; have HPT := Aside0.mk hpt; by_cases hg : goodW l0 l1 parts = true
  ·rw [if_pos hg] at h; have h := Option.some.inj h; simp only [goodW, Bool.and_eq_true, decide_eq_true_eq, List.all_eq_true] at hg; obtain ⟨⟨⟨⟨g1, g2⟩, g3⟩, g4⟩, g5⟩ := hg; have HL0 := Aside0.mk g1; have HL1 := Aside0.mk g2; have HL3 := Aside0.mk g3; have HP4 := Aside0.mk g4; have HQ5 := Aside0.mk (show ∀ q ∈ parts, 0 ≤ q.f0 ∧ q.f0 < l0.length ∧ 0 ≤ q.f1 ∧ q.f1 ≤ q.f2 ∧ q.f2 ≤ 10000 from fun q hq => by have := g5 q hq; exact ⟨this.1.1.1.1, this.1.1.1.2, this.1.1.2, this.1.2, this.2⟩); obtain ⟨R0, hR0⟩ : ∃ R0, R0 = walkW parts.length l1 (parts, List.replicate l0.length 0) [] none := ⟨_, rfl⟩; rw [← hR0] at h; have HR := Aside0.mk h; have HRR := Aside0.mk hR0; have c4b : (c == 0) = true := beq_iff_eq.mpr c4; have c4c : (c != 0) = false := bne_eq_false_iff_eq.mpr c4; clear h hR0 hpt g1 g2 g3 g4 g5 c4; (go_enter Tryd.func11, Tryd.ntmps11); (go_wp2_with (first | ((with_reducible refine gate_callee (f := 34) rfl ?_); refine goesL_ (some 11) rfl rfl Tryd.func34 (by kernel_rfl) rfl #[.slice A0 l0.length c0, .slice A1 l1.length c1] rfl zM ?_; (with_reducible refine (spec_l16Two.calls k _ _ l0 _ _ l1 c _ HR0.out HC0.out HR1.out HC1.out HPC.out).mono ?_); rintro e w1 ⟨rfl, hd⟩; refine ⟨_, rfl, ?_⟩; replace HB := pS HB hd.below; (try clear hd)))); have hB := (below_drew1 HB.out); refine start_ (n := 9) (S := fun w' => True) (ds := [7]) #[F,F,F,F,F,F,F,F,F] (by kernel_rfl) rfl rfl trivial (fun hHeld => ?_); refine with_tabW lfew.tab4 lfew.bits4 (fun HT_ HW_ => ?_); generalize w1.drew = w2 at hB hHeld ⊢; refine pV (i := 0) (N := some 15) #[T,F,F,F,F,F,F,F,F] HT_ ?_; refine pV (i := 2) (N := some 17) #[T,F,T,F,F,F,F,F,F] HT_ ?_; refine pV (i := 3) (N := some 18) #[T,F,T,T,F,F,F,F,F] HT_ ?_; refine pV (i := 4) (N := some 19) #[T,F,T,T,T,F,F,F,F] HT_ ?_; refine join_ (σ := Value × Value) 3 #[T,T,T,T,T,T,F,F,F] (fun s_ => [(16, s_.1), (20, s_.2)]) (fun s_ w' => (Kd.R k98 98 w' w.heap.size (fun _ => True) s_.1 parts) ∧ (Kd.R (Kd.int .i64) 2 w' w.heap.size (fun _ => True) s_.2 (List.replicate l0.length 0)) ∧ (Below w.heap.size w w')) ?_ ?_; rotate_left
   ·intro hJ1_5; refine join_ (σ := Value) 4 #[T,T,T,T,T,F,F,F,F] (fun s_ => [(16, s_)]) (fun s_ w' => (Kd.R k98 98 w' w.heap.size (fun _ => True) s_ parts) ∧ (Below w.heap.size w w')) ?_ ?_; rotate_left
    ·intro hJ1; refine join_ (σ := Value) 4 #[T,F,T,T,T,T,F,F,F] (fun s_ => [(20, s_)]) (fun s_ w' => (Kd.R (Kd.int .i64) 2 w' w.heap.size (fun _ => True) s_ (List.replicate l0.length 0)) ∧ (Below w.heap.size w w')) ?_ ?_; rotate_left
     ·intro hJ5; refine two_ (i := 1) (j := 5) (Ni := some 16) (Nj := some 20) #[T,T,T,T,T,F,F,F,F] #[T,F,T,T,T,T,F,F,F] rfl rfl rfl rfl (two_of HT_.out (by kernel_rfl)) (by decide) (by decide) (fun K hK => ?_) (fun K hK => ?_)
      ·skip; refine goes_ Tryd.func35 (by kernel_rfl) rfl #[.slice A0 l0.length c0] (by rfl) rfl rfl zM ?_; (with_reducible refine (spec_l16All.calls k A0 c0 l0 parts _ (Kd.C_below HR0.out hB) HC0.out HPT.out).mono ?_); rintro e_ w3 ⟨pv, rfl, hp, hb_⟩; refine ⟨_, rfl, ?_⟩; replace hp := Kd.R_lower hp (below_size hB); obtain ⟨pA, pc, ep_⟩ := Kd.R_slice hp; subst ep_; replace hB := below_step hB hb_; refine hK.out _ _ trivial (fun hHeld => ?_); clear hK K; refine norm_ (a' := ?_) ?_ ?_; rotate_left
       ·(show Act.put _ (some 16) _ = _); simp only [NS]; rfl
       exact norm_ (by first | (simp only [putAll, Act.put, List.setIfInBounds_toArray, List.set_cons_zero, List.set_cons_succ]; done) | (simp only [putAll, Act.put, List.setIfInBounds_toArray, List.set_cons_zero, List.set_cons_succ]; rfl)) (hJ1 (.slice pA parts.length pc) _ ⟨hp, hB⟩)
      ·skip; refine Kd.R_make_step (Kd.int .i64) (w0 := w) w.heap.size 2 (by rfl) (N := 20) rfl 25 (.tmp 19) (.tmp 19) rfl (l0.length : Int) rfl rfl Tryd.underlying25 (.int .i64 0) 8 winfo2 rfl (by decide) (by omega) (0 : Int) (ok := fun _ => True) (okp := fun _ => False) rfl (fun _ _ => trivial) trivial (by omega) (by have := HL0.out; omega) hB (below_size hB) ?_; intro uv w3 hu hb2 hg2 _; rw [Int.toNat_natCast] at hu; obtain ⟨uA, uc, eu_⟩ := Kd.R_slice hu; rw [List.length_replicate] at eu_; subst eu_; have hb_ := wbelow_of_grown hg2; replace hB := below_step hB hb_; refine hK.out _ _ trivial (fun hHeld => ?_); clear hK K; refine norm_ (a' := ?_) ?_ ?_; rotate_left
       ·(show Act.put _ (some 20) _ = _); simp only [NS]; rfl
       exact norm_ (by first | (simp only [putAll, Act.put, List.setIfInBounds_toArray, List.set_cons_zero, List.set_cons_succ]; done) | (simp only [putAll, Act.put, List.setIfInBounds_toArray, List.set_cons_zero, List.set_cons_succ]; rfl)) (hJ5 (.slice uA l0.length uc) _ ⟨hu, hB⟩)
     ·skip; rintro uv w' ⟨hu, hB⟩; (try dsimp only at hu); obtain ⟨uA, uc, eu_⟩ := Kd.R_slice hu; rw [List.length_replicate] at eu_; subst eu_; have hHeld : True := trivial; refine norm_ (a' := ?_) ?_ ?_; rotate_left
      ·simp only [putAll, Act.put, List.setIfInBounds_toArray, List.set_cons_zero, List.set_cons_succ]; rfl
      refine one_ (i := 1) (N := some 16) #[T,T,T,T,T,T,F,F,F] rfl rfl (one_of HT_.out (by kernel_rfl)) (by decide) (fun K hK => ?_); refine goes_ Tryd.func35 (by kernel_rfl) rfl #[.slice A0 l0.length c0] (by rfl) rfl rfl zM ?_; (with_reducible refine (spec_l16All.calls k A0 c0 l0 parts _ (Kd.C_below HR0.out hB) HC0.out HPT.out).mono ?_); rintro e_ w3 ⟨pv, rfl, hp, hb_⟩; refine ⟨_, rfl, ?_⟩; replace hp := Kd.R_lower hp (below_size hB); obtain ⟨pA, pc, ep_⟩ := Kd.R_slice hp; subst ep_; replace hu := Kd.R_below hu hb_; replace hB := below_step hB hb_; refine hK.out _ _ trivial (fun hHeld => ?_); clear hK K; refine norm_ (a' := ?_) ?_ ?_; rotate_left
      ·(show Act.put _ (some 16) _ = _); simp only [NS]; rfl
      exact norm_ (by first | (simp only [putAll, Act.put, List.setIfInBounds_toArray, List.set_cons_zero, List.set_cons_succ]; done) | (simp only [putAll, Act.put, List.setIfInBounds_toArray, List.set_cons_zero, List.set_cons_succ]; rfl)) (hJ1_5 ((.slice pA parts.length pc), (.slice uA l0.length uc)) _ ⟨hp, hu, hB⟩)
    ·skip; rintro pv w' ⟨hp, hB⟩; (try dsimp only at hp); obtain ⟨pA, pc, ep_⟩ := Kd.R_slice hp; subst ep_; have hHeld : True := trivial; refine norm_ (a' := ?_) ?_ ?_; rotate_left
     ·simp only [putAll, Act.put, List.setIfInBounds_toArray, List.set_cons_zero, List.set_cons_succ]; rfl
     refine one_ (i := 5) (N := some 20) #[T,T,T,T,T,T,F,F,F] rfl rfl (one_of HT_.out (by kernel_rfl)) (by decide) (fun K hK => ?_); refine Kd.R_make_step (Kd.int .i64) (w0 := w) w.heap.size 2 (by rfl) (N := 20) rfl 25 (.tmp 19) (.tmp 19) rfl (l0.length : Int) rfl rfl Tryd.underlying25 (.int .i64 0) 8 winfo2 rfl (by decide) (by omega) (0 : Int) (ok := fun _ => True) (okp := fun _ => False) rfl (fun _ _ => trivial) trivial (by omega) (by have := HL0.out; omega) hB (below_size hB) ?_; intro uv w3 hu hb2 hg2 _; rw [Int.toNat_natCast] at hu; obtain ⟨uA, uc, eu_⟩ := Kd.R_slice hu; rw [List.length_replicate] at eu_; subst eu_; have hb_ := wbelow_of_grown hg2; replace hp := Kd.R_below hp hb_; replace hB := below_step hB hb_; refine hK.out _ _ trivial (fun hHeld => ?_); clear hK K; refine norm_ (a' := ?_) ?_ ?_; rotate_left
     ·(show Act.put _ (some 20) _ = _); simp only [NS]; rfl
     exact norm_ (by first | (simp only [putAll, Act.put, List.setIfInBounds_toArray, List.set_cons_zero, List.set_cons_succ]; done) | (simp only [putAll, Act.put, List.setIfInBounds_toArray, List.set_cons_zero, List.set_cons_succ]; rfl)) (hJ1_5 ((.slice pA parts.length pc), (.slice uA l0.length uc)) _ ⟨hp, hu, hB⟩)
   rintro ⟨pv, uv⟩ w' ⟨hp, hu, hB⟩; (try dsimp only at hp hu); obtain ⟨pA, pc, ep_⟩ := Kd.R_slice hp; subst ep_; obtain ⟨uA, uc, eu_⟩ := Kd.R_slice hu; rw [List.length_replicate] at eu_; subst eu_; have hHeld : True := trivial; refine norm_ (a' := ?_) ?_ ?_; rotate_left
   ·simp only [putAll, Act.put, List.setIfInBounds_toArray, List.set_cons_zero, List.set_cons_succ]; rfl
   refine pV (i := 6) (N := some 21) #[T,T,T,T,T,T,T,F,F] HT_ ?_; refine last_ (i := 7) (N := some 22) #[T,T,T,T,T,T,T,T,F] rfl rfl (one_of HT_.out (by kernel_rfl)) (by decide) (fun K hK => ?_); refine value_ (w1 := ?_) (v := ?_) (by rfl) rfl ?_ ?_; rotate_left 2
   ·(go_simp); constructor
    ·rfl
    ·rfl
   refine hK.out _ _ ?_; clear hK K; refine norm_ (a' := ?_) ?_ ?_; rotate_left
   ·(show Act.put _ (some 22) _ = _); simp only [NS]; rfl
   refine pV (i := 8) (N := some 8) #[T,T,T,T,T,T,T,T,T] HT_ ?_; refine done_ (done_of HT_.out (by kernel_rfl)) ?_
   ; have hbx := blk_new w' (.cells #[.slice pA parts.length pc, .slice A1 l1.length c1, .slice uA l0.length uc, .slice none 0 0, .int .i64 (-1)] 78 (0, 0)); have hb_ : Below (World.heap w').size w' (World.alloc w' (.cells #[.slice pA parts.length pc, .slice A1 l1.length c1, .slice uA l0.length uc, .slice none 0 0, .int .i64 (-1)] 78 (0, 0))) := below_alloc (Below.refl _ _) _; have hgb := below_size hB; have HI := Aside0.mk (WalkAt.init hbx hgb (Kd.R_below hp hb_) (Kd.R_below hu hb_) (below_step hB hb_)); clear hbx hb_ hgb hp hu hB hHeld; generalize World.alloc w' _ = w3 at HI ⊢; generalize (World.heap w').size = gv at HI ⊢; have hinv : InvW l1.length (parts, List.replicate l0.length (0 : Int)) := ⟨by intro q hq; have := HQ5.out q hq; simp only [List.length_replicate]; exact this, by intro u hu; have := List.eq_of_mem_replicate hu; subst this; have := HL1.out; omega, HL3.out, by simpa using HL0.out⟩; (have hcall := fun w4 v24 hI4 hO4 => walk_go w l1 A1 c1 HR1.out HP4.out HL1.out gv pA pc uA uc parts.length l0.length l1 0 rfl (by omega) w4 (.slice none 0 0) v24 parts (List.replicate l0.length 0) [] none rfl (by simp) rfl hinv hI4 hO4); rw [cntU_repW, ← HRR.out] at hcall; have HCALL := Aside0.mk hcall; clear hcall hinv HRR
   cases R0 with
   | none =>
    have e1 := HR.out; simp only [fewW, Prod.mk.injEq] at e1; obtain ⟨rfl, rfl, rfl⟩ := e1; clear HR
    go_wp2_with (first
     | ((with_reducible refine gate_dst (N := 24) rfl ?_); refine Kd.R_lit k60 (w0 := w) w.heap.size 60 ?hg (N := 24) ?hd (xs := ([] : List S60)) (inner := []) (ok := fun k => some k ≠ (Value.slice none 0 0).ownBlock) (okp := fun _ => False) ?hr (Reps.none _ _) (fun _ hk => hk.elim) (fun h_ => by cases h_) HI.out.below (below_size HI.out.below) (by simp) ?_; (case hd => rfl); (case hg => rfl); (case hr => first | (go_simp; done) | (go_simp; rfl)); intro v24 w4 ho hb hg_ hnew_; have HC2 := Aside0.mk (HCALL.out w4 v24 (HI.out.later (wbelow_of_grown hg_)) ho); clear ho hb hg_ hnew_)
     | ((with_reducible refine gate_callee (f := 36) rfl ?_); refine goesL_ (some 25) rfl rfl Tryd.func36 (by kernel_rfl) rfl #[.pointer (some ⟨gv, 0, none⟩), v24, .int .i64 0] rfl zM ?_; (with_reducible refine (HC2.out).mono ?_); rintro e_ w5 ⟨v3', rfl, hI5⟩; refine ⟨_, rfl, ?_⟩; replace HI := Aside0.mk hI5.i; clear hI5 HC2; obtain ⟨hx0, hx1, hx2, hx3, hx4⟩ := cz5 (Aside0.mk HI.out.box); simp only [encF] at hx4))
    (go_ret3); exact ⟨_, zE, Kd.R_nil _ _ _ _ _, HI.out.below⟩
   | some z =>
    have e1 := HR.out; simp only [fewW, Prod.mk.injEq] at e1; obtain ⟨rfl, rfl, rfl⟩ := e1; clear HR; have c5 : decide ((z.2 : Int) < 0) = false := decide_eq_false (by omega)
    go_wp2_with (first
     | ((with_reducible refine gate_dst (N := 24) rfl ?_); refine Kd.R_lit k60 (w0 := w) w.heap.size 60 ?hg (N := 24) ?hd (xs := ([] : List S60)) (inner := []) (ok := fun k => some k ≠ (Value.slice none 0 0).ownBlock) (okp := fun _ => False) ?hr (Reps.none _ _) (fun _ hk => hk.elim) (fun h_ => by cases h_) HI.out.below (below_size HI.out.below) (by simp) ?_; (case hd => rfl); (case hg => rfl); (case hr => first | (go_simp; done) | (go_simp; rfl)); intro v24 w4 ho hb hg_ hnew_; have HC2 := Aside0.mk (HCALL.out w4 v24 (HI.out.later (wbelow_of_grown hg_)) ho); clear ho hb hg_ hnew_)
     | ((with_reducible refine gate_callee (f := 36) rfl ?_); refine goesL_ (some 25) rfl rfl Tryd.func36 (by kernel_rfl) rfl #[.pointer (some ⟨gv, 0, none⟩), v24, .int .i64 0] rfl zM ?_; (with_reducible refine (HC2.out).mono ?_); rintro e_ w5 ⟨v3', rfl, hI5⟩; refine ⟨_, rfl, ?_⟩; replace HI := Aside0.mk hI5.i; clear hI5 HC2; obtain ⟨hx0, hx1, hx2, hx3, hx4⟩ := cz5 (Aside0.mk HI.out.box); simp only [encF] at hx4))
    have HI2 := Aside0.mk HI.out.drew; clear HI hx0 hx1 hx2 hx3 hx4; obtain ⟨hx0, hx1, hx2, hx3, hx4⟩ := cz5 (Aside0.mk HI2.out.box); simp only [encF] at hx4; refine start_ (n := 11) (S := fun w' => w'.cell? ⟨gv, 3, none⟩ = some v3' ∧ w'.cell? ⟨gv, 4, none⟩ = some (.int .i64 (z.2 : Int))) (ds := []) (ms 11 0) (by kernel_rfl) rfl rfl ⟨hx3, hx4⟩ (fun hHeld => ?_); refine with_tabW lfew.tab8 lfew.bits8 (fun HT_ HW_ => ?_); generalize w5.drew = w6 at HI2 hx0 hx1 hx2 hx3 hx4 hHeld ⊢; refine pW 0 31 11 1 HT_ ?_; refine pW 1 32 11 3 HT_ ?_; refine pW 2 33 11 7 HT_ ?_; refine pW 4 35 11 23 HT_ ?_; refine pW 5 36 11 55 HT_ ?_; refine pW 6 37 11 119 HT_ ?_; refine tV (i := 3) (N := some 34) (ms 11 127) rfl rfl HT_ HW_ hHeld (by rintro w' ⟨s0, s1⟩; go_simp; with_reducible rfl) ?_; refine pW 8 4 11 383 HT_ ?_; refine tV (i := 7) (N := some 38) (ms 11 511) rfl rfl HT_ HW_ hHeld (by rintro w' ⟨s0, s1⟩; go_simp; with_reducible rfl) ?_; refine pW 9 5 11 1023 HT_ ?_; refine pW 10 6 11 2047 HT_ ?_; refine done_ (done_of HT_.out (by kernel_rfl)) ?_; (try go_wp2); (go_ret3); exact ⟨_, rfl, Kd.R_mono HI2.out.r3 (fun _ _ => trivial), HI2.out.below⟩
  ·rw [if_neg hg] at h
   cases h
 ·rw [if_neg c4] at h; have h := Option.some.inj h; simp only [Prod.mk.injEq] at h; obtain ⟨rfl, rfl, rfl⟩ := h; have c4b : (c == 0) = false := beq_eq_false_iff_ne.mpr c4; have c4c : (c != 0) = true := bne_iff_ne.mpr c4; clear c4; (go_enter Tryd.func11, Tryd.ntmps11); (go_wp2_with (first | ((with_reducible refine gate_callee (f := 34) rfl ?_); refine goesL_ (some 11) rfl rfl Tryd.func34 (by kernel_rfl) rfl #[.slice A0 l0.length c0, .slice A1 l1.length c1] rfl zM ?_; (with_reducible refine (spec_l16Two.calls k _ _ l0 _ _ l1 c _ HR0.out HC0.out HR1.out HC1.out HPC.out).mono ?_); rintro e w1 ⟨rfl, hd⟩; refine ⟨_, rfl, ?_⟩; replace HB := pS HB hd.below; (try clear hd)))); (go_ret3); exact ⟨_, zE, Kd.R_nil _ _ _ _ _, pR HB⟩

end Go.Proofs.YtendpecnfaojkaaDoor.PFnExactFewestBolts
