/-
  Short forms of steps that the printed walks take often. Plain theorems; what a step must still find by itself stands as its default proof.
-/
import Derived.Calls
import Derived.Test.YtpngklefeaolfaaWWords
import Derived.Test.YtpngklefeaolfaaWLast
import Derived.Test.YtpngklefeaolfaaWMore
import Derived.Test.YtpngklefeaolfaaWTab
import Derived.Test.YtpngklefeaolfaaWApart
set_option linter.unusedVariables false
namespace Go.Proofs.Ytpngklefeaolfaa.Small
open Go.RowKit Go.Proofs.YtpngklefeaolfaaW.PrintWords Go.Proofs.YtpngklefeaolfaaW.PrintLast Go.Proofs.YtpngklefeaolfaaW.PrintMore
/-- A variable's block behind a call. -/
theorem pB {W0 W w' : World} {g : Nat} {o : Obj} (BK : Aside0 (W0.heap[g]? = some o)) (hb : Below W.heap.size W w')
    (mv : W0.heap[g]? = some o → W.heap[g]? = some o := by intro h_; (with_reducible repeat (first | refine blk_drewN ?_ _ | refine blk_drew ?_ | refine blk_alloc ?_ _)); exact h_) : Aside0 (w'.heap[g]? = some o) := ⟨blk_below (mv BK.out) hb⟩
/-- What lay there at the call lies there still. -/
theorem pR {w W0 W : World} (HB : Aside0 (Below w.heap.size w W0))
    (mv : Below w.heap.size w W0 → Below w.heap.size w W := by intro h_; repeat (first | (with_reducible first | exact h_ | apply below_alloc | apply pw_below_drewN | apply below_drew1 | refine below_set ?_ (Aside0.out (by assumption))) | exact h_)) : Below w.heap.size w W := mv HB.out
theorem pS {w W0 W w' : World} (HB : Aside0 (Below w.heap.size w W0)) (hb : Below W.heap.size W w')
    (mv : Below w.heap.size w W0 → Below w.heap.size w W := by intro h_; repeat (first | (with_reducible first | exact h_ | apply below_alloc | apply pw_below_drewN | apply below_drew1 | refine below_set ?_ (Aside0.out (by assumption))) | exact h_)) : Aside0 (Below w.heap.size w w') := ⟨below_step (mv HB.out) hb⟩
theorem pG {w W0 W : World} {g : Nat} (HB : Aside0 (Below w.heap.size w W0)) (hg : g = W.heap.size)
    (mv : Below w.heap.size w W0 → Below w.heap.size w W := by intro h_; repeat (first | (with_reducible first | exact h_ | apply below_alloc | apply pw_below_drewN | apply below_drew1 | refine below_set ?_ (Aside0.out (by assumption))) | exact h_)) : Aside0 (w.heap.size ≤ g) := ⟨by rw [hg]; exact below_size (mv HB.out)⟩
/-- Two variables' blocks. -/
theorem pN {W0 W : World} {g g' : Nat} {o : Obj} (BK : Aside0 (W0.heap[g]? = some o)) (hg : g' = W.heap.size)
    (mv : W0.heap[g]? = some o → W.heap[g]? = some o := by intro h_; (with_reducible repeat (first | refine blk_drewN ?_ _ | refine blk_drew ?_ | refine blk_alloc ?_ _)); exact h_) : Aside0 (g ≠ g') := ⟨by rw [hg]; exact Nat.ne_of_lt (blk_lt (mv BK.out))⟩
theorem pM {W0 W : World} {g g' : Nat} {o : Obj} (BK : Aside0 (W0.heap[g]? = some o)) (hg : g' = W.heap.size)
    (mv : W0.heap[g]? = some o → W.heap[g]? = some o := by intro h_; (with_reducible repeat (first | refine blk_drewN ?_ _ | refine blk_drew ?_ | refine blk_alloc ?_ _)); exact h_) : Aside0 (g' ≠ g) := ⟨by rw [hg]; exact Nat.ne_of_gt (blk_lt (mv BK.out))⟩
theorem bC {w W : World} {a : Addr} {v : Value} (HB : Aside0 (Below w.heap.size w W)) (h : w.cell? a = some v) : W.cell? a = some v := (HB.out.cell (World.block_lt_of_cell? w _ h)).trans h
theorem zd {p : Prop} [Decidable p] (h : decide p = true := by first | (with_reducible assumption) | assumption) : p := of_decide_eq_true h
theorem pC {w W : World} {a : Addr} {v : Value} (HB : Aside0 (Below w.heap.size w W)) (h : Aside0 (w.cell? a = some v)) : W.cell? a = some v := (HB.out.cell (World.block_lt_of_cell? w _ h.out)).trans h.out
theorem pF {w : World} {a : Addr} {v : Value} {g : Nat} (h : Aside0 (w.cell? a = some v)) (hg : Aside0 (w.heap.size ≤ g)) : a.block ≠ g := Nat.ne_of_lt (Nat.lt_of_lt_of_le (World.block_lt_of_cell? _ _ h.out) hg.out)
abbrev h3 (w : World) (a : Addr) (u v x : Value) : Prop := w.cell? a = some u ∧ w.cell? ⟨a.block, a.off + 1, none⟩ = some v ∧ w.cell? ⟨a.block, a.off + 2, none⟩ = some x ∧ w.cell? a = some u ∧ w.cell? ⟨a.block, a.off + 1, none⟩ = some v ∧ w.cell? ⟨a.block, a.off + 2, none⟩ = some x ∧ w.cell? a = some u ∧ w.cell? ⟨a.block, a.off + 1, none⟩ = some v ∧ w.cell? ⟨a.block, a.off + 2, none⟩ = some x
/-- The z-words: steps that are found anew at each place. -/
theorem zB {p q : Prop} (h : p) (m : p → q := by intro h_; (with_reducible repeat (first | refine blk_drewN ?_ _ | refine blk_drew ?_ | refine blk_alloc ?_ _)); exact h_) : q := m h
theorem zS {p q : Prop} (h : p) (m : p → q := by intro h_; (with_reducible repeat (first | apply Kd.S_alloc | apply Kd.S_drewN | apply Kd.S_drew)); exact h_) : q := m h
theorem zR {p q : Prop} (h : p) (m : p → q := by intro h_; (with_reducible repeat (first | apply Kd.R_alloc | apply Kd.R_drewN | apply Kd.R_drew)); exact h_) : q := m h
theorem zC {p q : Prop} (h : p) (m : p → q := by intro h_; (with_reducible repeat (first | refine Kd.C_alloc ?_ _ | refine Kd.C_drewN ?_ _ | refine Kd.C_drew ?_)); exact h_) : q := m h
theorem zM {α : Type _} {a b : α} (h : a = b := by (try simp only [List.map_toArray, List.map_cons, List.map_nil]); first | done | rfl | (simp only [List.length_drop, List.length_take]; rfl)) : a = b := h
theorem zF {α : Type _} {a b : α} (h : a = b := by first | rfl | (simp; done) | (simp [*]; done)) : a = b := h
theorem zE {α : Type _} {a b : α} (h : a = b := by first | rfl | (simp [errW_none, errW_some] <;> rfl) | (simp [*, errW_none, errW_some] <;> rfl)) : a = b := h
theorem zD {w w' : World} (h : Drawn0 w w' := by repeat (first | exact Drawn0.refl _ | apply Drawn0.step)) : Drawn0 w w' := h
theorem zTR {α : Type} {d : Kd α} {e : Nat} {W0 W : World} {base : Nat} {ok : Nat → Prop} {v : Value} {xs : List α} {g t : Nat} {cells : Array Value} (HO : Aside0 (Kd.R d e W0 base ok v xs)) (BK : Aside0 (W0.heap[g]? = some (.cells cells t (0, 0)))) (ht : ∀ q, q ∈ e :: d.E → q ≠ t := by decide)
    (m : Kd.R d e W0 base (fun k => ok k ∧ k ≠ g) v xs → Kd.R d e W base (fun k => ok k ∧ k ≠ g) v xs := by intro h_; (with_reducible repeat (first | refine Kd.R_far ?_ (fun _ hk => hk.2) _ | apply Kd.R_alloc | apply Kd.R_drewN | apply Kd.R_drew)); exact h_) : Kd.R d e W base ok v xs := Kd.R_mono (m (Kd.R_types HO.out BK.out ht)) (fun _ h => h.1)
theorem zLR {α : Type} {d : Kd α} {e : Nat} {W0 W w1 : World} {base : Nat} {ok : Nat → Prop} {v : Value} {xs : List α} (HO : Aside0 (Kd.R d e W0 base ok v xs)) (hb : Below W.heap.size W w1) (m : Kd.R d e W0 base ok v xs → Kd.R d e W base ok v xs := by intro h_; (with_reducible repeat (first | apply Kd.R_alloc | apply Kd.R_drewN | apply Kd.R_drew)); exact h_) : Aside0 (Kd.R d e w1 base ok v xs) := ⟨Kd.R_below (m HO.out) hb⟩
theorem zER {α : Type} {d : Kd α} {e : Nat} {W0 W w1 : World} {base : Nat} {ok : Nat → Prop} {v u : Value} {xs : List α} (HO : Aside0 (Kd.R d e W0 base ok u xs)) (ho : ∀ k, v.ownBlock = some k → W.heap.size ≤ k) (hb : Below W.heap.size W w1) (m : Kd.R d e W0 base ok u xs → Kd.R d e W base ok u xs := by intro h_; (with_reducible repeat (first | apply Kd.R_alloc | apply Kd.R_drewN | apply Kd.R_drew)); exact h_) : Kd.R d e w1 base (fun k => ok k ∧ some k ≠ v.ownBlock) u xs := Kd.R_elder' (m HO.out) ho hb
theorem zlR {α : Type} {d : Kd α} {e : Nat} {W0 W : World} {base : Nat} {ok : Nat → Prop} {v : Value} {xs : List α} (HO : Aside0 (Kd.R d e W0 base ok v xs)) (m : Kd.R d e W0 base ok v xs → Kd.R d e W base ok v xs := by intro h_; (with_reducible repeat (first | apply Kd.R_alloc | apply Kd.R_drewN | apply Kd.R_drew)); exact h_) : ∀ k, v.ownBlock = some k → k < W.heap.size := Kd.R_lt (m HO.out)
theorem zTS {α : Type} {d : Kd α} {e : Nat} {W0 W : World} {base : Nat} {ok : Nat → Prop} {v : Value} {xs : List α} {g t : Nat} {cells : Array Value} (HO : Aside0 (Kd.S d e W0 base ok v xs)) (BK : Aside0 (W0.heap[g]? = some (.cells cells t (0, 0)))) (ht : ∀ q, q ∈ e :: d.E → q ≠ t := by decide)
    (m : Kd.S d e W0 base (fun k => ok k ∧ k ≠ g) v xs → Kd.S d e W base (fun k => ok k ∧ k ≠ g) v xs := by intro h_; (with_reducible repeat (first | refine Kd.S_far ?_ (fun _ hk => hk.2) _ | apply Kd.S_alloc | apply Kd.S_drewN | apply Kd.S_drew)); exact h_) : Kd.S d e W base ok v xs := Kd.S_mono (m (Kd.S_types HO.out BK.out ht)) (fun _ h => h.1)
theorem zLS {α : Type} {d : Kd α} {e : Nat} {W0 W w1 : World} {base : Nat} {ok : Nat → Prop} {v : Value} {xs : List α} (HO : Aside0 (Kd.S d e W0 base ok v xs)) (hb : Below W.heap.size W w1) (m : Kd.S d e W0 base ok v xs → Kd.S d e W base ok v xs := by intro h_; (with_reducible repeat (first | apply Kd.S_alloc | apply Kd.S_drewN | apply Kd.S_drew)); exact h_) : Aside0 (Kd.S d e w1 base ok v xs) := ⟨Kd.S_below (m HO.out) hb⟩
theorem zES {α : Type} {d : Kd α} {e : Nat} {W0 W w1 : World} {base : Nat} {ok : Nat → Prop} {v u : Value} {xs : List α} (HO : Aside0 (Kd.S d e W0 base ok u xs)) (ho : ∀ k, v.ownBlock = some k → W.heap.size ≤ k) (hb : Below W.heap.size W w1) (m : Kd.S d e W0 base ok u xs → Kd.S d e W base ok u xs := by intro h_; (with_reducible repeat (first | apply Kd.S_alloc | apply Kd.S_drewN | apply Kd.S_drew)); exact h_) : Kd.S d e w1 base (fun k => ok k ∧ some k ≠ v.ownBlock) u xs := Kd.S_elder' (m HO.out) ho hb
theorem zlS {α : Type} {d : Kd α} {e : Nat} {W0 W : World} {base : Nat} {ok : Nat → Prop} {v : Value} {xs : List α} (HO : Aside0 (Kd.S d e W0 base ok v xs)) (m : Kd.S d e W0 base ok v xs → Kd.S d e W base ok v xs := by intro h_; (with_reducible repeat (first | apply Kd.S_alloc | apply Kd.S_drewN | apply Kd.S_drew)); exact h_) : ∀ k, v.ownBlock = some k → k < W.heap.size := Kd.S_lt (m HO.out)
theorem bk {w : World} {g : Nat} {cs : Array Value} {t : TypeId} {v : Value} (BK : Aside0 (w.heap[g]? = some (.cells cs t (0, 0)))) (i : Nat) (h : cs[i]? = some v := by rfl) : w.cell? ⟨g, i, none⟩ = some v := (blk_cell BK.out i).trans h
section
variable {w : World} {g : Nat} {t : TypeId} {a b c d : Value}
theorem cz1 (h : Aside0 (w.heap[g]? = some (.cells #[a] t (0, 0)))) : w.cell? ⟨g, 0, none⟩ = some a ∧ w.frozen? ⟨g, 0, none⟩ = false := ⟨(blk_cell h.out 0).trans rfl, blk_frozen h.out 0⟩
theorem cz2 (h : Aside0 (w.heap[g]? = some (.cells #[a, b] t (0, 0)))) : w.cell? ⟨g, 0, none⟩ = some a ∧ w.cell? ⟨g, 1, none⟩ = some b ∧ w.frozen? ⟨g, 0, none⟩ = false ∧ w.frozen? ⟨g, 1, none⟩ = false := ⟨(blk_cell h.out 0).trans rfl, (blk_cell h.out 1).trans rfl, blk_frozen h.out 0, blk_frozen h.out 1⟩
theorem cz3 (h : Aside0 (w.heap[g]? = some (.cells #[a, b, c] t (0, 0)))) : w.cell? ⟨g, 0, none⟩ = some a ∧ w.cell? ⟨g, 1, none⟩ = some b ∧ w.cell? ⟨g, 2, none⟩ = some c ∧ w.frozen? ⟨g, 0, none⟩ = false ∧ w.frozen? ⟨g, 1, none⟩ = false ∧ w.frozen? ⟨g, 2, none⟩ = false := ⟨(blk_cell h.out 0).trans rfl, (blk_cell h.out 1).trans rfl, (blk_cell h.out 2).trans rfl, blk_frozen h.out 0, blk_frozen h.out 1, blk_frozen h.out 2⟩
end
/-- How a variable of the machine is written, and what whole numbers' wraps are called: for simp. -/
theorem NS : (∀ (a : Act) (d : Tmp) (v : Value), a.put (some d) v = { a with tmps := a.tmps.setIfInBounds d v }) ∧ (∀ (a : Act) (v : Value), a.put none v = a) ∧ (∀ (l : List Value) (i : Nat) (x : Value), l.toArray.setIfInBounds i x = (l.set i x).toArray) ∧ (∀ (x y : Value) (l : List Value), (x :: l).set 0 y = y :: l) ∧ (∀ (x y : Value) (l : List Value) (n : Nat), (x :: l).set (n + 1) y = x :: l.set n y) ∧ (∀ n : Int, IntKind.i64.wrap n = wrap64 n) ∧ (∀ n : Int, IntKind.i32.wrap n = wrap32 n) :=
  ⟨fun _ _ _ => rfl, fun _ _ => rfl, fun l i x => List.setIfInBounds_toArray l i x, fun _ _ _ => List.set_cons_zero .., fun _ _ _ _ => List.set_cons_succ .., i64_w, i32_w⟩
theorem pV {P : Program} {ops : Array Oper} {Q : Exit → Act → World → Prop} {md : Region.Mode} {S : World → Prop} {ds : List Nat} {T : Bool × List (List Nat × List Nat)} {i : Nat} {N : Option Tmp} {oi : Oper} {v : Value} {fuel : Nat} {l : Array Bool} {a a' : Act} {w : World} (l' : Array Bool) (hT : Aside0 (rtab md ops = T))
    (h : wpAnyLast P md ops Q S ds fuel l' a' w) (hi : ops[i]? = some oi := by exact rfl) (hN : oi.dst = N := by exact rfl) (hc : anyT T l.toList l'.toList i = true := by kernel_rfl)
    (hy : Yields P ops oi v a := by refine Or.inl ⟨by rfl, ?_⟩; intro w'; go_simp; with_reducible rfl) (ha : a.put N v = a' := by simp only [NS]; rfl) (hQ : ∀ c a w, Q (.panic c) (a.put oi.dst v) w → Q (.panic c) a w := by exact fun _ _ _ h => h) : wpAnyLast P md ops Q S ds (fuel + 1) l a w :=
  pure_ l' hi hN (any_of hT.out hc) hQ hy ha h
theorem tV {P : Program} {ops : Array Oper} {Q : Exit → Act → World → Prop} {md : Region.Mode} {S : World → Prop} {ds : List Nat} {T : Bool × List (List Nat × List Nat)} {B : List Nat} {i : Nat} {N : Option Tmp} {oi : Oper} {v : Value} {fuel : Nat} {l : Array Bool} {a a' : Act} {w : World} (l' : Array Bool) (hi : ops[i]? = some oi) (hN : oi.dst = N) (hT : Aside0 (rtab md ops = T)) (hW : Aside0 (waitsOk T.2 B = true)) (hS : S w)
    (hy : ∀ w', S w' → (execOp a.eval oi).run P w' = .ok (.value v) w') (h : wpAnyLast P md ops Q S ds fuel l' a' w) (hc : takeW T B ds l.toList l'.toList i = true := by kernel_rfl)
    (hg : Region.wanted oi (yielded ops a.tmps) = true := by rfl) (ha : a.put N v = a' := by simp only [NS]; rfl) (hQ : ∀ c a w, Q (.panic c) (a.put oi.dst v) w → Q (.panic c) a w := by exact fun _ _ _ h => h) : wpAnyLast P md ops Q S ds (fuel + 1) l a w :=
  take_ l' hi hN (take_ofW hT.out hW.out hc) hQ (Or.inl ⟨hg, hy⟩) hS ha h
end Go.Proofs.Ytpngklefeaolfaa.Small
