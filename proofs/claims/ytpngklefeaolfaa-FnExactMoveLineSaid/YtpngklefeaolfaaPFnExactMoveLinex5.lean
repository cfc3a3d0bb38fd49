-- Written by a program of this session (wip/tools/pp.sh).
import Derived.Test.YtpngklefeaolfaaPFnExactMoveLinex0
import Derived.Test.YtpngklefeaolfaaPFnExactMoveLinex4
namespace Go.Proofs.Ytpngklefeaolfaa.PFnExactMoveLine
open Go.RowKit Go.Proofs.YtpngklefeaolfaaW.PrintWords Go.Proofs.YtpngklefeaolfaaW.PrintLast Go.Proofs.YtpngklefeaolfaaW.PrintMore Go.Proofs.Ytpngklefeaolfaa.Small
open Bool renaming true → T, false → F
attribute [local go_sem] max2_int min2_int max_two min_two max_three min_three max_four min_four   -- for this text's walks alone
set_option linter.unusedVariables false
set_option linter.unusedSimpArgs false

/-! ### spec_l19AddRail: function 71, by hand -/
structure RigAt (w0 w : World) (g : Nat) (v1 v2 v3 : Value) (R : List S69) (L : List ByteArray) (B : List S40) : Prop where
 box : w.heap[g]? = some (.cells #[v1, v2, v3] 32 (0, 0))
 new : w0.heap.size ≤ g
 r1 : Kd.R k69 69 w w0.heap.size (fun _ => True) v1 R
 r2 : Kd.R Kd.string 9 w w0.heap.size (fun _ => True) v2 L
 r3 : Kd.R k40 40 w w0.heap.size (fun _ => True) v3 B
 below : Below w0.heap.size w0 w
theorem nf : ¬ (false = true) := by decide
theorem RigAt.drawn {b w w' : World} {g : Nat} {l m o : Value} {R : List S69} {L : List ByteArray} {B : List S40} (h : RigAt b w g l m o R L B) (hd : Drawn0 w w') : RigAt b w' g l m o R L B := by
 obtain ⟨n, rfl⟩ := hd; exact ⟨blk_drewN h.box n, h.new, Kd.R_drewN h.r1 n, Kd.R_drewN h.r2 n, Kd.R_drewN h.r3 n, pw_below_drewN h.below n⟩
/-- Behind an append to the lines, ahead of the store. -/
theorem RigAt.grown2 {l w w1 : World} {g : Nat} {m n o b : Value} {R : List S69} {L L' : List ByteArray} {B : List S40} (h : RigAt l w g m n o R L B) (ho : Kd.R Kd.string 9 w1 l.heap.size (fun _ => True) b L') (hb : Below l.heap.size l w1) (hg : w.grownBy w1 n.ownBlock) :
  w1.heap[g]? = some (.cells #[m, n, o] 32 (0, 0)) ∧ RigAt l (w1.setCell ⟨g, 1, none⟩ b) g m b o R L' B := by
 have hbox := blk_grown h.box hg (Kd.R_ne h.r2 h.box (by decide)); have q := Kd.R_grown (Kd.R_apart' h.r1 (Kd.R_typed h.r2) (by decide)) hg (fun k hk => hk.2); have s := Kd.R_grown (Kd.R_apart' h.r3 (Kd.R_typed h.r2) (by decide)) hg (fun k hk => hk.2); refine ⟨hbox, blk_put hbox 1 b rfl, h.new, ?_, ?_, ?_, hb.setCell h.new _⟩
 ·exact Kd.R_set (Kd.R_mono q (fun _ _ => trivial)) hbox (by decide) 1 b
 ·exact Kd.R_set ho hbox (by decide) 1 b
 ·exact Kd.R_set (Kd.R_mono s (fun _ _ => trivial)) hbox (by decide) 1 b
/-- What addLine tells, and what the lines are then. -/
def addLineN (b1 b2 : Bool) (n : Nat) : Int := if b1 = true then (if b2 = true then 5 else if n = 60 then 8 else 0) else 3
def addLineL (b1 b2 : Bool) (L : List ByteArray) (s : ByteArray) : List ByteArray := if b1 = true ∧ b2 = false ∧ L.length ≠ 60 then L ++ [s] else L
theorem RigAt.C {b w : World} {g : Nat} {l m n : Value} {R : List S69} {L : List ByteArray} {B : List S40} (h : RigAt b w g l m n R L B) : Kd.C k32 w (some ⟨g, 0, none⟩) 1 [⟨R, L, B⟩] := by
 obtain ⟨o, c1, rfl⟩ := Kd.R_slice h.r1; obtain ⟨q, c2, rfl⟩ := Kd.R_slice h.r2; obtain ⟨s, c3, rfl⟩ := Kd.R_slice h.r3; exact ro_box (t := 32) (cs := [.slice o R.length c1, .slice q L.length c2, .slice s B.length c3]) h.box (k32_mk w ⟨R, L, B⟩ (Kd.R_reads' h.r1).2.1 (Kd.R_reads' h.r1).2.2 (Kd.R_reads' h.r2).2.1 (Kd.R_reads' h.r2).2.2 (Kd.R_reads' h.r3).2.1 (Kd.R_reads' h.r3).2.2) rfl
theorem RigAt.later {b w w' : World} {g : Nat} {l m n : Value} {R : List S69} {L : List ByteArray} {B : List S40} (h : RigAt b w g l m n R L B) (hb : Below w.heap.size w w') : RigAt b w' g l m n R L B :=
 ⟨blk_below h.box hb, h.new, Kd.R_below h.r1 hb, Kd.R_below h.r2 hb, Kd.R_below h.r3 hb, below_then h.below h.below.size hb⟩
theorem RigAt.drew {b w : World} {g : Nat} {l m n : Value} {R : List S69} {L : List ByteArray} {B : List S40} (h : RigAt b w g l m n R L B) : RigAt b w.drew g l m n R L B :=
 ⟨blk_drew h.box, h.new, Kd.R_drew h.r1, Kd.R_drew h.r2, Kd.R_drew h.r3, below_drew1 h.below⟩
theorem RigAt.grown1 {l w w1 : World} {g : Nat} {m n o b : Value} {R R' : List S69} {L : List ByteArray} {B : List S40} (h : RigAt l w g m n o R L B) (ho : Kd.R k69 69 w1 l.heap.size (fun _ => True) b R') (hb : Below l.heap.size l w1) (hg : w.grownBy w1 m.ownBlock) :
  w1.heap[g]? = some (.cells #[m, n, o] 32 (0, 0)) ∧ RigAt l (w1.setCell ⟨g, 0, none⟩ b) g b n o R' L B := by
 have hbox := blk_grown h.box hg (Kd.R_ne h.r1 h.box (by decide)); have q := Kd.R_grown (Kd.R_apart' h.r2 (Kd.R_typed h.r1) (by decide)) hg (fun k hk => hk.2); have s := Kd.R_grown (Kd.R_apart' h.r3 (Kd.R_typed h.r1) (by decide)) hg (fun k hk => hk.2); refine ⟨hbox, blk_put hbox 0 b rfl, h.new, ?_, ?_, ?_, hb.setCell h.new _⟩
 ·exact Kd.R_set ho hbox (by decide) 0 b
 ·exact Kd.R_set (Kd.R_mono q (fun _ _ => trivial)) hbox (by decide) 0 b
 ·exact Kd.R_set (Kd.R_mono s (fun _ _ => trivial)) hbox (by decide) 0 b
def railSide (s : ByteArray) : Bool := decide (s.toList = [112]) || (decide (s.toList = [115]) || decide (s.toList = [109]))
/-- What addRail tells, and what the rails are then. -/
def addRailN (b1 bs b3 : Bool) (t : Int) (n : Nat) : Int := if b1 = true then (if bs = true then (if b3 = true then (if t ≥ 0 then 5 else if n = 10 then 8 else 0) else 4) else 1) else 3
def addRailR (b1 bs b3 : Bool) (t : Int) (R : List S69) (r : S69) : List S69 := if addRailN b1 bs b3 t R.length = 0 then R ++ [r] else R
theorem RigAt.grown3 {l w w1 : World} {g : Nat} {m n o b : Value} {R : List S69} {L : List ByteArray} {B B' : List S40} (h : RigAt l w g m n o R L B) (ho : Kd.R k40 40 w1 l.heap.size (fun _ => True) b B') (hb : Below l.heap.size l w1) (hg : w.grownBy w1 o.ownBlock) :
  w1.heap[g]? = some (.cells #[m, n, o] 32 (0, 0)) ∧ RigAt l (w1.setCell ⟨g, 2, none⟩ b) g m n b R L B' := by
 have hbox := blk_grown h.box hg (Kd.R_ne h.r3 h.box (by decide)); have q := Kd.R_grown (Kd.R_apart' h.r1 (Kd.R_typed h.r3) (by decide)) hg (fun k hk => hk.2); have s := Kd.R_grown (Kd.R_apart' h.r2 (Kd.R_typed h.r3) (by decide)) hg (fun k hk => hk.2); refine ⟨hbox, blk_put hbox 2 b rfl, h.new, ?_, ?_, ?_, hb.setCell h.new _⟩
 ·exact Kd.R_set (Kd.R_mono q (fun _ _ => trivial)) hbox (by decide) 2 b
 ·exact Kd.R_set (Kd.R_mono s (fun _ _ => trivial)) hbox (by decide) 2 b
 ·exact Kd.R_set ho hbox (by decide) 2 b
def addBelayN (t : Int) (b2 b3 : Bool) (o a : Int) : Int := if t < 0 then 6 else if b2 = false then 6 else if b3 = false then 4 else if o ≥ 0 then 5 else if a ≥ 0 then 7 else 0
def addBelayB (t : Int) (b2 b3 : Bool) (o a : Int) (B : List S40) (b : S40) : List S40 := if addBelayN t b2 b3 o a = 0 then B ++ [b] else B
theorem RigAt.go {n w : World} {g : Nat} {b l m : Option Addr} {c1 c2 c3 : Nat} {R : List S69} {L : List ByteArray} {B : List S40} {X : Option Addr → Nat → Option Addr → Nat → Option Addr → Nat → World → Prop} (h : RigAt n w g (.slice b R.length c1) (.slice l L.length c2) (.slice m B.length c3) R L B)
  (hT : ∀ b c1 l c2 m c3 w, Kd.C k69 w b R.length R → R.length ≤ c1 → Kd.C Kd.string w l L.length L → L.length ≤ c2 → Kd.C k40 w m B.length B → B.length ≤ c3 → X b c1 l c2 m c3 w) : X b c1 l c2 m c3 w :=
 hT b c1 l c2 m c3 w (Kd.R_reads' h.r1).2.2 (Kd.R_reads' h.r1).2.1 (Kd.R_reads' h.r2).2.2 (Kd.R_reads' h.r2).2.1 (Kd.R_reads' h.r3).2.2 (Kd.R_reads' h.r3).2.1
theorem RigAt.go2 {l w : World} {g : Nat} {m n : Value} {b : Option Addr} {c2 : Nat} {R : List S69} {L : List ByteArray} {B : List S40} {X : Option Addr → Nat → World → Prop} (h : RigAt l w g m (.slice b L.length c2) n R L B)
  (hE : ∀ A c w, Kd.C Kd.string w A L.length L → L.length ≤ c → X A c w) : X b c2 w := hE b c2 w (Kd.R_reads' h.r2).2.2 (Kd.R_reads' h.r2).2.1
theorem cz33 {o w : World} {g gb t : Nat} {l m n a b c : Value} {R : List S69} {L : List ByteArray} {B : List S40} (h : Aside0 (RigAt o w g l m n R L B)) (q : Aside0 (w.heap[gb]? = some (.cells #[a, b, c] t (0, 0)))) :
  (w.cell? ⟨g, 0, none⟩ = some l ∧ w.cell? ⟨g, 1, none⟩ = some m ∧ w.cell? ⟨g, 2, none⟩ = some n ∧ w.frozen? ⟨g, 0, none⟩ = false ∧ w.frozen? ⟨g, 1, none⟩ = false ∧ w.frozen? ⟨g, 2, none⟩ = false) ∧ (w.cell? ⟨gb, 0, none⟩ = some a ∧ w.cell? ⟨gb, 1, none⟩ = some b ∧ w.cell? ⟨gb, 2, none⟩ = some c ∧ w.frozen? ⟨gb, 0, none⟩ = false ∧ w.frozen? ⟨gb, 1, none⟩ = false ∧ w.frozen? ⟨gb, 2, none⟩ = false) :=
 ⟨cz3 ⟨h.out.box⟩, cz3 q⟩
theorem roM {w n W : World} {g : Nat} {b l m : Option Addr} {c0 c1 c2 : Nat} {R : List S69} {L : List ByteArray} {B : List S40} (BK : Aside0 (n.heap[g]? = some (.cells #[.slice b R.length c0, .slice l L.length c1, .slice m B.length c2] 32 (0, 0)))) (o : Aside0 (R.length ≤ c0)) (q : Aside0 (Kd.C k69 w b R.length R)) (h1 : Aside0 (L.length ≤ c1)) (s : Aside0 (Kd.C Kd.string w l L.length L)) (u : Aside0 (B.length ≤ c2)) (x : Aside0 (Kd.C k40 w m B.length B)) (HB : Aside0 (Below w.heap.size w n))
  (mB : n.heap[g]? = some (.cells #[.slice b R.length c0, .slice l L.length c1, .slice m B.length c2] 32 (0, 0)) → W.heap[g]? = some (.cells #[.slice b R.length c0, .slice l L.length c1, .slice m B.length c2] 32 (0, 0)) := by intro h_; refine zB ?_; exact h_)
  (mv : Below w.heap.size w n → Below w.heap.size w W := by intro h_; repeat (first | (with_reducible first | exact h_ | apply below_alloc | apply pw_below_drewN | apply below_drew1 | refine below_set ?_ (Aside0.out (by assumption))) | exact h_)) : Kd.C k32 W (some ⟨g, 0, none⟩) 1 [⟨R, L, B⟩] :=
 ro_box (t := 32) (cs := [.slice b R.length c0, .slice l L.length c1, .slice m B.length c2]) (mB BK.out) (k32_mk W ⟨R, L, B⟩ o.out (Kd.C_below q.out (mv HB.out)) h1.out (Kd.C_below s.out (mv HB.out)) u.out (Kd.C_below x.out (mv HB.out))) rfl
def addTo {α : Type} (n : Int) (l : List α) (x : α) : List α := if n = 0 then l ++ [x] else l
theorem addTo_zero {α : Type} (l : List α) (x : α) : addTo 0 l x = l ++ [x] := if_pos rfl
theorem addLineL_eq (b l : Bool) (L : List ByteArray) (s : ByteArray) : addLineL b l L s = addTo (addLineN b l L.length) L s := by
 unfold addLineL addTo addLineN
 cases b <;> cases l <;> by_cases h : L.length = 60 <;> simp [h]
theorem addLineN_lt {b l : Bool} {n : Nat} (h : addLineN b l n = 0) (hn : n ≤ 60) : n + 1 ≤ 60 := by
 unfold addLineN at h; by_cases e : n = 60
 ·cases b <;> cases l <;> simp [e] at h
 ·omega
theorem addRailN_lt {b bs l : Bool} {t : Int} {n : Nat} (h : addRailN b bs l t n = 0) (hn : n ≤ 10) : n + 1 ≤ 10 := by
 unfold addRailN at h; by_cases e : n = 10
 ·cases b <;> cases bs <;> cases l <;> by_cases ht : t ≥ 0 <;> simp [e, ht] at h
 ·omega
set_option maxHeartbeats 8000000 in
set_option maxRecDepth 100000 in
theorem spec_addRail_go (w0 w : World) (g : Nat) (v1 v2 v3 : Value) (R : List S69) (L : List ByteArray) (B : List S40) (r : S69) (b1 Z : Bool) (t : Int) (HI : RigAt w0 w g v1 v2 v3 R L B) (hl : R.length ≤ 10)
  (hN : ∀ w, Calls Try.prog 85 #[.string r.f0] w fun e w' => e = .returned (.bool b1) ∧ Drawn0 w w')
  (hW : ∀ w, Calls Try.prog 51 #[.int .i64 r.f2, .int .i64 1, .int .i64 30] w fun e w' => e = .returned (.bool Z) ∧ Drawn0 w w')
  (hR : ∀ w, Kd.C k32 w (some ⟨g, 0, none⟩) 1 [⟨R, L, B⟩] → Calls Try.prog 50 #[.pointer (some ⟨g, 0, none⟩), .string r.f0] w fun e w' => e = .returned (.int .i64 t) ∧ Drawn0 w w') :
  Calls Try.prog 71 #[.pointer (some ⟨g, 0, none⟩), .agg #[.string r.f0, .string r.f1, .int .i64 r.f2]] w fun e w' => ∃ U, e = .returned (.int .i64 (addRailN b1 (railSide r.f1) Z t R.length)) ∧ RigAt w0 w' g U v2 v3 (addRailR b1 (railSide r.f1) Z t R r) L B := by
 have l := Aside0.mk HI; have HL := Aside0.mk hl; have HN := Aside0.mk hN; have HW := Aside0.mk hW; have HR := Aside0.mk hR; clear HI hl hN hW hR; obtain ⟨nm, sd, pn⟩ := r
 cases b1 with
 | false =>
  (go_enter Try.func71, Try.ntmps71); (go_wp2_with (first | ((with_reducible refine gate_dst (N := 3) rfl ?_); refine box_event ?hg (N := 3) ?hd (cs := #[.string nm, .string sd, .int .i64 pn]) (t := 69) ?hr ?_; (case hd | hg => rfl); (case hr => go_simp; try rfl); intro gb hg w1 hbox hb; replace l := Aside0.mk (l.out.later hb); have BR := Aside0.mk hbox; clear hbox hb hg; obtain ⟨x, y, z, D, E, I⟩ := cz3 BR) | (go_at_call 85; (with_reducible refine (HN.out _).mono ?_); rintro e O ⟨rfl, hd⟩; obtain ⟨nd, rfl⟩ := hd; clear x y z D E I; replace l := Aside0.mk (l.out.drawn ⟨⟨nd, rfl⟩⟩); replace BR := Aside0.mk (blk_drewN BR.out nd); generalize World.drewN _ nd = O at l BR ⊢; obtain ⟨x, y, z, D, E, I⟩ := cz3 BR))); (go_ret); exact ⟨_, rfl, by simpa [addRailR, addRailN] using l.out⟩
 | true =>
  obtain ⟨A1, c1, rfl⟩ := Kd.R_slice l.out.r1; obtain ⟨A2, c2, rfl⟩ := Kd.R_slice l.out.r2; obtain ⟨A3, c3, rfl⟩ := Kd.R_slice l.out.r3; (show Calls Try.prog 71 #[.pointer (some ⟨g, 0, none⟩), .agg #[.string nm, .string sd, .int .i64 pn]] w fun e w' => ∃ U, e = .returned (.int .i64 (addRailN true (railSide sd) Z t R.length)) ∧ RigAt w0 w' g U _ _ (addRailR true (railSide sd) Z t R ⟨nm, sd, pn⟩) L B); by_cases hS : railSide sd = true
  ·have h3 : sd.toList = [112] ∨ (¬ sd.toList = [112] ∧ sd.toList = [115]) ∨ (¬ sd.toList = [112] ∧ ¬ sd.toList = [115] ∧ sd.toList = [109]) := by
    simp only [railSide, Bool.or_eq_true, decide_eq_true_eq] at hS; by_cases a1 : sd.toList = [112]
    ·exact .inl a1
    ·by_cases a2 : sd.toList = [115]
     ·exact .inr (.inl ⟨a1, a2⟩)
     ·exact .inr (.inr ⟨a1, a2, by rcases hS with h | h | h <;> first | exact h | exact absurd h a1 | exact absurd h a2⟩)
   rw [hS]; clear hS
   rcases h3 with q1 | ⟨q2, q1⟩ | ⟨q3, q2, q1⟩
   all_goals
    cases Z with
    | false =>
     (go_enter Try.func71, Try.ntmps71); (go_wp2_with (first | ((with_reducible refine gate_dst (N := 3) rfl ?_); refine box_event ?hg (N := 3) ?hd (cs := #[.string nm, .string sd, .int .i64 pn]) (t := 69) ?hr ?_; (case hd | hg => rfl); (case hr => go_simp; try rfl); intro gb hg w1 hbox hb; replace l := Aside0.mk (l.out.later hb); have BR := Aside0.mk hbox; clear hbox hb hg; obtain ⟨⟨m, n, o, q, s, u⟩, x, y, z, D, E, I⟩ := cz33 l BR) | (go_at_call 85; (with_reducible refine (HN.out _).mono ?_); rintro e O ⟨rfl, hd⟩; obtain ⟨nd, rfl⟩ := hd; clear x y z D E I m n o q s u; replace l := Aside0.mk (l.out.drawn ⟨⟨nd, rfl⟩⟩); replace BR := Aside0.mk (blk_drewN BR.out nd); generalize World.drewN _ nd = O at l BR ⊢; obtain ⟨⟨m, n, o, q, s, u⟩, x, y, z, D, E, I⟩ := cz33 l BR) | (go_at_call 51; (with_reducible refine (HW.out _).mono ?_); rintro e O ⟨rfl, hd⟩; obtain ⟨nd, rfl⟩ := hd; clear x y z D E I m n o q s u; replace l := Aside0.mk (l.out.drawn ⟨⟨nd, rfl⟩⟩); replace BR := Aside0.mk (blk_drewN BR.out nd); generalize World.drewN _ nd = O at l BR ⊢; obtain ⟨⟨m, n, o, q, s, u⟩, x, y, z, D, E, I⟩ := cz33 l BR) | (go_at_call 50; (with_reducible refine (HR.out _ l.out.C).mono ?_); rintro e O ⟨rfl, hd⟩; obtain ⟨nd, rfl⟩ := hd; clear x y z D E I m n o q s u; replace l := Aside0.mk (l.out.drawn ⟨⟨nd, rfl⟩⟩); replace BR := Aside0.mk (blk_drewN BR.out nd); generalize World.drewN _ nd = O at l BR ⊢; obtain ⟨⟨m, n, o, q, s, u⟩, x, y, z, D, E, I⟩ := cz33 l BR) | ((with_reducible refine gate_builtin (b := .append) (xs := #[.tmp 46, .tmp 48]) rfl ?_); at_builtin; refine Kd.R_append k69 (w0 := w0) w0.heap.size rfl (.tmp 46) (.tmp 48) 29 69 (.agg #[.string ⟨#[]⟩, .string ⟨#[]⟩, .int .i64 0]) 40 rfl Try.underlying29 info69 rfl (by decide) (by omega) (.slice A1 R.length c1) R (⟨nm, sd, pn⟩ : S69) [.string nm, .string sd, .int .i64 pn] (fun _ => True) (fun _ => False) rfl rfl ?aP (fun _ hk => hk.elim) ?aF ?aO ?aB ?aS ?aL ?_; (case aP => exact k69_mkM _ _ _ _); (case aB => exact l.out.below); (case aF => exact (fun _ _ => trivial)); (case aO => exact l.out.r1); (case aS => exact l.out.below.size); (case aL => have := HL.out; omega); intro U w6 ho hb hg hat; obtain ⟨A4, c4, rfl⟩ := Kd.R_slice ho; replace l := Aside0.mk (l.out.grown1 ho hb hg); clear x y z D E I m n o q s u BR ho hb hg hat; obtain ⟨m, n, o, q, s, u⟩ := cz3 ⟨l.out.1⟩))); (go_ret); exact ⟨_, rfl, by simpa [addRailR, addRailN] using l.out⟩
    | true =>
     by_cases ht : t ≥ 0
     ·have ad : decide (t ≥ 0) = true := decide_eq_true ht; have ae : decide (0 ≤ t) = true := decide_eq_true ht; have HT := Aside0.mk ht; clear ht; (go_enter Try.func71, Try.ntmps71); (go_wp2_with (first | ((with_reducible refine gate_dst (N := 3) rfl ?_); refine box_event ?hg (N := 3) ?hd (cs := #[.string nm, .string sd, .int .i64 pn]) (t := 69) ?hr ?_; (case hd | hg => rfl); (case hr => go_simp; try rfl); intro gb hg w1 hbox hb; replace l := Aside0.mk (l.out.later hb); have BR := Aside0.mk hbox; clear hbox hb hg; obtain ⟨⟨m, n, o, q, s, u⟩, x, y, z, D, E, I⟩ := cz33 l BR) | (go_at_call 85; (with_reducible refine (HN.out _).mono ?_); rintro e O ⟨rfl, hd⟩; obtain ⟨nd, rfl⟩ := hd; clear x y z D E I m n o q s u; replace l := Aside0.mk (l.out.drawn ⟨⟨nd, rfl⟩⟩); replace BR := Aside0.mk (blk_drewN BR.out nd); generalize World.drewN _ nd = O at l BR ⊢; obtain ⟨⟨m, n, o, q, s, u⟩, x, y, z, D, E, I⟩ := cz33 l BR) | (go_at_call 51; (with_reducible refine (HW.out _).mono ?_); rintro e O ⟨rfl, hd⟩; obtain ⟨nd, rfl⟩ := hd; clear x y z D E I m n o q s u; replace l := Aside0.mk (l.out.drawn ⟨⟨nd, rfl⟩⟩); replace BR := Aside0.mk (blk_drewN BR.out nd); generalize World.drewN _ nd = O at l BR ⊢; obtain ⟨⟨m, n, o, q, s, u⟩, x, y, z, D, E, I⟩ := cz33 l BR) | (go_at_call 50; (with_reducible refine (HR.out _ l.out.C).mono ?_); rintro e O ⟨rfl, hd⟩; obtain ⟨nd, rfl⟩ := hd; clear x y z D E I m n o q s u; replace l := Aside0.mk (l.out.drawn ⟨⟨nd, rfl⟩⟩); replace BR := Aside0.mk (blk_drewN BR.out nd); generalize World.drewN _ nd = O at l BR ⊢; obtain ⟨⟨m, n, o, q, s, u⟩, x, y, z, D, E, I⟩ := cz33 l BR) | ((with_reducible refine gate_builtin (b := .append) (xs := #[.tmp 46, .tmp 48]) rfl ?_); at_builtin; refine Kd.R_append k69 (w0 := w0) w0.heap.size rfl (.tmp 46) (.tmp 48) 29 69 (.agg #[.string ⟨#[]⟩, .string ⟨#[]⟩, .int .i64 0]) 40 rfl Try.underlying29 info69 rfl (by decide) (by omega) (.slice A1 R.length c1) R (⟨nm, sd, pn⟩ : S69) [.string nm, .string sd, .int .i64 pn] (fun _ => True) (fun _ => False) rfl rfl ?aP (fun _ hk => hk.elim) ?aF ?aO ?aB ?aS ?aL ?_; (case aP => exact k69_mkM _ _ _ _); (case aB => exact l.out.below); (case aF => exact (fun _ _ => trivial)); (case aO => exact l.out.r1); (case aS => exact l.out.below.size); (case aL => have := HL.out; omega); intro U w6 ho hb hg hat; obtain ⟨A4, c4, rfl⟩ := Kd.R_slice ho; replace l := Aside0.mk (l.out.grown1 ho hb hg); clear x y z D E I m n o q s u BR ho hb hg hat; obtain ⟨m, n, o, q, s, u⟩ := cz3 ⟨l.out.1⟩))); (go_ret); exact ⟨_, by rw [addRailN, if_pos rfl, if_pos rfl, if_pos rfl, if_pos HT.out]; rfl, by simpa [addRailR, addRailN, HT.out] using l.out⟩
     ·have ad : decide (t ≥ 0) = false := decide_eq_false ht; have ae : decide (0 ≤ t) = false := decide_eq_false ht; have HT := Aside0.mk ht; clear ht; by_cases Y : R.length = 10
      ·have ab : decide ((R.length : Int) ≥ 10) = true := decide_eq_true (by omega); have ac : decide (10 ≤ R.length) = true := decide_eq_true (by omega); have X := Aside0.mk Y; clear Y; (go_enter Try.func71, Try.ntmps71); (go_wp2_with (first | ((with_reducible refine gate_dst (N := 3) rfl ?_); refine box_event ?hg (N := 3) ?hd (cs := #[.string nm, .string sd, .int .i64 pn]) (t := 69) ?hr ?_; (case hd | hg => rfl); (case hr => go_simp; try rfl); intro gb hg w1 hbox hb; replace l := Aside0.mk (l.out.later hb); have BR := Aside0.mk hbox; clear hbox hb hg; obtain ⟨⟨m, n, o, q, s, u⟩, x, y, z, D, E, I⟩ := cz33 l BR) | (go_at_call 85; (with_reducible refine (HN.out _).mono ?_); rintro e O ⟨rfl, hd⟩; obtain ⟨nd, rfl⟩ := hd; clear x y z D E I m n o q s u; replace l := Aside0.mk (l.out.drawn ⟨⟨nd, rfl⟩⟩); replace BR := Aside0.mk (blk_drewN BR.out nd); generalize World.drewN _ nd = O at l BR ⊢; obtain ⟨⟨m, n, o, q, s, u⟩, x, y, z, D, E, I⟩ := cz33 l BR) | (go_at_call 51; (with_reducible refine (HW.out _).mono ?_); rintro e O ⟨rfl, hd⟩; obtain ⟨nd, rfl⟩ := hd; clear x y z D E I m n o q s u; replace l := Aside0.mk (l.out.drawn ⟨⟨nd, rfl⟩⟩); replace BR := Aside0.mk (blk_drewN BR.out nd); generalize World.drewN _ nd = O at l BR ⊢; obtain ⟨⟨m, n, o, q, s, u⟩, x, y, z, D, E, I⟩ := cz33 l BR) | (go_at_call 50; (with_reducible refine (HR.out _ l.out.C).mono ?_); rintro e O ⟨rfl, hd⟩; obtain ⟨nd, rfl⟩ := hd; clear x y z D E I m n o q s u; replace l := Aside0.mk (l.out.drawn ⟨⟨nd, rfl⟩⟩); replace BR := Aside0.mk (blk_drewN BR.out nd); generalize World.drewN _ nd = O at l BR ⊢; obtain ⟨⟨m, n, o, q, s, u⟩, x, y, z, D, E, I⟩ := cz33 l BR) | ((with_reducible refine gate_builtin (b := .append) (xs := #[.tmp 46, .tmp 48]) rfl ?_); at_builtin; refine Kd.R_append k69 (w0 := w0) w0.heap.size rfl (.tmp 46) (.tmp 48) 29 69 (.agg #[.string ⟨#[]⟩, .string ⟨#[]⟩, .int .i64 0]) 40 rfl Try.underlying29 info69 rfl (by decide) (by omega) (.slice A1 R.length c1) R (⟨nm, sd, pn⟩ : S69) [.string nm, .string sd, .int .i64 pn] (fun _ => True) (fun _ => False) rfl rfl ?aP (fun _ hk => hk.elim) ?aF ?aO ?aB ?aS ?aL ?_; (case aP => exact k69_mkM _ _ _ _); (case aB => exact l.out.below); (case aF => exact (fun _ _ => trivial)); (case aO => exact l.out.r1); (case aS => exact l.out.below.size); (case aL => have := HL.out; omega); intro U w6 ho hb hg hat; obtain ⟨A4, c4, rfl⟩ := Kd.R_slice ho; replace l := Aside0.mk (l.out.grown1 ho hb hg); clear x y z D E I m n o q s u BR ho hb hg hat; obtain ⟨m, n, o, q, s, u⟩ := cz3 ⟨l.out.1⟩))); (go_ret); exact ⟨_, by rw [addRailN, if_pos rfl, if_pos rfl, if_pos rfl, if_neg (show ¬ t ≥ 0 by have := HT.out; omega), if_pos X.out]; rfl, by simpa [addRailR, addRailN, show ¬ 0 ≤ t by have := HT.out; omega, X.out] using l.out⟩
      ·have ab : decide ((R.length : Int) ≥ 10) = false := decide_eq_false (by have := HL.out; omega); have ac : decide (10 ≤ R.length) = false := decide_eq_false (by have := HL.out; omega); have X := Aside0.mk Y; clear Y; (go_enter Try.func71, Try.ntmps71); (go_wp2_with (first | ((with_reducible refine gate_dst (N := 3) rfl ?_); refine box_event ?hg (N := 3) ?hd (cs := #[.string nm, .string sd, .int .i64 pn]) (t := 69) ?hr ?_; (case hd | hg => rfl); (case hr => go_simp; try rfl); intro gb hg w1 hbox hb; replace l := Aside0.mk (l.out.later hb); have BR := Aside0.mk hbox; clear hbox hb hg; obtain ⟨⟨m, n, o, q, s, u⟩, x, y, z, D, E, I⟩ := cz33 l BR) | (go_at_call 85; (with_reducible refine (HN.out _).mono ?_); rintro e O ⟨rfl, hd⟩; obtain ⟨nd, rfl⟩ := hd; clear x y z D E I m n o q s u; replace l := Aside0.mk (l.out.drawn ⟨⟨nd, rfl⟩⟩); replace BR := Aside0.mk (blk_drewN BR.out nd); generalize World.drewN _ nd = O at l BR ⊢; obtain ⟨⟨m, n, o, q, s, u⟩, x, y, z, D, E, I⟩ := cz33 l BR) | (go_at_call 51; (with_reducible refine (HW.out _).mono ?_); rintro e O ⟨rfl, hd⟩; obtain ⟨nd, rfl⟩ := hd; clear x y z D E I m n o q s u; replace l := Aside0.mk (l.out.drawn ⟨⟨nd, rfl⟩⟩); replace BR := Aside0.mk (blk_drewN BR.out nd); generalize World.drewN _ nd = O at l BR ⊢; obtain ⟨⟨m, n, o, q, s, u⟩, x, y, z, D, E, I⟩ := cz33 l BR) | (go_at_call 50; (with_reducible refine (HR.out _ l.out.C).mono ?_); rintro e O ⟨rfl, hd⟩; obtain ⟨nd, rfl⟩ := hd; clear x y z D E I m n o q s u; replace l := Aside0.mk (l.out.drawn ⟨⟨nd, rfl⟩⟩); replace BR := Aside0.mk (blk_drewN BR.out nd); generalize World.drewN _ nd = O at l BR ⊢; obtain ⟨⟨m, n, o, q, s, u⟩, x, y, z, D, E, I⟩ := cz33 l BR) | ((with_reducible refine gate_builtin (b := .append) (xs := #[.tmp 46, .tmp 48]) rfl ?_); at_builtin; refine Kd.R_append k69 (w0 := w0) w0.heap.size rfl (.tmp 46) (.tmp 48) 29 69 (.agg #[.string ⟨#[]⟩, .string ⟨#[]⟩, .int .i64 0]) 40 rfl Try.underlying29 info69 rfl (by decide) (by omega) (.slice A1 R.length c1) R (⟨nm, sd, pn⟩ : S69) [.string nm, .string sd, .int .i64 pn] (fun _ => True) (fun _ => False) rfl rfl ?aP (fun _ hk => hk.elim) ?aF ?aO ?aB ?aS ?aL ?_; (case aP => exact k69_mkM _ _ _ _); (case aB => exact l.out.below); (case aF => exact (fun _ _ => trivial)); (case aO => exact l.out.r1); (case aS => exact l.out.below.size); (case aL => have := HL.out; omega); intro U w6 ho hb hg hat; obtain ⟨A4, c4, rfl⟩ := Kd.R_slice ho; replace l := Aside0.mk (l.out.grown1 ho hb hg); clear x y z D E I m n o q s u BR ho hb hg hat; obtain ⟨m, n, o, q, s, u⟩ := cz3 ⟨l.out.1⟩))); have HA := l.out.later (below_alloc (Below.refl O.heap.size O) (.cells #[.string nm, .string sd, .int .i64 pn] 69)); have BZ := Aside0.mk HA.box; clear HA; obtain ⟨af, ag, ah, ai, aj, ak⟩ := cz3 BZ; clear BZ; go_region_law (refine Kd.R_append_step k69 (w0 := w0) w0.heap.size (by rfl) (.tmp 46) (.tmp 48) 29 69 (.agg #[.string ⟨#[]⟩, .string ⟨#[]⟩, .int .i64 0]) 40 rfl Try.underlying29 info69 rfl (by decide) (by omega) (.slice A1 R.length c1) R (⟨nm, sd, pn⟩ : S69) [.string nm, .string sd, .int .i64 pn] (fun _ => True) (fun _ => False) rfl rfl (k69_mkM _ _ _ _) (fun _ hk => hk.elim) (fun _ _ => trivial) l.out.drew.r1 l.out.drew.below l.out.drew.below.size (by have := HL.out; omega) ?_; intro U w6 ho hb hg hat; obtain ⟨A4, c4, rfl⟩ := Kd.R_slice ho; replace l := Aside0.mk (l.out.drew.grown1 ho hb hg); clear af ag ah ai aj ak x y z D E I m n o q s u BR ho hb hg hat; obtain ⟨m, n, o, q, s, u⟩ := cz3 ⟨l.out.1⟩)
       all_goals
        (go_wp2); (go_ret); exact ⟨_, by rw [addRailN, if_pos rfl, if_pos rfl, if_pos rfl, if_neg (show ¬ t ≥ 0 by have := HT.out; omega), if_neg X.out]; rfl, by simpa [addRailR, addRailN, show ¬ 0 ≤ t by have := HT.out; omega, X.out] using l.out.2⟩
  ·have h3 : ¬ sd.toList = [112] ∧ ¬ sd.toList = [115] ∧ ¬ sd.toList = [109] := by
    simp only [railSide, Bool.or_eq_true, decide_eq_true_eq, not_or] at hS; exact hS
   obtain ⟨q1, q2, q3⟩ := h3; (have aa : railSide sd = false := by simpa using hS); rw [aa]; clear hS aa; have e1 : (sd.toList == [112]) = false := beq_eq_false_iff_ne.mpr q1; have e2 : (sd.toList == [115]) = false := beq_eq_false_iff_ne.mpr q2; have e3 : (sd.toList == [109]) = false := beq_eq_false_iff_ne.mpr q3; clear q1 q2 q3; (go_enter Try.func71, Try.ntmps71); (go_wp2_with (first | ((with_reducible refine gate_dst (N := 3) rfl ?_); refine box_event ?hg (N := 3) ?hd (cs := #[.string nm, .string sd, .int .i64 pn]) (t := 69) ?hr ?_; (case hd | hg => rfl); (case hr => go_simp; try rfl); intro gb hg w1 hbox hb; replace l := Aside0.mk (l.out.later hb); have BR := Aside0.mk hbox; clear hbox hb hg; obtain ⟨⟨m, n, o, q, s, u⟩, x, y, z, D, E, I⟩ := cz33 l BR) | (go_at_call 85; (with_reducible refine (HN.out _).mono ?_); rintro e O ⟨rfl, hd⟩; obtain ⟨nd, rfl⟩ := hd; clear x y z D E I m n o q s u; replace l := Aside0.mk (l.out.drawn ⟨⟨nd, rfl⟩⟩); replace BR := Aside0.mk (blk_drewN BR.out nd); generalize World.drewN _ nd = O at l BR ⊢; obtain ⟨⟨m, n, o, q, s, u⟩, x, y, z, D, E, I⟩ := cz33 l BR) | (go_at_call 51; (with_reducible refine (HW.out _).mono ?_); rintro e O ⟨rfl, hd⟩; obtain ⟨nd, rfl⟩ := hd; clear x y z D E I m n o q s u; replace l := Aside0.mk (l.out.drawn ⟨⟨nd, rfl⟩⟩); replace BR := Aside0.mk (blk_drewN BR.out nd); generalize World.drewN _ nd = O at l BR ⊢; obtain ⟨⟨m, n, o, q, s, u⟩, x, y, z, D, E, I⟩ := cz33 l BR) | (go_at_call 50; (with_reducible refine (HR.out _ l.out.C).mono ?_); rintro e O ⟨rfl, hd⟩; obtain ⟨nd, rfl⟩ := hd; clear x y z D E I m n o q s u; replace l := Aside0.mk (l.out.drawn ⟨⟨nd, rfl⟩⟩); replace BR := Aside0.mk (blk_drewN BR.out nd); generalize World.drewN _ nd = O at l BR ⊢; obtain ⟨⟨m, n, o, q, s, u⟩, x, y, z, D, E, I⟩ := cz33 l BR) | ((with_reducible refine gate_builtin (b := .append) (xs := #[.tmp 46, .tmp 48]) rfl ?_); at_builtin; refine Kd.R_append k69 (w0 := w0) w0.heap.size rfl (.tmp 46) (.tmp 48) 29 69 (.agg #[.string ⟨#[]⟩, .string ⟨#[]⟩, .int .i64 0]) 40 rfl Try.underlying29 info69 rfl (by decide) (by omega) (.slice A1 R.length c1) R (⟨nm, sd, pn⟩ : S69) [.string nm, .string sd, .int .i64 pn] (fun _ => True) (fun _ => False) rfl rfl ?aP (fun _ hk => hk.elim) ?aF ?aO ?aB ?aS ?aL ?_; (case aP => exact k69_mkM _ _ _ _); (case aB => exact l.out.below); (case aF => exact (fun _ _ => trivial)); (case aO => exact l.out.r1); (case aS => exact l.out.below.size); (case aL => have := HL.out; omega); intro U w6 ho hb hg hat; obtain ⟨A4, c4, rfl⟩ := Kd.R_slice ho; replace l := Aside0.mk (l.out.grown1 ho hb hg); clear x y z D E I m n o q s u BR ho hb hg hat; obtain ⟨m, n, o, q, s, u⟩ := cz3 ⟨l.out.1⟩))); (go_ret); exact ⟨_, rfl, by simpa [addRailR, addRailN] using l.out⟩
def spec_l19AddRail.f (k : Nat) (l0 : List (S69)) (l1 : List ByteArray) (l2 : List (S40)) (a1 : ByteArray) (a2 : ByteArray) (a3 : Int) : Option (Int) := (spec_IsName.f k a1).bind fun t1 => ((spec_l00In.f a3 1 30).bind fun t2 => ((spec_l19Rail.f k [⟨l0, l1, l2⟩] a1).bind fun t3 => (some (addRailN t1 (railSide a2) t2 t3 l0.length))))
theorem spec_l19AddRail.mono : ∀ a0 a1 a2 a3 a4 a5 k, LeO (spec_l19AddRail.f k a0 a1 a2 a3 a4 a5) (spec_l19AddRail.f (k + 1) a0 a1 a2 a3 a4 a5) := by
 intro a0 a1 a2 a3 a4 a5 k; unfold spec_l19AddRail.f; repeat' with_reducible first | exact spec_IsName.mono _ _ | exact spec_l19Rail.mono _ _ _ | exact LeO.refl _ | exact LeO.none _ | refine LeO.ite ?_ ?_ | refine LeO.bind ?_ (fun _ => ?_)
theorem spec_l19AddRail.at (k : Nat) (b w : World) (g : Nat) (o l m : Value) (R : List S69) (L : List ByteArray) (B : List S40) (s : S69) (n : Int) (HI : RigAt b w g o l m R L B) (hl : R.length ≤ 10) (h : spec_l19AddRail.f k R L B s.f0 s.f1 s.f2 = some n) :
  (n = 0 → R.length + 1 ≤ 10) ∧ Calls Try.prog 71 #[.pointer (some ⟨g, 0, none⟩), .agg #[.string s.f0, .string s.f1, .int .i64 s.f2]] w fun e w' => ∃ q, e = .returned (.int .i64 n) ∧ RigAt b w' g q l m (addTo n R s) L B := by
 unfold spec_l19AddRail.f at h; obtain ⟨u, h1, h⟩ := Option.bind_eq_some_iff.mp h; obtain ⟨x, y, h⟩ := Option.bind_eq_some_iff.mp h; obtain ⟨t, h3, h⟩ := Option.bind_eq_some_iff.mp h; obtain rfl := Option.some.inj h; refine ⟨fun z => addRailN_lt z hl, ?_⟩; exact spec_addRail_go b w g o l m R L B s u x t HI hl (fun w => spec_IsName.calls k s.f0 u w h1) (fun w => spec_l00In.calls s.f2 1 30 x w y) (fun w hr => spec_l19Rail.calls k _ 1 [⟨R, L, B⟩] s.f0 t w hr (Nat.le_refl _) h3)

/-! ### spec_l19Line: function 64 -/
def spec_l19Line.l0 : Nat → List (S32) → ByteArray → Int → Option (Bool)
 | 0, _, _, _ => none
 | k + 1, x0, x1, x5 => if x5 < (((rd_T32 x0 0).f1).length : Int) then (if 0 ≤ x5 then (if (rdOf ByteArray.empty ((rd_T32 x0 0).f1) x5).toList = x1.toList then (some true) else (spec_l19Line.l0 k x0 x1 (wrap64 (x5 + 1)))) else (none)) else (some false)
def spec_l19Line.f (k : Nat) (l0 : List (S32)) (a1 : ByteArray) : Option (Bool) := if 0 < (l0.length : Int) then (spec_l19Line.l0 k l0 a1 0) else (none)
theorem spec_l19Line.mono_l : ∀ k, (∀ y0 y1 y2, LeO (spec_l19Line.l0 k y0 y1 y2) (spec_l19Line.l0 (k + 1) y0 y1 y2))
 | 0 => fun _ _ _ r h => by simp [spec_l19Line.l0] at h
 | k + 1 => by
  have ih0 := spec_l19Line.mono_l k
  ·intro y0 y1 y2
   unfold spec_l19Line.l0
   repeat' with_reducible first | exact ih0 _ _ _ | exact LeO.refl _ | exact LeO.none _ | refine LeO.ite ?_ ?_ | refine LeO.bind ?_ (fun _ => ?_)
theorem spec_l19Line.mono : ∀ a0 a1 k, LeO (spec_l19Line.f k a0 a1) (spec_l19Line.f (k + 1) a0 a1) := by
 intro a0 a1 k; have ih0 := spec_l19Line.mono_l k; unfold spec_l19Line.f; repeat' with_reducible first | exact ih0 _ _ _ | exact LeO.refl _ | exact LeO.none _ | refine LeO.ite ?_ ?_ | refine LeO.bind ?_ (fun _ => ?_)
set_option maxHeartbeats 8000000 in
set_option maxRecDepth 100000 in
theorem spec_l19Line.calls (k : Nat) (A0 : Option Addr) (c0 : Nat) (l0 : List (S32)) (Z : ByteArray) (r : Bool) (w : World) (ai : Kd.C k32 w A0 l0.length l0) (aj : l0.length ≤ c0) (h : spec_l19Line.f k l0 Z = some r) :
  Calls Try.prog 64 #[.pointer A0, .string Z] w fun e w' => e = .returned (.bool r) ∧ Drawn0 w w' := by
 have az := Aside0.mk ai; have aJ := Aside0.mk aj; clear ai aj; have H : (if 0 < (l0.length : Int) then (spec_l19Line.l0 k l0 Z 0) else (none)) = some r := h; clear h; by_cases c3 : 0 < (l0.length : Int)
 ·rw [if_pos c3] at H; have al : decide (0 < (l0.length : Int)) = true := decide_eq_true c3; have am : decide (0 < l0.length) = true := decide_eq_true (by omega); clear c3; have H' := Aside0.mk H; clear H; have aa : 0 ≤ (0 : Int) := (by omega); have ab : 0 < (l0.length : Int) := zd; obtain ⟨aG, aA, aB, aC, aD, aE, aF, an, l, m, n, y, z, B, D, E, I⟩ := at_T32 az.out 0 aa ab
  cases an
  have aH : (0 < l0.length) = True := eq_true (by omega); (try rw [show ((0 : Int)).toNat = 0 from rfl] at l); (try rw [show 0 * 3 = 0 from rfl] at l); (try rw [Addr.add_zero'] at l); (try rw [show ((0 : Int)).toNat = 0 from rfl] at m); (try rw [show 0 * 3 = 0 from rfl] at m); (try rw [Addr.add_zero'] at m); (try rw [show ((0 : Int)).toNat = 0 from rfl] at n); (try rw [show 0 * 3 = 0 from rfl] at n); (try rw [Addr.add_zero'] at n); have au := Aside0.mk z; have av := Aside0.mk y; clear z y; have O := Aside0.mk D; have aw := Aside0.mk B; clear D B; have ax := Aside0.mk I; have ay := Aside0.mk E; clear I E; replace aa := eq_true aa; replace ab := eq_true ab; have o := Aside0.mk l; clear l; have q := Aside0.mk m; clear m; have s := Aside0.mk n; clear n; (go_enter Try.func64, Try.ntmps64); (go_wp2); go_loopg [5] k (fun kq v5 w' => ∃ (b : Int), v5 = .int .i64 b ∧ Aside0 (spec_l19Line.l0 kq l0 Z b = some r) ∧ Aside0 (kq ≤ k) ∧ Drawn0 w w')
  case atStart => exact ⟨(0), zF, H', ⟨Nat.le_refl _⟩, zD⟩
  case round =>
   clear H'; (try clear c2); (try clear p2); (try clear q2); (try clear aK); (try clear aL); (try clear c3); (try clear al); (try clear am); (try clear l); (try clear m); (try clear n); (try clear aa); (try clear ab); obtain ⟨b, rfl, HA, ak, ⟨m1, rfl⟩⟩ := hrel
   cases gk with
   | zero => exact absurd HA.out (by simp [spec_l19Line.l0])
   | succ k1 =>
    have H := HA.out; clear HA; simp only [spec_l19Line.l0] at H; by_cases c4 : b < (((rd_T32 l0 0).f1).length : Int)
    ·rw [if_pos c4] at H; have ao : decide (b < (((rd_T32 l0 0).f1).length : Int)) = true := decide_eq_true c4; clear c4; by_cases c5 : 0 ≤ b
     ·rw [if_pos c5] at H; have aI : decide (0 ≤ b) = true := decide_eq_true c5; clear c5; by_cases c6 : (rdOf ByteArray.empty ((rd_T32 l0 0).f1) b).toList = Z.toList
      ·rw [if_pos c6] at H; have ap : ((rdOf ByteArray.empty ((rd_T32 l0 0).f1) b).toList == Z.toList) = true := beq_iff_eq.mpr c6; have ar : ((rdOf ByteArray.empty ((rd_T32 l0 0).f1) b).toList != Z.toList) = false := bne_eq_false_iff_eq.mpr c6; clear c6; obtain rfl := Option.some.inj H; simp only [Option.some.injEq, Prod.mk.injEq] at H; obtain ⟨rfl⟩ := H; (try have U := o.out); (try have X := q.out); (try have Y := s.out); (try have ad := o.out); (try have ae := q.out); (try have af := s.out); have u : 0 ≤ (b : Int) := zd; have x : b < (((rd_T32 l0 0).f1).length : Int) := zd; obtain ⟨ah, ac, ag⟩ := Kd.at_string O.out b u x
       cases ac
       replace u := eq_true u; replace x := eq_true x; (go_wp2); (go_ret); exact ⟨zF, zD⟩
      ·rw [if_neg c6] at H; have ap : ((rdOf ByteArray.empty ((rd_T32 l0 0).f1) b).toList == Z.toList) = false := beq_eq_false_iff_ne.mpr c6; have ar : ((rdOf ByteArray.empty ((rd_T32 l0 0).f1) b).toList != Z.toList) = true := bne_iff_ne.mpr c6; have H' := Aside0.mk H; clear H; (try have U := o.out); (try have X := q.out); (try have Y := s.out); (try have ad := o.out); (try have ae := q.out); (try have af := s.out); have u : 0 ≤ (b : Int) := zd; have x : b < (((rd_T32 l0 0).f1).length : Int) := zd; obtain ⟨ah, ac, ag⟩ := Kd.at_string O.out b u x
       cases ac
       replace u := eq_true u; replace x := eq_true x; (go_wp2); go_roundg k1
       case measure => have := ak.out; omega
       case rel => exact ⟨(wrap64 (b + 1)), zF, H', ⟨by have := ak.out; omega⟩, zD⟩
     ·rw [if_neg c5] at H; exact absurd H (by simp)
    ·rw [if_neg c4] at H; have ao : decide (b < (((rd_T32 l0 0).f1).length : Int)) = false := decide_eq_false c4; clear c4; obtain rfl := Option.some.inj H; simp only [Option.some.injEq, Prod.mk.injEq] at H; obtain ⟨rfl⟩ := H; (try have U := o.out); (try have X := q.out); (try have Y := s.out); (go_wp2); (go_ret); exact ⟨zF, zD⟩
 ·rw [if_neg c3] at H; exact absurd H (by simp)

/-! ### spec_l19AddLine: function 72, by hand -/
set_option maxHeartbeats 8000000 in
set_option maxRecDepth 100000 in
theorem spec_addLine_go (w0 w : World) (g : Nat) (U X Y : Value) (R : List S69) (L : List ByteArray) (B : List S40) (name : ByteArray) (z D : Bool) (HI : RigAt w0 w g U X Y R L B) (hl : L.length ≤ 60)
  (hN : ∀ w, Calls Try.prog 85 #[.string name] w fun e w' => e = .returned (.bool z) ∧ Drawn0 w w')
  (hC : ∀ w, Kd.C k32 w (some ⟨g, 0, none⟩) 1 [⟨R, L, B⟩] → Calls Try.prog 64 #[.pointer (some ⟨g, 0, none⟩), .string name] w fun e w' => e = .returned (.bool D) ∧ Drawn0 w w') :
  Calls Try.prog 72 #[.pointer (some ⟨g, 0, none⟩), .string name] w fun e w' => ∃ E, e = .returned (.int .i64 (addLineN z D L.length)) ∧ RigAt w0 w' g U E Y R (addLineL z D L name) B := by
 have l := Aside0.mk HI; have HL := Aside0.mk hl; have HN := Aside0.mk hN; have HC := Aside0.mk hC; clear HI hl hN hC
 cases z with
 | false =>
  (go_enter Try.func72, Try.ntmps72); (go_wp2_with (first | (go_at_call 85; (with_reducible refine (HN.out _).mono ?_); rintro e w1 ⟨rfl, hd⟩; replace l := Aside0.mk (l.out.drawn hd); clear hd))); (go_ret); exact ⟨X, rfl, by simpa [addLineL] using l.out⟩
 | true =>
  obtain ⟨A2, c2, rfl⟩ := Kd.R_slice l.out.r2
  cases D with
  | true =>
   (go_enter Try.func72, Try.ntmps72); (go_wp2_with (first | (go_at_call 85; (with_reducible refine (HN.out _).mono ?_); rintro e w1 ⟨rfl, hd⟩; replace l := Aside0.mk (l.out.drawn hd); clear hd; obtain ⟨m, n, o, q, s, u⟩ := cz3 ⟨l.out.box⟩) | (go_at_call 64; (with_reducible refine (HC.out _ l.out.C).mono ?_); rintro e Z ⟨rfl, hd⟩; clear m n o q s u; replace l := Aside0.mk (l.out.drawn hd); clear hd; obtain ⟨m, n, o, q, s, u⟩ := cz3 ⟨l.out.box⟩))); (go_ret); exact ⟨_, rfl, by simpa [addLineL] using l.out⟩
  | false =>
   by_cases y : L.length = 60
   ·have I : decide ((L.length : Int) ≥ 60) = true := decide_eq_true (by omega); have O : decide (60 ≤ L.length) = true := decide_eq_true (by omega); have x := Aside0.mk y; clear y; (go_enter Try.func72, Try.ntmps72); (go_wp2_with (first | (go_at_call 85; (with_reducible refine (HN.out _).mono ?_); rintro e w1 ⟨rfl, hd⟩; replace l := Aside0.mk (l.out.drawn hd); clear hd; obtain ⟨m, n, o, q, s, u⟩ := cz3 ⟨l.out.box⟩) | (go_at_call 64; (with_reducible refine (HC.out _ l.out.C).mono ?_); rintro e Z ⟨rfl, hd⟩; clear m n o q s u; replace l := Aside0.mk (l.out.drawn hd); clear hd; obtain ⟨m, n, o, q, s, u⟩ := cz3 ⟨l.out.box⟩))); (go_ret); exact ⟨_, by rw [addLineN, if_pos rfl, if_neg nf, if_pos x.out]; rfl, by simpa [addLineL, x.out] using l.out⟩
   ·have I : decide ((L.length : Int) ≥ 60) = false := decide_eq_false (by have := HL.out; omega); have O : decide (60 ≤ L.length) = false := decide_eq_false (by have := HL.out; omega); have x := Aside0.mk y; clear y; (go_enter Try.func72, Try.ntmps72); (go_wp2_with (first | (go_at_call 85; (with_reducible refine (HN.out _).mono ?_); rintro e w1 ⟨rfl, hd⟩; replace l := Aside0.mk (l.out.drawn hd); clear hd; obtain ⟨m, n, o, q, s, u⟩ := cz3 ⟨l.out.box⟩) | (go_at_call 64; (with_reducible refine (HC.out _ l.out.C).mono ?_); rintro e Z ⟨rfl, hd⟩; clear m n o q s u; replace l := Aside0.mk (l.out.drawn hd); clear hd; obtain ⟨m, n, o, q, s, u⟩ := cz3 ⟨l.out.box⟩) | ((with_reducible refine gate_builtin (b := .append) (xs := #[.tmp 24, .tmp 26]) rfl ?_); at_builtin; refine Kd.R_append Kd.string (w0 := w0) w0.heap.size rfl (.tmp 24) (.tmp 26) 23 9 (.string ⟨#[]⟩) 16 rfl Try.underlying23 info9 rfl (by decide) (by omega) (.slice A2 L.length c2) L name [.string name] (fun _ => True) (fun _ => False) rfl rfl ?aP (fun _ hk => hk.elim) ?aF ?aO ?aB ?aS ?aL ?_; (case aP => exact rfl); (case aB => exact l.out.below); (case aF => exact (fun _ _ => trivial)); (case aO => exact l.out.r2); (case aS => exact l.out.below.size); (case aL => have := HL.out; omega); intro E w3 ho hb hg hat; obtain ⟨A3, c3, rfl⟩ := Kd.R_slice ho; replace l := Aside0.mk (l.out.grown2 ho hb hg); clear ho hb hg hat m n o q s u; obtain ⟨m, n, o, q, s, u⟩ := cz3 ⟨l.out.1⟩))); (go_ret); exact ⟨_, by rw [addLineN, if_pos rfl, if_neg nf, if_neg x.out]; rfl, by simpa [addLineL, x.out] using l.out.2⟩
def spec_l19AddLine.f (k : Nat) (l0 : List (S69)) (l1 : List ByteArray) (l2 : List (S40)) (a1 : ByteArray) : Option (Int) := (spec_IsName.f k a1).bind fun t1 => ((spec_l19Line.f k [⟨l0, l1, l2⟩] a1).bind fun t2 => (some (addLineN t1 t2 l1.length)))
theorem spec_l19AddLine.mono : ∀ a0 a1 a2 a3 k, LeO (spec_l19AddLine.f k a0 a1 a2 a3) (spec_l19AddLine.f (k + 1) a0 a1 a2 a3) := by
 intro a0 a1 a2 a3 k; unfold spec_l19AddLine.f; repeat' with_reducible first | exact spec_IsName.mono _ _ | exact spec_l19Line.mono _ _ _ | exact LeO.refl _ | exact LeO.none _ | refine LeO.ite ?_ ?_ | refine LeO.bind ?_ (fun _ => ?_)
theorem spec_l19AddLine.at (k : Nat) (b w : World) (g : Nat) (l o m : Value) (R : List S69) (L : List ByteArray) (B : List S40) (s : ByteArray) (n : Int) (HI : RigAt b w g l o m R L B) (hl : L.length ≤ 60) (h : spec_l19AddLine.f k R L B s = some n) :
  (n = 0 → L.length + 1 ≤ 60) ∧ Calls Try.prog 72 #[.pointer (some ⟨g, 0, none⟩), .string s] w fun e w' => ∃ q, e = .returned (.int .i64 n) ∧ RigAt b w' g l q m R (addTo n L s) B := by
 unfold spec_l19AddLine.f at h; obtain ⟨u, h1, h⟩ := Option.bind_eq_some_iff.mp h; obtain ⟨x, y, h⟩ := Option.bind_eq_some_iff.mp h; obtain rfl := Option.some.inj h; refine ⟨fun z => addLineN_lt z hl, ?_⟩; have := spec_addLine_go b w g l o m R L B s u x HI hl (fun w => spec_IsName.calls k s u w h1) (fun w hr => spec_l19Line.calls k _ 1 [⟨R, L, B⟩] s x w hr (Nat.le_refl _) y); rw [addLineL_eq] at this; exact this

/-! ### spec_l19At: function 52 -/
def spec_l19At.l0 : Nat → List (S32) → ByteArray → Int → Int → Option (Int)
 | 0, _, _, _, _ => none
 | k + 1, x0, x1, x2, x7 => if x7 < (((rd_T32 x0 0).f2).length : Int) then (if 0 ≤ x7 then (if ((rd_T40 ((rd_T32 x0 0).f2) x7).f1).toList = x1.toList then (if ((rd_T40 ((rd_T32 x0 0).f2) x7).f2) = x2 then (some x7) else (spec_l19At.l0 k x0 x1 x2 (wrap64 (x7 + 1)))) else (spec_l19At.l0 k x0 x1 x2 (wrap64 (x7 + 1)))) else (none)) else (some (-1))
def spec_l19At.f (k : Nat) (l0 : List (S32)) (a1 : ByteArray) (a2 : Int) : Option (Int) := if 0 < (l0.length : Int) then (spec_l19At.l0 k l0 a1 a2 0) else (none)
theorem spec_l19At.mono_l : ∀ k, (∀ y0 y1 y2 y3, LeO (spec_l19At.l0 k y0 y1 y2 y3) (spec_l19At.l0 (k + 1) y0 y1 y2 y3))
 | 0 => fun _ _ _ _ r h => by simp [spec_l19At.l0] at h
 | k + 1 => by
  have ih0 := spec_l19At.mono_l k
  ·intro y0 y1 y2 y3
   unfold spec_l19At.l0
   repeat' with_reducible first | exact ih0 _ _ _ _ | exact LeO.refl _ | exact LeO.none _ | refine LeO.ite ?_ ?_ | refine LeO.bind ?_ (fun _ => ?_)
theorem spec_l19At.mono : ∀ a0 a1 a2 k, LeO (spec_l19At.f k a0 a1 a2) (spec_l19At.f (k + 1) a0 a1 a2) := by
 intro a0 a1 a2 k; have ih0 := spec_l19At.mono_l k; unfold spec_l19At.f; repeat' with_reducible first | exact ih0 _ _ _ _ | exact LeO.refl _ | exact LeO.none _ | refine LeO.ite ?_ ?_ | refine LeO.bind ?_ (fun _ => ?_)
set_option maxHeartbeats 8000000 in
set_option maxRecDepth 100000 in
theorem spec_l19At.calls (k : Nat) (A0 : Option Addr) (c0 : Nat) (l0 : List (S32)) (a1 : ByteArray) (a2 : Int) (r : Int) (w : World) (ax : Kd.C k32 w A0 l0.length l0) (ay : l0.length ≤ c0) (h : spec_l19At.f k l0 a1 a2 = some r) :
  Calls Try.prog 52 #[.pointer A0, .string a1, .int .i64 a2] w fun e w' => e = .returned (.int .i64 r) ∧ Drawn0 w w' := by
 have aM := Aside0.mk ax; have aW := Aside0.mk ay; clear ax ay; have H : (if 0 < (l0.length : Int) then (spec_l19At.l0 k l0 a1 a2 0) else (none)) = some r := h; clear h; by_cases c4 : 0 < (l0.length : Int)
 ·rw [if_pos c4] at H; have az : decide (0 < (l0.length : Int)) = true := decide_eq_true c4; have aA : decide (0 < l0.length) = true := decide_eq_true (by omega); clear c4; have H' := Aside0.mk H; clear H; have aj : 0 ≤ (0 : Int) := (by omega); have ak : 0 < (l0.length : Int) := zd; obtain ⟨aT, aN, aO, aP, aQ, aR, aS, aB, o, q, s, X, Y, Z, aa, ab, ac⟩ := at_T32 aM.out 0 aj ak
  cases aB
  have aU : (0 < l0.length) = True := eq_true (by omega); (try rw [show ((0 : Int)).toNat = 0 from rfl] at o); (try rw [show 0 * 3 = 0 from rfl] at o); (try rw [Addr.add_zero'] at o); (try rw [show ((0 : Int)).toNat = 0 from rfl] at q); (try rw [show 0 * 3 = 0 from rfl] at q); (try rw [Addr.add_zero'] at q); (try rw [show ((0 : Int)).toNat = 0 from rfl] at s); (try rw [show 0 * 3 = 0 from rfl] at s); (try rw [Addr.add_zero'] at s); have aH := Aside0.mk Y; have aI := Aside0.mk X; clear Y X; have aJ := Aside0.mk aa; have aK := Aside0.mk Z; clear aa Z; have y := Aside0.mk ac; have aL := Aside0.mk ab; clear ac ab; replace aj := eq_true aj; replace ak := eq_true ak; have l := Aside0.mk o; clear o; have m := Aside0.mk q; clear q; have n := Aside0.mk s; clear s; (go_enter Try.func52, Try.ntmps52); (go_wp2); go_loopg [7] k (fun kq v7 w' => ∃ (b : Int), v7 = .int .i64 b ∧ Aside0 (spec_l19At.l0 kq l0 a1 a2 b = some r) ∧ Aside0 (kq ≤ k) ∧ Drawn0 w w')
  case atStart => exact ⟨(0), zF, H', ⟨Nat.le_refl _⟩, zD⟩
  case round =>
   clear H'; (try clear c2); (try clear p2); (try clear q2); (try clear aX); (try clear aY); (try clear c4); (try clear az); (try clear aA); (try clear o); (try clear q); (try clear s); (try clear aj); (try clear ak); obtain ⟨b, rfl, HA, an, ⟨m1, rfl⟩⟩ := hrel
   cases gk with
   | zero => exact absurd HA.out (by simp [spec_l19At.l0])
   | succ k1 =>
    have H := HA.out; clear HA; simp only [spec_l19At.l0] at H; by_cases c5 : b < (((rd_T32 l0 0).f2).length : Int)
    ·rw [if_pos c5] at H; have aC : decide (b < (((rd_T32 l0 0).f2).length : Int)) = true := decide_eq_true c5; clear c5; by_cases c6 : 0 ≤ b
     ·rw [if_pos c6] at H; have aV : decide (0 ≤ b) = true := decide_eq_true c6; clear c6; by_cases c7 : ((rd_T40 ((rd_T32 l0 0).f2) b).f1).toList = a1.toList
      ·rw [if_pos c7] at H; have aD : (((rd_T40 ((rd_T32 l0 0).f2) b).f1).toList == a1.toList) = true := beq_iff_eq.mpr c7; have aE : (((rd_T40 ((rd_T32 l0 0).f2) b).f1).toList != a1.toList) = false := bne_eq_false_iff_eq.mpr c7; clear c7; by_cases c8 : ((rd_T40 ((rd_T32 l0 0).f2) b).f2) = a2
       ·rw [if_pos c8] at H; have aF : (((rd_T40 ((rd_T32 l0 0).f2) b).f2) == a2) = true := beq_iff_eq.mpr c8; have aG : (((rd_T40 ((rd_T32 l0 0).f2) b).f2) != a2) = false := bne_eq_false_iff_eq.mpr c8; clear c8; obtain rfl := Option.some.inj H; simp only [Option.some.injEq, Prod.mk.injEq] at H; obtain ⟨rfl⟩ := H; (try have D := l.out); (try have E := m.out); (try have I := n.out); (try have ad := l.out); (try have ae := m.out); (try have af := n.out); have u : 0 ≤ (b : Int) := zd; have x : b < (((rd_T32 l0 0).f2).length : Int) := zd; obtain ⟨O, U, ag, ah, ai⟩ := at_T40 y.out b u x
        cases U
        replace u := eq_true u; replace x := eq_true x; (try have ao := l.out); (try have ap := m.out); (try have ar := n.out); have z : 0 ≤ (b : Int) := zd; have B : b < (((rd_T32 l0 0).f2).length : Int) := zd; obtain ⟨al, am, au, av, aw⟩ := at_T40 y.out b z B; obtain rfl : O = al := (by injection am); replace z := eq_true z; replace B := eq_true B; (go_wp2); (go_ret); exact ⟨zF, zD⟩
       ·rw [if_neg c8] at H; have aF : (((rd_T40 ((rd_T32 l0 0).f2) b).f2) == a2) = false := beq_eq_false_iff_ne.mpr c8; have aG : (((rd_T40 ((rd_T32 l0 0).f2) b).f2) != a2) = true := bne_iff_ne.mpr c8; have H' := Aside0.mk H; clear H; (try have D := l.out); (try have E := m.out); (try have I := n.out); (try have ad := l.out); (try have ae := m.out); (try have af := n.out); have u : 0 ≤ (b : Int) := zd; have x : b < (((rd_T32 l0 0).f2).length : Int) := zd; obtain ⟨O, U, ag, ah, ai⟩ := at_T40 y.out b u x
        cases U
        replace u := eq_true u; replace x := eq_true x; (try have ao := l.out); (try have ap := m.out); (try have ar := n.out); have z : 0 ≤ (b : Int) := zd; have B : b < (((rd_T32 l0 0).f2).length : Int) := zd; obtain ⟨al, am, au, av, aw⟩ := at_T40 y.out b z B; obtain rfl : O = al := (by injection am); replace z := eq_true z; replace B := eq_true B; (go_wp2); go_roundg k1
        case measure => have := an.out; omega
        case rel => exact ⟨(wrap64 (b + 1)), zF, H', ⟨by have := an.out; omega⟩, zD⟩
      ·rw [if_neg c7] at H; have aD : (((rd_T40 ((rd_T32 l0 0).f2) b).f1).toList == a1.toList) = false := beq_eq_false_iff_ne.mpr c7; have aE : (((rd_T40 ((rd_T32 l0 0).f2) b).f1).toList != a1.toList) = true := bne_iff_ne.mpr c7; have H' := Aside0.mk H; clear H; (try have D := l.out); (try have E := m.out); (try have I := n.out); (try have ad := l.out); (try have ae := m.out); (try have af := n.out); have u : 0 ≤ (b : Int) := zd; have x : b < (((rd_T32 l0 0).f2).length : Int) := zd; obtain ⟨O, U, ag, ah, ai⟩ := at_T40 y.out b u x
       cases U
       replace u := eq_true u; replace x := eq_true x; (go_wp2); go_roundg k1
       case measure => have := an.out; omega
       case rel => exact ⟨(wrap64 (b + 1)), zF, H', ⟨by have := an.out; omega⟩, zD⟩
     ·rw [if_neg c6] at H; exact absurd H (by simp)
    ·rw [if_neg c5] at H; have aC : decide (b < (((rd_T32 l0 0).f2).length : Int)) = false := decide_eq_false c5; clear c5; obtain rfl := Option.some.inj H; simp only [Option.some.injEq, Prod.mk.injEq] at H; obtain ⟨rfl⟩ := H; (try have D := l.out); (try have E := m.out); (try have I := n.out); (go_wp2); (go_ret); exact ⟨zF, zD⟩
 ·rw [if_neg c4] at H; exact absurd H (by simp)

/-! ### spec_l19Of: function 58 -/
def spec_l19Of.l0 : Nat → List (S32) → ByteArray → Int → Option (Int)
 | 0, _, _, _ => none
 | k + 1, x0, x1, x5 => if x5 < (((rd_T32 x0 0).f2).length : Int) then (if 0 ≤ x5 then (if ((rd_T40 ((rd_T32 x0 0).f2) x5).f0).toList = x1.toList then (some x5) else (spec_l19Of.l0 k x0 x1 (wrap64 (x5 + 1)))) else (none)) else (some (-1))
def spec_l19Of.f (k : Nat) (l0 : List (S32)) (a1 : ByteArray) : Option (Int) := if 0 < (l0.length : Int) then (spec_l19Of.l0 k l0 a1 0) else (none)
theorem spec_l19Of.mono_l : ∀ k, (∀ y0 y1 y2, LeO (spec_l19Of.l0 k y0 y1 y2) (spec_l19Of.l0 (k + 1) y0 y1 y2))
 | 0 => fun _ _ _ r h => by simp [spec_l19Of.l0] at h
 | k + 1 => by
  have ih0 := spec_l19Of.mono_l k
  ·intro y0 y1 y2
   unfold spec_l19Of.l0
   repeat' with_reducible first | exact ih0 _ _ _ | exact LeO.refl _ | exact LeO.none _ | refine LeO.ite ?_ ?_ | refine LeO.bind ?_ (fun _ => ?_)
theorem spec_l19Of.mono : ∀ a0 a1 k, LeO (spec_l19Of.f k a0 a1) (spec_l19Of.f (k + 1) a0 a1) := by
 intro a0 a1 k; have ih0 := spec_l19Of.mono_l k; unfold spec_l19Of.f; repeat' with_reducible first | exact ih0 _ _ _ | exact LeO.refl _ | exact LeO.none _ | refine LeO.ite ?_ ?_ | refine LeO.bind ?_ (fun _ => ?_)
set_option maxHeartbeats 8000000 in
set_option maxRecDepth 100000 in
theorem spec_l19Of.calls (k : Nat) (A0 : Option Addr) (c0 : Nat) (l0 : List (S32)) (Z : ByteArray) (r : Int) (w : World) (ak : Kd.C k32 w A0 l0.length l0) (al : l0.length ≤ c0) (h : spec_l19Of.f k l0 Z = some r) :
  Calls Try.prog 58 #[.pointer A0, .string Z] w fun e w' => e = .returned (.int .i64 r) ∧ Drawn0 w w' := by
 have aB := Aside0.mk ak; have aL := Aside0.mk al; clear ak al; have H : (if 0 < (l0.length : Int) then (spec_l19Of.l0 k l0 Z 0) else (none)) = some r := h; clear h; by_cases c3 : 0 < (l0.length : Int)
 ·rw [if_pos c3] at H; have an : decide (0 < (l0.length : Int)) = true := decide_eq_true c3; have ao : decide (0 < l0.length) = true := decide_eq_true (by omega); clear c3; have H' := Aside0.mk H; clear H; have aa : 0 ≤ (0 : Int) := (by omega); have ab : 0 < (l0.length : Int) := zd; obtain ⟨aI, aC, aD, aE, aF, aG, aH, ap, l, m, n, y, z, B, D, E, I⟩ := at_T32 aB.out 0 aa ab
  cases ap
  have aJ : (0 < l0.length) = True := eq_true (by omega); (try rw [show ((0 : Int)).toNat = 0 from rfl] at l); (try rw [show 0 * 3 = 0 from rfl] at l); (try rw [Addr.add_zero'] at l); (try rw [show ((0 : Int)).toNat = 0 from rfl] at m); (try rw [show 0 * 3 = 0 from rfl] at m); (try rw [Addr.add_zero'] at m); (try rw [show ((0 : Int)).toNat = 0 from rfl] at n); (try rw [show 0 * 3 = 0 from rfl] at n); (try rw [Addr.add_zero'] at n); have aw := Aside0.mk z; have ax := Aside0.mk y; clear z y; have ay := Aside0.mk D; have az := Aside0.mk B; clear D B; have O := Aside0.mk I; have aA := Aside0.mk E; clear I E; replace aa := eq_true aa; replace ab := eq_true ab; have o := Aside0.mk l; clear l; have q := Aside0.mk m; clear m; have s := Aside0.mk n; clear n; (go_enter Try.func58, Try.ntmps58); (go_wp2); go_loopg [5] k (fun kq v5 w' => ∃ (b : Int), v5 = .int .i64 b ∧ Aside0 (spec_l19Of.l0 kq l0 Z b = some r) ∧ Aside0 (kq ≤ k) ∧ Drawn0 w w')
  case atStart => exact ⟨(0), zF, H', ⟨Nat.le_refl _⟩, zD⟩
  case round =>
   clear H'; (try clear c2); (try clear p2); (try clear q2); (try clear aM); (try clear aN); (try clear c3); (try clear an); (try clear ao); (try clear l); (try clear m); (try clear n); (try clear aa); (try clear ab); obtain ⟨b, rfl, HA, am, ⟨m1, rfl⟩⟩ := hrel
   cases gk with
   | zero => exact absurd HA.out (by simp [spec_l19Of.l0])
   | succ k1 =>
    have H := HA.out; clear HA; simp only [spec_l19Of.l0] at H; by_cases c4 : b < (((rd_T32 l0 0).f2).length : Int)
    ·rw [if_pos c4] at H; have ar : decide (b < (((rd_T32 l0 0).f2).length : Int)) = true := decide_eq_true c4; clear c4; by_cases c5 : 0 ≤ b
     ·rw [if_pos c5] at H; have aK : decide (0 ≤ b) = true := decide_eq_true c5; clear c5; by_cases c6 : ((rd_T40 ((rd_T32 l0 0).f2) b).f0).toList = Z.toList
      ·rw [if_pos c6] at H; have au : (((rd_T40 ((rd_T32 l0 0).f2) b).f0).toList == Z.toList) = true := beq_iff_eq.mpr c6; have av : (((rd_T40 ((rd_T32 l0 0).f2) b).f0).toList != Z.toList) = false := bne_eq_false_iff_eq.mpr c6; clear c6; obtain rfl := Option.some.inj H; simp only [Option.some.injEq, Prod.mk.injEq] at H; obtain ⟨rfl⟩ := H; (try have U := o.out); (try have X := q.out); (try have Y := s.out); (try have ad := o.out); (try have ae := q.out); (try have af := s.out); have u : 0 ≤ (b : Int) := zd; have x : b < (((rd_T32 l0 0).f2).length : Int) := zd; obtain ⟨aj, ac, ag, ah, ai⟩ := at_T40 O.out b u x
       cases ac
       replace u := eq_true u; replace x := eq_true x; (go_wp2); (go_ret); exact ⟨zF, zD⟩
      ·rw [if_neg c6] at H; have au : (((rd_T40 ((rd_T32 l0 0).f2) b).f0).toList == Z.toList) = false := beq_eq_false_iff_ne.mpr c6; have av : (((rd_T40 ((rd_T32 l0 0).f2) b).f0).toList != Z.toList) = true := bne_iff_ne.mpr c6; have H' := Aside0.mk H; clear H; (try have U := o.out); (try have X := q.out); (try have Y := s.out); (try have ad := o.out); (try have ae := q.out); (try have af := s.out); have u : 0 ≤ (b : Int) := zd; have x : b < (((rd_T32 l0 0).f2).length : Int) := zd; obtain ⟨aj, ac, ag, ah, ai⟩ := at_T40 O.out b u x
       cases ac
       replace u := eq_true u; replace x := eq_true x; (go_wp2); go_roundg k1
       case measure => have := am.out; omega
       case rel => exact ⟨(wrap64 (b + 1)), zF, H', ⟨by have := am.out; omega⟩, zD⟩
     ·rw [if_neg c5] at H; exact absurd H (by simp)
    ·rw [if_neg c4] at H; have ar : decide (b < (((rd_T32 l0 0).f2).length : Int)) = false := decide_eq_false c4; clear c4; obtain rfl := Option.some.inj H; simp only [Option.some.injEq, Prod.mk.injEq] at H; obtain ⟨rfl⟩ := H; (try have U := o.out); (try have X := q.out); (try have Y := s.out); (go_wp2); (go_ret); exact ⟨zF, zD⟩
 ·rw [if_neg c3] at H; exact absurd H (by simp)

end Go.Proofs.Ytpngklefeaolfaa.PFnExactMoveLine
