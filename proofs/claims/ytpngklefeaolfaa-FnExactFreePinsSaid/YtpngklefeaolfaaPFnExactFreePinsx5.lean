-- Written by a program of this session (wip/tools/pp.sh).
import Derived.Test.YtpngklefeaolfaaPFnExactFreePinsx0
import Derived.Test.YtpngklefeaolfaaPFnExactFreePinsx4
namespace Go.Proofs.Ytpngklefeaolfaa.PFnExactFreePins
open Go.RowKit Go.Proofs.YtpngklefeaolfaaW.PrintWords Go.Proofs.YtpngklefeaolfaaW.PrintLast Go.Proofs.YtpngklefeaolfaaW.PrintMore Go.Proofs.Ytpngklefeaolfaa.Small
open Bool renaming true → T, false → F
attribute [local go_sem] max2_int min2_int max_two min_two max_three min_three max_four min_four   -- for this text's walks alone
set_option linter.unusedVariables false
set_option linter.unusedSimpArgs false

/-! ### spec_l19AddRail: function 71, by hand -/
structure RigAt (w0 w : World) (g : Nat) (v1 v2 v3 : Value) (R : List S69) (L : List ByteArray) (B : List S40) : Prop where
 box : w.heap[g]? = some (.cells #[v1, v2, v3] 32 (0, 0))
 new : w0.heap.size ≤ g
 r1 : Kd.R k69 69 w w0.heap.size (fun _ => True) v1 R
 r2 : Kd.R Kd.string 9 w w0.heap.size (fun _ => True) v2 L
 r3 : Kd.R k40 40 w w0.heap.size (fun _ => True) v3 B
 below : Below w0.heap.size w0 w
theorem nf : ¬ (false = true) := by decide
theorem RigAt.drawn {w0 w w' : World} {g : Nat} {v1 v2 v3 : Value} {R : List S69} {L : List ByteArray} {B : List S40} (h : RigAt w0 w g v1 v2 v3 R L B) (hd : Drawn0 w w') : RigAt w0 w' g v1 v2 v3 R L B := by
 obtain ⟨n, rfl⟩ := hd
 exact ⟨blk_drewN h.box n, h.new, Kd.R_drewN h.r1 n, Kd.R_drewN h.r2 n, Kd.R_drewN h.r3 n, pw_below_drewN h.below n⟩
/-- Behind an append to the lines, ahead of the store. -/
theorem RigAt.grown2 {w0 w w1 : World} {g : Nat} {v1 v2 v3 v2' : Value} {R : List S69} {L L' : List ByteArray} {B : List S40} (h : RigAt w0 w g v1 v2 v3 R L B) (ho : Kd.R Kd.string 9 w1 w0.heap.size (fun _ => True) v2' L') (hb : Below w0.heap.size w0 w1) (hg : w.grownBy w1 v2.ownBlock) :
  w1.heap[g]? = some (.cells #[v1, v2, v3] 32 (0, 0)) ∧ RigAt w0 (w1.setCell ⟨g, 1, none⟩ v2') g v1 v2' v3 R L' B := by
 have hbox := blk_grown h.box hg (Kd.R_ne h.r2 h.box (by decide))
 have a1 := Kd.R_grown (Kd.R_apart' h.r1 (Kd.R_typed h.r2) (by decide)) hg (fun k hk => hk.2)
 have a3 := Kd.R_grown (Kd.R_apart' h.r3 (Kd.R_typed h.r2) (by decide)) hg (fun k hk => hk.2)
 refine ⟨hbox, blk_put hbox 1 v2' rfl, h.new, ?_, ?_, ?_, hb.setCell h.new _⟩
 ·exact Kd.R_set (Kd.R_mono a1 (fun _ _ => trivial)) hbox (by decide) 1 v2'
 ·exact Kd.R_set ho hbox (by decide) 1 v2'
 ·exact Kd.R_set (Kd.R_mono a3 (fun _ _ => trivial)) hbox (by decide) 1 v2'
/-- What addLine tells, and what the lines are then. -/
def addLineN (b1 b2 : Bool) (n : Nat) : Int := if b1 = true then (if b2 = true then 5 else if n = 60 then 8 else 0) else 3
def addLineL (b1 b2 : Bool) (L : List ByteArray) (s : ByteArray) : List ByteArray := if b1 = true ∧ b2 = false ∧ L.length ≠ 60 then L ++ [s] else L
theorem RigAt.C {w0 w : World} {g : Nat} {v1 v2 v3 : Value} {R : List S69} {L : List ByteArray} {B : List S40} (h : RigAt w0 w g v1 v2 v3 R L B) : Kd.C k32 w (some ⟨g, 0, none⟩) 1 [⟨R, L, B⟩] := by
 obtain ⟨A1, c1, rfl⟩ := Kd.R_slice h.r1
 obtain ⟨A2, c2, rfl⟩ := Kd.R_slice h.r2
 obtain ⟨A3, c3, rfl⟩ := Kd.R_slice h.r3
 exact ro_box (t := 32) (cs := [.slice A1 R.length c1, .slice A2 L.length c2, .slice A3 B.length c3]) h.box (k32_mk w ⟨R, L, B⟩ (Kd.R_reads' h.r1).2.1 (Kd.R_reads' h.r1).2.2 (Kd.R_reads' h.r2).2.1 (Kd.R_reads' h.r2).2.2 (Kd.R_reads' h.r3).2.1 (Kd.R_reads' h.r3).2.2) rfl
theorem RigAt.later {w0 w w' : World} {g : Nat} {v1 v2 v3 : Value} {R : List S69} {L : List ByteArray} {B : List S40} (h : RigAt w0 w g v1 v2 v3 R L B) (hb : Below w.heap.size w w') : RigAt w0 w' g v1 v2 v3 R L B :=
 ⟨blk_below h.box hb, h.new, Kd.R_below h.r1 hb, Kd.R_below h.r2 hb, Kd.R_below h.r3 hb, below_then h.below h.below.size hb⟩
theorem RigAt.drew {w0 w : World} {g : Nat} {v1 v2 v3 : Value} {R : List S69} {L : List ByteArray} {B : List S40} (h : RigAt w0 w g v1 v2 v3 R L B) : RigAt w0 w.drew g v1 v2 v3 R L B :=
 ⟨blk_drew h.box, h.new, Kd.R_drew h.r1, Kd.R_drew h.r2, Kd.R_drew h.r3, below_drew1 h.below⟩
theorem RigAt.grown1 {w0 w w1 : World} {g : Nat} {v1 v2 v3 v1' : Value} {R R' : List S69} {L : List ByteArray} {B : List S40} (h : RigAt w0 w g v1 v2 v3 R L B) (ho : Kd.R k69 69 w1 w0.heap.size (fun _ => True) v1' R') (hb : Below w0.heap.size w0 w1) (hg : w.grownBy w1 v1.ownBlock) :
  w1.heap[g]? = some (.cells #[v1, v2, v3] 32 (0, 0)) ∧ RigAt w0 (w1.setCell ⟨g, 0, none⟩ v1') g v1' v2 v3 R' L B := by
 have hbox := blk_grown h.box hg (Kd.R_ne h.r1 h.box (by decide))
 have a2 := Kd.R_grown (Kd.R_apart' h.r2 (Kd.R_typed h.r1) (by decide)) hg (fun k hk => hk.2)
 have a3 := Kd.R_grown (Kd.R_apart' h.r3 (Kd.R_typed h.r1) (by decide)) hg (fun k hk => hk.2)
 refine ⟨hbox, blk_put hbox 0 v1' rfl, h.new, ?_, ?_, ?_, hb.setCell h.new _⟩
 ·exact Kd.R_set ho hbox (by decide) 0 v1'
 ·exact Kd.R_set (Kd.R_mono a2 (fun _ _ => trivial)) hbox (by decide) 0 v1'
 ·exact Kd.R_set (Kd.R_mono a3 (fun _ _ => trivial)) hbox (by decide) 0 v1'
def railSide (s : ByteArray) : Bool := decide (s.toList = [112]) || (decide (s.toList = [115]) || decide (s.toList = [109]))
/-- What addRail tells, and what the rails are then. -/
def addRailN (b1 bs b3 : Bool) (t : Int) (n : Nat) : Int := if b1 = true then (if bs = true then (if b3 = true then (if t ≥ 0 then 5 else if n = 10 then 8 else 0) else 4) else 1) else 3
def addRailR (b1 bs b3 : Bool) (t : Int) (R : List S69) (r : S69) : List S69 := if addRailN b1 bs b3 t R.length = 0 then R ++ [r] else R
theorem RigAt.grown3 {w0 w w1 : World} {g : Nat} {v1 v2 v3 v3' : Value} {R : List S69} {L : List ByteArray} {B B' : List S40} (h : RigAt w0 w g v1 v2 v3 R L B) (ho : Kd.R k40 40 w1 w0.heap.size (fun _ => True) v3' B') (hb : Below w0.heap.size w0 w1) (hg : w.grownBy w1 v3.ownBlock) :
  w1.heap[g]? = some (.cells #[v1, v2, v3] 32 (0, 0)) ∧ RigAt w0 (w1.setCell ⟨g, 2, none⟩ v3') g v1 v2 v3' R L B' := by
 have hbox := blk_grown h.box hg (Kd.R_ne h.r3 h.box (by decide))
 have a1 := Kd.R_grown (Kd.R_apart' h.r1 (Kd.R_typed h.r3) (by decide)) hg (fun k hk => hk.2)
 have a2 := Kd.R_grown (Kd.R_apart' h.r2 (Kd.R_typed h.r3) (by decide)) hg (fun k hk => hk.2)
 refine ⟨hbox, blk_put hbox 2 v3' rfl, h.new, ?_, ?_, ?_, hb.setCell h.new _⟩
 ·exact Kd.R_set (Kd.R_mono a1 (fun _ _ => trivial)) hbox (by decide) 2 v3'
 ·exact Kd.R_set (Kd.R_mono a2 (fun _ _ => trivial)) hbox (by decide) 2 v3'
 ·exact Kd.R_set ho hbox (by decide) 2 v3'
def addBelayN (t : Int) (b2 b3 : Bool) (o a : Int) : Int := if t < 0 then 6 else if b2 = false then 6 else if b3 = false then 4 else if o ≥ 0 then 5 else if a ≥ 0 then 7 else 0
def addBelayB (t : Int) (b2 b3 : Bool) (o a : Int) (B : List S40) (b : S40) : List S40 := if addBelayN t b2 b3 o a = 0 then B ++ [b] else B
def addTo {α : Type} (n : Int) (l : List α) (x : α) : List α := if n = 0 then l ++ [x] else l
theorem addTo_zero {α : Type} (l : List α) (x : α) : addTo 0 l x = l ++ [x] := if_pos rfl
theorem addLineL_eq (b1 b2 : Bool) (L : List ByteArray) (s : ByteArray) : addLineL b1 b2 L s = addTo (addLineN b1 b2 L.length) L s := by
 unfold addLineL addTo addLineN
 cases b1 <;> cases b2 <;> by_cases h : L.length = 60 <;> simp [h]
theorem addLineN_lt {b1 b2 : Bool} {n : Nat} (h : addLineN b1 b2 n = 0) (hn : n ≤ 60) : n + 1 ≤ 60 := by
 unfold addLineN at h
 by_cases e : n = 60
 ·cases b1 <;> cases b2 <;> simp [e] at h
 ·omega
theorem addRailN_lt {b1 bs b3 : Bool} {t : Int} {n : Nat} (h : addRailN b1 bs b3 t n = 0) (hn : n ≤ 10) : n + 1 ≤ 10 := by
 unfold addRailN at h
 by_cases e : n = 10
 ·cases b1 <;> cases bs <;> cases b3 <;> by_cases ht : t ≥ 0 <;> simp [e, ht] at h
 ·omega
set_option maxHeartbeats 8000000 in
set_option maxRecDepth 100000 in
theorem spec_addRail_go (w0 w : World) (g : Nat) (v1 v2 v3 : Value) (R : List S69) (L : List ByteArray) (B : List S40) (r : S69) (b1 b3 : Bool) (t : Int) (HI : RigAt w0 w g v1 v2 v3 R L B) (hl : R.length ≤ 10)
  (hN : ∀ w, Calls Try.prog 85 #[.string r.f0] w fun e w' => e = .returned (.bool b1) ∧ Drawn0 w w')
  (hW : ∀ w, Calls Try.prog 51 #[.int .i64 r.f2, .int .i64 1, .int .i64 30] w fun e w' => e = .returned (.bool b3) ∧ Drawn0 w w')
  (hR : ∀ w, Kd.C k32 w (some ⟨g, 0, none⟩) 1 [⟨R, L, B⟩] → Calls Try.prog 50 #[.pointer (some ⟨g, 0, none⟩), .string r.f0] w fun e w' => e = .returned (.int .i64 t) ∧ Drawn0 w w') :
  Calls Try.prog 71 #[.pointer (some ⟨g, 0, none⟩), .agg #[.string r.f0, .string r.f1, .int .i64 r.f2]] w fun e w' => ∃ v1', e = .returned (.int .i64 (addRailN b1 (railSide r.f1) b3 t R.length)) ∧ RigAt w0 w' g v1' v2 v3 (addRailR b1 (railSide r.f1) b3 t R r) L B := by
 have HI0 := Aside0.mk HI
 have HL := Aside0.mk hl
 have HN := Aside0.mk hN
 have HW := Aside0.mk hW
 have HR := Aside0.mk hR
 clear HI hl hN hW hR
 obtain ⟨nm, sd, pn⟩ := r
 cases b1 with
 | false =>
  go_enter Try.func71, Try.ntmps71
  go_wp2_with (first | ((with_reducible refine gate_dst (N := 3) rfl ?_); refine box_event ?hg (N := 3) ?hd (cs := #[.string nm, .string sd, .int .i64 pn]) (t := 69) ?hr ?_; (case hd => rfl); (case hg => rfl); (case hr => first | (go_simp; done) | (go_simp; rfl)); intro gb hg w1 hbox hb; have n0_ := Aside0.mk (HI0.out.later hb); have n1_ := Aside0.mk hbox; clear HI0 hbox hb hg; have HI0 := n0_; have BR := n1_; clear n0_ n1_; obtain ⟨hr0, hr1, hr2, hs0, hs1, hs2⟩ := cz3 BR) | (go_at_call 85; (with_reducible refine (HN.out _).mono ?_); rintro e w2 ⟨rfl, hd⟩; obtain ⟨nd, rfl⟩ := hd; clear hr0 hr1 hr2 hs0 hs1 hs2; have n0_ := Aside0.mk (HI0.out.drawn ⟨⟨nd, rfl⟩⟩); have n1_ := Aside0.mk (blk_drewN BR.out nd); clear HI0 BR; have HI0 := n0_; have BR := n1_; clear n0_ n1_; generalize World.drewN _ nd = w2 at HI0 BR ⊢; obtain ⟨hr0, hr1, hr2, hs0, hs1, hs2⟩ := cz3 BR))
  go_ret
  exact ⟨_, rfl, by simpa [addRailR, addRailN] using HI0.out⟩
 | true =>
  obtain ⟨A1, c1, rfl⟩ := Kd.R_slice HI0.out.r1
  obtain ⟨A2, c2, rfl⟩ := Kd.R_slice HI0.out.r2
  obtain ⟨A3, c3, rfl⟩ := Kd.R_slice HI0.out.r3
  show Calls Try.prog 71 #[.pointer (some ⟨g, 0, none⟩), .agg #[.string nm, .string sd, .int .i64 pn]] w fun e w' => ∃ v1', e = .returned (.int .i64 (addRailN true (railSide sd) b3 t R.length)) ∧ RigAt w0 w' g v1' _ _ (addRailR true (railSide sd) b3 t R ⟨nm, sd, pn⟩) L B
  by_cases hS : railSide sd = true
  ·have h3 : sd.toList = [112] ∨ (¬ sd.toList = [112] ∧ sd.toList = [115]) ∨ (¬ sd.toList = [112] ∧ ¬ sd.toList = [115] ∧ sd.toList = [109]) := by
    simp only [railSide, Bool.or_eq_true, decide_eq_true_eq] at hS
    by_cases a1 : sd.toList = [112]
    ·exact .inl a1
    ·by_cases a2 : sd.toList = [115]
     ·exact .inr (.inl ⟨a1, a2⟩)
     ·exact .inr (.inr ⟨a1, a2, by rcases hS with h | h | h <;> first | exact h | exact absurd h a1 | exact absurd h a2⟩)
   rw [hS]
   clear hS
   rcases h3 with q1 | ⟨q2, q1⟩ | ⟨q3, q2, q1⟩
   all_goals
    cases b3 with
    | false =>
     go_enter Try.func71, Try.ntmps71
     go_wp2_with (first | ((with_reducible refine gate_dst (N := 3) rfl ?_); refine box_event ?hg (N := 3) ?hd (cs := #[.string nm, .string sd, .int .i64 pn]) (t := 69) ?hr ?_; (case hd => rfl); (case hg => rfl); (case hr => first | (go_simp; done) | (go_simp; rfl)); intro gb hg w1 hbox hb; have n0_ := Aside0.mk (HI0.out.later hb); have n1_ := Aside0.mk hbox; clear HI0 hbox hb hg; have HI0 := n0_; have BR := n1_; clear n0_ n1_; have BX := Aside0.mk HI0.out.box; obtain ⟨hx0, hx1, hx2, hy0, hy1, hy2⟩ := cz3 BX; clear BX; obtain ⟨hr0, hr1, hr2, hs0, hs1, hs2⟩ := cz3 BR) | (go_at_call 85; (with_reducible refine (HN.out _).mono ?_); rintro e w2 ⟨rfl, hd⟩; obtain ⟨nd, rfl⟩ := hd; clear hr0 hr1 hr2 hs0 hs1 hs2 hx0 hx1 hx2 hy0 hy1 hy2; have n0_ := Aside0.mk (HI0.out.drawn ⟨⟨nd, rfl⟩⟩); have n1_ := Aside0.mk (blk_drewN BR.out nd); clear HI0 BR; have HI0 := n0_; have BR := n1_; clear n0_ n1_; generalize World.drewN _ nd = w2 at HI0 BR ⊢; have BX := Aside0.mk HI0.out.box; obtain ⟨hx0, hx1, hx2, hy0, hy1, hy2⟩ := cz3 BX; clear BX; obtain ⟨hr0, hr1, hr2, hs0, hs1, hs2⟩ := cz3 BR) | (go_at_call 51; (with_reducible refine (HW.out _).mono ?_); rintro e w2 ⟨rfl, hd⟩; obtain ⟨nd, rfl⟩ := hd; clear hr0 hr1 hr2 hs0 hs1 hs2 hx0 hx1 hx2 hy0 hy1 hy2; have n0_ := Aside0.mk (HI0.out.drawn ⟨⟨nd, rfl⟩⟩); have n1_ := Aside0.mk (blk_drewN BR.out nd); clear HI0 BR; have HI0 := n0_; have BR := n1_; clear n0_ n1_; generalize World.drewN _ nd = w2 at HI0 BR ⊢; have BX := Aside0.mk HI0.out.box; obtain ⟨hx0, hx1, hx2, hy0, hy1, hy2⟩ := cz3 BX; clear BX; obtain ⟨hr0, hr1, hr2, hs0, hs1, hs2⟩ := cz3 BR) | (go_at_call 50; (with_reducible refine (HR.out _ HI0.out.C).mono ?_); rintro e w2 ⟨rfl, hd⟩; obtain ⟨nd, rfl⟩ := hd; clear hr0 hr1 hr2 hs0 hs1 hs2 hx0 hx1 hx2 hy0 hy1 hy2; have n0_ := Aside0.mk (HI0.out.drawn ⟨⟨nd, rfl⟩⟩); have n1_ := Aside0.mk (blk_drewN BR.out nd); clear HI0 BR; have HI0 := n0_; have BR := n1_; clear n0_ n1_; generalize World.drewN _ nd = w2 at HI0 BR ⊢; have BX := Aside0.mk HI0.out.box; obtain ⟨hx0, hx1, hx2, hy0, hy1, hy2⟩ := cz3 BX; clear BX; obtain ⟨hr0, hr1, hr2, hs0, hs1, hs2⟩ := cz3 BR) | ((with_reducible refine gate_builtin (b := .append) (xs := #[.tmp 46, .tmp 48]) rfl ?_); at_builtin; refine Kd.R_append k69 (w0 := w0) w0.heap.size rfl (.tmp 46) (.tmp 48) 29 69 (.agg #[.string ⟨#[]⟩, .string ⟨#[]⟩, .int .i64 0]) 40 rfl Try.underlying29 info69 rfl (by decide) (by omega) (.slice A1 R.length c1) R (⟨nm, sd, pn⟩ : S69) [.string nm, .string sd, .int .i64 pn] (fun _ => True) (fun _ => False) rfl rfl ?aP (fun _ hk => hk.elim) ?aF ?aO ?aB ?aS ?aL ?_; (case aP => exact k69_mkM _ _ _ _); (case aB => exact HI0.out.below); (case aF => exact (fun _ _ => trivial)); (case aO => exact HI0.out.r1); (case aS => exact HI0.out.below.size); (case aL => have := HL.out; omega); intro v1' w6 ho hb hg hat; obtain ⟨A4, c4, rfl⟩ := Kd.R_slice ho; have n0_ := Aside0.mk (HI0.out.grown1 ho hb hg); clear hr0 hr1 hr2 hs0 hs1 hs2 hx0 hx1 hx2 hy0 hy1 hy2; clear HI0 BR ho hb hg hat; have HI0 := n0_; clear n0_; have BX := Aside0.mk HI0.out.1; obtain ⟨hx0, hx1, hx2, hy0, hy1, hy2⟩ := cz3 BX; clear BX))
     go_ret
     exact ⟨_, rfl, by simpa [addRailR, addRailN] using HI0.out⟩
    | true =>
     by_cases ht : t ≥ 0
     ·have ht0 : decide (t ≥ 0) = true := decide_eq_true ht
      have ht1 : decide (0 ≤ t) = true := decide_eq_true ht
      have HT := Aside0.mk ht
      clear ht
      go_enter Try.func71, Try.ntmps71
      go_wp2_with (first | ((with_reducible refine gate_dst (N := 3) rfl ?_); refine box_event ?hg (N := 3) ?hd (cs := #[.string nm, .string sd, .int .i64 pn]) (t := 69) ?hr ?_; (case hd => rfl); (case hg => rfl); (case hr => first | (go_simp; done) | (go_simp; rfl)); intro gb hg w1 hbox hb; have n0_ := Aside0.mk (HI0.out.later hb); have n1_ := Aside0.mk hbox; clear HI0 hbox hb hg; have HI0 := n0_; have BR := n1_; clear n0_ n1_; have BX := Aside0.mk HI0.out.box; obtain ⟨hx0, hx1, hx2, hy0, hy1, hy2⟩ := cz3 BX; clear BX; obtain ⟨hr0, hr1, hr2, hs0, hs1, hs2⟩ := cz3 BR) | (go_at_call 85; (with_reducible refine (HN.out _).mono ?_); rintro e w2 ⟨rfl, hd⟩; obtain ⟨nd, rfl⟩ := hd; clear hr0 hr1 hr2 hs0 hs1 hs2 hx0 hx1 hx2 hy0 hy1 hy2; have n0_ := Aside0.mk (HI0.out.drawn ⟨⟨nd, rfl⟩⟩); have n1_ := Aside0.mk (blk_drewN BR.out nd); clear HI0 BR; have HI0 := n0_; have BR := n1_; clear n0_ n1_; generalize World.drewN _ nd = w2 at HI0 BR ⊢; have BX := Aside0.mk HI0.out.box; obtain ⟨hx0, hx1, hx2, hy0, hy1, hy2⟩ := cz3 BX; clear BX; obtain ⟨hr0, hr1, hr2, hs0, hs1, hs2⟩ := cz3 BR) | (go_at_call 51; (with_reducible refine (HW.out _).mono ?_); rintro e w2 ⟨rfl, hd⟩; obtain ⟨nd, rfl⟩ := hd; clear hr0 hr1 hr2 hs0 hs1 hs2 hx0 hx1 hx2 hy0 hy1 hy2; have n0_ := Aside0.mk (HI0.out.drawn ⟨⟨nd, rfl⟩⟩); have n1_ := Aside0.mk (blk_drewN BR.out nd); clear HI0 BR; have HI0 := n0_; have BR := n1_; clear n0_ n1_; generalize World.drewN _ nd = w2 at HI0 BR ⊢; have BX := Aside0.mk HI0.out.box; obtain ⟨hx0, hx1, hx2, hy0, hy1, hy2⟩ := cz3 BX; clear BX; obtain ⟨hr0, hr1, hr2, hs0, hs1, hs2⟩ := cz3 BR) | (go_at_call 50; (with_reducible refine (HR.out _ HI0.out.C).mono ?_); rintro e w2 ⟨rfl, hd⟩; obtain ⟨nd, rfl⟩ := hd; clear hr0 hr1 hr2 hs0 hs1 hs2 hx0 hx1 hx2 hy0 hy1 hy2; have n0_ := Aside0.mk (HI0.out.drawn ⟨⟨nd, rfl⟩⟩); have n1_ := Aside0.mk (blk_drewN BR.out nd); clear HI0 BR; have HI0 := n0_; have BR := n1_; clear n0_ n1_; generalize World.drewN _ nd = w2 at HI0 BR ⊢; have BX := Aside0.mk HI0.out.box; obtain ⟨hx0, hx1, hx2, hy0, hy1, hy2⟩ := cz3 BX; clear BX; obtain ⟨hr0, hr1, hr2, hs0, hs1, hs2⟩ := cz3 BR) | ((with_reducible refine gate_builtin (b := .append) (xs := #[.tmp 46, .tmp 48]) rfl ?_); at_builtin; refine Kd.R_append k69 (w0 := w0) w0.heap.size rfl (.tmp 46) (.tmp 48) 29 69 (.agg #[.string ⟨#[]⟩, .string ⟨#[]⟩, .int .i64 0]) 40 rfl Try.underlying29 info69 rfl (by decide) (by omega) (.slice A1 R.length c1) R (⟨nm, sd, pn⟩ : S69) [.string nm, .string sd, .int .i64 pn] (fun _ => True) (fun _ => False) rfl rfl ?aP (fun _ hk => hk.elim) ?aF ?aO ?aB ?aS ?aL ?_; (case aP => exact k69_mkM _ _ _ _); (case aB => exact HI0.out.below); (case aF => exact (fun _ _ => trivial)); (case aO => exact HI0.out.r1); (case aS => exact HI0.out.below.size); (case aL => have := HL.out; omega); intro v1' w6 ho hb hg hat; obtain ⟨A4, c4, rfl⟩ := Kd.R_slice ho; have n0_ := Aside0.mk (HI0.out.grown1 ho hb hg); clear hr0 hr1 hr2 hs0 hs1 hs2 hx0 hx1 hx2 hy0 hy1 hy2; clear HI0 BR ho hb hg hat; have HI0 := n0_; clear n0_; have BX := Aside0.mk HI0.out.1; obtain ⟨hx0, hx1, hx2, hy0, hy1, hy2⟩ := cz3 BX; clear BX))
      go_ret
      exact ⟨_, by rw [addRailN, if_pos rfl, if_pos rfl, if_pos rfl, if_pos HT.out]; rfl, by simpa [addRailR, addRailN, HT.out] using HI0.out⟩
     ·have ht0 : decide (t ≥ 0) = false := decide_eq_false ht
      have ht1 : decide (0 ≤ t) = false := decide_eq_false ht
      have HT := Aside0.mk ht
      clear ht
      by_cases h10 : R.length = 10
      ·have hb10 : decide ((R.length : Int) ≥ 10) = true := decide_eq_true (by omega)
       have hb11 : decide (10 ≤ R.length) = true := decide_eq_true (by omega)
       have H10 := Aside0.mk h10
       clear h10
       go_enter Try.func71, Try.ntmps71
       go_wp2_with (first | ((with_reducible refine gate_dst (N := 3) rfl ?_); refine box_event ?hg (N := 3) ?hd (cs := #[.string nm, .string sd, .int .i64 pn]) (t := 69) ?hr ?_; (case hd => rfl); (case hg => rfl); (case hr => first | (go_simp; done) | (go_simp; rfl)); intro gb hg w1 hbox hb; have n0_ := Aside0.mk (HI0.out.later hb); have n1_ := Aside0.mk hbox; clear HI0 hbox hb hg; have HI0 := n0_; have BR := n1_; clear n0_ n1_; have BX := Aside0.mk HI0.out.box; obtain ⟨hx0, hx1, hx2, hy0, hy1, hy2⟩ := cz3 BX; clear BX; obtain ⟨hr0, hr1, hr2, hs0, hs1, hs2⟩ := cz3 BR) | (go_at_call 85; (with_reducible refine (HN.out _).mono ?_); rintro e w2 ⟨rfl, hd⟩; obtain ⟨nd, rfl⟩ := hd; clear hr0 hr1 hr2 hs0 hs1 hs2 hx0 hx1 hx2 hy0 hy1 hy2; have n0_ := Aside0.mk (HI0.out.drawn ⟨⟨nd, rfl⟩⟩); have n1_ := Aside0.mk (blk_drewN BR.out nd); clear HI0 BR; have HI0 := n0_; have BR := n1_; clear n0_ n1_; generalize World.drewN _ nd = w2 at HI0 BR ⊢; have BX := Aside0.mk HI0.out.box; obtain ⟨hx0, hx1, hx2, hy0, hy1, hy2⟩ := cz3 BX; clear BX; obtain ⟨hr0, hr1, hr2, hs0, hs1, hs2⟩ := cz3 BR) | (go_at_call 51; (with_reducible refine (HW.out _).mono ?_); rintro e w2 ⟨rfl, hd⟩; obtain ⟨nd, rfl⟩ := hd; clear hr0 hr1 hr2 hs0 hs1 hs2 hx0 hx1 hx2 hy0 hy1 hy2; have n0_ := Aside0.mk (HI0.out.drawn ⟨⟨nd, rfl⟩⟩); have n1_ := Aside0.mk (blk_drewN BR.out nd); clear HI0 BR; have HI0 := n0_; have BR := n1_; clear n0_ n1_; generalize World.drewN _ nd = w2 at HI0 BR ⊢; have BX := Aside0.mk HI0.out.box; obtain ⟨hx0, hx1, hx2, hy0, hy1, hy2⟩ := cz3 BX; clear BX; obtain ⟨hr0, hr1, hr2, hs0, hs1, hs2⟩ := cz3 BR) | (go_at_call 50; (with_reducible refine (HR.out _ HI0.out.C).mono ?_); rintro e w2 ⟨rfl, hd⟩; obtain ⟨nd, rfl⟩ := hd; clear hr0 hr1 hr2 hs0 hs1 hs2 hx0 hx1 hx2 hy0 hy1 hy2; have n0_ := Aside0.mk (HI0.out.drawn ⟨⟨nd, rfl⟩⟩); have n1_ := Aside0.mk (blk_drewN BR.out nd); clear HI0 BR; have HI0 := n0_; have BR := n1_; clear n0_ n1_; generalize World.drewN _ nd = w2 at HI0 BR ⊢; have BX := Aside0.mk HI0.out.box; obtain ⟨hx0, hx1, hx2, hy0, hy1, hy2⟩ := cz3 BX; clear BX; obtain ⟨hr0, hr1, hr2, hs0, hs1, hs2⟩ := cz3 BR) | ((with_reducible refine gate_builtin (b := .append) (xs := #[.tmp 46, .tmp 48]) rfl ?_); at_builtin; refine Kd.R_append k69 (w0 := w0) w0.heap.size rfl (.tmp 46) (.tmp 48) 29 69 (.agg #[.string ⟨#[]⟩, .string ⟨#[]⟩, .int .i64 0]) 40 rfl Try.underlying29 info69 rfl (by decide) (by omega) (.slice A1 R.length c1) R (⟨nm, sd, pn⟩ : S69) [.string nm, .string sd, .int .i64 pn] (fun _ => True) (fun _ => False) rfl rfl ?aP (fun _ hk => hk.elim) ?aF ?aO ?aB ?aS ?aL ?_; (case aP => exact k69_mkM _ _ _ _); (case aB => exact HI0.out.below); (case aF => exact (fun _ _ => trivial)); (case aO => exact HI0.out.r1); (case aS => exact HI0.out.below.size); (case aL => have := HL.out; omega); intro v1' w6 ho hb hg hat; obtain ⟨A4, c4, rfl⟩ := Kd.R_slice ho; have n0_ := Aside0.mk (HI0.out.grown1 ho hb hg); clear hr0 hr1 hr2 hs0 hs1 hs2 hx0 hx1 hx2 hy0 hy1 hy2; clear HI0 BR ho hb hg hat; have HI0 := n0_; clear n0_; have BX := Aside0.mk HI0.out.1; obtain ⟨hx0, hx1, hx2, hy0, hy1, hy2⟩ := cz3 BX; clear BX))
       go_ret
       exact ⟨_, by rw [addRailN, if_pos rfl, if_pos rfl, if_pos rfl, if_neg (show ¬ t ≥ 0 by have := HT.out; omega), if_pos H10.out]; rfl, by simpa [addRailR, addRailN, show ¬ 0 ≤ t by have := HT.out; omega, H10.out] using HI0.out⟩
      ·have hb10 : decide ((R.length : Int) ≥ 10) = false := decide_eq_false (by have := HL.out; omega)
       have hb11 : decide (10 ≤ R.length) = false := decide_eq_false (by have := HL.out; omega)
       have H10 := Aside0.mk h10
       clear h10
       go_enter Try.func71, Try.ntmps71
       go_wp2_with (first | ((with_reducible refine gate_dst (N := 3) rfl ?_); refine box_event ?hg (N := 3) ?hd (cs := #[.string nm, .string sd, .int .i64 pn]) (t := 69) ?hr ?_; (case hd => rfl); (case hg => rfl); (case hr => first | (go_simp; done) | (go_simp; rfl)); intro gb hg w1 hbox hb; have n0_ := Aside0.mk (HI0.out.later hb); have n1_ := Aside0.mk hbox; clear HI0 hbox hb hg; have HI0 := n0_; have BR := n1_; clear n0_ n1_; have BX := Aside0.mk HI0.out.box; obtain ⟨hx0, hx1, hx2, hy0, hy1, hy2⟩ := cz3 BX; clear BX; obtain ⟨hr0, hr1, hr2, hs0, hs1, hs2⟩ := cz3 BR) | (go_at_call 85; (with_reducible refine (HN.out _).mono ?_); rintro e w2 ⟨rfl, hd⟩; obtain ⟨nd, rfl⟩ := hd; clear hr0 hr1 hr2 hs0 hs1 hs2 hx0 hx1 hx2 hy0 hy1 hy2; have n0_ := Aside0.mk (HI0.out.drawn ⟨⟨nd, rfl⟩⟩); have n1_ := Aside0.mk (blk_drewN BR.out nd); clear HI0 BR; have HI0 := n0_; have BR := n1_; clear n0_ n1_; generalize World.drewN _ nd = w2 at HI0 BR ⊢; have BX := Aside0.mk HI0.out.box; obtain ⟨hx0, hx1, hx2, hy0, hy1, hy2⟩ := cz3 BX; clear BX; obtain ⟨hr0, hr1, hr2, hs0, hs1, hs2⟩ := cz3 BR) | (go_at_call 51; (with_reducible refine (HW.out _).mono ?_); rintro e w2 ⟨rfl, hd⟩; obtain ⟨nd, rfl⟩ := hd; clear hr0 hr1 hr2 hs0 hs1 hs2 hx0 hx1 hx2 hy0 hy1 hy2; have n0_ := Aside0.mk (HI0.out.drawn ⟨⟨nd, rfl⟩⟩); have n1_ := Aside0.mk (blk_drewN BR.out nd); clear HI0 BR; have HI0 := n0_; have BR := n1_; clear n0_ n1_; generalize World.drewN _ nd = w2 at HI0 BR ⊢; have BX := Aside0.mk HI0.out.box; obtain ⟨hx0, hx1, hx2, hy0, hy1, hy2⟩ := cz3 BX; clear BX; obtain ⟨hr0, hr1, hr2, hs0, hs1, hs2⟩ := cz3 BR) | (go_at_call 50; (with_reducible refine (HR.out _ HI0.out.C).mono ?_); rintro e w2 ⟨rfl, hd⟩; obtain ⟨nd, rfl⟩ := hd; clear hr0 hr1 hr2 hs0 hs1 hs2 hx0 hx1 hx2 hy0 hy1 hy2; have n0_ := Aside0.mk (HI0.out.drawn ⟨⟨nd, rfl⟩⟩); have n1_ := Aside0.mk (blk_drewN BR.out nd); clear HI0 BR; have HI0 := n0_; have BR := n1_; clear n0_ n1_; generalize World.drewN _ nd = w2 at HI0 BR ⊢; have BX := Aside0.mk HI0.out.box; obtain ⟨hx0, hx1, hx2, hy0, hy1, hy2⟩ := cz3 BX; clear BX; obtain ⟨hr0, hr1, hr2, hs0, hs1, hs2⟩ := cz3 BR) | ((with_reducible refine gate_builtin (b := .append) (xs := #[.tmp 46, .tmp 48]) rfl ?_); at_builtin; refine Kd.R_append k69 (w0 := w0) w0.heap.size rfl (.tmp 46) (.tmp 48) 29 69 (.agg #[.string ⟨#[]⟩, .string ⟨#[]⟩, .int .i64 0]) 40 rfl Try.underlying29 info69 rfl (by decide) (by omega) (.slice A1 R.length c1) R (⟨nm, sd, pn⟩ : S69) [.string nm, .string sd, .int .i64 pn] (fun _ => True) (fun _ => False) rfl rfl ?aP (fun _ hk => hk.elim) ?aF ?aO ?aB ?aS ?aL ?_; (case aP => exact k69_mkM _ _ _ _); (case aB => exact HI0.out.below); (case aF => exact (fun _ _ => trivial)); (case aO => exact HI0.out.r1); (case aS => exact HI0.out.below.size); (case aL => have := HL.out; omega); intro v1' w6 ho hb hg hat; obtain ⟨A4, c4, rfl⟩ := Kd.R_slice ho; have n0_ := Aside0.mk (HI0.out.grown1 ho hb hg); clear hr0 hr1 hr2 hs0 hs1 hs2 hx0 hx1 hx2 hy0 hy1 hy2; clear HI0 BR ho hb hg hat; have HI0 := n0_; clear n0_; have BX := Aside0.mk HI0.out.1; obtain ⟨hx0, hx1, hx2, hy0, hy1, hy2⟩ := cz3 BX; clear BX))
       have HA := HI0.out.later (below_alloc (Below.refl w2.heap.size w2) (.cells #[.string nm, .string sd, .int .i64 pn] 69))
       have BZ := Aside0.mk HA.box
       clear HA
       obtain ⟨hz0, hz1, hz2, hw0, hw1, hw2⟩ := cz3 BZ
       clear BZ
       go_region_law (refine Kd.R_append_step k69 (w0 := w0) w0.heap.size (by rfl) (.tmp 46) (.tmp 48) 29 69 (.agg #[.string ⟨#[]⟩, .string ⟨#[]⟩, .int .i64 0]) 40 rfl Try.underlying29 info69 rfl (by decide) (by omega) (.slice A1 R.length c1) R (⟨nm, sd, pn⟩ : S69) [.string nm, .string sd, .int .i64 pn] (fun _ => True) (fun _ => False) rfl rfl (k69_mkM _ _ _ _) (fun _ hk => hk.elim) (fun _ _ => trivial) HI0.out.drew.r1 HI0.out.drew.below HI0.out.drew.below.size (by have := HL.out; omega) ?_; intro v1' w6 ho hb hg hat; obtain ⟨A4, c4, rfl⟩ := Kd.R_slice ho; have n0_ := Aside0.mk (HI0.out.drew.grown1 ho hb hg); clear hz0 hz1 hz2 hw0 hw1 hw2 hr0 hr1 hr2 hs0 hs1 hs2 hx0 hx1 hx2 hy0 hy1 hy2; clear HI0 BR ho hb hg hat; have HI0 := n0_; clear n0_; have BX := Aside0.mk HI0.out.1; obtain ⟨hx0, hx1, hx2, hy0, hy1, hy2⟩ := cz3 BX; clear BX)
       all_goals
        go_wp2
        go_ret
        exact ⟨_, by rw [addRailN, if_pos rfl, if_pos rfl, if_pos rfl, if_neg (show ¬ t ≥ 0 by have := HT.out; omega), if_neg H10.out]; rfl, by simpa [addRailR, addRailN, show ¬ 0 ≤ t by have := HT.out; omega, H10.out] using HI0.out.2⟩
  ·have h3 : ¬ sd.toList = [112] ∧ ¬ sd.toList = [115] ∧ ¬ sd.toList = [109] := by
    simp only [railSide, Bool.or_eq_true, decide_eq_true_eq, not_or] at hS
    exact hS
   obtain ⟨q1, q2, q3⟩ := h3
   have hS2 : railSide sd = false := by simpa using hS
   rw [hS2]
   clear hS hS2
   have e1 : (sd.toList == [112]) = false := beq_eq_false_iff_ne.mpr q1
   have e2 : (sd.toList == [115]) = false := beq_eq_false_iff_ne.mpr q2
   have e3 : (sd.toList == [109]) = false := beq_eq_false_iff_ne.mpr q3
   clear q1 q2 q3
   go_enter Try.func71, Try.ntmps71
   go_wp2_with (first | ((with_reducible refine gate_dst (N := 3) rfl ?_); refine box_event ?hg (N := 3) ?hd (cs := #[.string nm, .string sd, .int .i64 pn]) (t := 69) ?hr ?_; (case hd => rfl); (case hg => rfl); (case hr => first | (go_simp; done) | (go_simp; rfl)); intro gb hg w1 hbox hb; have n0_ := Aside0.mk (HI0.out.later hb); have n1_ := Aside0.mk hbox; clear HI0 hbox hb hg; have HI0 := n0_; have BR := n1_; clear n0_ n1_; have BX := Aside0.mk HI0.out.box; obtain ⟨hx0, hx1, hx2, hy0, hy1, hy2⟩ := cz3 BX; clear BX; obtain ⟨hr0, hr1, hr2, hs0, hs1, hs2⟩ := cz3 BR) | (go_at_call 85; (with_reducible refine (HN.out _).mono ?_); rintro e w2 ⟨rfl, hd⟩; obtain ⟨nd, rfl⟩ := hd; clear hr0 hr1 hr2 hs0 hs1 hs2 hx0 hx1 hx2 hy0 hy1 hy2; have n0_ := Aside0.mk (HI0.out.drawn ⟨⟨nd, rfl⟩⟩); have n1_ := Aside0.mk (blk_drewN BR.out nd); clear HI0 BR; have HI0 := n0_; have BR := n1_; clear n0_ n1_; generalize World.drewN _ nd = w2 at HI0 BR ⊢; have BX := Aside0.mk HI0.out.box; obtain ⟨hx0, hx1, hx2, hy0, hy1, hy2⟩ := cz3 BX; clear BX; obtain ⟨hr0, hr1, hr2, hs0, hs1, hs2⟩ := cz3 BR) | (go_at_call 51; (with_reducible refine (HW.out _).mono ?_); rintro e w2 ⟨rfl, hd⟩; obtain ⟨nd, rfl⟩ := hd; clear hr0 hr1 hr2 hs0 hs1 hs2 hx0 hx1 hx2 hy0 hy1 hy2; have n0_ := Aside0.mk (HI0.out.drawn ⟨⟨nd, rfl⟩⟩); have n1_ := Aside0.mk (blk_drewN BR.out nd); clear HI0 BR; have HI0 := n0_; have BR := n1_; clear n0_ n1_; generalize World.drewN _ nd = w2 at HI0 BR ⊢; have BX := Aside0.mk HI0.out.box; obtain ⟨hx0, hx1, hx2, hy0, hy1, hy2⟩ := cz3 BX; clear BX; obtain ⟨hr0, hr1, hr2, hs0, hs1, hs2⟩ := cz3 BR) | (go_at_call 50; (with_reducible refine (HR.out _ HI0.out.C).mono ?_); rintro e w2 ⟨rfl, hd⟩; obtain ⟨nd, rfl⟩ := hd; clear hr0 hr1 hr2 hs0 hs1 hs2 hx0 hx1 hx2 hy0 hy1 hy2; have n0_ := Aside0.mk (HI0.out.drawn ⟨⟨nd, rfl⟩⟩); have n1_ := Aside0.mk (blk_drewN BR.out nd); clear HI0 BR; have HI0 := n0_; have BR := n1_; clear n0_ n1_; generalize World.drewN _ nd = w2 at HI0 BR ⊢; have BX := Aside0.mk HI0.out.box; obtain ⟨hx0, hx1, hx2, hy0, hy1, hy2⟩ := cz3 BX; clear BX; obtain ⟨hr0, hr1, hr2, hs0, hs1, hs2⟩ := cz3 BR) | ((with_reducible refine gate_builtin (b := .append) (xs := #[.tmp 46, .tmp 48]) rfl ?_); at_builtin; refine Kd.R_append k69 (w0 := w0) w0.heap.size rfl (.tmp 46) (.tmp 48) 29 69 (.agg #[.string ⟨#[]⟩, .string ⟨#[]⟩, .int .i64 0]) 40 rfl Try.underlying29 info69 rfl (by decide) (by omega) (.slice A1 R.length c1) R (⟨nm, sd, pn⟩ : S69) [.string nm, .string sd, .int .i64 pn] (fun _ => True) (fun _ => False) rfl rfl ?aP (fun _ hk => hk.elim) ?aF ?aO ?aB ?aS ?aL ?_; (case aP => exact k69_mkM _ _ _ _); (case aB => exact HI0.out.below); (case aF => exact (fun _ _ => trivial)); (case aO => exact HI0.out.r1); (case aS => exact HI0.out.below.size); (case aL => have := HL.out; omega); intro v1' w6 ho hb hg hat; obtain ⟨A4, c4, rfl⟩ := Kd.R_slice ho; have n0_ := Aside0.mk (HI0.out.grown1 ho hb hg); clear hr0 hr1 hr2 hs0 hs1 hs2 hx0 hx1 hx2 hy0 hy1 hy2; clear HI0 BR ho hb hg hat; have HI0 := n0_; clear n0_; have BX := Aside0.mk HI0.out.1; obtain ⟨hx0, hx1, hx2, hy0, hy1, hy2⟩ := cz3 BX; clear BX))
   go_ret
   exact ⟨_, rfl, by simpa [addRailR, addRailN] using HI0.out⟩
def spec_l19AddRail.f (k : Nat) (l0 : List (S69)) (l1 : List ByteArray) (l2 : List (S40)) (a1 : ByteArray) (a2 : ByteArray) (a3 : Int) : Option (Int) := (spec_IsName.f k a1).bind fun t1 => ((spec_l00In.f a3 1 30).bind fun t2 => ((spec_l19Rail.f k [⟨l0, l1, l2⟩] a1).bind fun t3 => (some (addRailN t1 (railSide a2) t2 t3 l0.length))))
theorem spec_l19AddRail.mono : ∀ a0 a1 a2 a3 a4 a5 k, LeO (spec_l19AddRail.f k a0 a1 a2 a3 a4 a5) (spec_l19AddRail.f (k + 1) a0 a1 a2 a3 a4 a5) := by
 intro a0 a1 a2 a3 a4 a5 k
 unfold spec_l19AddRail.f
 repeat' first
  | (with_reducible exact spec_IsName.mono _ _)
  | (with_reducible exact spec_l19Rail.mono _ _ _)
  | (with_reducible exact LeO.refl _)
  | (with_reducible exact LeO.none _)
  | (with_reducible refine LeO.ite ?_ ?_)
  | (with_reducible refine LeO.bind ?_ (fun _ => ?_))
theorem spec_l19AddRail.at (k : Nat) (w0 w : World) (g : Nat) (v1 v2 v3 : Value) (R : List S69) (L : List ByteArray) (B : List S40) (s : S69) (n : Int) (HI : RigAt w0 w g v1 v2 v3 R L B) (hl : R.length ≤ 10) (h : spec_l19AddRail.f k R L B s.f0 s.f1 s.f2 = some n) :
  (n = 0 → R.length + 1 ≤ 10) ∧ Calls Try.prog 71 #[.pointer (some ⟨g, 0, none⟩), .agg #[.string s.f0, .string s.f1, .int .i64 s.f2]] w fun e w' => ∃ v1', e = .returned (.int .i64 n) ∧ RigAt w0 w' g v1' v2 v3 (addTo n R s) L B := by
 unfold spec_l19AddRail.f at h
 obtain ⟨b1, h1, h⟩ := Option.bind_eq_some_iff.mp h
 obtain ⟨b3, h2, h⟩ := Option.bind_eq_some_iff.mp h
 obtain ⟨t, h3, h⟩ := Option.bind_eq_some_iff.mp h
 obtain rfl := Option.some.inj h
 refine ⟨fun h0 => addRailN_lt h0 hl, ?_⟩
 exact spec_addRail_go w0 w g v1 v2 v3 R L B s b1 b3 t HI hl (fun w => spec_IsName.calls k s.f0 b1 w h1) (fun w => spec_l00In.calls s.f2 1 30 b3 w h2) (fun w hr => spec_l19Rail.calls k _ 1 [⟨R, L, B⟩] s.f0 t w hr (Nat.le_refl _) h3)

/-! ### spec_l19Line: function 64 -/
def spec_l19Line.l0 : Nat → List (S32) → ByteArray → Int → Option (Bool)
 | 0, _, _, _ => none
 | k + 1, x0, x1, x5 => if x5 < (((rd_T32 x0 0).f1).length : Int) then (if 0 ≤ x5 then (if (rdOf ByteArray.empty ((rd_T32 x0 0).f1) x5).toList = x1.toList then (some true) else (spec_l19Line.l0 k x0 x1 (wrap64 (x5 + 1)))) else (none)) else (some false)
def spec_l19Line.f (k : Nat) (l0 : List (S32)) (a1 : ByteArray) : Option (Bool) := if 0 < (l0.length : Int) then (spec_l19Line.l0 k l0 a1 0) else (none)
theorem spec_l19Line.mono_l : ∀ k, (∀ y0 y1 y2, LeO (spec_l19Line.l0 k y0 y1 y2) (spec_l19Line.l0 (k + 1) y0 y1 y2))
 | 0 => fun _ _ _ r h => by simp [spec_l19Line.l0] at h
 | k + 1 => by
  have ih0 := spec_l19Line.mono_l k
  ·intro y0 y1 y2
   unfold spec_l19Line.l0
   repeat' first
   | (with_reducible exact ih0 _ _ _)
   | (with_reducible exact LeO.refl _)
   | (with_reducible exact LeO.none _)
   | (with_reducible refine LeO.ite ?_ ?_)
   | (with_reducible refine LeO.bind ?_ (fun _ => ?_))
   | exact ih0 _ _ _
   | exact LeO.none _
   | refine LeO.ite ?_ ?_
   | refine LeO.bind ?_ (fun _ => ?_)
theorem spec_l19Line.mono : ∀ a0 a1 k, LeO (spec_l19Line.f k a0 a1) (spec_l19Line.f (k + 1) a0 a1) := by
 intro a0 a1 k
 have ih0 := spec_l19Line.mono_l k
 unfold spec_l19Line.f
 repeat' first
   | (with_reducible exact ih0 _ _ _)
   | (with_reducible exact LeO.refl _)
   | (with_reducible exact LeO.none _)
   | (with_reducible refine LeO.ite ?_ ?_)
   | (with_reducible refine LeO.bind ?_ (fun _ => ?_))
   | exact ih0 _ _ _
   | exact LeO.none _
   | refine LeO.ite ?_ ?_
   | refine LeO.bind ?_ (fun _ => ?_)
set_option maxHeartbeats 8000000 in
set_option maxRecDepth 100000 in
theorem spec_l19Line.calls (k : Nat) (A0 : Option Addr) (c0 : Nat) (l0 : List (S32)) (a1 : ByteArray) (r : Bool) (w : World) (hr0 : Kd.C k32 w A0 l0.length l0) (hc0 : l0.length ≤ c0) (h : spec_l19Line.f k l0 a1 = some r) :
  Calls Try.prog 64 #[.pointer A0, .string a1] w fun e w' => e = .returned (.bool r) ∧ Drawn0 w w' := by
 have HR0 := Aside0.mk hr0
 have HC0 := Aside0.mk hc0
 clear hr0 hc0
 have H : (if 0 < (l0.length : Int) then (spec_l19Line.l0 k l0 a1 0) else (none)) = some r := h
 clear h
 by_cases c3 : 0 < (l0.length : Int)
 ·rw [if_pos c3] at H
  have c3b0 : decide (0 < (l0.length : Int)) = true := decide_eq_true c3
  have c3b1 : decide (0 < l0.length) = true := decide_eq_true (by omega)
  clear c3
  have H' := Aside0.mk H
  clear H
  have p207 : 0 ≤ (0 : Int) := (by omega)
  have q207 : 0 < (l0.length : Int) := of_decide_eq_true (by first | (with_reducible assumption) | assumption)
  obtain ⟨ad207, A207_0, c207_0, A207_1, c207_1, A207_2, c207_2, e207, hx207_0, hx207_1, hx207_2, hl207_0, hi207_0, hl207_1, hi207_1, hl207_2, hi207_2⟩ := at_T32 HR0.out 0 p207 q207
  cases e207
  have qi207 : (0 < l0.length) = True := eq_true (by omega)
  (try rw [show ((0 : Int)).toNat = 0 from rfl] at hx207_0)
  (try rw [show 0 * 3 = 0 from rfl] at hx207_0)
  (try rw [Addr.add_zero'] at hx207_0)
  (try rw [show ((0 : Int)).toNat = 0 from rfl] at hx207_1)
  (try rw [show 0 * 3 = 0 from rfl] at hx207_1)
  (try rw [Addr.add_zero'] at hx207_1)
  (try rw [show ((0 : Int)).toNat = 0 from rfl] at hx207_2)
  (try rw [show 0 * 3 = 0 from rfl] at hx207_2)
  (try rw [Addr.add_zero'] at hx207_2)
  have HR207_0 := Aside0.mk hi207_0
  have HC207_0 := Aside0.mk hl207_0
  clear hi207_0 hl207_0
  have HR207_1 := Aside0.mk hi207_1
  have HC207_1 := Aside0.mk hl207_1
  clear hi207_1 hl207_1
  have HR207_2 := Aside0.mk hi207_2
  have HC207_2 := Aside0.mk hl207_2
  clear hi207_2 hl207_2
  replace p207 := eq_true p207
  replace q207 := eq_true q207
  have RX207_0 := Aside0.mk hx207_0
  clear hx207_0
  have RX207_1 := Aside0.mk hx207_1
  clear hx207_1
  have RX207_2 := Aside0.mk hx207_2
  clear hx207_2
  go_enter Try.func64, Try.ntmps64
  go_wp2
  go_loopg [5] k (fun kq v5 w' => ∃ (x5_1 : Int), v5 = .int .i64 x5_1 ∧ Aside0 (spec_l19Line.l0 kq l0 a1 x5_1 = some r) ∧ Aside0 (kq ≤ k) ∧ Drawn0 w w')
  case atStart => exact ⟨(0), (by first | rfl | (simp; done) | (simp [*]; done)), H', ⟨Nat.le_refl _⟩, by repeat (first | exact Drawn0.refl _ | apply Drawn0.step)⟩
  case round =>
   clear H'
   try clear c2
   try clear p2
   try clear q2
   try clear hx2
   try clear qi2
   try clear c3
   try clear c3b0
   try clear c3b1
   try clear hx207_0
   try clear hx207_1
   try clear hx207_2
   try clear p207
   try clear q207
   obtain ⟨x5_1, rfl, HA, HK1, ⟨m1, rfl⟩⟩ := hrel
   cases gk with
   | zero => exact absurd HA.out (by simp [spec_l19Line.l0])
   | succ k1 =>
    have H := HA.out
    clear HA
    simp only [spec_l19Line.l0] at H
    by_cases c4 : x5_1 < (((rd_T32 l0 0).f1).length : Int)
    ·rw [if_pos c4] at H
     have c4b0 : decide (x5_1 < (((rd_T32 l0 0).f1).length : Int)) = true := decide_eq_true c4
     clear c4
     by_cases c5 : 0 ≤ x5_1
     ·rw [if_pos c5] at H
      have c5b0 : decide (0 ≤ x5_1) = true := decide_eq_true c5
      clear c5
      by_cases c6 : (rdOf ByteArray.empty ((rd_T32 l0 0).f1) x5_1).toList = a1.toList
      ·rw [if_pos c6] at H
       have c6b0 : ((rdOf ByteArray.empty ((rd_T32 l0 0).f1) x5_1).toList == a1.toList) = true := beq_iff_eq.mpr c6
       have c6b1 : ((rdOf ByteArray.empty ((rd_T32 l0 0).f1) x5_1).toList != a1.toList) = false := bne_eq_false_iff_eq.mpr c6
       clear c6
       obtain rfl := Option.some.inj H
       simp only [Option.some.injEq, Prod.mk.injEq] at H
       obtain ⟨rfl⟩ := H
       (try have hx208_0 := RX207_0.out)
       (try have hx208_1 := RX207_1.out)
       (try have hx208_2 := RX207_2.out)
       (try have hx209_0 := RX207_0.out)
       (try have hx209_1 := RX207_1.out)
       (try have hx209_2 := RX207_2.out)
       have p210 : 0 ≤ (x5_1 : Int) := of_decide_eq_true (by first | (with_reducible assumption) | assumption)
       have q210 : x5_1 < (((rd_T32 l0 0).f1).length : Int) := of_decide_eq_true (by first | (with_reducible assumption) | assumption)
       obtain ⟨ad210, e210, hx210_0⟩ := Kd.at_string HR207_1.out x5_1 p210 q210
       cases e210
       replace p210 := eq_true p210
       replace q210 := eq_true q210
       go_wp2
       go_ret
       exact ⟨by first | rfl | (simp; done) | (simp [*]; done), by repeat (first | exact Drawn0.refl _ | apply Drawn0.step)⟩
      ·rw [if_neg c6] at H
       have c6b0 : ((rdOf ByteArray.empty ((rd_T32 l0 0).f1) x5_1).toList == a1.toList) = false := beq_eq_false_iff_ne.mpr c6
       have c6b1 : ((rdOf ByteArray.empty ((rd_T32 l0 0).f1) x5_1).toList != a1.toList) = true := bne_iff_ne.mpr c6
       have H' := Aside0.mk H
       clear H
       (try have hx208_0 := RX207_0.out)
       (try have hx208_1 := RX207_1.out)
       (try have hx208_2 := RX207_2.out)
       (try have hx209_0 := RX207_0.out)
       (try have hx209_1 := RX207_1.out)
       (try have hx209_2 := RX207_2.out)
       have p210 : 0 ≤ (x5_1 : Int) := of_decide_eq_true (by first | (with_reducible assumption) | assumption)
       have q210 : x5_1 < (((rd_T32 l0 0).f1).length : Int) := of_decide_eq_true (by first | (with_reducible assumption) | assumption)
       obtain ⟨ad210, e210, hx210_0⟩ := Kd.at_string HR207_1.out x5_1 p210 q210
       cases e210
       replace p210 := eq_true p210
       replace q210 := eq_true q210
       go_wp2
       go_roundg k1
       case measure => have := HK1.out; omega
       case rel => exact ⟨(wrap64 (x5_1 + 1)), (by first | rfl | (simp; done) | (simp [*]; done)), H', ⟨by have := HK1.out; omega⟩, by repeat (first | exact Drawn0.refl _ | apply Drawn0.step)⟩
     ·rw [if_neg c5] at H
      exact absurd H (by simp)
    ·rw [if_neg c4] at H
     have c4b0 : decide (x5_1 < (((rd_T32 l0 0).f1).length : Int)) = false := decide_eq_false c4
     clear c4
     obtain rfl := Option.some.inj H
     simp only [Option.some.injEq, Prod.mk.injEq] at H
     obtain ⟨rfl⟩ := H
     (try have hx208_0 := RX207_0.out)
     (try have hx208_1 := RX207_1.out)
     (try have hx208_2 := RX207_2.out)
     go_wp2
     go_ret
     exact ⟨by first | rfl | (simp; done) | (simp [*]; done), by repeat (first | exact Drawn0.refl _ | apply Drawn0.step)⟩
 ·rw [if_neg c3] at H
  exact absurd H (by simp)

/-! ### spec_l19AddLine: function 72, by hand -/
set_option maxHeartbeats 8000000 in
set_option maxRecDepth 100000 in
theorem spec_addLine_go (w0 w : World) (g : Nat) (v1 v2 v3 : Value) (R : List S69) (L : List ByteArray) (B : List S40) (name : ByteArray) (b1 b2 : Bool) (HI : RigAt w0 w g v1 v2 v3 R L B) (hl : L.length ≤ 60)
  (hN : ∀ w, Calls Try.prog 85 #[.string name] w fun e w' => e = .returned (.bool b1) ∧ Drawn0 w w')
  (hC : ∀ w, Kd.C k32 w (some ⟨g, 0, none⟩) 1 [⟨R, L, B⟩] → Calls Try.prog 64 #[.pointer (some ⟨g, 0, none⟩), .string name] w fun e w' => e = .returned (.bool b2) ∧ Drawn0 w w') :
  Calls Try.prog 72 #[.pointer (some ⟨g, 0, none⟩), .string name] w fun e w' => ∃ v2', e = .returned (.int .i64 (addLineN b1 b2 L.length)) ∧ RigAt w0 w' g v1 v2' v3 R (addLineL b1 b2 L name) B := by
 have HI0 := Aside0.mk HI
 have HL := Aside0.mk hl
 have HN := Aside0.mk hN
 have HC := Aside0.mk hC
 clear HI hl hN hC
 cases b1 with
 | false =>
  go_enter Try.func72, Try.ntmps72
  go_wp2_with (first | (go_at_call 85; (with_reducible refine (HN.out _).mono ?_); rintro e w1 ⟨rfl, hd⟩; have n0_ := Aside0.mk (HI0.out.drawn hd); clear HI0 hd; have HI0 := n0_; clear n0_))
  go_ret
  exact ⟨v2, rfl, by simpa [addLineL] using HI0.out⟩
 | true =>
  obtain ⟨A2, c2, rfl⟩ := Kd.R_slice HI0.out.r2
  cases b2 with
  | true =>
   go_enter Try.func72, Try.ntmps72
   go_wp2_with (first | (go_at_call 85; (with_reducible refine (HN.out _).mono ?_); rintro e w1 ⟨rfl, hd⟩; have n0_ := Aside0.mk (HI0.out.drawn hd); clear HI0 hd; have HI0 := n0_; clear n0_; have BX := Aside0.mk HI0.out.box; obtain ⟨hx0, hx1, hx2, hy0, hy1, hy2⟩ := cz3 BX; clear BX) | (go_at_call 64; (with_reducible refine (HC.out _ HI0.out.C).mono ?_); rintro e w2 ⟨rfl, hd⟩; clear hx0 hx1 hx2 hy0 hy1 hy2; have n0_ := Aside0.mk (HI0.out.drawn hd); clear HI0 hd; have HI0 := n0_; clear n0_; have BX := Aside0.mk HI0.out.box; obtain ⟨hx0, hx1, hx2, hy0, hy1, hy2⟩ := cz3 BX; clear BX))
   go_ret
   exact ⟨_, rfl, by simpa [addLineL] using HI0.out⟩
  | false =>
   by_cases h60 : L.length = 60
   ·have hb60 : decide ((L.length : Int) ≥ 60) = true := decide_eq_true (by omega)
    have hb61 : decide (60 ≤ L.length) = true := decide_eq_true (by omega)
    have H60 := Aside0.mk h60
    clear h60
    go_enter Try.func72, Try.ntmps72
    go_wp2_with (first | (go_at_call 85; (with_reducible refine (HN.out _).mono ?_); rintro e w1 ⟨rfl, hd⟩; have n0_ := Aside0.mk (HI0.out.drawn hd); clear HI0 hd; have HI0 := n0_; clear n0_; have BX := Aside0.mk HI0.out.box; obtain ⟨hx0, hx1, hx2, hy0, hy1, hy2⟩ := cz3 BX; clear BX) | (go_at_call 64; (with_reducible refine (HC.out _ HI0.out.C).mono ?_); rintro e w2 ⟨rfl, hd⟩; clear hx0 hx1 hx2 hy0 hy1 hy2; have n0_ := Aside0.mk (HI0.out.drawn hd); clear HI0 hd; have HI0 := n0_; clear n0_; have BX := Aside0.mk HI0.out.box; obtain ⟨hx0, hx1, hx2, hy0, hy1, hy2⟩ := cz3 BX; clear BX))
    go_ret
    exact ⟨_, by rw [addLineN, if_pos rfl, if_neg nf, if_pos H60.out]; rfl, by simpa [addLineL, H60.out] using HI0.out⟩
   ·have hb60 : decide ((L.length : Int) ≥ 60) = false := decide_eq_false (by have := HL.out; omega)
    have hb61 : decide (60 ≤ L.length) = false := decide_eq_false (by have := HL.out; omega)
    have H60 := Aside0.mk h60
    clear h60
    go_enter Try.func72, Try.ntmps72
    go_wp2_with (first | (go_at_call 85; (with_reducible refine (HN.out _).mono ?_); rintro e w1 ⟨rfl, hd⟩; have n0_ := Aside0.mk (HI0.out.drawn hd); clear HI0 hd; have HI0 := n0_; clear n0_; have BX := Aside0.mk HI0.out.box; obtain ⟨hx0, hx1, hx2, hy0, hy1, hy2⟩ := cz3 BX; clear BX) | (go_at_call 64; (with_reducible refine (HC.out _ HI0.out.C).mono ?_); rintro e w2 ⟨rfl, hd⟩; clear hx0 hx1 hx2 hy0 hy1 hy2; have n0_ := Aside0.mk (HI0.out.drawn hd); clear HI0 hd; have HI0 := n0_; clear n0_; have BX := Aside0.mk HI0.out.box; obtain ⟨hx0, hx1, hx2, hy0, hy1, hy2⟩ := cz3 BX; clear BX) | ((with_reducible refine gate_builtin (b := .append) (xs := #[.tmp 24, .tmp 26]) rfl ?_); at_builtin; refine Kd.R_append Kd.string (w0 := w0) w0.heap.size rfl (.tmp 24) (.tmp 26) 23 9 (.string ⟨#[]⟩) 16 rfl Try.underlying23 info9 rfl (by decide) (by omega) (.slice A2 L.length c2) L name [.string name] (fun _ => True) (fun _ => False) rfl rfl ?aP (fun _ hk => hk.elim) ?aF ?aO ?aB ?aS ?aL ?_; (case aP => exact rfl); (case aB => exact HI0.out.below); (case aF => exact (fun _ _ => trivial)); (case aO => exact HI0.out.r2); (case aS => exact HI0.out.below.size); (case aL => have := HL.out; omega); intro v2' w3 ho hb hg hat; obtain ⟨A3, c3, rfl⟩ := Kd.R_slice ho; have n0_ := Aside0.mk (HI0.out.grown2 ho hb hg); clear HI0 ho hb hg hat hx0 hx1 hx2 hy0 hy1 hy2; have HI0 := n0_; clear n0_; have BX := Aside0.mk HI0.out.1; obtain ⟨hx0, hx1, hx2, hy0, hy1, hy2⟩ := cz3 BX; clear BX))
    go_ret
    exact ⟨_, by rw [addLineN, if_pos rfl, if_neg nf, if_neg H60.out]; rfl, by simpa [addLineL, H60.out] using HI0.out.2⟩
def spec_l19AddLine.f (k : Nat) (l0 : List (S69)) (l1 : List ByteArray) (l2 : List (S40)) (a1 : ByteArray) : Option (Int) := (spec_IsName.f k a1).bind fun t1 => ((spec_l19Line.f k [⟨l0, l1, l2⟩] a1).bind fun t2 => (some (addLineN t1 t2 l1.length)))
theorem spec_l19AddLine.mono : ∀ a0 a1 a2 a3 k, LeO (spec_l19AddLine.f k a0 a1 a2 a3) (spec_l19AddLine.f (k + 1) a0 a1 a2 a3) := by
 intro a0 a1 a2 a3 k
 unfold spec_l19AddLine.f
 repeat' first
  | (with_reducible exact spec_IsName.mono _ _)
  | (with_reducible exact spec_l19Line.mono _ _ _)
  | (with_reducible exact LeO.refl _)
  | (with_reducible exact LeO.none _)
  | (with_reducible refine LeO.ite ?_ ?_)
  | (with_reducible refine LeO.bind ?_ (fun _ => ?_))
theorem spec_l19AddLine.at (k : Nat) (w0 w : World) (g : Nat) (v1 v2 v3 : Value) (R : List S69) (L : List ByteArray) (B : List S40) (s : ByteArray) (n : Int) (HI : RigAt w0 w g v1 v2 v3 R L B) (hl : L.length ≤ 60) (h : spec_l19AddLine.f k R L B s = some n) :
  (n = 0 → L.length + 1 ≤ 60) ∧ Calls Try.prog 72 #[.pointer (some ⟨g, 0, none⟩), .string s] w fun e w' => ∃ v2', e = .returned (.int .i64 n) ∧ RigAt w0 w' g v1 v2' v3 R (addTo n L s) B := by
 unfold spec_l19AddLine.f at h
 obtain ⟨b1, h1, h⟩ := Option.bind_eq_some_iff.mp h
 obtain ⟨b2, h2, h⟩ := Option.bind_eq_some_iff.mp h
 obtain rfl := Option.some.inj h
 refine ⟨fun h0 => addLineN_lt h0 hl, ?_⟩
 have := spec_addLine_go w0 w g v1 v2 v3 R L B s b1 b2 HI hl (fun w => spec_IsName.calls k s b1 w h1) (fun w hr => spec_l19Line.calls k _ 1 [⟨R, L, B⟩] s b2 w hr (Nat.le_refl _) h2)
 rw [addLineL_eq] at this
 exact this

/-! ### spec_l19At: function 52 -/
def spec_l19At.l0 : Nat → List (S32) → ByteArray → Int → Int → Option (Int)
 | 0, _, _, _, _ => none
 | k + 1, x0, x1, x2, x7 => if x7 < (((rd_T32 x0 0).f2).length : Int) then (if 0 ≤ x7 then (if ((rd_T40 ((rd_T32 x0 0).f2) x7).f1).toList = x1.toList then (if ((rd_T40 ((rd_T32 x0 0).f2) x7).f2) = x2 then (some x7) else (spec_l19At.l0 k x0 x1 x2 (wrap64 (x7 + 1)))) else (spec_l19At.l0 k x0 x1 x2 (wrap64 (x7 + 1)))) else (none)) else (some (-1))
def spec_l19At.f (k : Nat) (l0 : List (S32)) (a1 : ByteArray) (a2 : Int) : Option (Int) := if 0 < (l0.length : Int) then (spec_l19At.l0 k l0 a1 a2 0) else (none)
theorem spec_l19At.mono_l : ∀ k, (∀ y0 y1 y2 y3, LeO (spec_l19At.l0 k y0 y1 y2 y3) (spec_l19At.l0 (k + 1) y0 y1 y2 y3))
 | 0 => fun _ _ _ _ r h => by simp [spec_l19At.l0] at h
 | k + 1 => by
  have ih0 := spec_l19At.mono_l k
  ·intro y0 y1 y2 y3
   unfold spec_l19At.l0
   repeat' first
   | (with_reducible exact ih0 _ _ _ _)
   | (with_reducible exact LeO.refl _)
   | (with_reducible exact LeO.none _)
   | (with_reducible refine LeO.ite ?_ ?_)
   | (with_reducible refine LeO.bind ?_ (fun _ => ?_))
   | exact ih0 _ _ _ _
   | exact LeO.none _
   | refine LeO.ite ?_ ?_
   | refine LeO.bind ?_ (fun _ => ?_)
theorem spec_l19At.mono : ∀ a0 a1 a2 k, LeO (spec_l19At.f k a0 a1 a2) (spec_l19At.f (k + 1) a0 a1 a2) := by
 intro a0 a1 a2 k
 have ih0 := spec_l19At.mono_l k
 unfold spec_l19At.f
 repeat' first
   | (with_reducible exact ih0 _ _ _ _)
   | (with_reducible exact LeO.refl _)
   | (with_reducible exact LeO.none _)
   | (with_reducible refine LeO.ite ?_ ?_)
   | (with_reducible refine LeO.bind ?_ (fun _ => ?_))
   | exact ih0 _ _ _ _
   | exact LeO.none _
   | refine LeO.ite ?_ ?_
   | refine LeO.bind ?_ (fun _ => ?_)
set_option maxHeartbeats 8000000 in
set_option maxRecDepth 100000 in
theorem spec_l19At.calls (k : Nat) (A0 : Option Addr) (c0 : Nat) (l0 : List (S32)) (a1 : ByteArray) (a2 : Int) (r : Int) (w : World) (hr0 : Kd.C k32 w A0 l0.length l0) (hc0 : l0.length ≤ c0) (h : spec_l19At.f k l0 a1 a2 = some r) :
  Calls Try.prog 52 #[.pointer A0, .string a1, .int .i64 a2] w fun e w' => e = .returned (.int .i64 r) ∧ Drawn0 w w' := by
 have HR0 := Aside0.mk hr0
 have HC0 := Aside0.mk hc0
 clear hr0 hc0
 have H : (if 0 < (l0.length : Int) then (spec_l19At.l0 k l0 a1 a2 0) else (none)) = some r := h
 clear h
 by_cases c4 : 0 < (l0.length : Int)
 ·rw [if_pos c4] at H
  have c4b0 : decide (0 < (l0.length : Int)) = true := decide_eq_true c4
  have c4b1 : decide (0 < l0.length) = true := decide_eq_true (by omega)
  clear c4
  have H' := Aside0.mk H
  clear H
  have p211 : 0 ≤ (0 : Int) := (by omega)
  have q211 : 0 < (l0.length : Int) := of_decide_eq_true (by first | (with_reducible assumption) | assumption)
  obtain ⟨ad211, A211_0, c211_0, A211_1, c211_1, A211_2, c211_2, e211, hx211_0, hx211_1, hx211_2, hl211_0, hi211_0, hl211_1, hi211_1, hl211_2, hi211_2⟩ := at_T32 HR0.out 0 p211 q211
  cases e211
  have qi211 : (0 < l0.length) = True := eq_true (by omega)
  (try rw [show ((0 : Int)).toNat = 0 from rfl] at hx211_0)
  (try rw [show 0 * 3 = 0 from rfl] at hx211_0)
  (try rw [Addr.add_zero'] at hx211_0)
  (try rw [show ((0 : Int)).toNat = 0 from rfl] at hx211_1)
  (try rw [show 0 * 3 = 0 from rfl] at hx211_1)
  (try rw [Addr.add_zero'] at hx211_1)
  (try rw [show ((0 : Int)).toNat = 0 from rfl] at hx211_2)
  (try rw [show 0 * 3 = 0 from rfl] at hx211_2)
  (try rw [Addr.add_zero'] at hx211_2)
  have HR211_0 := Aside0.mk hi211_0
  have HC211_0 := Aside0.mk hl211_0
  clear hi211_0 hl211_0
  have HR211_1 := Aside0.mk hi211_1
  have HC211_1 := Aside0.mk hl211_1
  clear hi211_1 hl211_1
  have HR211_2 := Aside0.mk hi211_2
  have HC211_2 := Aside0.mk hl211_2
  clear hi211_2 hl211_2
  replace p211 := eq_true p211
  replace q211 := eq_true q211
  have RX211_0 := Aside0.mk hx211_0
  clear hx211_0
  have RX211_1 := Aside0.mk hx211_1
  clear hx211_1
  have RX211_2 := Aside0.mk hx211_2
  clear hx211_2
  go_enter Try.func52, Try.ntmps52
  go_wp2
  go_loopg [7] k (fun kq v7 w' => ∃ (x7_1 : Int), v7 = .int .i64 x7_1 ∧ Aside0 (spec_l19At.l0 kq l0 a1 a2 x7_1 = some r) ∧ Aside0 (kq ≤ k) ∧ Drawn0 w w')
  case atStart => exact ⟨(0), (by first | rfl | (simp; done) | (simp [*]; done)), H', ⟨Nat.le_refl _⟩, by repeat (first | exact Drawn0.refl _ | apply Drawn0.step)⟩
  case round =>
   clear H'
   try clear c2
   try clear p2
   try clear q2
   try clear hx2
   try clear qi2
   try clear c4
   try clear c4b0
   try clear c4b1
   try clear hx211_0
   try clear hx211_1
   try clear hx211_2
   try clear p211
   try clear q211
   obtain ⟨x7_1, rfl, HA, HK1, ⟨m1, rfl⟩⟩ := hrel
   cases gk with
   | zero => exact absurd HA.out (by simp [spec_l19At.l0])
   | succ k1 =>
    have H := HA.out
    clear HA
    simp only [spec_l19At.l0] at H
    by_cases c5 : x7_1 < (((rd_T32 l0 0).f2).length : Int)
    ·rw [if_pos c5] at H
     have c5b0 : decide (x7_1 < (((rd_T32 l0 0).f2).length : Int)) = true := decide_eq_true c5
     clear c5
     by_cases c6 : 0 ≤ x7_1
     ·rw [if_pos c6] at H
      have c6b0 : decide (0 ≤ x7_1) = true := decide_eq_true c6
      clear c6
      by_cases c7 : ((rd_T40 ((rd_T32 l0 0).f2) x7_1).f1).toList = a1.toList
      ·rw [if_pos c7] at H
       have c7b0 : (((rd_T40 ((rd_T32 l0 0).f2) x7_1).f1).toList == a1.toList) = true := beq_iff_eq.mpr c7
       have c7b1 : (((rd_T40 ((rd_T32 l0 0).f2) x7_1).f1).toList != a1.toList) = false := bne_eq_false_iff_eq.mpr c7
       clear c7
       by_cases c8 : ((rd_T40 ((rd_T32 l0 0).f2) x7_1).f2) = a2
       ·rw [if_pos c8] at H
        have c8b0 : (((rd_T40 ((rd_T32 l0 0).f2) x7_1).f2) == a2) = true := beq_iff_eq.mpr c8
        have c8b1 : (((rd_T40 ((rd_T32 l0 0).f2) x7_1).f2) != a2) = false := bne_eq_false_iff_eq.mpr c8
        clear c8
        obtain rfl := Option.some.inj H
        simp only [Option.some.injEq, Prod.mk.injEq] at H
        obtain ⟨rfl⟩ := H
        (try have hx212_0 := RX211_0.out)
        (try have hx212_1 := RX211_1.out)
        (try have hx212_2 := RX211_2.out)
        (try have hx213_0 := RX211_0.out)
        (try have hx213_1 := RX211_1.out)
        (try have hx213_2 := RX211_2.out)
        have p214 : 0 ≤ (x7_1 : Int) := of_decide_eq_true (by first | (with_reducible assumption) | assumption)
        have q214 : x7_1 < (((rd_T32 l0 0).f2).length : Int) := of_decide_eq_true (by first | (with_reducible assumption) | assumption)
        obtain ⟨ad214, e214, hx214_0, hx214_1, hx214_2⟩ := at_T40 HR211_2.out x7_1 p214 q214
        cases e214
        replace p214 := eq_true p214
        replace q214 := eq_true q214
        (try have hx215_0 := RX211_0.out)
        (try have hx215_1 := RX211_1.out)
        (try have hx215_2 := RX211_2.out)
        have p216 : 0 ≤ (x7_1 : Int) := of_decide_eq_true (by first | (with_reducible assumption) | assumption)
        have q216 : x7_1 < (((rd_T32 l0 0).f2).length : Int) := of_decide_eq_true (by first | (with_reducible assumption) | assumption)
        obtain ⟨ad216, e216, hx216_0, hx216_1, hx216_2⟩ := at_T40 HR211_2.out x7_1 p216 q216
        obtain rfl : ad214 = ad216 := (by injection e216)
        replace p216 := eq_true p216
        replace q216 := eq_true q216
        go_wp2
        go_ret
        exact ⟨by first | rfl | (simp; done) | (simp [*]; done), by repeat (first | exact Drawn0.refl _ | apply Drawn0.step)⟩
       ·rw [if_neg c8] at H
        have c8b0 : (((rd_T40 ((rd_T32 l0 0).f2) x7_1).f2) == a2) = false := beq_eq_false_iff_ne.mpr c8
        have c8b1 : (((rd_T40 ((rd_T32 l0 0).f2) x7_1).f2) != a2) = true := bne_iff_ne.mpr c8
        have H' := Aside0.mk H
        clear H
        (try have hx212_0 := RX211_0.out)
        (try have hx212_1 := RX211_1.out)
        (try have hx212_2 := RX211_2.out)
        (try have hx213_0 := RX211_0.out)
        (try have hx213_1 := RX211_1.out)
        (try have hx213_2 := RX211_2.out)
        have p214 : 0 ≤ (x7_1 : Int) := of_decide_eq_true (by first | (with_reducible assumption) | assumption)
        have q214 : x7_1 < (((rd_T32 l0 0).f2).length : Int) := of_decide_eq_true (by first | (with_reducible assumption) | assumption)
        obtain ⟨ad214, e214, hx214_0, hx214_1, hx214_2⟩ := at_T40 HR211_2.out x7_1 p214 q214
        cases e214
        replace p214 := eq_true p214
        replace q214 := eq_true q214
        (try have hx215_0 := RX211_0.out)
        (try have hx215_1 := RX211_1.out)
        (try have hx215_2 := RX211_2.out)
        have p216 : 0 ≤ (x7_1 : Int) := of_decide_eq_true (by first | (with_reducible assumption) | assumption)
        have q216 : x7_1 < (((rd_T32 l0 0).f2).length : Int) := of_decide_eq_true (by first | (with_reducible assumption) | assumption)
        obtain ⟨ad216, e216, hx216_0, hx216_1, hx216_2⟩ := at_T40 HR211_2.out x7_1 p216 q216
        obtain rfl : ad214 = ad216 := (by injection e216)
        replace p216 := eq_true p216
        replace q216 := eq_true q216
        go_wp2
        go_roundg k1
        case measure => have := HK1.out; omega
        case rel => exact ⟨(wrap64 (x7_1 + 1)), (by first | rfl | (simp; done) | (simp [*]; done)), H', ⟨by have := HK1.out; omega⟩, by repeat (first | exact Drawn0.refl _ | apply Drawn0.step)⟩
      ·rw [if_neg c7] at H
       have c7b0 : (((rd_T40 ((rd_T32 l0 0).f2) x7_1).f1).toList == a1.toList) = false := beq_eq_false_iff_ne.mpr c7
       have c7b1 : (((rd_T40 ((rd_T32 l0 0).f2) x7_1).f1).toList != a1.toList) = true := bne_iff_ne.mpr c7
       have H' := Aside0.mk H
       clear H
       (try have hx212_0 := RX211_0.out)
       (try have hx212_1 := RX211_1.out)
       (try have hx212_2 := RX211_2.out)
       (try have hx213_0 := RX211_0.out)
       (try have hx213_1 := RX211_1.out)
       (try have hx213_2 := RX211_2.out)
       have p214 : 0 ≤ (x7_1 : Int) := of_decide_eq_true (by first | (with_reducible assumption) | assumption)
       have q214 : x7_1 < (((rd_T32 l0 0).f2).length : Int) := of_decide_eq_true (by first | (with_reducible assumption) | assumption)
       obtain ⟨ad214, e214, hx214_0, hx214_1, hx214_2⟩ := at_T40 HR211_2.out x7_1 p214 q214
       cases e214
       replace p214 := eq_true p214
       replace q214 := eq_true q214
       go_wp2
       go_roundg k1
       case measure => have := HK1.out; omega
       case rel => exact ⟨(wrap64 (x7_1 + 1)), (by first | rfl | (simp; done) | (simp [*]; done)), H', ⟨by have := HK1.out; omega⟩, by repeat (first | exact Drawn0.refl _ | apply Drawn0.step)⟩
     ·rw [if_neg c6] at H
      exact absurd H (by simp)
    ·rw [if_neg c5] at H
     have c5b0 : decide (x7_1 < (((rd_T32 l0 0).f2).length : Int)) = false := decide_eq_false c5
     clear c5
     obtain rfl := Option.some.inj H
     simp only [Option.some.injEq, Prod.mk.injEq] at H
     obtain ⟨rfl⟩ := H
     (try have hx212_0 := RX211_0.out)
     (try have hx212_1 := RX211_1.out)
     (try have hx212_2 := RX211_2.out)
     go_wp2
     go_ret
     exact ⟨by first | rfl | (simp; done) | (simp [*]; done), by repeat (first | exact Drawn0.refl _ | apply Drawn0.step)⟩
 ·rw [if_neg c4] at H
  exact absurd H (by simp)

/-! ### spec_l19Of: function 58 -/
def spec_l19Of.l0 : Nat → List (S32) → ByteArray → Int → Option (Int)
 | 0, _, _, _ => none
 | k + 1, x0, x1, x5 => if x5 < (((rd_T32 x0 0).f2).length : Int) then (if 0 ≤ x5 then (if ((rd_T40 ((rd_T32 x0 0).f2) x5).f0).toList = x1.toList then (some x5) else (spec_l19Of.l0 k x0 x1 (wrap64 (x5 + 1)))) else (none)) else (some (-1))
def spec_l19Of.f (k : Nat) (l0 : List (S32)) (a1 : ByteArray) : Option (Int) := if 0 < (l0.length : Int) then (spec_l19Of.l0 k l0 a1 0) else (none)
theorem spec_l19Of.mono_l : ∀ k, (∀ y0 y1 y2, LeO (spec_l19Of.l0 k y0 y1 y2) (spec_l19Of.l0 (k + 1) y0 y1 y2))
 | 0 => fun _ _ _ r h => by simp [spec_l19Of.l0] at h
 | k + 1 => by
  have ih0 := spec_l19Of.mono_l k
  ·intro y0 y1 y2
   unfold spec_l19Of.l0
   repeat' first
   | (with_reducible exact ih0 _ _ _)
   | (with_reducible exact LeO.refl _)
   | (with_reducible exact LeO.none _)
   | (with_reducible refine LeO.ite ?_ ?_)
   | (with_reducible refine LeO.bind ?_ (fun _ => ?_))
   | exact ih0 _ _ _
   | exact LeO.none _
   | refine LeO.ite ?_ ?_
   | refine LeO.bind ?_ (fun _ => ?_)
theorem spec_l19Of.mono : ∀ a0 a1 k, LeO (spec_l19Of.f k a0 a1) (spec_l19Of.f (k + 1) a0 a1) := by
 intro a0 a1 k
 have ih0 := spec_l19Of.mono_l k
 unfold spec_l19Of.f
 repeat' first
   | (with_reducible exact ih0 _ _ _)
   | (with_reducible exact LeO.refl _)
   | (with_reducible exact LeO.none _)
   | (with_reducible refine LeO.ite ?_ ?_)
   | (with_reducible refine LeO.bind ?_ (fun _ => ?_))
   | exact ih0 _ _ _
   | exact LeO.none _
   | refine LeO.ite ?_ ?_
   | refine LeO.bind ?_ (fun _ => ?_)
set_option maxHeartbeats 8000000 in
set_option maxRecDepth 100000 in
theorem spec_l19Of.calls (k : Nat) (A0 : Option Addr) (c0 : Nat) (l0 : List (S32)) (a1 : ByteArray) (r : Int) (w : World) (hr0 : Kd.C k32 w A0 l0.length l0) (hc0 : l0.length ≤ c0) (h : spec_l19Of.f k l0 a1 = some r) :
  Calls Try.prog 58 #[.pointer A0, .string a1] w fun e w' => e = .returned (.int .i64 r) ∧ Drawn0 w w' := by
 have HR0 := Aside0.mk hr0
 have HC0 := Aside0.mk hc0
 clear hr0 hc0
 have H : (if 0 < (l0.length : Int) then (spec_l19Of.l0 k l0 a1 0) else (none)) = some r := h
 clear h
 by_cases c3 : 0 < (l0.length : Int)
 ·rw [if_pos c3] at H
  have c3b0 : decide (0 < (l0.length : Int)) = true := decide_eq_true c3
  have c3b1 : decide (0 < l0.length) = true := decide_eq_true (by omega)
  clear c3
  have H' := Aside0.mk H
  clear H
  have p217 : 0 ≤ (0 : Int) := (by omega)
  have q217 : 0 < (l0.length : Int) := of_decide_eq_true (by first | (with_reducible assumption) | assumption)
  obtain ⟨ad217, A217_0, c217_0, A217_1, c217_1, A217_2, c217_2, e217, hx217_0, hx217_1, hx217_2, hl217_0, hi217_0, hl217_1, hi217_1, hl217_2, hi217_2⟩ := at_T32 HR0.out 0 p217 q217
  cases e217
  have qi217 : (0 < l0.length) = True := eq_true (by omega)
  (try rw [show ((0 : Int)).toNat = 0 from rfl] at hx217_0)
  (try rw [show 0 * 3 = 0 from rfl] at hx217_0)
  (try rw [Addr.add_zero'] at hx217_0)
  (try rw [show ((0 : Int)).toNat = 0 from rfl] at hx217_1)
  (try rw [show 0 * 3 = 0 from rfl] at hx217_1)
  (try rw [Addr.add_zero'] at hx217_1)
  (try rw [show ((0 : Int)).toNat = 0 from rfl] at hx217_2)
  (try rw [show 0 * 3 = 0 from rfl] at hx217_2)
  (try rw [Addr.add_zero'] at hx217_2)
  have HR217_0 := Aside0.mk hi217_0
  have HC217_0 := Aside0.mk hl217_0
  clear hi217_0 hl217_0
  have HR217_1 := Aside0.mk hi217_1
  have HC217_1 := Aside0.mk hl217_1
  clear hi217_1 hl217_1
  have HR217_2 := Aside0.mk hi217_2
  have HC217_2 := Aside0.mk hl217_2
  clear hi217_2 hl217_2
  replace p217 := eq_true p217
  replace q217 := eq_true q217
  have RX217_0 := Aside0.mk hx217_0
  clear hx217_0
  have RX217_1 := Aside0.mk hx217_1
  clear hx217_1
  have RX217_2 := Aside0.mk hx217_2
  clear hx217_2
  go_enter Try.func58, Try.ntmps58
  go_wp2
  go_loopg [5] k (fun kq v5 w' => ∃ (x5_1 : Int), v5 = .int .i64 x5_1 ∧ Aside0 (spec_l19Of.l0 kq l0 a1 x5_1 = some r) ∧ Aside0 (kq ≤ k) ∧ Drawn0 w w')
  case atStart => exact ⟨(0), (by first | rfl | (simp; done) | (simp [*]; done)), H', ⟨Nat.le_refl _⟩, by repeat (first | exact Drawn0.refl _ | apply Drawn0.step)⟩
  case round =>
   clear H'
   try clear c2
   try clear p2
   try clear q2
   try clear hx2
   try clear qi2
   try clear c3
   try clear c3b0
   try clear c3b1
   try clear hx217_0
   try clear hx217_1
   try clear hx217_2
   try clear p217
   try clear q217
   obtain ⟨x5_1, rfl, HA, HK1, ⟨m1, rfl⟩⟩ := hrel
   cases gk with
   | zero => exact absurd HA.out (by simp [spec_l19Of.l0])
   | succ k1 =>
    have H := HA.out
    clear HA
    simp only [spec_l19Of.l0] at H
    by_cases c4 : x5_1 < (((rd_T32 l0 0).f2).length : Int)
    ·rw [if_pos c4] at H
     have c4b0 : decide (x5_1 < (((rd_T32 l0 0).f2).length : Int)) = true := decide_eq_true c4
     clear c4
     by_cases c5 : 0 ≤ x5_1
     ·rw [if_pos c5] at H
      have c5b0 : decide (0 ≤ x5_1) = true := decide_eq_true c5
      clear c5
      by_cases c6 : ((rd_T40 ((rd_T32 l0 0).f2) x5_1).f0).toList = a1.toList
      ·rw [if_pos c6] at H
       have c6b0 : (((rd_T40 ((rd_T32 l0 0).f2) x5_1).f0).toList == a1.toList) = true := beq_iff_eq.mpr c6
       have c6b1 : (((rd_T40 ((rd_T32 l0 0).f2) x5_1).f0).toList != a1.toList) = false := bne_eq_false_iff_eq.mpr c6
       clear c6
       obtain rfl := Option.some.inj H
       simp only [Option.some.injEq, Prod.mk.injEq] at H
       obtain ⟨rfl⟩ := H
       (try have hx218_0 := RX217_0.out)
       (try have hx218_1 := RX217_1.out)
       (try have hx218_2 := RX217_2.out)
       (try have hx219_0 := RX217_0.out)
       (try have hx219_1 := RX217_1.out)
       (try have hx219_2 := RX217_2.out)
       have p220 : 0 ≤ (x5_1 : Int) := of_decide_eq_true (by first | (with_reducible assumption) | assumption)
       have q220 : x5_1 < (((rd_T32 l0 0).f2).length : Int) := of_decide_eq_true (by first | (with_reducible assumption) | assumption)
       obtain ⟨ad220, e220, hx220_0, hx220_1, hx220_2⟩ := at_T40 HR217_2.out x5_1 p220 q220
       cases e220
       replace p220 := eq_true p220
       replace q220 := eq_true q220
       go_wp2
       go_ret
       exact ⟨by first | rfl | (simp; done) | (simp [*]; done), by repeat (first | exact Drawn0.refl _ | apply Drawn0.step)⟩
      ·rw [if_neg c6] at H
       have c6b0 : (((rd_T40 ((rd_T32 l0 0).f2) x5_1).f0).toList == a1.toList) = false := beq_eq_false_iff_ne.mpr c6
       have c6b1 : (((rd_T40 ((rd_T32 l0 0).f2) x5_1).f0).toList != a1.toList) = true := bne_iff_ne.mpr c6
       have H' := Aside0.mk H
       clear H
       (try have hx218_0 := RX217_0.out)
       (try have hx218_1 := RX217_1.out)
       (try have hx218_2 := RX217_2.out)
       (try have hx219_0 := RX217_0.out)
       (try have hx219_1 := RX217_1.out)
       (try have hx219_2 := RX217_2.out)
       have p220 : 0 ≤ (x5_1 : Int) := of_decide_eq_true (by first | (with_reducible assumption) | assumption)
       have q220 : x5_1 < (((rd_T32 l0 0).f2).length : Int) := of_decide_eq_true (by first | (with_reducible assumption) | assumption)
       obtain ⟨ad220, e220, hx220_0, hx220_1, hx220_2⟩ := at_T40 HR217_2.out x5_1 p220 q220
       cases e220
       replace p220 := eq_true p220
       replace q220 := eq_true q220
       go_wp2
       go_roundg k1
       case measure => have := HK1.out; omega
       case rel => exact ⟨(wrap64 (x5_1 + 1)), (by first | rfl | (simp; done) | (simp [*]; done)), H', ⟨by have := HK1.out; omega⟩, by repeat (first | exact Drawn0.refl _ | apply Drawn0.step)⟩
     ·rw [if_neg c5] at H
      exact absurd H (by simp)
    ·rw [if_neg c4] at H
     have c4b0 : decide (x5_1 < (((rd_T32 l0 0).f2).length : Int)) = false := decide_eq_false c4
     clear c4
     obtain rfl := Option.some.inj H
     simp only [Option.some.injEq, Prod.mk.injEq] at H
     obtain ⟨rfl⟩ := H
     (try have hx218_0 := RX217_0.out)
     (try have hx218_1 := RX217_1.out)
     (try have hx218_2 := RX217_2.out)
     go_wp2
     go_ret
     exact ⟨by first | rfl | (simp; done) | (simp [*]; done), by repeat (first | exact Drawn0.refl _ | apply Drawn0.step)⟩
 ·rw [if_neg c3] at H
  exact absurd H (by simp)

end Go.Proofs.Ytpngklefeaolfaa.PFnExactFreePins
