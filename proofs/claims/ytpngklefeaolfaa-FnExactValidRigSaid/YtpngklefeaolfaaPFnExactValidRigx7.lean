-- Written by a program of this session (wip/tools/pp.sh).
import Derived.Test.YtpngklefeaolfaaPFnExactValidRigx0
import Derived.Test.YtpngklefeaolfaaPFnExactValidRigx2
import Derived.Test.YtpngklefeaolfaaPFnExactValidRigx4
import Derived.Test.YtpngklefeaolfaaPFnExactValidRigx5
import Derived.Test.YtpngklefeaolfaaPFnExactValidRigx6
namespace Go.Proofs.Ytpngklefeaolfaa.PFnExactValidRig
open Go.RowKit Go.Proofs.YtpngklefeaolfaaW.PrintWords Go.Proofs.YtpngklefeaolfaaW.PrintLast Go.Proofs.YtpngklefeaolfaaW.PrintMore Go.Proofs.Ytpngklefeaolfaa.Small
open Bool renaming true → T, false → F
attribute [local go_sem] max2_int min2_int max_two min_two max_three min_three max_four min_four   -- for this text's walks alone
set_option linter.unusedVariables false
set_option linter.unusedSimpArgs false

/-! ### impl_addBelay: function 47, by hand -/
set_option maxHeartbeats 8000000 in
set_option maxRecDepth 100000 in
theorem addBelay_go (w0 w : World) (g : Nat) (v1 v2 v3 : Value) (R : List S69) (L : List ByteArray) (B : List S40) (b : S40) (t o a : Int) (b2 b3 : Bool) (HI : RigAt w0 w g v1 v2 v3 R L B) (hl : B.length ≤ 1048576) (hneg : t < 0 → t = -1)
  (hT : ∀ A1 c1 A2 c2 A3 c3 w, Kd.C k69 w A1 R.length R → R.length ≤ c1 → Kd.C Kd.string w A2 L.length L → L.length ≤ c2 → Kd.C k40 w A3 B.length B → B.length ≤ c3 → Calls Try.prog 63 #[.agg #[.slice A1 R.length c1, .slice A2 L.length c2, .slice A3 B.length c3], .string b.f1] w fun e w' => e = .returned (.int .i64 t) ∧ Below w.heap.size w w')
  (hE : ∀ A c w, Kd.C Kd.string w A L.length L → L.length ≤ c → Calls Try.prog 56 #[.slice A L.length c, .string b.f0] w fun e w' => e = .returned (.bool b2) ∧ Drawn0 w w')
  (hW : ∀ A1 c1 A2 c2 A3 c3 w, Kd.C k69 w A1 R.length R → R.length ≤ c1 → Kd.C Kd.string w A2 L.length L → L.length ≤ c2 → Kd.C k40 w A3 B.length B → B.length ≤ c3 → Calls Try.prog 53 #[.agg #[.slice A1 R.length c1, .slice A2 L.length c2, .slice A3 B.length c3], .string b.f1, .int .i64 b.f2] w fun e w' => e = .returned (.bool b3) ∧ Below w.heap.size w w')
  (hO : ∀ A1 c1 A2 c2 A3 c3 w, Kd.C k69 w A1 R.length R → R.length ≤ c1 → Kd.C Kd.string w A2 L.length L → L.length ≤ c2 → Kd.C k40 w A3 B.length B → B.length ≤ c3 → Calls Try.prog 57 #[.agg #[.slice A1 R.length c1, .slice A2 L.length c2, .slice A3 B.length c3], .string b.f0] w fun e w' => e = .returned (.int .i64 o) ∧ Below w.heap.size w w')
  (hA : ∀ A1 c1 A2 c2 A3 c3 w, Kd.C k69 w A1 R.length R → R.length ≤ c1 → Kd.C Kd.string w A2 L.length L → L.length ≤ c2 → Kd.C k40 w A3 B.length B → B.length ≤ c3 → Calls Try.prog 54 #[.agg #[.slice A1 R.length c1, .slice A2 L.length c2, .slice A3 B.length c3], .string b.f1, .int .i64 b.f2] w fun e w' => e = .returned (.int .i64 a) ∧ Below w.heap.size w w') :
  Calls Try.prog 47 #[.pointer (some ⟨g, 0, none⟩), .agg #[.string b.f0, .string b.f1, .int .i64 b.f2]] w fun e w' => ∃ v3', e = .returned (.int .i64 (addBelayN t b2 b3 o a)) ∧ RigAt w0 w' g v1 v2 v3' R L (addBelayB t b2 b3 o a B b) := by
 have HI0 := Aside0.mk HI
 have HL := Aside0.mk hl
 have HT := Aside0.mk hT
 have HE := Aside0.mk hE
 have HW := Aside0.mk hW
 have HO := Aside0.mk hO
 have HA := Aside0.mk hA
 clear HI hl hT hE hW hO hA
 obtain ⟨nm, sd, pn⟩ := b
 obtain ⟨A1, c1, rfl⟩ := Kd.R_slice HI0.out.r1
 obtain ⟨A2, c2, rfl⟩ := Kd.R_slice HI0.out.r2
 obtain ⟨A3, c3, rfl⟩ := Kd.R_slice HI0.out.r3
 show Calls Try.prog 47 #[.pointer (some ⟨g, 0, none⟩), .agg #[.string nm, .string sd, .int .i64 pn]] w fun e w' => ∃ v3', e = .returned (.int .i64 (addBelayN t b2 b3 o a)) ∧ RigAt w0 w' g _ _ v3' R L (addBelayB t b2 b3 o a B ⟨nm, sd, pn⟩)
 by_cases ht : t < 0
 ·obtain rfl := hneg ht
  clear ht hneg
  go_enter Try.func47, Try.ntmps47
  go_wp2_with (first | ((with_reducible refine gate_dst (N := 3) rfl ?_); refine box_event ?hg (N := 3) ?hd (cs := #[.string nm, .string sd, .int .i64 pn]) (t := 40) ?hr ?_; (case hd => rfl); (case hg => rfl); (case hr => first | (go_simp; done) | (go_simp; rfl)); intro gb hg w1 hbox hb; have n0_ := Aside0.mk (HI0.out.later hb); have n1_ := Aside0.mk hbox; clear HI0 hbox hb hg; have HI0 := n0_; have BR := n1_; clear n0_ n1_; have BX := Aside0.mk HI0.out.box; obtain ⟨hx0, hx1, hx2, hy0, hy1, hy2⟩ := cz3 BX; clear BX; obtain ⟨hr0, hr1, hr2, hs0, hs1, hs2⟩ := cz3 BR) | (go_at_call 63; (with_reducible refine (HT.out A1 c1 A2 c2 A3 c3 _ (Kd.R_reads' HI0.out.r1).2.2 (Kd.R_reads' HI0.out.r1).2.1 (Kd.R_reads' HI0.out.r2).2.2 (Kd.R_reads' HI0.out.r2).2.1 (Kd.R_reads' HI0.out.r3).2.2 (Kd.R_reads' HI0.out.r3).2.1).mono ?_); rintro e w2 ⟨rfl, hb⟩; clear hr0 hr1 hr2 hs0 hs1 hs2 hx0 hx1 hx2 hy0 hy1 hy2; have n0_ := Aside0.mk (HI0.out.later hb); have n1_ := Aside0.mk (blk_below BR.out hb); clear HI0 BR hb; have HI0 := n0_; have BR := n1_; clear n0_ n1_; have BX := Aside0.mk HI0.out.box; obtain ⟨hx0, hx1, hx2, hy0, hy1, hy2⟩ := cz3 BX; clear BX; obtain ⟨hr0, hr1, hr2, hs0, hs1, hs2⟩ := cz3 BR) | (go_at_call 56; (with_reducible refine (HE.out A2 c2 _ (Kd.R_reads' HI0.out.r2).2.2 (Kd.R_reads' HI0.out.r2).2.1).mono ?_); rintro e w2 ⟨rfl, hd⟩; obtain ⟨nd, rfl⟩ := hd; clear hr0 hr1 hr2 hs0 hs1 hs2 hx0 hx1 hx2 hy0 hy1 hy2; have n0_ := Aside0.mk (HI0.out.drawn ⟨⟨nd, rfl⟩⟩); have n1_ := Aside0.mk (blk_drewN BR.out nd); clear HI0 BR; have HI0 := n0_; have BR := n1_; clear n0_ n1_; generalize World.drewN _ nd = w2 at HI0 BR ⊢; have BX := Aside0.mk HI0.out.box; obtain ⟨hx0, hx1, hx2, hy0, hy1, hy2⟩ := cz3 BX; clear BX; obtain ⟨hr0, hr1, hr2, hs0, hs1, hs2⟩ := cz3 BR) | (go_at_call 53; (with_reducible refine (HW.out A1 c1 A2 c2 A3 c3 _ (Kd.R_reads' HI0.out.r1).2.2 (Kd.R_reads' HI0.out.r1).2.1 (Kd.R_reads' HI0.out.r2).2.2 (Kd.R_reads' HI0.out.r2).2.1 (Kd.R_reads' HI0.out.r3).2.2 (Kd.R_reads' HI0.out.r3).2.1).mono ?_); rintro e w2 ⟨rfl, hb⟩; clear hr0 hr1 hr2 hs0 hs1 hs2 hx0 hx1 hx2 hy0 hy1 hy2; have n0_ := Aside0.mk (HI0.out.later hb); have n1_ := Aside0.mk (blk_below BR.out hb); clear HI0 BR hb; have HI0 := n0_; have BR := n1_; clear n0_ n1_; have BX := Aside0.mk HI0.out.box; obtain ⟨hx0, hx1, hx2, hy0, hy1, hy2⟩ := cz3 BX; clear BX; obtain ⟨hr0, hr1, hr2, hs0, hs1, hs2⟩ := cz3 BR) | (go_at_call 57; (with_reducible refine (HO.out A1 c1 A2 c2 A3 c3 _ (Kd.R_reads' HI0.out.r1).2.2 (Kd.R_reads' HI0.out.r1).2.1 (Kd.R_reads' HI0.out.r2).2.2 (Kd.R_reads' HI0.out.r2).2.1 (Kd.R_reads' HI0.out.r3).2.2 (Kd.R_reads' HI0.out.r3).2.1).mono ?_); rintro e w2 ⟨rfl, hb⟩; clear hr0 hr1 hr2 hs0 hs1 hs2 hx0 hx1 hx2 hy0 hy1 hy2; have n0_ := Aside0.mk (HI0.out.later hb); have n1_ := Aside0.mk (blk_below BR.out hb); clear HI0 BR hb; have HI0 := n0_; have BR := n1_; clear n0_ n1_; have BX := Aside0.mk HI0.out.box; obtain ⟨hx0, hx1, hx2, hy0, hy1, hy2⟩ := cz3 BX; clear BX; obtain ⟨hr0, hr1, hr2, hs0, hs1, hs2⟩ := cz3 BR) | (go_at_call 54; (with_reducible refine (HA.out A1 c1 A2 c2 A3 c3 _ (Kd.R_reads' HI0.out.r1).2.2 (Kd.R_reads' HI0.out.r1).2.1 (Kd.R_reads' HI0.out.r2).2.2 (Kd.R_reads' HI0.out.r2).2.1 (Kd.R_reads' HI0.out.r3).2.2 (Kd.R_reads' HI0.out.r3).2.1).mono ?_); rintro e w2 ⟨rfl, hb⟩; clear hr0 hr1 hr2 hs0 hs1 hs2 hx0 hx1 hx2 hy0 hy1 hy2; have n0_ := Aside0.mk (HI0.out.later hb); have n1_ := Aside0.mk (blk_below BR.out hb); clear HI0 BR hb; have HI0 := n0_; have BR := n1_; clear n0_ n1_; have BX := Aside0.mk HI0.out.box; obtain ⟨hx0, hx1, hx2, hy0, hy1, hy2⟩ := cz3 BX; clear BX; obtain ⟨hr0, hr1, hr2, hs0, hs1, hs2⟩ := cz3 BR))
  refine wp_region_held_drew (S := (fun w' : World => w'.cell? ⟨g, 0, none⟩ = some (.slice A1 R.length c1) ∧ w'.cell? ⟨g, 1, none⟩ = some (.slice A2 L.length c2) ∧ w'.cell? ⟨g, 2, none⟩ = some (.slice A3 B.length c3) ∧ w'.cell? ⟨gb, 0, none⟩ = some (.string nm) ∧ w'.cell? ⟨gb, 1, none⟩ = some (.string sd) ∧ w'.cell? ⟨gb, 2, none⟩ = some (.int .i64 pn))) (by kernel_rfl) (by exact ⟨hx0, hx1, hx2, hr0, hr1, hr2⟩) (fun hHeld => ?_)
  refine wpAnyH_take (i := 0) (oi := _) (v := ?_) rfl (by kernel_rfl) (by kernel_rfl) (by kernel_rfl) (fun _ _ _ h => h) (Or.inl ⟨by rfl, ?_⟩) (by assumption) ?_
  rotate_left 1
  ·(intro w hSw; (try dsimp only at hSw); go_simp; try with_reducible rfl)
  (try simp only [Act.put, List.setIfInBounds_toArray, List.set_cons_zero, List.set_cons_succ, List.getElem_toArray, List.getElem_cons_succ, List.getElem_cons_zero])
  refine wpAnyH_take (i := 1) (oi := _) (v := ?_) rfl (by kernel_rfl) (by kernel_rfl) (by kernel_rfl) (fun _ _ _ h => h) (Or.inl ⟨by rfl, ?_⟩) (by assumption) ?_
  rotate_left 1
  ·(intro w hSw; (try dsimp only at hSw); go_simp; try with_reducible rfl)
  (try simp only [Act.put, List.setIfInBounds_toArray, List.set_cons_zero, List.set_cons_succ, List.getElem_toArray, List.getElem_cons_succ, List.getElem_cons_zero])
  refine wpAnyH_take (i := 2) (oi := _) (v := ?_) rfl (by kernel_rfl) (by kernel_rfl) (by kernel_rfl) (fun _ _ _ h => h) (Or.inl ⟨by rfl, ?_⟩) (by assumption) ?_
  rotate_left 1
  ·(intro w hSw; (try dsimp only at hSw); go_simp; try with_reducible rfl)
  (try simp only [Act.put, List.setIfInBounds_toArray, List.set_cons_zero, List.set_cons_succ, List.getElem_toArray, List.getElem_cons_succ, List.getElem_cons_zero])
  refine wpAnyH_take (i := 3) (oi := _) (v := ?_) rfl (by kernel_rfl) (by kernel_rfl) (by kernel_rfl) (fun _ _ _ h => h) (Or.inl ⟨by rfl, ?_⟩) (by assumption) ?_
  rotate_left 1
  ·(intro w hSw; (try dsimp only at hSw); go_simp; try with_reducible rfl)
  (try simp only [Act.put, List.setIfInBounds_toArray, List.set_cons_zero, List.set_cons_succ, List.getElem_toArray, List.getElem_cons_succ, List.getElem_cons_zero])
  refine wpAnyH_take (i := 4) (oi := _) (v := ?_) rfl (by kernel_rfl) (by kernel_rfl) (by kernel_rfl) (fun _ _ _ h => h) (Or.inl ⟨by rfl, ?_⟩) (by assumption) ?_
  rotate_left 1
  ·(intro w hSw; (try dsimp only at hSw); go_simp; try with_reducible rfl)
  (try simp only [Act.put, List.setIfInBounds_toArray, List.set_cons_zero, List.set_cons_succ, List.getElem_toArray, List.getElem_cons_succ, List.getElem_cons_zero])
  refine wpAnyH_ready (rs := [5]) (by kernel_rfl) (by simp) ?_
  refine AllReadyH.cons rfl (fun K hK => ?_) AllReadyH.nil
  go_simp
  go_wp2_with (first | (go_at_call 63; (with_reducible refine (HT.out A1 c1 A2 c2 A3 c3 _ (Kd.R_reads' HI0.out.drew.r1).2.2 (Kd.R_reads' HI0.out.drew.r1).2.1 (Kd.R_reads' HI0.out.drew.r2).2.2 (Kd.R_reads' HI0.out.drew.r2).2.1 (Kd.R_reads' HI0.out.drew.r3).2.2 (Kd.R_reads' HI0.out.drew.r3).2.1).mono ?_); rintro e w2 ⟨rfl, hb⟩; clear hr0 hr1 hr2 hs0 hs1 hs2 hx0 hx1 hx2 hy0 hy1 hy2; have n0_ := Aside0.mk (HI0.out.drew.later hb); have n1_ := Aside0.mk (blk_below (blk_drew BR.out) hb); clear HI0 BR hb; have HI0 := n0_; have BR := n1_; clear n0_ n1_; have BX := Aside0.mk HI0.out.box; obtain ⟨hx0, hx1, hx2, hy0, hy1, hy2⟩ := cz3 BX; clear BX; obtain ⟨hr0, hr1, hr2, hs0, hs1, hs2⟩ := cz3 BR) | (go_at_call 56; (with_reducible refine (HE.out A2 c2 _ (Kd.R_reads' HI0.out.r2).2.2 (Kd.R_reads' HI0.out.r2).2.1).mono ?_); rintro e w2 ⟨rfl, hd⟩; obtain ⟨nd, rfl⟩ := hd; clear hr0 hr1 hr2 hs0 hs1 hs2 hx0 hx1 hx2 hy0 hy1 hy2; have n0_ := Aside0.mk (HI0.out.drawn ⟨⟨nd, rfl⟩⟩); have n1_ := Aside0.mk (blk_drewN BR.out nd); clear HI0 BR; have HI0 := n0_; have BR := n1_; clear n0_ n1_; generalize World.drewN _ nd = w2 at HI0 BR ⊢; have BX := Aside0.mk HI0.out.box; obtain ⟨hx0, hx1, hx2, hy0, hy1, hy2⟩ := cz3 BX; clear BX; obtain ⟨hr0, hr1, hr2, hs0, hs1, hs2⟩ := cz3 BR) | (go_at_call 53; (with_reducible refine (HW.out A1 c1 A2 c2 A3 c3 _ (Kd.R_reads' HI0.out.r1).2.2 (Kd.R_reads' HI0.out.r1).2.1 (Kd.R_reads' HI0.out.r2).2.2 (Kd.R_reads' HI0.out.r2).2.1 (Kd.R_reads' HI0.out.r3).2.2 (Kd.R_reads' HI0.out.r3).2.1).mono ?_); rintro e w2 ⟨rfl, hb⟩; clear hr0 hr1 hr2 hs0 hs1 hs2 hx0 hx1 hx2 hy0 hy1 hy2; have n0_ := Aside0.mk (HI0.out.later hb); have n1_ := Aside0.mk (blk_below BR.out hb); clear HI0 BR hb; have HI0 := n0_; have BR := n1_; clear n0_ n1_; have BX := Aside0.mk HI0.out.box; obtain ⟨hx0, hx1, hx2, hy0, hy1, hy2⟩ := cz3 BX; clear BX; obtain ⟨hr0, hr1, hr2, hs0, hs1, hs2⟩ := cz3 BR) | (go_at_call 57; (with_reducible refine (HO.out A1 c1 A2 c2 A3 c3 _ (Kd.R_reads' HI0.out.r1).2.2 (Kd.R_reads' HI0.out.r1).2.1 (Kd.R_reads' HI0.out.r2).2.2 (Kd.R_reads' HI0.out.r2).2.1 (Kd.R_reads' HI0.out.r3).2.2 (Kd.R_reads' HI0.out.r3).2.1).mono ?_); rintro e w2 ⟨rfl, hb⟩; clear hr0 hr1 hr2 hs0 hs1 hs2 hx0 hx1 hx2 hy0 hy1 hy2; have n0_ := Aside0.mk (HI0.out.later hb); have n1_ := Aside0.mk (blk_below BR.out hb); clear HI0 BR hb; have HI0 := n0_; have BR := n1_; clear n0_ n1_; have BX := Aside0.mk HI0.out.box; obtain ⟨hx0, hx1, hx2, hy0, hy1, hy2⟩ := cz3 BX; clear BX; obtain ⟨hr0, hr1, hr2, hs0, hs1, hs2⟩ := cz3 BR) | (go_at_call 54; (with_reducible refine (HA.out A1 c1 A2 c2 A3 c3 _ (Kd.R_reads' HI0.out.r1).2.2 (Kd.R_reads' HI0.out.r1).2.1 (Kd.R_reads' HI0.out.r2).2.2 (Kd.R_reads' HI0.out.r2).2.1 (Kd.R_reads' HI0.out.r3).2.2 (Kd.R_reads' HI0.out.r3).2.1).mono ?_); rintro e w2 ⟨rfl, hb⟩; clear hr0 hr1 hr2 hs0 hs1 hs2 hx0 hx1 hx2 hy0 hy1 hy2; have n0_ := Aside0.mk (HI0.out.later hb); have n1_ := Aside0.mk (blk_below BR.out hb); clear HI0 BR hb; have HI0 := n0_; have BR := n1_; clear n0_ n1_; have BX := Aside0.mk HI0.out.box; obtain ⟨hx0, hx1, hx2, hy0, hy1, hy2⟩ := cz3 BX; clear BX; obtain ⟨hr0, hr1, hr2, hs0, hs1, hs2⟩ := cz3 BR))
  refine hK.out _ _ (by exact ⟨hx0, hx1, hx2, hr0, hr1, hr2⟩) (fun hHeld2 => ?_)
  clear hK K hHeld
  (try simp only [Act.put, List.setIfInBounds_toArray, List.set_cons_zero, List.set_cons_succ, List.getElem_toArray, List.getElem_cons_succ, List.getElem_cons_zero])
  refine wpAnyH_take (i := 6) (oi := _) (v := ?_) rfl (by kernel_rfl) (by kernel_rfl) (by kernel_rfl) (fun _ _ _ h => h) (Or.inl ⟨by rfl, ?_⟩) (by assumption) ?_
  rotate_left 1
  ·(intro w hSw; (try dsimp only at hSw); go_simp; try with_reducible rfl)
  (try simp only [Act.put, List.setIfInBounds_toArray, List.set_cons_zero, List.set_cons_succ, List.getElem_toArray, List.getElem_cons_succ, List.getElem_cons_zero])
  refine wpAnyH_take (i := 7) (oi := _) (v := ?_) rfl (by kernel_rfl) (by kernel_rfl) (by kernel_rfl) (fun _ _ _ h => h) (Or.inl ⟨by rfl, ?_⟩) (by assumption) ?_
  rotate_left 1
  ·(intro w hSw; (try dsimp only at hSw); go_simp; try with_reducible rfl)
  (try simp only [Act.put, List.setIfInBounds_toArray, List.set_cons_zero, List.set_cons_succ, List.getElem_toArray, List.getElem_cons_succ, List.getElem_cons_zero])
  refine wpAnyH_take (i := 8) (oi := _) (v := undef) rfl (by kernel_rfl) (by kernel_rfl) (by kernel_rfl) (fun _ _ _ h => h) (Or.inr ⟨by rfl, rfl⟩) (by assumption) ?_
  (try simp only [Act.put, List.setIfInBounds_toArray, List.set_cons_zero, List.set_cons_succ, List.getElem_toArray, List.getElem_cons_succ, List.getElem_cons_zero])
  refine wpAnyH_take (i := 9) (oi := _) (v := undef) rfl (by kernel_rfl) (by kernel_rfl) (by kernel_rfl) (fun _ _ _ h => h) (Or.inr ⟨by rfl, rfl⟩) (by assumption) ?_
  (try simp only [Act.put, List.setIfInBounds_toArray, List.set_cons_zero, List.set_cons_succ, List.getElem_toArray, List.getElem_cons_succ, List.getElem_cons_zero])
  refine wpAnyH_take (i := 10) (oi := _) (v := undef) rfl (by kernel_rfl) (by kernel_rfl) (by kernel_rfl) (fun _ _ _ h => h) (Or.inr ⟨by rfl, rfl⟩) (by assumption) ?_
  (try simp only [Act.put, List.setIfInBounds_toArray, List.set_cons_zero, List.set_cons_succ, List.getElem_toArray, List.getElem_cons_succ, List.getElem_cons_zero])
  refine wpAnyH_take (i := 11) (oi := _) (v := undef) rfl (by kernel_rfl) (by kernel_rfl) (by kernel_rfl) (fun _ _ _ h => h) (Or.inr ⟨by rfl, rfl⟩) (by assumption) ?_
  (try simp only [Act.put, List.setIfInBounds_toArray, List.set_cons_zero, List.set_cons_succ, List.getElem_toArray, List.getElem_cons_succ, List.getElem_cons_zero])
  refine wpAnyH_take (i := 12) (oi := _) (v := undef) rfl (by kernel_rfl) (by kernel_rfl) (by kernel_rfl) (fun _ _ _ h => h) (Or.inr ⟨by rfl, rfl⟩) (by assumption) ?_
  (try simp only [Act.put, List.setIfInBounds_toArray, List.set_cons_zero, List.set_cons_succ, List.getElem_toArray, List.getElem_cons_succ, List.getElem_cons_zero])
  refine wpAnyH_take (i := 13) (oi := _) (v := undef) rfl (by kernel_rfl) (by kernel_rfl) (by kernel_rfl) (fun _ _ _ h => h) (Or.inr ⟨by rfl, rfl⟩) (by assumption) ?_
  (try simp only [Act.put, List.setIfInBounds_toArray, List.set_cons_zero, List.set_cons_succ, List.getElem_toArray, List.getElem_cons_succ, List.getElem_cons_zero])
  refine wpAnyH_take (i := 14) (oi := _) (v := undef) rfl (by kernel_rfl) (by kernel_rfl) (by kernel_rfl) (fun _ _ _ h => h) (Or.inr ⟨by rfl, rfl⟩) (by assumption) ?_
  (try simp only [Act.put, List.setIfInBounds_toArray, List.set_cons_zero, List.set_cons_succ, List.getElem_toArray, List.getElem_cons_succ, List.getElem_cons_zero])
  refine wpAnyH_take (i := 15) (oi := _) (v := undef) rfl (by kernel_rfl) (by kernel_rfl) (by kernel_rfl) (fun _ _ _ h => h) (Or.inr ⟨by rfl, rfl⟩) (by assumption) ?_
  (try simp only [Act.put, List.setIfInBounds_toArray, List.set_cons_zero, List.set_cons_succ, List.getElem_toArray, List.getElem_cons_succ, List.getElem_cons_zero])
  refine wpAnyH_take (i := 16) (oi := _) (v := ?_) rfl (by kernel_rfl) (by kernel_rfl) (by kernel_rfl) (fun _ _ _ h => h) (Or.inl ⟨by rfl, ?_⟩) (by assumption) ?_
  rotate_left 1
  ·(intro w hSw; (try dsimp only at hSw); go_simp; try with_reducible rfl)
  (try simp only [Act.put, List.setIfInBounds_toArray, List.set_cons_zero, List.set_cons_succ, List.getElem_toArray, List.getElem_cons_succ, List.getElem_cons_zero])
  refine wpAnyH_take (i := 17) (oi := _) (v := ?_) rfl (by kernel_rfl) (by kernel_rfl) (by kernel_rfl) (fun _ _ _ h => h) (Or.inl ⟨by rfl, ?_⟩) (by assumption) ?_
  rotate_left 1
  ·(intro w hSw; (try dsimp only at hSw); go_simp; try with_reducible rfl)
  (try simp only [Act.put, List.setIfInBounds_toArray, List.set_cons_zero, List.set_cons_succ, List.getElem_toArray, List.getElem_cons_succ, List.getElem_cons_zero])
  refine wpAnyH_done (by kernel_rfl) ?_ _
  all_goals
   go_wp2_with (first | ((with_reducible refine gate_dst (N := 3) rfl ?_); refine box_event ?hg (N := 3) ?hd (cs := #[.string nm, .string sd, .int .i64 pn]) (t := 40) ?hr ?_; (case hd => rfl); (case hg => rfl); (case hr => first | (go_simp; done) | (go_simp; rfl)); intro gb hg w1 hbox hb; have n0_ := Aside0.mk (HI0.out.later hb); have n1_ := Aside0.mk hbox; clear HI0 hbox hb hg; have HI0 := n0_; have BR := n1_; clear n0_ n1_; have BX := Aside0.mk HI0.out.box; obtain ⟨hx0, hx1, hx2, hy0, hy1, hy2⟩ := cz3 BX; clear BX; obtain ⟨hr0, hr1, hr2, hs0, hs1, hs2⟩ := cz3 BR) | (go_at_call 63; (with_reducible refine (HT.out A1 c1 A2 c2 A3 c3 _ (Kd.R_reads' HI0.out.r1).2.2 (Kd.R_reads' HI0.out.r1).2.1 (Kd.R_reads' HI0.out.r2).2.2 (Kd.R_reads' HI0.out.r2).2.1 (Kd.R_reads' HI0.out.r3).2.2 (Kd.R_reads' HI0.out.r3).2.1).mono ?_); rintro e w2 ⟨rfl, hb⟩; clear hr0 hr1 hr2 hs0 hs1 hs2 hx0 hx1 hx2 hy0 hy1 hy2; have n0_ := Aside0.mk (HI0.out.later hb); have n1_ := Aside0.mk (blk_below BR.out hb); clear HI0 BR hb; have HI0 := n0_; have BR := n1_; clear n0_ n1_; have BX := Aside0.mk HI0.out.box; obtain ⟨hx0, hx1, hx2, hy0, hy1, hy2⟩ := cz3 BX; clear BX; obtain ⟨hr0, hr1, hr2, hs0, hs1, hs2⟩ := cz3 BR) | (go_at_call 56; (with_reducible refine (HE.out A2 c2 _ (Kd.R_reads' HI0.out.r2).2.2 (Kd.R_reads' HI0.out.r2).2.1).mono ?_); rintro e w2 ⟨rfl, hd⟩; obtain ⟨nd, rfl⟩ := hd; clear hr0 hr1 hr2 hs0 hs1 hs2 hx0 hx1 hx2 hy0 hy1 hy2; have n0_ := Aside0.mk (HI0.out.drawn ⟨⟨nd, rfl⟩⟩); have n1_ := Aside0.mk (blk_drewN BR.out nd); clear HI0 BR; have HI0 := n0_; have BR := n1_; clear n0_ n1_; generalize World.drewN _ nd = w2 at HI0 BR ⊢; have BX := Aside0.mk HI0.out.box; obtain ⟨hx0, hx1, hx2, hy0, hy1, hy2⟩ := cz3 BX; clear BX; obtain ⟨hr0, hr1, hr2, hs0, hs1, hs2⟩ := cz3 BR) | (go_at_call 53; (with_reducible refine (HW.out A1 c1 A2 c2 A3 c3 _ (Kd.R_reads' HI0.out.r1).2.2 (Kd.R_reads' HI0.out.r1).2.1 (Kd.R_reads' HI0.out.r2).2.2 (Kd.R_reads' HI0.out.r2).2.1 (Kd.R_reads' HI0.out.r3).2.2 (Kd.R_reads' HI0.out.r3).2.1).mono ?_); rintro e w2 ⟨rfl, hb⟩; clear hr0 hr1 hr2 hs0 hs1 hs2 hx0 hx1 hx2 hy0 hy1 hy2; have n0_ := Aside0.mk (HI0.out.later hb); have n1_ := Aside0.mk (blk_below BR.out hb); clear HI0 BR hb; have HI0 := n0_; have BR := n1_; clear n0_ n1_; have BX := Aside0.mk HI0.out.box; obtain ⟨hx0, hx1, hx2, hy0, hy1, hy2⟩ := cz3 BX; clear BX; obtain ⟨hr0, hr1, hr2, hs0, hs1, hs2⟩ := cz3 BR) | (go_at_call 57; (with_reducible refine (HO.out A1 c1 A2 c2 A3 c3 _ (Kd.R_reads' HI0.out.r1).2.2 (Kd.R_reads' HI0.out.r1).2.1 (Kd.R_reads' HI0.out.r2).2.2 (Kd.R_reads' HI0.out.r2).2.1 (Kd.R_reads' HI0.out.r3).2.2 (Kd.R_reads' HI0.out.r3).2.1).mono ?_); rintro e w2 ⟨rfl, hb⟩; clear hr0 hr1 hr2 hs0 hs1 hs2 hx0 hx1 hx2 hy0 hy1 hy2; have n0_ := Aside0.mk (HI0.out.later hb); have n1_ := Aside0.mk (blk_below BR.out hb); clear HI0 BR hb; have HI0 := n0_; have BR := n1_; clear n0_ n1_; have BX := Aside0.mk HI0.out.box; obtain ⟨hx0, hx1, hx2, hy0, hy1, hy2⟩ := cz3 BX; clear BX; obtain ⟨hr0, hr1, hr2, hs0, hs1, hs2⟩ := cz3 BR) | (go_at_call 54; (with_reducible refine (HA.out A1 c1 A2 c2 A3 c3 _ (Kd.R_reads' HI0.out.r1).2.2 (Kd.R_reads' HI0.out.r1).2.1 (Kd.R_reads' HI0.out.r2).2.2 (Kd.R_reads' HI0.out.r2).2.1 (Kd.R_reads' HI0.out.r3).2.2 (Kd.R_reads' HI0.out.r3).2.1).mono ?_); rintro e w2 ⟨rfl, hb⟩; clear hr0 hr1 hr2 hs0 hs1 hs2 hx0 hx1 hx2 hy0 hy1 hy2; have n0_ := Aside0.mk (HI0.out.later hb); have n1_ := Aside0.mk (blk_below BR.out hb); clear HI0 BR hb; have HI0 := n0_; have BR := n1_; clear n0_ n1_; have BX := Aside0.mk HI0.out.box; obtain ⟨hx0, hx1, hx2, hy0, hy1, hy2⟩ := cz3 BX; clear BX; obtain ⟨hr0, hr1, hr2, hs0, hs1, hs2⟩ := cz3 BR))
   go_ret
   exact ⟨_, rfl, by simpa [addBelayB, addBelayN] using HI0.out⟩
 ·have ht0 : decide (t < 0) = false := decide_eq_false ht
  have HT0 := Aside0.mk (show 0 ≤ t by omega)
  clear ht hneg
  cases b2 with
  | false =>
   go_enter Try.func47, Try.ntmps47
   go_wp2_with (first | ((with_reducible refine gate_dst (N := 3) rfl ?_); refine box_event ?hg (N := 3) ?hd (cs := #[.string nm, .string sd, .int .i64 pn]) (t := 40) ?hr ?_; (case hd => rfl); (case hg => rfl); (case hr => first | (go_simp; done) | (go_simp; rfl)); intro gb hg w1 hbox hb; have n0_ := Aside0.mk (HI0.out.later hb); have n1_ := Aside0.mk hbox; clear HI0 hbox hb hg; have HI0 := n0_; have BR := n1_; clear n0_ n1_; have BX := Aside0.mk HI0.out.box; obtain ⟨hx0, hx1, hx2, hy0, hy1, hy2⟩ := cz3 BX; clear BX; obtain ⟨hr0, hr1, hr2, hs0, hs1, hs2⟩ := cz3 BR) | (go_at_call 63; (with_reducible refine (HT.out A1 c1 A2 c2 A3 c3 _ (Kd.R_reads' HI0.out.r1).2.2 (Kd.R_reads' HI0.out.r1).2.1 (Kd.R_reads' HI0.out.r2).2.2 (Kd.R_reads' HI0.out.r2).2.1 (Kd.R_reads' HI0.out.r3).2.2 (Kd.R_reads' HI0.out.r3).2.1).mono ?_); rintro e w2 ⟨rfl, hb⟩; clear hr0 hr1 hr2 hs0 hs1 hs2 hx0 hx1 hx2 hy0 hy1 hy2; have n0_ := Aside0.mk (HI0.out.later hb); have n1_ := Aside0.mk (blk_below BR.out hb); clear HI0 BR hb; have HI0 := n0_; have BR := n1_; clear n0_ n1_; have BX := Aside0.mk HI0.out.box; obtain ⟨hx0, hx1, hx2, hy0, hy1, hy2⟩ := cz3 BX; clear BX; obtain ⟨hr0, hr1, hr2, hs0, hs1, hs2⟩ := cz3 BR) | (go_at_call 56; (with_reducible refine (HE.out A2 c2 _ (Kd.R_reads' HI0.out.r2).2.2 (Kd.R_reads' HI0.out.r2).2.1).mono ?_); rintro e w2 ⟨rfl, hd⟩; obtain ⟨nd, rfl⟩ := hd; clear hr0 hr1 hr2 hs0 hs1 hs2 hx0 hx1 hx2 hy0 hy1 hy2; have n0_ := Aside0.mk (HI0.out.drawn ⟨⟨nd, rfl⟩⟩); have n1_ := Aside0.mk (blk_drewN BR.out nd); clear HI0 BR; have HI0 := n0_; have BR := n1_; clear n0_ n1_; generalize World.drewN _ nd = w2 at HI0 BR ⊢; have BX := Aside0.mk HI0.out.box; obtain ⟨hx0, hx1, hx2, hy0, hy1, hy2⟩ := cz3 BX; clear BX; obtain ⟨hr0, hr1, hr2, hs0, hs1, hs2⟩ := cz3 BR) | (go_at_call 53; (with_reducible refine (HW.out A1 c1 A2 c2 A3 c3 _ (Kd.R_reads' HI0.out.r1).2.2 (Kd.R_reads' HI0.out.r1).2.1 (Kd.R_reads' HI0.out.r2).2.2 (Kd.R_reads' HI0.out.r2).2.1 (Kd.R_reads' HI0.out.r3).2.2 (Kd.R_reads' HI0.out.r3).2.1).mono ?_); rintro e w2 ⟨rfl, hb⟩; clear hr0 hr1 hr2 hs0 hs1 hs2 hx0 hx1 hx2 hy0 hy1 hy2; have n0_ := Aside0.mk (HI0.out.later hb); have n1_ := Aside0.mk (blk_below BR.out hb); clear HI0 BR hb; have HI0 := n0_; have BR := n1_; clear n0_ n1_; have BX := Aside0.mk HI0.out.box; obtain ⟨hx0, hx1, hx2, hy0, hy1, hy2⟩ := cz3 BX; clear BX; obtain ⟨hr0, hr1, hr2, hs0, hs1, hs2⟩ := cz3 BR) | (go_at_call 57; (with_reducible refine (HO.out A1 c1 A2 c2 A3 c3 _ (Kd.R_reads' HI0.out.r1).2.2 (Kd.R_reads' HI0.out.r1).2.1 (Kd.R_reads' HI0.out.r2).2.2 (Kd.R_reads' HI0.out.r2).2.1 (Kd.R_reads' HI0.out.r3).2.2 (Kd.R_reads' HI0.out.r3).2.1).mono ?_); rintro e w2 ⟨rfl, hb⟩; clear hr0 hr1 hr2 hs0 hs1 hs2 hx0 hx1 hx2 hy0 hy1 hy2; have n0_ := Aside0.mk (HI0.out.later hb); have n1_ := Aside0.mk (blk_below BR.out hb); clear HI0 BR hb; have HI0 := n0_; have BR := n1_; clear n0_ n1_; have BX := Aside0.mk HI0.out.box; obtain ⟨hx0, hx1, hx2, hy0, hy1, hy2⟩ := cz3 BX; clear BX; obtain ⟨hr0, hr1, hr2, hs0, hs1, hs2⟩ := cz3 BR) | (go_at_call 54; (with_reducible refine (HA.out A1 c1 A2 c2 A3 c3 _ (Kd.R_reads' HI0.out.r1).2.2 (Kd.R_reads' HI0.out.r1).2.1 (Kd.R_reads' HI0.out.r2).2.2 (Kd.R_reads' HI0.out.r2).2.1 (Kd.R_reads' HI0.out.r3).2.2 (Kd.R_reads' HI0.out.r3).2.1).mono ?_); rintro e w2 ⟨rfl, hb⟩; clear hr0 hr1 hr2 hs0 hs1 hs2 hx0 hx1 hx2 hy0 hy1 hy2; have n0_ := Aside0.mk (HI0.out.later hb); have n1_ := Aside0.mk (blk_below BR.out hb); clear HI0 BR hb; have HI0 := n0_; have BR := n1_; clear n0_ n1_; have BX := Aside0.mk HI0.out.box; obtain ⟨hx0, hx1, hx2, hy0, hy1, hy2⟩ := cz3 BX; clear BX; obtain ⟨hr0, hr1, hr2, hs0, hs1, hs2⟩ := cz3 BR))
   (first | go_region_held3 (fun w' : World => w'.cell? ⟨g, 0, none⟩ = some (.slice A1 R.length c1) ∧ w'.cell? ⟨g, 1, none⟩ = some (.slice A2 L.length c2) ∧ w'.cell? ⟨g, 2, none⟩ = some (.slice A3 B.length c3) ∧ w'.cell? ⟨gb, 0, none⟩ = some (.string nm) ∧ w'.cell? ⟨gb, 1, none⟩ = some (.string sd) ∧ w'.cell? ⟨gb, 2, none⟩ = some (.int .i64 pn)) (first | exact ⟨hx0, hx1, hx2, hr0, hr1, hr2⟩) (first | (go_at_call 63; (with_reducible refine (HT.out A1 c1 A2 c2 A3 c3 _ (Kd.R_reads' HI0.out.drew.r1).2.2 (Kd.R_reads' HI0.out.drew.r1).2.1 (Kd.R_reads' HI0.out.drew.r2).2.2 (Kd.R_reads' HI0.out.drew.r2).2.1 (Kd.R_reads' HI0.out.drew.r3).2.2 (Kd.R_reads' HI0.out.drew.r3).2.1).mono ?_); rintro e w2 ⟨rfl, hb⟩; clear hr0 hr1 hr2 hs0 hs1 hs2 hx0 hx1 hx2 hy0 hy1 hy2; have n0_ := Aside0.mk (HI0.out.drew.later hb); have n1_ := Aside0.mk (blk_below (blk_drew BR.out) hb); clear HI0 BR hb; have HI0 := n0_; have BR := n1_; clear n0_ n1_; have BX := Aside0.mk HI0.out.box; obtain ⟨hx0, hx1, hx2, hy0, hy1, hy2⟩ := cz3 BX; clear BX; obtain ⟨hr0, hr1, hr2, hs0, hs1, hs2⟩ := cz3 BR) | (go_at_call 56; (with_reducible refine (HE.out A2 c2 _ (Kd.R_reads' HI0.out.r2).2.2 (Kd.R_reads' HI0.out.r2).2.1).mono ?_); rintro e w2 ⟨rfl, hd⟩; obtain ⟨nd, rfl⟩ := hd; clear hr0 hr1 hr2 hs0 hs1 hs2 hx0 hx1 hx2 hy0 hy1 hy2; have n0_ := Aside0.mk (HI0.out.drawn ⟨⟨nd, rfl⟩⟩); have n1_ := Aside0.mk (blk_drewN BR.out nd); clear HI0 BR; have HI0 := n0_; have BR := n1_; clear n0_ n1_; generalize World.drewN _ nd = w2 at HI0 BR ⊢; have BX := Aside0.mk HI0.out.box; obtain ⟨hx0, hx1, hx2, hy0, hy1, hy2⟩ := cz3 BX; clear BX; obtain ⟨hr0, hr1, hr2, hs0, hs1, hs2⟩ := cz3 BR) | (go_at_call 53; (with_reducible refine (HW.out A1 c1 A2 c2 A3 c3 _ (Kd.R_reads' HI0.out.r1).2.2 (Kd.R_reads' HI0.out.r1).2.1 (Kd.R_reads' HI0.out.r2).2.2 (Kd.R_reads' HI0.out.r2).2.1 (Kd.R_reads' HI0.out.r3).2.2 (Kd.R_reads' HI0.out.r3).2.1).mono ?_); rintro e w2 ⟨rfl, hb⟩; clear hr0 hr1 hr2 hs0 hs1 hs2 hx0 hx1 hx2 hy0 hy1 hy2; have n0_ := Aside0.mk (HI0.out.later hb); have n1_ := Aside0.mk (blk_below BR.out hb); clear HI0 BR hb; have HI0 := n0_; have BR := n1_; clear n0_ n1_; have BX := Aside0.mk HI0.out.box; obtain ⟨hx0, hx1, hx2, hy0, hy1, hy2⟩ := cz3 BX; clear BX; obtain ⟨hr0, hr1, hr2, hs0, hs1, hs2⟩ := cz3 BR) | (go_at_call 57; (with_reducible refine (HO.out A1 c1 A2 c2 A3 c3 _ (Kd.R_reads' HI0.out.r1).2.2 (Kd.R_reads' HI0.out.r1).2.1 (Kd.R_reads' HI0.out.r2).2.2 (Kd.R_reads' HI0.out.r2).2.1 (Kd.R_reads' HI0.out.r3).2.2 (Kd.R_reads' HI0.out.r3).2.1).mono ?_); rintro e w2 ⟨rfl, hb⟩; clear hr0 hr1 hr2 hs0 hs1 hs2 hx0 hx1 hx2 hy0 hy1 hy2; have n0_ := Aside0.mk (HI0.out.later hb); have n1_ := Aside0.mk (blk_below BR.out hb); clear HI0 BR hb; have HI0 := n0_; have BR := n1_; clear n0_ n1_; have BX := Aside0.mk HI0.out.box; obtain ⟨hx0, hx1, hx2, hy0, hy1, hy2⟩ := cz3 BX; clear BX; obtain ⟨hr0, hr1, hr2, hs0, hs1, hs2⟩ := cz3 BR) | (go_at_call 54; (with_reducible refine (HA.out A1 c1 A2 c2 A3 c3 _ (Kd.R_reads' HI0.out.r1).2.2 (Kd.R_reads' HI0.out.r1).2.1 (Kd.R_reads' HI0.out.r2).2.2 (Kd.R_reads' HI0.out.r2).2.1 (Kd.R_reads' HI0.out.r3).2.2 (Kd.R_reads' HI0.out.r3).2.1).mono ?_); rintro e w2 ⟨rfl, hb⟩; clear hr0 hr1 hr2 hs0 hs1 hs2 hx0 hx1 hx2 hy0 hy1 hy2; have n0_ := Aside0.mk (HI0.out.later hb); have n1_ := Aside0.mk (blk_below BR.out hb); clear HI0 BR hb; have HI0 := n0_; have BR := n1_; clear n0_ n1_; have BX := Aside0.mk HI0.out.box; obtain ⟨hx0, hx1, hx2, hy0, hy1, hy2⟩ := cz3 BX; clear BX; obtain ⟨hr0, hr1, hr2, hs0, hs1, hs2⟩ := cz3 BR)) | fail)
   all_goals
    go_wp2_with (first | ((with_reducible refine gate_dst (N := 3) rfl ?_); refine box_event ?hg (N := 3) ?hd (cs := #[.string nm, .string sd, .int .i64 pn]) (t := 40) ?hr ?_; (case hd => rfl); (case hg => rfl); (case hr => first | (go_simp; done) | (go_simp; rfl)); intro gb hg w1 hbox hb; have n0_ := Aside0.mk (HI0.out.later hb); have n1_ := Aside0.mk hbox; clear HI0 hbox hb hg; have HI0 := n0_; have BR := n1_; clear n0_ n1_; have BX := Aside0.mk HI0.out.box; obtain ⟨hx0, hx1, hx2, hy0, hy1, hy2⟩ := cz3 BX; clear BX; obtain ⟨hr0, hr1, hr2, hs0, hs1, hs2⟩ := cz3 BR) | (go_at_call 63; (with_reducible refine (HT.out A1 c1 A2 c2 A3 c3 _ (Kd.R_reads' HI0.out.r1).2.2 (Kd.R_reads' HI0.out.r1).2.1 (Kd.R_reads' HI0.out.r2).2.2 (Kd.R_reads' HI0.out.r2).2.1 (Kd.R_reads' HI0.out.r3).2.2 (Kd.R_reads' HI0.out.r3).2.1).mono ?_); rintro e w2 ⟨rfl, hb⟩; clear hr0 hr1 hr2 hs0 hs1 hs2 hx0 hx1 hx2 hy0 hy1 hy2; have n0_ := Aside0.mk (HI0.out.later hb); have n1_ := Aside0.mk (blk_below BR.out hb); clear HI0 BR hb; have HI0 := n0_; have BR := n1_; clear n0_ n1_; have BX := Aside0.mk HI0.out.box; obtain ⟨hx0, hx1, hx2, hy0, hy1, hy2⟩ := cz3 BX; clear BX; obtain ⟨hr0, hr1, hr2, hs0, hs1, hs2⟩ := cz3 BR) | (go_at_call 56; (with_reducible refine (HE.out A2 c2 _ (Kd.R_reads' HI0.out.r2).2.2 (Kd.R_reads' HI0.out.r2).2.1).mono ?_); rintro e w2 ⟨rfl, hd⟩; obtain ⟨nd, rfl⟩ := hd; clear hr0 hr1 hr2 hs0 hs1 hs2 hx0 hx1 hx2 hy0 hy1 hy2; have n0_ := Aside0.mk (HI0.out.drawn ⟨⟨nd, rfl⟩⟩); have n1_ := Aside0.mk (blk_drewN BR.out nd); clear HI0 BR; have HI0 := n0_; have BR := n1_; clear n0_ n1_; generalize World.drewN _ nd = w2 at HI0 BR ⊢; have BX := Aside0.mk HI0.out.box; obtain ⟨hx0, hx1, hx2, hy0, hy1, hy2⟩ := cz3 BX; clear BX; obtain ⟨hr0, hr1, hr2, hs0, hs1, hs2⟩ := cz3 BR) | (go_at_call 53; (with_reducible refine (HW.out A1 c1 A2 c2 A3 c3 _ (Kd.R_reads' HI0.out.r1).2.2 (Kd.R_reads' HI0.out.r1).2.1 (Kd.R_reads' HI0.out.r2).2.2 (Kd.R_reads' HI0.out.r2).2.1 (Kd.R_reads' HI0.out.r3).2.2 (Kd.R_reads' HI0.out.r3).2.1).mono ?_); rintro e w2 ⟨rfl, hb⟩; clear hr0 hr1 hr2 hs0 hs1 hs2 hx0 hx1 hx2 hy0 hy1 hy2; have n0_ := Aside0.mk (HI0.out.later hb); have n1_ := Aside0.mk (blk_below BR.out hb); clear HI0 BR hb; have HI0 := n0_; have BR := n1_; clear n0_ n1_; have BX := Aside0.mk HI0.out.box; obtain ⟨hx0, hx1, hx2, hy0, hy1, hy2⟩ := cz3 BX; clear BX; obtain ⟨hr0, hr1, hr2, hs0, hs1, hs2⟩ := cz3 BR) | (go_at_call 57; (with_reducible refine (HO.out A1 c1 A2 c2 A3 c3 _ (Kd.R_reads' HI0.out.r1).2.2 (Kd.R_reads' HI0.out.r1).2.1 (Kd.R_reads' HI0.out.r2).2.2 (Kd.R_reads' HI0.out.r2).2.1 (Kd.R_reads' HI0.out.r3).2.2 (Kd.R_reads' HI0.out.r3).2.1).mono ?_); rintro e w2 ⟨rfl, hb⟩; clear hr0 hr1 hr2 hs0 hs1 hs2 hx0 hx1 hx2 hy0 hy1 hy2; have n0_ := Aside0.mk (HI0.out.later hb); have n1_ := Aside0.mk (blk_below BR.out hb); clear HI0 BR hb; have HI0 := n0_; have BR := n1_; clear n0_ n1_; have BX := Aside0.mk HI0.out.box; obtain ⟨hx0, hx1, hx2, hy0, hy1, hy2⟩ := cz3 BX; clear BX; obtain ⟨hr0, hr1, hr2, hs0, hs1, hs2⟩ := cz3 BR) | (go_at_call 54; (with_reducible refine (HA.out A1 c1 A2 c2 A3 c3 _ (Kd.R_reads' HI0.out.r1).2.2 (Kd.R_reads' HI0.out.r1).2.1 (Kd.R_reads' HI0.out.r2).2.2 (Kd.R_reads' HI0.out.r2).2.1 (Kd.R_reads' HI0.out.r3).2.2 (Kd.R_reads' HI0.out.r3).2.1).mono ?_); rintro e w2 ⟨rfl, hb⟩; clear hr0 hr1 hr2 hs0 hs1 hs2 hx0 hx1 hx2 hy0 hy1 hy2; have n0_ := Aside0.mk (HI0.out.later hb); have n1_ := Aside0.mk (blk_below BR.out hb); clear HI0 BR hb; have HI0 := n0_; have BR := n1_; clear n0_ n1_; have BX := Aside0.mk HI0.out.box; obtain ⟨hx0, hx1, hx2, hy0, hy1, hy2⟩ := cz3 BX; clear BX; obtain ⟨hr0, hr1, hr2, hs0, hs1, hs2⟩ := cz3 BR))
    go_ret
    exact ⟨_, by rw [addBelayN, if_neg (show ¬ t < 0 by have := HT0.out; omega), if_pos rfl]; rfl, by simpa [addBelayB, addBelayN, show ¬ t < 0 by have := HT0.out; omega] using HI0.out⟩
  | true =>
   cases b3 with
   | false =>
    go_enter Try.func47, Try.ntmps47
    go_wp2_with (first | ((with_reducible refine gate_dst (N := 3) rfl ?_); refine box_event ?hg (N := 3) ?hd (cs := #[.string nm, .string sd, .int .i64 pn]) (t := 40) ?hr ?_; (case hd => rfl); (case hg => rfl); (case hr => first | (go_simp; done) | (go_simp; rfl)); intro gb hg w1 hbox hb; have n0_ := Aside0.mk (HI0.out.later hb); have n1_ := Aside0.mk hbox; clear HI0 hbox hb hg; have HI0 := n0_; have BR := n1_; clear n0_ n1_; have BX := Aside0.mk HI0.out.box; obtain ⟨hx0, hx1, hx2, hy0, hy1, hy2⟩ := cz3 BX; clear BX; obtain ⟨hr0, hr1, hr2, hs0, hs1, hs2⟩ := cz3 BR) | (go_at_call 63; (with_reducible refine (HT.out A1 c1 A2 c2 A3 c3 _ (Kd.R_reads' HI0.out.r1).2.2 (Kd.R_reads' HI0.out.r1).2.1 (Kd.R_reads' HI0.out.r2).2.2 (Kd.R_reads' HI0.out.r2).2.1 (Kd.R_reads' HI0.out.r3).2.2 (Kd.R_reads' HI0.out.r3).2.1).mono ?_); rintro e w2 ⟨rfl, hb⟩; clear hr0 hr1 hr2 hs0 hs1 hs2 hx0 hx1 hx2 hy0 hy1 hy2; have n0_ := Aside0.mk (HI0.out.later hb); have n1_ := Aside0.mk (blk_below BR.out hb); clear HI0 BR hb; have HI0 := n0_; have BR := n1_; clear n0_ n1_; have BX := Aside0.mk HI0.out.box; obtain ⟨hx0, hx1, hx2, hy0, hy1, hy2⟩ := cz3 BX; clear BX; obtain ⟨hr0, hr1, hr2, hs0, hs1, hs2⟩ := cz3 BR) | (go_at_call 56; (with_reducible refine (HE.out A2 c2 _ (Kd.R_reads' HI0.out.r2).2.2 (Kd.R_reads' HI0.out.r2).2.1).mono ?_); rintro e w2 ⟨rfl, hd⟩; obtain ⟨nd, rfl⟩ := hd; clear hr0 hr1 hr2 hs0 hs1 hs2 hx0 hx1 hx2 hy0 hy1 hy2; have n0_ := Aside0.mk (HI0.out.drawn ⟨⟨nd, rfl⟩⟩); have n1_ := Aside0.mk (blk_drewN BR.out nd); clear HI0 BR; have HI0 := n0_; have BR := n1_; clear n0_ n1_; generalize World.drewN _ nd = w2 at HI0 BR ⊢; have BX := Aside0.mk HI0.out.box; obtain ⟨hx0, hx1, hx2, hy0, hy1, hy2⟩ := cz3 BX; clear BX; obtain ⟨hr0, hr1, hr2, hs0, hs1, hs2⟩ := cz3 BR) | (go_at_call 53; (with_reducible refine (HW.out A1 c1 A2 c2 A3 c3 _ (Kd.R_reads' HI0.out.r1).2.2 (Kd.R_reads' HI0.out.r1).2.1 (Kd.R_reads' HI0.out.r2).2.2 (Kd.R_reads' HI0.out.r2).2.1 (Kd.R_reads' HI0.out.r3).2.2 (Kd.R_reads' HI0.out.r3).2.1).mono ?_); rintro e w2 ⟨rfl, hb⟩; clear hr0 hr1 hr2 hs0 hs1 hs2 hx0 hx1 hx2 hy0 hy1 hy2; have n0_ := Aside0.mk (HI0.out.later hb); have n1_ := Aside0.mk (blk_below BR.out hb); clear HI0 BR hb; have HI0 := n0_; have BR := n1_; clear n0_ n1_; have BX := Aside0.mk HI0.out.box; obtain ⟨hx0, hx1, hx2, hy0, hy1, hy2⟩ := cz3 BX; clear BX; obtain ⟨hr0, hr1, hr2, hs0, hs1, hs2⟩ := cz3 BR) | (go_at_call 57; (with_reducible refine (HO.out A1 c1 A2 c2 A3 c3 _ (Kd.R_reads' HI0.out.r1).2.2 (Kd.R_reads' HI0.out.r1).2.1 (Kd.R_reads' HI0.out.r2).2.2 (Kd.R_reads' HI0.out.r2).2.1 (Kd.R_reads' HI0.out.r3).2.2 (Kd.R_reads' HI0.out.r3).2.1).mono ?_); rintro e w2 ⟨rfl, hb⟩; clear hr0 hr1 hr2 hs0 hs1 hs2 hx0 hx1 hx2 hy0 hy1 hy2; have n0_ := Aside0.mk (HI0.out.later hb); have n1_ := Aside0.mk (blk_below BR.out hb); clear HI0 BR hb; have HI0 := n0_; have BR := n1_; clear n0_ n1_; have BX := Aside0.mk HI0.out.box; obtain ⟨hx0, hx1, hx2, hy0, hy1, hy2⟩ := cz3 BX; clear BX; obtain ⟨hr0, hr1, hr2, hs0, hs1, hs2⟩ := cz3 BR) | (go_at_call 54; (with_reducible refine (HA.out A1 c1 A2 c2 A3 c3 _ (Kd.R_reads' HI0.out.r1).2.2 (Kd.R_reads' HI0.out.r1).2.1 (Kd.R_reads' HI0.out.r2).2.2 (Kd.R_reads' HI0.out.r2).2.1 (Kd.R_reads' HI0.out.r3).2.2 (Kd.R_reads' HI0.out.r3).2.1).mono ?_); rintro e w2 ⟨rfl, hb⟩; clear hr0 hr1 hr2 hs0 hs1 hs2 hx0 hx1 hx2 hy0 hy1 hy2; have n0_ := Aside0.mk (HI0.out.later hb); have n1_ := Aside0.mk (blk_below BR.out hb); clear HI0 BR hb; have HI0 := n0_; have BR := n1_; clear n0_ n1_; have BX := Aside0.mk HI0.out.box; obtain ⟨hx0, hx1, hx2, hy0, hy1, hy2⟩ := cz3 BX; clear BX; obtain ⟨hr0, hr1, hr2, hs0, hs1, hs2⟩ := cz3 BR))
    (first | go_region_held3 (fun w' : World => w'.cell? ⟨g, 0, none⟩ = some (.slice A1 R.length c1) ∧ w'.cell? ⟨g, 1, none⟩ = some (.slice A2 L.length c2) ∧ w'.cell? ⟨g, 2, none⟩ = some (.slice A3 B.length c3) ∧ w'.cell? ⟨gb, 0, none⟩ = some (.string nm) ∧ w'.cell? ⟨gb, 1, none⟩ = some (.string sd) ∧ w'.cell? ⟨gb, 2, none⟩ = some (.int .i64 pn)) (first | exact ⟨hx0, hx1, hx2, hr0, hr1, hr2⟩) (first | (go_at_call 63; (with_reducible refine (HT.out A1 c1 A2 c2 A3 c3 _ (Kd.R_reads' HI0.out.drew.r1).2.2 (Kd.R_reads' HI0.out.drew.r1).2.1 (Kd.R_reads' HI0.out.drew.r2).2.2 (Kd.R_reads' HI0.out.drew.r2).2.1 (Kd.R_reads' HI0.out.drew.r3).2.2 (Kd.R_reads' HI0.out.drew.r3).2.1).mono ?_); rintro e w2 ⟨rfl, hb⟩; clear hr0 hr1 hr2 hs0 hs1 hs2 hx0 hx1 hx2 hy0 hy1 hy2; have n0_ := Aside0.mk (HI0.out.drew.later hb); have n1_ := Aside0.mk (blk_below (blk_drew BR.out) hb); clear HI0 BR hb; have HI0 := n0_; have BR := n1_; clear n0_ n1_; have BX := Aside0.mk HI0.out.box; obtain ⟨hx0, hx1, hx2, hy0, hy1, hy2⟩ := cz3 BX; clear BX; obtain ⟨hr0, hr1, hr2, hs0, hs1, hs2⟩ := cz3 BR) | (go_at_call 56; (with_reducible refine (HE.out A2 c2 _ (Kd.R_reads' HI0.out.r2).2.2 (Kd.R_reads' HI0.out.r2).2.1).mono ?_); rintro e w2 ⟨rfl, hd⟩; obtain ⟨nd, rfl⟩ := hd; clear hr0 hr1 hr2 hs0 hs1 hs2 hx0 hx1 hx2 hy0 hy1 hy2; have n0_ := Aside0.mk (HI0.out.drawn ⟨⟨nd, rfl⟩⟩); have n1_ := Aside0.mk (blk_drewN BR.out nd); clear HI0 BR; have HI0 := n0_; have BR := n1_; clear n0_ n1_; generalize World.drewN _ nd = w2 at HI0 BR ⊢; have BX := Aside0.mk HI0.out.box; obtain ⟨hx0, hx1, hx2, hy0, hy1, hy2⟩ := cz3 BX; clear BX; obtain ⟨hr0, hr1, hr2, hs0, hs1, hs2⟩ := cz3 BR) | (go_at_call 53; (with_reducible refine (HW.out A1 c1 A2 c2 A3 c3 _ (Kd.R_reads' HI0.out.r1).2.2 (Kd.R_reads' HI0.out.r1).2.1 (Kd.R_reads' HI0.out.r2).2.2 (Kd.R_reads' HI0.out.r2).2.1 (Kd.R_reads' HI0.out.r3).2.2 (Kd.R_reads' HI0.out.r3).2.1).mono ?_); rintro e w2 ⟨rfl, hb⟩; clear hr0 hr1 hr2 hs0 hs1 hs2 hx0 hx1 hx2 hy0 hy1 hy2; have n0_ := Aside0.mk (HI0.out.later hb); have n1_ := Aside0.mk (blk_below BR.out hb); clear HI0 BR hb; have HI0 := n0_; have BR := n1_; clear n0_ n1_; have BX := Aside0.mk HI0.out.box; obtain ⟨hx0, hx1, hx2, hy0, hy1, hy2⟩ := cz3 BX; clear BX; obtain ⟨hr0, hr1, hr2, hs0, hs1, hs2⟩ := cz3 BR) | (go_at_call 57; (with_reducible refine (HO.out A1 c1 A2 c2 A3 c3 _ (Kd.R_reads' HI0.out.r1).2.2 (Kd.R_reads' HI0.out.r1).2.1 (Kd.R_reads' HI0.out.r2).2.2 (Kd.R_reads' HI0.out.r2).2.1 (Kd.R_reads' HI0.out.r3).2.2 (Kd.R_reads' HI0.out.r3).2.1).mono ?_); rintro e w2 ⟨rfl, hb⟩; clear hr0 hr1 hr2 hs0 hs1 hs2 hx0 hx1 hx2 hy0 hy1 hy2; have n0_ := Aside0.mk (HI0.out.later hb); have n1_ := Aside0.mk (blk_below BR.out hb); clear HI0 BR hb; have HI0 := n0_; have BR := n1_; clear n0_ n1_; have BX := Aside0.mk HI0.out.box; obtain ⟨hx0, hx1, hx2, hy0, hy1, hy2⟩ := cz3 BX; clear BX; obtain ⟨hr0, hr1, hr2, hs0, hs1, hs2⟩ := cz3 BR) | (go_at_call 54; (with_reducible refine (HA.out A1 c1 A2 c2 A3 c3 _ (Kd.R_reads' HI0.out.r1).2.2 (Kd.R_reads' HI0.out.r1).2.1 (Kd.R_reads' HI0.out.r2).2.2 (Kd.R_reads' HI0.out.r2).2.1 (Kd.R_reads' HI0.out.r3).2.2 (Kd.R_reads' HI0.out.r3).2.1).mono ?_); rintro e w2 ⟨rfl, hb⟩; clear hr0 hr1 hr2 hs0 hs1 hs2 hx0 hx1 hx2 hy0 hy1 hy2; have n0_ := Aside0.mk (HI0.out.later hb); have n1_ := Aside0.mk (blk_below BR.out hb); clear HI0 BR hb; have HI0 := n0_; have BR := n1_; clear n0_ n1_; have BX := Aside0.mk HI0.out.box; obtain ⟨hx0, hx1, hx2, hy0, hy1, hy2⟩ := cz3 BX; clear BX; obtain ⟨hr0, hr1, hr2, hs0, hs1, hs2⟩ := cz3 BR)) | fail)
    all_goals
     go_wp2_with (first | ((with_reducible refine gate_dst (N := 3) rfl ?_); refine box_event ?hg (N := 3) ?hd (cs := #[.string nm, .string sd, .int .i64 pn]) (t := 40) ?hr ?_; (case hd => rfl); (case hg => rfl); (case hr => first | (go_simp; done) | (go_simp; rfl)); intro gb hg w1 hbox hb; have n0_ := Aside0.mk (HI0.out.later hb); have n1_ := Aside0.mk hbox; clear HI0 hbox hb hg; have HI0 := n0_; have BR := n1_; clear n0_ n1_; have BX := Aside0.mk HI0.out.box; obtain ⟨hx0, hx1, hx2, hy0, hy1, hy2⟩ := cz3 BX; clear BX; obtain ⟨hr0, hr1, hr2, hs0, hs1, hs2⟩ := cz3 BR) | (go_at_call 63; (with_reducible refine (HT.out A1 c1 A2 c2 A3 c3 _ (Kd.R_reads' HI0.out.r1).2.2 (Kd.R_reads' HI0.out.r1).2.1 (Kd.R_reads' HI0.out.r2).2.2 (Kd.R_reads' HI0.out.r2).2.1 (Kd.R_reads' HI0.out.r3).2.2 (Kd.R_reads' HI0.out.r3).2.1).mono ?_); rintro e w2 ⟨rfl, hb⟩; clear hr0 hr1 hr2 hs0 hs1 hs2 hx0 hx1 hx2 hy0 hy1 hy2; have n0_ := Aside0.mk (HI0.out.later hb); have n1_ := Aside0.mk (blk_below BR.out hb); clear HI0 BR hb; have HI0 := n0_; have BR := n1_; clear n0_ n1_; have BX := Aside0.mk HI0.out.box; obtain ⟨hx0, hx1, hx2, hy0, hy1, hy2⟩ := cz3 BX; clear BX; obtain ⟨hr0, hr1, hr2, hs0, hs1, hs2⟩ := cz3 BR) | (go_at_call 56; (with_reducible refine (HE.out A2 c2 _ (Kd.R_reads' HI0.out.r2).2.2 (Kd.R_reads' HI0.out.r2).2.1).mono ?_); rintro e w2 ⟨rfl, hd⟩; obtain ⟨nd, rfl⟩ := hd; clear hr0 hr1 hr2 hs0 hs1 hs2 hx0 hx1 hx2 hy0 hy1 hy2; have n0_ := Aside0.mk (HI0.out.drawn ⟨⟨nd, rfl⟩⟩); have n1_ := Aside0.mk (blk_drewN BR.out nd); clear HI0 BR; have HI0 := n0_; have BR := n1_; clear n0_ n1_; generalize World.drewN _ nd = w2 at HI0 BR ⊢; have BX := Aside0.mk HI0.out.box; obtain ⟨hx0, hx1, hx2, hy0, hy1, hy2⟩ := cz3 BX; clear BX; obtain ⟨hr0, hr1, hr2, hs0, hs1, hs2⟩ := cz3 BR) | (go_at_call 53; (with_reducible refine (HW.out A1 c1 A2 c2 A3 c3 _ (Kd.R_reads' HI0.out.r1).2.2 (Kd.R_reads' HI0.out.r1).2.1 (Kd.R_reads' HI0.out.r2).2.2 (Kd.R_reads' HI0.out.r2).2.1 (Kd.R_reads' HI0.out.r3).2.2 (Kd.R_reads' HI0.out.r3).2.1).mono ?_); rintro e w2 ⟨rfl, hb⟩; clear hr0 hr1 hr2 hs0 hs1 hs2 hx0 hx1 hx2 hy0 hy1 hy2; have n0_ := Aside0.mk (HI0.out.later hb); have n1_ := Aside0.mk (blk_below BR.out hb); clear HI0 BR hb; have HI0 := n0_; have BR := n1_; clear n0_ n1_; have BX := Aside0.mk HI0.out.box; obtain ⟨hx0, hx1, hx2, hy0, hy1, hy2⟩ := cz3 BX; clear BX; obtain ⟨hr0, hr1, hr2, hs0, hs1, hs2⟩ := cz3 BR) | (go_at_call 57; (with_reducible refine (HO.out A1 c1 A2 c2 A3 c3 _ (Kd.R_reads' HI0.out.r1).2.2 (Kd.R_reads' HI0.out.r1).2.1 (Kd.R_reads' HI0.out.r2).2.2 (Kd.R_reads' HI0.out.r2).2.1 (Kd.R_reads' HI0.out.r3).2.2 (Kd.R_reads' HI0.out.r3).2.1).mono ?_); rintro e w2 ⟨rfl, hb⟩; clear hr0 hr1 hr2 hs0 hs1 hs2 hx0 hx1 hx2 hy0 hy1 hy2; have n0_ := Aside0.mk (HI0.out.later hb); have n1_ := Aside0.mk (blk_below BR.out hb); clear HI0 BR hb; have HI0 := n0_; have BR := n1_; clear n0_ n1_; have BX := Aside0.mk HI0.out.box; obtain ⟨hx0, hx1, hx2, hy0, hy1, hy2⟩ := cz3 BX; clear BX; obtain ⟨hr0, hr1, hr2, hs0, hs1, hs2⟩ := cz3 BR) | (go_at_call 54; (with_reducible refine (HA.out A1 c1 A2 c2 A3 c3 _ (Kd.R_reads' HI0.out.r1).2.2 (Kd.R_reads' HI0.out.r1).2.1 (Kd.R_reads' HI0.out.r2).2.2 (Kd.R_reads' HI0.out.r2).2.1 (Kd.R_reads' HI0.out.r3).2.2 (Kd.R_reads' HI0.out.r3).2.1).mono ?_); rintro e w2 ⟨rfl, hb⟩; clear hr0 hr1 hr2 hs0 hs1 hs2 hx0 hx1 hx2 hy0 hy1 hy2; have n0_ := Aside0.mk (HI0.out.later hb); have n1_ := Aside0.mk (blk_below BR.out hb); clear HI0 BR hb; have HI0 := n0_; have BR := n1_; clear n0_ n1_; have BX := Aside0.mk HI0.out.box; obtain ⟨hx0, hx1, hx2, hy0, hy1, hy2⟩ := cz3 BX; clear BX; obtain ⟨hr0, hr1, hr2, hs0, hs1, hs2⟩ := cz3 BR))
     go_still_tail 7, (by kernel_rfl)
     change wpList _ _ _ _ _ w2.drew
     clear hr0 hr1 hr2 hs0 hs1 hs2 hx0 hx1 hx2 hy0 hy1 hy2
     have n0_ := Aside0.mk HI0.out.drew
     have n1_ := Aside0.mk (blk_drew BR.out)
     clear HI0 BR
     have HI0 := n0_
     have BR := n1_
     clear n0_ n1_
     generalize w2.drew = wd at HI0 BR ⊢
     have BX := Aside0.mk HI0.out.box
     obtain ⟨hx0, hx1, hx2, hy0, hy1, hy2⟩ := cz3 BX
     clear BX
     obtain ⟨hr0, hr1, hr2, hs0, hs1, hs2⟩ := cz3 BR
     go_wp2_with (first | ((with_reducible refine gate_dst (N := 3) rfl ?_); refine box_event ?hg (N := 3) ?hd (cs := #[.string nm, .string sd, .int .i64 pn]) (t := 40) ?hr ?_; (case hd => rfl); (case hg => rfl); (case hr => first | (go_simp; done) | (go_simp; rfl)); intro gb hg w1 hbox hb; have n0_ := Aside0.mk (HI0.out.later hb); have n1_ := Aside0.mk hbox; clear HI0 hbox hb hg; have HI0 := n0_; have BR := n1_; clear n0_ n1_; have BX := Aside0.mk HI0.out.box; obtain ⟨hx0, hx1, hx2, hy0, hy1, hy2⟩ := cz3 BX; clear BX; obtain ⟨hr0, hr1, hr2, hs0, hs1, hs2⟩ := cz3 BR) | (go_at_call 63; (with_reducible refine (HT.out A1 c1 A2 c2 A3 c3 _ (Kd.R_reads' HI0.out.r1).2.2 (Kd.R_reads' HI0.out.r1).2.1 (Kd.R_reads' HI0.out.r2).2.2 (Kd.R_reads' HI0.out.r2).2.1 (Kd.R_reads' HI0.out.r3).2.2 (Kd.R_reads' HI0.out.r3).2.1).mono ?_); rintro e w2 ⟨rfl, hb⟩; clear hr0 hr1 hr2 hs0 hs1 hs2 hx0 hx1 hx2 hy0 hy1 hy2; have n0_ := Aside0.mk (HI0.out.later hb); have n1_ := Aside0.mk (blk_below BR.out hb); clear HI0 BR hb; have HI0 := n0_; have BR := n1_; clear n0_ n1_; have BX := Aside0.mk HI0.out.box; obtain ⟨hx0, hx1, hx2, hy0, hy1, hy2⟩ := cz3 BX; clear BX; obtain ⟨hr0, hr1, hr2, hs0, hs1, hs2⟩ := cz3 BR) | (go_at_call 56; (with_reducible refine (HE.out A2 c2 _ (Kd.R_reads' HI0.out.r2).2.2 (Kd.R_reads' HI0.out.r2).2.1).mono ?_); rintro e w2 ⟨rfl, hd⟩; obtain ⟨nd, rfl⟩ := hd; clear hr0 hr1 hr2 hs0 hs1 hs2 hx0 hx1 hx2 hy0 hy1 hy2; have n0_ := Aside0.mk (HI0.out.drawn ⟨⟨nd, rfl⟩⟩); have n1_ := Aside0.mk (blk_drewN BR.out nd); clear HI0 BR; have HI0 := n0_; have BR := n1_; clear n0_ n1_; generalize World.drewN _ nd = w2 at HI0 BR ⊢; have BX := Aside0.mk HI0.out.box; obtain ⟨hx0, hx1, hx2, hy0, hy1, hy2⟩ := cz3 BX; clear BX; obtain ⟨hr0, hr1, hr2, hs0, hs1, hs2⟩ := cz3 BR) | (go_at_call 53; (with_reducible refine (HW.out A1 c1 A2 c2 A3 c3 _ (Kd.R_reads' HI0.out.r1).2.2 (Kd.R_reads' HI0.out.r1).2.1 (Kd.R_reads' HI0.out.r2).2.2 (Kd.R_reads' HI0.out.r2).2.1 (Kd.R_reads' HI0.out.r3).2.2 (Kd.R_reads' HI0.out.r3).2.1).mono ?_); rintro e w2 ⟨rfl, hb⟩; clear hr0 hr1 hr2 hs0 hs1 hs2 hx0 hx1 hx2 hy0 hy1 hy2; have n0_ := Aside0.mk (HI0.out.later hb); have n1_ := Aside0.mk (blk_below BR.out hb); clear HI0 BR hb; have HI0 := n0_; have BR := n1_; clear n0_ n1_; have BX := Aside0.mk HI0.out.box; obtain ⟨hx0, hx1, hx2, hy0, hy1, hy2⟩ := cz3 BX; clear BX; obtain ⟨hr0, hr1, hr2, hs0, hs1, hs2⟩ := cz3 BR) | (go_at_call 57; (with_reducible refine (HO.out A1 c1 A2 c2 A3 c3 _ (Kd.R_reads' HI0.out.r1).2.2 (Kd.R_reads' HI0.out.r1).2.1 (Kd.R_reads' HI0.out.r2).2.2 (Kd.R_reads' HI0.out.r2).2.1 (Kd.R_reads' HI0.out.r3).2.2 (Kd.R_reads' HI0.out.r3).2.1).mono ?_); rintro e w2 ⟨rfl, hb⟩; clear hr0 hr1 hr2 hs0 hs1 hs2 hx0 hx1 hx2 hy0 hy1 hy2; have n0_ := Aside0.mk (HI0.out.later hb); have n1_ := Aside0.mk (blk_below BR.out hb); clear HI0 BR hb; have HI0 := n0_; have BR := n1_; clear n0_ n1_; have BX := Aside0.mk HI0.out.box; obtain ⟨hx0, hx1, hx2, hy0, hy1, hy2⟩ := cz3 BX; clear BX; obtain ⟨hr0, hr1, hr2, hs0, hs1, hs2⟩ := cz3 BR) | (go_at_call 54; (with_reducible refine (HA.out A1 c1 A2 c2 A3 c3 _ (Kd.R_reads' HI0.out.r1).2.2 (Kd.R_reads' HI0.out.r1).2.1 (Kd.R_reads' HI0.out.r2).2.2 (Kd.R_reads' HI0.out.r2).2.1 (Kd.R_reads' HI0.out.r3).2.2 (Kd.R_reads' HI0.out.r3).2.1).mono ?_); rintro e w2 ⟨rfl, hb⟩; clear hr0 hr1 hr2 hs0 hs1 hs2 hx0 hx1 hx2 hy0 hy1 hy2; have n0_ := Aside0.mk (HI0.out.later hb); have n1_ := Aside0.mk (blk_below BR.out hb); clear HI0 BR hb; have HI0 := n0_; have BR := n1_; clear n0_ n1_; have BX := Aside0.mk HI0.out.box; obtain ⟨hx0, hx1, hx2, hy0, hy1, hy2⟩ := cz3 BX; clear BX; obtain ⟨hr0, hr1, hr2, hs0, hs1, hs2⟩ := cz3 BR))
     go_ret
     exact ⟨_, by rw [addBelayN, if_neg (show ¬ t < 0 by have := HT0.out; omega), if_neg (by simp), if_pos rfl]; rfl, by simpa [addBelayB, addBelayN, show ¬ t < 0 by have := HT0.out; omega] using HI0.out⟩
   | true =>
    by_cases ho : o ≥ 0
    ·have ho0 : decide (o ≥ 0) = true := decide_eq_true ho
     have ho1 : decide (0 ≤ o) = true := decide_eq_true ho
     have HO0 := Aside0.mk ho
     clear ho
     go_enter Try.func47, Try.ntmps47
     go_wp2_with (first | ((with_reducible refine gate_dst (N := 3) rfl ?_); refine box_event ?hg (N := 3) ?hd (cs := #[.string nm, .string sd, .int .i64 pn]) (t := 40) ?hr ?_; (case hd => rfl); (case hg => rfl); (case hr => first | (go_simp; done) | (go_simp; rfl)); intro gb hg w1 hbox hb; have n0_ := Aside0.mk (HI0.out.later hb); have n1_ := Aside0.mk hbox; clear HI0 hbox hb hg; have HI0 := n0_; have BR := n1_; clear n0_ n1_; have BX := Aside0.mk HI0.out.box; obtain ⟨hx0, hx1, hx2, hy0, hy1, hy2⟩ := cz3 BX; clear BX; obtain ⟨hr0, hr1, hr2, hs0, hs1, hs2⟩ := cz3 BR) | (go_at_call 63; (with_reducible refine (HT.out A1 c1 A2 c2 A3 c3 _ (Kd.R_reads' HI0.out.r1).2.2 (Kd.R_reads' HI0.out.r1).2.1 (Kd.R_reads' HI0.out.r2).2.2 (Kd.R_reads' HI0.out.r2).2.1 (Kd.R_reads' HI0.out.r3).2.2 (Kd.R_reads' HI0.out.r3).2.1).mono ?_); rintro e w2 ⟨rfl, hb⟩; clear hr0 hr1 hr2 hs0 hs1 hs2 hx0 hx1 hx2 hy0 hy1 hy2; have n0_ := Aside0.mk (HI0.out.later hb); have n1_ := Aside0.mk (blk_below BR.out hb); clear HI0 BR hb; have HI0 := n0_; have BR := n1_; clear n0_ n1_; have BX := Aside0.mk HI0.out.box; obtain ⟨hx0, hx1, hx2, hy0, hy1, hy2⟩ := cz3 BX; clear BX; obtain ⟨hr0, hr1, hr2, hs0, hs1, hs2⟩ := cz3 BR) | (go_at_call 56; (with_reducible refine (HE.out A2 c2 _ (Kd.R_reads' HI0.out.r2).2.2 (Kd.R_reads' HI0.out.r2).2.1).mono ?_); rintro e w2 ⟨rfl, hd⟩; obtain ⟨nd, rfl⟩ := hd; clear hr0 hr1 hr2 hs0 hs1 hs2 hx0 hx1 hx2 hy0 hy1 hy2; have n0_ := Aside0.mk (HI0.out.drawn ⟨⟨nd, rfl⟩⟩); have n1_ := Aside0.mk (blk_drewN BR.out nd); clear HI0 BR; have HI0 := n0_; have BR := n1_; clear n0_ n1_; generalize World.drewN _ nd = w2 at HI0 BR ⊢; have BX := Aside0.mk HI0.out.box; obtain ⟨hx0, hx1, hx2, hy0, hy1, hy2⟩ := cz3 BX; clear BX; obtain ⟨hr0, hr1, hr2, hs0, hs1, hs2⟩ := cz3 BR) | (go_at_call 53; (with_reducible refine (HW.out A1 c1 A2 c2 A3 c3 _ (Kd.R_reads' HI0.out.r1).2.2 (Kd.R_reads' HI0.out.r1).2.1 (Kd.R_reads' HI0.out.r2).2.2 (Kd.R_reads' HI0.out.r2).2.1 (Kd.R_reads' HI0.out.r3).2.2 (Kd.R_reads' HI0.out.r3).2.1).mono ?_); rintro e w2 ⟨rfl, hb⟩; clear hr0 hr1 hr2 hs0 hs1 hs2 hx0 hx1 hx2 hy0 hy1 hy2; have n0_ := Aside0.mk (HI0.out.later hb); have n1_ := Aside0.mk (blk_below BR.out hb); clear HI0 BR hb; have HI0 := n0_; have BR := n1_; clear n0_ n1_; have BX := Aside0.mk HI0.out.box; obtain ⟨hx0, hx1, hx2, hy0, hy1, hy2⟩ := cz3 BX; clear BX; obtain ⟨hr0, hr1, hr2, hs0, hs1, hs2⟩ := cz3 BR) | (go_at_call 57; (with_reducible refine (HO.out A1 c1 A2 c2 A3 c3 _ (Kd.R_reads' HI0.out.r1).2.2 (Kd.R_reads' HI0.out.r1).2.1 (Kd.R_reads' HI0.out.r2).2.2 (Kd.R_reads' HI0.out.r2).2.1 (Kd.R_reads' HI0.out.r3).2.2 (Kd.R_reads' HI0.out.r3).2.1).mono ?_); rintro e w2 ⟨rfl, hb⟩; clear hr0 hr1 hr2 hs0 hs1 hs2 hx0 hx1 hx2 hy0 hy1 hy2; have n0_ := Aside0.mk (HI0.out.later hb); have n1_ := Aside0.mk (blk_below BR.out hb); clear HI0 BR hb; have HI0 := n0_; have BR := n1_; clear n0_ n1_; have BX := Aside0.mk HI0.out.box; obtain ⟨hx0, hx1, hx2, hy0, hy1, hy2⟩ := cz3 BX; clear BX; obtain ⟨hr0, hr1, hr2, hs0, hs1, hs2⟩ := cz3 BR) | (go_at_call 54; (with_reducible refine (HA.out A1 c1 A2 c2 A3 c3 _ (Kd.R_reads' HI0.out.r1).2.2 (Kd.R_reads' HI0.out.r1).2.1 (Kd.R_reads' HI0.out.r2).2.2 (Kd.R_reads' HI0.out.r2).2.1 (Kd.R_reads' HI0.out.r3).2.2 (Kd.R_reads' HI0.out.r3).2.1).mono ?_); rintro e w2 ⟨rfl, hb⟩; clear hr0 hr1 hr2 hs0 hs1 hs2 hx0 hx1 hx2 hy0 hy1 hy2; have n0_ := Aside0.mk (HI0.out.later hb); have n1_ := Aside0.mk (blk_below BR.out hb); clear HI0 BR hb; have HI0 := n0_; have BR := n1_; clear n0_ n1_; have BX := Aside0.mk HI0.out.box; obtain ⟨hx0, hx1, hx2, hy0, hy1, hy2⟩ := cz3 BX; clear BX; obtain ⟨hr0, hr1, hr2, hs0, hs1, hs2⟩ := cz3 BR))
     (first | go_region_held3 (fun w' : World => w'.cell? ⟨g, 0, none⟩ = some (.slice A1 R.length c1) ∧ w'.cell? ⟨g, 1, none⟩ = some (.slice A2 L.length c2) ∧ w'.cell? ⟨g, 2, none⟩ = some (.slice A3 B.length c3) ∧ w'.cell? ⟨gb, 0, none⟩ = some (.string nm) ∧ w'.cell? ⟨gb, 1, none⟩ = some (.string sd) ∧ w'.cell? ⟨gb, 2, none⟩ = some (.int .i64 pn)) (first | exact ⟨hx0, hx1, hx2, hr0, hr1, hr2⟩) (first | (go_at_call 63; (with_reducible refine (HT.out A1 c1 A2 c2 A3 c3 _ (Kd.R_reads' HI0.out.drew.r1).2.2 (Kd.R_reads' HI0.out.drew.r1).2.1 (Kd.R_reads' HI0.out.drew.r2).2.2 (Kd.R_reads' HI0.out.drew.r2).2.1 (Kd.R_reads' HI0.out.drew.r3).2.2 (Kd.R_reads' HI0.out.drew.r3).2.1).mono ?_); rintro e w2 ⟨rfl, hb⟩; clear hr0 hr1 hr2 hs0 hs1 hs2 hx0 hx1 hx2 hy0 hy1 hy2; have n0_ := Aside0.mk (HI0.out.drew.later hb); have n1_ := Aside0.mk (blk_below (blk_drew BR.out) hb); clear HI0 BR hb; have HI0 := n0_; have BR := n1_; clear n0_ n1_; have BX := Aside0.mk HI0.out.box; obtain ⟨hx0, hx1, hx2, hy0, hy1, hy2⟩ := cz3 BX; clear BX; obtain ⟨hr0, hr1, hr2, hs0, hs1, hs2⟩ := cz3 BR) | (go_at_call 56; (with_reducible refine (HE.out A2 c2 _ (Kd.R_reads' HI0.out.r2).2.2 (Kd.R_reads' HI0.out.r2).2.1).mono ?_); rintro e w2 ⟨rfl, hd⟩; obtain ⟨nd, rfl⟩ := hd; clear hr0 hr1 hr2 hs0 hs1 hs2 hx0 hx1 hx2 hy0 hy1 hy2; have n0_ := Aside0.mk (HI0.out.drawn ⟨⟨nd, rfl⟩⟩); have n1_ := Aside0.mk (blk_drewN BR.out nd); clear HI0 BR; have HI0 := n0_; have BR := n1_; clear n0_ n1_; generalize World.drewN _ nd = w2 at HI0 BR ⊢; have BX := Aside0.mk HI0.out.box; obtain ⟨hx0, hx1, hx2, hy0, hy1, hy2⟩ := cz3 BX; clear BX; obtain ⟨hr0, hr1, hr2, hs0, hs1, hs2⟩ := cz3 BR) | (go_at_call 53; (with_reducible refine (HW.out A1 c1 A2 c2 A3 c3 _ (Kd.R_reads' HI0.out.r1).2.2 (Kd.R_reads' HI0.out.r1).2.1 (Kd.R_reads' HI0.out.r2).2.2 (Kd.R_reads' HI0.out.r2).2.1 (Kd.R_reads' HI0.out.r3).2.2 (Kd.R_reads' HI0.out.r3).2.1).mono ?_); rintro e w2 ⟨rfl, hb⟩; clear hr0 hr1 hr2 hs0 hs1 hs2 hx0 hx1 hx2 hy0 hy1 hy2; have n0_ := Aside0.mk (HI0.out.later hb); have n1_ := Aside0.mk (blk_below BR.out hb); clear HI0 BR hb; have HI0 := n0_; have BR := n1_; clear n0_ n1_; have BX := Aside0.mk HI0.out.box; obtain ⟨hx0, hx1, hx2, hy0, hy1, hy2⟩ := cz3 BX; clear BX; obtain ⟨hr0, hr1, hr2, hs0, hs1, hs2⟩ := cz3 BR) | (go_at_call 57; (with_reducible refine (HO.out A1 c1 A2 c2 A3 c3 _ (Kd.R_reads' HI0.out.r1).2.2 (Kd.R_reads' HI0.out.r1).2.1 (Kd.R_reads' HI0.out.r2).2.2 (Kd.R_reads' HI0.out.r2).2.1 (Kd.R_reads' HI0.out.r3).2.2 (Kd.R_reads' HI0.out.r3).2.1).mono ?_); rintro e w2 ⟨rfl, hb⟩; clear hr0 hr1 hr2 hs0 hs1 hs2 hx0 hx1 hx2 hy0 hy1 hy2; have n0_ := Aside0.mk (HI0.out.later hb); have n1_ := Aside0.mk (blk_below BR.out hb); clear HI0 BR hb; have HI0 := n0_; have BR := n1_; clear n0_ n1_; have BX := Aside0.mk HI0.out.box; obtain ⟨hx0, hx1, hx2, hy0, hy1, hy2⟩ := cz3 BX; clear BX; obtain ⟨hr0, hr1, hr2, hs0, hs1, hs2⟩ := cz3 BR) | (go_at_call 54; (with_reducible refine (HA.out A1 c1 A2 c2 A3 c3 _ (Kd.R_reads' HI0.out.r1).2.2 (Kd.R_reads' HI0.out.r1).2.1 (Kd.R_reads' HI0.out.r2).2.2 (Kd.R_reads' HI0.out.r2).2.1 (Kd.R_reads' HI0.out.r3).2.2 (Kd.R_reads' HI0.out.r3).2.1).mono ?_); rintro e w2 ⟨rfl, hb⟩; clear hr0 hr1 hr2 hs0 hs1 hs2 hx0 hx1 hx2 hy0 hy1 hy2; have n0_ := Aside0.mk (HI0.out.later hb); have n1_ := Aside0.mk (blk_below BR.out hb); clear HI0 BR hb; have HI0 := n0_; have BR := n1_; clear n0_ n1_; have BX := Aside0.mk HI0.out.box; obtain ⟨hx0, hx1, hx2, hy0, hy1, hy2⟩ := cz3 BX; clear BX; obtain ⟨hr0, hr1, hr2, hs0, hs1, hs2⟩ := cz3 BR)) | fail)
     all_goals
      go_wp2_with (first | ((with_reducible refine gate_dst (N := 3) rfl ?_); refine box_event ?hg (N := 3) ?hd (cs := #[.string nm, .string sd, .int .i64 pn]) (t := 40) ?hr ?_; (case hd => rfl); (case hg => rfl); (case hr => first | (go_simp; done) | (go_simp; rfl)); intro gb hg w1 hbox hb; have n0_ := Aside0.mk (HI0.out.later hb); have n1_ := Aside0.mk hbox; clear HI0 hbox hb hg; have HI0 := n0_; have BR := n1_; clear n0_ n1_; have BX := Aside0.mk HI0.out.box; obtain ⟨hx0, hx1, hx2, hy0, hy1, hy2⟩ := cz3 BX; clear BX; obtain ⟨hr0, hr1, hr2, hs0, hs1, hs2⟩ := cz3 BR) | (go_at_call 63; (with_reducible refine (HT.out A1 c1 A2 c2 A3 c3 _ (Kd.R_reads' HI0.out.r1).2.2 (Kd.R_reads' HI0.out.r1).2.1 (Kd.R_reads' HI0.out.r2).2.2 (Kd.R_reads' HI0.out.r2).2.1 (Kd.R_reads' HI0.out.r3).2.2 (Kd.R_reads' HI0.out.r3).2.1).mono ?_); rintro e w2 ⟨rfl, hb⟩; clear hr0 hr1 hr2 hs0 hs1 hs2 hx0 hx1 hx2 hy0 hy1 hy2; have n0_ := Aside0.mk (HI0.out.later hb); have n1_ := Aside0.mk (blk_below BR.out hb); clear HI0 BR hb; have HI0 := n0_; have BR := n1_; clear n0_ n1_; have BX := Aside0.mk HI0.out.box; obtain ⟨hx0, hx1, hx2, hy0, hy1, hy2⟩ := cz3 BX; clear BX; obtain ⟨hr0, hr1, hr2, hs0, hs1, hs2⟩ := cz3 BR) | (go_at_call 56; (with_reducible refine (HE.out A2 c2 _ (Kd.R_reads' HI0.out.r2).2.2 (Kd.R_reads' HI0.out.r2).2.1).mono ?_); rintro e w2 ⟨rfl, hd⟩; obtain ⟨nd, rfl⟩ := hd; clear hr0 hr1 hr2 hs0 hs1 hs2 hx0 hx1 hx2 hy0 hy1 hy2; have n0_ := Aside0.mk (HI0.out.drawn ⟨⟨nd, rfl⟩⟩); have n1_ := Aside0.mk (blk_drewN BR.out nd); clear HI0 BR; have HI0 := n0_; have BR := n1_; clear n0_ n1_; generalize World.drewN _ nd = w2 at HI0 BR ⊢; have BX := Aside0.mk HI0.out.box; obtain ⟨hx0, hx1, hx2, hy0, hy1, hy2⟩ := cz3 BX; clear BX; obtain ⟨hr0, hr1, hr2, hs0, hs1, hs2⟩ := cz3 BR) | (go_at_call 53; (with_reducible refine (HW.out A1 c1 A2 c2 A3 c3 _ (Kd.R_reads' HI0.out.r1).2.2 (Kd.R_reads' HI0.out.r1).2.1 (Kd.R_reads' HI0.out.r2).2.2 (Kd.R_reads' HI0.out.r2).2.1 (Kd.R_reads' HI0.out.r3).2.2 (Kd.R_reads' HI0.out.r3).2.1).mono ?_); rintro e w2 ⟨rfl, hb⟩; clear hr0 hr1 hr2 hs0 hs1 hs2 hx0 hx1 hx2 hy0 hy1 hy2; have n0_ := Aside0.mk (HI0.out.later hb); have n1_ := Aside0.mk (blk_below BR.out hb); clear HI0 BR hb; have HI0 := n0_; have BR := n1_; clear n0_ n1_; have BX := Aside0.mk HI0.out.box; obtain ⟨hx0, hx1, hx2, hy0, hy1, hy2⟩ := cz3 BX; clear BX; obtain ⟨hr0, hr1, hr2, hs0, hs1, hs2⟩ := cz3 BR) | (go_at_call 57; (with_reducible refine (HO.out A1 c1 A2 c2 A3 c3 _ (Kd.R_reads' HI0.out.r1).2.2 (Kd.R_reads' HI0.out.r1).2.1 (Kd.R_reads' HI0.out.r2).2.2 (Kd.R_reads' HI0.out.r2).2.1 (Kd.R_reads' HI0.out.r3).2.2 (Kd.R_reads' HI0.out.r3).2.1).mono ?_); rintro e w2 ⟨rfl, hb⟩; clear hr0 hr1 hr2 hs0 hs1 hs2 hx0 hx1 hx2 hy0 hy1 hy2; have n0_ := Aside0.mk (HI0.out.later hb); have n1_ := Aside0.mk (blk_below BR.out hb); clear HI0 BR hb; have HI0 := n0_; have BR := n1_; clear n0_ n1_; have BX := Aside0.mk HI0.out.box; obtain ⟨hx0, hx1, hx2, hy0, hy1, hy2⟩ := cz3 BX; clear BX; obtain ⟨hr0, hr1, hr2, hs0, hs1, hs2⟩ := cz3 BR) | (go_at_call 54; (with_reducible refine (HA.out A1 c1 A2 c2 A3 c3 _ (Kd.R_reads' HI0.out.r1).2.2 (Kd.R_reads' HI0.out.r1).2.1 (Kd.R_reads' HI0.out.r2).2.2 (Kd.R_reads' HI0.out.r2).2.1 (Kd.R_reads' HI0.out.r3).2.2 (Kd.R_reads' HI0.out.r3).2.1).mono ?_); rintro e w2 ⟨rfl, hb⟩; clear hr0 hr1 hr2 hs0 hs1 hs2 hx0 hx1 hx2 hy0 hy1 hy2; have n0_ := Aside0.mk (HI0.out.later hb); have n1_ := Aside0.mk (blk_below BR.out hb); clear HI0 BR hb; have HI0 := n0_; have BR := n1_; clear n0_ n1_; have BX := Aside0.mk HI0.out.box; obtain ⟨hx0, hx1, hx2, hy0, hy1, hy2⟩ := cz3 BX; clear BX; obtain ⟨hr0, hr1, hr2, hs0, hs1, hs2⟩ := cz3 BR))
      go_still_tail 7, (by kernel_rfl)
      change wpList _ _ _ _ _ w2.drew
      clear hr0 hr1 hr2 hs0 hs1 hs2 hx0 hx1 hx2 hy0 hy1 hy2
      have n0_ := Aside0.mk HI0.out.drew
      have n1_ := Aside0.mk (blk_drew BR.out)
      clear HI0 BR
      have HI0 := n0_
      have BR := n1_
      clear n0_ n1_
      generalize w2.drew = wd at HI0 BR ⊢
      have BX := Aside0.mk HI0.out.box
      obtain ⟨hx0, hx1, hx2, hy0, hy1, hy2⟩ := cz3 BX
      clear BX
      obtain ⟨hr0, hr1, hr2, hs0, hs1, hs2⟩ := cz3 BR
      go_wp2_with (first | ((with_reducible refine gate_dst (N := 3) rfl ?_); refine box_event ?hg (N := 3) ?hd (cs := #[.string nm, .string sd, .int .i64 pn]) (t := 40) ?hr ?_; (case hd => rfl); (case hg => rfl); (case hr => first | (go_simp; done) | (go_simp; rfl)); intro gb hg w1 hbox hb; have n0_ := Aside0.mk (HI0.out.later hb); have n1_ := Aside0.mk hbox; clear HI0 hbox hb hg; have HI0 := n0_; have BR := n1_; clear n0_ n1_; have BX := Aside0.mk HI0.out.box; obtain ⟨hx0, hx1, hx2, hy0, hy1, hy2⟩ := cz3 BX; clear BX; obtain ⟨hr0, hr1, hr2, hs0, hs1, hs2⟩ := cz3 BR) | (go_at_call 63; (with_reducible refine (HT.out A1 c1 A2 c2 A3 c3 _ (Kd.R_reads' HI0.out.r1).2.2 (Kd.R_reads' HI0.out.r1).2.1 (Kd.R_reads' HI0.out.r2).2.2 (Kd.R_reads' HI0.out.r2).2.1 (Kd.R_reads' HI0.out.r3).2.2 (Kd.R_reads' HI0.out.r3).2.1).mono ?_); rintro e w2 ⟨rfl, hb⟩; clear hr0 hr1 hr2 hs0 hs1 hs2 hx0 hx1 hx2 hy0 hy1 hy2; have n0_ := Aside0.mk (HI0.out.later hb); have n1_ := Aside0.mk (blk_below BR.out hb); clear HI0 BR hb; have HI0 := n0_; have BR := n1_; clear n0_ n1_; have BX := Aside0.mk HI0.out.box; obtain ⟨hx0, hx1, hx2, hy0, hy1, hy2⟩ := cz3 BX; clear BX; obtain ⟨hr0, hr1, hr2, hs0, hs1, hs2⟩ := cz3 BR) | (go_at_call 56; (with_reducible refine (HE.out A2 c2 _ (Kd.R_reads' HI0.out.r2).2.2 (Kd.R_reads' HI0.out.r2).2.1).mono ?_); rintro e w2 ⟨rfl, hd⟩; obtain ⟨nd, rfl⟩ := hd; clear hr0 hr1 hr2 hs0 hs1 hs2 hx0 hx1 hx2 hy0 hy1 hy2; have n0_ := Aside0.mk (HI0.out.drawn ⟨⟨nd, rfl⟩⟩); have n1_ := Aside0.mk (blk_drewN BR.out nd); clear HI0 BR; have HI0 := n0_; have BR := n1_; clear n0_ n1_; generalize World.drewN _ nd = w2 at HI0 BR ⊢; have BX := Aside0.mk HI0.out.box; obtain ⟨hx0, hx1, hx2, hy0, hy1, hy2⟩ := cz3 BX; clear BX; obtain ⟨hr0, hr1, hr2, hs0, hs1, hs2⟩ := cz3 BR) | (go_at_call 53; (with_reducible refine (HW.out A1 c1 A2 c2 A3 c3 _ (Kd.R_reads' HI0.out.r1).2.2 (Kd.R_reads' HI0.out.r1).2.1 (Kd.R_reads' HI0.out.r2).2.2 (Kd.R_reads' HI0.out.r2).2.1 (Kd.R_reads' HI0.out.r3).2.2 (Kd.R_reads' HI0.out.r3).2.1).mono ?_); rintro e w2 ⟨rfl, hb⟩; clear hr0 hr1 hr2 hs0 hs1 hs2 hx0 hx1 hx2 hy0 hy1 hy2; have n0_ := Aside0.mk (HI0.out.later hb); have n1_ := Aside0.mk (blk_below BR.out hb); clear HI0 BR hb; have HI0 := n0_; have BR := n1_; clear n0_ n1_; have BX := Aside0.mk HI0.out.box; obtain ⟨hx0, hx1, hx2, hy0, hy1, hy2⟩ := cz3 BX; clear BX; obtain ⟨hr0, hr1, hr2, hs0, hs1, hs2⟩ := cz3 BR) | (go_at_call 57; (with_reducible refine (HO.out A1 c1 A2 c2 A3 c3 _ (Kd.R_reads' HI0.out.r1).2.2 (Kd.R_reads' HI0.out.r1).2.1 (Kd.R_reads' HI0.out.r2).2.2 (Kd.R_reads' HI0.out.r2).2.1 (Kd.R_reads' HI0.out.r3).2.2 (Kd.R_reads' HI0.out.r3).2.1).mono ?_); rintro e w2 ⟨rfl, hb⟩; clear hr0 hr1 hr2 hs0 hs1 hs2 hx0 hx1 hx2 hy0 hy1 hy2; have n0_ := Aside0.mk (HI0.out.later hb); have n1_ := Aside0.mk (blk_below BR.out hb); clear HI0 BR hb; have HI0 := n0_; have BR := n1_; clear n0_ n1_; have BX := Aside0.mk HI0.out.box; obtain ⟨hx0, hx1, hx2, hy0, hy1, hy2⟩ := cz3 BX; clear BX; obtain ⟨hr0, hr1, hr2, hs0, hs1, hs2⟩ := cz3 BR) | (go_at_call 54; (with_reducible refine (HA.out A1 c1 A2 c2 A3 c3 _ (Kd.R_reads' HI0.out.r1).2.2 (Kd.R_reads' HI0.out.r1).2.1 (Kd.R_reads' HI0.out.r2).2.2 (Kd.R_reads' HI0.out.r2).2.1 (Kd.R_reads' HI0.out.r3).2.2 (Kd.R_reads' HI0.out.r3).2.1).mono ?_); rintro e w2 ⟨rfl, hb⟩; clear hr0 hr1 hr2 hs0 hs1 hs2 hx0 hx1 hx2 hy0 hy1 hy2; have n0_ := Aside0.mk (HI0.out.later hb); have n1_ := Aside0.mk (blk_below BR.out hb); clear HI0 BR hb; have HI0 := n0_; have BR := n1_; clear n0_ n1_; have BX := Aside0.mk HI0.out.box; obtain ⟨hx0, hx1, hx2, hy0, hy1, hy2⟩ := cz3 BX; clear BX; obtain ⟨hr0, hr1, hr2, hs0, hs1, hs2⟩ := cz3 BR))
      go_still_tail 5, (by kernel_rfl)
      change wpList _ _ _ _ _ w2.drew
      clear hr0 hr1 hr2 hs0 hs1 hs2 hx0 hx1 hx2 hy0 hy1 hy2
      have n0_ := Aside0.mk HI0.out.drew
      have n1_ := Aside0.mk (blk_drew BR.out)
      clear HI0 BR
      have HI0 := n0_
      have BR := n1_
      clear n0_ n1_
      generalize w2.drew = wd at HI0 BR ⊢
      have BX := Aside0.mk HI0.out.box
      obtain ⟨hx0, hx1, hx2, hy0, hy1, hy2⟩ := cz3 BX
      clear BX
      obtain ⟨hr0, hr1, hr2, hs0, hs1, hs2⟩ := cz3 BR
      go_wp2_with (first | ((with_reducible refine gate_dst (N := 3) rfl ?_); refine box_event ?hg (N := 3) ?hd (cs := #[.string nm, .string sd, .int .i64 pn]) (t := 40) ?hr ?_; (case hd => rfl); (case hg => rfl); (case hr => first | (go_simp; done) | (go_simp; rfl)); intro gb hg w1 hbox hb; have n0_ := Aside0.mk (HI0.out.later hb); have n1_ := Aside0.mk hbox; clear HI0 hbox hb hg; have HI0 := n0_; have BR := n1_; clear n0_ n1_; have BX := Aside0.mk HI0.out.box; obtain ⟨hx0, hx1, hx2, hy0, hy1, hy2⟩ := cz3 BX; clear BX; obtain ⟨hr0, hr1, hr2, hs0, hs1, hs2⟩ := cz3 BR) | (go_at_call 63; (with_reducible refine (HT.out A1 c1 A2 c2 A3 c3 _ (Kd.R_reads' HI0.out.r1).2.2 (Kd.R_reads' HI0.out.r1).2.1 (Kd.R_reads' HI0.out.r2).2.2 (Kd.R_reads' HI0.out.r2).2.1 (Kd.R_reads' HI0.out.r3).2.2 (Kd.R_reads' HI0.out.r3).2.1).mono ?_); rintro e w2 ⟨rfl, hb⟩; clear hr0 hr1 hr2 hs0 hs1 hs2 hx0 hx1 hx2 hy0 hy1 hy2; have n0_ := Aside0.mk (HI0.out.later hb); have n1_ := Aside0.mk (blk_below BR.out hb); clear HI0 BR hb; have HI0 := n0_; have BR := n1_; clear n0_ n1_; have BX := Aside0.mk HI0.out.box; obtain ⟨hx0, hx1, hx2, hy0, hy1, hy2⟩ := cz3 BX; clear BX; obtain ⟨hr0, hr1, hr2, hs0, hs1, hs2⟩ := cz3 BR) | (go_at_call 56; (with_reducible refine (HE.out A2 c2 _ (Kd.R_reads' HI0.out.r2).2.2 (Kd.R_reads' HI0.out.r2).2.1).mono ?_); rintro e w2 ⟨rfl, hd⟩; obtain ⟨nd, rfl⟩ := hd; clear hr0 hr1 hr2 hs0 hs1 hs2 hx0 hx1 hx2 hy0 hy1 hy2; have n0_ := Aside0.mk (HI0.out.drawn ⟨⟨nd, rfl⟩⟩); have n1_ := Aside0.mk (blk_drewN BR.out nd); clear HI0 BR; have HI0 := n0_; have BR := n1_; clear n0_ n1_; generalize World.drewN _ nd = w2 at HI0 BR ⊢; have BX := Aside0.mk HI0.out.box; obtain ⟨hx0, hx1, hx2, hy0, hy1, hy2⟩ := cz3 BX; clear BX; obtain ⟨hr0, hr1, hr2, hs0, hs1, hs2⟩ := cz3 BR) | (go_at_call 53; (with_reducible refine (HW.out A1 c1 A2 c2 A3 c3 _ (Kd.R_reads' HI0.out.r1).2.2 (Kd.R_reads' HI0.out.r1).2.1 (Kd.R_reads' HI0.out.r2).2.2 (Kd.R_reads' HI0.out.r2).2.1 (Kd.R_reads' HI0.out.r3).2.2 (Kd.R_reads' HI0.out.r3).2.1).mono ?_); rintro e w2 ⟨rfl, hb⟩; clear hr0 hr1 hr2 hs0 hs1 hs2 hx0 hx1 hx2 hy0 hy1 hy2; have n0_ := Aside0.mk (HI0.out.later hb); have n1_ := Aside0.mk (blk_below BR.out hb); clear HI0 BR hb; have HI0 := n0_; have BR := n1_; clear n0_ n1_; have BX := Aside0.mk HI0.out.box; obtain ⟨hx0, hx1, hx2, hy0, hy1, hy2⟩ := cz3 BX; clear BX; obtain ⟨hr0, hr1, hr2, hs0, hs1, hs2⟩ := cz3 BR) | (go_at_call 57; (with_reducible refine (HO.out A1 c1 A2 c2 A3 c3 _ (Kd.R_reads' HI0.out.r1).2.2 (Kd.R_reads' HI0.out.r1).2.1 (Kd.R_reads' HI0.out.r2).2.2 (Kd.R_reads' HI0.out.r2).2.1 (Kd.R_reads' HI0.out.r3).2.2 (Kd.R_reads' HI0.out.r3).2.1).mono ?_); rintro e w2 ⟨rfl, hb⟩; clear hr0 hr1 hr2 hs0 hs1 hs2 hx0 hx1 hx2 hy0 hy1 hy2; have n0_ := Aside0.mk (HI0.out.later hb); have n1_ := Aside0.mk (blk_below BR.out hb); clear HI0 BR hb; have HI0 := n0_; have BR := n1_; clear n0_ n1_; have BX := Aside0.mk HI0.out.box; obtain ⟨hx0, hx1, hx2, hy0, hy1, hy2⟩ := cz3 BX; clear BX; obtain ⟨hr0, hr1, hr2, hs0, hs1, hs2⟩ := cz3 BR) | (go_at_call 54; (with_reducible refine (HA.out A1 c1 A2 c2 A3 c3 _ (Kd.R_reads' HI0.out.r1).2.2 (Kd.R_reads' HI0.out.r1).2.1 (Kd.R_reads' HI0.out.r2).2.2 (Kd.R_reads' HI0.out.r2).2.1 (Kd.R_reads' HI0.out.r3).2.2 (Kd.R_reads' HI0.out.r3).2.1).mono ?_); rintro e w2 ⟨rfl, hb⟩; clear hr0 hr1 hr2 hs0 hs1 hs2 hx0 hx1 hx2 hy0 hy1 hy2; have n0_ := Aside0.mk (HI0.out.later hb); have n1_ := Aside0.mk (blk_below BR.out hb); clear HI0 BR hb; have HI0 := n0_; have BR := n1_; clear n0_ n1_; have BX := Aside0.mk HI0.out.box; obtain ⟨hx0, hx1, hx2, hy0, hy1, hy2⟩ := cz3 BX; clear BX; obtain ⟨hr0, hr1, hr2, hs0, hs1, hs2⟩ := cz3 BR))
      go_ret
      exact ⟨_, by rw [addBelayN, if_neg (show ¬ t < 0 by have := HT0.out; omega), if_neg (by simp), if_neg (by simp), if_pos HO0.out]; rfl, by simpa [addBelayB, addBelayN, show ¬ t < 0 by have := HT0.out; omega, HO0.out] using HI0.out⟩
    ·have ho0 : decide (o ≥ 0) = false := decide_eq_false ho
     have ho1 : decide (0 ≤ o) = false := decide_eq_false ho
     have HO0 := Aside0.mk (show o < 0 by omega)
     clear ho
     by_cases ha : a ≥ 0
     ·have hb0 : decide (a ≥ 0) = true := decide_eq_true ha
      have hb1 : decide (0 ≤ a) = true := decide_eq_true ha
      have HA0 := Aside0.mk ha
      clear ha
      go_enter Try.func47, Try.ntmps47
      go_wp2_with (first | ((with_reducible refine gate_dst (N := 3) rfl ?_); refine box_event ?hg (N := 3) ?hd (cs := #[.string nm, .string sd, .int .i64 pn]) (t := 40) ?hr ?_; (case hd => rfl); (case hg => rfl); (case hr => first | (go_simp; done) | (go_simp; rfl)); intro gb hg w1 hbox hb; have n0_ := Aside0.mk (HI0.out.later hb); have n1_ := Aside0.mk hbox; clear HI0 hbox hb hg; have HI0 := n0_; have BR := n1_; clear n0_ n1_; have BX := Aside0.mk HI0.out.box; obtain ⟨hx0, hx1, hx2, hy0, hy1, hy2⟩ := cz3 BX; clear BX; obtain ⟨hr0, hr1, hr2, hs0, hs1, hs2⟩ := cz3 BR) | (go_at_call 63; (with_reducible refine (HT.out A1 c1 A2 c2 A3 c3 _ (Kd.R_reads' HI0.out.r1).2.2 (Kd.R_reads' HI0.out.r1).2.1 (Kd.R_reads' HI0.out.r2).2.2 (Kd.R_reads' HI0.out.r2).2.1 (Kd.R_reads' HI0.out.r3).2.2 (Kd.R_reads' HI0.out.r3).2.1).mono ?_); rintro e w2 ⟨rfl, hb⟩; clear hr0 hr1 hr2 hs0 hs1 hs2 hx0 hx1 hx2 hy0 hy1 hy2; have n0_ := Aside0.mk (HI0.out.later hb); have n1_ := Aside0.mk (blk_below BR.out hb); clear HI0 BR hb; have HI0 := n0_; have BR := n1_; clear n0_ n1_; have BX := Aside0.mk HI0.out.box; obtain ⟨hx0, hx1, hx2, hy0, hy1, hy2⟩ := cz3 BX; clear BX; obtain ⟨hr0, hr1, hr2, hs0, hs1, hs2⟩ := cz3 BR) | (go_at_call 56; (with_reducible refine (HE.out A2 c2 _ (Kd.R_reads' HI0.out.r2).2.2 (Kd.R_reads' HI0.out.r2).2.1).mono ?_); rintro e w2 ⟨rfl, hd⟩; obtain ⟨nd, rfl⟩ := hd; clear hr0 hr1 hr2 hs0 hs1 hs2 hx0 hx1 hx2 hy0 hy1 hy2; have n0_ := Aside0.mk (HI0.out.drawn ⟨⟨nd, rfl⟩⟩); have n1_ := Aside0.mk (blk_drewN BR.out nd); clear HI0 BR; have HI0 := n0_; have BR := n1_; clear n0_ n1_; generalize World.drewN _ nd = w2 at HI0 BR ⊢; have BX := Aside0.mk HI0.out.box; obtain ⟨hx0, hx1, hx2, hy0, hy1, hy2⟩ := cz3 BX; clear BX; obtain ⟨hr0, hr1, hr2, hs0, hs1, hs2⟩ := cz3 BR) | (go_at_call 53; (with_reducible refine (HW.out A1 c1 A2 c2 A3 c3 _ (Kd.R_reads' HI0.out.r1).2.2 (Kd.R_reads' HI0.out.r1).2.1 (Kd.R_reads' HI0.out.r2).2.2 (Kd.R_reads' HI0.out.r2).2.1 (Kd.R_reads' HI0.out.r3).2.2 (Kd.R_reads' HI0.out.r3).2.1).mono ?_); rintro e w2 ⟨rfl, hb⟩; clear hr0 hr1 hr2 hs0 hs1 hs2 hx0 hx1 hx2 hy0 hy1 hy2; have n0_ := Aside0.mk (HI0.out.later hb); have n1_ := Aside0.mk (blk_below BR.out hb); clear HI0 BR hb; have HI0 := n0_; have BR := n1_; clear n0_ n1_; have BX := Aside0.mk HI0.out.box; obtain ⟨hx0, hx1, hx2, hy0, hy1, hy2⟩ := cz3 BX; clear BX; obtain ⟨hr0, hr1, hr2, hs0, hs1, hs2⟩ := cz3 BR) | (go_at_call 57; (with_reducible refine (HO.out A1 c1 A2 c2 A3 c3 _ (Kd.R_reads' HI0.out.r1).2.2 (Kd.R_reads' HI0.out.r1).2.1 (Kd.R_reads' HI0.out.r2).2.2 (Kd.R_reads' HI0.out.r2).2.1 (Kd.R_reads' HI0.out.r3).2.2 (Kd.R_reads' HI0.out.r3).2.1).mono ?_); rintro e w2 ⟨rfl, hb⟩; clear hr0 hr1 hr2 hs0 hs1 hs2 hx0 hx1 hx2 hy0 hy1 hy2; have n0_ := Aside0.mk (HI0.out.later hb); have n1_ := Aside0.mk (blk_below BR.out hb); clear HI0 BR hb; have HI0 := n0_; have BR := n1_; clear n0_ n1_; have BX := Aside0.mk HI0.out.box; obtain ⟨hx0, hx1, hx2, hy0, hy1, hy2⟩ := cz3 BX; clear BX; obtain ⟨hr0, hr1, hr2, hs0, hs1, hs2⟩ := cz3 BR) | (go_at_call 54; (with_reducible refine (HA.out A1 c1 A2 c2 A3 c3 _ (Kd.R_reads' HI0.out.r1).2.2 (Kd.R_reads' HI0.out.r1).2.1 (Kd.R_reads' HI0.out.r2).2.2 (Kd.R_reads' HI0.out.r2).2.1 (Kd.R_reads' HI0.out.r3).2.2 (Kd.R_reads' HI0.out.r3).2.1).mono ?_); rintro e w2 ⟨rfl, hb⟩; clear hr0 hr1 hr2 hs0 hs1 hs2 hx0 hx1 hx2 hy0 hy1 hy2; have n0_ := Aside0.mk (HI0.out.later hb); have n1_ := Aside0.mk (blk_below BR.out hb); clear HI0 BR hb; have HI0 := n0_; have BR := n1_; clear n0_ n1_; have BX := Aside0.mk HI0.out.box; obtain ⟨hx0, hx1, hx2, hy0, hy1, hy2⟩ := cz3 BX; clear BX; obtain ⟨hr0, hr1, hr2, hs0, hs1, hs2⟩ := cz3 BR))
      (first | go_region_held3 (fun w' : World => w'.cell? ⟨g, 0, none⟩ = some (.slice A1 R.length c1) ∧ w'.cell? ⟨g, 1, none⟩ = some (.slice A2 L.length c2) ∧ w'.cell? ⟨g, 2, none⟩ = some (.slice A3 B.length c3) ∧ w'.cell? ⟨gb, 0, none⟩ = some (.string nm) ∧ w'.cell? ⟨gb, 1, none⟩ = some (.string sd) ∧ w'.cell? ⟨gb, 2, none⟩ = some (.int .i64 pn)) (first | exact ⟨hx0, hx1, hx2, hr0, hr1, hr2⟩) (first | (go_at_call 63; (with_reducible refine (HT.out A1 c1 A2 c2 A3 c3 _ (Kd.R_reads' HI0.out.drew.r1).2.2 (Kd.R_reads' HI0.out.drew.r1).2.1 (Kd.R_reads' HI0.out.drew.r2).2.2 (Kd.R_reads' HI0.out.drew.r2).2.1 (Kd.R_reads' HI0.out.drew.r3).2.2 (Kd.R_reads' HI0.out.drew.r3).2.1).mono ?_); rintro e w2 ⟨rfl, hb⟩; clear hr0 hr1 hr2 hs0 hs1 hs2 hx0 hx1 hx2 hy0 hy1 hy2; have n0_ := Aside0.mk (HI0.out.drew.later hb); have n1_ := Aside0.mk (blk_below (blk_drew BR.out) hb); clear HI0 BR hb; have HI0 := n0_; have BR := n1_; clear n0_ n1_; have BX := Aside0.mk HI0.out.box; obtain ⟨hx0, hx1, hx2, hy0, hy1, hy2⟩ := cz3 BX; clear BX; obtain ⟨hr0, hr1, hr2, hs0, hs1, hs2⟩ := cz3 BR) | (go_at_call 56; (with_reducible refine (HE.out A2 c2 _ (Kd.R_reads' HI0.out.r2).2.2 (Kd.R_reads' HI0.out.r2).2.1).mono ?_); rintro e w2 ⟨rfl, hd⟩; obtain ⟨nd, rfl⟩ := hd; clear hr0 hr1 hr2 hs0 hs1 hs2 hx0 hx1 hx2 hy0 hy1 hy2; have n0_ := Aside0.mk (HI0.out.drawn ⟨⟨nd, rfl⟩⟩); have n1_ := Aside0.mk (blk_drewN BR.out nd); clear HI0 BR; have HI0 := n0_; have BR := n1_; clear n0_ n1_; generalize World.drewN _ nd = w2 at HI0 BR ⊢; have BX := Aside0.mk HI0.out.box; obtain ⟨hx0, hx1, hx2, hy0, hy1, hy2⟩ := cz3 BX; clear BX; obtain ⟨hr0, hr1, hr2, hs0, hs1, hs2⟩ := cz3 BR) | (go_at_call 53; (with_reducible refine (HW.out A1 c1 A2 c2 A3 c3 _ (Kd.R_reads' HI0.out.r1).2.2 (Kd.R_reads' HI0.out.r1).2.1 (Kd.R_reads' HI0.out.r2).2.2 (Kd.R_reads' HI0.out.r2).2.1 (Kd.R_reads' HI0.out.r3).2.2 (Kd.R_reads' HI0.out.r3).2.1).mono ?_); rintro e w2 ⟨rfl, hb⟩; clear hr0 hr1 hr2 hs0 hs1 hs2 hx0 hx1 hx2 hy0 hy1 hy2; have n0_ := Aside0.mk (HI0.out.later hb); have n1_ := Aside0.mk (blk_below BR.out hb); clear HI0 BR hb; have HI0 := n0_; have BR := n1_; clear n0_ n1_; have BX := Aside0.mk HI0.out.box; obtain ⟨hx0, hx1, hx2, hy0, hy1, hy2⟩ := cz3 BX; clear BX; obtain ⟨hr0, hr1, hr2, hs0, hs1, hs2⟩ := cz3 BR) | (go_at_call 57; (with_reducible refine (HO.out A1 c1 A2 c2 A3 c3 _ (Kd.R_reads' HI0.out.r1).2.2 (Kd.R_reads' HI0.out.r1).2.1 (Kd.R_reads' HI0.out.r2).2.2 (Kd.R_reads' HI0.out.r2).2.1 (Kd.R_reads' HI0.out.r3).2.2 (Kd.R_reads' HI0.out.r3).2.1).mono ?_); rintro e w2 ⟨rfl, hb⟩; clear hr0 hr1 hr2 hs0 hs1 hs2 hx0 hx1 hx2 hy0 hy1 hy2; have n0_ := Aside0.mk (HI0.out.later hb); have n1_ := Aside0.mk (blk_below BR.out hb); clear HI0 BR hb; have HI0 := n0_; have BR := n1_; clear n0_ n1_; have BX := Aside0.mk HI0.out.box; obtain ⟨hx0, hx1, hx2, hy0, hy1, hy2⟩ := cz3 BX; clear BX; obtain ⟨hr0, hr1, hr2, hs0, hs1, hs2⟩ := cz3 BR) | (go_at_call 54; (with_reducible refine (HA.out A1 c1 A2 c2 A3 c3 _ (Kd.R_reads' HI0.out.r1).2.2 (Kd.R_reads' HI0.out.r1).2.1 (Kd.R_reads' HI0.out.r2).2.2 (Kd.R_reads' HI0.out.r2).2.1 (Kd.R_reads' HI0.out.r3).2.2 (Kd.R_reads' HI0.out.r3).2.1).mono ?_); rintro e w2 ⟨rfl, hb⟩; clear hr0 hr1 hr2 hs0 hs1 hs2 hx0 hx1 hx2 hy0 hy1 hy2; have n0_ := Aside0.mk (HI0.out.later hb); have n1_ := Aside0.mk (blk_below BR.out hb); clear HI0 BR hb; have HI0 := n0_; have BR := n1_; clear n0_ n1_; have BX := Aside0.mk HI0.out.box; obtain ⟨hx0, hx1, hx2, hy0, hy1, hy2⟩ := cz3 BX; clear BX; obtain ⟨hr0, hr1, hr2, hs0, hs1, hs2⟩ := cz3 BR)) | fail)
      all_goals
       go_wp2_with (first | ((with_reducible refine gate_dst (N := 3) rfl ?_); refine box_event ?hg (N := 3) ?hd (cs := #[.string nm, .string sd, .int .i64 pn]) (t := 40) ?hr ?_; (case hd => rfl); (case hg => rfl); (case hr => first | (go_simp; done) | (go_simp; rfl)); intro gb hg w1 hbox hb; have n0_ := Aside0.mk (HI0.out.later hb); have n1_ := Aside0.mk hbox; clear HI0 hbox hb hg; have HI0 := n0_; have BR := n1_; clear n0_ n1_; have BX := Aside0.mk HI0.out.box; obtain ⟨hx0, hx1, hx2, hy0, hy1, hy2⟩ := cz3 BX; clear BX; obtain ⟨hr0, hr1, hr2, hs0, hs1, hs2⟩ := cz3 BR) | (go_at_call 63; (with_reducible refine (HT.out A1 c1 A2 c2 A3 c3 _ (Kd.R_reads' HI0.out.r1).2.2 (Kd.R_reads' HI0.out.r1).2.1 (Kd.R_reads' HI0.out.r2).2.2 (Kd.R_reads' HI0.out.r2).2.1 (Kd.R_reads' HI0.out.r3).2.2 (Kd.R_reads' HI0.out.r3).2.1).mono ?_); rintro e w2 ⟨rfl, hb⟩; clear hr0 hr1 hr2 hs0 hs1 hs2 hx0 hx1 hx2 hy0 hy1 hy2; have n0_ := Aside0.mk (HI0.out.later hb); have n1_ := Aside0.mk (blk_below BR.out hb); clear HI0 BR hb; have HI0 := n0_; have BR := n1_; clear n0_ n1_; have BX := Aside0.mk HI0.out.box; obtain ⟨hx0, hx1, hx2, hy0, hy1, hy2⟩ := cz3 BX; clear BX; obtain ⟨hr0, hr1, hr2, hs0, hs1, hs2⟩ := cz3 BR) | (go_at_call 56; (with_reducible refine (HE.out A2 c2 _ (Kd.R_reads' HI0.out.r2).2.2 (Kd.R_reads' HI0.out.r2).2.1).mono ?_); rintro e w2 ⟨rfl, hd⟩; obtain ⟨nd, rfl⟩ := hd; clear hr0 hr1 hr2 hs0 hs1 hs2 hx0 hx1 hx2 hy0 hy1 hy2; have n0_ := Aside0.mk (HI0.out.drawn ⟨⟨nd, rfl⟩⟩); have n1_ := Aside0.mk (blk_drewN BR.out nd); clear HI0 BR; have HI0 := n0_; have BR := n1_; clear n0_ n1_; generalize World.drewN _ nd = w2 at HI0 BR ⊢; have BX := Aside0.mk HI0.out.box; obtain ⟨hx0, hx1, hx2, hy0, hy1, hy2⟩ := cz3 BX; clear BX; obtain ⟨hr0, hr1, hr2, hs0, hs1, hs2⟩ := cz3 BR) | (go_at_call 53; (with_reducible refine (HW.out A1 c1 A2 c2 A3 c3 _ (Kd.R_reads' HI0.out.r1).2.2 (Kd.R_reads' HI0.out.r1).2.1 (Kd.R_reads' HI0.out.r2).2.2 (Kd.R_reads' HI0.out.r2).2.1 (Kd.R_reads' HI0.out.r3).2.2 (Kd.R_reads' HI0.out.r3).2.1).mono ?_); rintro e w2 ⟨rfl, hb⟩; clear hr0 hr1 hr2 hs0 hs1 hs2 hx0 hx1 hx2 hy0 hy1 hy2; have n0_ := Aside0.mk (HI0.out.later hb); have n1_ := Aside0.mk (blk_below BR.out hb); clear HI0 BR hb; have HI0 := n0_; have BR := n1_; clear n0_ n1_; have BX := Aside0.mk HI0.out.box; obtain ⟨hx0, hx1, hx2, hy0, hy1, hy2⟩ := cz3 BX; clear BX; obtain ⟨hr0, hr1, hr2, hs0, hs1, hs2⟩ := cz3 BR) | (go_at_call 57; (with_reducible refine (HO.out A1 c1 A2 c2 A3 c3 _ (Kd.R_reads' HI0.out.r1).2.2 (Kd.R_reads' HI0.out.r1).2.1 (Kd.R_reads' HI0.out.r2).2.2 (Kd.R_reads' HI0.out.r2).2.1 (Kd.R_reads' HI0.out.r3).2.2 (Kd.R_reads' HI0.out.r3).2.1).mono ?_); rintro e w2 ⟨rfl, hb⟩; clear hr0 hr1 hr2 hs0 hs1 hs2 hx0 hx1 hx2 hy0 hy1 hy2; have n0_ := Aside0.mk (HI0.out.later hb); have n1_ := Aside0.mk (blk_below BR.out hb); clear HI0 BR hb; have HI0 := n0_; have BR := n1_; clear n0_ n1_; have BX := Aside0.mk HI0.out.box; obtain ⟨hx0, hx1, hx2, hy0, hy1, hy2⟩ := cz3 BX; clear BX; obtain ⟨hr0, hr1, hr2, hs0, hs1, hs2⟩ := cz3 BR) | (go_at_call 54; (with_reducible refine (HA.out A1 c1 A2 c2 A3 c3 _ (Kd.R_reads' HI0.out.r1).2.2 (Kd.R_reads' HI0.out.r1).2.1 (Kd.R_reads' HI0.out.r2).2.2 (Kd.R_reads' HI0.out.r2).2.1 (Kd.R_reads' HI0.out.r3).2.2 (Kd.R_reads' HI0.out.r3).2.1).mono ?_); rintro e w2 ⟨rfl, hb⟩; clear hr0 hr1 hr2 hs0 hs1 hs2 hx0 hx1 hx2 hy0 hy1 hy2; have n0_ := Aside0.mk (HI0.out.later hb); have n1_ := Aside0.mk (blk_below BR.out hb); clear HI0 BR hb; have HI0 := n0_; have BR := n1_; clear n0_ n1_; have BX := Aside0.mk HI0.out.box; obtain ⟨hx0, hx1, hx2, hy0, hy1, hy2⟩ := cz3 BX; clear BX; obtain ⟨hr0, hr1, hr2, hs0, hs1, hs2⟩ := cz3 BR))
       go_still_tail 7, (by kernel_rfl)
       change wpList _ _ _ _ _ w2.drew
       clear hr0 hr1 hr2 hs0 hs1 hs2 hx0 hx1 hx2 hy0 hy1 hy2
       have n0_ := Aside0.mk HI0.out.drew
       have n1_ := Aside0.mk (blk_drew BR.out)
       clear HI0 BR
       have HI0 := n0_
       have BR := n1_
       clear n0_ n1_
       generalize w2.drew = wd at HI0 BR ⊢
       have BX := Aside0.mk HI0.out.box
       obtain ⟨hx0, hx1, hx2, hy0, hy1, hy2⟩ := cz3 BX
       clear BX
       obtain ⟨hr0, hr1, hr2, hs0, hs1, hs2⟩ := cz3 BR
       go_wp2_with (first | ((with_reducible refine gate_dst (N := 3) rfl ?_); refine box_event ?hg (N := 3) ?hd (cs := #[.string nm, .string sd, .int .i64 pn]) (t := 40) ?hr ?_; (case hd => rfl); (case hg => rfl); (case hr => first | (go_simp; done) | (go_simp; rfl)); intro gb hg w1 hbox hb; have n0_ := Aside0.mk (HI0.out.later hb); have n1_ := Aside0.mk hbox; clear HI0 hbox hb hg; have HI0 := n0_; have BR := n1_; clear n0_ n1_; have BX := Aside0.mk HI0.out.box; obtain ⟨hx0, hx1, hx2, hy0, hy1, hy2⟩ := cz3 BX; clear BX; obtain ⟨hr0, hr1, hr2, hs0, hs1, hs2⟩ := cz3 BR) | (go_at_call 63; (with_reducible refine (HT.out A1 c1 A2 c2 A3 c3 _ (Kd.R_reads' HI0.out.r1).2.2 (Kd.R_reads' HI0.out.r1).2.1 (Kd.R_reads' HI0.out.r2).2.2 (Kd.R_reads' HI0.out.r2).2.1 (Kd.R_reads' HI0.out.r3).2.2 (Kd.R_reads' HI0.out.r3).2.1).mono ?_); rintro e w2 ⟨rfl, hb⟩; clear hr0 hr1 hr2 hs0 hs1 hs2 hx0 hx1 hx2 hy0 hy1 hy2; have n0_ := Aside0.mk (HI0.out.later hb); have n1_ := Aside0.mk (blk_below BR.out hb); clear HI0 BR hb; have HI0 := n0_; have BR := n1_; clear n0_ n1_; have BX := Aside0.mk HI0.out.box; obtain ⟨hx0, hx1, hx2, hy0, hy1, hy2⟩ := cz3 BX; clear BX; obtain ⟨hr0, hr1, hr2, hs0, hs1, hs2⟩ := cz3 BR) | (go_at_call 56; (with_reducible refine (HE.out A2 c2 _ (Kd.R_reads' HI0.out.r2).2.2 (Kd.R_reads' HI0.out.r2).2.1).mono ?_); rintro e w2 ⟨rfl, hd⟩; obtain ⟨nd, rfl⟩ := hd; clear hr0 hr1 hr2 hs0 hs1 hs2 hx0 hx1 hx2 hy0 hy1 hy2; have n0_ := Aside0.mk (HI0.out.drawn ⟨⟨nd, rfl⟩⟩); have n1_ := Aside0.mk (blk_drewN BR.out nd); clear HI0 BR; have HI0 := n0_; have BR := n1_; clear n0_ n1_; generalize World.drewN _ nd = w2 at HI0 BR ⊢; have BX := Aside0.mk HI0.out.box; obtain ⟨hx0, hx1, hx2, hy0, hy1, hy2⟩ := cz3 BX; clear BX; obtain ⟨hr0, hr1, hr2, hs0, hs1, hs2⟩ := cz3 BR) | (go_at_call 53; (with_reducible refine (HW.out A1 c1 A2 c2 A3 c3 _ (Kd.R_reads' HI0.out.r1).2.2 (Kd.R_reads' HI0.out.r1).2.1 (Kd.R_reads' HI0.out.r2).2.2 (Kd.R_reads' HI0.out.r2).2.1 (Kd.R_reads' HI0.out.r3).2.2 (Kd.R_reads' HI0.out.r3).2.1).mono ?_); rintro e w2 ⟨rfl, hb⟩; clear hr0 hr1 hr2 hs0 hs1 hs2 hx0 hx1 hx2 hy0 hy1 hy2; have n0_ := Aside0.mk (HI0.out.later hb); have n1_ := Aside0.mk (blk_below BR.out hb); clear HI0 BR hb; have HI0 := n0_; have BR := n1_; clear n0_ n1_; have BX := Aside0.mk HI0.out.box; obtain ⟨hx0, hx1, hx2, hy0, hy1, hy2⟩ := cz3 BX; clear BX; obtain ⟨hr0, hr1, hr2, hs0, hs1, hs2⟩ := cz3 BR) | (go_at_call 57; (with_reducible refine (HO.out A1 c1 A2 c2 A3 c3 _ (Kd.R_reads' HI0.out.r1).2.2 (Kd.R_reads' HI0.out.r1).2.1 (Kd.R_reads' HI0.out.r2).2.2 (Kd.R_reads' HI0.out.r2).2.1 (Kd.R_reads' HI0.out.r3).2.2 (Kd.R_reads' HI0.out.r3).2.1).mono ?_); rintro e w2 ⟨rfl, hb⟩; clear hr0 hr1 hr2 hs0 hs1 hs2 hx0 hx1 hx2 hy0 hy1 hy2; have n0_ := Aside0.mk (HI0.out.later hb); have n1_ := Aside0.mk (blk_below BR.out hb); clear HI0 BR hb; have HI0 := n0_; have BR := n1_; clear n0_ n1_; have BX := Aside0.mk HI0.out.box; obtain ⟨hx0, hx1, hx2, hy0, hy1, hy2⟩ := cz3 BX; clear BX; obtain ⟨hr0, hr1, hr2, hs0, hs1, hs2⟩ := cz3 BR) | (go_at_call 54; (with_reducible refine (HA.out A1 c1 A2 c2 A3 c3 _ (Kd.R_reads' HI0.out.r1).2.2 (Kd.R_reads' HI0.out.r1).2.1 (Kd.R_reads' HI0.out.r2).2.2 (Kd.R_reads' HI0.out.r2).2.1 (Kd.R_reads' HI0.out.r3).2.2 (Kd.R_reads' HI0.out.r3).2.1).mono ?_); rintro e w2 ⟨rfl, hb⟩; clear hr0 hr1 hr2 hs0 hs1 hs2 hx0 hx1 hx2 hy0 hy1 hy2; have n0_ := Aside0.mk (HI0.out.later hb); have n1_ := Aside0.mk (blk_below BR.out hb); clear HI0 BR hb; have HI0 := n0_; have BR := n1_; clear n0_ n1_; have BX := Aside0.mk HI0.out.box; obtain ⟨hx0, hx1, hx2, hy0, hy1, hy2⟩ := cz3 BX; clear BX; obtain ⟨hr0, hr1, hr2, hs0, hs1, hs2⟩ := cz3 BR))
       go_still_tail 5, (by kernel_rfl)
       change wpList _ _ _ _ _ w2.drew
       clear hr0 hr1 hr2 hs0 hs1 hs2 hx0 hx1 hx2 hy0 hy1 hy2
       have n0_ := Aside0.mk HI0.out.drew
       have n1_ := Aside0.mk (blk_drew BR.out)
       clear HI0 BR
       have HI0 := n0_
       have BR := n1_
       clear n0_ n1_
       generalize w2.drew = wd at HI0 BR ⊢
       have BX := Aside0.mk HI0.out.box
       obtain ⟨hx0, hx1, hx2, hy0, hy1, hy2⟩ := cz3 BX
       clear BX
       obtain ⟨hr0, hr1, hr2, hs0, hs1, hs2⟩ := cz3 BR
       go_wp2_with (first | ((with_reducible refine gate_dst (N := 3) rfl ?_); refine box_event ?hg (N := 3) ?hd (cs := #[.string nm, .string sd, .int .i64 pn]) (t := 40) ?hr ?_; (case hd => rfl); (case hg => rfl); (case hr => first | (go_simp; done) | (go_simp; rfl)); intro gb hg w1 hbox hb; have n0_ := Aside0.mk (HI0.out.later hb); have n1_ := Aside0.mk hbox; clear HI0 hbox hb hg; have HI0 := n0_; have BR := n1_; clear n0_ n1_; have BX := Aside0.mk HI0.out.box; obtain ⟨hx0, hx1, hx2, hy0, hy1, hy2⟩ := cz3 BX; clear BX; obtain ⟨hr0, hr1, hr2, hs0, hs1, hs2⟩ := cz3 BR) | (go_at_call 63; (with_reducible refine (HT.out A1 c1 A2 c2 A3 c3 _ (Kd.R_reads' HI0.out.r1).2.2 (Kd.R_reads' HI0.out.r1).2.1 (Kd.R_reads' HI0.out.r2).2.2 (Kd.R_reads' HI0.out.r2).2.1 (Kd.R_reads' HI0.out.r3).2.2 (Kd.R_reads' HI0.out.r3).2.1).mono ?_); rintro e w2 ⟨rfl, hb⟩; clear hr0 hr1 hr2 hs0 hs1 hs2 hx0 hx1 hx2 hy0 hy1 hy2; have n0_ := Aside0.mk (HI0.out.later hb); have n1_ := Aside0.mk (blk_below BR.out hb); clear HI0 BR hb; have HI0 := n0_; have BR := n1_; clear n0_ n1_; have BX := Aside0.mk HI0.out.box; obtain ⟨hx0, hx1, hx2, hy0, hy1, hy2⟩ := cz3 BX; clear BX; obtain ⟨hr0, hr1, hr2, hs0, hs1, hs2⟩ := cz3 BR) | (go_at_call 56; (with_reducible refine (HE.out A2 c2 _ (Kd.R_reads' HI0.out.r2).2.2 (Kd.R_reads' HI0.out.r2).2.1).mono ?_); rintro e w2 ⟨rfl, hd⟩; obtain ⟨nd, rfl⟩ := hd; clear hr0 hr1 hr2 hs0 hs1 hs2 hx0 hx1 hx2 hy0 hy1 hy2; have n0_ := Aside0.mk (HI0.out.drawn ⟨⟨nd, rfl⟩⟩); have n1_ := Aside0.mk (blk_drewN BR.out nd); clear HI0 BR; have HI0 := n0_; have BR := n1_; clear n0_ n1_; generalize World.drewN _ nd = w2 at HI0 BR ⊢; have BX := Aside0.mk HI0.out.box; obtain ⟨hx0, hx1, hx2, hy0, hy1, hy2⟩ := cz3 BX; clear BX; obtain ⟨hr0, hr1, hr2, hs0, hs1, hs2⟩ := cz3 BR) | (go_at_call 53; (with_reducible refine (HW.out A1 c1 A2 c2 A3 c3 _ (Kd.R_reads' HI0.out.r1).2.2 (Kd.R_reads' HI0.out.r1).2.1 (Kd.R_reads' HI0.out.r2).2.2 (Kd.R_reads' HI0.out.r2).2.1 (Kd.R_reads' HI0.out.r3).2.2 (Kd.R_reads' HI0.out.r3).2.1).mono ?_); rintro e w2 ⟨rfl, hb⟩; clear hr0 hr1 hr2 hs0 hs1 hs2 hx0 hx1 hx2 hy0 hy1 hy2; have n0_ := Aside0.mk (HI0.out.later hb); have n1_ := Aside0.mk (blk_below BR.out hb); clear HI0 BR hb; have HI0 := n0_; have BR := n1_; clear n0_ n1_; have BX := Aside0.mk HI0.out.box; obtain ⟨hx0, hx1, hx2, hy0, hy1, hy2⟩ := cz3 BX; clear BX; obtain ⟨hr0, hr1, hr2, hs0, hs1, hs2⟩ := cz3 BR) | (go_at_call 57; (with_reducible refine (HO.out A1 c1 A2 c2 A3 c3 _ (Kd.R_reads' HI0.out.r1).2.2 (Kd.R_reads' HI0.out.r1).2.1 (Kd.R_reads' HI0.out.r2).2.2 (Kd.R_reads' HI0.out.r2).2.1 (Kd.R_reads' HI0.out.r3).2.2 (Kd.R_reads' HI0.out.r3).2.1).mono ?_); rintro e w2 ⟨rfl, hb⟩; clear hr0 hr1 hr2 hs0 hs1 hs2 hx0 hx1 hx2 hy0 hy1 hy2; have n0_ := Aside0.mk (HI0.out.later hb); have n1_ := Aside0.mk (blk_below BR.out hb); clear HI0 BR hb; have HI0 := n0_; have BR := n1_; clear n0_ n1_; have BX := Aside0.mk HI0.out.box; obtain ⟨hx0, hx1, hx2, hy0, hy1, hy2⟩ := cz3 BX; clear BX; obtain ⟨hr0, hr1, hr2, hs0, hs1, hs2⟩ := cz3 BR) | (go_at_call 54; (with_reducible refine (HA.out A1 c1 A2 c2 A3 c3 _ (Kd.R_reads' HI0.out.r1).2.2 (Kd.R_reads' HI0.out.r1).2.1 (Kd.R_reads' HI0.out.r2).2.2 (Kd.R_reads' HI0.out.r2).2.1 (Kd.R_reads' HI0.out.r3).2.2 (Kd.R_reads' HI0.out.r3).2.1).mono ?_); rintro e w2 ⟨rfl, hb⟩; clear hr0 hr1 hr2 hs0 hs1 hs2 hx0 hx1 hx2 hy0 hy1 hy2; have n0_ := Aside0.mk (HI0.out.later hb); have n1_ := Aside0.mk (blk_below BR.out hb); clear HI0 BR hb; have HI0 := n0_; have BR := n1_; clear n0_ n1_; have BX := Aside0.mk HI0.out.box; obtain ⟨hx0, hx1, hx2, hy0, hy1, hy2⟩ := cz3 BX; clear BX; obtain ⟨hr0, hr1, hr2, hs0, hs1, hs2⟩ := cz3 BR))
       go_still_tail 7, (by kernel_rfl)
       change wpList _ _ _ _ _ w2.drew
       clear hr0 hr1 hr2 hs0 hs1 hs2 hx0 hx1 hx2 hy0 hy1 hy2
       have n0_ := Aside0.mk HI0.out.drew
       have n1_ := Aside0.mk (blk_drew BR.out)
       clear HI0 BR
       have HI0 := n0_
       have BR := n1_
       clear n0_ n1_
       generalize w2.drew = wd at HI0 BR ⊢
       have BX := Aside0.mk HI0.out.box
       obtain ⟨hx0, hx1, hx2, hy0, hy1, hy2⟩ := cz3 BX
       clear BX
       obtain ⟨hr0, hr1, hr2, hs0, hs1, hs2⟩ := cz3 BR
       go_wp2_with (first | ((with_reducible refine gate_dst (N := 3) rfl ?_); refine box_event ?hg (N := 3) ?hd (cs := #[.string nm, .string sd, .int .i64 pn]) (t := 40) ?hr ?_; (case hd => rfl); (case hg => rfl); (case hr => first | (go_simp; done) | (go_simp; rfl)); intro gb hg w1 hbox hb; have n0_ := Aside0.mk (HI0.out.later hb); have n1_ := Aside0.mk hbox; clear HI0 hbox hb hg; have HI0 := n0_; have BR := n1_; clear n0_ n1_; have BX := Aside0.mk HI0.out.box; obtain ⟨hx0, hx1, hx2, hy0, hy1, hy2⟩ := cz3 BX; clear BX; obtain ⟨hr0, hr1, hr2, hs0, hs1, hs2⟩ := cz3 BR) | (go_at_call 63; (with_reducible refine (HT.out A1 c1 A2 c2 A3 c3 _ (Kd.R_reads' HI0.out.r1).2.2 (Kd.R_reads' HI0.out.r1).2.1 (Kd.R_reads' HI0.out.r2).2.2 (Kd.R_reads' HI0.out.r2).2.1 (Kd.R_reads' HI0.out.r3).2.2 (Kd.R_reads' HI0.out.r3).2.1).mono ?_); rintro e w2 ⟨rfl, hb⟩; clear hr0 hr1 hr2 hs0 hs1 hs2 hx0 hx1 hx2 hy0 hy1 hy2; have n0_ := Aside0.mk (HI0.out.later hb); have n1_ := Aside0.mk (blk_below BR.out hb); clear HI0 BR hb; have HI0 := n0_; have BR := n1_; clear n0_ n1_; have BX := Aside0.mk HI0.out.box; obtain ⟨hx0, hx1, hx2, hy0, hy1, hy2⟩ := cz3 BX; clear BX; obtain ⟨hr0, hr1, hr2, hs0, hs1, hs2⟩ := cz3 BR) | (go_at_call 56; (with_reducible refine (HE.out A2 c2 _ (Kd.R_reads' HI0.out.r2).2.2 (Kd.R_reads' HI0.out.r2).2.1).mono ?_); rintro e w2 ⟨rfl, hd⟩; obtain ⟨nd, rfl⟩ := hd; clear hr0 hr1 hr2 hs0 hs1 hs2 hx0 hx1 hx2 hy0 hy1 hy2; have n0_ := Aside0.mk (HI0.out.drawn ⟨⟨nd, rfl⟩⟩); have n1_ := Aside0.mk (blk_drewN BR.out nd); clear HI0 BR; have HI0 := n0_; have BR := n1_; clear n0_ n1_; generalize World.drewN _ nd = w2 at HI0 BR ⊢; have BX := Aside0.mk HI0.out.box; obtain ⟨hx0, hx1, hx2, hy0, hy1, hy2⟩ := cz3 BX; clear BX; obtain ⟨hr0, hr1, hr2, hs0, hs1, hs2⟩ := cz3 BR) | (go_at_call 53; (with_reducible refine (HW.out A1 c1 A2 c2 A3 c3 _ (Kd.R_reads' HI0.out.r1).2.2 (Kd.R_reads' HI0.out.r1).2.1 (Kd.R_reads' HI0.out.r2).2.2 (Kd.R_reads' HI0.out.r2).2.1 (Kd.R_reads' HI0.out.r3).2.2 (Kd.R_reads' HI0.out.r3).2.1).mono ?_); rintro e w2 ⟨rfl, hb⟩; clear hr0 hr1 hr2 hs0 hs1 hs2 hx0 hx1 hx2 hy0 hy1 hy2; have n0_ := Aside0.mk (HI0.out.later hb); have n1_ := Aside0.mk (blk_below BR.out hb); clear HI0 BR hb; have HI0 := n0_; have BR := n1_; clear n0_ n1_; have BX := Aside0.mk HI0.out.box; obtain ⟨hx0, hx1, hx2, hy0, hy1, hy2⟩ := cz3 BX; clear BX; obtain ⟨hr0, hr1, hr2, hs0, hs1, hs2⟩ := cz3 BR) | (go_at_call 57; (with_reducible refine (HO.out A1 c1 A2 c2 A3 c3 _ (Kd.R_reads' HI0.out.r1).2.2 (Kd.R_reads' HI0.out.r1).2.1 (Kd.R_reads' HI0.out.r2).2.2 (Kd.R_reads' HI0.out.r2).2.1 (Kd.R_reads' HI0.out.r3).2.2 (Kd.R_reads' HI0.out.r3).2.1).mono ?_); rintro e w2 ⟨rfl, hb⟩; clear hr0 hr1 hr2 hs0 hs1 hs2 hx0 hx1 hx2 hy0 hy1 hy2; have n0_ := Aside0.mk (HI0.out.later hb); have n1_ := Aside0.mk (blk_below BR.out hb); clear HI0 BR hb; have HI0 := n0_; have BR := n1_; clear n0_ n1_; have BX := Aside0.mk HI0.out.box; obtain ⟨hx0, hx1, hx2, hy0, hy1, hy2⟩ := cz3 BX; clear BX; obtain ⟨hr0, hr1, hr2, hs0, hs1, hs2⟩ := cz3 BR) | (go_at_call 54; (with_reducible refine (HA.out A1 c1 A2 c2 A3 c3 _ (Kd.R_reads' HI0.out.r1).2.2 (Kd.R_reads' HI0.out.r1).2.1 (Kd.R_reads' HI0.out.r2).2.2 (Kd.R_reads' HI0.out.r2).2.1 (Kd.R_reads' HI0.out.r3).2.2 (Kd.R_reads' HI0.out.r3).2.1).mono ?_); rintro e w2 ⟨rfl, hb⟩; clear hr0 hr1 hr2 hs0 hs1 hs2 hx0 hx1 hx2 hy0 hy1 hy2; have n0_ := Aside0.mk (HI0.out.later hb); have n1_ := Aside0.mk (blk_below BR.out hb); clear HI0 BR hb; have HI0 := n0_; have BR := n1_; clear n0_ n1_; have BX := Aside0.mk HI0.out.box; obtain ⟨hx0, hx1, hx2, hy0, hy1, hy2⟩ := cz3 BX; clear BX; obtain ⟨hr0, hr1, hr2, hs0, hs1, hs2⟩ := cz3 BR))
       go_ret
       exact ⟨_, by rw [addBelayN, if_neg (show ¬ t < 0 by have := HT0.out; omega), if_neg (by simp), if_neg (by simp), if_neg (show ¬ o ≥ 0 by have := HO0.out; omega), if_pos HA0.out]; rfl, by simpa [addBelayB, addBelayN, show ¬ t < 0 by have := HT0.out; omega, show ¬ 0 ≤ o by have := HO0.out; omega, HA0.out] using HI0.out⟩
     ·have hb0 : decide (a ≥ 0) = false := decide_eq_false ha
      have hb1 : decide (0 ≤ a) = false := decide_eq_false ha
      have HA0 := Aside0.mk (show a < 0 by omega)
      clear ha
      go_enter Try.func47, Try.ntmps47
      go_wp2_with (first | ((with_reducible refine gate_dst (N := 3) rfl ?_); refine box_event ?hg (N := 3) ?hd (cs := #[.string nm, .string sd, .int .i64 pn]) (t := 40) ?hr ?_; (case hd => rfl); (case hg => rfl); (case hr => first | (go_simp; done) | (go_simp; rfl)); intro gb hg w1 hbox hb; have n0_ := Aside0.mk (HI0.out.later hb); have n1_ := Aside0.mk hbox; clear HI0 hbox hb hg; have HI0 := n0_; have BR := n1_; clear n0_ n1_; have BX := Aside0.mk HI0.out.box; obtain ⟨hx0, hx1, hx2, hy0, hy1, hy2⟩ := cz3 BX; clear BX; obtain ⟨hr0, hr1, hr2, hs0, hs1, hs2⟩ := cz3 BR) | (go_at_call 63; (with_reducible refine (HT.out A1 c1 A2 c2 A3 c3 _ (Kd.R_reads' HI0.out.r1).2.2 (Kd.R_reads' HI0.out.r1).2.1 (Kd.R_reads' HI0.out.r2).2.2 (Kd.R_reads' HI0.out.r2).2.1 (Kd.R_reads' HI0.out.r3).2.2 (Kd.R_reads' HI0.out.r3).2.1).mono ?_); rintro e w2 ⟨rfl, hb⟩; clear hr0 hr1 hr2 hs0 hs1 hs2 hx0 hx1 hx2 hy0 hy1 hy2; have n0_ := Aside0.mk (HI0.out.later hb); have n1_ := Aside0.mk (blk_below BR.out hb); clear HI0 BR hb; have HI0 := n0_; have BR := n1_; clear n0_ n1_; have BX := Aside0.mk HI0.out.box; obtain ⟨hx0, hx1, hx2, hy0, hy1, hy2⟩ := cz3 BX; clear BX; obtain ⟨hr0, hr1, hr2, hs0, hs1, hs2⟩ := cz3 BR) | (go_at_call 56; (with_reducible refine (HE.out A2 c2 _ (Kd.R_reads' HI0.out.r2).2.2 (Kd.R_reads' HI0.out.r2).2.1).mono ?_); rintro e w2 ⟨rfl, hd⟩; obtain ⟨nd, rfl⟩ := hd; clear hr0 hr1 hr2 hs0 hs1 hs2 hx0 hx1 hx2 hy0 hy1 hy2; have n0_ := Aside0.mk (HI0.out.drawn ⟨⟨nd, rfl⟩⟩); have n1_ := Aside0.mk (blk_drewN BR.out nd); clear HI0 BR; have HI0 := n0_; have BR := n1_; clear n0_ n1_; generalize World.drewN _ nd = w2 at HI0 BR ⊢; have BX := Aside0.mk HI0.out.box; obtain ⟨hx0, hx1, hx2, hy0, hy1, hy2⟩ := cz3 BX; clear BX; obtain ⟨hr0, hr1, hr2, hs0, hs1, hs2⟩ := cz3 BR) | (go_at_call 53; (with_reducible refine (HW.out A1 c1 A2 c2 A3 c3 _ (Kd.R_reads' HI0.out.r1).2.2 (Kd.R_reads' HI0.out.r1).2.1 (Kd.R_reads' HI0.out.r2).2.2 (Kd.R_reads' HI0.out.r2).2.1 (Kd.R_reads' HI0.out.r3).2.2 (Kd.R_reads' HI0.out.r3).2.1).mono ?_); rintro e w2 ⟨rfl, hb⟩; clear hr0 hr1 hr2 hs0 hs1 hs2 hx0 hx1 hx2 hy0 hy1 hy2; have n0_ := Aside0.mk (HI0.out.later hb); have n1_ := Aside0.mk (blk_below BR.out hb); clear HI0 BR hb; have HI0 := n0_; have BR := n1_; clear n0_ n1_; have BX := Aside0.mk HI0.out.box; obtain ⟨hx0, hx1, hx2, hy0, hy1, hy2⟩ := cz3 BX; clear BX; obtain ⟨hr0, hr1, hr2, hs0, hs1, hs2⟩ := cz3 BR) | (go_at_call 57; (with_reducible refine (HO.out A1 c1 A2 c2 A3 c3 _ (Kd.R_reads' HI0.out.r1).2.2 (Kd.R_reads' HI0.out.r1).2.1 (Kd.R_reads' HI0.out.r2).2.2 (Kd.R_reads' HI0.out.r2).2.1 (Kd.R_reads' HI0.out.r3).2.2 (Kd.R_reads' HI0.out.r3).2.1).mono ?_); rintro e w2 ⟨rfl, hb⟩; clear hr0 hr1 hr2 hs0 hs1 hs2 hx0 hx1 hx2 hy0 hy1 hy2; have n0_ := Aside0.mk (HI0.out.later hb); have n1_ := Aside0.mk (blk_below BR.out hb); clear HI0 BR hb; have HI0 := n0_; have BR := n1_; clear n0_ n1_; have BX := Aside0.mk HI0.out.box; obtain ⟨hx0, hx1, hx2, hy0, hy1, hy2⟩ := cz3 BX; clear BX; obtain ⟨hr0, hr1, hr2, hs0, hs1, hs2⟩ := cz3 BR) | (go_at_call 54; (with_reducible refine (HA.out A1 c1 A2 c2 A3 c3 _ (Kd.R_reads' HI0.out.r1).2.2 (Kd.R_reads' HI0.out.r1).2.1 (Kd.R_reads' HI0.out.r2).2.2 (Kd.R_reads' HI0.out.r2).2.1 (Kd.R_reads' HI0.out.r3).2.2 (Kd.R_reads' HI0.out.r3).2.1).mono ?_); rintro e w2 ⟨rfl, hb⟩; clear hr0 hr1 hr2 hs0 hs1 hs2 hx0 hx1 hx2 hy0 hy1 hy2; have n0_ := Aside0.mk (HI0.out.later hb); have n1_ := Aside0.mk (blk_below BR.out hb); clear HI0 BR hb; have HI0 := n0_; have BR := n1_; clear n0_ n1_; have BX := Aside0.mk HI0.out.box; obtain ⟨hx0, hx1, hx2, hy0, hy1, hy2⟩ := cz3 BX; clear BX; obtain ⟨hr0, hr1, hr2, hs0, hs1, hs2⟩ := cz3 BR))
      (first | go_region_held3 (fun w' : World => w'.cell? ⟨g, 0, none⟩ = some (.slice A1 R.length c1) ∧ w'.cell? ⟨g, 1, none⟩ = some (.slice A2 L.length c2) ∧ w'.cell? ⟨g, 2, none⟩ = some (.slice A3 B.length c3) ∧ w'.cell? ⟨gb, 0, none⟩ = some (.string nm) ∧ w'.cell? ⟨gb, 1, none⟩ = some (.string sd) ∧ w'.cell? ⟨gb, 2, none⟩ = some (.int .i64 pn)) (first | exact ⟨hx0, hx1, hx2, hr0, hr1, hr2⟩) (first | (go_at_call 63; (with_reducible refine (HT.out A1 c1 A2 c2 A3 c3 _ (Kd.R_reads' HI0.out.drew.r1).2.2 (Kd.R_reads' HI0.out.drew.r1).2.1 (Kd.R_reads' HI0.out.drew.r2).2.2 (Kd.R_reads' HI0.out.drew.r2).2.1 (Kd.R_reads' HI0.out.drew.r3).2.2 (Kd.R_reads' HI0.out.drew.r3).2.1).mono ?_); rintro e w2 ⟨rfl, hb⟩; clear hr0 hr1 hr2 hs0 hs1 hs2 hx0 hx1 hx2 hy0 hy1 hy2; have n0_ := Aside0.mk (HI0.out.drew.later hb); have n1_ := Aside0.mk (blk_below (blk_drew BR.out) hb); clear HI0 BR hb; have HI0 := n0_; have BR := n1_; clear n0_ n1_; have BX := Aside0.mk HI0.out.box; obtain ⟨hx0, hx1, hx2, hy0, hy1, hy2⟩ := cz3 BX; clear BX; obtain ⟨hr0, hr1, hr2, hs0, hs1, hs2⟩ := cz3 BR) | (go_at_call 56; (with_reducible refine (HE.out A2 c2 _ (Kd.R_reads' HI0.out.r2).2.2 (Kd.R_reads' HI0.out.r2).2.1).mono ?_); rintro e w2 ⟨rfl, hd⟩; obtain ⟨nd, rfl⟩ := hd; clear hr0 hr1 hr2 hs0 hs1 hs2 hx0 hx1 hx2 hy0 hy1 hy2; have n0_ := Aside0.mk (HI0.out.drawn ⟨⟨nd, rfl⟩⟩); have n1_ := Aside0.mk (blk_drewN BR.out nd); clear HI0 BR; have HI0 := n0_; have BR := n1_; clear n0_ n1_; generalize World.drewN _ nd = w2 at HI0 BR ⊢; have BX := Aside0.mk HI0.out.box; obtain ⟨hx0, hx1, hx2, hy0, hy1, hy2⟩ := cz3 BX; clear BX; obtain ⟨hr0, hr1, hr2, hs0, hs1, hs2⟩ := cz3 BR) | (go_at_call 53; (with_reducible refine (HW.out A1 c1 A2 c2 A3 c3 _ (Kd.R_reads' HI0.out.r1).2.2 (Kd.R_reads' HI0.out.r1).2.1 (Kd.R_reads' HI0.out.r2).2.2 (Kd.R_reads' HI0.out.r2).2.1 (Kd.R_reads' HI0.out.r3).2.2 (Kd.R_reads' HI0.out.r3).2.1).mono ?_); rintro e w2 ⟨rfl, hb⟩; clear hr0 hr1 hr2 hs0 hs1 hs2 hx0 hx1 hx2 hy0 hy1 hy2; have n0_ := Aside0.mk (HI0.out.later hb); have n1_ := Aside0.mk (blk_below BR.out hb); clear HI0 BR hb; have HI0 := n0_; have BR := n1_; clear n0_ n1_; have BX := Aside0.mk HI0.out.box; obtain ⟨hx0, hx1, hx2, hy0, hy1, hy2⟩ := cz3 BX; clear BX; obtain ⟨hr0, hr1, hr2, hs0, hs1, hs2⟩ := cz3 BR) | (go_at_call 57; (with_reducible refine (HO.out A1 c1 A2 c2 A3 c3 _ (Kd.R_reads' HI0.out.r1).2.2 (Kd.R_reads' HI0.out.r1).2.1 (Kd.R_reads' HI0.out.r2).2.2 (Kd.R_reads' HI0.out.r2).2.1 (Kd.R_reads' HI0.out.r3).2.2 (Kd.R_reads' HI0.out.r3).2.1).mono ?_); rintro e w2 ⟨rfl, hb⟩; clear hr0 hr1 hr2 hs0 hs1 hs2 hx0 hx1 hx2 hy0 hy1 hy2; have n0_ := Aside0.mk (HI0.out.later hb); have n1_ := Aside0.mk (blk_below BR.out hb); clear HI0 BR hb; have HI0 := n0_; have BR := n1_; clear n0_ n1_; have BX := Aside0.mk HI0.out.box; obtain ⟨hx0, hx1, hx2, hy0, hy1, hy2⟩ := cz3 BX; clear BX; obtain ⟨hr0, hr1, hr2, hs0, hs1, hs2⟩ := cz3 BR) | (go_at_call 54; (with_reducible refine (HA.out A1 c1 A2 c2 A3 c3 _ (Kd.R_reads' HI0.out.r1).2.2 (Kd.R_reads' HI0.out.r1).2.1 (Kd.R_reads' HI0.out.r2).2.2 (Kd.R_reads' HI0.out.r2).2.1 (Kd.R_reads' HI0.out.r3).2.2 (Kd.R_reads' HI0.out.r3).2.1).mono ?_); rintro e w2 ⟨rfl, hb⟩; clear hr0 hr1 hr2 hs0 hs1 hs2 hx0 hx1 hx2 hy0 hy1 hy2; have n0_ := Aside0.mk (HI0.out.later hb); have n1_ := Aside0.mk (blk_below BR.out hb); clear HI0 BR hb; have HI0 := n0_; have BR := n1_; clear n0_ n1_; have BX := Aside0.mk HI0.out.box; obtain ⟨hx0, hx1, hx2, hy0, hy1, hy2⟩ := cz3 BX; clear BX; obtain ⟨hr0, hr1, hr2, hs0, hs1, hs2⟩ := cz3 BR)) | fail)
      all_goals
       go_wp2_with (first | ((with_reducible refine gate_dst (N := 3) rfl ?_); refine box_event ?hg (N := 3) ?hd (cs := #[.string nm, .string sd, .int .i64 pn]) (t := 40) ?hr ?_; (case hd => rfl); (case hg => rfl); (case hr => first | (go_simp; done) | (go_simp; rfl)); intro gb hg w1 hbox hb; have n0_ := Aside0.mk (HI0.out.later hb); have n1_ := Aside0.mk hbox; clear HI0 hbox hb hg; have HI0 := n0_; have BR := n1_; clear n0_ n1_; have BX := Aside0.mk HI0.out.box; obtain ⟨hx0, hx1, hx2, hy0, hy1, hy2⟩ := cz3 BX; clear BX; obtain ⟨hr0, hr1, hr2, hs0, hs1, hs2⟩ := cz3 BR) | (go_at_call 63; (with_reducible refine (HT.out A1 c1 A2 c2 A3 c3 _ (Kd.R_reads' HI0.out.r1).2.2 (Kd.R_reads' HI0.out.r1).2.1 (Kd.R_reads' HI0.out.r2).2.2 (Kd.R_reads' HI0.out.r2).2.1 (Kd.R_reads' HI0.out.r3).2.2 (Kd.R_reads' HI0.out.r3).2.1).mono ?_); rintro e w2 ⟨rfl, hb⟩; clear hr0 hr1 hr2 hs0 hs1 hs2 hx0 hx1 hx2 hy0 hy1 hy2; have n0_ := Aside0.mk (HI0.out.later hb); have n1_ := Aside0.mk (blk_below BR.out hb); clear HI0 BR hb; have HI0 := n0_; have BR := n1_; clear n0_ n1_; have BX := Aside0.mk HI0.out.box; obtain ⟨hx0, hx1, hx2, hy0, hy1, hy2⟩ := cz3 BX; clear BX; obtain ⟨hr0, hr1, hr2, hs0, hs1, hs2⟩ := cz3 BR) | (go_at_call 56; (with_reducible refine (HE.out A2 c2 _ (Kd.R_reads' HI0.out.r2).2.2 (Kd.R_reads' HI0.out.r2).2.1).mono ?_); rintro e w2 ⟨rfl, hd⟩; obtain ⟨nd, rfl⟩ := hd; clear hr0 hr1 hr2 hs0 hs1 hs2 hx0 hx1 hx2 hy0 hy1 hy2; have n0_ := Aside0.mk (HI0.out.drawn ⟨⟨nd, rfl⟩⟩); have n1_ := Aside0.mk (blk_drewN BR.out nd); clear HI0 BR; have HI0 := n0_; have BR := n1_; clear n0_ n1_; generalize World.drewN _ nd = w2 at HI0 BR ⊢; have BX := Aside0.mk HI0.out.box; obtain ⟨hx0, hx1, hx2, hy0, hy1, hy2⟩ := cz3 BX; clear BX; obtain ⟨hr0, hr1, hr2, hs0, hs1, hs2⟩ := cz3 BR) | (go_at_call 53; (with_reducible refine (HW.out A1 c1 A2 c2 A3 c3 _ (Kd.R_reads' HI0.out.r1).2.2 (Kd.R_reads' HI0.out.r1).2.1 (Kd.R_reads' HI0.out.r2).2.2 (Kd.R_reads' HI0.out.r2).2.1 (Kd.R_reads' HI0.out.r3).2.2 (Kd.R_reads' HI0.out.r3).2.1).mono ?_); rintro e w2 ⟨rfl, hb⟩; clear hr0 hr1 hr2 hs0 hs1 hs2 hx0 hx1 hx2 hy0 hy1 hy2; have n0_ := Aside0.mk (HI0.out.later hb); have n1_ := Aside0.mk (blk_below BR.out hb); clear HI0 BR hb; have HI0 := n0_; have BR := n1_; clear n0_ n1_; have BX := Aside0.mk HI0.out.box; obtain ⟨hx0, hx1, hx2, hy0, hy1, hy2⟩ := cz3 BX; clear BX; obtain ⟨hr0, hr1, hr2, hs0, hs1, hs2⟩ := cz3 BR) | (go_at_call 57; (with_reducible refine (HO.out A1 c1 A2 c2 A3 c3 _ (Kd.R_reads' HI0.out.r1).2.2 (Kd.R_reads' HI0.out.r1).2.1 (Kd.R_reads' HI0.out.r2).2.2 (Kd.R_reads' HI0.out.r2).2.1 (Kd.R_reads' HI0.out.r3).2.2 (Kd.R_reads' HI0.out.r3).2.1).mono ?_); rintro e w2 ⟨rfl, hb⟩; clear hr0 hr1 hr2 hs0 hs1 hs2 hx0 hx1 hx2 hy0 hy1 hy2; have n0_ := Aside0.mk (HI0.out.later hb); have n1_ := Aside0.mk (blk_below BR.out hb); clear HI0 BR hb; have HI0 := n0_; have BR := n1_; clear n0_ n1_; have BX := Aside0.mk HI0.out.box; obtain ⟨hx0, hx1, hx2, hy0, hy1, hy2⟩ := cz3 BX; clear BX; obtain ⟨hr0, hr1, hr2, hs0, hs1, hs2⟩ := cz3 BR) | (go_at_call 54; (with_reducible refine (HA.out A1 c1 A2 c2 A3 c3 _ (Kd.R_reads' HI0.out.r1).2.2 (Kd.R_reads' HI0.out.r1).2.1 (Kd.R_reads' HI0.out.r2).2.2 (Kd.R_reads' HI0.out.r2).2.1 (Kd.R_reads' HI0.out.r3).2.2 (Kd.R_reads' HI0.out.r3).2.1).mono ?_); rintro e w2 ⟨rfl, hb⟩; clear hr0 hr1 hr2 hs0 hs1 hs2 hx0 hx1 hx2 hy0 hy1 hy2; have n0_ := Aside0.mk (HI0.out.later hb); have n1_ := Aside0.mk (blk_below BR.out hb); clear HI0 BR hb; have HI0 := n0_; have BR := n1_; clear n0_ n1_; have BX := Aside0.mk HI0.out.box; obtain ⟨hx0, hx1, hx2, hy0, hy1, hy2⟩ := cz3 BX; clear BX; obtain ⟨hr0, hr1, hr2, hs0, hs1, hs2⟩ := cz3 BR))
       go_still_tail 7, (by kernel_rfl)
       change wpList _ _ _ _ _ w2.drew
       clear hr0 hr1 hr2 hs0 hs1 hs2 hx0 hx1 hx2 hy0 hy1 hy2
       have n0_ := Aside0.mk HI0.out.drew
       have n1_ := Aside0.mk (blk_drew BR.out)
       clear HI0 BR
       have HI0 := n0_
       have BR := n1_
       clear n0_ n1_
       generalize w2.drew = wd at HI0 BR ⊢
       have BX := Aside0.mk HI0.out.box
       obtain ⟨hx0, hx1, hx2, hy0, hy1, hy2⟩ := cz3 BX
       clear BX
       obtain ⟨hr0, hr1, hr2, hs0, hs1, hs2⟩ := cz3 BR
       go_wp2_with (first | ((with_reducible refine gate_dst (N := 3) rfl ?_); refine box_event ?hg (N := 3) ?hd (cs := #[.string nm, .string sd, .int .i64 pn]) (t := 40) ?hr ?_; (case hd => rfl); (case hg => rfl); (case hr => first | (go_simp; done) | (go_simp; rfl)); intro gb hg w1 hbox hb; have n0_ := Aside0.mk (HI0.out.later hb); have n1_ := Aside0.mk hbox; clear HI0 hbox hb hg; have HI0 := n0_; have BR := n1_; clear n0_ n1_; have BX := Aside0.mk HI0.out.box; obtain ⟨hx0, hx1, hx2, hy0, hy1, hy2⟩ := cz3 BX; clear BX; obtain ⟨hr0, hr1, hr2, hs0, hs1, hs2⟩ := cz3 BR) | (go_at_call 63; (with_reducible refine (HT.out A1 c1 A2 c2 A3 c3 _ (Kd.R_reads' HI0.out.r1).2.2 (Kd.R_reads' HI0.out.r1).2.1 (Kd.R_reads' HI0.out.r2).2.2 (Kd.R_reads' HI0.out.r2).2.1 (Kd.R_reads' HI0.out.r3).2.2 (Kd.R_reads' HI0.out.r3).2.1).mono ?_); rintro e w2 ⟨rfl, hb⟩; clear hr0 hr1 hr2 hs0 hs1 hs2 hx0 hx1 hx2 hy0 hy1 hy2; have n0_ := Aside0.mk (HI0.out.later hb); have n1_ := Aside0.mk (blk_below BR.out hb); clear HI0 BR hb; have HI0 := n0_; have BR := n1_; clear n0_ n1_; have BX := Aside0.mk HI0.out.box; obtain ⟨hx0, hx1, hx2, hy0, hy1, hy2⟩ := cz3 BX; clear BX; obtain ⟨hr0, hr1, hr2, hs0, hs1, hs2⟩ := cz3 BR) | (go_at_call 56; (with_reducible refine (HE.out A2 c2 _ (Kd.R_reads' HI0.out.r2).2.2 (Kd.R_reads' HI0.out.r2).2.1).mono ?_); rintro e w2 ⟨rfl, hd⟩; obtain ⟨nd, rfl⟩ := hd; clear hr0 hr1 hr2 hs0 hs1 hs2 hx0 hx1 hx2 hy0 hy1 hy2; have n0_ := Aside0.mk (HI0.out.drawn ⟨⟨nd, rfl⟩⟩); have n1_ := Aside0.mk (blk_drewN BR.out nd); clear HI0 BR; have HI0 := n0_; have BR := n1_; clear n0_ n1_; generalize World.drewN _ nd = w2 at HI0 BR ⊢; have BX := Aside0.mk HI0.out.box; obtain ⟨hx0, hx1, hx2, hy0, hy1, hy2⟩ := cz3 BX; clear BX; obtain ⟨hr0, hr1, hr2, hs0, hs1, hs2⟩ := cz3 BR) | (go_at_call 53; (with_reducible refine (HW.out A1 c1 A2 c2 A3 c3 _ (Kd.R_reads' HI0.out.r1).2.2 (Kd.R_reads' HI0.out.r1).2.1 (Kd.R_reads' HI0.out.r2).2.2 (Kd.R_reads' HI0.out.r2).2.1 (Kd.R_reads' HI0.out.r3).2.2 (Kd.R_reads' HI0.out.r3).2.1).mono ?_); rintro e w2 ⟨rfl, hb⟩; clear hr0 hr1 hr2 hs0 hs1 hs2 hx0 hx1 hx2 hy0 hy1 hy2; have n0_ := Aside0.mk (HI0.out.later hb); have n1_ := Aside0.mk (blk_below BR.out hb); clear HI0 BR hb; have HI0 := n0_; have BR := n1_; clear n0_ n1_; have BX := Aside0.mk HI0.out.box; obtain ⟨hx0, hx1, hx2, hy0, hy1, hy2⟩ := cz3 BX; clear BX; obtain ⟨hr0, hr1, hr2, hs0, hs1, hs2⟩ := cz3 BR) | (go_at_call 57; (with_reducible refine (HO.out A1 c1 A2 c2 A3 c3 _ (Kd.R_reads' HI0.out.r1).2.2 (Kd.R_reads' HI0.out.r1).2.1 (Kd.R_reads' HI0.out.r2).2.2 (Kd.R_reads' HI0.out.r2).2.1 (Kd.R_reads' HI0.out.r3).2.2 (Kd.R_reads' HI0.out.r3).2.1).mono ?_); rintro e w2 ⟨rfl, hb⟩; clear hr0 hr1 hr2 hs0 hs1 hs2 hx0 hx1 hx2 hy0 hy1 hy2; have n0_ := Aside0.mk (HI0.out.later hb); have n1_ := Aside0.mk (blk_below BR.out hb); clear HI0 BR hb; have HI0 := n0_; have BR := n1_; clear n0_ n1_; have BX := Aside0.mk HI0.out.box; obtain ⟨hx0, hx1, hx2, hy0, hy1, hy2⟩ := cz3 BX; clear BX; obtain ⟨hr0, hr1, hr2, hs0, hs1, hs2⟩ := cz3 BR) | (go_at_call 54; (with_reducible refine (HA.out A1 c1 A2 c2 A3 c3 _ (Kd.R_reads' HI0.out.r1).2.2 (Kd.R_reads' HI0.out.r1).2.1 (Kd.R_reads' HI0.out.r2).2.2 (Kd.R_reads' HI0.out.r2).2.1 (Kd.R_reads' HI0.out.r3).2.2 (Kd.R_reads' HI0.out.r3).2.1).mono ?_); rintro e w2 ⟨rfl, hb⟩; clear hr0 hr1 hr2 hs0 hs1 hs2 hx0 hx1 hx2 hy0 hy1 hy2; have n0_ := Aside0.mk (HI0.out.later hb); have n1_ := Aside0.mk (blk_below BR.out hb); clear HI0 BR hb; have HI0 := n0_; have BR := n1_; clear n0_ n1_; have BX := Aside0.mk HI0.out.box; obtain ⟨hx0, hx1, hx2, hy0, hy1, hy2⟩ := cz3 BX; clear BX; obtain ⟨hr0, hr1, hr2, hs0, hs1, hs2⟩ := cz3 BR))
       go_still_tail 5, (by kernel_rfl)
       change wpList _ _ _ _ _ w2.drew
       clear hr0 hr1 hr2 hs0 hs1 hs2 hx0 hx1 hx2 hy0 hy1 hy2
       have n0_ := Aside0.mk HI0.out.drew
       have n1_ := Aside0.mk (blk_drew BR.out)
       clear HI0 BR
       have HI0 := n0_
       have BR := n1_
       clear n0_ n1_
       generalize w2.drew = wd at HI0 BR ⊢
       have BX := Aside0.mk HI0.out.box
       obtain ⟨hx0, hx1, hx2, hy0, hy1, hy2⟩ := cz3 BX
       clear BX
       obtain ⟨hr0, hr1, hr2, hs0, hs1, hs2⟩ := cz3 BR
       go_wp2_with (first | ((with_reducible refine gate_dst (N := 3) rfl ?_); refine box_event ?hg (N := 3) ?hd (cs := #[.string nm, .string sd, .int .i64 pn]) (t := 40) ?hr ?_; (case hd => rfl); (case hg => rfl); (case hr => first | (go_simp; done) | (go_simp; rfl)); intro gb hg w1 hbox hb; have n0_ := Aside0.mk (HI0.out.later hb); have n1_ := Aside0.mk hbox; clear HI0 hbox hb hg; have HI0 := n0_; have BR := n1_; clear n0_ n1_; have BX := Aside0.mk HI0.out.box; obtain ⟨hx0, hx1, hx2, hy0, hy1, hy2⟩ := cz3 BX; clear BX; obtain ⟨hr0, hr1, hr2, hs0, hs1, hs2⟩ := cz3 BR) | (go_at_call 63; (with_reducible refine (HT.out A1 c1 A2 c2 A3 c3 _ (Kd.R_reads' HI0.out.r1).2.2 (Kd.R_reads' HI0.out.r1).2.1 (Kd.R_reads' HI0.out.r2).2.2 (Kd.R_reads' HI0.out.r2).2.1 (Kd.R_reads' HI0.out.r3).2.2 (Kd.R_reads' HI0.out.r3).2.1).mono ?_); rintro e w2 ⟨rfl, hb⟩; clear hr0 hr1 hr2 hs0 hs1 hs2 hx0 hx1 hx2 hy0 hy1 hy2; have n0_ := Aside0.mk (HI0.out.later hb); have n1_ := Aside0.mk (blk_below BR.out hb); clear HI0 BR hb; have HI0 := n0_; have BR := n1_; clear n0_ n1_; have BX := Aside0.mk HI0.out.box; obtain ⟨hx0, hx1, hx2, hy0, hy1, hy2⟩ := cz3 BX; clear BX; obtain ⟨hr0, hr1, hr2, hs0, hs1, hs2⟩ := cz3 BR) | (go_at_call 56; (with_reducible refine (HE.out A2 c2 _ (Kd.R_reads' HI0.out.r2).2.2 (Kd.R_reads' HI0.out.r2).2.1).mono ?_); rintro e w2 ⟨rfl, hd⟩; obtain ⟨nd, rfl⟩ := hd; clear hr0 hr1 hr2 hs0 hs1 hs2 hx0 hx1 hx2 hy0 hy1 hy2; have n0_ := Aside0.mk (HI0.out.drawn ⟨⟨nd, rfl⟩⟩); have n1_ := Aside0.mk (blk_drewN BR.out nd); clear HI0 BR; have HI0 := n0_; have BR := n1_; clear n0_ n1_; generalize World.drewN _ nd = w2 at HI0 BR ⊢; have BX := Aside0.mk HI0.out.box; obtain ⟨hx0, hx1, hx2, hy0, hy1, hy2⟩ := cz3 BX; clear BX; obtain ⟨hr0, hr1, hr2, hs0, hs1, hs2⟩ := cz3 BR) | (go_at_call 53; (with_reducible refine (HW.out A1 c1 A2 c2 A3 c3 _ (Kd.R_reads' HI0.out.r1).2.2 (Kd.R_reads' HI0.out.r1).2.1 (Kd.R_reads' HI0.out.r2).2.2 (Kd.R_reads' HI0.out.r2).2.1 (Kd.R_reads' HI0.out.r3).2.2 (Kd.R_reads' HI0.out.r3).2.1).mono ?_); rintro e w2 ⟨rfl, hb⟩; clear hr0 hr1 hr2 hs0 hs1 hs2 hx0 hx1 hx2 hy0 hy1 hy2; have n0_ := Aside0.mk (HI0.out.later hb); have n1_ := Aside0.mk (blk_below BR.out hb); clear HI0 BR hb; have HI0 := n0_; have BR := n1_; clear n0_ n1_; have BX := Aside0.mk HI0.out.box; obtain ⟨hx0, hx1, hx2, hy0, hy1, hy2⟩ := cz3 BX; clear BX; obtain ⟨hr0, hr1, hr2, hs0, hs1, hs2⟩ := cz3 BR) | (go_at_call 57; (with_reducible refine (HO.out A1 c1 A2 c2 A3 c3 _ (Kd.R_reads' HI0.out.r1).2.2 (Kd.R_reads' HI0.out.r1).2.1 (Kd.R_reads' HI0.out.r2).2.2 (Kd.R_reads' HI0.out.r2).2.1 (Kd.R_reads' HI0.out.r3).2.2 (Kd.R_reads' HI0.out.r3).2.1).mono ?_); rintro e w2 ⟨rfl, hb⟩; clear hr0 hr1 hr2 hs0 hs1 hs2 hx0 hx1 hx2 hy0 hy1 hy2; have n0_ := Aside0.mk (HI0.out.later hb); have n1_ := Aside0.mk (blk_below BR.out hb); clear HI0 BR hb; have HI0 := n0_; have BR := n1_; clear n0_ n1_; have BX := Aside0.mk HI0.out.box; obtain ⟨hx0, hx1, hx2, hy0, hy1, hy2⟩ := cz3 BX; clear BX; obtain ⟨hr0, hr1, hr2, hs0, hs1, hs2⟩ := cz3 BR) | (go_at_call 54; (with_reducible refine (HA.out A1 c1 A2 c2 A3 c3 _ (Kd.R_reads' HI0.out.r1).2.2 (Kd.R_reads' HI0.out.r1).2.1 (Kd.R_reads' HI0.out.r2).2.2 (Kd.R_reads' HI0.out.r2).2.1 (Kd.R_reads' HI0.out.r3).2.2 (Kd.R_reads' HI0.out.r3).2.1).mono ?_); rintro e w2 ⟨rfl, hb⟩; clear hr0 hr1 hr2 hs0 hs1 hs2 hx0 hx1 hx2 hy0 hy1 hy2; have n0_ := Aside0.mk (HI0.out.later hb); have n1_ := Aside0.mk (blk_below BR.out hb); clear HI0 BR hb; have HI0 := n0_; have BR := n1_; clear n0_ n1_; have BX := Aside0.mk HI0.out.box; obtain ⟨hx0, hx1, hx2, hy0, hy1, hy2⟩ := cz3 BX; clear BX; obtain ⟨hr0, hr1, hr2, hs0, hs1, hs2⟩ := cz3 BR))
       go_still_tail 7, (by kernel_rfl)
       change wpList _ _ _ _ _ w2.drew
       clear hr0 hr1 hr2 hs0 hs1 hs2 hx0 hx1 hx2 hy0 hy1 hy2
       have n0_ := Aside0.mk HI0.out.drew
       have n1_ := Aside0.mk (blk_drew BR.out)
       clear HI0 BR
       have HI0 := n0_
       have BR := n1_
       clear n0_ n1_
       generalize w2.drew = wd at HI0 BR ⊢
       have BX := Aside0.mk HI0.out.box
       obtain ⟨hx0, hx1, hx2, hy0, hy1, hy2⟩ := cz3 BX
       clear BX
       obtain ⟨hr0, hr1, hr2, hs0, hs1, hs2⟩ := cz3 BR
       go_wp2_with (first | ((with_reducible refine gate_dst (N := 3) rfl ?_); refine box_event ?hg (N := 3) ?hd (cs := #[.string nm, .string sd, .int .i64 pn]) (t := 40) ?hr ?_; (case hd => rfl); (case hg => rfl); (case hr => first | (go_simp; done) | (go_simp; rfl)); intro gb hg w1 hbox hb; have n0_ := Aside0.mk (HI0.out.later hb); have n1_ := Aside0.mk hbox; clear HI0 hbox hb hg; have HI0 := n0_; have BR := n1_; clear n0_ n1_; have BX := Aside0.mk HI0.out.box; obtain ⟨hx0, hx1, hx2, hy0, hy1, hy2⟩ := cz3 BX; clear BX; obtain ⟨hr0, hr1, hr2, hs0, hs1, hs2⟩ := cz3 BR) | (go_at_call 63; (with_reducible refine (HT.out A1 c1 A2 c2 A3 c3 _ (Kd.R_reads' HI0.out.r1).2.2 (Kd.R_reads' HI0.out.r1).2.1 (Kd.R_reads' HI0.out.r2).2.2 (Kd.R_reads' HI0.out.r2).2.1 (Kd.R_reads' HI0.out.r3).2.2 (Kd.R_reads' HI0.out.r3).2.1).mono ?_); rintro e w2 ⟨rfl, hb⟩; clear hr0 hr1 hr2 hs0 hs1 hs2 hx0 hx1 hx2 hy0 hy1 hy2; have n0_ := Aside0.mk (HI0.out.later hb); have n1_ := Aside0.mk (blk_below BR.out hb); clear HI0 BR hb; have HI0 := n0_; have BR := n1_; clear n0_ n1_; have BX := Aside0.mk HI0.out.box; obtain ⟨hx0, hx1, hx2, hy0, hy1, hy2⟩ := cz3 BX; clear BX; obtain ⟨hr0, hr1, hr2, hs0, hs1, hs2⟩ := cz3 BR) | (go_at_call 56; (with_reducible refine (HE.out A2 c2 _ (Kd.R_reads' HI0.out.r2).2.2 (Kd.R_reads' HI0.out.r2).2.1).mono ?_); rintro e w2 ⟨rfl, hd⟩; obtain ⟨nd, rfl⟩ := hd; clear hr0 hr1 hr2 hs0 hs1 hs2 hx0 hx1 hx2 hy0 hy1 hy2; have n0_ := Aside0.mk (HI0.out.drawn ⟨⟨nd, rfl⟩⟩); have n1_ := Aside0.mk (blk_drewN BR.out nd); clear HI0 BR; have HI0 := n0_; have BR := n1_; clear n0_ n1_; generalize World.drewN _ nd = w2 at HI0 BR ⊢; have BX := Aside0.mk HI0.out.box; obtain ⟨hx0, hx1, hx2, hy0, hy1, hy2⟩ := cz3 BX; clear BX; obtain ⟨hr0, hr1, hr2, hs0, hs1, hs2⟩ := cz3 BR) | (go_at_call 53; (with_reducible refine (HW.out A1 c1 A2 c2 A3 c3 _ (Kd.R_reads' HI0.out.r1).2.2 (Kd.R_reads' HI0.out.r1).2.1 (Kd.R_reads' HI0.out.r2).2.2 (Kd.R_reads' HI0.out.r2).2.1 (Kd.R_reads' HI0.out.r3).2.2 (Kd.R_reads' HI0.out.r3).2.1).mono ?_); rintro e w2 ⟨rfl, hb⟩; clear hr0 hr1 hr2 hs0 hs1 hs2 hx0 hx1 hx2 hy0 hy1 hy2; have n0_ := Aside0.mk (HI0.out.later hb); have n1_ := Aside0.mk (blk_below BR.out hb); clear HI0 BR hb; have HI0 := n0_; have BR := n1_; clear n0_ n1_; have BX := Aside0.mk HI0.out.box; obtain ⟨hx0, hx1, hx2, hy0, hy1, hy2⟩ := cz3 BX; clear BX; obtain ⟨hr0, hr1, hr2, hs0, hs1, hs2⟩ := cz3 BR) | (go_at_call 57; (with_reducible refine (HO.out A1 c1 A2 c2 A3 c3 _ (Kd.R_reads' HI0.out.r1).2.2 (Kd.R_reads' HI0.out.r1).2.1 (Kd.R_reads' HI0.out.r2).2.2 (Kd.R_reads' HI0.out.r2).2.1 (Kd.R_reads' HI0.out.r3).2.2 (Kd.R_reads' HI0.out.r3).2.1).mono ?_); rintro e w2 ⟨rfl, hb⟩; clear hr0 hr1 hr2 hs0 hs1 hs2 hx0 hx1 hx2 hy0 hy1 hy2; have n0_ := Aside0.mk (HI0.out.later hb); have n1_ := Aside0.mk (blk_below BR.out hb); clear HI0 BR hb; have HI0 := n0_; have BR := n1_; clear n0_ n1_; have BX := Aside0.mk HI0.out.box; obtain ⟨hx0, hx1, hx2, hy0, hy1, hy2⟩ := cz3 BX; clear BX; obtain ⟨hr0, hr1, hr2, hs0, hs1, hs2⟩ := cz3 BR) | (go_at_call 54; (with_reducible refine (HA.out A1 c1 A2 c2 A3 c3 _ (Kd.R_reads' HI0.out.r1).2.2 (Kd.R_reads' HI0.out.r1).2.1 (Kd.R_reads' HI0.out.r2).2.2 (Kd.R_reads' HI0.out.r2).2.1 (Kd.R_reads' HI0.out.r3).2.2 (Kd.R_reads' HI0.out.r3).2.1).mono ?_); rintro e w2 ⟨rfl, hb⟩; clear hr0 hr1 hr2 hs0 hs1 hs2 hx0 hx1 hx2 hy0 hy1 hy2; have n0_ := Aside0.mk (HI0.out.later hb); have n1_ := Aside0.mk (blk_below BR.out hb); clear HI0 BR hb; have HI0 := n0_; have BR := n1_; clear n0_ n1_; have BX := Aside0.mk HI0.out.box; obtain ⟨hx0, hx1, hx2, hy0, hy1, hy2⟩ := cz3 BX; clear BX; obtain ⟨hr0, hr1, hr2, hs0, hs1, hs2⟩ := cz3 BR))
       have HZ := HI0.out.later (below_alloc (Below.refl w2.heap.size w2) (.cells #[.string nm, .string sd, .int .i64 pn] 40))
       have BZ := Aside0.mk HZ.box
       clear HZ
       obtain ⟨hz0, hz1, hz2, hw0, hw1, hw2⟩ := cz3 BZ
       clear BZ
       go_region_law (refine Kd.R_append_step k40 (w0 := w0) w0.heap.size (by rfl) (.tmp 55) (.tmp 57) 30 40 (.agg #[.string ⟨#[]⟩, .string ⟨#[]⟩, .int .i64 0]) 40 rfl Try.underlying30 info40 rfl (by decide) (by omega) (.slice A3 B.length c3) B (⟨nm, sd, pn⟩ : S40) [.string nm, .string sd, .int .i64 pn] (fun _ => True) (fun _ => False) rfl rfl (k40_mkM _ _ _ _) (fun _ hk => hk.elim) (fun _ _ => trivial) HI0.out.drew.r3 HI0.out.drew.below HI0.out.drew.below.size (by have := HL.out; omega) ?_; intro v3' w6 ho hb hg hat; obtain ⟨A4, c4, rfl⟩ := Kd.R_slice ho; have n0_ := Aside0.mk (HI0.out.drew.grown3 ho hb hg); clear hz0 hz1 hz2 hw0 hw1 hw2; clear hr0 hr1 hr2 hs0 hs1 hs2 hx0 hx1 hx2 hy0 hy1 hy2; clear HI0 BR ho hb hg hat; have HI0 := n0_; clear n0_; have BX := Aside0.mk HI0.out.1; obtain ⟨hx0, hx1, hx2, hy0, hy1, hy2⟩ := cz3 BX; clear BX)
       all_goals
        go_wp2
        go_ret
        exact ⟨_, by rw [addBelayN, if_neg (show ¬ t < 0 by have := HT0.out; omega), if_neg (by simp), if_neg (by simp), if_neg (show ¬ o ≥ 0 by have := HO0.out; omega), if_neg (show ¬ a ≥ 0 by have := HA0.out; omega)]; rfl, by simpa [addBelayB, addBelayN, show ¬ t < 0 by have := HT0.out; omega, show ¬ 0 ≤ o by have := HO0.out; omega, show ¬ 0 ≤ a by have := HA0.out; omega] using HI0.out.2⟩
def impl_addBelay.f (k : Nat) (l0 : List (S69)) (l1 : List ByteArray) (l2 : List (S40)) (a1 : ByteArray) (a2 : ByteArray) (a3 : Int) : Option (Int) := (impl_railNamed.f l0 l1 l2 a2).bind fun t1 => ((slices_Contains_string_string.f k l1 a1).bind fun t2 => ((impl_hasPin.f l0 l1 l2 a2 a3).bind fun t3 => ((impl_belayOf.f l0 l1 l2 a1).bind fun t4 => ((impl_belayAt.f l0 l1 l2 a2 a3).bind fun t5 => (some (addBelayN t1 t2 t3 t4 t5))))))
theorem impl_addBelay.mono : ∀ a0 a1 a2 a3 a4 a5 k, LeO (impl_addBelay.f k a0 a1 a2 a3 a4 a5) (impl_addBelay.f (k + 1) a0 a1 a2 a3 a4 a5) := by
 intro a0 a1 a2 a3 a4 a5 k
 unfold impl_addBelay.f
 repeat' first
  | (with_reducible exact slices_Contains_string_string.mono _ _ _)
  | (with_reducible exact LeO.refl _)
  | (with_reducible exact LeO.none _)
  | (with_reducible refine LeO.ite ?_ ?_)
  | (with_reducible refine LeO.bind ?_ (fun _ => ?_))
theorem idxF_neg {α : Type} (p : α → Bool) (l : List α) (h : idxF p l < 0) : idxF p l = -1 := by
 unfold idxF at h ⊢
 split at h
 ·omega
 ·rfl
theorem impl_addBelay.at (k : Nat) (w0 w : World) (g : Nat) (v1 v2 v3 : Value) (R : List S69) (L : List ByteArray) (B : List S40) (s : S40) (n : Int) (HI : RigAt w0 w g v1 v2 v3 R L B) (hl : B.length ≤ 1048576) (h : impl_addBelay.f k R L B s.f0 s.f1 s.f2 = some n) :
  Calls Try.prog 47 #[.pointer (some ⟨g, 0, none⟩), .agg #[.string s.f0, .string s.f1, .int .i64 s.f2]] w fun e w' => ∃ v3', e = .returned (.int .i64 n) ∧ RigAt w0 w' g v1 v2 v3' R L (addTo n B s) := by
 unfold impl_addBelay.f at h
 obtain ⟨t, h1, h⟩ := Option.bind_eq_some_iff.mp h
 obtain ⟨b2, h2, h⟩ := Option.bind_eq_some_iff.mp h
 obtain ⟨b3, h3, h⟩ := Option.bind_eq_some_iff.mp h
 obtain ⟨o, h4, h⟩ := Option.bind_eq_some_iff.mp h
 obtain ⟨a, h5, h⟩ := Option.bind_eq_some_iff.mp h
 obtain rfl := Option.some.inj h
 exact addBelay_go w0 w g v1 v2 v3 R L B s t o a b2 b3 HI hl (fun ht => by
   unfold impl_railNamed.f at h1
   split at h1
   ·obtain rfl := Option.some.inj h1
    exact idxF_neg _ _ ht
   ·cases h1)
  (fun A1 c1 A2 c2 A3 c3 w p1 q1 p2 q2 p3 q3 => impl_railNamed.calls A1 c1 R A2 c2 L A3 c3 B s.f1 t w p1 q1 p2 q2 p3 q3 h1) (fun A c w hr hc => slices_Contains_string_string.calls k A c L s.f0 b2 w hr hc h2)
  (fun A1 c1 A2 c2 A3 c3 w p1 q1 p2 q2 p3 q3 => impl_hasPin.calls A1 c1 R A2 c2 L A3 c3 B s.f1 s.f2 b3 w p1 q1 p2 q2 p3 q3 h3) (fun A1 c1 A2 c2 A3 c3 w p1 q1 p2 q2 p3 q3 => impl_belayOf.calls A1 c1 R A2 c2 L A3 c3 B s.f0 o w p1 q1 p2 q2 p3 q3 h4)
  (fun A1 c1 A2 c2 A3 c3 w p1 q1 p2 q2 p3 q3 => impl_belayAt.calls A1 c1 R A2 c2 L A3 c3 B s.f1 s.f2 a w p1 q1 p2 q2 p3 q3 h5)

/-! ### impl_ValidRig: function 13, by hand -/
def impl_ValidRig.l2 : Nat → List (S69) → List ByteArray → List (S40) → Int → Option (Bool)
 | 0, _, _, _, _ => none
 | k + 1, x0, x1, x2, x3 => if x3 < (x2.length : Int) then (if 0 ≤ x3 then ((impl_addBelay.f k x0 x1 (x2.take x3.toNat) ((rd_T40 x2 x3).f0) ((rd_T40 x2 x3).f1) ((rd_T40 x2 x3).f2)).bind fun t1 => (if t1 = 0 then (impl_ValidRig.l2 k x0 x1 x2 (wrap64 (x3 + 1))) else (some false))) else (none)) else (some true)
def impl_ValidRig.l1 : Nat → List (S69) → List ByteArray → List (S40) → Int → Option (Bool)
 | 0, _, _, _, _ => none
 | k + 1, x0, x1, x2, x3 => if x3 < (x1.length : Int) then (if 0 ≤ x3 then ((impl_addLine.f k (x1.take x3.toNat) (rdOf ByteArray.empty x1 x3)).bind fun t1 => (if t1 = 0 then (impl_ValidRig.l1 k x0 x1 x2 (wrap64 (x3 + 1))) else (some false))) else (none)) else (impl_ValidRig.l2 k x0 x1 x2 0)
def impl_ValidRig.l0 : Nat → List (S69) → List ByteArray → List (S40) → Int → Option (Bool)
 | 0, _, _, _, _ => none
 | k + 1, x0, x1, x2, x3 => if x3 < (x0.length : Int) then (if 0 ≤ x3 then ((impl_addRail.f k (x0.take x3.toNat) ((rd_T69 x0 x3).f0) ((rd_T69 x0 x3).f1) ((rd_T69 x0 x3).f2)).bind fun t1 => (if t1 = 0 then (impl_ValidRig.l0 k x0 x1 x2 (wrap64 (x3 + 1))) else (some false))) else (none)) else (impl_ValidRig.l1 k x0 x1 x2 0)
theorem impl_ValidRig.mono_l : ∀ k, (∀ y0 y1 y2 y3, LeO (impl_ValidRig.l2 k y0 y1 y2 y3) (impl_ValidRig.l2 (k + 1) y0 y1 y2 y3)) ∧ (∀ y0 y1 y2 y3, LeO (impl_ValidRig.l1 k y0 y1 y2 y3) (impl_ValidRig.l1 (k + 1) y0 y1 y2 y3)) ∧ (∀ y0 y1 y2 y3, LeO (impl_ValidRig.l0 k y0 y1 y2 y3) (impl_ValidRig.l0 (k + 1) y0 y1 y2 y3))
 | 0 => ⟨fun _ _ _ _ r h => by simp [impl_ValidRig.l2] at h, fun _ _ _ _ r h => by simp [impl_ValidRig.l1] at h, fun _ _ _ _ r h => by simp [impl_ValidRig.l0] at h⟩
 | k + 1 => by
  obtain ⟨ih2, ih1, ih0⟩ := impl_ValidRig.mono_l k
  refine ⟨?_, ?_, ?_⟩
  ·intro y0 y1 y2 y3
   unfold impl_ValidRig.l2
   repeat' first
    | (with_reducible exact ih0 _ _ _ _)
    | (with_reducible exact ih1 _ _ _ _)
    | (with_reducible exact ih2 _ _ _ _)
    | (with_reducible exact impl_addRail.mono _ _ _ _ _)
    | (with_reducible exact impl_addLine.mono _ _ _)
    | (with_reducible exact impl_addBelay.mono _ _ _ _ _ _ _)
    | (with_reducible exact LeO.refl _)
    | (with_reducible exact LeO.none _)
    | (with_reducible refine LeO.ite ?_ ?_)
    | (with_reducible refine LeO.bind ?_ (fun _ => ?_))
  ·intro y0 y1 y2 y3
   unfold impl_ValidRig.l1
   repeat' first
    | (with_reducible exact ih0 _ _ _ _)
    | (with_reducible exact ih1 _ _ _ _)
    | (with_reducible exact ih2 _ _ _ _)
    | (with_reducible exact impl_addRail.mono _ _ _ _ _)
    | (with_reducible exact impl_addLine.mono _ _ _)
    | (with_reducible exact impl_addBelay.mono _ _ _ _ _ _ _)
    | (with_reducible exact LeO.refl _)
    | (with_reducible exact LeO.none _)
    | (with_reducible refine LeO.ite ?_ ?_)
    | (with_reducible refine LeO.bind ?_ (fun _ => ?_))
  ·intro y0 y1 y2 y3
   unfold impl_ValidRig.l0
   repeat' first
    | (with_reducible exact ih0 _ _ _ _)
    | (with_reducible exact ih1 _ _ _ _)
    | (with_reducible exact ih2 _ _ _ _)
    | (with_reducible exact impl_addRail.mono _ _ _ _ _)
    | (with_reducible exact impl_addLine.mono _ _ _)
    | (with_reducible exact impl_addBelay.mono _ _ _ _ _ _ _)
    | (with_reducible exact LeO.refl _)
    | (with_reducible exact LeO.none _)
    | (with_reducible refine LeO.ite ?_ ?_)
    | (with_reducible refine LeO.bind ?_ (fun _ => ?_))
def impl_ValidRig.f (k : Nat) (l0_0 : List (S69)) (l0_1 : List ByteArray) (l0_2 : List (S40)) : Option (Bool) := if l0_0.length ≤ 1048576 ∧ l0_1.length ≤ 1048576 ∧ l0_2.length ≤ 1048576 then (impl_ValidRig.l0 k l0_0 l0_1 l0_2 0) else (none)
theorem impl_ValidRig.mono : ∀ a0 a1 a2 k, LeO (impl_ValidRig.f k a0 a1 a2) (impl_ValidRig.f (k + 1) a0 a1 a2) := by
 intro a0 a1 a2 k
 unfold impl_ValidRig.f
 obtain ⟨ih2, ih1, ih0⟩ := impl_ValidRig.mono_l k
 exact LeO.ite (ih0 _ _ _ _) (LeO.none _)
set_option maxHeartbeats 8000000 in
set_option maxRecDepth 100000 in
theorem impl_ValidRig.calls (k : Nat) (A0_0 : Option Addr) (c0_0 : Nat) (l0_0 : List (S69)) (A0_1 : Option Addr) (c0_1 : Nat) (l0_1 : List ByteArray) (A0_2 : Option Addr) (c0_2 : Nat) (l0_2 : List (S40)) (r : Bool) (w : World) (hr0_0 : Kd.C k69 w A0_0 l0_0.length l0_0) (hc0_0 : l0_0.length ≤ c0_0) (hr0_1 : Kd.C Kd.string w A0_1 l0_1.length l0_1) (hc0_1 : l0_1.length ≤ c0_1) (hr0_2 : Kd.C k40 w A0_2 l0_2.length l0_2) (hc0_2 : l0_2.length ≤ c0_2) (h : impl_ValidRig.f k l0_0 l0_1 l0_2 = some r) :
  Calls Try.prog 13 #[.agg #[.slice A0_0 l0_0.length c0_0, .slice A0_1 l0_1.length c0_1, .slice A0_2 l0_2.length c0_2]] w fun e w' => e = .returned (.bool r) ∧ Below w.heap.size w w' := by
 unfold impl_ValidRig.f at h
 by_cases hlb : l0_0.length ≤ 1048576 ∧ l0_1.length ≤ 1048576 ∧ l0_2.length ≤ 1048576
 ·rw [if_pos hlb] at h
  have H' := Aside0.mk h
  have HLN := Aside0.mk hlb
  have HR0 := Aside0.mk hr0_0
  have HR1 := Aside0.mk hr0_1
  have HR2 := Aside0.mk hr0_2
  clear h hlb hr0_0 hr0_1 hr0_2 hc0_0 hc0_1 hc0_2
  have HB := Aside0.mk (Below.refl w.heap.size w)
  go_enter Try.func13, Try.ntmps13
  go_wp2_with (first | ((with_reducible refine gate_dst (N := 1) rfl ?_); refine box_event ?hg (N := 1) ?hd (cs := #[.slice A0_0 l0_0.length c0_0, .slice A0_1 l0_1.length c0_1, .slice A0_2 l0_2.length c0_2]) (t := 32) ?hr ?_; (case hd => rfl); (case hg => rfl); (case hr => first | (go_simp; done) | (go_simp; rfl)); intro gx hg w1 hbox hb; have n0_ := pS HB hb; have n1_ := Aside0.mk hbox; clear HB hbox hb hg; have HB1 := n0_; have BX := n1_; have BX1 := n1_; clear n0_ n1_; obtain ⟨hx0, hx1, hx2, hy0, hy1, hy2⟩ := cz3 BX) | ((with_reducible refine gate_dst (N := 3) rfl ?_); refine box_event ?hg (N := 3) ?hd (cs := #[.slice none 0 0, .slice none 0 0, .slice none 0 0]) (t := 32) ?hr ?_; (case hd => rfl); (case hg => rfl); (case hr => first | (go_simp; done) | (go_simp; rfl)); intro gy hg w2 hbox hb; have HBY := Aside0.mk hb; have GY := Aside0.mk (Nat.le_of_eq hg.symm); have n1_ := Aside0.mk hbox; have n2_ := pB BX hb; have n3_ := pN BX hg; have n4_ := pM BX hg; clear hx0 hx1 hx2 hy0 hy1 hy2 hbox BX hb hg; have BY := n1_; have BX := n2_; have nb := n3_.out; have nc := n4_.out; clear n1_ n2_ n3_ n4_; obtain ⟨hx0, hx1, hx2, hy0, hy1, hy2⟩ := cz3 BX; obtain ⟨hz0, hz1, hz2, hw0, hw1, hw2⟩ := cz3 BY))
  have HI := Aside0.mk (RigAt.begin BY.out GY.out HBY.out)
  clear BX BY hx0 hx1 hx2 hy0 hy1 hy2 hz0 hz1 hz2 hw0 hw1 hw2 nb nc
  go_loopg [14] k (fun kq vi w' => ∃ (i0 : Nat) (v1 : Value), vi = .int .i64 i0 ∧ i0 ≤ l0_0.length ∧ Aside0 (impl_ValidRig.l0 kq l0_0 l0_1 l0_2 i0 = some r) ∧ Aside0 (kq ≤ k) ∧ Aside0 (RigAt w1 w' gy v1 (.slice none 0 0) (.slice none 0 0) (l0_0.take i0) [] []) ∧ Aside0 (i0 ≤ 10))
  case atStart => exact ⟨0, _, rfl, Nat.zero_le _, H', ⟨Nat.le_refl _⟩, HI, ⟨by omega⟩⟩
  case round =>
   clear H' HI
   obtain ⟨i0, v1, rfl, hil, HA, HK1, HI, HN⟩ := hrel
   cases gk with
   | zero => exact absurd HA.out (by simp [impl_ValidRig.l0])
   | succ k1 =>
    have H := HA.out
    clear HA
    simp only [impl_ValidRig.l0] at H
    have HBW := Aside0.mk (below_step HB1.out HI.out.below)
    by_cases hlt : (i0 : Int) < (l0_0.length : Int)
    ·rw [if_pos hlt, if_pos (Int.natCast_nonneg i0)] at H
     obtain ⟨t1, A1, H⟩ := Option.bind_eq_some_iff.mp H
     replace H : (if t1 = 0 then (impl_ValidRig.l0 k1 l0_0 l0_1 l0_2 (wrap64 ((i0 : Int) + 1))) else (some false)) = some r := H
     try rw [Int.toNat_natCast] at A1
     have hlt2 : i0 < l0_0.length := by omega
     have hb0 : decide ((i0 : Int) < (l0_0.length : Int)) = true := decide_eq_true hlt
     have hb1 : decide (i0 < l0_0.length) = true := decide_eq_true hlt2
     have hn0 : 0 ≤ (i0 : Int) := Int.natCast_nonneg i0
     have hn1 : (i0 : Int) ≤ 1048576 := by have := HLN.out.1; have := HLN.out.2.1; have := HLN.out.2.2; omega
     obtain ⟨ad, e0, hx0, hx1, hx2⟩ := at_T69 HR0.out (i0 : Int) hn0 hlt
     cases e0
     replace hx0 := bC HBW hx0
     replace hx1 := bC HBW hx1
     replace hx2 := bC HBW hx2
     have ey : l0_0[i0]? = some (rd_T69 l0_0 (i0 : Int)) := by simp [rd_T69, hlt2]
     generalize rd_T69 l0_0 (i0 : Int) = y at hx0 hx1 hx2 A1 ey
     rw [Int.toNat_natCast] at hx0 hx1 hx2
     have EY := Aside0.mk ey
     have TA := Aside0.mk A1
     have LT := Aside0.mk hlt2
     clear ey A1 hlt2
     by_cases ht : t1 = 0
     ·subst ht
      rw [if_pos rfl] at H
      rw [show wrap64 ((i0 : Int) + 1) = ((i0 + 1 : Nat) : Int) from by unfold wrap64; have := LT.out; have := HLN.out.1; have := HLN.out.2.1; have := HLN.out.2.2; omega] at H
      have H' := Aside0.mk H
      clear H
      go_wp2_with (first | ((with_reducible refine gate_dst (N := 5) rfl ?_); refine box_event ?hg (N := 5) ?hd (cs := #[.string ⟨#[]⟩, .string ⟨#[]⟩, .int .i64 0]) (t := 69) ?hr ?_; (case hd => rfl); (case hg => rfl); (case hr => first | (go_simp; done) | (go_simp; rfl)); intro gr hg w3 hbox hb; have HC := Aside0.mk hb; have GR := Aside0.mk (Nat.le_of_eq hg.symm); have BR := Aside0.mk hbox; clear hbox hb hg; obtain ⟨hr0, hr1, hr2, hs0, hs1, hs2⟩ := cz3 BR) | (go_at_call 45; have n0_ := impl_addRail.at k1 w1 _ gy v1 _ _ _ _ _ y _ (HI.out.late HC.out GR.out (.string y.f0) (.string y.f1) (.int .i64 y.f2)) (take_len _ _ _ HN.out) TA.out; (with_reducible refine n0_.2.mono ?_); rintro e w4 ⟨v1', rfl, hi⟩; have HG := Aside0.mk n0_.1; clear n0_ hr0 hr1 hr2 hs0 hs1 hs2 hx0 hx1 hx2 HC GR BR HI; have HI := Aside0.mk hi; clear hi))
      go_roundg k1
      case measure => have := HK1.out; omega
      case rel => exact ⟨i0 + 1, _, by go_num, LT.out, H', ⟨by have := HK1.out; omega⟩, ⟨by rw [← take_more l0_0 i0 y EY.out]; exact HI.out⟩, ⟨by have := HG.out (by first | rfl | trivial); rwa [take_full _ _ LT.out] at this⟩⟩
     ·rw [if_neg ht] at H
      obtain rfl := Option.some.inj H
      clear H
      have hb2 : (t1 != 0) = true := by simpa using ht
      have HT := Aside0.mk ht
      clear ht
      go_wp2_with (first | ((with_reducible refine gate_dst (N := 5) rfl ?_); refine box_event ?hg (N := 5) ?hd (cs := #[.string ⟨#[]⟩, .string ⟨#[]⟩, .int .i64 0]) (t := 69) ?hr ?_; (case hd => rfl); (case hg => rfl); (case hr => first | (go_simp; done) | (go_simp; rfl)); intro gr hg w3 hbox hb; have HC := Aside0.mk hb; have GR := Aside0.mk (Nat.le_of_eq hg.symm); have BR := Aside0.mk hbox; clear hbox hb hg; obtain ⟨hr0, hr1, hr2, hs0, hs1, hs2⟩ := cz3 BR) | (go_at_call 45; have n0_ := impl_addRail.at k1 w1 _ gy v1 _ _ _ _ _ y _ (HI.out.late HC.out GR.out (.string y.f0) (.string y.f1) (.int .i64 y.f2)) (take_len _ _ _ HN.out) TA.out; (with_reducible refine n0_.2.mono ?_); rintro e w4 ⟨v1', rfl, hi⟩; have HG := Aside0.mk n0_.1; clear n0_ hr0 hr1 hr2 hs0 hs1 hs2 hx0 hx1 hx2 HC GR BR HI; have HI := Aside0.mk hi; clear hi))
      go_ret
      exact ⟨rfl, below_step HB1.out HI.out.below⟩
    ·rw [if_neg hlt] at H
     have hb0 : decide ((i0 : Int) < (l0_0.length : Int)) = false := decide_eq_false hlt
     have hb1 : decide (i0 < l0_0.length) = false := decide_eq_false (by omega)
     have hil2 : i0 = l0_0.length := by omega
     have H' := Aside0.mk H
     have n0_ := HI.out
     rw [hil2, List.take_length] at n0_
     have HIL := Aside0.mk hil2
     clear H HI hil2 hil hlt
     have HI := Aside0.mk n0_
     clear n0_
     have BX := Aside0.mk (blk_below BX1.out HI.out.below)
     obtain ⟨hx0, hx1, hx2, hy0, hy1, hy2⟩ := cz3 BX
     clear BX
     go_wp2
     clear hx0 hx1 hx2 hy0 hy1 hy2
     obtain ⟨wo0, hwo⟩ : ∃ wo : World, wo = wr := ⟨_, rfl⟩
     subst hwo
     go_loopg [25] k1 (fun kq vi w' => ∃ (i1 : Nat) (v2 : Value), vi = .int .i64 i1 ∧ i1 ≤ l0_1.length ∧ Aside0 (impl_ValidRig.l1 kq l0_0 l0_1 l0_2 i1 = some r) ∧ Aside0 (kq ≤ k1) ∧ Aside0 (RigAt w1 w' gy v1 v2 (.slice none 0 0) l0_0 (l0_1.take i1) []) ∧ Aside0 (i1 ≤ 60))
     case atStart => exact ⟨0, _, rfl, Nat.zero_le _, H', ⟨Nat.le_refl _⟩, HI, ⟨by omega⟩⟩
     case round =>
      clear H' HI
      obtain ⟨i1, v2, rfl, hil, HA, HK1, HI, HN⟩ := hrel
      cases gk with
      | zero => exact absurd HA.out (by simp [impl_ValidRig.l1])
      | succ k2 =>
       have H := HA.out
       clear HA
       simp only [impl_ValidRig.l1] at H
       have HBW := Aside0.mk (below_step HB1.out HI.out.below)
       by_cases hlt : (i1 : Int) < (l0_1.length : Int)
       ·rw [if_pos hlt, if_pos (Int.natCast_nonneg i1)] at H
        obtain ⟨t1, A1, H⟩ := Option.bind_eq_some_iff.mp H
        replace H : (if t1 = 0 then (impl_ValidRig.l1 k2 l0_0 l0_1 l0_2 (wrap64 ((i1 : Int) + 1))) else (some false)) = some r := H
        try rw [Int.toNat_natCast] at A1
        have hlt2 : i1 < l0_1.length := by omega
        have hb0 : decide ((i1 : Int) < (l0_1.length : Int)) = true := decide_eq_true hlt
        have hb1 : decide (i1 < l0_1.length) = true := decide_eq_true hlt2
        have hn0 : 0 ≤ (i1 : Int) := Int.natCast_nonneg i1
        have hn1 : (i1 : Int) ≤ 1048576 := by have := HLN.out.1; have := HLN.out.2.1; have := HLN.out.2.2; omega
        obtain ⟨ad, e0, hx0⟩ := Kd.at_string HR1.out (i1 : Int) hn0 hlt
        cases e0
        replace hx0 := bC HBW hx0
        have ey : l0_1[i1]? = some (rdOf ByteArray.empty l0_1 (i1 : Int)) := by simp [rdOf, hlt2]
        generalize rdOf ByteArray.empty l0_1 (i1 : Int) = y at hx0 A1 ey
        rw [Int.toNat_natCast] at hx0
        have EY := Aside0.mk ey
        have TA := Aside0.mk A1
        have LT := Aside0.mk hlt2
        clear ey A1 hlt2
        by_cases ht : t1 = 0
        ·subst ht
         rw [if_pos rfl] at H
         rw [show wrap64 ((i1 : Int) + 1) = ((i1 + 1 : Nat) : Int) from by unfold wrap64; have := LT.out; have := HLN.out.1; have := HLN.out.2.1; have := HLN.out.2.2; omega] at H
         have H' := Aside0.mk H
         clear H
         go_wp2_with (first | (go_at_call 46; have n0_ := impl_addLine.at k2 w1 _ gy v1 v2 _ _ _ _ y _ HI.out (take_len _ _ _ HN.out) TA.out; (with_reducible refine n0_.2.mono ?_); rintro e w4 ⟨v2', rfl, hi⟩; have HG := Aside0.mk n0_.1; clear n0_ hx0 HI; have HI := Aside0.mk hi; clear hi))
         go_roundg k2
         case measure => have := HK1.out; omega
         case rel => exact ⟨i1 + 1, _, by go_num, LT.out, H', ⟨by have := HK1.out; omega⟩, ⟨by rw [← take_more l0_1 i1 y EY.out]; exact HI.out⟩, ⟨by have := HG.out (by first | rfl | trivial); rwa [take_full _ _ LT.out] at this⟩⟩
        ·rw [if_neg ht] at H
         obtain rfl := Option.some.inj H
         clear H
         have hb2 : (t1 != 0) = true := by simpa using ht
         have HT := Aside0.mk ht
         clear ht
         go_wp2_with (first | (go_at_call 46; have n0_ := impl_addLine.at k2 w1 _ gy v1 v2 _ _ _ _ y _ HI.out (take_len _ _ _ HN.out) TA.out; (with_reducible refine n0_.2.mono ?_); rintro e w4 ⟨v2', rfl, hi⟩; have HG := Aside0.mk n0_.1; clear n0_ hx0 HI; have HI := Aside0.mk hi; clear hi))
         go_ret
         exact ⟨rfl, below_step HB1.out HI.out.below⟩
       ·rw [if_neg hlt] at H
        have hb0 : decide ((i1 : Int) < (l0_1.length : Int)) = false := decide_eq_false hlt
        have hb1 : decide (i1 < l0_1.length) = false := decide_eq_false (by omega)
        have hil2 : i1 = l0_1.length := by omega
        have H' := Aside0.mk H
        have n0_ := HI.out
        rw [hil2, List.take_length] at n0_
        have HIL := Aside0.mk hil2
        clear H HI hil2 hil hlt
        have HI := Aside0.mk n0_
        clear n0_
        have BX := Aside0.mk (blk_below BX1.out HI.out.below)
        obtain ⟨hx0, hx1, hx2, hy0, hy1, hy2⟩ := cz3 BX
        clear BX
        go_wp2
        clear hx0 hx1 hx2 hy0 hy1 hy2
        obtain ⟨wo1, hwo⟩ : ∃ wo : World, wo = wr := ⟨_, rfl⟩
        subst hwo
        go_loopg [36] k2 (fun kq vi w' => ∃ (i2 : Nat) (v3 : Value), vi = .int .i64 i2 ∧ i2 ≤ l0_2.length ∧ Aside0 (impl_ValidRig.l2 kq l0_0 l0_1 l0_2 i2 = some r) ∧ Aside0 (kq ≤ k2) ∧ Aside0 (RigAt w1 w' gy v1 v2 v3 l0_0 l0_1 (l0_2.take i2)))
        case atStart => exact ⟨0, _, rfl, Nat.zero_le _, H', ⟨Nat.le_refl _⟩, HI⟩
        case round =>
         clear H' HI
         obtain ⟨i2, v3, rfl, hil, HA, HK1, HI⟩ := hrel
         cases gk with
         | zero => exact absurd HA.out (by simp [impl_ValidRig.l2])
         | succ k3 =>
          have H := HA.out
          clear HA
          simp only [impl_ValidRig.l2] at H
          have HBW := Aside0.mk (below_step HB1.out HI.out.below)
          by_cases hlt : (i2 : Int) < (l0_2.length : Int)
          ·rw [if_pos hlt, if_pos (Int.natCast_nonneg i2)] at H
           obtain ⟨t1, A1, H⟩ := Option.bind_eq_some_iff.mp H
           replace H : (if t1 = 0 then (impl_ValidRig.l2 k3 l0_0 l0_1 l0_2 (wrap64 ((i2 : Int) + 1))) else (some false)) = some r := H
           try rw [Int.toNat_natCast] at A1
           have hlt2 : i2 < l0_2.length := by omega
           have hb0 : decide ((i2 : Int) < (l0_2.length : Int)) = true := decide_eq_true hlt
           have hb1 : decide (i2 < l0_2.length) = true := decide_eq_true hlt2
           have hn0 : 0 ≤ (i2 : Int) := Int.natCast_nonneg i2
           have hn1 : (i2 : Int) ≤ 1048576 := by have := HLN.out.1; have := HLN.out.2.1; have := HLN.out.2.2; omega
           obtain ⟨ad, e0, hx0, hx1, hx2⟩ := at_T40 HR2.out (i2 : Int) hn0 hlt
           cases e0
           replace hx0 := bC HBW hx0
           replace hx1 := bC HBW hx1
           replace hx2 := bC HBW hx2
           have ey : l0_2[i2]? = some (rd_T40 l0_2 (i2 : Int)) := by simp [rd_T40, hlt2]
           generalize rd_T40 l0_2 (i2 : Int) = y at hx0 hx1 hx2 A1 ey
           rw [Int.toNat_natCast] at hx0 hx1 hx2
           have EY := Aside0.mk ey
           have TA := Aside0.mk A1
           have LT := Aside0.mk hlt2
           clear ey A1 hlt2
           by_cases ht : t1 = 0
           ·subst ht
            rw [if_pos rfl] at H
            rw [show wrap64 ((i2 : Int) + 1) = ((i2 + 1 : Nat) : Int) from by unfold wrap64; have := LT.out; have := HLN.out.1; have := HLN.out.2.1; have := HLN.out.2.2; omega] at H
            have H' := Aside0.mk H
            clear H
            go_wp2_with (first | ((with_reducible refine gate_dst (N := 9) rfl ?_); refine box_event ?hg (N := 9) ?hd (cs := #[.string ⟨#[]⟩, .string ⟨#[]⟩, .int .i64 0]) (t := 40) ?hr ?_; (case hd => rfl); (case hg => rfl); (case hr => first | (go_simp; done) | (go_simp; rfl)); intro gr hg w3 hbox hb; have HC := Aside0.mk hb; have GR := Aside0.mk (Nat.le_of_eq hg.symm); have BR := Aside0.mk hbox; clear hbox hb hg; obtain ⟨hr0, hr1, hr2, hs0, hs1, hs2⟩ := cz3 BR) | (go_at_call 47; (with_reducible refine (impl_addBelay.at k3 w1 _ gy v1 v2 v3 _ _ _ y _ (HI.out.late HC.out GR.out (.string y.f0) (.string y.f1) (.int .i64 y.f2)) (take_len _ _ _ (by have := HLN.out.2.2; have := LT.out; omega)) TA.out).mono ?_); rintro e w4 ⟨v3', rfl, hi⟩; clear hr0 hr1 hr2 hs0 hs1 hs2 hx0 hx1 hx2 HC GR BR HI; have HI := Aside0.mk hi; clear hi))
            go_roundg k3
            case measure => have := HK1.out; omega
            case rel => exact ⟨i2 + 1, _, by go_num, LT.out, H', ⟨by have := HK1.out; omega⟩, ⟨by rw [← take_more l0_2 i2 y EY.out]; exact HI.out⟩⟩
           ·rw [if_neg ht] at H
            obtain rfl := Option.some.inj H
            clear H
            have hb2 : (t1 != 0) = true := by simpa using ht
            have HT := Aside0.mk ht
            clear ht
            go_wp2_with (first | ((with_reducible refine gate_dst (N := 9) rfl ?_); refine box_event ?hg (N := 9) ?hd (cs := #[.string ⟨#[]⟩, .string ⟨#[]⟩, .int .i64 0]) (t := 40) ?hr ?_; (case hd => rfl); (case hg => rfl); (case hr => first | (go_simp; done) | (go_simp; rfl)); intro gr hg w3 hbox hb; have HC := Aside0.mk hb; have GR := Aside0.mk (Nat.le_of_eq hg.symm); have BR := Aside0.mk hbox; clear hbox hb hg; obtain ⟨hr0, hr1, hr2, hs0, hs1, hs2⟩ := cz3 BR) | (go_at_call 47; (with_reducible refine (impl_addBelay.at k3 w1 _ gy v1 v2 v3 _ _ _ y _ (HI.out.late HC.out GR.out (.string y.f0) (.string y.f1) (.int .i64 y.f2)) (take_len _ _ _ (by have := HLN.out.2.2; have := LT.out; omega)) TA.out).mono ?_); rintro e w4 ⟨v3', rfl, hi⟩; clear hr0 hr1 hr2 hs0 hs1 hs2 hx0 hx1 hx2 HC GR BR HI; have HI := Aside0.mk hi; clear hi))
            go_ret
            exact ⟨rfl, below_step HB1.out HI.out.below⟩
          ·rw [if_neg hlt] at H
           have hb0 : decide ((i2 : Int) < (l0_2.length : Int)) = false := decide_eq_false hlt
           have hb1 : decide (i2 < l0_2.length) = false := decide_eq_false (by omega)
           have hil2 : i2 = l0_2.length := by omega
           clear hil2
           obtain rfl := Option.some.inj H
           go_wp2
           go_ret
           exact ⟨rfl, below_step HB1.out HI.out.below⟩
 ·rw [if_neg hlb] at h
  cases h

/-! ### laws_eqStringS: function 22 -/
def laws_eqStringS.l0 : Nat → List ByteArray → List ByteArray → Int → Option (Bool)
 | 0, _, _, _ => none
 | k + 1, x0, x1, x5 => if x5 < (x0.length : Int) then (if 0 ≤ x5 then (if x5 < (x1.length : Int) then (if (rdOf ByteArray.empty x0 x5).toList = (rdOf ByteArray.empty x1 x5).toList then (laws_eqStringS.l0 k x0 x1 (wrap64 (x5 + 1))) else (some false)) else (none)) else (none)) else (some true)
def laws_eqStringS.f (k : Nat) (l0 : List ByteArray) (l1 : List ByteArray) : Option (Bool) := if (l0.length : Int) = (l1.length : Int) then (laws_eqStringS.l0 k l0 l1 0) else (some false)
theorem laws_eqStringS.mono_l : ∀ k, (∀ y0 y1 y2, LeO (laws_eqStringS.l0 k y0 y1 y2) (laws_eqStringS.l0 (k + 1) y0 y1 y2))
 | 0 => fun _ _ _ r h => by simp [laws_eqStringS.l0] at h
 | k + 1 => by
  have ih0 := laws_eqStringS.mono_l k
  ·intro y0 y1 y2
   unfold laws_eqStringS.l0
   repeat' first
   | (with_reducible exact ih0 _ _ _)
   | (with_reducible exact LeO.refl _)
   | (with_reducible exact LeO.none _)
   | (with_reducible refine LeO.ite ?_ ?_)
   | (with_reducible refine LeO.bind ?_ (fun _ => ?_))
   | exact ih0 _ _ _
   | exact LeO.none _
   | refine LeO.ite ?_ ?_
   | refine LeO.bind ?_ (fun _ => ?_)
theorem laws_eqStringS.mono : ∀ a0 a1 k, LeO (laws_eqStringS.f k a0 a1) (laws_eqStringS.f (k + 1) a0 a1) := by
 intro a0 a1 k
 have ih0 := laws_eqStringS.mono_l k
 unfold laws_eqStringS.f
 repeat' first
   | (with_reducible exact ih0 _ _ _)
   | (with_reducible exact LeO.refl _)
   | (with_reducible exact LeO.none _)
   | (with_reducible refine LeO.ite ?_ ?_)
   | (with_reducible refine LeO.bind ?_ (fun _ => ?_))
   | exact ih0 _ _ _
   | exact LeO.none _
   | refine LeO.ite ?_ ?_
   | refine LeO.bind ?_ (fun _ => ?_)
set_option maxHeartbeats 8000000 in
set_option maxRecDepth 100000 in
theorem laws_eqStringS.calls (k : Nat) (A0 : Option Addr) (c0 : Nat) (l0 : List ByteArray) (A1 : Option Addr) (c1 : Nat) (l1 : List ByteArray) (r : Bool) (w : World) (hr0 : Kd.C Kd.string w A0 l0.length l0) (hc0 : l0.length ≤ c0) (hr1 : Kd.C Kd.string w A1 l1.length l1) (hc1 : l1.length ≤ c1) (h : laws_eqStringS.f k l0 l1 = some r) :
  Calls Try.prog 22 #[.slice A0 l0.length c0, .slice A1 l1.length c1] w fun e w' => e = .returned (.bool r) ∧ Drawn0 w w' := by
 have HR0 := Aside0.mk hr0
 have HC0 := Aside0.mk hc0
 clear hr0 hc0
 have HR1 := Aside0.mk hr1
 have HC1 := Aside0.mk hc1
 clear hr1 hc1
 have H : (if (l0.length : Int) = (l1.length : Int) then (laws_eqStringS.l0 k l0 l1 0) else (some false)) = some r := h
 clear h
 by_cases c3 : (l0.length : Int) = (l1.length : Int)
 ·rw [if_pos c3] at H
  have c3b0 : ((l0.length : Int) == (l1.length : Int)) = true := beq_iff_eq.mpr c3
  have c3b1 : ((l0.length : Int) != (l1.length : Int)) = false := bne_eq_false_iff_eq.mpr c3
  have c3b2 : (l0.length == l1.length) = true := by first | simpa using c3 | (simp at c3 ⊢; omega)
  clear c3
  have H' := Aside0.mk H
  clear H
  go_enter Try.func22, Try.ntmps22
  go_wp2
  repeat (go_quiet (fail); try go_wp2)
  go_loopg [5] k (fun kq v5 w' => ∃ (x5_1 : Int), v5 = .int .i64 x5_1 ∧ Aside0 (laws_eqStringS.l0 kq l0 l1 x5_1 = some r) ∧ Aside0 (kq ≤ k) ∧ Drawn0 w w')
  case atStart => exact ⟨(0), (by first | rfl | (simp; done) | (simp [*]; done)), H', ⟨Nat.le_refl _⟩, by repeat (first | exact Drawn0.refl _ | apply Drawn0.step)⟩
  case round =>
   clear H'
   try clear c1
   try clear c2
   try clear p2
   try clear c3
   try clear c3b0
   try clear c3b1
   try clear c3b2
   obtain ⟨x5_1, rfl, HA, HK1, ⟨m1, rfl⟩⟩ := hrel
   cases gk with
   | zero => exact absurd HA.out (by simp [laws_eqStringS.l0])
   | succ k1 =>
    have H := HA.out
    clear HA
    simp only [laws_eqStringS.l0] at H
    by_cases c4 : x5_1 < (l0.length : Int)
    ·rw [if_pos c4] at H
     have c4b0 : decide (x5_1 < (l0.length : Int)) = true := decide_eq_true c4
     clear c4
     by_cases c5 : 0 ≤ x5_1
     ·rw [if_pos c5] at H
      have c5b0 : decide (0 ≤ x5_1) = true := decide_eq_true c5
      clear c5
      by_cases c6 : x5_1 < (l1.length : Int)
      ·rw [if_pos c6] at H
       have c6b0 : decide (x5_1 < (l1.length : Int)) = true := decide_eq_true c6
       clear c6
       by_cases c7 : (rdOf ByteArray.empty l0 x5_1).toList = (rdOf ByteArray.empty l1 x5_1).toList
       ·rw [if_pos c7] at H
        have c7b0 : ((rdOf ByteArray.empty l0 x5_1).toList == (rdOf ByteArray.empty l1 x5_1).toList) = true := beq_iff_eq.mpr c7
        have c7b1 : ((rdOf ByteArray.empty l0 x5_1).toList != (rdOf ByteArray.empty l1 x5_1).toList) = false := bne_eq_false_iff_eq.mpr c7
        clear c7
        have H' := Aside0.mk H
        clear H
        have p191 : 0 ≤ (x5_1 : Int) := of_decide_eq_true (by first | (with_reducible assumption) | assumption)
        have q191 : x5_1 < (l0.length : Int) := of_decide_eq_true (by first | (with_reducible assumption) | assumption)
        obtain ⟨ad191, e191, hx191_0⟩ := Kd.at_string HR0.out x5_1 p191 q191
        cases e191
        replace p191 := eq_true p191
        replace q191 := eq_true q191
        have p192 : 0 ≤ (x5_1 : Int) := of_decide_eq_true (by first | (with_reducible assumption) | assumption)
        have q192 : x5_1 < (l1.length : Int) := of_decide_eq_true (by first | (with_reducible assumption) | assumption)
        obtain ⟨ad192, e192, hx192_0⟩ := Kd.at_string HR1.out x5_1 p192 q192
        cases e192
        replace p192 := eq_true p192
        replace q192 := eq_true q192
        go_wp2
        repeat (go_quiet (fail); try go_wp2)
        go_roundg k1
        case measure => have := HK1.out; omega
        case rel => exact ⟨(wrap64 (x5_1 + 1)), (by first | rfl | (simp; done) | (simp [*]; done)), H', ⟨by have := HK1.out; omega⟩, by repeat (first | exact Drawn0.refl _ | apply Drawn0.step)⟩
       ·rw [if_neg c7] at H
        have c7b0 : ((rdOf ByteArray.empty l0 x5_1).toList == (rdOf ByteArray.empty l1 x5_1).toList) = false := beq_eq_false_iff_ne.mpr c7
        have c7b1 : ((rdOf ByteArray.empty l0 x5_1).toList != (rdOf ByteArray.empty l1 x5_1).toList) = true := bne_iff_ne.mpr c7
        obtain rfl := Option.some.inj H
        simp only [Option.some.injEq, Prod.mk.injEq] at H
        obtain ⟨rfl⟩ := H
        have p191 : 0 ≤ (x5_1 : Int) := of_decide_eq_true (by first | (with_reducible assumption) | assumption)
        have q191 : x5_1 < (l0.length : Int) := of_decide_eq_true (by first | (with_reducible assumption) | assumption)
        obtain ⟨ad191, e191, hx191_0⟩ := Kd.at_string HR0.out x5_1 p191 q191
        cases e191
        replace p191 := eq_true p191
        replace q191 := eq_true q191
        have p192 : 0 ≤ (x5_1 : Int) := of_decide_eq_true (by first | (with_reducible assumption) | assumption)
        have q192 : x5_1 < (l1.length : Int) := of_decide_eq_true (by first | (with_reducible assumption) | assumption)
        obtain ⟨ad192, e192, hx192_0⟩ := Kd.at_string HR1.out x5_1 p192 q192
        cases e192
        replace p192 := eq_true p192
        replace q192 := eq_true q192
        go_wp2
        repeat (go_quiet (fail); try go_wp2)
        go_ret
        exact ⟨by first | rfl | (simp; done) | (simp [*]; done), by repeat (first | exact Drawn0.refl _ | apply Drawn0.step)⟩
      ·rw [if_neg c6] at H
       exact absurd H (by simp)
     ·rw [if_neg c5] at H
      exact absurd H (by simp)
    ·rw [if_neg c4] at H
     have c4b0 : decide (x5_1 < (l0.length : Int)) = false := decide_eq_false c4
     clear c4
     obtain rfl := Option.some.inj H
     simp only [Option.some.injEq, Prod.mk.injEq] at H
     obtain ⟨rfl⟩ := H
     go_wp2
     repeat (go_quiet (fail); try go_wp2)
     go_ret
     exact ⟨by first | rfl | (simp; done) | (simp [*]; done), by repeat (first | exact Drawn0.refl _ | apply Drawn0.step)⟩
 ·rw [if_neg c3] at H
  have c3b0 : ((l0.length : Int) == (l1.length : Int)) = false := beq_eq_false_iff_ne.mpr c3
  have c3b1 : ((l0.length : Int) != (l1.length : Int)) = true := bne_iff_ne.mpr c3
  have c3b2 : (l0.length == l1.length) = false := by first | simpa using c3 | (simp at c3 ⊢; omega)
  obtain rfl := Option.some.inj H
  simp only [Option.some.injEq, Prod.mk.injEq] at H
  obtain ⟨rfl⟩ := H
  go_enter Try.func22, Try.ntmps22
  go_wp2
  repeat (go_quiet (fail); try go_wp2)
  go_ret
  exact ⟨by first | rfl | (simp; done) | (simp [*]; done), by repeat (first | exact Drawn0.refl _ | apply Drawn0.step)⟩

/-! ### laws_eqRail: function 77 -/
def laws_eqRail.f (a0_0 : ByteArray) (a0_1 : ByteArray) (a0_2 : Int) (a1_0 : ByteArray) (a1_1 : ByteArray) (a1_2 : Int) : Option (Bool) := if a0_0.toList = a1_0.toList then (if a0_1.toList = a1_1.toList then (if a0_2 = a1_2 then (some true) else (some false)) else (some false)) else (some false)
set_option maxHeartbeats 8000000 in
set_option maxRecDepth 100000 in
theorem laws_eqRail.calls (a0_0 : ByteArray) (a0_1 : ByteArray) (a0_2 : Int) (a1_0 : ByteArray) (a1_1 : ByteArray) (a1_2 : Int) (r : Bool) (w : World) (h : laws_eqRail.f a0_0 a0_1 a0_2 a1_0 a1_1 a1_2 = some r) :
  Calls Try.prog 77 #[.agg #[.string a0_0, .string a0_1, .int .i64 a0_2], .agg #[.string a1_0, .string a1_1, .int .i64 a1_2]] w fun e w' => e = .returned (.bool r) ∧ Below w.heap.size w w' := by
 have hu69 := Try.underlying69
 have HB := Aside0.mk (Below.refl w.heap.size w)
 have H : (if a0_0.toList = a1_0.toList then (if a0_1.toList = a1_1.toList then (if a0_2 = a1_2 then (some true) else (some false)) else (some false)) else (some false)) = some r := h
 clear h
 have HF_ := Aside0.mk H
 clear H
 go_enter Try.func77, Try.ntmps77
 go_upto_if 9 with (first | ((with_reducible refine gate_dst (N := 2) rfl ?_); refine box_event ?hg (N := 2) ?hd (cs := #[.string a0_0, .string a0_1, .int .i64 a0_2]) (t := 69) ?hr ?_; (case hd => rfl); (case hg => rfl); (case hr => first | (go_simp; done) | (go_simp; rfl)); intro gb193 hg w3 hbox hb; have n0_ := pS HB hb; have n1_ := Aside0.mk (hbox); have n2_ := pG HB hg; have n3_ := pG HB hg; clear HB; have HB := n0_; have BK193 := n1_; have GW193 := n2_; have GE193 := n3_; clear n0_ n1_ n2_ n3_; clear hb hbox hg) | ((with_reducible refine gate_dst (N := 3) rfl ?_); refine box_event ?hg (N := 3) ?hd (cs := #[.string a1_0, .string a1_1, .int .i64 a1_2]) (t := 69) ?hr ?_; (case hd => rfl); (case hg => rfl); (case hr => first | (go_simp; done) | (go_simp; rfl)); intro gb194 hg w4 hbox hb; have n0_ := pB BK193 hb; have n1_ := pS HB hb; have n2_ := Aside0.mk (hbox); have n3_ := pG HB hg; have n4_ := pG HB hg; have n5_ := pN BK193 hg; have n6_ := pM BK193 hg; clear BK193 HB; have BK193 := n0_; have HB := n1_; have BK194 := n2_; have GW194 := n3_; have GE194 := n4_; have NB193_194 := n5_; have NB194_193 := n6_; clear n0_ n1_ n2_ n3_ n4_ n5_ n6_; clear hb hbox hg; have hnb5 := NB193_194.out; have hnc5 := NB194_193.out; obtain ⟨hcz6_0, hcz6_1, hcz6_2, hfz6_0, hfz6_1, hfz6_2⟩ := cz3 BK193; obtain ⟨hcz7_0, hcz7_1, hcz7_2, hfz7_0, hfz7_1, hfz7_2⟩ := cz3 BK194))
 (try simp only [Act.put, List.setIfInBounds_toArray, List.set_cons_zero, List.set_cons_succ])
 have H := HF_.out
 clear HF_
 by_cases c8 : a0_0.toList = a1_0.toList
 ·rw [if_pos c8] at H
  have c8b0 : (a0_0.toList == a1_0.toList) = true := beq_iff_eq.mpr c8
  have c8b1 : (a0_0.toList != a1_0.toList) = false := bne_eq_false_iff_eq.mpr c8
  clear c8
  (first | rw [c8b0] | (simp only [i64_w, i32_w]; rw [c8b0]) | skip)
  by_cases c9 : a0_1.toList = a1_1.toList
  ·rw [if_pos c9] at H
   have c9b0 : (a0_1.toList == a1_1.toList) = true := beq_iff_eq.mpr c9
   have c9b1 : (a0_1.toList != a1_1.toList) = false := bne_eq_false_iff_eq.mpr c9
   clear c9
   by_cases c10 : a0_2 = a1_2
   ·rw [if_pos c10] at H
    have c10b0 : (a0_2 == a1_2) = true := beq_iff_eq.mpr c10
    have c10b1 : (a0_2 != a1_2) = false := bne_eq_false_iff_eq.mpr c10
    clear c10
    obtain rfl := Option.some.inj H
    simp only [Option.some.injEq, Prod.mk.injEq] at H
    obtain ⟨rfl⟩ := H
    have hnb11 := NB193_194.out
    have hnc11 := NB194_193.out
    obtain ⟨hcz12_0, hcz12_1, hcz12_2, hfz12_0, hfz12_1, hfz12_2⟩ := cz3 BK193
    obtain ⟨hcz13_0, hcz13_1, hcz13_2, hfz13_0, hfz13_1, hfz13_2⟩ := cz3 BK194
    go_wp2
    go_ret
    exact ⟨by first | rfl | (simp [errW_none, errW_some] <;> rfl) | (simp [*, errW_none, errW_some] <;> rfl), pR HB⟩
   ·rw [if_neg c10] at H
    have c10b0 : (a0_2 == a1_2) = false := beq_eq_false_iff_ne.mpr c10
    have c10b1 : (a0_2 != a1_2) = true := bne_iff_ne.mpr c10
    obtain rfl := Option.some.inj H
    simp only [Option.some.injEq, Prod.mk.injEq] at H
    obtain ⟨rfl⟩ := H
    have hnb14 := NB193_194.out
    have hnc14 := NB194_193.out
    obtain ⟨hcz15_0, hcz15_1, hcz15_2, hfz15_0, hfz15_1, hfz15_2⟩ := cz3 BK193
    obtain ⟨hcz16_0, hcz16_1, hcz16_2, hfz16_0, hfz16_1, hfz16_2⟩ := cz3 BK194
    go_wp2
    go_ret
    exact ⟨by first | rfl | (simp [errW_none, errW_some] <;> rfl) | (simp [*, errW_none, errW_some] <;> rfl), pR HB⟩
  ·rw [if_neg c9] at H
   have c9b0 : (a0_1.toList == a1_1.toList) = false := beq_eq_false_iff_ne.mpr c9
   have c9b1 : (a0_1.toList != a1_1.toList) = true := bne_iff_ne.mpr c9
   obtain rfl := Option.some.inj H
   simp only [Option.some.injEq, Prod.mk.injEq] at H
   obtain ⟨rfl⟩ := H
   have hnb17 := NB193_194.out
   have hnc17 := NB194_193.out
   obtain ⟨hcz18_0, hcz18_1, hcz18_2, hfz18_0, hfz18_1, hfz18_2⟩ := cz3 BK193
   obtain ⟨hcz19_0, hcz19_1, hcz19_2, hfz19_0, hfz19_1, hfz19_2⟩ := cz3 BK194
   go_wp2
   go_ret
   exact ⟨by first | rfl | (simp [errW_none, errW_some] <;> rfl) | (simp [*, errW_none, errW_some] <;> rfl), pR HB⟩
 ·rw [if_neg c8] at H
  have c8b0 : (a0_0.toList == a1_0.toList) = false := beq_eq_false_iff_ne.mpr c8
  have c8b1 : (a0_0.toList != a1_0.toList) = true := bne_iff_ne.mpr c8
  (first | rw [c8b0] | (simp only [i64_w, i32_w]; rw [c8b0]) | skip)
  obtain rfl := Option.some.inj H
  simp only [Option.some.injEq, Prod.mk.injEq] at H
  obtain ⟨rfl⟩ := H
  go_wp2
  go_ret
  exact ⟨by first | rfl | (simp [errW_none, errW_some] <;> rfl) | (simp [*, errW_none, errW_some] <;> rfl), pR HB⟩

end Go.Proofs.Ytpngklefeaolfaa.PFnExactValidRig
