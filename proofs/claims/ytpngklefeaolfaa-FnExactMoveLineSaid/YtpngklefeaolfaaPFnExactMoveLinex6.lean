-- Written by a program of this session (wip/tools/pp.sh).
import Derived.Test.YtpngklefeaolfaaPFnExactMoveLinex0
import Derived.Test.YtpngklefeaolfaaPFnExactMoveLinex4
import Derived.Test.YtpngklefeaolfaaPFnExactMoveLinex5
namespace Go.Proofs.Ytpngklefeaolfaa.PFnExactMoveLine
open Go.RowKit Go.Proofs.YtpngklefeaolfaaW.PrintWords Go.Proofs.YtpngklefeaolfaaW.PrintLast Go.Proofs.YtpngklefeaolfaaW.PrintMore Go.Proofs.Ytpngklefeaolfaa.Small
open Bool renaming true → T, false → F
attribute [local go_sem] max2_int min2_int max_two min_two max_three min_three max_four min_four   -- for this text's walks alone
set_option linter.unusedVariables false
set_option linter.unusedSimpArgs false

/-! ### spec_l19AddBelay: function 73, by hand -/
set_option maxHeartbeats 8000000 in
set_option maxRecDepth 100000 in
theorem spec_addBelay_go (w0 w : World) (g : Nat) (v1 v2 v3 : Value) (R : List S69) (L : List ByteArray) (B : List S40) (b : S40) (t o a : Int) (b2 b3 : Bool) (HI : RigAt w0 w g v1 v2 v3 R L B) (hl : B.length ≤ 1048576) (htl : t < R.length)
  (hT : ∀ w, Kd.C k32 w (some ⟨g, 0, none⟩) 1 [⟨R, L, B⟩] → Calls Try.prog 50 #[.pointer (some ⟨g, 0, none⟩), .string b.f1] w fun e w' => e = .returned (.int .i64 t) ∧ Drawn0 w w')
  (hE : ∀ w, Kd.C k32 w (some ⟨g, 0, none⟩) 1 [⟨R, L, B⟩] → Calls Try.prog 64 #[.pointer (some ⟨g, 0, none⟩), .string b.f0] w fun e w' => e = .returned (.bool b2) ∧ Drawn0 w w')
  (hW : ∀ w, Calls Try.prog 51 #[.int .i64 b.f2, .int .i64 1, .int .i64 (rd_T69 R t).f2] w fun e w' => e = .returned (.bool b3) ∧ Drawn0 w w')
  (hO : ∀ w, Kd.C k32 w (some ⟨g, 0, none⟩) 1 [⟨R, L, B⟩] → Calls Try.prog 58 #[.pointer (some ⟨g, 0, none⟩), .string b.f0] w fun e w' => e = .returned (.int .i64 o) ∧ Drawn0 w w')
  (hA : ∀ w, Kd.C k32 w (some ⟨g, 0, none⟩) 1 [⟨R, L, B⟩] → Calls Try.prog 52 #[.pointer (some ⟨g, 0, none⟩), .string b.f1, .int .i64 b.f2] w fun e w' => e = .returned (.int .i64 a) ∧ Drawn0 w w') :
  Calls Try.prog 73 #[.pointer (some ⟨g, 0, none⟩), .agg #[.string b.f0, .string b.f1, .int .i64 b.f2]] w fun e w' => ∃ ae, e = .returned (.int .i64 (addBelayN t b2 b3 o a)) ∧ RigAt w0 w' g v1 v2 ae R L (addBelayB t b2 b3 o a B b) := by
 have l := Aside0.mk HI; have HL := Aside0.mk hl; have HT := Aside0.mk hT; have HE := Aside0.mk hE; have HW := Aside0.mk hW; have HO := Aside0.mk hO; have HA := Aside0.mk hA; clear HI hl hT hE hW hO hA; obtain ⟨nm, sd, pn⟩ := b; obtain ⟨A1, c1, rfl⟩ := Kd.R_slice l.out.r1; obtain ⟨A2, c2, rfl⟩ := Kd.R_slice l.out.r2; obtain ⟨A3, c3, rfl⟩ := Kd.R_slice l.out.r3; (show Calls Try.prog 73 #[.pointer (some ⟨g, 0, none⟩), .agg #[.string nm, .string sd, .int .i64 pn]] w fun e w' => ∃ ae, e = .returned (.int .i64 (addBelayN t b2 b3 o a)) ∧ RigAt w0 w' g _ _ ae R L (addBelayB t b2 b3 o a B ⟨nm, sd, pn⟩)); by_cases ht : t < 0
 ·have ag : decide (t < 0) = true := decide_eq_true ht; have X := Aside0.mk ht; clear ht; (go_enter Try.func73, Try.ntmps73); (go_wp2_with (first | ((with_reducible refine gate_dst (N := 3) rfl ?_); refine box_event ?hg (N := 3) ?hd (cs := #[.string nm, .string sd, .int .i64 pn]) (t := 40) ?hr ?_; (case hd | hg => rfl); (case hr => go_simp; try rfl); intro gb hg w1 hbox hb; replace l := Aside0.mk (l.out.later hb); have BR := Aside0.mk hbox; clear hbox hb hg; obtain ⟨⟨m, n, q, s, u, x⟩, y, z, D, E, I, O⟩ := cz33 l BR) | (go_at_call 50; (with_reducible refine (HT.out _ l.out.C).mono ?_); rintro e U ⟨rfl, hd⟩; obtain ⟨nd, rfl⟩ := hd; clear y z D E I O m n q s u x; replace l := Aside0.mk (l.out.drawn ⟨⟨nd, rfl⟩⟩); replace BR := Aside0.mk (blk_drewN BR.out nd); generalize World.drewN _ nd = U at l BR ⊢; obtain ⟨⟨m, n, q, s, u, x⟩, y, z, D, E, I, O⟩ := cz33 l BR) | (go_at_call 64; (with_reducible refine (HE.out _ l.out.C).mono ?_); rintro e U ⟨rfl, hd⟩; obtain ⟨nd, rfl⟩ := hd; clear y z D E I O m n q s u x; replace l := Aside0.mk (l.out.drawn ⟨⟨nd, rfl⟩⟩); replace BR := Aside0.mk (blk_drewN BR.out nd); generalize World.drewN _ nd = U at l BR ⊢; obtain ⟨⟨m, n, q, s, u, x⟩, y, z, D, E, I, O⟩ := cz33 l BR) | (go_at_call 51; (with_reducible refine (HW.out _).mono ?_); rintro e U ⟨rfl, hd⟩; obtain ⟨nd, rfl⟩ := hd; clear y z D E I O m n q s u x; replace l := Aside0.mk (l.out.drawn ⟨⟨nd, rfl⟩⟩); replace BR := Aside0.mk (blk_drewN BR.out nd); generalize World.drewN _ nd = U at l BR ⊢; obtain ⟨⟨m, n, q, s, u, x⟩, y, z, D, E, I, O⟩ := cz33 l BR) | (go_at_call 58; (with_reducible refine (HO.out _ l.out.C).mono ?_); rintro e U ⟨rfl, hd⟩; obtain ⟨nd, rfl⟩ := hd; clear y z D E I O m n q s u x; replace l := Aside0.mk (l.out.drawn ⟨⟨nd, rfl⟩⟩); replace BR := Aside0.mk (blk_drewN BR.out nd); generalize World.drewN _ nd = U at l BR ⊢; obtain ⟨⟨m, n, q, s, u, x⟩, y, z, D, E, I, O⟩ := cz33 l BR) | (go_at_call 52; (with_reducible refine (HA.out _ l.out.C).mono ?_); rintro e U ⟨rfl, hd⟩; obtain ⟨nd, rfl⟩ := hd; clear y z D E I O m n q s u x; replace l := Aside0.mk (l.out.drawn ⟨⟨nd, rfl⟩⟩); replace BR := Aside0.mk (blk_drewN BR.out nd); generalize World.drewN _ nd = U at l BR ⊢; obtain ⟨⟨m, n, q, s, u, x⟩, y, z, D, E, I, O⟩ := cz33 l BR))); (go_ret); exact ⟨_, by rw [addBelayN, if_pos X.out]; rfl, by simpa [addBelayB, addBelayN, X.out] using l.out⟩
 ·have ag : decide (t < 0) = false := decide_eq_false ht; (have af : 0 ≤ t := by omega); have X := Aside0.mk ht; clear ht
  cases b2 with
  | false =>
   (go_enter Try.func73, Try.ntmps73); (go_wp2_with (first | ((with_reducible refine gate_dst (N := 3) rfl ?_); refine box_event ?hg (N := 3) ?hd (cs := #[.string nm, .string sd, .int .i64 pn]) (t := 40) ?hr ?_; (case hd | hg => rfl); (case hr => go_simp; try rfl); intro gb hg w1 hbox hb; replace l := Aside0.mk (l.out.later hb); have BR := Aside0.mk hbox; clear hbox hb hg; obtain ⟨⟨m, n, q, s, u, x⟩, y, z, D, E, I, O⟩ := cz33 l BR) | (go_at_call 50; (with_reducible refine (HT.out _ l.out.C).mono ?_); rintro e U ⟨rfl, hd⟩; obtain ⟨nd, rfl⟩ := hd; clear y z D E I O m n q s u x; replace l := Aside0.mk (l.out.drawn ⟨⟨nd, rfl⟩⟩); replace BR := Aside0.mk (blk_drewN BR.out nd); generalize World.drewN _ nd = U at l BR ⊢; obtain ⟨⟨m, n, q, s, u, x⟩, y, z, D, E, I, O⟩ := cz33 l BR) | (go_at_call 64; (with_reducible refine (HE.out _ l.out.C).mono ?_); rintro e U ⟨rfl, hd⟩; obtain ⟨nd, rfl⟩ := hd; clear y z D E I O m n q s u x; replace l := Aside0.mk (l.out.drawn ⟨⟨nd, rfl⟩⟩); replace BR := Aside0.mk (blk_drewN BR.out nd); generalize World.drewN _ nd = U at l BR ⊢; obtain ⟨⟨m, n, q, s, u, x⟩, y, z, D, E, I, O⟩ := cz33 l BR) | (go_at_call 51; (with_reducible refine (HW.out _).mono ?_); rintro e U ⟨rfl, hd⟩; obtain ⟨nd, rfl⟩ := hd; clear y z D E I O m n q s u x; replace l := Aside0.mk (l.out.drawn ⟨⟨nd, rfl⟩⟩); replace BR := Aside0.mk (blk_drewN BR.out nd); generalize World.drewN _ nd = U at l BR ⊢; obtain ⟨⟨m, n, q, s, u, x⟩, y, z, D, E, I, O⟩ := cz33 l BR) | (go_at_call 58; (with_reducible refine (HO.out _ l.out.C).mono ?_); rintro e U ⟨rfl, hd⟩; obtain ⟨nd, rfl⟩ := hd; clear y z D E I O m n q s u x; replace l := Aside0.mk (l.out.drawn ⟨⟨nd, rfl⟩⟩); replace BR := Aside0.mk (blk_drewN BR.out nd); generalize World.drewN _ nd = U at l BR ⊢; obtain ⟨⟨m, n, q, s, u, x⟩, y, z, D, E, I, O⟩ := cz33 l BR) | (go_at_call 52; (with_reducible refine (HA.out _ l.out.C).mono ?_); rintro e U ⟨rfl, hd⟩; obtain ⟨nd, rfl⟩ := hd; clear y z D E I O m n q s u x; replace l := Aside0.mk (l.out.drawn ⟨⟨nd, rfl⟩⟩); replace BR := Aside0.mk (blk_drewN BR.out nd); generalize World.drewN _ nd = U at l BR ⊢; obtain ⟨⟨m, n, q, s, u, x⟩, y, z, D, E, I, O⟩ := cz33 l BR))); (go_ret); exact ⟨_, by rw [addBelayN, if_neg (show ¬ t < 0 by have := X.out; omega), if_pos rfl]; rfl, by simpa [addBelayB, addBelayN, show ¬ t < 0 by have := X.out; omega] using l.out⟩
  | true =>
   cases b3 with
   | false =>
    (go_enter Try.func73, Try.ntmps73); (go_wp2_with (first | ((with_reducible refine gate_dst (N := 3) rfl ?_); refine box_event ?hg (N := 3) ?hd (cs := #[.string nm, .string sd, .int .i64 pn]) (t := 40) ?hr ?_; (case hd | hg => rfl); (case hr => go_simp; try rfl); intro gb hg w1 hbox hb; replace l := Aside0.mk (l.out.later hb); have BR := Aside0.mk hbox; clear hbox hb hg; obtain ⟨⟨m, n, q, s, u, x⟩, y, z, D, E, I, O⟩ := cz33 l BR) | (go_at_call 50; (with_reducible refine (HT.out _ l.out.C).mono ?_); rintro e U ⟨rfl, hd⟩; obtain ⟨nd, rfl⟩ := hd; clear y z D E I O m n q s u x; replace l := Aside0.mk (l.out.drawn ⟨⟨nd, rfl⟩⟩); replace BR := Aside0.mk (blk_drewN BR.out nd); generalize World.drewN _ nd = U at l BR ⊢; obtain ⟨⟨m, n, q, s, u, x⟩, y, z, D, E, I, O⟩ := cz33 l BR) | (go_at_call 64; (with_reducible refine (HE.out _ l.out.C).mono ?_); rintro e U ⟨rfl, hd⟩; obtain ⟨nd, rfl⟩ := hd; clear y z D E I O m n q s u x; replace l := Aside0.mk (l.out.drawn ⟨⟨nd, rfl⟩⟩); replace BR := Aside0.mk (blk_drewN BR.out nd); generalize World.drewN _ nd = U at l BR ⊢; obtain ⟨⟨m, n, q, s, u, x⟩, y, z, D, E, I, O⟩ := cz33 l BR) | (go_at_call 51; (with_reducible refine (HW.out _).mono ?_); rintro e U ⟨rfl, hd⟩; obtain ⟨nd, rfl⟩ := hd; clear y z D E I O m n q s u x; replace l := Aside0.mk (l.out.drawn ⟨⟨nd, rfl⟩⟩); replace BR := Aside0.mk (blk_drewN BR.out nd); generalize World.drewN _ nd = U at l BR ⊢; obtain ⟨⟨m, n, q, s, u, x⟩, y, z, D, E, I, O⟩ := cz33 l BR) | (go_at_call 58; (with_reducible refine (HO.out _ l.out.C).mono ?_); rintro e U ⟨rfl, hd⟩; obtain ⟨nd, rfl⟩ := hd; clear y z D E I O m n q s u x; replace l := Aside0.mk (l.out.drawn ⟨⟨nd, rfl⟩⟩); replace BR := Aside0.mk (blk_drewN BR.out nd); generalize World.drewN _ nd = U at l BR ⊢; obtain ⟨⟨m, n, q, s, u, x⟩, y, z, D, E, I, O⟩ := cz33 l BR) | (go_at_call 52; (with_reducible refine (HA.out _ l.out.C).mono ?_); rintro e U ⟨rfl, hd⟩; obtain ⟨nd, rfl⟩ := hd; clear y z D E I O m n q s u x; replace l := Aside0.mk (l.out.drawn ⟨⟨nd, rfl⟩⟩); replace BR := Aside0.mk (blk_drewN BR.out nd); generalize World.drewN _ nd = U at l BR ⊢; obtain ⟨⟨m, n, q, s, u, x⟩, y, z, D, E, I, O⟩ := cz33 l BR))); obtain ⟨ad, e0, Y, Z, aa⟩ := at_T69 (Kd.R_reads' l.out.r1).2.2 t af htl; subst e0; (go_still_tail 10, (by kernel_rfl)); change wpList _ _ _ _ _ U.drew; clear y z D E I O m n q s u x; clear Y Z aa; replace l := Aside0.mk l.out.drew; replace BR := Aside0.mk (blk_drew BR.out); generalize U.drew = wd at l BR ⊢; obtain ⟨⟨m, n, q, s, u, x⟩, y, z, D, E, I, O⟩ := cz33 l BR; (go_wp2_with (first | ((with_reducible refine gate_dst (N := 3) rfl ?_); refine box_event ?hg (N := 3) ?hd (cs := #[.string nm, .string sd, .int .i64 pn]) (t := 40) ?hr ?_; (case hd | hg => rfl); (case hr => go_simp; try rfl); intro gb hg w1 hbox hb; replace l := Aside0.mk (l.out.later hb); have BR := Aside0.mk hbox; clear hbox hb hg; obtain ⟨⟨m, n, q, s, u, x⟩, y, z, D, E, I, O⟩ := cz33 l BR) | (go_at_call 50; (with_reducible refine (HT.out _ l.out.C).mono ?_); rintro e U ⟨rfl, hd⟩; obtain ⟨nd, rfl⟩ := hd; clear y z D E I O m n q s u x; replace l := Aside0.mk (l.out.drawn ⟨⟨nd, rfl⟩⟩); replace BR := Aside0.mk (blk_drewN BR.out nd); generalize World.drewN _ nd = U at l BR ⊢; obtain ⟨⟨m, n, q, s, u, x⟩, y, z, D, E, I, O⟩ := cz33 l BR) | (go_at_call 64; (with_reducible refine (HE.out _ l.out.C).mono ?_); rintro e U ⟨rfl, hd⟩; obtain ⟨nd, rfl⟩ := hd; clear y z D E I O m n q s u x; replace l := Aside0.mk (l.out.drawn ⟨⟨nd, rfl⟩⟩); replace BR := Aside0.mk (blk_drewN BR.out nd); generalize World.drewN _ nd = U at l BR ⊢; obtain ⟨⟨m, n, q, s, u, x⟩, y, z, D, E, I, O⟩ := cz33 l BR) | (go_at_call 51; (with_reducible refine (HW.out _).mono ?_); rintro e U ⟨rfl, hd⟩; obtain ⟨nd, rfl⟩ := hd; clear y z D E I O m n q s u x; replace l := Aside0.mk (l.out.drawn ⟨⟨nd, rfl⟩⟩); replace BR := Aside0.mk (blk_drewN BR.out nd); generalize World.drewN _ nd = U at l BR ⊢; obtain ⟨⟨m, n, q, s, u, x⟩, y, z, D, E, I, O⟩ := cz33 l BR) | (go_at_call 58; (with_reducible refine (HO.out _ l.out.C).mono ?_); rintro e U ⟨rfl, hd⟩; obtain ⟨nd, rfl⟩ := hd; clear y z D E I O m n q s u x; replace l := Aside0.mk (l.out.drawn ⟨⟨nd, rfl⟩⟩); replace BR := Aside0.mk (blk_drewN BR.out nd); generalize World.drewN _ nd = U at l BR ⊢; obtain ⟨⟨m, n, q, s, u, x⟩, y, z, D, E, I, O⟩ := cz33 l BR) | (go_at_call 52; (with_reducible refine (HA.out _ l.out.C).mono ?_); rintro e U ⟨rfl, hd⟩; obtain ⟨nd, rfl⟩ := hd; clear y z D E I O m n q s u x; replace l := Aside0.mk (l.out.drawn ⟨⟨nd, rfl⟩⟩); replace BR := Aside0.mk (blk_drewN BR.out nd); generalize World.drewN _ nd = U at l BR ⊢; obtain ⟨⟨m, n, q, s, u, x⟩, y, z, D, E, I, O⟩ := cz33 l BR))); (go_ret); exact ⟨_, by rw [addBelayN, if_neg (show ¬ t < 0 by have := X.out; omega), if_neg (by simp), if_pos rfl]; rfl, by simpa [addBelayB, addBelayN, show ¬ t < 0 by have := X.out; omega] using l.out⟩
   | true =>
    by_cases ho : o ≥ 0
    ·have ah : decide (o ≥ 0) = true := decide_eq_true ho; have ai : decide (0 ≤ o) = true := decide_eq_true ho; have ab := Aside0.mk ho; clear ho; (go_enter Try.func73, Try.ntmps73); (go_wp2_with (first | ((with_reducible refine gate_dst (N := 3) rfl ?_); refine box_event ?hg (N := 3) ?hd (cs := #[.string nm, .string sd, .int .i64 pn]) (t := 40) ?hr ?_; (case hd | hg => rfl); (case hr => go_simp; try rfl); intro gb hg w1 hbox hb; replace l := Aside0.mk (l.out.later hb); have BR := Aside0.mk hbox; clear hbox hb hg; obtain ⟨⟨m, n, q, s, u, x⟩, y, z, D, E, I, O⟩ := cz33 l BR) | (go_at_call 50; (with_reducible refine (HT.out _ l.out.C).mono ?_); rintro e U ⟨rfl, hd⟩; obtain ⟨nd, rfl⟩ := hd; clear y z D E I O m n q s u x; replace l := Aside0.mk (l.out.drawn ⟨⟨nd, rfl⟩⟩); replace BR := Aside0.mk (blk_drewN BR.out nd); generalize World.drewN _ nd = U at l BR ⊢; obtain ⟨⟨m, n, q, s, u, x⟩, y, z, D, E, I, O⟩ := cz33 l BR) | (go_at_call 64; (with_reducible refine (HE.out _ l.out.C).mono ?_); rintro e U ⟨rfl, hd⟩; obtain ⟨nd, rfl⟩ := hd; clear y z D E I O m n q s u x; replace l := Aside0.mk (l.out.drawn ⟨⟨nd, rfl⟩⟩); replace BR := Aside0.mk (blk_drewN BR.out nd); generalize World.drewN _ nd = U at l BR ⊢; obtain ⟨⟨m, n, q, s, u, x⟩, y, z, D, E, I, O⟩ := cz33 l BR) | (go_at_call 51; (with_reducible refine (HW.out _).mono ?_); rintro e U ⟨rfl, hd⟩; obtain ⟨nd, rfl⟩ := hd; clear y z D E I O m n q s u x; replace l := Aside0.mk (l.out.drawn ⟨⟨nd, rfl⟩⟩); replace BR := Aside0.mk (blk_drewN BR.out nd); generalize World.drewN _ nd = U at l BR ⊢; obtain ⟨⟨m, n, q, s, u, x⟩, y, z, D, E, I, O⟩ := cz33 l BR) | (go_at_call 58; (with_reducible refine (HO.out _ l.out.C).mono ?_); rintro e U ⟨rfl, hd⟩; obtain ⟨nd, rfl⟩ := hd; clear y z D E I O m n q s u x; replace l := Aside0.mk (l.out.drawn ⟨⟨nd, rfl⟩⟩); replace BR := Aside0.mk (blk_drewN BR.out nd); generalize World.drewN _ nd = U at l BR ⊢; obtain ⟨⟨m, n, q, s, u, x⟩, y, z, D, E, I, O⟩ := cz33 l BR) | (go_at_call 52; (with_reducible refine (HA.out _ l.out.C).mono ?_); rintro e U ⟨rfl, hd⟩; obtain ⟨nd, rfl⟩ := hd; clear y z D E I O m n q s u x; replace l := Aside0.mk (l.out.drawn ⟨⟨nd, rfl⟩⟩); replace BR := Aside0.mk (blk_drewN BR.out nd); generalize World.drewN _ nd = U at l BR ⊢; obtain ⟨⟨m, n, q, s, u, x⟩, y, z, D, E, I, O⟩ := cz33 l BR))); obtain ⟨ad, e0, Y, Z, aa⟩ := at_T69 (Kd.R_reads' l.out.r1).2.2 t af htl; subst e0; (go_still_tail 10, (by kernel_rfl)); change wpList _ _ _ _ _ U.drew; clear y z D E I O m n q s u x; clear Y Z aa; replace l := Aside0.mk l.out.drew; replace BR := Aside0.mk (blk_drew BR.out); generalize U.drew = wd at l BR ⊢; obtain ⟨⟨m, n, q, s, u, x⟩, y, z, D, E, I, O⟩ := cz33 l BR; (go_wp2_with (first | ((with_reducible refine gate_dst (N := 3) rfl ?_); refine box_event ?hg (N := 3) ?hd (cs := #[.string nm, .string sd, .int .i64 pn]) (t := 40) ?hr ?_; (case hd | hg => rfl); (case hr => go_simp; try rfl); intro gb hg w1 hbox hb; replace l := Aside0.mk (l.out.later hb); have BR := Aside0.mk hbox; clear hbox hb hg; obtain ⟨⟨m, n, q, s, u, x⟩, y, z, D, E, I, O⟩ := cz33 l BR) | (go_at_call 50; (with_reducible refine (HT.out _ l.out.C).mono ?_); rintro e U ⟨rfl, hd⟩; obtain ⟨nd, rfl⟩ := hd; clear y z D E I O m n q s u x; replace l := Aside0.mk (l.out.drawn ⟨⟨nd, rfl⟩⟩); replace BR := Aside0.mk (blk_drewN BR.out nd); generalize World.drewN _ nd = U at l BR ⊢; obtain ⟨⟨m, n, q, s, u, x⟩, y, z, D, E, I, O⟩ := cz33 l BR) | (go_at_call 64; (with_reducible refine (HE.out _ l.out.C).mono ?_); rintro e U ⟨rfl, hd⟩; obtain ⟨nd, rfl⟩ := hd; clear y z D E I O m n q s u x; replace l := Aside0.mk (l.out.drawn ⟨⟨nd, rfl⟩⟩); replace BR := Aside0.mk (blk_drewN BR.out nd); generalize World.drewN _ nd = U at l BR ⊢; obtain ⟨⟨m, n, q, s, u, x⟩, y, z, D, E, I, O⟩ := cz33 l BR) | (go_at_call 51; (with_reducible refine (HW.out _).mono ?_); rintro e U ⟨rfl, hd⟩; obtain ⟨nd, rfl⟩ := hd; clear y z D E I O m n q s u x; replace l := Aside0.mk (l.out.drawn ⟨⟨nd, rfl⟩⟩); replace BR := Aside0.mk (blk_drewN BR.out nd); generalize World.drewN _ nd = U at l BR ⊢; obtain ⟨⟨m, n, q, s, u, x⟩, y, z, D, E, I, O⟩ := cz33 l BR) | (go_at_call 58; (with_reducible refine (HO.out _ l.out.C).mono ?_); rintro e U ⟨rfl, hd⟩; obtain ⟨nd, rfl⟩ := hd; clear y z D E I O m n q s u x; replace l := Aside0.mk (l.out.drawn ⟨⟨nd, rfl⟩⟩); replace BR := Aside0.mk (blk_drewN BR.out nd); generalize World.drewN _ nd = U at l BR ⊢; obtain ⟨⟨m, n, q, s, u, x⟩, y, z, D, E, I, O⟩ := cz33 l BR) | (go_at_call 52; (with_reducible refine (HA.out _ l.out.C).mono ?_); rintro e U ⟨rfl, hd⟩; obtain ⟨nd, rfl⟩ := hd; clear y z D E I O m n q s u x; replace l := Aside0.mk (l.out.drawn ⟨⟨nd, rfl⟩⟩); replace BR := Aside0.mk (blk_drewN BR.out nd); generalize World.drewN _ nd = U at l BR ⊢; obtain ⟨⟨m, n, q, s, u, x⟩, y, z, D, E, I, O⟩ := cz33 l BR))); (go_ret); exact ⟨_, by rw [addBelayN, if_neg (show ¬ t < 0 by have := X.out; omega), if_neg (by simp), if_neg (by simp), if_pos ab.out]; rfl, by simpa [addBelayB, addBelayN, show ¬ t < 0 by have := X.out; omega, ab.out] using l.out⟩
    ·have ah : decide (o ≥ 0) = false := decide_eq_false ho; have ai : decide (0 ≤ o) = false := decide_eq_false ho; have ab := Aside0.mk (show o < 0 by omega); clear ho; by_cases ha : a ≥ 0
     ·have aj : decide (a ≥ 0) = true := decide_eq_true ha; have ak : decide (0 ≤ a) = true := decide_eq_true ha; have ac := Aside0.mk ha; clear ha; (go_enter Try.func73, Try.ntmps73); (go_wp2_with (first | ((with_reducible refine gate_dst (N := 3) rfl ?_); refine box_event ?hg (N := 3) ?hd (cs := #[.string nm, .string sd, .int .i64 pn]) (t := 40) ?hr ?_; (case hd | hg => rfl); (case hr => go_simp; try rfl); intro gb hg w1 hbox hb; replace l := Aside0.mk (l.out.later hb); have BR := Aside0.mk hbox; clear hbox hb hg; obtain ⟨⟨m, n, q, s, u, x⟩, y, z, D, E, I, O⟩ := cz33 l BR) | (go_at_call 50; (with_reducible refine (HT.out _ l.out.C).mono ?_); rintro e U ⟨rfl, hd⟩; obtain ⟨nd, rfl⟩ := hd; clear y z D E I O m n q s u x; replace l := Aside0.mk (l.out.drawn ⟨⟨nd, rfl⟩⟩); replace BR := Aside0.mk (blk_drewN BR.out nd); generalize World.drewN _ nd = U at l BR ⊢; obtain ⟨⟨m, n, q, s, u, x⟩, y, z, D, E, I, O⟩ := cz33 l BR) | (go_at_call 64; (with_reducible refine (HE.out _ l.out.C).mono ?_); rintro e U ⟨rfl, hd⟩; obtain ⟨nd, rfl⟩ := hd; clear y z D E I O m n q s u x; replace l := Aside0.mk (l.out.drawn ⟨⟨nd, rfl⟩⟩); replace BR := Aside0.mk (blk_drewN BR.out nd); generalize World.drewN _ nd = U at l BR ⊢; obtain ⟨⟨m, n, q, s, u, x⟩, y, z, D, E, I, O⟩ := cz33 l BR) | (go_at_call 51; (with_reducible refine (HW.out _).mono ?_); rintro e U ⟨rfl, hd⟩; obtain ⟨nd, rfl⟩ := hd; clear y z D E I O m n q s u x; replace l := Aside0.mk (l.out.drawn ⟨⟨nd, rfl⟩⟩); replace BR := Aside0.mk (blk_drewN BR.out nd); generalize World.drewN _ nd = U at l BR ⊢; obtain ⟨⟨m, n, q, s, u, x⟩, y, z, D, E, I, O⟩ := cz33 l BR) | (go_at_call 58; (with_reducible refine (HO.out _ l.out.C).mono ?_); rintro e U ⟨rfl, hd⟩; obtain ⟨nd, rfl⟩ := hd; clear y z D E I O m n q s u x; replace l := Aside0.mk (l.out.drawn ⟨⟨nd, rfl⟩⟩); replace BR := Aside0.mk (blk_drewN BR.out nd); generalize World.drewN _ nd = U at l BR ⊢; obtain ⟨⟨m, n, q, s, u, x⟩, y, z, D, E, I, O⟩ := cz33 l BR) | (go_at_call 52; (with_reducible refine (HA.out _ l.out.C).mono ?_); rintro e U ⟨rfl, hd⟩; obtain ⟨nd, rfl⟩ := hd; clear y z D E I O m n q s u x; replace l := Aside0.mk (l.out.drawn ⟨⟨nd, rfl⟩⟩); replace BR := Aside0.mk (blk_drewN BR.out nd); generalize World.drewN _ nd = U at l BR ⊢; obtain ⟨⟨m, n, q, s, u, x⟩, y, z, D, E, I, O⟩ := cz33 l BR))); obtain ⟨ad, e0, Y, Z, aa⟩ := at_T69 (Kd.R_reads' l.out.r1).2.2 t af htl; subst e0; (go_still_tail 10, (by kernel_rfl)); change wpList _ _ _ _ _ U.drew; clear y z D E I O m n q s u x; clear Y Z aa; replace l := Aside0.mk l.out.drew; replace BR := Aside0.mk (blk_drew BR.out); generalize U.drew = wd at l BR ⊢; obtain ⟨⟨m, n, q, s, u, x⟩, y, z, D, E, I, O⟩ := cz33 l BR; (go_wp2_with (first | ((with_reducible refine gate_dst (N := 3) rfl ?_); refine box_event ?hg (N := 3) ?hd (cs := #[.string nm, .string sd, .int .i64 pn]) (t := 40) ?hr ?_; (case hd | hg => rfl); (case hr => go_simp; try rfl); intro gb hg w1 hbox hb; replace l := Aside0.mk (l.out.later hb); have BR := Aside0.mk hbox; clear hbox hb hg; obtain ⟨⟨m, n, q, s, u, x⟩, y, z, D, E, I, O⟩ := cz33 l BR) | (go_at_call 50; (with_reducible refine (HT.out _ l.out.C).mono ?_); rintro e U ⟨rfl, hd⟩; obtain ⟨nd, rfl⟩ := hd; clear y z D E I O m n q s u x; replace l := Aside0.mk (l.out.drawn ⟨⟨nd, rfl⟩⟩); replace BR := Aside0.mk (blk_drewN BR.out nd); generalize World.drewN _ nd = U at l BR ⊢; obtain ⟨⟨m, n, q, s, u, x⟩, y, z, D, E, I, O⟩ := cz33 l BR) | (go_at_call 64; (with_reducible refine (HE.out _ l.out.C).mono ?_); rintro e U ⟨rfl, hd⟩; obtain ⟨nd, rfl⟩ := hd; clear y z D E I O m n q s u x; replace l := Aside0.mk (l.out.drawn ⟨⟨nd, rfl⟩⟩); replace BR := Aside0.mk (blk_drewN BR.out nd); generalize World.drewN _ nd = U at l BR ⊢; obtain ⟨⟨m, n, q, s, u, x⟩, y, z, D, E, I, O⟩ := cz33 l BR) | (go_at_call 51; (with_reducible refine (HW.out _).mono ?_); rintro e U ⟨rfl, hd⟩; obtain ⟨nd, rfl⟩ := hd; clear y z D E I O m n q s u x; replace l := Aside0.mk (l.out.drawn ⟨⟨nd, rfl⟩⟩); replace BR := Aside0.mk (blk_drewN BR.out nd); generalize World.drewN _ nd = U at l BR ⊢; obtain ⟨⟨m, n, q, s, u, x⟩, y, z, D, E, I, O⟩ := cz33 l BR) | (go_at_call 58; (with_reducible refine (HO.out _ l.out.C).mono ?_); rintro e U ⟨rfl, hd⟩; obtain ⟨nd, rfl⟩ := hd; clear y z D E I O m n q s u x; replace l := Aside0.mk (l.out.drawn ⟨⟨nd, rfl⟩⟩); replace BR := Aside0.mk (blk_drewN BR.out nd); generalize World.drewN _ nd = U at l BR ⊢; obtain ⟨⟨m, n, q, s, u, x⟩, y, z, D, E, I, O⟩ := cz33 l BR) | (go_at_call 52; (with_reducible refine (HA.out _ l.out.C).mono ?_); rintro e U ⟨rfl, hd⟩; obtain ⟨nd, rfl⟩ := hd; clear y z D E I O m n q s u x; replace l := Aside0.mk (l.out.drawn ⟨⟨nd, rfl⟩⟩); replace BR := Aside0.mk (blk_drewN BR.out nd); generalize World.drewN _ nd = U at l BR ⊢; obtain ⟨⟨m, n, q, s, u, x⟩, y, z, D, E, I, O⟩ := cz33 l BR))); (go_ret); exact ⟨_, by rw [addBelayN, if_neg (show ¬ t < 0 by have := X.out; omega), if_neg (by simp), if_neg (by simp), if_neg (show ¬ o ≥ 0 by have := ab.out; omega), if_pos ac.out]; rfl, by simpa [addBelayB, addBelayN, show ¬ t < 0 by have := X.out; omega, show ¬ 0 ≤ o by have := ab.out; omega, ac.out] using l.out⟩
     ·have aj : decide (a ≥ 0) = false := decide_eq_false ha; have ak : decide (0 ≤ a) = false := decide_eq_false ha; have ac := Aside0.mk (show a < 0 by omega); clear ha; (go_enter Try.func73, Try.ntmps73); (go_wp2_with (first | ((with_reducible refine gate_dst (N := 3) rfl ?_); refine box_event ?hg (N := 3) ?hd (cs := #[.string nm, .string sd, .int .i64 pn]) (t := 40) ?hr ?_; (case hd | hg => rfl); (case hr => go_simp; try rfl); intro gb hg w1 hbox hb; replace l := Aside0.mk (l.out.later hb); have BR := Aside0.mk hbox; clear hbox hb hg; obtain ⟨⟨m, n, q, s, u, x⟩, y, z, D, E, I, O⟩ := cz33 l BR) | (go_at_call 50; (with_reducible refine (HT.out _ l.out.C).mono ?_); rintro e U ⟨rfl, hd⟩; obtain ⟨nd, rfl⟩ := hd; clear y z D E I O m n q s u x; replace l := Aside0.mk (l.out.drawn ⟨⟨nd, rfl⟩⟩); replace BR := Aside0.mk (blk_drewN BR.out nd); generalize World.drewN _ nd = U at l BR ⊢; obtain ⟨⟨m, n, q, s, u, x⟩, y, z, D, E, I, O⟩ := cz33 l BR) | (go_at_call 64; (with_reducible refine (HE.out _ l.out.C).mono ?_); rintro e U ⟨rfl, hd⟩; obtain ⟨nd, rfl⟩ := hd; clear y z D E I O m n q s u x; replace l := Aside0.mk (l.out.drawn ⟨⟨nd, rfl⟩⟩); replace BR := Aside0.mk (blk_drewN BR.out nd); generalize World.drewN _ nd = U at l BR ⊢; obtain ⟨⟨m, n, q, s, u, x⟩, y, z, D, E, I, O⟩ := cz33 l BR) | (go_at_call 51; (with_reducible refine (HW.out _).mono ?_); rintro e U ⟨rfl, hd⟩; obtain ⟨nd, rfl⟩ := hd; clear y z D E I O m n q s u x; replace l := Aside0.mk (l.out.drawn ⟨⟨nd, rfl⟩⟩); replace BR := Aside0.mk (blk_drewN BR.out nd); generalize World.drewN _ nd = U at l BR ⊢; obtain ⟨⟨m, n, q, s, u, x⟩, y, z, D, E, I, O⟩ := cz33 l BR) | (go_at_call 58; (with_reducible refine (HO.out _ l.out.C).mono ?_); rintro e U ⟨rfl, hd⟩; obtain ⟨nd, rfl⟩ := hd; clear y z D E I O m n q s u x; replace l := Aside0.mk (l.out.drawn ⟨⟨nd, rfl⟩⟩); replace BR := Aside0.mk (blk_drewN BR.out nd); generalize World.drewN _ nd = U at l BR ⊢; obtain ⟨⟨m, n, q, s, u, x⟩, y, z, D, E, I, O⟩ := cz33 l BR) | (go_at_call 52; (with_reducible refine (HA.out _ l.out.C).mono ?_); rintro e U ⟨rfl, hd⟩; obtain ⟨nd, rfl⟩ := hd; clear y z D E I O m n q s u x; replace l := Aside0.mk (l.out.drawn ⟨⟨nd, rfl⟩⟩); replace BR := Aside0.mk (blk_drewN BR.out nd); generalize World.drewN _ nd = U at l BR ⊢; obtain ⟨⟨m, n, q, s, u, x⟩, y, z, D, E, I, O⟩ := cz33 l BR))); obtain ⟨ad, e0, Y, Z, aa⟩ := at_T69 (Kd.R_reads' l.out.r1).2.2 t af htl; subst e0; (go_still_tail 10, (by kernel_rfl)); change wpList _ _ _ _ _ U.drew; clear y z D E I O m n q s u x; clear Y Z aa; replace l := Aside0.mk l.out.drew; replace BR := Aside0.mk (blk_drew BR.out); generalize U.drew = wd at l BR ⊢; obtain ⟨⟨m, n, q, s, u, x⟩, y, z, D, E, I, O⟩ := cz33 l BR; (go_wp2_with (first | ((with_reducible refine gate_dst (N := 3) rfl ?_); refine box_event ?hg (N := 3) ?hd (cs := #[.string nm, .string sd, .int .i64 pn]) (t := 40) ?hr ?_; (case hd | hg => rfl); (case hr => go_simp; try rfl); intro gb hg w1 hbox hb; replace l := Aside0.mk (l.out.later hb); have BR := Aside0.mk hbox; clear hbox hb hg; obtain ⟨⟨m, n, q, s, u, x⟩, y, z, D, E, I, O⟩ := cz33 l BR) | (go_at_call 50; (with_reducible refine (HT.out _ l.out.C).mono ?_); rintro e U ⟨rfl, hd⟩; obtain ⟨nd, rfl⟩ := hd; clear y z D E I O m n q s u x; replace l := Aside0.mk (l.out.drawn ⟨⟨nd, rfl⟩⟩); replace BR := Aside0.mk (blk_drewN BR.out nd); generalize World.drewN _ nd = U at l BR ⊢; obtain ⟨⟨m, n, q, s, u, x⟩, y, z, D, E, I, O⟩ := cz33 l BR) | (go_at_call 64; (with_reducible refine (HE.out _ l.out.C).mono ?_); rintro e U ⟨rfl, hd⟩; obtain ⟨nd, rfl⟩ := hd; clear y z D E I O m n q s u x; replace l := Aside0.mk (l.out.drawn ⟨⟨nd, rfl⟩⟩); replace BR := Aside0.mk (blk_drewN BR.out nd); generalize World.drewN _ nd = U at l BR ⊢; obtain ⟨⟨m, n, q, s, u, x⟩, y, z, D, E, I, O⟩ := cz33 l BR) | (go_at_call 51; (with_reducible refine (HW.out _).mono ?_); rintro e U ⟨rfl, hd⟩; obtain ⟨nd, rfl⟩ := hd; clear y z D E I O m n q s u x; replace l := Aside0.mk (l.out.drawn ⟨⟨nd, rfl⟩⟩); replace BR := Aside0.mk (blk_drewN BR.out nd); generalize World.drewN _ nd = U at l BR ⊢; obtain ⟨⟨m, n, q, s, u, x⟩, y, z, D, E, I, O⟩ := cz33 l BR) | (go_at_call 58; (with_reducible refine (HO.out _ l.out.C).mono ?_); rintro e U ⟨rfl, hd⟩; obtain ⟨nd, rfl⟩ := hd; clear y z D E I O m n q s u x; replace l := Aside0.mk (l.out.drawn ⟨⟨nd, rfl⟩⟩); replace BR := Aside0.mk (blk_drewN BR.out nd); generalize World.drewN _ nd = U at l BR ⊢; obtain ⟨⟨m, n, q, s, u, x⟩, y, z, D, E, I, O⟩ := cz33 l BR) | (go_at_call 52; (with_reducible refine (HA.out _ l.out.C).mono ?_); rintro e U ⟨rfl, hd⟩; obtain ⟨nd, rfl⟩ := hd; clear y z D E I O m n q s u x; replace l := Aside0.mk (l.out.drawn ⟨⟨nd, rfl⟩⟩); replace BR := Aside0.mk (blk_drewN BR.out nd); generalize World.drewN _ nd = U at l BR ⊢; obtain ⟨⟨m, n, q, s, u, x⟩, y, z, D, E, I, O⟩ := cz33 l BR))); have HZ := l.out.later (below_alloc (Below.refl U.heap.size U) (.cells #[.string nm, .string sd, .int .i64 pn] 40)); have BZ := Aside0.mk HZ.box; clear HZ; obtain ⟨al, am, an, ao, ap, ar⟩ := cz3 BZ; clear BZ; go_region_law (refine Kd.R_append_step k40 (w0 := w0) w0.heap.size (by rfl) (.tmp 51) (.tmp 53) 30 40 (.agg #[.string ⟨#[]⟩, .string ⟨#[]⟩, .int .i64 0]) 40 rfl Try.underlying30 info40 rfl (by decide) (by omega) (.slice A3 B.length c3) B (⟨nm, sd, pn⟩ : S40) [.string nm, .string sd, .int .i64 pn] (fun _ => True) (fun _ => False) rfl rfl (k40_mkM _ _ _ _) (fun _ hk => hk.elim) (fun _ _ => trivial) l.out.drew.r3 l.out.drew.below l.out.drew.below.size (by have := HL.out; omega) ?_; intro ae w6 ho hb hg hat; obtain ⟨A4, c4, rfl⟩ := Kd.R_slice ho; replace l := Aside0.mk (l.out.drew.grown3 ho hb hg); clear al am an ao ap ar y z D E I O m n q s u x BR ho hb hg hat; obtain ⟨m, n, q, s, u, x⟩ := cz3 ⟨l.out.1⟩)
      all_goals
       (go_wp2); (go_ret); exact ⟨_, by rw [addBelayN, if_neg (show ¬ t < 0 by have := X.out; omega), if_neg (by simp), if_neg (by simp), if_neg (show ¬ o ≥ 0 by have := ab.out; omega), if_neg (show ¬ a ≥ 0 by have := ac.out; omega)]; rfl, by simpa [addBelayB, addBelayN, show ¬ t < 0 by have := X.out; omega, show ¬ 0 ≤ o by have := ab.out; omega, show ¬ 0 ≤ a by have := ac.out; omega] using l.out.2⟩
def spec_l19AddBelay.f (k : Nat) (l0 : List (S69)) (l1 : List ByteArray) (l2 : List (S40)) (a1 : ByteArray) (a2 : ByteArray) (a3 : Int) : Option (Int) := (spec_l19Rail.f k [⟨l0, l1, l2⟩] a2).bind fun t1 => ((spec_l19Line.f k [⟨l0, l1, l2⟩] a1).bind fun t2 => ((spec_l00In.f a3 1 (rd_T69 l0 t1).f2).bind fun t3 => ((spec_l19Of.f k [⟨l0, l1, l2⟩] a1).bind fun t4 => ((spec_l19At.f k [⟨l0, l1, l2⟩] a2 a3).bind fun t5 => (if t1 < (l0.length : Int) then (some (addBelayN t1 t2 t3 t4 t5)) else (none))))))
theorem spec_l19AddBelay.mono : ∀ a0 a1 a2 a3 a4 a5 k, LeO (spec_l19AddBelay.f k a0 a1 a2 a3 a4 a5) (spec_l19AddBelay.f (k + 1) a0 a1 a2 a3 a4 a5) := by
 intro a0 a1 a2 a3 a4 a5 k; unfold spec_l19AddBelay.f; repeat' with_reducible first | exact spec_l19Rail.mono _ _ _ | exact spec_l19Line.mono _ _ _ | exact spec_l19Of.mono _ _ _ | exact spec_l19At.mono _ _ _ _ | exact LeO.refl _ | exact LeO.none _ | refine LeO.ite ?_ ?_ | refine LeO.bind ?_ (fun _ => ?_)
theorem spec_l19AddBelay.at (k : Nat) (b w : World) (g : Nat) (l m q : Value) (R : List S69) (L : List ByteArray) (B : List S40) (s : S40) (n : Int) (HI : RigAt b w g l m q R L B) (hl : B.length ≤ 1048576) (h : spec_l19AddBelay.f k R L B s.f0 s.f1 s.f2 = some n) :
  Calls Try.prog 73 #[.pointer (some ⟨g, 0, none⟩), .agg #[.string s.f0, .string s.f1, .int .i64 s.f2]] w fun e w' => ∃ u, e = .returned (.int .i64 n) ∧ RigAt b w' g l m u R L (addTo n B s) := by
 unfold spec_l19AddBelay.f at h; obtain ⟨t, h1, h⟩ := Option.bind_eq_some_iff.mp h; obtain ⟨x, z, h⟩ := Option.bind_eq_some_iff.mp h; obtain ⟨y, h3, h⟩ := Option.bind_eq_some_iff.mp h; obtain ⟨o, D, h⟩ := Option.bind_eq_some_iff.mp h; obtain ⟨a, E, h⟩ := Option.bind_eq_some_iff.mp h; by_cases hlt : t < (R.length : Int)
 ·rw [if_pos hlt] at h; obtain rfl := Option.some.inj h; exact spec_addBelay_go b w g l m q R L B s t o a x y HI hl hlt (fun w hr => spec_l19Rail.calls k _ 1 [⟨R, L, B⟩] s.f1 t w hr (Nat.le_refl _) h1) (fun w hr => spec_l19Line.calls k _ 1 [⟨R, L, B⟩] s.f0 x w hr (Nat.le_refl _) z) (fun w => spec_l00In.calls s.f2 1 _ y w h3) (fun w hr => spec_l19Of.calls k _ 1 [⟨R, L, B⟩] s.f0 o w hr (Nat.le_refl _) D) (fun w hr => spec_l19At.calls k _ 1 [⟨R, L, B⟩] s.f1 s.f2 a w hr (Nat.le_refl _) E)
 ·rw [if_neg hlt] at h
  cases h

/-! ### spec_l19Ok: function 41, by hand -/
theorem RigAt.begin {w1 b : World} {g : Nat} (hb : b.heap[g]? = some (.cells #[.slice none 0 0, .slice none 0 0, .slice none 0 0] 32 (0, 0))) (hg : w1.heap.size ≤ g) (hB : Below w1.heap.size w1 b) :
  RigAt w1 (((b.setCell ⟨g, 0, none⟩ (.slice none 0 0)).setCell ⟨g, 1, none⟩ (.slice none 0 0)).setCell ⟨g, 2, none⟩ (.slice none 0 0)) g (.slice none 0 0) (.slice none 0 0) (.slice none 0 0) [] [] [] :=
 ⟨blk_put (blk_put (blk_put hb 0 _ rfl) 1 _ rfl) 2 _ rfl, hg, Kd.R_nil _ _ _ _ _, Kd.R_nil _ _ _ _ _, Kd.R_nil _ _ _ _ _, ((hB.setCell hg _).setCell hg _).setCell hg _⟩
theorem RigAt.late {l W w : World} {g gr : Nat} {m n o : Value} {R : List S69} {L : List ByteArray} {B : List S40} (h : RigAt l W g m n o R L B) (hb : Below W.heap.size W w) (hg : W.heap.size ≤ gr) (a b c : Value) :
  RigAt l (((w.setCell ⟨gr, 0, none⟩ a).setCell ⟨gr, 1, none⟩ b).setCell ⟨gr, 2, none⟩ c) g m n o R L B := h.later (((hb.setCell hg _).setCell hg _).setCell hg _)
theorem take_more {α : Type} (l : List α) (i : Nat) (x : α) (e : l[i]? = some x) : addTo 0 (l.take i) x = l.take (i + 1) := by rw [addTo_zero, List.take_add_one, e]; rfl
theorem take_len {α : Type} (l : List α) (i n : Nat) (h : i ≤ n) : (l.take i).length ≤ n := by rw [List.length_take]; omega
theorem take_full {α : Type} (l : List α) (i : Nat) (h : i < l.length) : (l.take i).length = i := by rw [List.length_take]; omega
def spec_l19Ok.l2 : Nat → List (S69) → List ByteArray → List (S40) → Int → Option (Bool)
 | 0, _, _, _, _ => none
 | k + 1, x0, x1, x2, x3 => if x3 < (x2.length : Int) then (if 0 ≤ x3 then ((spec_l19AddBelay.f k x0 x1 (x2.take x3.toNat) ((rd_T40 x2 x3).f0) ((rd_T40 x2 x3).f1) ((rd_T40 x2 x3).f2)).bind fun t1 => (if t1 = 0 then (spec_l19Ok.l2 k x0 x1 x2 (wrap64 (x3 + 1))) else (some false))) else (none)) else (some true)
def spec_l19Ok.l1 : Nat → List (S69) → List ByteArray → List (S40) → Int → Option (Bool)
 | 0, _, _, _, _ => none
 | k + 1, x0, x1, x2, x3 => if x3 < (x1.length : Int) then (if 0 ≤ x3 then ((spec_l19AddLine.f k x0 (x1.take x3.toNat) [] (rdOf ByteArray.empty x1 x3)).bind fun t1 => (if t1 = 0 then (spec_l19Ok.l1 k x0 x1 x2 (wrap64 (x3 + 1))) else (some false))) else (none)) else (spec_l19Ok.l2 k x0 x1 x2 0)
def spec_l19Ok.l0 : Nat → List (S69) → List ByteArray → List (S40) → Int → Option (Bool)
 | 0, _, _, _, _ => none
 | k + 1, x0, x1, x2, x3 => if x3 < (x0.length : Int) then (if 0 ≤ x3 then ((spec_l19AddRail.f k (x0.take x3.toNat) [] [] ((rd_T69 x0 x3).f0) ((rd_T69 x0 x3).f1) ((rd_T69 x0 x3).f2)).bind fun t1 => (if t1 = 0 then (spec_l19Ok.l0 k x0 x1 x2 (wrap64 (x3 + 1))) else (some false))) else (none)) else (spec_l19Ok.l1 k x0 x1 x2 0)
theorem spec_l19Ok.mono_l : ∀ k, (∀ y0 y1 y2 y3, LeO (spec_l19Ok.l2 k y0 y1 y2 y3) (spec_l19Ok.l2 (k + 1) y0 y1 y2 y3)) ∧ (∀ y0 y1 y2 y3, LeO (spec_l19Ok.l1 k y0 y1 y2 y3) (spec_l19Ok.l1 (k + 1) y0 y1 y2 y3)) ∧ (∀ y0 y1 y2 y3, LeO (spec_l19Ok.l0 k y0 y1 y2 y3) (spec_l19Ok.l0 (k + 1) y0 y1 y2 y3))
 | 0 => ⟨fun _ _ _ _ r h => by simp [spec_l19Ok.l2] at h, fun _ _ _ _ r h => by simp [spec_l19Ok.l1] at h, fun _ _ _ _ r h => by simp [spec_l19Ok.l0] at h⟩
 | k + 1 => by
  obtain ⟨ih2, ih1, ih0⟩ := spec_l19Ok.mono_l k
  refine ⟨?_, ?_, ?_⟩
  ·intro y0 y1 y2 y3
   unfold spec_l19Ok.l2
   repeat' with_reducible first | exact ih0 _ _ _ _ | exact ih1 _ _ _ _ | exact ih2 _ _ _ _ | exact spec_l19AddRail.mono _ _ _ _ _ _ _ | exact spec_l19AddLine.mono _ _ _ _ _ | exact spec_l19AddBelay.mono _ _ _ _ _ _ _ | exact LeO.refl _ | exact LeO.none _ | refine LeO.ite ?_ ?_ | refine LeO.bind ?_ (fun _ => ?_)
  ·intro y0 y1 y2 y3
   unfold spec_l19Ok.l1
   repeat' with_reducible first | exact ih0 _ _ _ _ | exact ih1 _ _ _ _ | exact ih2 _ _ _ _ | exact spec_l19AddRail.mono _ _ _ _ _ _ _ | exact spec_l19AddLine.mono _ _ _ _ _ | exact spec_l19AddBelay.mono _ _ _ _ _ _ _ | exact LeO.refl _ | exact LeO.none _ | refine LeO.ite ?_ ?_ | refine LeO.bind ?_ (fun _ => ?_)
  ·intro y0 y1 y2 y3
   unfold spec_l19Ok.l0
   repeat' with_reducible first | exact ih0 _ _ _ _ | exact ih1 _ _ _ _ | exact ih2 _ _ _ _ | exact spec_l19AddRail.mono _ _ _ _ _ _ _ | exact spec_l19AddLine.mono _ _ _ _ _ | exact spec_l19AddBelay.mono _ _ _ _ _ _ _ | exact LeO.refl _ | exact LeO.none _ | refine LeO.ite ?_ ?_ | refine LeO.bind ?_ (fun _ => ?_)
def spec_l19Ok.f (k : Nat) (l0 : List (S32)) : Option (Bool) := if 0 < (l0.length : Int) then (if (rd_T32 l0 0).f0.length ≤ 1048576 ∧ (rd_T32 l0 0).f1.length ≤ 1048576 ∧ (rd_T32 l0 0).f2.length ≤ 1048576 then (spec_l19Ok.l0 k (rd_T32 l0 0).f0 (rd_T32 l0 0).f1 (rd_T32 l0 0).f2 0) else (none)) else (none)
theorem spec_l19Ok.mono : ∀ a0 k, LeO (spec_l19Ok.f k a0) (spec_l19Ok.f (k + 1) a0) := by
 intro a0 k; unfold spec_l19Ok.f; obtain ⟨ih2, ih1, ih0⟩ := spec_l19Ok.mono_l k; exact LeO.ite (LeO.ite (ih0 _ _ _ _) (LeO.none _)) (LeO.none _)
theorem RigAt.begin2 {b o : World} {g : Nat} {l m n : Value} (hb : o.heap[g]? = some (.cells #[.slice none 0 0, .slice none 0 0, .slice none 0 0] 32 (0, 0))) (hg : b.heap.size ≤ g) (hB : Below b.heap.size b o)
  (h1 : Kd.R k69 69 o b.heap.size (fun _ => True) l []) (u : Kd.R Kd.string 9 o b.heap.size (fun _ => True) m []) (h3 : Kd.R k40 40 o b.heap.size (fun _ => True) n []) :
  RigAt b (((o.setCell ⟨g, 0, none⟩ l).setCell ⟨g, 1, none⟩ m).setCell ⟨g, 2, none⟩ n) g l m n [] [] [] := by
 have q := blk_put hb 0 l rfl; have s := blk_put q 1 m rfl; refine ⟨blk_put s 2 n rfl, hg, ?_, ?_, ?_, ((hB.setCell hg _).setCell hg _).setCell hg _⟩
 ·exact Kd.R_set (Kd.R_set (Kd.R_set h1 hb (by decide) 0 l) q (by decide) 1 m) s (by decide) 2 n
 ·exact Kd.R_set (Kd.R_set (Kd.R_set u hb (by decide) 0 l) q (by decide) 1 m) s (by decide) 2 n
 ·exact Kd.R_set (Kd.R_set (Kd.R_set h3 hb (by decide) 0 l) q (by decide) 1 m) s (by decide) 2 n
set_option maxHeartbeats 8000000 in
set_option maxRecDepth 100000 in
theorem spec_l19Ok.calls (k : Nat) (A0 : Option Addr) (c0 : Nat) (l0 : List (S32)) (r : Bool) (w : World) (al : Kd.C k32 w A0 l0.length l0) (ao : l0.length ≤ c0) (h : spec_l19Ok.f k l0 = some r) :
  Calls Try.prog 41 #[.pointer A0] w fun e w' => e = .returned (.bool r) ∧ Below w.heap.size w w' := by
 unfold spec_l19Ok.f at h; by_cases h0 : 0 < (l0.length : Int)
 ·rw [if_pos h0] at h; obtain ⟨ap, aI, aJ, aK, aL, aM, aN, ep, z, B, D, ar, ae, au, af, av, ag⟩ := at_T32 al 0 (by omega) h0
  cases ep
  generalize rd_T32 l0 0 = x at h z B D ae af ag; clear al ao ar au av h0; obtain ⟨b, l, m⟩ := x; dsimp only at h z B D ae af ag; rw [show ((0 : Int)).toNat = 0 from rfl, show 0 * 3 = 0 from rfl, Addr.add_zero'] at z B D; by_cases hlb : b.length ≤ 1048576 ∧ l.length ≤ 1048576 ∧ m.length ≤ 1048576
  ·rw [if_pos hlb] at h; have H' := Aside0.mk h; have HLN := Aside0.mk hlb; have aw := Aside0.mk ae; have ax := Aside0.mk af; have ay := Aside0.mk ag; have ah := Aside0.mk z; have ai := Aside0.mk B; have aj := Aside0.mk D; clear h hlb ae af ag z B D; have Z := Aside0.mk (Below.refl w.heap.size w); (go_enter Try.func41, Try.ntmps41); (go_wp2_with (first | (go_at_call 70; (with_reducible refine (spec_l19Empty.calls [] [] [] _ rfl).mono ?_); rintro e w2 ⟨u1, u2, u3, rfl, k1, k2, k3, hb⟩; obtain ⟨a1, d1, rfl⟩ := Kd.R_slice k1; obtain ⟨a2, d2, rfl⟩ := Kd.R_slice k2; obtain ⟨a3, d3, rfl⟩ := Kd.R_slice k3; rw [List.length_nil] at k1 k2 k3 ⊢; have K1 := Aside0.mk k1; have K2 := Aside0.mk k2; have K3 := Aside0.mk k3; have ak := Aside0.mk hb; clear k1 k2 k3 hb) | ((with_reducible refine gate_dst (N := 3) rfl ?_); refine box_event ?hg (N := 3) ?hd (cs := #[.slice none 0 0, .slice none 0 0, .slice none 0 0]) (t := 32) ?hr ?_; (case hd | hg => rfl); (case hr => go_simp; try rfl); intro gy hg w3 hbox hb; replace K1 := Aside0.mk (Kd.R_below K1.out hb); replace K2 := Aside0.mk (Kd.R_below K2.out hb); replace K3 := Aside0.mk (Kd.R_below K3.out hb); have HBY := pS ak hb; have GY := pG ak hg; have BY := Aside0.mk hbox; clear hbox hb hg; obtain ⟨az, aA, aB, aC, aD, aE⟩ := cz3 BY))); have HI := Aside0.mk (RigAt.begin2 BY.out GY.out HBY.out K1.out K2.out K3.out); clear BY K1 K2 K3 HBY ak az aA aB aC aD aE; go_loopg [4] k (fun kq vi w' => ∃ (s : Nat) (v1 : Value), vi = .int .i64 s ∧ s ≤ b.length ∧ Aside0 (spec_l19Ok.l0 kq b l m s = some r) ∧ Aside0 (kq ≤ k) ∧ Aside0 (RigAt w w' gy v1 (.slice a2 0 d2) (.slice a3 0 d3) (b.take s) [] []) ∧ Aside0 (s ≤ 10))
   case atStart => exact ⟨0, _, rfl, Nat.zero_le _, H', ⟨Nat.le_refl _⟩, HI, ⟨by omega⟩⟩
   case round =>
    clear H' HI; obtain ⟨s, v1, rfl, hil, HA, Y, HI, HN⟩ := hrel
    cases gk with
    | zero => exact absurd HA.out (by simp [spec_l19Ok.l0])
    | succ k1 =>
     have H := HA.out; clear HA; simp only [spec_l19Ok.l0] at H; have HBW := Aside0.mk (below_step Z.out HI.out.below); have z := bC HBW ah.out; have B := bC HBW ai.out; have D := bC HBW aj.out; by_cases hlt : (s : Int) < (b.length : Int)
     ·rw [if_pos hlt, if_pos (Int.natCast_nonneg s)] at H; obtain ⟨t1, X, H⟩ := Option.bind_eq_some_iff.mp H; (try dsimp only at H); (try rw [Int.toNat_natCast] at X); (have q : s < b.length := by omega); have aa : decide ((s : Int) < (b.length : Int)) = true := decide_eq_true hlt; have ab : decide (s < b.length) = true := decide_eq_true q; have ac : 0 ≤ (s : Int) := Int.natCast_nonneg s; (have am : (s : Int) ≤ 1048576 := by have := HLN.out.1; have := HLN.out.2.1; have := HLN.out.2.2; omega); obtain ⟨ad, e0, o, I, O⟩ := at_T69 aw.out (s : Int) ac hlt
      cases e0
      replace o := bC HBW o; replace I := bC HBW I; replace O := bC HBW O; (have ey : b[s]? = some (rd_T69 b (s : Int)) := by simp [rd_T69, q]); generalize rd_T69 b (s : Int) = y at o I O X ey; rw [Int.toNat_natCast] at o I O; have EY := Aside0.mk ey; have TA := Aside0.mk X; have LT := Aside0.mk q; clear ey X q; by_cases ht : t1 = 0
      ·subst ht; rw [if_pos rfl] at H; rw [show wrap64 ((s : Int) + 1) = ((s + 1 : Nat) : Int) from by unfold wrap64; have := LT.out; have := HLN.out.1; have := HLN.out.2.1; have := HLN.out.2.2; omega] at H; have H' := Aside0.mk H; clear H; (go_wp2_with (first | (go_at_call 71; have n := spec_l19AddRail.at k1 w _ gy v1 _ _ _ _ _ y _ HI.out (take_len _ _ _ HN.out) TA.out; (with_reducible refine n.2.mono ?_); rintro e w4 ⟨aF, rfl, hi⟩; have HG := Aside0.mk n.1; clear n o I O z B D HI; have HI := Aside0.mk hi; clear hi))); go_roundg k1
       case measure => have := Y.out; omega
       case rel => exact ⟨s + 1, _, by go_num, LT.out, H', ⟨by have := Y.out; omega⟩, ⟨by rw [← take_more b s y EY.out]; exact HI.out⟩, ⟨by have := HG.out (by first | rfl | trivial); rwa [take_full _ _ LT.out] at this⟩⟩
      ·rw [if_neg ht] at H; obtain rfl := Option.some.inj H; clear H; (have an : (t1 != 0) = true := by simpa using ht); have HT := Aside0.mk ht; clear ht; (go_wp2_with (first | (go_at_call 71; have n := spec_l19AddRail.at k1 w _ gy v1 _ _ _ _ _ y _ HI.out (take_len _ _ _ HN.out) TA.out; (with_reducible refine n.2.mono ?_); rintro e w4 ⟨aF, rfl, hi⟩; have HG := Aside0.mk n.1; clear n o I O z B D HI; have HI := Aside0.mk hi; clear hi))); (go_ret); exact ⟨rfl, below_step Z.out HI.out.below⟩
     ·rw [if_neg hlt] at H; have aa : decide ((s : Int) < (b.length : Int)) = false := decide_eq_false hlt; have ab : decide (s < b.length) = false := decide_eq_false (by omega); (have U : s = b.length := by omega); have H' := Aside0.mk H; have n := HI.out; rw [U, List.take_length] at n; have HIL := Aside0.mk U; clear H HI U hil hlt; have HI := Aside0.mk n; clear n

      go_wp2
      clear z B D
      obtain ⟨aO, hwo⟩ : ∃ wo : World, wo = wr := ⟨_, rfl⟩
      subst hwo
      go_loopg [5] k1 (fun kq vi w' => ∃ (u : Nat) (v2 : Value), vi = .int .i64 u ∧ u ≤ l.length ∧ Aside0 (spec_l19Ok.l1 kq b l m u = some r) ∧ Aside0 (kq ≤ k1) ∧ Aside0 (RigAt w w' gy v1 v2 (.slice a3 0 d3) b (l.take u) []) ∧ Aside0 (u ≤ 60))
      case atStart => exact ⟨0, _, rfl, Nat.zero_le _, H', ⟨Nat.le_refl _⟩, HI, ⟨by omega⟩⟩
      case round =>
       clear H' HI
       obtain ⟨u, v2, rfl, hil, HA, Y, HI, HN⟩ := hrel
       cases gk with
       | zero => exact absurd HA.out (by simp [spec_l19Ok.l1])
       | succ k2 =>
        have H := HA.out
        clear HA
        simp only [spec_l19Ok.l1] at H
        have HBW := Aside0.mk (below_step Z.out HI.out.below)
        have z := bC HBW ah.out
        have B := bC HBW ai.out
        have D := bC HBW aj.out
        by_cases hlt : (u : Int) < (l.length : Int)
        ·rw [if_pos hlt, if_pos (Int.natCast_nonneg u)] at H
         obtain ⟨t1, X, H⟩ := Option.bind_eq_some_iff.mp H
         (try dsimp only at H)
         try rw [Int.toNat_natCast] at X
         have q : u < l.length := by omega
         have aa : decide ((u : Int) < (l.length : Int)) = true := decide_eq_true hlt
         have ab : decide (u < l.length) = true := decide_eq_true q
         have ac : 0 ≤ (u : Int) := Int.natCast_nonneg u
         have am : (u : Int) ≤ 1048576 := by have := HLN.out.1; have := HLN.out.2.1; have := HLN.out.2.2; omega
         obtain ⟨ad, e0, o⟩ := Kd.at_string ax.out (u : Int) ac hlt
         cases e0
         replace o := bC HBW o
         have ey : l[u]? = some (rdOf ByteArray.empty l (u : Int)) := by simp [rdOf, q]
         generalize rdOf ByteArray.empty l (u : Int) = y at o X ey
         rw [Int.toNat_natCast] at o
         have EY := Aside0.mk ey
         have TA := Aside0.mk X
         have LT := Aside0.mk q
         clear ey X q
         by_cases ht : t1 = 0
         ·subst ht
          rw [if_pos rfl] at H
          rw [show wrap64 ((u : Int) + 1) = ((u + 1 : Nat) : Int) from by unfold wrap64; have := LT.out; have := HLN.out.1; have := HLN.out.2.1; have := HLN.out.2.2; omega] at H
          have H' := Aside0.mk H
          clear H
          go_wp2_with (first | (go_at_call 72; have n := spec_l19AddLine.at k2 w _ gy v1 v2 _ _ _ _ y _ HI.out (take_len _ _ _ HN.out) TA.out; (with_reducible refine n.2.mono ?_); rintro e w4 ⟨aG, rfl, hi⟩; have HG := Aside0.mk n.1; clear n o z B D HI; have HI := Aside0.mk hi; clear hi))
          go_roundg k2
          case measure => have := Y.out; omega
          case rel => exact ⟨u + 1, _, by go_num, LT.out, H', ⟨by have := Y.out; omega⟩, ⟨by rw [← take_more l u y EY.out]; exact HI.out⟩, ⟨by have := HG.out (by first | rfl | trivial); rwa [take_full _ _ LT.out] at this⟩⟩
         ·rw [if_neg ht] at H
          obtain rfl := Option.some.inj H
          clear H
          have an : (t1 != 0) = true := by simpa using ht
          have HT := Aside0.mk ht
          clear ht
          go_wp2_with (first | (go_at_call 72; have n := spec_l19AddLine.at k2 w _ gy v1 v2 _ _ _ _ y _ HI.out (take_len _ _ _ HN.out) TA.out; (with_reducible refine n.2.mono ?_); rintro e w4 ⟨aG, rfl, hi⟩; have HG := Aside0.mk n.1; clear n o z B D HI; have HI := Aside0.mk hi; clear hi))
          go_ret
          exact ⟨rfl, below_step Z.out HI.out.below⟩
        ·rw [if_neg hlt] at H
         have aa : decide ((u : Int) < (l.length : Int)) = false := decide_eq_false hlt
         have ab : decide (u < l.length) = false := decide_eq_false (by omega)
         have U : u = l.length := by omega
         have H' := Aside0.mk H
         have n := HI.out
         rw [U, List.take_length] at n
         have HIL := Aside0.mk U
         clear H HI U hil hlt
         have HI := Aside0.mk n
         clear n

         go_wp2
         clear z B D
         obtain ⟨aP, hwo⟩ : ∃ wo : World, wo = wr := ⟨_, rfl⟩
         subst hwo
         go_loopg [6] k2 (fun kq vi w' => ∃ (E : Nat) (v3 : Value), vi = .int .i64 E ∧ E ≤ m.length ∧ Aside0 (spec_l19Ok.l2 kq b l m E = some r) ∧ Aside0 (kq ≤ k2) ∧ Aside0 (RigAt w w' gy v1 v2 v3 b l (m.take E)))
         case atStart => exact ⟨0, _, rfl, Nat.zero_le _, H', ⟨Nat.le_refl _⟩, HI⟩
         case round =>
          clear H' HI
          obtain ⟨E, v3, rfl, hil, HA, Y, HI⟩ := hrel
          cases gk with
          | zero => exact absurd HA.out (by simp [spec_l19Ok.l2])
          | succ k3 =>
           have H := HA.out
           clear HA
           simp only [spec_l19Ok.l2] at H
           have HBW := Aside0.mk (below_step Z.out HI.out.below)
           have z := bC HBW ah.out
           have B := bC HBW ai.out
           have D := bC HBW aj.out
           by_cases hlt : (E : Int) < (m.length : Int)
           ·rw [if_pos hlt, if_pos (Int.natCast_nonneg E)] at H
            obtain ⟨t1, X, H⟩ := Option.bind_eq_some_iff.mp H
            (try dsimp only at H)
            try rw [Int.toNat_natCast] at X
            have q : E < m.length := by omega
            have aa : decide ((E : Int) < (m.length : Int)) = true := decide_eq_true hlt
            have ab : decide (E < m.length) = true := decide_eq_true q
            have ac : 0 ≤ (E : Int) := Int.natCast_nonneg E
            have am : (E : Int) ≤ 1048576 := by have := HLN.out.1; have := HLN.out.2.1; have := HLN.out.2.2; omega
            obtain ⟨ad, e0, o, I, O⟩ := at_T40 ay.out (E : Int) ac hlt
            cases e0
            replace o := bC HBW o
            replace I := bC HBW I
            replace O := bC HBW O
            have ey : m[E]? = some (rd_T40 m (E : Int)) := by simp [rd_T40, q]
            generalize rd_T40 m (E : Int) = y at o I O X ey
            rw [Int.toNat_natCast] at o I O
            have EY := Aside0.mk ey
            have TA := Aside0.mk X
            have LT := Aside0.mk q
            clear ey X q
            by_cases ht : t1 = 0
            ·subst ht
             rw [if_pos rfl] at H
             rw [show wrap64 ((E : Int) + 1) = ((E + 1 : Nat) : Int) from by unfold wrap64; have := LT.out; have := HLN.out.1; have := HLN.out.2.1; have := HLN.out.2.2; omega] at H
             have H' := Aside0.mk H
             clear H
             go_wp2_with (first | (go_at_call 73; (with_reducible refine (spec_l19AddBelay.at k3 w _ gy v1 v2 v3 _ _ _ y _ HI.out (take_len _ _ _ (by have := HLN.out.2.2; have := LT.out; omega)) TA.out).mono ?_); rintro e w4 ⟨aH, rfl, hi⟩; clear o I O z B D HI; have HI := Aside0.mk hi; clear hi))
             go_roundg k3
             case measure => have := Y.out; omega
             case rel => exact ⟨E + 1, _, by go_num, LT.out, H', ⟨by have := Y.out; omega⟩, ⟨by rw [← take_more m E y EY.out]; exact HI.out⟩⟩
            ·rw [if_neg ht] at H
             obtain rfl := Option.some.inj H
             clear H
             have an : (t1 != 0) = true := by simpa using ht
             have HT := Aside0.mk ht
             clear ht
             go_wp2_with (first | (go_at_call 73; (with_reducible refine (spec_l19AddBelay.at k3 w _ gy v1 v2 v3 _ _ _ y _ HI.out (take_len _ _ _ (by have := HLN.out.2.2; have := LT.out; omega)) TA.out).mono ?_); rintro e w4 ⟨aH, rfl, hi⟩; clear o I O z B D HI; have HI := Aside0.mk hi; clear hi))
             go_ret
             exact ⟨rfl, below_step Z.out HI.out.below⟩
           ·rw [if_neg hlt] at H
            have aa : decide ((E : Int) < (m.length : Int)) = false := decide_eq_false hlt
            have ab : decide (E < m.length) = false := decide_eq_false (by omega)
            have U : E = m.length := by omega
            clear U
            obtain rfl := Option.some.inj H
            go_wp2
            go_ret
            exact ⟨rfl, below_step Z.out HI.out.below⟩
  ·rw [if_neg hlb] at h
   cases h
 ·rw [if_neg h0] at h
  cases h

end Go.Proofs.Ytpngklefeaolfaa.PFnExactMoveLine
