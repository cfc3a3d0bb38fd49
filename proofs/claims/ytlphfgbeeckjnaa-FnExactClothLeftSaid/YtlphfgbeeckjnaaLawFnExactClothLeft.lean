-- Written by a program of this session (wip/tools/pp.sh).
import Derived.Test.YtlphfgbeeckjnaaRows
import Derived.Test.YtlphfgbeeckjnaaPFnExactClothLeftx11
import Derived.Test.YtlphfgbeeckjnaaPureFnExactClothLeft
import Derived.Test.YtlphfgbeeckjnaaOpen
import Derived.WalkKit
import Derived.ProofKit
import Derived.OpenShut
import Derived.ShutString
import Derived.ChangeOld
import Derived.Below
import Derived.SizedLaws
namespace Go.Proofs.Ytlphfgbeeckjnaa.fnExactClothLeft
open Go.ChangeShapes Go.WideShapes Go.ChangeAt Go.RowKit Go.Proofs.Ytlphfgbeeckjnaa.Open Go.Proofs.Ytlphfgbeeckjnaa.PFnExactClothLeft Go.Proofs.YtlphfgbeeckjnaaW.PrintWords
open Go.ChangeMaps (open_string shut_string)
set_option linter.unusedVariables false
theorem own : ownKnob Try.prog.godebug = none := by kernel_rfl
theorem laidOut : laidOutB Try.prog = true := by kernel_rfl
theorem op24 : Opens Try.prog 24 k24 (fun x : S24 => ((Lit.int .i64 x.f0).wf = true) ∧ (x.f1.length ≤ 9223372036854775807 ∧ ∀ y0 ∈ x.f1, (Lit.int .i64 y0).wf = true)) := by
  have h := opens_struct (P := Try.prog) (t := 24) (d := (Kd.pair (Kd.int .i64) (Kd.slice 2 (Kd.int .i64)))) (good := fun p => ((Lit.int .i64 p.1).wf = true) ∧ (p.2.length ≤ 9223372036854775807 ∧ ∀ y0 ∈ p.2, (Lit.int .i64 y0).wf = true)) (fun x : S24 => (x.f0, x.f1)) (fun p => (⟨p.1, p.2⟩ : S24)) (fun _ => rfl) Try.underlying24 (by kernel_rfl) (opensAt_cons rfl (by kernel_rfl) (opens_int Try.underlying2) (opensAt_last rfl (by kernel_rfl) (opens_slice Try.underlying22 (by kernel_rfl) (opens_int Try.underlying2))))
  exact h
theorem op124 : Opens Try.prog 124 k124 (fun x : S124 => ((Lit.int .i64 x.f0).wf = true) ∧ ((Lit.int .i64 x.f1).wf = true)) := by
  have h := opens_struct (P := Try.prog) (t := 124) (d := (Kd.pair (Kd.int .i64) (Kd.int .i64))) (good := fun p => ((Lit.int .i64 p.1).wf = true) ∧ ((Lit.int .i64 p.2).wf = true)) (fun x : S124 => (x.f0, x.f1)) (fun p => (⟨p.1, p.2⟩ : S124)) (fun _ => rfl) Try.underlying124 (by kernel_rfl) (opensAt_cons rfl (by kernel_rfl) (opens_int Try.underlying2) (opensAt_last rfl (by kernel_rfl) (opens_int Try.underlying2)))
  exact h
set_option maxRecDepth 100000 in
theorem lifted (os : Os) (started : os.Started) (H : Type) (enc : TypeId × Value → H) :
    ReturnsInHanded {} Try.checked os 5 .any (Rows.fnExactClothLeftSpec.pre6 enc Try.prog Try.f5 Rows.fnExactClothLeftRow.domain false) (Rows.fnExactClothLeftSpec.post enc Try.prog Try.f5 false true false false) := by
  refine returnsInHanded_of_change_sized (C := Try.checked) own started (by kernel_rfl) Try.func5
    (ChangeSpec.witness6 (enc := enc) (C := Try.checked) false ⟨#[], #[.slice none 0 0, .slice none 0 0, .slice none 0 0], []⟩ 8 (by kernel_rfl) (by kernel_rfl) (by kernel_rfl) (by kernel_rfl)) ?_
  intro W base args ds gs before hval0 hW hcnd hsz0 _
  have hval : ∀ (j : Nat) t v, Try.f5.params[j]? = some t → args[j]? = some v → Value.okWide Try.prog W .any base t v := hval0
  have hW' := hW
  obtain ⟨p, q, hA0, hV, rfl, hfz, hnd⟩ := hW
  have hA : DataW.TrodAll enc Try.prog W 0 (fun _ => true) true Try.f5.params.toList args.toList ds p := hA0
  rw [Try.params5] at hA hval
  obtain ⟨v0, vs0, d0, ds0, p0, q0, hargs, rfl, rfl, h0, r0⟩ := trodAll_cons hA
  obtain ⟨v1, vs1, d1, ds1, p1, q1, rfl, rfl, rfl, h1, r1⟩ := trodAll_cons r0
  obtain ⟨v2, vs2, d2, ds2, p2, q2, rfl, rfl, rfl, h2, r2⟩ := trodAll_cons r1
  obtain ⟨rfl, rfl, rfl⟩ := trodAll_nil r2
  obtain rfl : args = #[v0, v1, v2] := by cases args; simp_all
  obtain ⟨rfl, rfl⟩ := trodVars_none hV
  have k0 := h0
  have lt0 : ∀ x ∈ p0, x.block < W.heap.size := by obtain ⟨m, hm⟩ := k0; exact DataW.trod_lt m _ _ _ hm
  obtain ⟨A0, c0, l0, rfl, hc0, hC0, hg0⟩ := slice_arg Try.underlying36 (opens_slice Try.underlying36 (by kernel_rfl) op24) (hval 0 36 v0 rfl rfl) h0
  have k1 := h1
  have lt1 : ∀ x ∈ p1, x.block < W.heap.size := by obtain ⟨m, hm⟩ := k1; exact DataW.trod_lt m _ _ _ hm
  obtain ⟨A1, c1, l1, rfl, hc1, hC1, hg1⟩ := slice_arg Try.underlying22 (opens_slice Try.underlying22 (by kernel_rfl) (opens_int Try.underlying2)) (hval 1 22 v1 rfl rfl) h1
  have k2 := h2
  have lt2 : ∀ x ∈ p2, x.block < W.heap.size := by obtain ⟨m, hm⟩ := k2; exact DataW.trod_lt m _ _ _ hm
  obtain ⟨A2, c2, l2, rfl, hc2, hC2, hg2⟩ := slice_arg Try.underlying51 (opens_slice Try.underlying51 (by kernel_rfl) op124) (hval 2 51 v2 rfl rfl) h2
  obtain ⟨k, hp⟩ := Pure.FnExactClothLeft l0 l1 l2 hg0 hg1 hg2
  clear hA0 hval0 hsz0
  refine (laws_FnExactClothLeft.calls k A0 c0 l0 A1 c1 l1 A2 c2 l2 true W hC0 hc0 hC1 hc1 hC2 hc2 rfl hp).mono fun e W' ⟨he, bel0⟩ => ?_
  have bel : Below W.heap.size W W' := bel0
  subst he
  exact ⟨_, rfl, _, _, _, [], _, [], hW', trodAll_mk1 (shut_bool Try.underlying4 _), (trodAll_cons_mk (Below.trod laidOut (by kernel_rfl) (of_decide_eq_true (by kernel_rfl)) k0 bel lt0) (trodAll_cons_mk (Below.trod laidOut (by kernel_rfl) (of_decide_eq_true (by kernel_rfl)) k1 bel lt1) (trodAll_cons_mk (Below.trod laidOut (by kernel_rfl) (of_decide_eq_true (by kernel_rfl)) k2 bel lt2) trodAll_mk0))), rfl, bel.frame _, fun h => by cases h⟩
theorem over : Rows.fnExactClothLeftRow.holds Try.pinned (OpenSpec.ofChange Rows.fnExactClothLeftSpec) :=
  OpenClaim.holds_of_wide 5 Try.f5 rfl rfl rfl rfl rfl rfl rfl ⟨rfl, rfl, rfl, rfl, rfl⟩ rfl rfl rfl rfl rfl (by kernel_rfl) Try.func5 (by kernel_rfl)
    (of_decide_eq_true (by kernel_rfl)) (by unfold Func.isWrapper; first | (rw [if_pos (by decide +kernel)]; kernel_rfl) | (rw [if_neg (by decide +kernel)]; exact ⟨rfl, rfl⟩))
    (fun os started H enc _ => lifted os started H enc)
theorem proved : Rows.FnExactClothLeftSaid := over
#print axioms proved
end Go.Proofs.Ytlphfgbeeckjnaa.fnExactClothLeft
namespace Go.Proofs.Ytlphfgbeeckjnaa
/-- The row, under a short name, for the claim. -/
theorem fnExactClothLeft_holds : Rows.FnExactClothLeftSaid := fnExactClothLeft.proved
end Go.Proofs.Ytlphfgbeeckjnaa
