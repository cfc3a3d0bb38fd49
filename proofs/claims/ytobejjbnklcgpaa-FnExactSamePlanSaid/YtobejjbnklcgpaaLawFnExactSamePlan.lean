-- Written by a program of this session (wip/tools/pp.sh).
import Derived.Test.YtobejjbnklcgpaaRows
import Derived.Test.YtobejjbnklcgpaaPFnExactSamePlanx7
import Derived.Test.YtobejjbnklcgpaaPureFnExactSamePlan
import Derived.Test.YtobejjbnklcgpaaOpen
import Derived.WalkKit
import Derived.ProofKit
import Derived.OpenShut
import Derived.ShutString
import Derived.ChangeOld
import Derived.Below
import Derived.SizedLaws
namespace Go.Proofs.Ytobejjbnklcgpaa.fnExactSamePlan
open Go.ChangeShapes Go.WideShapes Go.ChangeAt Go.RowKit Go.Proofs.Ytobejjbnklcgpaa.Open Go.Proofs.Ytobejjbnklcgpaa.PFnExactSamePlan Go.Proofs.YtobejjbnklcgpaaW.PrintWords
open Go.ChangeMaps (open_string shut_string)
set_option linter.unusedVariables false
theorem own : ownKnob Try.prog.godebug = none := by kernel_rfl
theorem laidOut : laidOutB Try.prog = true := by kernel_rfl
theorem op160 : Opens Try.prog 160 k160 (fun x : S160 => ((Lit.int .i64 x.f0).wf = true) ∧ ((Lit.int .i64 x.f1).wf = true)) := by
  have h := opens_struct (P := Try.prog) (t := 160) (d := (Kd.pair (Kd.int .i64) (Kd.int .i64))) (good := fun p => ((Lit.int .i64 p.1).wf = true) ∧ ((Lit.int .i64 p.2).wf = true)) (fun x : S160 => (x.f0, x.f1)) (fun p => (⟨p.1, p.2⟩ : S160)) (fun _ => rfl) Try.underlying160 (by kernel_rfl) (opensAt_cons rfl (by kernel_rfl) (opens_int Try.underlying2) (opensAt_last rfl (by kernel_rfl) (opens_int Try.underlying2)))
  exact h
theorem op153 : Opens Try.prog 153 k153 (fun x : S153 => (x.f0.size ≤ 9223372036854775807) ∧ (x.f1.length ≤ 9223372036854775807 ∧ ∀ y0 ∈ x.f1, ((Lit.int .i64 y0.f0).wf = true) ∧ ((Lit.int .i64 y0.f1).wf = true)) ∧ (True)) := by
  have h := opens_struct (P := Try.prog) (t := 153) (d := (Kd.pair Kd.string (Kd.pair (Kd.slice 160 k160) Kd.bool))) (good := fun p => (p.1.size ≤ 9223372036854775807) ∧ (p.2.1.length ≤ 9223372036854775807 ∧ ∀ y0 ∈ p.2.1, ((Lit.int .i64 y0.f0).wf = true) ∧ ((Lit.int .i64 y0.f1).wf = true)) ∧ (True)) (fun x : S153 => (x.f0, x.f1, x.f2)) (fun p => (⟨p.1, p.2.1, p.2.2⟩ : S153)) (fun _ => rfl) Try.underlying153 (by kernel_rfl) (opensAt_cons rfl (by kernel_rfl) (opens_string Try.underlying9) (opensAt_cons rfl (by kernel_rfl) (opens_slice Try.underlying151 (by kernel_rfl) op160) (opensAt_last rfl (by kernel_rfl) (opens_bool Try.underlying4))))
  exact h
theorem op81 : Opens Try.prog 81 k81 (fun x : S81 => (x.f0.length ≤ 9223372036854775807 ∧ ∀ y0 ∈ x.f0, (y0.f0.size ≤ 9223372036854775807) ∧ (y0.f1.length ≤ 9223372036854775807 ∧ ∀ y1 ∈ y0.f1, ((Lit.int .i64 y1.f0).wf = true) ∧ ((Lit.int .i64 y1.f1).wf = true)) ∧ (True)) ∧ ((Lit.int .i64 x.f1).wf = true) ∧ ((Lit.int .i64 x.f2).wf = true)) := by
  have h := opens_struct (P := Try.prog) (t := 81) (d := (Kd.pair (Kd.slice 153 k153) (Kd.pair (Kd.int .i64) (Kd.int .i64)))) (good := fun p => (p.1.length ≤ 9223372036854775807 ∧ ∀ y0 ∈ p.1, (y0.f0.size ≤ 9223372036854775807) ∧ (y0.f1.length ≤ 9223372036854775807 ∧ ∀ y1 ∈ y0.f1, ((Lit.int .i64 y1.f0).wf = true) ∧ ((Lit.int .i64 y1.f1).wf = true)) ∧ (True)) ∧ ((Lit.int .i64 p.2.1).wf = true) ∧ ((Lit.int .i64 p.2.2).wf = true)) (fun x : S81 => (x.f0, x.f1, x.f2)) (fun p => (⟨p.1, p.2.1, p.2.2⟩ : S81)) (fun _ => rfl) Try.underlying81 (by kernel_rfl) (opensAt_cons rfl (by kernel_rfl) (opens_slice Try.underlying79 (by kernel_rfl) op153) (opensAt_cons rfl (by kernel_rfl) (opens_int Try.underlying2) (opensAt_last rfl (by kernel_rfl) (opens_int Try.underlying2))))
  exact h
set_option maxRecDepth 100000 in
theorem lifted (os : Os) (started : os.Started) (H : Type) (enc : TypeId × Value → H) :
    ReturnsInHanded {} Try.checked os 10 .any (Rows.fnExactSamePlanSpec.pre6 enc Try.prog Try.f10 Rows.fnExactSamePlanRow.domain false) (Rows.fnExactSamePlanSpec.post enc Try.prog Try.f10 false true false false) := by
  refine returnsInHanded_of_change_sized (C := Try.checked) own started (by kernel_rfl) Try.func10
    (ChangeSpec.witness6 (enc := enc) (C := Try.checked) false ⟨#[], #[(.agg #[(.slice none 0 0), (.int .i64 0), (.int .i64 0)]), (.agg #[(.slice none 0 0), (.int .i64 0), (.int .i64 0)])], []⟩ 8 (by kernel_rfl) (by kernel_rfl) (by kernel_rfl) (by kernel_rfl)) ?_
  intro W base args ds gs before hval0 hW hcnd hsz0 _
  have hval : ∀ (j : Nat) t v, Try.f10.params[j]? = some t → args[j]? = some v → Value.okWide Try.prog W .any base t v := hval0
  have hW' := hW
  obtain ⟨p, q, hA0, hV, rfl, hfz, hnd⟩ := hW
  have hA : DataW.TrodAll enc Try.prog W 0 (fun _ => true) true Try.f10.params.toList args.toList ds p := hA0
  rw [Try.params10] at hA hval
  obtain ⟨v0, vs0, d0, ds0, p0, q0, hargs, rfl, rfl, h0, r0⟩ := trodAll_cons hA
  obtain ⟨v1, vs1, d1, ds1, p1, q1, rfl, rfl, rfl, h1, r1⟩ := trodAll_cons r0
  obtain ⟨rfl, rfl, rfl⟩ := trodAll_nil r1
  obtain rfl : args = #[v0, v1] := by cases args; simp_all
  obtain ⟨rfl, rfl⟩ := trodVars_none hV
  have k0 := h0
  have lt0 : ∀ x ∈ p0, x.block < W.heap.size := by obtain ⟨m, hm⟩ := k0; exact DataW.trod_lt m _ _ _ hm
  obtain ⟨cs0, a0, rfl, hK0, hg0⟩ := struct_arg Try.underlying81 op81 (hval 0 81 v0 rfl rfl) h0
  obtain ⟨A0_0, c0_0, rfl, hc0_0, hC0_0⟩ := k81_open hK0
  have k1 := h1
  have lt1 : ∀ x ∈ p1, x.block < W.heap.size := by obtain ⟨m, hm⟩ := k1; exact DataW.trod_lt m _ _ _ hm
  obtain ⟨cs1, a1, rfl, hK1, hg1⟩ := struct_arg Try.underlying81 op81 (hval 1 81 v1 rfl rfl) h1
  obtain ⟨A1_0, c1_0, rfl, hc1_0, hC1_0⟩ := k81_open hK1
  obtain ⟨k, hp⟩ := Pure.FnExactSamePlan a0.f0 a0.f1 a0.f2 a1.f0 a1.f1 a1.f2 hg0.1 hg0.2.1 hg0.2.2 hg1.1 hg1.2.1 hg1.2.2
  clear hA0 hval0 hsz0
  refine (laws_FnExactSamePlan.calls k A0_0 c0_0 a0.f0 a0.f1 a0.f2 A1_0 c1_0 a1.f0 a1.f1 a1.f2 true W hC0_0 hc0_0 hC1_0 hc1_0 hp).mono fun e W' ⟨he, bel0⟩ => ?_
  have bel : Below W.heap.size W W' := bel0
  subst he
  exact ⟨_, rfl, _, _, _, [], _, [], hW', trodAll_mk1 (shut_bool Try.underlying4 _), (trodAll_cons_mk (Below.trod laidOut (by kernel_rfl) (of_decide_eq_true (by kernel_rfl)) k0 bel lt0) (trodAll_cons_mk (Below.trod laidOut (by kernel_rfl) (of_decide_eq_true (by kernel_rfl)) k1 bel lt1) trodAll_mk0)), rfl, bel.frame _, fun h => by cases h⟩
theorem over : Rows.fnExactSamePlanRow.holds Try.pinned (OpenSpec.ofChange Rows.fnExactSamePlanSpec) :=
  OpenClaim.holds_of_wide 10 Try.f10 rfl rfl rfl rfl rfl rfl rfl ⟨rfl, rfl, rfl, rfl, rfl⟩ rfl rfl rfl rfl rfl (by kernel_rfl) Try.func10 (by kernel_rfl)
    (of_decide_eq_true (by kernel_rfl)) (by unfold Func.isWrapper; first | (rw [if_pos (by decide +kernel)]; kernel_rfl) | (rw [if_neg (by decide +kernel)]; exact ⟨rfl, rfl⟩))
    (fun os started H enc _ => lifted os started H enc)
theorem proved : Rows.FnExactSamePlanSaid := over
#print axioms proved
end Go.Proofs.Ytobejjbnklcgpaa.fnExactSamePlan
namespace Go.Proofs.Ytobejjbnklcgpaa
/-- The row, under a short name, for the claim. -/
theorem fnExactSamePlan_holds : Rows.FnExactSamePlanSaid := fnExactSamePlan.proved
end Go.Proofs.Ytobejjbnklcgpaa
