-- Written by a program of this session (wip/tools/pp.sh).
import Derived.Test.YtlphfgbeeckjnaaRows
import Derived.Test.YtlphfgbeeckjnaaPFnExactOverlapsOfx19
import Derived.Test.YtlphfgbeeckjnaaPureFnExactOverlapsOf
import Derived.Test.YtlphfgbeeckjnaaOpen
import Derived.WalkKit
import Derived.ProofKit
import Derived.OpenShut
import Derived.ShutString
import Derived.ChangeOld
import Derived.Below
import Derived.SizedLaws
namespace Go.Proofs.Ytlphfgbeeckjnaa.fnExactOverlapsOf
open Go.ChangeShapes Go.WideShapes Go.ChangeAt Go.RowKit Go.Proofs.Ytlphfgbeeckjnaa.Open Go.Proofs.Ytlphfgbeeckjnaa.PFnExactOverlapsOf Go.Proofs.YtlphfgbeeckjnaaW.PrintWords
open Go.ChangeMaps (open_string shut_string)
set_option linter.unusedVariables false
theorem own : ownKnob Try.prog.godebug = none := by kernel_rfl
theorem laidOut : laidOutB Try.prog = true := by kernel_rfl
theorem op176 : Opens Try.prog 176 k176 (fun x : S176 => ((Lit.int .i64 x.f0).wf = true) ∧ ((Lit.int .i64 x.f1).wf = true)) := by
  have h := opens_struct (P := Try.prog) (t := 176) (d := (Kd.pair (Kd.int .i64) (Kd.int .i64))) (good := fun p => ((Lit.int .i64 p.1).wf = true) ∧ ((Lit.int .i64 p.2).wf = true)) (fun x : S176 => (x.f0, x.f1)) (fun p => (⟨p.1, p.2⟩ : S176)) (fun _ => rfl) Try.underlying176 (by kernel_rfl) (opensAt_cons rfl (by kernel_rfl) (opens_int Try.underlying2) (opensAt_last rfl (by kernel_rfl) (opens_int Try.underlying2)))
  exact h
theorem op74 : Opens Try.prog 74 k74 (fun x : S74 => (x.f0.size ≤ 9223372036854775807) ∧ (x.f1.length ≤ 9223372036854775807 ∧ ∀ y0 ∈ x.f1, ((Lit.int .i64 y0.f0).wf = true) ∧ ((Lit.int .i64 y0.f1).wf = true)) ∧ (True)) := by
  have h := opens_struct (P := Try.prog) (t := 74) (d := (Kd.pair Kd.string (Kd.pair (Kd.slice 176 k176) Kd.bool))) (good := fun p => (p.1.size ≤ 9223372036854775807) ∧ (p.2.1.length ≤ 9223372036854775807 ∧ ∀ y0 ∈ p.2.1, ((Lit.int .i64 y0.f0).wf = true) ∧ ((Lit.int .i64 y0.f1).wf = true)) ∧ (True)) (fun x : S74 => (x.f0, x.f1, x.f2)) (fun p => (⟨p.1, p.2.1, p.2.2⟩ : S74)) (fun _ => rfl) Try.underlying74 (by kernel_rfl) (opensAt_cons rfl (by kernel_rfl) (opens_string Try.underlying9) (opensAt_cons rfl (by kernel_rfl) (opens_slice Try.underlying72 (by kernel_rfl) op176) (opensAt_last rfl (by kernel_rfl) (opens_bool Try.underlying4))))
  exact h
theorem op59 : Opens Try.prog 59 k59 (fun x : S59 => (x.f0.length ≤ 9223372036854775807 ∧ ∀ y0 ∈ x.f0, (y0.f0.size ≤ 9223372036854775807) ∧ (y0.f1.length ≤ 9223372036854775807 ∧ ∀ y1 ∈ y0.f1, ((Lit.int .i64 y1.f0).wf = true) ∧ ((Lit.int .i64 y1.f1).wf = true)) ∧ (True)) ∧ ((Lit.int .i64 x.f1).wf = true) ∧ ((Lit.int .i64 x.f2).wf = true)) := by
  have h := opens_struct (P := Try.prog) (t := 59) (d := (Kd.pair (Kd.slice 74 k74) (Kd.pair (Kd.int .i64) (Kd.int .i64)))) (good := fun p => (p.1.length ≤ 9223372036854775807 ∧ ∀ y0 ∈ p.1, (y0.f0.size ≤ 9223372036854775807) ∧ (y0.f1.length ≤ 9223372036854775807 ∧ ∀ y1 ∈ y0.f1, ((Lit.int .i64 y1.f0).wf = true) ∧ ((Lit.int .i64 y1.f1).wf = true)) ∧ (True)) ∧ ((Lit.int .i64 p.2.1).wf = true) ∧ ((Lit.int .i64 p.2.2).wf = true)) (fun x : S59 => (x.f0, x.f1, x.f2)) (fun p => (⟨p.1, p.2.1, p.2.2⟩ : S59)) (fun _ => rfl) Try.underlying59 (by kernel_rfl) (opensAt_cons rfl (by kernel_rfl) (opens_slice Try.underlying57 (by kernel_rfl) op74) (opensAt_cons rfl (by kernel_rfl) (opens_int Try.underlying2) (opensAt_last rfl (by kernel_rfl) (opens_int Try.underlying2))))
  exact h
set_option maxRecDepth 100000 in
theorem lifted (os : Os) (started : os.Started) (H : Type) (enc : TypeId × Value → H) :
    ReturnsInHanded {} Try.checked os 6 .any (Rows.fnExactOverlapsOfSpec.pre6 enc Try.prog Try.f6 Rows.fnExactOverlapsOfRow.domain false) (Rows.fnExactOverlapsOfSpec.post enc Try.prog Try.f6 false true false false) := by
  refine returnsInHanded_of_change_sized (C := Try.checked) own started (by kernel_rfl) Try.func6
    (ChangeSpec.witness6 (enc := enc) (C := Try.checked) false ⟨#[], #[(.agg #[(.slice none 0 0), (.int .i64 0), (.int .i64 0)])], []⟩ 8 (by kernel_rfl) (by kernel_rfl) (by kernel_rfl) (by kernel_rfl)) ?_
  intro W base args ds gs before hval0 hW hcnd hsz0 _
  have hval : ∀ (j : Nat) t v, Try.f6.params[j]? = some t → args[j]? = some v → Value.okWide Try.prog W .any base t v := hval0
  have hW' := hW
  obtain ⟨p, q, hA0, hV, rfl, hfz, hnd⟩ := hW
  have hA : DataW.TrodAll enc Try.prog W 0 (fun _ => true) true Try.f6.params.toList args.toList ds p := hA0
  rw [Try.params6] at hA hval
  obtain ⟨v0, vs0, d0, ds0, p0, q0, hargs, rfl, rfl, h0, r0⟩ := trodAll_cons hA
  obtain ⟨rfl, rfl, rfl⟩ := trodAll_nil r0
  obtain rfl : args = #[v0] := by cases args; simp_all
  obtain ⟨rfl, rfl⟩ := trodVars_none hV
  have k0 := h0
  have lt0 : ∀ x ∈ p0, x.block < W.heap.size := by obtain ⟨m, hm⟩ := k0; exact DataW.trod_lt m _ _ _ hm
  obtain ⟨cs0, a0, rfl, hK0, hg0⟩ := struct_arg Try.underlying59 op59 (hval 0 59 v0 rfl rfl) h0
  obtain ⟨A0_0, c0_0, rfl, hc0_0, hC0_0⟩ := k59_open hK0
  obtain ⟨k, hp⟩ := Pure.FnExactOverlapsOf a0.f0 a0.f1 a0.f2 hg0.1 hg0.2.1 hg0.2.2
  clear hA0 hval0 hsz0
  refine (laws_FnExactOverlapsOf.calls k A0_0 c0_0 a0.f0 a0.f1 a0.f2 true W hC0_0 hc0_0 rfl hp).mono fun e W' ⟨he, bel0⟩ => ?_
  have bel : Below W.heap.size W W' := bel0
  subst he
  exact ⟨_, rfl, _, _, _, [], _, [], hW', trodAll_mk1 (shut_bool Try.underlying4 _), (trodAll_cons_mk (Below.trod laidOut (by kernel_rfl) (of_decide_eq_true (by kernel_rfl)) k0 bel lt0) trodAll_mk0), rfl, bel.frame _, fun h => by cases h⟩
theorem over : Rows.fnExactOverlapsOfRow.holds Try.pinned (OpenSpec.ofChange Rows.fnExactOverlapsOfSpec) :=
  OpenClaim.holds_of_wide 6 Try.f6 rfl rfl rfl rfl rfl rfl rfl ⟨rfl, rfl, rfl, rfl, rfl⟩ rfl rfl rfl rfl rfl (by kernel_rfl) Try.func6 (by kernel_rfl)
    (of_decide_eq_true (by kernel_rfl)) (by unfold Func.isWrapper; first | (rw [if_pos (by decide +kernel)]; kernel_rfl) | (rw [if_neg (by decide +kernel)]; exact ⟨rfl, rfl⟩))
    (fun os started H enc _ => lifted os started H enc)
theorem proved : Rows.FnExactOverlapsOfSaid := over
#print axioms proved
end Go.Proofs.Ytlphfgbeeckjnaa.fnExactOverlapsOf
namespace Go.Proofs.Ytlphfgbeeckjnaa
/-- The row, under a short name, for the claim. -/
theorem fnExactOverlapsOf_holds : Rows.FnExactOverlapsOfSaid := fnExactOverlapsOf.proved
end Go.Proofs.Ytlphfgbeeckjnaa
