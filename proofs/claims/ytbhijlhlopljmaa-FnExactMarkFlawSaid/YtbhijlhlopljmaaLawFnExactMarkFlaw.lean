-- Written by a program of this session (wip/tools/pp.sh).
import Derived.Test.YtbhijlhlopljmaaRows
import Derived.Test.YtbhijlhlopljmaaPFnExactMarkFlawx8
import Derived.Test.YtbhijlhlopljmaaPureFnExactMarkFlaw
import Derived.Test.YtbhijlhlopljmaaOpen
import Derived.WalkKit
import Derived.ProofKit
import Derived.OpenShut
import Derived.ShutString
import Derived.ChangeOld
import Derived.Below
import Derived.SizedLaws
namespace Go.Proofs.Ytbhijlhlopljmaa.fnExactMarkFlaw
open Go.ChangeShapes Go.WideShapes Go.ChangeAt Go.RowKit Go.Proofs.Ytbhijlhlopljmaa.Open Go.Proofs.Ytbhijlhlopljmaa.PFnExactMarkFlaw Go.Proofs.YtbhijlhlopljmaaW.PrintWords
open Go.ChangeMaps (open_string shut_string)
set_option linter.unusedVariables false
theorem own : ownKnob Try.prog.godebug = none := by kernel_rfl
theorem laidOut : laidOutB Try.prog = true := by kernel_rfl
theorem op77 : Opens Try.prog 77 k77 (fun x : S77 => ((Lit.int .i64 x.f0).wf = true) ∧ (x.f1.length ≤ 9223372036854775807 ∧ ∀ y0 ∈ x.f1, (Lit.int .i64 y0).wf = true)) := by
  have h := opens_struct (P := Try.prog) (t := 77) (d := (Kd.pair (Kd.int .i64) (Kd.slice 2 (Kd.int .i64)))) (good := fun p => ((Lit.int .i64 p.1).wf = true) ∧ (p.2.length ≤ 9223372036854775807 ∧ ∀ y0 ∈ p.2, (Lit.int .i64 y0).wf = true)) (fun x : S77 => (x.f0, x.f1)) (fun p => (⟨p.1, p.2⟩ : S77)) (fun _ => rfl) Try.underlying77 (by kernel_rfl) (opensAt_cons rfl (by kernel_rfl) (opens_int Try.underlying2) (opensAt_last rfl (by kernel_rfl) (opens_slice Try.underlying22 (by kernel_rfl) (opens_int Try.underlying2))))
  exact h
set_option maxRecDepth 100000 in
theorem lifted (os : Os) (started : os.Started) (H : Type) (enc : TypeId × Value → H) :
    ReturnsInHanded {} Try.checked os 9 .any (Rows.fnExactMarkFlawSpec.pre6 enc Try.prog Try.f9 Rows.fnExactMarkFlawRow.domain false) (Rows.fnExactMarkFlawSpec.post enc Try.prog Try.f9 false true false false) := by
  refine returnsInHanded_of_change_sized (C := Try.checked) own started (by kernel_rfl) Try.func9
    (ChangeSpec.witness6 (enc := enc) (C := Try.checked) false ⟨#[], #[(.agg #[(.int .i64 0), (.slice none 0 0)]), .int .i64 0], []⟩ 8 (by kernel_rfl) (by kernel_rfl) (by kernel_rfl) (by kernel_rfl)) ?_
  intro W base args ds gs before hval0 hW hcnd hsz0 _
  have hval : ∀ (j : Nat) t v, Try.f9.params[j]? = some t → args[j]? = some v → Value.okWide Try.prog W .any base t v := hval0
  have hW' := hW
  obtain ⟨p, q, hA0, hV, rfl, hfz, hnd⟩ := hW
  have hA : DataW.TrodAll enc Try.prog W 0 (fun _ => true) true Try.f9.params.toList args.toList ds p := hA0
  rw [Try.params9] at hA hval
  obtain ⟨v0, vs0, d0, ds0, p0, q0, hargs, rfl, rfl, h0, r0⟩ := trodAll_cons hA
  obtain ⟨v1, vs1, d1, ds1, p1, q1, rfl, rfl, rfl, h1, r1⟩ := trodAll_cons r0
  obtain ⟨rfl, rfl, rfl⟩ := trodAll_nil r1
  obtain rfl : args = #[v0, v1] := by cases args; simp_all
  obtain ⟨rfl, rfl⟩ := trodVars_none hV
  have k0 := h0
  have lt0 : ∀ x ∈ p0, x.block < W.heap.size := by obtain ⟨m, hm⟩ := k0; exact DataW.trod_lt m _ _ _ hm
  obtain ⟨cs0, a0, rfl, hK0, hg0⟩ := struct_arg Try.underlying77 op77 (hval 0 77 v0 rfl rfl) h0
  obtain ⟨A0_1, c0_1, rfl, hc0_1, hC0_1⟩ := k77_open hK0
  obtain ⟨a1, rfl, rfl, rfl, w1⟩ := open_int Try.underlying2 (hval 1 2 v1 rfl rfl) h1
  obtain ⟨k, hp⟩ := Pure.FnExactMarkFlaw a0.f0 a0.f1 a1 hg0.1 hg0.2 w1
  clear hA0 hval0 hsz0
  refine (laws_FnExactMarkFlaw.calls k a0.f0 A0_1 c0_1 a0.f1 a1 true W hC0_1 hc0_1 rfl hp).mono fun e W' ⟨he, bel0⟩ => ?_
  have bel : Below W.heap.size W W' := bel0
  subst he
  exact ⟨_, rfl, _, _, _, [], _, [], hW', trodAll_mk1 (shut_bool Try.underlying4 _), (trodAll_cons_mk (Below.trod laidOut (by kernel_rfl) (of_decide_eq_true (by kernel_rfl)) k0 bel lt0) (trodAll_cons_mk (shut_int Try.underlying2 w1) trodAll_mk0)), rfl, bel.frame _, fun h => by cases h⟩
theorem over : Rows.fnExactMarkFlawRow.holds Try.pinned (OpenSpec.ofChange Rows.fnExactMarkFlawSpec) :=
  OpenClaim.holds_of_wide 9 Try.f9 rfl rfl rfl rfl rfl rfl rfl ⟨rfl, rfl, rfl, rfl, rfl⟩ rfl rfl rfl rfl rfl (by kernel_rfl) Try.func9 (by kernel_rfl)
    (of_decide_eq_true (by kernel_rfl)) (by unfold Func.isWrapper; first | (rw [if_pos (by decide +kernel)]; kernel_rfl) | (rw [if_neg (by decide +kernel)]; exact ⟨rfl, rfl⟩))
    (fun os started H enc _ => lifted os started H enc)
theorem proved : Rows.FnExactMarkFlawSaid := over
#print axioms proved
end Go.Proofs.Ytbhijlhlopljmaa.fnExactMarkFlaw
namespace Go.Proofs.Ytbhijlhlopljmaa
/-- The row, under a short name, for the claim. -/
theorem fnExactMarkFlaw_holds : Rows.FnExactMarkFlawSaid := fnExactMarkFlaw.proved
end Go.Proofs.Ytbhijlhlopljmaa
