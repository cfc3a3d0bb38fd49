-- Written by a program of this session (wip/tools/pp.sh).
import Derived.Test.YtobejjbnklcgpaaRows
import Derived.Test.YtobejjbnklcgpaaPFnExactLongestPanelx5
import Derived.Test.YtobejjbnklcgpaaPureFnExactLongestPanel
import Derived.Test.YtobejjbnklcgpaaOpen
import Derived.WalkKit
import Derived.ProofKit
import Derived.OpenShut
import Derived.ShutString
import Derived.ChangeOld
import Derived.Below
import Derived.SizedLaws
namespace Go.Proofs.Ytobejjbnklcgpaa.fnExactLongestPanel
open Go.ChangeShapes Go.WideShapes Go.ChangeAt Go.RowKit Go.Proofs.Ytobejjbnklcgpaa.Open Go.Proofs.Ytobejjbnklcgpaa.PFnExactLongestPanel Go.Proofs.YtobejjbnklcgpaaW.PrintWords
open Go.ChangeMaps (open_string shut_string)
set_option linter.unusedVariables false
theorem own : ownKnob Try.prog.godebug = none := by kernel_rfl
theorem laidOut : laidOutB Try.prog = true := by kernel_rfl
theorem op60 : Opens Try.prog 60 k60 (fun x : S60 => ((Lit.int .i64 x.f0).wf = true) ∧ (x.f1.length ≤ 9223372036854775807 ∧ ∀ y0 ∈ x.f1, (Lit.int .i64 y0).wf = true)) := by
  have h := opens_struct (P := Try.prog) (t := 60) (d := (Kd.pair (Kd.int .i64) (Kd.slice 2 (Kd.int .i64)))) (good := fun p => ((Lit.int .i64 p.1).wf = true) ∧ (p.2.length ≤ 9223372036854775807 ∧ ∀ y0 ∈ p.2, (Lit.int .i64 y0).wf = true)) (fun x : S60 => (x.f0, x.f1)) (fun p => (⟨p.1, p.2⟩ : S60)) (fun _ => rfl) Try.underlying60 (by kernel_rfl) (opensAt_cons rfl (by kernel_rfl) (opens_int Try.underlying2) (opensAt_last rfl (by kernel_rfl) (opens_slice Try.underlying38 (by kernel_rfl) (opens_int Try.underlying2))))
  exact h
set_option maxRecDepth 100000 in
theorem lifted (os : Os) (started : os.Started) (H : Type) (enc : TypeId × Value → H) :
    ReturnsInHanded {} Try.checked os 13 .any (Rows.fnExactLongestPanelSpec.pre6 enc Try.prog Try.f13 Rows.fnExactLongestPanelRow.domain false) (Rows.fnExactLongestPanelSpec.post enc Try.prog Try.f13 false true false false) := by
  refine returnsInHanded_of_change_sized (C := Try.checked) own started (by kernel_rfl) Try.func13
    (ChangeSpec.witness6 (enc := enc) (C := Try.checked) false ⟨#[], #[.slice none 0 0], []⟩ 8 (by kernel_rfl) (by kernel_rfl) (by kernel_rfl) (by kernel_rfl)) ?_
  intro W base args ds gs before hval0 hW hcnd hsz0 _
  have hval : ∀ (j : Nat) t v, Try.f13.params[j]? = some t → args[j]? = some v → Value.okWide Try.prog W .any base t v := hval0
  have hW' := hW
  obtain ⟨p, q, hA0, hV, rfl, hfz, hnd⟩ := hW
  have hA : DataW.TrodAll enc Try.prog W 0 (fun _ => true) true Try.f13.params.toList args.toList ds p := hA0
  rw [Try.params13] at hA hval
  obtain ⟨v0, vs0, d0, ds0, p0, q0, hargs, rfl, rfl, h0, r0⟩ := trodAll_cons hA
  obtain ⟨rfl, rfl, rfl⟩ := trodAll_nil r0
  obtain rfl : args = #[v0] := by cases args; simp_all
  obtain ⟨rfl, rfl⟩ := trodVars_none hV
  have k0 := h0
  have lt0 : ∀ x ∈ p0, x.block < W.heap.size := by obtain ⟨m, hm⟩ := k0; exact DataW.trod_lt m _ _ _ hm
  obtain ⟨A0, c0, l0, rfl, hc0, hC0, hg0⟩ := slice_arg Try.underlying31 (opens_slice Try.underlying31 (by kernel_rfl) op60) (hval 0 31 v0 rfl rfl) h0
  obtain ⟨k, hp⟩ := Pure.FnExactLongestPanel l0 hg0
  clear hA0 hval0 hsz0
  refine (laws_FnExactLongestPanel.calls k A0 c0 l0 true W hC0 hc0 rfl hp).mono fun e W' ⟨he, bel0⟩ => ?_
  have bel : Below W.heap.size W W' := bel0
  subst he
  exact ⟨_, rfl, _, _, _, [], _, [], hW', trodAll_mk1 (shut_bool Try.underlying4 _), (trodAll_cons_mk (Below.trod laidOut (by kernel_rfl) (of_decide_eq_true (by kernel_rfl)) k0 bel lt0) trodAll_mk0), rfl, bel.frame _, fun h => by cases h⟩
theorem over : Rows.fnExactLongestPanelRow.holds Try.pinned (OpenSpec.ofChange Rows.fnExactLongestPanelSpec) :=
  OpenClaim.holds_of_wide 13 Try.f13 rfl rfl rfl rfl rfl rfl rfl ⟨rfl, rfl, rfl, rfl, rfl⟩ rfl rfl rfl rfl rfl (by kernel_rfl) Try.func13 (by kernel_rfl)
    (of_decide_eq_true (by kernel_rfl)) (by unfold Func.isWrapper; first | (rw [if_pos (by decide +kernel)]; kernel_rfl) | (rw [if_neg (by decide +kernel)]; exact ⟨rfl, rfl⟩))
    (fun os started H enc _ => lifted os started H enc)
theorem proved : Rows.FnExactLongestPanelSaid := over
#print axioms proved
end Go.Proofs.Ytobejjbnklcgpaa.fnExactLongestPanel
namespace Go.Proofs.Ytobejjbnklcgpaa
/-- The row, under a short name, for the claim. -/
theorem fnExactLongestPanel_holds : Rows.FnExactLongestPanelSaid := fnExactLongestPanel.proved
end Go.Proofs.Ytobejjbnklcgpaa
