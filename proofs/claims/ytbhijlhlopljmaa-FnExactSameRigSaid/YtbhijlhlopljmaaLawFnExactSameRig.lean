-- Written by a program of this session (wip/tools/pp.sh).
import Derived.Test.YtbhijlhlopljmaaRows
import Derived.Test.YtbhijlhlopljmaaPFnExactSameRigx8
import Derived.Test.YtbhijlhlopljmaaPureFnExactSameRig
import Derived.Test.YtbhijlhlopljmaaOpen
import Derived.WalkKit
import Derived.ProofKit
import Derived.OpenShut
import Derived.ShutString
import Derived.ChangeOld
import Derived.Below
import Derived.SizedLaws
namespace Go.Proofs.Ytbhijlhlopljmaa.fnExactSameRig
open Go.ChangeShapes Go.WideShapes Go.ChangeAt Go.RowKit Go.Proofs.Ytbhijlhlopljmaa.Open Go.Proofs.Ytbhijlhlopljmaa.PFnExactSameRig Go.Proofs.YtbhijlhlopljmaaW.PrintWords
open Go.ChangeMaps (open_string shut_string)
set_option linter.unusedVariables false
theorem own : ownKnob Try.prog.godebug = none := by kernel_rfl
theorem laidOut : laidOutB Try.prog = true := by kernel_rfl
theorem op155 : Opens Try.prog 155 k155 (fun x : S155 => (x.f0.size ≤ 9223372036854775807) ∧ (x.f1.size ≤ 9223372036854775807) ∧ ((Lit.int .i64 x.f2).wf = true)) := by
  have h := opens_struct (P := Try.prog) (t := 155) (d := (Kd.pair Kd.string (Kd.pair Kd.string (Kd.int .i64)))) (good := fun p => (p.1.size ≤ 9223372036854775807) ∧ (p.2.1.size ≤ 9223372036854775807) ∧ ((Lit.int .i64 p.2.2).wf = true)) (fun x : S155 => (x.f0, x.f1, x.f2)) (fun p => (⟨p.1, p.2.1, p.2.2⟩ : S155)) (fun _ => rfl) Try.underlying155 (by kernel_rfl) (opensAt_cons rfl (by kernel_rfl) (opens_string Try.underlying9) (opensAt_cons rfl (by kernel_rfl) (opens_string Try.underlying9) (opensAt_last rfl (by kernel_rfl) (opens_int Try.underlying2))))
  exact h
theorem op157 : Opens Try.prog 157 k157 (fun x : S157 => (x.f0.size ≤ 9223372036854775807) ∧ (x.f1.size ≤ 9223372036854775807) ∧ ((Lit.int .i64 x.f2).wf = true)) := by
  have h := opens_struct (P := Try.prog) (t := 157) (d := (Kd.pair Kd.string (Kd.pair Kd.string (Kd.int .i64)))) (good := fun p => (p.1.size ≤ 9223372036854775807) ∧ (p.2.1.size ≤ 9223372036854775807) ∧ ((Lit.int .i64 p.2.2).wf = true)) (fun x : S157 => (x.f0, x.f1, x.f2)) (fun p => (⟨p.1, p.2.1, p.2.2⟩ : S157)) (fun _ => rfl) Try.underlying157 (by kernel_rfl) (opensAt_cons rfl (by kernel_rfl) (opens_string Try.underlying9) (opensAt_cons rfl (by kernel_rfl) (opens_string Try.underlying9) (opensAt_last rfl (by kernel_rfl) (opens_int Try.underlying2))))
  exact h
theorem op38 : Opens Try.prog 38 k38 (fun x : S38 => (x.f0.length ≤ 9223372036854775807 ∧ ∀ y0 ∈ x.f0, (y0.f0.size ≤ 9223372036854775807) ∧ (y0.f1.size ≤ 9223372036854775807) ∧ ((Lit.int .i64 y0.f2).wf = true)) ∧ (x.f1.length ≤ 9223372036854775807 ∧ ∀ y0 ∈ x.f1, y0.size ≤ 9223372036854775807) ∧ (x.f2.length ≤ 9223372036854775807 ∧ ∀ y0 ∈ x.f2, (y0.f0.size ≤ 9223372036854775807) ∧ (y0.f1.size ≤ 9223372036854775807) ∧ ((Lit.int .i64 y0.f2).wf = true))) := by
  have h := opens_struct (P := Try.prog) (t := 38) (d := (Kd.pair (Kd.slice 155 k155) (Kd.pair (Kd.slice 9 Kd.string) (Kd.slice 157 k157)))) (good := fun p => (p.1.length ≤ 9223372036854775807 ∧ ∀ y0 ∈ p.1, (y0.f0.size ≤ 9223372036854775807) ∧ (y0.f1.size ≤ 9223372036854775807) ∧ ((Lit.int .i64 y0.f2).wf = true)) ∧ (p.2.1.length ≤ 9223372036854775807 ∧ ∀ y0 ∈ p.2.1, y0.size ≤ 9223372036854775807) ∧ (p.2.2.length ≤ 9223372036854775807 ∧ ∀ y0 ∈ p.2.2, (y0.f0.size ≤ 9223372036854775807) ∧ (y0.f1.size ≤ 9223372036854775807) ∧ ((Lit.int .i64 y0.f2).wf = true))) (fun x : S38 => (x.f0, x.f1, x.f2)) (fun p => (⟨p.1, p.2.1, p.2.2⟩ : S38)) (fun _ => rfl) Try.underlying38 (by kernel_rfl) (opensAt_cons rfl (by kernel_rfl) (opens_slice Try.underlying34 (by kernel_rfl) op155) (opensAt_cons rfl (by kernel_rfl) (opens_slice Try.underlying35 (by kernel_rfl) (opens_string Try.underlying9)) (opensAt_last rfl (by kernel_rfl) (opens_slice Try.underlying36 (by kernel_rfl) op157))))
  exact h
set_option maxRecDepth 100000 in
theorem lifted (os : Os) (started : os.Started) (H : Type) (enc : TypeId × Value → H) :
    ReturnsInHanded {} Try.checked os 4 .any (Rows.fnExactSameRigSpec.pre6 enc Try.prog Try.f4 Rows.fnExactSameRigRow.domain false) (Rows.fnExactSameRigSpec.post enc Try.prog Try.f4 false true false false) := by
  refine returnsInHanded_of_change_sized (C := Try.checked) own started (by kernel_rfl) Try.func4
    (ChangeSpec.witness6 (enc := enc) (C := Try.checked) false ⟨#[], #[(.agg #[(.slice none 0 0), (.slice none 0 0), (.slice none 0 0)]), (.agg #[(.slice none 0 0), (.slice none 0 0), (.slice none 0 0)])], []⟩ 8 (by kernel_rfl) (by kernel_rfl) (by kernel_rfl) (by kernel_rfl)) ?_
  intro W base args ds gs before hval0 hW hcnd hsz0 _
  have hval : ∀ (j : Nat) t v, Try.f4.params[j]? = some t → args[j]? = some v → Value.okWide Try.prog W .any base t v := hval0
  have hW' := hW
  obtain ⟨p, q, hA0, hV, rfl, hfz, hnd⟩ := hW
  have hA : DataW.TrodAll enc Try.prog W 0 (fun _ => true) true Try.f4.params.toList args.toList ds p := hA0
  rw [Try.params4] at hA hval
  obtain ⟨v0, vs0, d0, ds0, p0, q0, hargs, rfl, rfl, h0, r0⟩ := trodAll_cons hA
  obtain ⟨v1, vs1, d1, ds1, p1, q1, rfl, rfl, rfl, h1, r1⟩ := trodAll_cons r0
  obtain ⟨rfl, rfl, rfl⟩ := trodAll_nil r1
  obtain rfl : args = #[v0, v1] := by cases args; simp_all
  obtain ⟨rfl, rfl⟩ := trodVars_none hV
  have k0 := h0
  have lt0 : ∀ x ∈ p0, x.block < W.heap.size := by obtain ⟨m, hm⟩ := k0; exact DataW.trod_lt m _ _ _ hm
  obtain ⟨cs0, a0, rfl, hK0, hg0⟩ := struct_arg Try.underlying38 op38 (hval 0 38 v0 rfl rfl) h0
  obtain ⟨A0_0, c0_0, A0_1, c0_1, A0_2, c0_2, rfl, hc0_0, hC0_0, hc0_1, hC0_1, hc0_2, hC0_2⟩ := k38_open hK0
  have k1 := h1
  have lt1 : ∀ x ∈ p1, x.block < W.heap.size := by obtain ⟨m, hm⟩ := k1; exact DataW.trod_lt m _ _ _ hm
  obtain ⟨cs1, a1, rfl, hK1, hg1⟩ := struct_arg Try.underlying38 op38 (hval 1 38 v1 rfl rfl) h1
  obtain ⟨A1_0, c1_0, A1_1, c1_1, A1_2, c1_2, rfl, hc1_0, hC1_0, hc1_1, hC1_1, hc1_2, hC1_2⟩ := k38_open hK1
  obtain ⟨k, hp⟩ := Pure.FnExactSameRig a0.f0 a0.f1 a0.f2 a1.f0 a1.f1 a1.f2 hg0.1 hg0.2.1 hg0.2.2 hg1.1 hg1.2.1 hg1.2.2
  clear hA0 hval0 hsz0
  refine (laws_FnExactSameRig.calls k A0_0 c0_0 a0.f0 A0_1 c0_1 a0.f1 A0_2 c0_2 a0.f2 A1_0 c1_0 a1.f0 A1_1 c1_1 a1.f1 A1_2 c1_2 a1.f2 true W hC0_0 hc0_0 hC0_1 hc0_1 hC0_2 hc0_2 hC1_0 hc1_0 hC1_1 hc1_1 hC1_2 hc1_2 rfl hp).mono fun e W' ⟨he, bel0⟩ => ?_
  have bel : Below W.heap.size W W' := bel0
  subst he
  exact ⟨_, rfl, _, _, _, [], _, [], hW', trodAll_mk1 (shut_bool Try.underlying4 _), (trodAll_cons_mk (Below.trod laidOut (by kernel_rfl) (of_decide_eq_true (by kernel_rfl)) k0 bel lt0) (trodAll_cons_mk (Below.trod laidOut (by kernel_rfl) (of_decide_eq_true (by kernel_rfl)) k1 bel lt1) trodAll_mk0)), rfl, bel.frame _, fun h => by cases h⟩
theorem over : Rows.fnExactSameRigRow.holds Try.pinned (OpenSpec.ofChange Rows.fnExactSameRigSpec) :=
  OpenClaim.holds_of_wide 4 Try.f4 rfl rfl rfl rfl rfl rfl rfl ⟨rfl, rfl, rfl, rfl, rfl⟩ rfl rfl rfl rfl rfl (by kernel_rfl) Try.func4 (by kernel_rfl)
    (of_decide_eq_true (by kernel_rfl)) (by unfold Func.isWrapper; first | (rw [if_pos (by decide +kernel)]; kernel_rfl) | (rw [if_neg (by decide +kernel)]; exact ⟨rfl, rfl⟩))
    (fun os started H enc _ => lifted os started H enc)
theorem proved : Rows.FnExactSameRigSaid := over
#print axioms proved
end Go.Proofs.Ytbhijlhlopljmaa.fnExactSameRig
namespace Go.Proofs.Ytbhijlhlopljmaa
/-- The row, under a short name, for the claim. -/
theorem fnExactSameRig_holds : Rows.FnExactSameRigSaid := fnExactSameRig.proved
end Go.Proofs.Ytbhijlhlopljmaa
