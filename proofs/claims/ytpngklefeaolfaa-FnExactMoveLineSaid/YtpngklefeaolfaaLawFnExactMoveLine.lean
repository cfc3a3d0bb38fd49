-- Written by a program of this session (wip/tools/pp.sh).
import Derived.Test.YtpngklefeaolfaaRows
import Derived.Test.YtpngklefeaolfaaPFnExactMoveLinex15
import Derived.Test.YtpngklefeaolfaaPureFnExactMoveLine
import Derived.Test.YtpngklefeaolfaaOpen
import Derived.WalkKit
import Derived.ProofKit
import Derived.OpenShut
import Derived.ShutString
import Derived.ChangeOld
import Derived.Below
import Derived.SizedLaws
namespace Go.Proofs.Ytpngklefeaolfaa.fnExactMoveLine
open Go.ChangeShapes Go.WideShapes Go.ChangeAt Go.RowKit Go.Proofs.Ytpngklefeaolfaa.Open Go.Proofs.Ytpngklefeaolfaa.PFnExactMoveLine Go.Proofs.YtpngklefeaolfaaW.PrintWords
open Go.ChangeMaps (open_string shut_string)
set_option linter.unusedVariables false
theorem own : ownKnob Try.prog.godebug = none := by kernel_rfl
theorem laidOut : laidOutB Try.prog = true := by kernel_rfl
theorem op92 : Opens Try.prog 92 k92 (fun x : S92 => (x.f0.size ≤ 9223372036854775807) ∧ (x.f1.size ≤ 9223372036854775807) ∧ ((Lit.int .i64 x.f2).wf = true)) := by
  have h := opens_struct (P := Try.prog) (t := 92) (d := (Kd.pair Kd.string (Kd.pair Kd.string (Kd.int .i64)))) (good := fun p => (p.1.size ≤ 9223372036854775807) ∧ (p.2.1.size ≤ 9223372036854775807) ∧ ((Lit.int .i64 p.2.2).wf = true)) (fun x : S92 => (x.f0, x.f1, x.f2)) (fun p => (⟨p.1, p.2.1, p.2.2⟩ : S92)) (fun _ => rfl) Try.underlying92 (by kernel_rfl) (opensAt_cons rfl (by kernel_rfl) (opens_string Try.underlying9) (opensAt_cons rfl (by kernel_rfl) (opens_string Try.underlying9) (opensAt_last rfl (by kernel_rfl) (opens_int Try.underlying2))))
  exact h
theorem op55 : Opens Try.prog 55 k55 (fun x : S55 => (x.f0.size ≤ 9223372036854775807) ∧ (x.f1.size ≤ 9223372036854775807) ∧ ((Lit.int .i64 x.f2).wf = true)) := by
  have h := opens_struct (P := Try.prog) (t := 55) (d := (Kd.pair Kd.string (Kd.pair Kd.string (Kd.int .i64)))) (good := fun p => (p.1.size ≤ 9223372036854775807) ∧ (p.2.1.size ≤ 9223372036854775807) ∧ ((Lit.int .i64 p.2.2).wf = true)) (fun x : S55 => (x.f0, x.f1, x.f2)) (fun p => (⟨p.1, p.2.1, p.2.2⟩ : S55)) (fun _ => rfl) Try.underlying55 (by kernel_rfl) (opensAt_cons rfl (by kernel_rfl) (opens_string Try.underlying9) (opensAt_cons rfl (by kernel_rfl) (opens_string Try.underlying9) (opensAt_last rfl (by kernel_rfl) (opens_int Try.underlying2))))
  exact h
theorem op26 : Opens Try.prog 26 k26 (fun x : S26 => (x.f0.length ≤ 9223372036854775807 ∧ ∀ y0 ∈ x.f0, (y0.f0.size ≤ 9223372036854775807) ∧ (y0.f1.size ≤ 9223372036854775807) ∧ ((Lit.int .i64 y0.f2).wf = true)) ∧ (x.f1.length ≤ 9223372036854775807 ∧ ∀ y0 ∈ x.f1, y0.size ≤ 9223372036854775807) ∧ (x.f2.length ≤ 9223372036854775807 ∧ ∀ y0 ∈ x.f2, (y0.f0.size ≤ 9223372036854775807) ∧ (y0.f1.size ≤ 9223372036854775807) ∧ ((Lit.int .i64 y0.f2).wf = true))) := by
  have h := opens_struct (P := Try.prog) (t := 26) (d := (Kd.pair (Kd.slice 92 k92) (Kd.pair (Kd.slice 9 Kd.string) (Kd.slice 55 k55)))) (good := fun p => (p.1.length ≤ 9223372036854775807 ∧ ∀ y0 ∈ p.1, (y0.f0.size ≤ 9223372036854775807) ∧ (y0.f1.size ≤ 9223372036854775807) ∧ ((Lit.int .i64 y0.f2).wf = true)) ∧ (p.2.1.length ≤ 9223372036854775807 ∧ ∀ y0 ∈ p.2.1, y0.size ≤ 9223372036854775807) ∧ (p.2.2.length ≤ 9223372036854775807 ∧ ∀ y0 ∈ p.2.2, (y0.f0.size ≤ 9223372036854775807) ∧ (y0.f1.size ≤ 9223372036854775807) ∧ ((Lit.int .i64 y0.f2).wf = true))) (fun x : S26 => (x.f0, x.f1, x.f2)) (fun p => (⟨p.1, p.2.1, p.2.2⟩ : S26)) (fun _ => rfl) Try.underlying26 (by kernel_rfl) (opensAt_cons rfl (by kernel_rfl) (opens_slice Try.underlying22 (by kernel_rfl) op92) (opensAt_cons rfl (by kernel_rfl) (opens_slice Try.underlying23 (by kernel_rfl) (opens_string Try.underlying9)) (opensAt_last rfl (by kernel_rfl) (opens_slice Try.underlying24 (by kernel_rfl) op55))))
  exact h
set_option maxRecDepth 100000 in
theorem lifted (os : Os) (started : os.Started) (H : Type) (enc : TypeId × Value → H) :
    ReturnsInHanded {} Try.checked os 9 .any (Rows.fnExactMoveLineSpec.pre6 enc Try.prog Try.f9 Rows.fnExactMoveLineRow.domain false) (Rows.fnExactMoveLineSpec.post enc Try.prog Try.f9 false true false false) := by
  refine returnsInHanded_of_change_sized (C := Try.checked) own started (by kernel_rfl) Try.func9
    (ChangeSpec.witness6 (enc := enc) (C := Try.checked) false ⟨#[], #[(.agg #[(.slice none 0 0), (.slice none 0 0), (.slice none 0 0)]), (.agg #[(.string ⟨#[]⟩), (.string ⟨#[]⟩), (.int .i64 0)])], []⟩ 8 (by kernel_rfl) (by kernel_rfl) (by kernel_rfl) (by kernel_rfl)) ?_
  intro W base args ds gs before hval0 hW hcnd hsz0 _
  have hval : ∀ (j : Nat) t v, Try.f9.params[j]? = some t → args[j]? = some v → Value.okWide Try.prog W .any base t v := hval0
  have hW' := hW
  obtain ⟨p, q, hA0, hV, rfl, hfz, hnd⟩ := hW
  have hA : DataW.TrodAll enc Try.prog W 0 (fun _ => true) true Try.f9.params.toList args.toList ds p := hA0
  rw [Try.params9] at hA hval
  obtain ⟨v0, vs0, d0, ds0, p0, q0, hargs, rfl, rfl, h0, r0⟩ := trodAll_cons hA
  obtain ⟨v1, vs1, d1, ds1, p1, q1, rfl, rfl, rfl, h1, r1⟩ := trodAll_cons r0
  obtain ⟨rfl, rfl, rfl⟩ := trodAll_nil r1
  obtain rfl : args = #[v0, v1] := by cases args; simp_all
  obtain ⟨rfl, rfl⟩ := trodVars_none hV
  have k0 := h0
  have lt0 : ∀ x ∈ p0, x.block < W.heap.size := by obtain ⟨m, hm⟩ := k0; exact DataW.trod_lt m _ _ _ hm
  obtain ⟨cs0, a0, rfl, hK0, hg0⟩ := struct_arg Try.underlying26 op26 (hval 0 26 v0 rfl rfl) h0
  obtain ⟨A0_0, c0_0, A0_1, c0_1, A0_2, c0_2, rfl, hc0_0, hC0_0, hc0_1, hC0_1, hc0_2, hC0_2⟩ := k26_open hK0
  have k1 := h1
  have lt1 : ∀ x ∈ p1, x.block < W.heap.size := by obtain ⟨m, hm⟩ := k1; exact DataW.trod_lt m _ _ _ hm
  obtain ⟨cs1, a1, rfl, hK1, hg1⟩ := struct_arg Try.underlying55 op55 (hval 1 55 v1 rfl rfl) h1
  obtain rfl := k55_open hK1
  obtain ⟨k, hp⟩ := Pure.FnExactMoveLine a0.f0 a0.f1 a0.f2 a1.f0 a1.f1 a1.f2 hg0.1 hg0.2.1 hg0.2.2 hg1.1 hg1.2.1 hg1.2.2
  clear hA0 hval0 hsz0
  refine (laws_FnExactMoveLine.calls k A0_0 c0_0 a0.f0 A0_1 c0_1 a0.f1 A0_2 c0_2 a0.f2 a1.f0 a1.f1 a1.f2 true W hC0_0 hc0_0 hC0_1 hc0_1 hC0_2 hc0_2 rfl hp).mono fun e W' ⟨he, bel0⟩ => ?_
  have bel : Below W.heap.size W W' := bel0
  subst he
  exact ⟨_, rfl, _, _, _, [], _, [], hW', trodAll_mk1 (shut_bool Try.underlying4 _), (trodAll_cons_mk (Below.trod laidOut (by kernel_rfl) (of_decide_eq_true (by kernel_rfl)) k0 bel lt0) (trodAll_cons_mk (Below.trod laidOut (by kernel_rfl) (of_decide_eq_true (by kernel_rfl)) k1 bel lt1) trodAll_mk0)), rfl, bel.frame _, fun h => by cases h⟩
theorem over : Rows.fnExactMoveLineRow.holds Try.pinned (OpenSpec.ofChange Rows.fnExactMoveLineSpec) :=
  OpenClaim.holds_of_wide 9 Try.f9 rfl rfl rfl rfl rfl rfl rfl ⟨rfl, rfl, rfl, rfl, rfl⟩ rfl rfl rfl rfl rfl (by kernel_rfl) Try.func9 (by kernel_rfl)
    (of_decide_eq_true (by kernel_rfl)) (by unfold Func.isWrapper; first | (rw [if_pos (by decide +kernel)]; kernel_rfl) | (rw [if_neg (by decide +kernel)]; exact ⟨rfl, rfl⟩))
    (fun os started H enc _ => lifted os started H enc)
theorem proved : Rows.FnExactMoveLineSaid := over
#print axioms proved
end Go.Proofs.Ytpngklefeaolfaa.fnExactMoveLine
namespace Go.Proofs.Ytpngklefeaolfaa
/-- The row, under a short name, for the claim. -/
theorem fnExactMoveLine_holds : Rows.FnExactMoveLineSaid := fnExactMoveLine.proved
end Go.Proofs.Ytpngklefeaolfaa
