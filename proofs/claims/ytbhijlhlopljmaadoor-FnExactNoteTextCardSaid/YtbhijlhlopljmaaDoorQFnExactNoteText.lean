/-
  Written by a program of this session (wip/tools/lims.py): the printed functions without their bound on rounds.
-/
import Derived.Test.YtbhijlhlopljmaaDoorPFnExactNoteTextx1
import Derived.Test.YtbhijlhlopljmaaDoorKit
set_option linter.unusedVariables false
set_option linter.unusedSimpArgs false
namespace Go.Proofs.YtbhijlhlopljmaaDoor.PFnExactNoteText
open Go.RowKit Go.Proofs.YtbhijlhlopljmaaDoor.Kit Go.Proofs.YtbhijlhlopljmaaDoorW.PrintWords Go.Proofs.YtbhijlhlopljmaaDoorW.PrintLast Go.Proofs.YtbhijlhlopljmaaDoorW.PrintMore

noncomputable def spec_l01Dec.L0 (x0 : Int) (x3 : List Int) (x4 : Int) : Option (ByteArray) := lim (fun k => spec_l01Dec.l0 k x0 x3 x4)
theorem spec_l01Dec.L0_lim (x0 : Int) (x3 : List Int) (x4 : Int) : Lim (fun k => spec_l01Dec.l0 k x0 x3 x4) (spec_l01Dec.L0 x0 x3 x4) := Lim.of (fun k => (spec_l01Dec.mono_l k) x0 x3 x4)
noncomputable def spec_l01Dec.F (a0 : Int) : Option (ByteArray) := lim (fun k => spec_l01Dec.f k a0)
theorem spec_l01Dec.F_lim (a0 : Int) : Lim (fun k => spec_l01Dec.f k a0) (spec_l01Dec.F a0) := Lim.of (fun k => spec_l01Dec.mono a0 k)
theorem spec_l01Dec.L0_eq (x0 : Int) (x3 : List Int) (x4 : Int) : spec_l01Dec.L0 x0 x3 x4 = if x4 = 0 then (if (x3.length : Int) = 0 then (some (⟨#[48]⟩ : ByteArray)) else (if x0 < 0 then (if 1 + (strOfNums x3).size ≤ 9223372036854775807 then (some ((⟨#[45]⟩ : ByteArray) ++ (strOfNums x3))) else (none)) else (some (strOfNums x3)))) else (if (Int.tmod x4 10) < 0 then ((some (([(wrap64 (48 + (wrap64 (-(Int.tmod x4 10))))) % 256] : List Int) : List Int)).bind fun y104 => (if y104.length + x3.length < 140737488355328 then (spec_l01Dec.L0 x0 (y104 ++ x3) (wrap64 (Int.tdiv x4 10))) else (none))) else ((some (([(wrap64 (48 + (Int.tmod x4 10))) % 256] : List Int) : List Int)).bind fun y110 => (if y110.length + x3.length < 140737488355328 then (spec_l01Dec.L0 x0 (y110 ++ x3) (wrap64 (Int.tdiv x4 10))) else (none)))) := by
  refine Lim.next (fun k => (spec_l01Dec.mono_l k) x0 x3 x4) ?_
  simp only [spec_l01Dec.l0]
  repeat' with_reducible first | exact Lim.const _ | exact spec_l01Dec.L0_lim _ _ _ | refine Lim.ite ?_ ?_ | refine Lim.bind ?_ (fun _ => ?_)
theorem spec_l01Dec.F_eq (a0 : Int) : spec_l01Dec.F a0 = spec_l01Dec.L0 a0 (([] : List Int)) a0 := by
  refine Lim.eq (g := fun k => spec_l01Dec.f k a0) ?_
  unfold spec_l01Dec.f
  repeat' with_reducible first | exact Lim.const _ | exact spec_l01Dec.L0_lim _ _ _ | refine Lim.ite ?_ ?_ | refine Lim.bind ?_ (fun _ => ?_)

noncomputable def spec_NoteText.F (a0_0 a0_1 : Int) : Option (ByteArray) := lim (fun k => spec_NoteText.f k a0_0 a0_1)
theorem spec_NoteText.F_lim (a0_0 a0_1 : Int) : Lim (fun k => spec_NoteText.f k a0_0 a0_1) (spec_NoteText.F a0_0 a0_1) := Lim.of (fun k => spec_NoteText.mono a0_0 a0_1 k)
theorem spec_NoteText.F_eq (a0_0 a0_1 : Int) : spec_NoteText.F a0_0 a0_1 = (some (([(⟨#[]⟩ : ByteArray), (⟨#[119, 111, 114, 100]⟩ : ByteArray), (⟨#[99, 111, 117, 110, 116]⟩ : ByteArray), (⟨#[110, 97, 109, 101]⟩ : ByteArray), (⟨#[110, 117, 109, 98, 101, 114]⟩ : ByteArray), (⟨#[116, 119, 105, 99, 101]⟩ : ByteArray), (⟨#[110, 111, 110, 101]⟩ : ByteArray), (⟨#[116, 97, 107, 101, 110]⟩ : ByteArray), (⟨#[102, 117, 108, 108]⟩ : ByteArray)] : List ByteArray) : List ByteArray)).bind fun y117 => ((spec_l00In.f a0_0 1 3001).bind fun t120 => (if t120 = true then ((spec_l00In.f a0_1 1 8).bind fun t121 => (if t121 = true then ((spec_l01Dec.F a0_0).bind fun t122 => (if t122.size + 2 ≤ 9223372036854775807 then (if 0 ≤ a0_1 then (if a0_1 < (y117.length : Int) then (if t122.size + 2 + (rdOf ByteArray.empty y117 a0_1).size ≤ 9223372036854775807 then (some ((t122 ++ (⟨#[58, 32]⟩ : ByteArray)) ++ (rdOf ByteArray.empty y117 a0_1))) else (none)) else (none)) else (none)) else (none))) else (some (⟨#[]⟩ : ByteArray)))) else (some (⟨#[]⟩ : ByteArray)))) := by
  refine Lim.eq (g := fun k => spec_NoteText.f k a0_0 a0_1) ?_
  unfold spec_NoteText.f
  repeat' with_reducible first | exact Lim.const _ | exact spec_l01Dec.F_lim _ | refine Lim.ite ?_ ?_ | refine Lim.bind ?_ (fun _ => ?_)

noncomputable def laws_FnExactNoteText.F (a0_0 a0_1 : Int) : Option (Bool) := lim (fun k => laws_FnExactNoteText.f k a0_0 a0_1)
theorem laws_FnExactNoteText.F_lim (a0_0 a0_1 : Int) : Lim (fun k => laws_FnExactNoteText.f k a0_0 a0_1) (laws_FnExactNoteText.F a0_0 a0_1) := Lim.of (fun k => laws_FnExactNoteText.mono a0_0 a0_1 k)
theorem laws_FnExactNoteText.F_eq (a0_0 a0_1 : Int) : laws_FnExactNoteText.F a0_0 a0_1 = (laws_toNote.f a0_0 a0_1).bind fun bt137 => ((spec_NoteText.F bt137.1 bt137.2).bind fun t139 => ((laws_toNote.f a0_0 a0_1).bind fun bt140 => ((impl_NoteText.f bt140.1 bt140.2).bind fun t142 => (if t142.toList = t139.toList then (some true) else (some false))))) := by
  refine Lim.eq (g := fun k => laws_FnExactNoteText.f k a0_0 a0_1) ?_
  unfold laws_FnExactNoteText.f
  repeat' with_reducible first | exact Lim.const _ | exact spec_NoteText.F_lim _ _ | refine Lim.ite ?_ ?_ | refine Lim.bind ?_ (fun _ => ?_)

end Go.Proofs.YtbhijlhlopljmaaDoor.PFnExactNoteText
