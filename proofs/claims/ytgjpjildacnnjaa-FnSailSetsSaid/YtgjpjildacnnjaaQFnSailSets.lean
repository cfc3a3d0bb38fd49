/-
  Written by a program of this session (wip/tools/lims.py): the printed functions without their bound on rounds.
-/
import Derived.Test.YtgjpjildacnnjaaPFnSailSetsx1
import Derived.Test.YtgjpjildacnnjaaPFnSailSetsx2
import Derived.Test.YtgjpjildacnnjaaPFnSailSetsx3
import Derived.Test.YtgjpjildacnnjaaPFnSailSetsx4
import Derived.Test.YtgjpjildacnnjaaPFnSailSetsx5
import Derived.Test.YtgjpjildacnnjaaPFnSailSetsx6
import Derived.Test.YtgjpjildacnnjaaPFnSailSetsx7
import Derived.Test.YtgjpjildacnnjaaPFnSailSetsx8
import Derived.Test.YtgjpjildacnnjaaKit
set_option linter.unusedVariables false
set_option linter.unusedSimpArgs false
namespace Go.Proofs.Ytgjpjildacnnjaa.PFnSailSets
open Go.RowKit Go.Proofs.Ytgjpjildacnnjaa.Kit Go.Proofs.YtgjpjildacnnjaaW.PrintWords Go.Proofs.YtgjpjildacnnjaaW.PrintLast Go.Proofs.YtgjpjildacnnjaaW.PrintMore

noncomputable def spec_l17Draw.J0 (u : List ByteArray) (o : List Int) (q s : Int) (b : List (S45)) (l n : Int) : Option ((List (S45)) × Int × Int × Int × Int) := lim (fun k => spec_l17Draw.j0 k u o q s b l n)
theorem spec_l17Draw.J0_lim (u : List ByteArray) (o : List Int) (q s : Int) (b : List (S45)) (l n : Int) : Lim (fun k => spec_l17Draw.j0 k u o q s b l n) (spec_l17Draw.J0 u o q s b l n) := Lim.of (fun k => (spec_l17Draw.mono_l k).1 u o q s b l n)
noncomputable def spec_l17Draw.L0 (u : List ByteArray) (x : Int) (o : List Int) (q s : Int) (b : List (S45)) (l n : Int) : Option ((List (S45)) × Int × Int × Int × Int) := lim (fun k => spec_l17Draw.l0 k u x o q s b l n)
theorem spec_l17Draw.L0_lim (u : List ByteArray) (x : Int) (o : List Int) (q s : Int) (b : List (S45)) (l n : Int) : Lim (fun k => spec_l17Draw.l0 k u x o q s b l n) (spec_l17Draw.L0 u x o q s b l n) := Lim.of (fun k => (spec_l17Draw.mono_l k).2 u x o q s b l n)
noncomputable def spec_l17Draw.F (b : List Int) (l n : Int) : Option ((List (S45)) × Int × Int × Int × Int) := lim (fun k => spec_l17Draw.f k b l n)
theorem spec_l17Draw.F_lim (b : List Int) (l n : Int) : Lim (fun k => spec_l17Draw.f k b l n) (spec_l17Draw.F b l n) := Lim.of (fun k => spec_l17Draw.mono b l n k)
theorem spec_l17Draw.J0_eq (x : List ByteArray) (o : List Int) (q s : Int) (b : List (S45)) (l n : Int) : spec_l17Draw.J0 x o q s b l n = (spec_l00Src_pick.f o q s 6).bind fun u => (spec_l17Draw.L0 x u.1 o u.2.1 u.2.2 b l n) := by
  refine Lim.next (fun k => (spec_l17Draw.mono_l k).1 x o q s b l n) ?_
  simp only [spec_l17Draw.j0]
  repeat' with_reducible first | exact Lim.const _ | exact spec_l17Draw.L0_lim _ _ _ _ _ _ _ _ | refine Lim.ite ?_ ?_ | refine Lim.bind ?_ (fun _ => ?_)
theorem spec_l17Draw.L0_eq (x : List ByteArray) (y : Int) (q : List Int) (s u : Int) (b : List (S45)) (l n : Int) : spec_l17Draw.L0 x y q s u b l n = if y > 0 then (if 0 ≤ (b.length : Int) then (if (b.length : Int) < (x.length : Int) then ((spec_l17New.f q s u (rdOf ByteArray.empty x (b.length : Int))).bind fun o => (if b.length < 2932031007402 then (spec_l17Draw.L0 x (wrap64 (y - 1)) q o.2.2.2.1 o.2.2.2.2 (b ++ [(⟨o.1, o.2.1, o.2.2.1⟩ : S45)]) l n) else (none))) else (none)) else (none)) else (some (b, l, n, s, u)) := by
  refine Lim.next (fun k => (spec_l17Draw.mono_l k).2 x y q s u b l n) ?_
  simp only [spec_l17Draw.l0]
  repeat' with_reducible first | exact Lim.const _ | exact spec_l17Draw.L0_lim _ _ _ _ _ _ _ _ | refine Lim.ite ?_ ?_ | refine Lim.bind ?_ (fun _ => ?_)
theorem spec_l17Draw.F_eq (b : List Int) (s u : Int) : spec_l17Draw.F b s u = (some (([(⟨#[106, 105, 98]⟩ : ByteArray), (⟨#[109, 97, 105, 110]⟩ : ByteArray), (⟨#[109, 105, 122, 122, 101, 110]⟩ : ByteArray), (⟨#[116, 111, 112, 115, 97, 105, 108]⟩ : ByteArray), (⟨#[102, 111, 114, 101, 45, 50]⟩ : ByteArray)] : List ByteArray) : List ByteArray)).bind fun x => ((some (([] : List (S45)) : List (S45))).bind fun y => ((spec_l00Src_pick.f b s u 400).bind fun l => ((spec_l00Src_pick.f b l.2.1 l.2.2 (wrap64 ((wrap64 (200 + l.1)) + 1))).bind fun o => ((spec_l00Src_one.f b o.2.1 o.2.2 2).bind fun n => (if n.1 = true then ((spec_l00Src_pick.f b n.2.1 n.2.2 80).bind fun q => ((spec_l00Min.f (wrap64 (200 + l.1)) (wrap64 (60 + q.1))).bind fun z => (spec_l17Draw.J0 x b q.2.1 q.2.2 y z (wrap64 (200 + l.1))))) else (spec_l17Draw.J0 x b n.2.1 n.2.2 y o.1 (wrap64 (200 + l.1)))))))) := by
  refine Lim.eq (g := fun k => spec_l17Draw.f k b s u) ?_
  unfold spec_l17Draw.f
  repeat' with_reducible first | exact Lim.const _ | exact spec_l17Draw.J0_lim _ _ _ _ _ _ _ | refine Lim.ite ?_ ?_ | refine Lim.bind ?_ (fun _ => ?_)

noncomputable def spec_l17Bent.L0 (u : Int) (o : List Int) (q s : Int) (b : List (S45)) (l n : Int) : Option ((List (S45)) × Int × Int × Int × Int) := lim (fun k => spec_l17Bent.l0 k u o q s b l n)
theorem spec_l17Bent.L0_lim (u : Int) (o : List Int) (q s : Int) (b : List (S45)) (l n : Int) : Lim (fun k => spec_l17Bent.l0 k u o q s b l n) (spec_l17Bent.L0 u o q s b l n) := Lim.of (fun k => (spec_l17Bent.mono_l k) u o q s b l n)
noncomputable def spec_l17Bent.F (b : List Int) (l n : Int) : Option ((List (S45)) × Int × Int × Int × Int) := lim (fun k => spec_l17Bent.f k b l n)
theorem spec_l17Bent.F_lim (b : List Int) (l n : Int) : Lim (fun k => spec_l17Bent.f k b l n) (spec_l17Bent.F b l n) := Lim.of (fun k => spec_l17Bent.mono b l n k)
theorem spec_l17Bent.L0_eq (y : Int) (q : List Int) (s u : Int) (b : List (S45)) (l n : Int) : spec_l17Bent.L0 y q s u b l n = if y > 0 then ((some (([(97 + (((b.length : Int)) % 256)) % 256] : List Int) : List Int)).bind fun x => (if 1 + (strOfNums x).size ≤ 9223372036854775807 then ((spec_l17New.f q s u ((⟨#[115]⟩ : ByteArray) ++ (strOfNums x))).bind fun o => (if b.length < 2932031007402 then (spec_l17Bent.L0 (wrap64 (y - 1)) q o.2.2.2.1 o.2.2.2.2 (b ++ [(⟨o.1, o.2.1, o.2.2.1⟩ : S45)]) l n) else (none))) else (none))) else (some (b, l, n, s, u)) := by
  refine Lim.next (fun k => (spec_l17Bent.mono_l k) y q s u b l n) ?_
  simp only [spec_l17Bent.l0]
  repeat' with_reducible first | exact Lim.const _ | exact spec_l17Bent.L0_lim _ _ _ _ _ _ _ | refine Lim.ite ?_ ?_ | refine Lim.bind ?_ (fun _ => ?_)
theorem spec_l17Bent.F_eq (n : List Int) (z B : Int) : spec_l17Bent.F n z B = (spec_l17Draw.F n z B).bind fun b => ((spec_l00Src_pick.f n b.2.2.2.1 b.2.2.2.2 24).bind fun l => (if l.1 = 0 then ((spec_l00Src_among.f n l.2.1 l.2.2 (([0, 1, 5000, 5001, (-9223372036854775808)] : List Int))).bind fun q => (some (b.1, b.2.1, q.1, q.2.1, q.2.2))) else (if l.1 = 1 then ((spec_l00Src_among.f n l.2.1 l.2.2 (([(-1), 0, b.2.2.1, wrap64 (b.2.2.1 + 1)] : List Int))).bind fun s => (some (b.1, s.1, b.2.2.1, s.2.1, s.2.2))) else (if l.1 = 2 then ((spec_l00Src_text.f n l.2.1 l.2.2 (([(⟨#[]⟩ : ByteArray), (⟨#[74, 105, 98]⟩ : ByteArray), (⟨#[106, 105, 98]⟩ : ByteArray), (⟨#[114, 111, 121, 97, 108]⟩ : ByteArray)] : List ByteArray))).bind fun u => ((spec_l17New.f n u.2.1 u.2.2 u.1).bind fun o => (if b.1.length < 2932031007402 then (some ((b.1 ++ [(⟨o.1, o.2.1, o.2.2.1⟩ : S45)]), b.2.1, b.2.2.1, o.2.2.2.1, o.2.2.2.2)) else (none)))) else (if l.1 = 3 then ((spec_l13Bent.f n l.2.1 l.2.2).bind fun x => (if b.1.length < 2932031007402 then (some ((b.1 ++ [(⟨(⟨#[114, 111, 121, 97, 108]⟩ : ByteArray), x.1, false⟩ : S45)]), b.2.1, b.2.2.1, x.2.1, x.2.2)) else (none))) else (if l.1 = 4 then ((spec_l00Src_pick.f n l.2.1 l.2.2 2).bind fun y => (spec_l17Bent.L0 (wrap64 (8 + y.1)) n y.2.1 y.2.2 (([] : List (S45))) b.2.1 b.2.2.1)) else (some (b.1, b.2.1, b.2.2.1, l.2.1, l.2.2)))))))) := by
  refine Lim.eq (g := fun k => spec_l17Bent.f k n z B) ?_
  unfold spec_l17Bent.f
  repeat' with_reducible first | exact Lim.const _ | exact spec_l17Bent.L0_lim _ _ _ _ _ _ _ | exact spec_l17Draw.F_lim _ _ _ | refine Lim.ite ?_ ?_ | refine Lim.bind ?_ (fun _ => ?_)

noncomputable def spec_l17DrawRange.J0 (o : Int) (b : List Int) (l n : Int) : Option (Int × Int × Int × Int) := lim (fun k => spec_l17DrawRange.j0 k o b l n)
theorem spec_l17DrawRange.J0_lim (o : Int) (b : List Int) (l n : Int) : Lim (fun k => spec_l17DrawRange.j0 k o b l n) (spec_l17DrawRange.J0 o b l n) := Lim.of (fun k => (spec_l17DrawRange.mono_l k) o b l n)
noncomputable def spec_l17DrawRange.F (b : List Int) (l n : Int) : Option (Int × Int × Int × Int) := lim (fun k => spec_l17DrawRange.f k b l n)
theorem spec_l17DrawRange.F_lim (b : List Int) (l n : Int) : Lim (fun k => spec_l17DrawRange.f k b l n) (spec_l17DrawRange.F b l n) := Lim.of (fun k => spec_l17DrawRange.mono b l n k)
theorem spec_l17DrawRange.J0_eq (u : Int) (b : List Int) (n o : Int) : spec_l17DrawRange.J0 u b n o = (spec_l00Src_one.f b n o 10).bind fun l => (if l.1 = true then ((spec_l00Src_among.f b l.2.1 l.2.2 (([(-1001), u, 1000, 1001] : List Int))).bind fun q => (some (u, q.1, q.2.1, q.2.2))) else ((spec_l00Min.f 1000 u).bind fun x => ((spec_l00Max.f (-1000) x).bind fun y => ((spec_l00Src_pick.f b l.2.1 l.2.2 300).bind fun s => (some (u, wrap64 (y + s.1), s.2.1, s.2.2)))))) := by
  refine Lim.next (fun k => (spec_l17DrawRange.mono_l k) u b n o) ?_
  simp only [spec_l17DrawRange.j0]
  repeat' with_reducible first | exact Lim.const _ | refine Lim.ite ?_ ?_ | refine Lim.bind ?_ (fun _ => ?_)
theorem spec_l17DrawRange.F_eq (b : List Int) (q s : Int) : spec_l17DrawRange.F b q s = (spec_l00Src_pick.f b q s 400).bind fun n => ((spec_l00Src_one.f b n.2.1 n.2.2 10).bind fun l => (if l.1 = true then ((spec_l00Src_among.f b l.2.1 l.2.2 (([(-1001), (-1000), 1000, 1001, (-9223372036854775808)] : List Int))).bind fun o => (spec_l17DrawRange.J0 o.1 b o.2.1 o.2.2)) else (spec_l17DrawRange.J0 (wrap64 (n.1 - 200)) b l.2.1 l.2.2))) := by
  refine Lim.eq (g := fun k => spec_l17DrawRange.f k b q s) ?_
  unfold spec_l17DrawRange.f
  repeat' with_reducible first | exact Lim.const _ | exact spec_l17DrawRange.J0_lim _ _ _ _ | refine Lim.ite ?_ ?_ | refine Lim.bind ?_ (fun _ => ?_)

noncomputable def spec_DrawBestSails.F (l0 : List Int) : Option ((List (S45)) × Int × Int × Int × Int × Int) := lim (fun k => spec_DrawBestSails.f k l0)
theorem spec_DrawBestSails.F_lim (l0 : List Int) : Lim (fun k => spec_DrawBestSails.f k l0) (spec_DrawBestSails.F l0) := Lim.of (fun k => spec_DrawBestSails.mono l0 k)
theorem spec_DrawBestSails.F_eq (l0 : List Int) : spec_DrawBestSails.F l0 = (spec_l00From.f l0).bind fun b => ((spec_l17Bent.F b.1 b.2.1 b.2.2).bind fun l => ((spec_l00Src_pick.f b.1 l.2.2.2.1 l.2.2.2.2 400).bind fun o => ((spec_l00Src_one.f b.1 o.2.1 o.2.2 10).bind fun n => (if n.1 = true then ((spec_l00Src_among.f b.1 n.2.1 n.2.2 (([(-1), 0, 100000000, 100000001] : List Int))).bind fun q => ((spec_l17DrawRange.F b.1 q.2.1 q.2.2).bind fun s => (some (l.1, l.2.1, l.2.2.1, q.1, s.1, s.2.1)))) else ((spec_l17DrawRange.F b.1 n.2.1 n.2.2).bind fun u => (some (l.1, l.2.1, l.2.2.1, wrap64 (500 * o.1), u.1, u.2.1))))))) := by
  refine Lim.eq (g := fun k => spec_DrawBestSails.f k l0) ?_
  unfold spec_DrawBestSails.f
  repeat' with_reducible first | exact Lim.const _ | exact spec_l17Bent.F_lim _ _ _ | exact spec_l17DrawRange.F_lim _ _ _ | refine Lim.ite ?_ ?_ | refine Lim.bind ?_ (fun _ => ?_)

noncomputable def impl_IsName.J0 (l : ByteArray) (b : Bool) : Option (Bool) := lim (fun k => impl_IsName.j0 k l b)
theorem impl_IsName.J0_lim (l : ByteArray) (b : Bool) : Lim (fun k => impl_IsName.j0 k l b) (impl_IsName.J0 l b) := Lim.of (fun k => (impl_IsName.mono_l k).1 l b)
noncomputable def impl_IsName.L0 (b : ByteArray) (l : Int) : Option (Bool) := lim (fun k => impl_IsName.l0 k b l)
theorem impl_IsName.L0_lim (b : ByteArray) (l : Int) : Lim (fun k => impl_IsName.l0 k b l) (impl_IsName.L0 b l) := Lim.of (fun k => (impl_IsName.mono_l k).2 b l)
noncomputable def impl_IsName.F (b : ByteArray) : Option (Bool) := lim (fun k => impl_IsName.f k b)
theorem impl_IsName.F_lim (b : ByteArray) : Lim (fun k => impl_IsName.f k b) (impl_IsName.F b) := Lim.of (fun k => impl_IsName.mono b k)
theorem impl_IsName.J0_eq (l : ByteArray) (b : Bool) : impl_IsName.J0 l b = if b = true then (some false) else (impl_IsName.L0 l 0) := by
  refine Lim.next (fun k => (impl_IsName.mono_l k).1 l b) ?_
  simp only [impl_IsName.j0]
  repeat' with_reducible first | exact Lim.const _ | exact impl_IsName.L0_lim _ _ | refine Lim.ite ?_ ?_ | refine Lim.bind ?_ (fun _ => ?_)
theorem impl_IsName.L0_eq (l : ByteArray) (b : Int) : impl_IsName.L0 l b = if b < (l.size : Int) then (if 0 ≤ b then (if (bt l b) < 97 then (if (bt l b) < 48 then (if (bt l b) = 45 then (impl_IsName.L0 l (wrap64 (b + 1))) else (some false)) else (if (bt l b) > 57 then (if (bt l b) = 45 then (impl_IsName.L0 l (wrap64 (b + 1))) else (some false)) else (impl_IsName.L0 l (wrap64 (b + 1))))) else (if (bt l b) > 122 then (if (bt l b) < 48 then (if (bt l b) = 45 then (impl_IsName.L0 l (wrap64 (b + 1))) else (some false)) else (if (bt l b) > 57 then (if (bt l b) = 45 then (impl_IsName.L0 l (wrap64 (b + 1))) else (some false)) else (impl_IsName.L0 l (wrap64 (b + 1))))) else (impl_IsName.L0 l (wrap64 (b + 1))))) else (none)) else (some true) := by
  refine Lim.next (fun k => (impl_IsName.mono_l k).2 l b) ?_
  simp only [impl_IsName.l0]
  repeat' with_reducible first | exact Lim.const _ | exact impl_IsName.L0_lim _ _ | refine Lim.ite ?_ ?_ | refine Lim.bind ?_ (fun _ => ?_)
theorem impl_IsName.F_eq (b : ByteArray) : impl_IsName.F b = if (b.size : Int) < 1 then (impl_IsName.J0 b true) else (if (b.size : Int) > 12 then (impl_IsName.J0 b true) else (if 0 < (b.size : Int) then (if (bt b 0) < 97 then (impl_IsName.J0 b true) else (impl_IsName.J0 b (decide ((bt b 0) > 122)))) else (none))) := by
  refine Lim.eq (g := fun k => impl_IsName.f k b) ?_
  unfold impl_IsName.f
  repeat' with_reducible first | exact Lim.const _ | exact impl_IsName.J0_lim _ _ | refine Lim.ite ?_ ?_ | refine Lim.bind ?_ (fun _ => ?_)

noncomputable def impl_twiceSail.L0 (b : List (S70)) (l : Int) (n : List (S70)) (o q : Int) : Option (Int) := lim (fun k => impl_twiceSail.l0 k b l n o q)
theorem impl_twiceSail.L0_lim (b : List (S70)) (l : Int) (n : List (S70)) (o q : Int) : Lim (fun k => impl_twiceSail.l0 k b l n o q) (impl_twiceSail.L0 b l n o q) := Lim.of (fun k => (impl_twiceSail.mono_l k) b l n o q)
noncomputable def impl_twiceSail.F (l0 : List (S70)) : Option (Int) := lim (fun k => impl_twiceSail.f k l0)
theorem impl_twiceSail.F_lim (l0 : List (S70)) : Lim (fun k => impl_twiceSail.f k l0) (impl_twiceSail.F l0) := Lim.of (fun k => impl_twiceSail.mono l0 k)
theorem impl_twiceSail.L0_eq (l : List (S70)) (o : Int) (n : List (S70)) (q b : Int) : impl_twiceSail.L0 l o n q b = if b < q then (if 0 ≤ b then (if b < (n.length : Int) then (if (l.length : Int) = 0 then (none) else (if 0 ≤ (Int.tmod (wrap64 (b + 1)) (l.length : Int)) then (if (Int.tmod (wrap64 (b + 1)) (l.length : Int)) < (l.length : Int) then (impl_twiceSail.L0 l (wrap64 (o + (wrap64 ((wrap64 (((rd_T70 n b).f0) * ((rd_T70 l (Int.tmod (wrap64 (b + 1)) (l.length : Int))).f1))) - (wrap64 (((rd_T70 l (Int.tmod (wrap64 (b + 1)) (l.length : Int))).f0) * ((rd_T70 n b).f1))))))) n q (wrap64 (b + 1))) else (none)) else (none))) else (none)) else (none)) else (some o) := by
  refine Lim.next (fun k => (impl_twiceSail.mono_l k) l o n q b) ?_
  simp only [impl_twiceSail.l0]
  repeat' with_reducible first | exact Lim.const _ | exact impl_twiceSail.L0_lim _ _ _ _ _ | refine Lim.ite ?_ ?_ | refine Lim.bind ?_ (fun _ => ?_)
theorem impl_twiceSail.F_eq (l0 : List (S70)) : impl_twiceSail.F l0 = impl_twiceSail.L0 l0 0 l0 (l0.length : Int) 0 := by
  refine Lim.eq (g := fun k => impl_twiceSail.f k l0) ?_
  unfold impl_twiceSail.f
  repeat' with_reducible first | exact Lim.const _ | exact impl_twiceSail.L0_lim _ _ _ _ _ | refine Lim.ite ?_ ?_ | refine Lim.bind ?_ (fun _ => ?_)

noncomputable def impl_edgesMeet.J0 (E y z B : Int) (D : Bool) (b l n o q s u x : Int) : Option (Bool) := lim (fun k => impl_edgesMeet.j0 k E y z B D b l n o q s u x)
theorem impl_edgesMeet.J0_lim (E y z B : Int) (D : Bool) (b l n o q s u x : Int) : Lim (fun k => impl_edgesMeet.j0 k E y z B D b l n o q s u x) (impl_edgesMeet.J0 E y z B D b l n o q s u x) := Lim.of (fun k => (impl_edgesMeet.mono_l k) E y z B D b l n o q s u x)
noncomputable def impl_edgesMeet.F (b l n o q s u x : Int) : Option (Bool) := lim (fun k => impl_edgesMeet.f k b l n o q s u x)
theorem impl_edgesMeet.F_lim (b l n o q s u x : Int) : Lim (fun k => impl_edgesMeet.f k b l n o q s u x) (impl_edgesMeet.F b l n o q s u x) := Lim.of (fun k => impl_edgesMeet.mono b l n o q s u x k)
theorem impl_edgesMeet.J0_eq (E B z y : Int) (D : Bool) (u x q s n o b l : Int) : impl_edgesMeet.J0 E B z y D u x q s n o b l = if D = true then (some true) else (if E = 0 then ((impl_between.f u x q s n o).bind fun I => (if I = true then (some true) else (if B = 0 then ((impl_between.f u x q s b l).bind fun O => (if O = true then (some true) else (if z = 0 then ((impl_between.f n o b l u x).bind fun U => (if U = true then (some true) else (if y = 0 then ((impl_between.f n o b l q s).bind fun X => (some X)) else (some false)))) else (if y = 0 then ((impl_between.f n o b l q s).bind fun Y => (some Y)) else (some false))))) else (if z = 0 then ((impl_between.f n o b l u x).bind fun Z => (if Z = true then (some true) else (if y = 0 then ((impl_between.f n o b l q s).bind fun aa => (some aa)) else (some false)))) else (if y = 0 then ((impl_between.f n o b l q s).bind fun ab => (some ab)) else (some false)))))) else (if B = 0 then ((impl_between.f u x q s b l).bind fun ac => (if ac = true then (some true) else (if z = 0 then ((impl_between.f n o b l u x).bind fun ad => (if ad = true then (some true) else (if y = 0 then ((impl_between.f n o b l q s).bind fun ae => (some ae)) else (some false)))) else (if y = 0 then ((impl_between.f n o b l q s).bind fun af => (some af)) else (some false))))) else (if z = 0 then ((impl_between.f n o b l u x).bind fun ag => (if ag = true then (some true) else (if y = 0 then ((impl_between.f n o b l q s).bind fun ah => (some ah)) else (some false)))) else (if y = 0 then ((impl_between.f n o b l q s).bind fun ai => (some ai)) else (some false))))) := by
  refine Lim.next (fun k => (impl_edgesMeet.mono_l k) E B z y D u x q s n o b l) ?_
  simp only [impl_edgesMeet.j0]
  repeat' with_reducible first | exact Lim.const _ | refine Lim.ite ?_ ?_ | refine Lim.bind ?_ (fun _ => ?_)
theorem impl_edgesMeet.F_eq (b l n o q s u x : Int) : impl_edgesMeet.F b l n o q s u x = (impl_turnAt.f b l n o q s).bind fun y => ((impl_turnAt.f b l n o u x).bind fun z => ((impl_turnAt.f q s u x b l).bind fun B => ((impl_turnAt.f q s u x n o).bind fun D => ((impl_sign.f y).bind fun E => ((impl_sign.f z).bind fun I => (if (wrap64 (E * I)) < 0 then ((impl_sign.f B).bind fun O => ((impl_sign.f D).bind fun U => (impl_edgesMeet.J0 y z B D (decide ((wrap64 (O * U)) < 0)) b l n o q s u x))) else (impl_edgesMeet.J0 y z B D false b l n o q s u x))))))) := by
  refine Lim.eq (g := fun k => impl_edgesMeet.f k b l n o q s u x) ?_
  unfold impl_edgesMeet.f
  repeat' with_reducible first | exact Lim.const _ | exact impl_edgesMeet.J0_lim _ _ _ _ _ _ _ _ _ _ _ _ _ | refine Lim.ite ?_ ?_ | refine Lim.bind ?_ (fun _ => ?_)

noncomputable def impl_ValidSail.J0 (l : List (S70)) (n : Int) (b : Bool) : Option (Bool) := lim (fun k => impl_ValidSail.j0 k l n b)
theorem impl_ValidSail.J0_lim (l : List (S70)) (n : Int) (b : Bool) : Lim (fun k => impl_ValidSail.j0 k l n b) (impl_ValidSail.J0 l n b) := Lim.of (fun k => (impl_ValidSail.mono_l k).1 l n b)
noncomputable def impl_ValidSail.L0 (o : List (S70)) (q : Int) (b : List (S70)) (l n : Int) : Option (Bool) := lim (fun k => impl_ValidSail.l0 k o q b l n)
theorem impl_ValidSail.L0_lim (o : List (S70)) (q : Int) (b : List (S70)) (l n : Int) : Lim (fun k => impl_ValidSail.l0 k o q b l n) (impl_ValidSail.L0 o q b l n) := Lim.of (fun k => (impl_ValidSail.mono_l k).2.1 o q b l n)
noncomputable def impl_ValidSail.L1 (n : List (S70)) (o b l : Int) : Option (Bool) := lim (fun k => impl_ValidSail.l1 k n o b l)
theorem impl_ValidSail.L1_lim (n : List (S70)) (o b l : Int) : Lim (fun k => impl_ValidSail.l1 k n o b l) (impl_ValidSail.L1 n o b l) := Lim.of (fun k => (impl_ValidSail.mono_l k).2.2.1 n o b l)
noncomputable def impl_ValidSail.L2 (n : List (S70)) (o b l : Int) : Option (Bool) := lim (fun k => impl_ValidSail.l2 k n o b l)
theorem impl_ValidSail.L2_lim (n : List (S70)) (o b l : Int) : Lim (fun k => impl_ValidSail.l2 k n o b l) (impl_ValidSail.L2 n o b l) := Lim.of (fun k => (impl_ValidSail.mono_l k).2.2.2.1 n o b l)
noncomputable def impl_ValidSail.L3 (n : List (S70)) (o q s b l : Int) : Option (Bool) := lim (fun k => impl_ValidSail.l3 k n o q s b l)
theorem impl_ValidSail.L3_lim (n : List (S70)) (o q s b l : Int) : Lim (fun k => impl_ValidSail.l3 k n o q s b l) (impl_ValidSail.L3 n o q s b l) := Lim.of (fun k => (impl_ValidSail.mono_l k).2.2.2.2 n o q s b l)
noncomputable def impl_ValidSail.F (l0 : List (S70)) : Option (Bool) := lim (fun k => impl_ValidSail.f k l0)
theorem impl_ValidSail.F_lim (l0 : List (S70)) : Lim (fun k => impl_ValidSail.f k l0) (impl_ValidSail.F l0) := Lim.of (fun k => impl_ValidSail.mono l0 k)
theorem impl_ValidSail.J0_eq (b : List (S70)) (n : Int) (l : Bool) : impl_ValidSail.J0 b n l = if l = true then (some false) else (impl_ValidSail.L0 b n b (b.length : Int) 0) := by
  refine Lim.next (fun k => (impl_ValidSail.mono_l k).1 b n l) ?_
  simp only [impl_ValidSail.j0]
  repeat' with_reducible first | exact Lim.const _ | exact impl_ValidSail.L0_lim _ _ _ _ _ | refine Lim.ite ?_ ?_ | refine Lim.bind ?_ (fun _ => ?_)
theorem impl_ValidSail.L0_eq (o : List (S70)) (q : Int) (l : List (S70)) (n b : Int) : impl_ValidSail.L0 o q l n b = if b < n then (if 0 ≤ b then (if b < (l.length : Int) then ((impl_within.f ((rd_T70 l b).f0) 0 2000).bind fun s => (if s = true then ((impl_within.f ((rd_T70 l b).f1) 0 2000).bind fun u => (if u = true then (impl_ValidSail.L0 o q l n (wrap64 (b + 1))) else (some false))) else (some false))) else (none)) else (none)) else (impl_ValidSail.L1 o q (o.length : Int) 0) := by
  refine Lim.next (fun k => (impl_ValidSail.mono_l k).2.1 o q l n b) ?_
  simp only [impl_ValidSail.l0]
  repeat' with_reducible first | exact Lim.const _ | exact impl_ValidSail.L0_lim _ _ _ _ _ | exact impl_ValidSail.L1_lim _ _ _ _ | refine Lim.ite ?_ ?_ | refine Lim.bind ?_ (fun _ => ?_)
theorem impl_ValidSail.L1_eq (l : List (S70)) (n o b : Int) : impl_ValidSail.L1 l n o b = if b < o then (if 0 ≤ b then (if b < (l.length : Int) then (if n = 0 then (none) else (if 0 ≤ (Int.tmod (wrap64 (b + 1)) n) then (if (Int.tmod (wrap64 (b + 1)) n) < (l.length : Int) then (if 0 ≤ (Int.tmod (wrap64 (b + 2)) n) then (if (Int.tmod (wrap64 (b + 2)) n) < (l.length : Int) then ((impl_turnAt.f ((rd_T70 l b).f0) ((rd_T70 l b).f1) ((rd_T70 l (Int.tmod (wrap64 (b + 1)) n)).f0) ((rd_T70 l (Int.tmod (wrap64 (b + 1)) n)).f1) ((rd_T70 l (Int.tmod (wrap64 (b + 2)) n)).f0) ((rd_T70 l (Int.tmod (wrap64 (b + 2)) n)).f1)).bind fun q => (if q = 0 then (some false) else (impl_ValidSail.L1 l n o (wrap64 (b + 1))))) else (none)) else (none)) else (none)) else (none))) else (none)) else (none)) else (impl_ValidSail.L2 l n (l.length : Int) 0) := by
  refine Lim.next (fun k => (impl_ValidSail.mono_l k).2.2.1 l n o b) ?_
  simp only [impl_ValidSail.l1]
  repeat' with_reducible first | exact Lim.const _ | exact impl_ValidSail.L1_lim _ _ _ _ | exact impl_ValidSail.L2_lim _ _ _ _ | refine Lim.ite ?_ ?_ | refine Lim.bind ?_ (fun _ => ?_)
theorem impl_ValidSail.L2_eq (n : List (S70)) (o l b : Int) : impl_ValidSail.L2 n o l b = if b < l then (impl_ValidSail.L3 n o b (wrap64 (b + 2)) l b) else ((impl_twiceSail.F n).bind fun q => (some (decide (q > 0)))) := by
  refine Lim.next (fun k => (impl_ValidSail.mono_l k).2.2.2.1 n o l b) ?_
  simp only [impl_ValidSail.l2]
  repeat' with_reducible first | exact Lim.const _ | exact impl_ValidSail.L3_lim _ _ _ _ _ _ | exact impl_twiceSail.F_lim _ | refine Lim.ite ?_ ?_ | refine Lim.bind ?_ (fun _ => ?_)
theorem impl_ValidSail.L3_eq (b : List (S70)) (o n l q s : Int) : impl_ValidSail.L3 b o n l q s = if l < o then (if o = 0 then (none) else (if (Int.tmod (wrap64 (l + 1)) o) = n then (impl_ValidSail.L3 b o n (wrap64 (l + 1)) q s) else (if 0 ≤ n then (if n < (b.length : Int) then (if 0 ≤ (wrap64 (n + 1)) then (if (wrap64 (n + 1)) < (b.length : Int) then (if 0 ≤ l then (if l < (b.length : Int) then (if 0 ≤ (Int.tmod (wrap64 (l + 1)) o) then (if (Int.tmod (wrap64 (l + 1)) o) < (b.length : Int) then ((impl_edgesMeet.F ((rd_T70 b n).f0) ((rd_T70 b n).f1) ((rd_T70 b (wrap64 (n + 1))).f0) ((rd_T70 b (wrap64 (n + 1))).f1) ((rd_T70 b l).f0) ((rd_T70 b l).f1) ((rd_T70 b (Int.tmod (wrap64 (l + 1)) o)).f0) ((rd_T70 b (Int.tmod (wrap64 (l + 1)) o)).f1)).bind fun u => (if u = true then (some false) else (impl_ValidSail.L3 b o n (wrap64 (l + 1)) q s))) else (none)) else (none)) else (none)) else (none)) else (none)) else (none)) else (none)) else (none)))) else (impl_ValidSail.L2 b o q (wrap64 (s + 1))) := by
  refine Lim.next (fun k => (impl_ValidSail.mono_l k).2.2.2.2 b o n l q s) ?_
  simp only [impl_ValidSail.l3]
  repeat' with_reducible first | exact Lim.const _ | exact impl_ValidSail.L2_lim _ _ _ _ | exact impl_ValidSail.L3_lim _ _ _ _ _ _ | exact impl_edgesMeet.F_lim _ _ _ _ _ _ _ _ | refine Lim.ite ?_ ?_ | refine Lim.bind ?_ (fun _ => ?_)
theorem impl_ValidSail.F_eq (l0 : List (S70)) : impl_ValidSail.F l0 = if (l0.length : Int) < 3 then (impl_ValidSail.J0 l0 (l0.length : Int) true) else (impl_ValidSail.J0 l0 (l0.length : Int) (decide ((l0.length : Int) > 8))) := by
  refine Lim.eq (g := fun k => impl_ValidSail.f k l0) ?_
  unfold impl_ValidSail.f
  repeat' with_reducible first | exact Lim.const _ | exact impl_ValidSail.J0_lim _ _ _ | refine Lim.ite ?_ ?_ | refine Lim.bind ?_ (fun _ => ?_)

noncomputable def impl_ValidPlan.J0 (o : Bool) (b : List (S45)) (l n : Int) : Option (Bool) := lim (fun k => impl_ValidPlan.j0 k o b l n)
theorem impl_ValidPlan.J0_lim (o : Bool) (b : List (S45)) (l n : Int) : Lim (fun k => impl_ValidPlan.j0 k o b l n) (impl_ValidPlan.J0 o b l n) := Lim.of (fun k => (impl_ValidPlan.mono_l k).1 o b l n)
noncomputable def impl_ValidPlan.L0 (o : List (S45)) (q s : Int) (b : List (S45)) (l n : Int) : Option (Bool) := lim (fun k => impl_ValidPlan.l0 k o q s b l n)
theorem impl_ValidPlan.L0_lim (o : List (S45)) (q s : Int) (b : List (S45)) (l n : Int) : Lim (fun k => impl_ValidPlan.l0 k o q s b l n) (impl_ValidPlan.L0 o q s b l n) := Lim.of (fun k => (impl_ValidPlan.mono_l k).2 o q s b l n)
noncomputable def impl_ValidPlan.F (b : List (S45)) (l n : Int) : Option (Bool) := lim (fun k => impl_ValidPlan.f k b l n)
theorem impl_ValidPlan.F_lim (b : List (S45)) (l n : Int) : Lim (fun k => impl_ValidPlan.f k b l n) (impl_ValidPlan.F b l n) := Lim.of (fun k => impl_ValidPlan.mono b l n k)
theorem impl_ValidPlan.J0_eq (o : Bool) (b : List (S45)) (l n : Int) : impl_ValidPlan.J0 o b l n = if o = true then (some false) else (impl_ValidPlan.L0 b (b.length : Int) 0 b l n) := by
  refine Lim.next (fun k => (impl_ValidPlan.mono_l k).1 o b l n) ?_
  simp only [impl_ValidPlan.j0]
  repeat' with_reducible first | exact Lim.const _ | exact impl_ValidPlan.L0_lim _ _ _ _ _ _ | refine Lim.ite ?_ ?_ | refine Lim.bind ?_ (fun _ => ?_)
theorem impl_ValidPlan.L0_eq (q : List (S45)) (s l : Int) (b : List (S45)) (n o : Int) : impl_ValidPlan.L0 q s l b n o = if l < s then (if 0 ≤ l then (if l < (q.length : Int) then ((impl_IsName.F ((rd_T45 q l).f0)).bind fun u => (if u = true then ((impl_ValidSail.F ((rd_T45 q l).f1)).bind fun x => (if x = true then (if l ≤ (b.length : Int) then ((impl_sailNamed.f (b.take (l : Int).toNat) ((rd_T45 q l).f0)).bind fun y => (if y ≥ 0 then (some false) else (impl_ValidPlan.L0 q s (wrap64 (l + 1)) b n o))) else (none)) else (some false))) else (some false))) else (none)) else (none)) else (some true) := by
  refine Lim.next (fun k => (impl_ValidPlan.mono_l k).2 q s l b n o) ?_
  simp only [impl_ValidPlan.l0]
  repeat' with_reducible first | exact Lim.const _ | exact impl_IsName.F_lim _ | exact impl_ValidPlan.L0_lim _ _ _ _ _ _ | exact impl_ValidSail.F_lim _ | refine Lim.ite ?_ ?_ | refine Lim.bind ?_ (fun _ => ?_)
theorem impl_ValidPlan.F_eq (l : List (S45)) (n b : Int) : impl_ValidPlan.F l n b = if (l.length : Int) > 8 then (impl_ValidPlan.J0 true l n b) else ((impl_within.f b 1 5000).bind fun o => (if o = true then ((impl_within.f n 0 b).bind fun q => (impl_ValidPlan.J0 (!q) l n b)) else (impl_ValidPlan.J0 true l n b))) := by
  refine Lim.eq (g := fun k => impl_ValidPlan.f k l n b) ?_
  unfold impl_ValidPlan.f
  repeat' with_reducible first | exact Lim.const _ | exact impl_ValidPlan.J0_lim _ _ _ _ | refine Lim.ite ?_ ?_ | refine Lim.bind ?_ (fun _ => ?_)

noncomputable def impl_withSet.L0 (u : Int) (o : List (S45)) (q s : Int) (b : List (S45)) (l n : Int) : Option ((List (S45)) × Int × Int) := lim (fun k => impl_withSet.l0 k u o q s b l n)
theorem impl_withSet.L0_lim (u : Int) (o : List (S45)) (q s : Int) (b : List (S45)) (l n : Int) : Lim (fun k => impl_withSet.l0 k u o q s b l n) (impl_withSet.L0 u o q s b l n) := Lim.of (fun k => (impl_withSet.mono_l k) u o q s b l n)
noncomputable def impl_withSet.F (b : List (S45)) (l n o : Int) : Option ((List (S45)) × Int × Int) := lim (fun k => impl_withSet.f k b l n o)
theorem impl_withSet.F_lim (b : List (S45)) (l n o : Int) : Lim (fun k => impl_withSet.f k b l n o) (impl_withSet.F b l n o) := Lim.of (fun k => impl_withSet.mono b l n o k)
theorem impl_withSet.L0_eq (u : Int) (q : List (S45)) (s o : Int) (b : List (S45)) (l n : Int) : impl_withSet.L0 u q s o b l n = if o < s then (if 0 ≤ o then (if o < (q.length : Int) then (if b.length < 2932031007402 then (impl_withSet.L0 u q s (wrap64 (o + 1)) (b ++ [(⟨(rd_T45 q o).f0, (rd_T45 q o).f1, ((Go.bits .and .i64 (shr .i64 u o) 1) == 1)⟩ : S45)]) l n) else (none)) else (none)) else (none)) else (some (b, l, n)) := by
  refine Lim.next (fun k => (impl_withSet.mono_l k) u q s o b l n) ?_
  simp only [impl_withSet.l0]
  repeat' with_reducible first | exact Lim.const _ | exact impl_withSet.L0_lim _ _ _ _ _ _ _ | refine Lim.ite ?_ ?_ | refine Lim.bind ?_ (fun _ => ?_)
theorem impl_withSet.F_eq (b : List (S45)) (l n o : Int) : impl_withSet.F b l n o = impl_withSet.L0 o b (b.length : Int) 0 ([] : List (S45)) l n := by
  refine Lim.eq (g := fun k => impl_withSet.f k b l n o) ?_
  unfold impl_withSet.f
  repeat' with_reducible first | exact Lim.const _ | exact impl_withSet.L0_lim _ _ _ _ _ _ _ | refine Lim.ite ?_ ?_ | refine Lim.bind ?_ (fun _ => ?_)

noncomputable def impl_planSums.L0 (o q s : Int) (b : List (S45)) (l n : Int) : Option (Int × Int × Int) := lim (fun k => impl_planSums.l0 k o q s b l n)
theorem impl_planSums.L0_lim (o q s : Int) (b : List (S45)) (l n : Int) : Lim (fun k => impl_planSums.l0 k o q s b l n) (impl_planSums.L0 o q s b l n) := Lim.of (fun k => (impl_planSums.mono_l k).1 o q s b l n)
noncomputable def impl_planSums.L1 (z B D : Int) (o : List (S45)) (q s : Int) (u : List (S70)) (x y : Int) (b : ByteArray) (l : List (S70)) (n : Bool) : Option (Int × Int × Int) := lim (fun k => impl_planSums.l1 k z B D o q s u x y b l n)
theorem impl_planSums.L1_lim (z B D : Int) (o : List (S45)) (q s : Int) (u : List (S70)) (x y : Int) (b : ByteArray) (l : List (S70)) (n : Bool) : Lim (fun k => impl_planSums.l1 k z B D o q s u x y b l n) (impl_planSums.L1 z B D o q s u x y b l n) := Lim.of (fun k => (impl_planSums.mono_l k).2 z B D o q s u x y b l n)
noncomputable def impl_planSums.F (b : List (S45)) (l n : Int) : Option (Int × Int × Int) := lim (fun k => impl_planSums.f k b l n)
theorem impl_planSums.F_lim (b : List (S45)) (l n : Int) : Lim (fun k => impl_planSums.f k b l n) (impl_planSums.F b l n) := Lim.of (fun k => impl_planSums.mono b l n k)
theorem impl_planSums.L0_eq (o q s : Int) (l : List (S45)) (n b : Int) : impl_planSums.L0 o q s l n b = if b < n then (if 0 ≤ b then (if b < (l.length : Int) then (if ((rd_T45 l b).f2 = true) then ((impl_twiceSail.F ((rd_T45 l b).f1)).bind fun u => (impl_planSums.L1 (wrap64 (o + u)) q s l n b ((rd_T45 l b).f1) (((rd_T45 l b).f1).length : Int) 0 ((rd_T45 l b).f0) ((rd_T45 l b).f1) ((rd_T45 l b).f2))) else (impl_planSums.L0 o q s l n (wrap64 (b + 1)))) else (none)) else (none)) else (some (o, q, s)) := by
  refine Lim.next (fun k => (impl_planSums.mono_l k).1 o q s l n b) ?_
  simp only [impl_planSums.l0]
  repeat' with_reducible first | exact Lim.const _ | exact impl_planSums.L0_lim _ _ _ _ _ _ | exact impl_planSums.L1_lim _ _ _ _ _ _ _ _ _ _ _ _ | exact impl_twiceSail.F_lim _ | refine Lim.ite ?_ ?_ | refine Lim.bind ?_ (fun _ => ?_)
theorem impl_planSums.L1_eq (z B D : Int) (s : List (S45)) (u x : Int) (n : List (S70)) (y l : Int) (o : ByteArray) (b : List (S70)) (q : Bool) : impl_planSums.L1 z B D s u x n y l o b q = if l < y then (if 0 ≤ l then (if l < (n.length : Int) then (if (b.length : Int) = 0 then (none) else (if 0 ≤ (Int.tmod (wrap64 (l + 1)) (b.length : Int)) then (if (Int.tmod (wrap64 (l + 1)) (b.length : Int)) < (b.length : Int) then (impl_planSums.L1 z (wrap64 (B + (wrap64 ((wrap64 (((rd_T70 n l).f0) + ((rd_T70 b (Int.tmod (wrap64 (l + 1)) (b.length : Int))).f0))) * (wrap64 ((wrap64 (((rd_T70 n l).f0) * ((rd_T70 b (Int.tmod (wrap64 (l + 1)) (b.length : Int))).f1))) - (wrap64 (((rd_T70 b (Int.tmod (wrap64 (l + 1)) (b.length : Int))).f0) * ((rd_T70 n l).f1))))))))) (wrap64 (D + (wrap64 ((wrap64 (((rd_T70 n l).f1) + ((rd_T70 b (Int.tmod (wrap64 (l + 1)) (b.length : Int))).f1))) * (wrap64 ((wrap64 (((rd_T70 n l).f0) * ((rd_T70 b (Int.tmod (wrap64 (l + 1)) (b.length : Int))).f1))) - (wrap64 (((rd_T70 b (Int.tmod (wrap64 (l + 1)) (b.length : Int))).f0) * ((rd_T70 n l).f1))))))))) s u x n y (wrap64 (l + 1)) o b q) else (none)) else (none))) else (none)) else (none)) else (impl_planSums.L0 z B D s u (wrap64 (x + 1))) := by
  refine Lim.next (fun k => (impl_planSums.mono_l k).2 z B D s u x n y l o b q) ?_
  simp only [impl_planSums.l1]
  repeat' with_reducible first | exact Lim.const _ | exact impl_planSums.L0_lim _ _ _ _ _ _ | exact impl_planSums.L1_lim _ _ _ _ _ _ _ _ _ _ _ _ | refine Lim.ite ?_ ?_ | refine Lim.bind ?_ (fun _ => ?_)
theorem impl_planSums.F_eq (b : List (S45)) (l n : Int) : impl_planSums.F b l n = impl_planSums.L0 0 0 0 b (b.length : Int) 0 := by
  refine Lim.eq (g := fun k => impl_planSums.f k b l n) ?_
  unfold impl_planSums.f
  repeat' with_reducible first | exact Lim.const _ | exact impl_planSums.L0_lim _ _ _ _ _ _ | refine Lim.ite ?_ ?_ | refine Lim.bind ?_ (fun _ => ?_)

noncomputable def impl_gcd.J0 (b l : Int) : Option (Int) := lim (fun k => impl_gcd.j0 k b l)
theorem impl_gcd.J0_lim (b l : Int) : Lim (fun k => impl_gcd.j0 k b l) (impl_gcd.J0 b l) := Lim.of (fun k => (impl_gcd.mono_l k).1 b l)
noncomputable def impl_gcd.L0 (b l : Int) : Option (Int) := lim (fun k => impl_gcd.l0 k b l)
theorem impl_gcd.L0_lim (b l : Int) : Lim (fun k => impl_gcd.l0 k b l) (impl_gcd.L0 b l) := Lim.of (fun k => (impl_gcd.mono_l k).2 b l)
noncomputable def impl_gcd.F (b l : Int) : Option (Int) := lim (fun k => impl_gcd.f k b l)
theorem impl_gcd.F_lim (b l : Int) : Lim (fun k => impl_gcd.f k b l) (impl_gcd.F b l) := Lim.of (fun k => impl_gcd.mono b l k)
theorem impl_gcd.J0_eq (b l : Int) : impl_gcd.J0 b l = impl_gcd.L0 b l := by
  refine Lim.next (fun k => (impl_gcd.mono_l k).1 b l) ?_
  simp only [impl_gcd.j0]
  repeat' with_reducible first | exact Lim.const _ | exact impl_gcd.L0_lim _ _ | refine Lim.ite ?_ ?_ | refine Lim.bind ?_ (fun _ => ?_)
theorem impl_gcd.L0_eq (l b : Int) : impl_gcd.L0 l b = if b = 0 then (some l) else (impl_gcd.L0 b (Int.tmod l b)) := by
  refine Lim.next (fun k => (impl_gcd.mono_l k).2 l b) ?_
  simp only [impl_gcd.l0]
  repeat' with_reducible first | exact Lim.const _ | exact impl_gcd.L0_lim _ _ | refine Lim.ite ?_ ?_ | refine Lim.bind ?_ (fun _ => ?_)
theorem impl_gcd.F_eq (b l : Int) : impl_gcd.F b l = if b < 0 then (impl_gcd.J0 (wrap64 (-b)) l) else (impl_gcd.J0 b l) := by
  refine Lim.eq (g := fun k => impl_gcd.f k b l) ?_
  unfold impl_gcd.f
  repeat' with_reducible first | exact Lim.const _ | exact impl_gcd.J0_lim _ _ | refine Lim.ite ?_ ?_ | refine Lim.bind ?_ (fun _ => ?_)

noncomputable def impl_fraction.F (b l : Int) : Option (Int × Int) := lim (fun k => impl_fraction.f k b l)
theorem impl_fraction.F_lim (b l : Int) : Lim (fun k => impl_fraction.f k b l) (impl_fraction.F b l) := Lim.of (fun k => impl_fraction.mono b l k)
theorem impl_fraction.F_eq (o b : Int) : impl_fraction.F o b = if b < 0 then ((impl_gcd.F (wrap64 (-o)) (wrap64 (-b))).bind fun l => (if l = 0 then (none) else (some (wrap64 (Int.tdiv (wrap64 (-o)) l), wrap64 (Int.tdiv (wrap64 (-b)) l))))) else ((impl_gcd.F o b).bind fun n => (if n = 0 then (none) else (some (wrap64 (Int.tdiv o n), wrap64 (Int.tdiv b n))))) := by
  refine Lim.eq (g := fun k => impl_fraction.f k o b) ?_
  unfold impl_fraction.f
  repeat' with_reducible first | exact Lim.const _ | exact impl_gcd.F_lim _ _ | refine Lim.ite ?_ ?_ | refine Lim.bind ?_ (fun _ => ?_)

noncomputable def impl_leadOf.F (b : List (S45)) (l n : Int) : Option (Int × Int × Bool) := lim (fun k => impl_leadOf.f k b l n)
theorem impl_leadOf.F_lim (b : List (S45)) (l n : Int) : Lim (fun k => impl_leadOf.f k b l n) (impl_leadOf.F b l n) := Lim.of (fun k => impl_leadOf.mono b l n k)
theorem impl_leadOf.F_eq (n : List (S45)) (l o : Int) : impl_leadOf.F n l o = (impl_planSums.F n l o).bind fun b => (if b.1 = 0 then (some (0, 0, false)) else ((impl_fraction.F (wrap64 (b.2.1 - (wrap64 ((wrap64 (3 * b.1)) * l)))) (wrap64 (3 * b.1))).bind fun q => (some (q.1, q.2, true)))) := by
  refine Lim.eq (g := fun k => impl_leadOf.f k n l o) ?_
  unfold impl_leadOf.f
  repeat' with_reducible first | exact Lim.const _ | exact impl_fraction.F_lim _ _ | exact impl_planSums.F_lim _ _ _ | refine Lim.ite ?_ ?_ | refine Lim.bind ?_ (fun _ => ?_)

noncomputable def impl_helmOf.F (b : List (S45)) (l n o q : Int) : Option (ByteArray) := lim (fun k => impl_helmOf.f k b l n o q)
theorem impl_helmOf.F_lim (b : List (S45)) (l n o q : Int) : Lim (fun k => impl_helmOf.f k b l n o q) (impl_helmOf.F b l n o q) := Lim.of (fun k => impl_helmOf.mono b l n o q k)
theorem impl_helmOf.F_eq (n : List (S45)) (o l q s : Int) : impl_helmOf.F n o l q s = (impl_leadOf.F n o l).bind fun b => (if b.2.2 = true then (if (wrap64 (1000 * b.1)) < (wrap64 ((wrap64 (q * l)) * b.2.1)) then (some (⟨#[119, 101, 97, 116, 104, 101, 114]⟩ : ByteArray)) else (if (wrap64 (1000 * b.1)) > (wrap64 ((wrap64 (s * l)) * b.2.1)) then (some (⟨#[108, 101, 101]⟩ : ByteArray)) else (some (⟨#[98, 97, 108, 97, 110, 99, 101, 100]⟩ : ByteArray)))) else (some (⟨#[]⟩ : ByteArray))) := by
  refine Lim.eq (g := fun k => impl_helmOf.f k n o l q s) ?_
  unfold impl_helmOf.f
  repeat' with_reducible first | exact Lim.const _ | exact impl_leadOf.F_lim _ _ _ | refine Lim.ite ?_ ?_ | refine Lim.bind ?_ (fun _ => ?_)

noncomputable def impl_BestSails.J0 (q s u : Int) (o : Bool) (b : List (S45)) (l n : Int) : Option (List ByteArray × Int) := lim (fun k => impl_BestSails.j0 k q s u o b l n)
theorem impl_BestSails.J0_lim (q s u : Int) (o : Bool) (b : List (S45)) (l n : Int) : Lim (fun k => impl_BestSails.j0 k q s u o b l n) (impl_BestSails.J0 q s u o b l n) := Lim.of (fun k => (impl_BestSails.mono_l k).1 q s u o b l n)
noncomputable def impl_BestSails.L0 (u x y o q s : Int) (b : List (S45)) (l n : Int) : Option (List ByteArray × Int) := lim (fun k => impl_BestSails.l0 k u x y o q s b l n)
theorem impl_BestSails.L0_lim (u x y o q s : Int) (b : List (S45)) (l n : Int) : Lim (fun k => impl_BestSails.l0 k u x y o q s b l n) (impl_BestSails.L0 u x y o q s b l n) := Lim.of (fun k => (impl_BestSails.mono_l k).2.1 u x y o q s b l n)
noncomputable def impl_BestSails.L1 (b : Int) (l : List ByteArray) (n : List (S45)) (o q : Int) : Option (List ByteArray × Int) := lim (fun k => impl_BestSails.l1 k b l n o q)
theorem impl_BestSails.L1_lim (b : Int) (l : List ByteArray) (n : List (S45)) (o q : Int) : Lim (fun k => impl_BestSails.l1 k b l n o q) (impl_BestSails.L1 b l n o q) := Lim.of (fun k => (impl_BestSails.mono_l k).2.2 b l n o q)
noncomputable def impl_BestSails.F (b : List (S45)) (l n o q s : Int) : Option (List ByteArray × Int) := lim (fun k => impl_BestSails.f k b l n o q s)
theorem impl_BestSails.F_lim (b : List (S45)) (l n o q s : Int) : Lim (fun k => impl_BestSails.f k b l n o q s) (impl_BestSails.F b l n o q s) := Lim.of (fun k => impl_BestSails.mono b l n o q s k)
theorem impl_BestSails.J0_eq (q s u : Int) (o : Bool) (b : List (S45)) (l n : Int) : impl_BestSails.J0 q s u o b l n = if o = true then (some (([] : List ByteArray), 2)) else (impl_BestSails.L0 q s u (-1) 0 0 b l n) := by
  refine Lim.next (fun k => (impl_BestSails.mono_l k).1 q s u o b l n) ?_
  simp only [impl_BestSails.j0]
  repeat' with_reducible first | exact Lim.const _ | exact impl_BestSails.L0_lim _ _ _ _ _ _ _ _ _ | refine Lim.ite ?_ ?_ | refine Lim.bind ?_ (fun _ => ?_)
theorem impl_BestSails.L0_eq (y z B s x o : Int) (b : List (S45)) (l n : Int) : impl_BestSails.L0 y z B s x o b l n = if o < (shl .i64 1 (b.length : Int)) then ((impl_withSet.F b l n o).bind fun q => ((impl_planSums.F q.1 q.2.1 q.2.2).bind fun u => (if u.1 ≤ y then ((impl_helmOf.F q.1 q.2.1 q.2.2 z B).bind fun D => (if D.toList = ([98, 97, 108, 97, 110, 99, 101, 100] : List UInt8) then (if s < 0 then (impl_BestSails.L0 y z B o u.1 (wrap64 (o + 1)) b l n) else (if u.1 > x then (impl_BestSails.L0 y z B o u.1 (wrap64 (o + 1)) b l n) else (impl_BestSails.L0 y z B s x (wrap64 (o + 1)) b l n))) else (impl_BestSails.L0 y z B s x (wrap64 (o + 1)) b l n))) else (impl_BestSails.L0 y z B s x (wrap64 (o + 1)) b l n)))) else (if s < 0 then (some (([] : List ByteArray), 3)) else (impl_BestSails.L1 s (([] : List ByteArray)) b (b.length : Int) 0)) := by
  refine Lim.next (fun k => (impl_BestSails.mono_l k).2.1 y z B s x o b l n) ?_
  simp only [impl_BestSails.l0]
  repeat' with_reducible first | exact Lim.const _ | exact impl_BestSails.L0_lim _ _ _ _ _ _ _ _ _ | exact impl_BestSails.L1_lim _ _ _ _ _ | exact impl_helmOf.F_lim _ _ _ _ _ | exact impl_planSums.F_lim _ _ _ | exact impl_withSet.F_lim _ _ _ _ | refine Lim.ite ?_ ?_ | refine Lim.bind ?_ (fun _ => ?_)
theorem impl_BestSails.L1_eq (o : Int) (l : List ByteArray) (n : List (S45)) (q b : Int) : impl_BestSails.L1 o l n q b = if b < q then (if 0 ≤ b then (if b < (n.length : Int) then (if (Go.bits .and .i64 (shr .i64 o b) 1) = 1 then (if l.length < 8796093022208 then (impl_BestSails.L1 o (l ++ [(rd_T45 n b).f0]) n q (wrap64 (b + 1))) else (none)) else (impl_BestSails.L1 o l n q (wrap64 (b + 1)))) else (none)) else (none)) else (some (l, 0)) := by
  refine Lim.next (fun k => (impl_BestSails.mono_l k).2.2 o l n q b) ?_
  simp only [impl_BestSails.l1]
  repeat' with_reducible first | exact Lim.const _ | exact impl_BestSails.L1_lim _ _ _ _ _ | refine Lim.ite ?_ ?_ | refine Lim.bind ?_ (fun _ => ?_)
theorem impl_BestSails.F_eq (b : List (S45)) (l n s o q : Int) : impl_BestSails.F b l n s o q = (impl_ValidPlan.F b l n).bind fun u => (if u = true then (if o < (-1000) then (impl_BestSails.J0 s o q true b l n) else (if o > q then (impl_BestSails.J0 s o q true b l n) else (if q > 1000 then (impl_BestSails.J0 s o q true b l n) else ((impl_within.f s 0 100000000).bind fun x => (impl_BestSails.J0 s o q (!x) b l n))))) else (some (([] : List ByteArray), 1))) := by
  refine Lim.eq (g := fun k => impl_BestSails.f k b l n s o q) ?_
  unfold impl_BestSails.f
  repeat' with_reducible first | exact Lim.const _ | exact impl_BestSails.J0_lim _ _ _ _ _ _ _ | exact impl_ValidPlan.F_lim _ _ _ | refine Lim.ite ?_ ?_ | refine Lim.bind ?_ (fun _ => ?_)

noncomputable def spec_IsName.J0 (l : ByteArray) (b : Bool) : Option (Bool) := lim (fun k => spec_IsName.j0 k l b)
theorem spec_IsName.J0_lim (l : ByteArray) (b : Bool) : Lim (fun k => spec_IsName.j0 k l b) (spec_IsName.J0 l b) := Lim.of (fun k => (spec_IsName.mono_l k).1 l b)
noncomputable def spec_IsName.L0 (b : ByteArray) (l : Int) : Option (Bool) := lim (fun k => spec_IsName.l0 k b l)
theorem spec_IsName.L0_lim (b : ByteArray) (l : Int) : Lim (fun k => spec_IsName.l0 k b l) (spec_IsName.L0 b l) := Lim.of (fun k => (spec_IsName.mono_l k).2 b l)
noncomputable def spec_IsName.F (b : ByteArray) : Option (Bool) := lim (fun k => spec_IsName.f k b)
theorem spec_IsName.F_lim (b : ByteArray) : Lim (fun k => spec_IsName.f k b) (spec_IsName.F b) := Lim.of (fun k => spec_IsName.mono b k)
theorem spec_IsName.J0_eq (l : ByteArray) (b : Bool) : spec_IsName.J0 l b = if b = true then (some false) else (spec_IsName.L0 l 0) := by
  refine Lim.next (fun k => (spec_IsName.mono_l k).1 l b) ?_
  simp only [spec_IsName.j0]
  repeat' with_reducible first | exact Lim.const _ | exact spec_IsName.L0_lim _ _ | refine Lim.ite ?_ ?_ | refine Lim.bind ?_ (fun _ => ?_)
theorem spec_IsName.L0_eq (l : ByteArray) (b : Int) : spec_IsName.L0 l b = if b < (l.size : Int) then (if 0 ≤ b then ((spec_l01Small.f (bt l b)).bind fun n => (if n = true then (spec_IsName.L0 l (wrap64 (b + 1))) else ((spec_l01Digit.f (bt l b)).bind fun o => (if o = true then (spec_IsName.L0 l (wrap64 (b + 1))) else (if (bt l b) = 45 then (spec_IsName.L0 l (wrap64 (b + 1))) else (some false)))))) else (none)) else (some true) := by
  refine Lim.next (fun k => (spec_IsName.mono_l k).2 l b) ?_
  simp only [spec_IsName.l0]
  repeat' with_reducible first | exact Lim.const _ | exact spec_IsName.L0_lim _ _ | refine Lim.ite ?_ ?_ | refine Lim.bind ?_ (fun _ => ?_)
theorem spec_IsName.F_eq (b : ByteArray) : spec_IsName.F b = if b.toList = ([] : List UInt8) then (spec_IsName.J0 b true) else (if (b.size : Int) > 12 then (spec_IsName.J0 b true) else (if 0 < (b.size : Int) then ((spec_l01Small.f (bt b 0)).bind fun l => (spec_IsName.J0 b (!l))) else (none))) := by
  refine Lim.eq (g := fun k => spec_IsName.f k b) ?_
  unfold spec_IsName.f
  repeat' with_reducible first | exact Lim.const _ | exact spec_IsName.J0_lim _ _ | refine Lim.ite ?_ ?_ | refine Lim.bind ?_ (fun _ => ?_)

noncomputable def spec_l17Find.L0 (b : List (S26)) (l : ByteArray) (n : Int) : Option (Int) := lim (fun k => spec_l17Find.l0 k b l n)
theorem spec_l17Find.L0_lim (b : List (S26)) (l : ByteArray) (n : Int) : Lim (fun k => spec_l17Find.l0 k b l n) (spec_l17Find.L0 b l n) := Lim.of (fun k => (spec_l17Find.mono_l k) b l n)
noncomputable def spec_l17Find.F (l0 : List (S26)) (b : ByteArray) : Option (Int) := lim (fun k => spec_l17Find.f k l0 b)
theorem spec_l17Find.F_lim (l0 : List (S26)) (b : ByteArray) : Lim (fun k => spec_l17Find.f k l0 b) (spec_l17Find.F l0 b) := Lim.of (fun k => spec_l17Find.mono l0 b k)
theorem spec_l17Find.L0_eq (l : List (S26)) (n : ByteArray) (b : Int) : spec_l17Find.L0 l n b = if b < (((rd_T26 l 0).f0).length : Int) then (if 0 ≤ b then (if ((rd_T45 ((rd_T26 l 0).f0) b).f0).toList = n.toList then (some b) else (spec_l17Find.L0 l n (wrap64 (b + 1)))) else (none)) else (some (-1)) := by
  refine Lim.next (fun k => (spec_l17Find.mono_l k) l n b) ?_
  simp only [spec_l17Find.l0]
  repeat' with_reducible first | exact Lim.const _ | exact spec_l17Find.L0_lim _ _ _ | refine Lim.ite ?_ ?_ | refine Lim.bind ?_ (fun _ => ?_)
theorem spec_l17Find.F_eq (l0 : List (S26)) (b : ByteArray) : spec_l17Find.F l0 b = if 0 < (l0.length : Int) then (spec_l17Find.L0 l0 b 0) else (none) := by
  refine Lim.eq (g := fun k => spec_l17Find.f k l0 b) ?_
  unfold spec_l17Find.f
  repeat' with_reducible first | exact Lim.const _ | exact spec_l17Find.L0_lim _ _ _ | refine Lim.ite ?_ ?_ | refine Lim.bind ?_ (fun _ => ?_)

noncomputable def spec_l13Twice.L0 (b : List (S70)) (l n : Int) : Option (Int) := lim (fun k => spec_l13Twice.l0 k b l n)
theorem spec_l13Twice.L0_lim (b : List (S70)) (l n : Int) : Lim (fun k => spec_l13Twice.l0 k b l n) (spec_l13Twice.L0 b l n) := Lim.of (fun k => (spec_l13Twice.mono_l k) b l n)
noncomputable def spec_l13Twice.F (l0 : List (S70)) : Option (Int) := lim (fun k => spec_l13Twice.f k l0)
theorem spec_l13Twice.F_lim (l0 : List (S70)) : Lim (fun k => spec_l13Twice.f k l0) (spec_l13Twice.F l0) := Lim.of (fun k => spec_l13Twice.mono l0 k)
theorem spec_l13Twice.L0_eq (b : List (S70)) (n l : Int) : spec_l13Twice.L0 b n l = if l < (b.length : Int) then (if (b.length : Int) = 0 then (none) else (if 0 ≤ (Int.tmod (wrap64 (l + 1)) (b.length : Int)) then (if (Int.tmod (wrap64 (l + 1)) (b.length : Int)) < (b.length : Int) then (if 0 ≤ l then (spec_l13Twice.L0 b (wrap64 (n + (wrap64 ((wrap64 (((rd_T70 b l).f0) * ((rd_T70 b (Int.tmod (wrap64 (l + 1)) (b.length : Int))).f1))) - (wrap64 (((rd_T70 b (Int.tmod (wrap64 (l + 1)) (b.length : Int))).f0) * ((rd_T70 b l).f1))))))) (wrap64 (l + 1))) else (none)) else (none)) else (none))) else (some n) := by
  refine Lim.next (fun k => (spec_l13Twice.mono_l k) b n l) ?_
  simp only [spec_l13Twice.l0]
  repeat' with_reducible first | exact Lim.const _ | exact spec_l13Twice.L0_lim _ _ _ | refine Lim.ite ?_ ?_ | refine Lim.bind ?_ (fun _ => ?_)
theorem spec_l13Twice.F_eq (l0 : List (S70)) : spec_l13Twice.F l0 = spec_l13Twice.L0 l0 0 0 := by
  refine Lim.eq (g := fun k => spec_l13Twice.f k l0) ?_
  unfold spec_l13Twice.f
  repeat' with_reducible first | exact Lim.const _ | exact spec_l13Twice.L0_lim _ _ _ | refine Lim.ite ?_ ?_ | refine Lim.bind ?_ (fun _ => ?_)

noncomputable def spec_l13Meet.J0 (y : Bool) (b l n o q s u x : Int) : Option (Bool) := lim (fun k => spec_l13Meet.j0 k y b l n o q s u x)
theorem spec_l13Meet.J0_lim (y : Bool) (b l n o q s u x : Int) : Lim (fun k => spec_l13Meet.j0 k y b l n o q s u x) (spec_l13Meet.J0 y b l n o q s u x) := Lim.of (fun k => (spec_l13Meet.mono_l k) y b l n o q s u x)
noncomputable def spec_l13Meet.F (b l n o q s u x : Int) : Option (Bool) := lim (fun k => spec_l13Meet.f k b l n o q s u x)
theorem spec_l13Meet.F_lim (b l n o q s u x : Int) : Lim (fun k => spec_l13Meet.f k b l n o q s u x) (spec_l13Meet.F b l n o q s u x) := Lim.of (fun k => spec_l13Meet.mono b l n o q s u x k)
theorem spec_l13Meet.J0_eq (y : Bool) (b l n o q s u x : Int) : spec_l13Meet.J0 y b l n o q s u x = if y = true then (some true) else ((spec_l13Sides.f b l n o q s u x).bind fun z => (if z = true then ((spec_l13Sides.f q s u x b l n o).bind fun B => (some B)) else (some false))) := by
  refine Lim.next (fun k => (spec_l13Meet.mono_l k) y b l n o q s u x) ?_
  simp only [spec_l13Meet.j0]
  repeat' with_reducible first | exact Lim.const _ | refine Lim.ite ?_ ?_ | refine Lim.bind ?_ (fun _ => ?_)
theorem spec_l13Meet.F_eq (b l n o q s u x : Int) : spec_l13Meet.F b l n o q s u x = (spec_l13On.f b l n o q s).bind fun y => (if y = true then (spec_l13Meet.J0 true b l n o q s u x) else ((spec_l13On.f b l n o u x).bind fun z => (if z = true then (spec_l13Meet.J0 true b l n o q s u x) else ((spec_l13On.f q s u x b l).bind fun B => (if B = true then (spec_l13Meet.J0 true b l n o q s u x) else ((spec_l13On.f q s u x n o).bind fun D => (spec_l13Meet.J0 D b l n o q s u x))))))) := by
  refine Lim.eq (g := fun k => spec_l13Meet.f k b l n o q s u x) ?_
  unfold spec_l13Meet.f
  repeat' with_reducible first | exact Lim.const _ | exact spec_l13Meet.J0_lim _ _ _ _ _ _ _ _ _ | refine Lim.ite ?_ ?_ | refine Lim.bind ?_ (fun _ => ?_)

noncomputable def spec_l13Ok.L0 (b : List (S70)) (l n : Int) : Option (Bool) := lim (fun k => spec_l13Ok.l0 k b l n)
theorem spec_l13Ok.L0_lim (b : List (S70)) (l n : Int) : Lim (fun k => spec_l13Ok.l0 k b l n) (spec_l13Ok.L0 b l n) := Lim.of (fun k => (spec_l13Ok.mono_l k).1 b l n)
noncomputable def spec_l13Ok.L1 (b : List (S70)) (l n : Int) : Option (Bool) := lim (fun k => spec_l13Ok.l1 k b l n)
theorem spec_l13Ok.L1_lim (b : List (S70)) (l n : Int) : Lim (fun k => spec_l13Ok.l1 k b l n) (spec_l13Ok.L1 b l n) := Lim.of (fun k => (spec_l13Ok.mono_l k).2.1 b l n)
noncomputable def spec_l13Ok.L2 (q : List (S70)) (s u x b l n o : Int) : Option (Bool) := lim (fun k => spec_l13Ok.l2 k q s u x b l n o)
theorem spec_l13Ok.L2_lim (q : List (S70)) (s u x b l n o : Int) : Lim (fun k => spec_l13Ok.l2 k q s u x b l n o) (spec_l13Ok.L2 q s u x b l n o) := Lim.of (fun k => (spec_l13Ok.mono_l k).2.2 q s u x b l n o)
noncomputable def spec_l13Ok.F (l0 : List (S70)) : Option (Bool) := lim (fun k => spec_l13Ok.f k l0)
theorem spec_l13Ok.F_lim (l0 : List (S70)) : Lim (fun k => spec_l13Ok.f k l0) (spec_l13Ok.F l0) := Lim.of (fun k => spec_l13Ok.mono l0 k)
theorem spec_l13Ok.L0_eq (l : List (S70)) (n b : Int) : spec_l13Ok.L0 l n b = if b < n then (if 0 ≤ b then (if b < (l.length : Int) then ((spec_l00In.f ((rd_T70 l b).f0) 0 2000).bind fun o => (if o = true then ((spec_l00In.f ((rd_T70 l b).f1) 0 2000).bind fun q => (if q = true then (spec_l13Ok.L0 l n (wrap64 (b + 1))) else (some false))) else (some false))) else (none)) else (none)) else (spec_l13Ok.L1 l n 0) := by
  refine Lim.next (fun k => (spec_l13Ok.mono_l k).1 l n b) ?_
  simp only [spec_l13Ok.l0]
  repeat' with_reducible first | exact Lim.const _ | exact spec_l13Ok.L0_lim _ _ _ | exact spec_l13Ok.L1_lim _ _ _ | refine Lim.ite ?_ ?_ | refine Lim.bind ?_ (fun _ => ?_)
theorem spec_l13Ok.L1_eq (l : List (S70)) (n b : Int) : spec_l13Ok.L1 l n b = if b < n then (if 0 ≤ b then (if b < (l.length : Int) then (if n = 0 then (none) else (if 0 ≤ (Int.tmod (wrap64 (b + 1)) n) then (if (Int.tmod (wrap64 (b + 1)) n) < (l.length : Int) then (if 0 ≤ (Int.tmod (wrap64 (b + 2)) n) then (if (Int.tmod (wrap64 (b + 2)) n) < (l.length : Int) then ((spec_l13Cross.f ((rd_T70 l b).f0) ((rd_T70 l b).f1) ((rd_T70 l (Int.tmod (wrap64 (b + 1)) n)).f0) ((rd_T70 l (Int.tmod (wrap64 (b + 1)) n)).f1) ((rd_T70 l (Int.tmod (wrap64 (b + 2)) n)).f0) ((rd_T70 l (Int.tmod (wrap64 (b + 2)) n)).f1)).bind fun o => (if o = 0 then (some false) else (spec_l13Ok.L2 l n b (wrap64 (b + 2)) ((rd_T70 l b).f0) ((rd_T70 l b).f1) ((rd_T70 l (Int.tmod (wrap64 (b + 1)) n)).f0) ((rd_T70 l (Int.tmod (wrap64 (b + 1)) n)).f1)))) else (none)) else (none)) else (none)) else (none))) else (none)) else (none)) else ((spec_l13Twice.F l).bind fun q => (some (decide (q > 0)))) := by
  refine Lim.next (fun k => (spec_l13Ok.mono_l k).2.1 l n b) ?_
  simp only [spec_l13Ok.l1]
  repeat' with_reducible first | exact Lim.const _ | exact spec_l13Ok.L2_lim _ _ _ _ _ _ _ _ | exact spec_l13Twice.F_lim _ | refine Lim.ite ?_ ?_ | refine Lim.bind ?_ (fun _ => ?_)
theorem spec_l13Ok.L2_eq (s : List (S70)) (u x q b l n o : Int) : spec_l13Ok.L2 s u x q b l n o = if q < u then (if x > 0 then (if 0 ≤ q then (if q < (s.length : Int) then (if u = 0 then (none) else (if 0 ≤ (Int.tmod (wrap64 (q + 1)) u) then (if (Int.tmod (wrap64 (q + 1)) u) < (s.length : Int) then ((spec_l13Meet.F b l n o ((rd_T70 s q).f0) ((rd_T70 s q).f1) ((rd_T70 s (Int.tmod (wrap64 (q + 1)) u)).f0) ((rd_T70 s (Int.tmod (wrap64 (q + 1)) u)).f1)).bind fun y => (if y = true then (some false) else (spec_l13Ok.L2 s u x (wrap64 (q + 1)) b l n o))) else (none)) else (none))) else (none)) else (none)) else (if q < (wrap64 (u - 1)) then (if 0 ≤ q then (if q < (s.length : Int) then (if u = 0 then (none) else (if 0 ≤ (Int.tmod (wrap64 (q + 1)) u) then (if (Int.tmod (wrap64 (q + 1)) u) < (s.length : Int) then ((spec_l13Meet.F b l n o ((rd_T70 s q).f0) ((rd_T70 s q).f1) ((rd_T70 s (Int.tmod (wrap64 (q + 1)) u)).f0) ((rd_T70 s (Int.tmod (wrap64 (q + 1)) u)).f1)).bind fun z => (if z = true then (some false) else (spec_l13Ok.L2 s u x (wrap64 (q + 1)) b l n o))) else (none)) else (none))) else (none)) else (none)) else (spec_l13Ok.L2 s u x (wrap64 (q + 1)) b l n o))) else (spec_l13Ok.L1 s u (wrap64 (x + 1))) := by
  refine Lim.next (fun k => (spec_l13Ok.mono_l k).2.2 s u x q b l n o) ?_
  simp only [spec_l13Ok.l2]
  repeat' with_reducible first | exact Lim.const _ | exact spec_l13Meet.F_lim _ _ _ _ _ _ _ _ | exact spec_l13Ok.L1_lim _ _ _ | exact spec_l13Ok.L2_lim _ _ _ _ _ _ _ _ | refine Lim.ite ?_ ?_ | refine Lim.bind ?_ (fun _ => ?_)
theorem spec_l13Ok.F_eq (l0 : List (S70)) : spec_l13Ok.F l0 = (spec_l00In.f (l0.length : Int) 3 8).bind fun b => (if b = true then (spec_l13Ok.L0 l0 (l0.length : Int) 0) else (some false)) := by
  refine Lim.eq (g := fun k => spec_l13Ok.f k l0) ?_
  unfold spec_l13Ok.f
  repeat' with_reducible first | exact Lim.const _ | exact spec_l13Ok.L0_lim _ _ _ | refine Lim.ite ?_ ?_ | refine Lim.bind ?_ (fun _ => ?_)

noncomputable def spec_l17Ok.L0 (b : List (S26)) (l : Int) : Option (Bool) := lim (fun k => spec_l17Ok.l0 k b l)
theorem spec_l17Ok.L0_lim (b : List (S26)) (l : Int) : Lim (fun k => spec_l17Ok.l0 k b l) (spec_l17Ok.L0 b l) := Lim.of (fun k => (spec_l17Ok.mono_l k) b l)
noncomputable def spec_l17Ok.F (l0 : List (S26)) : Option (Bool) := lim (fun k => spec_l17Ok.f k l0)
theorem spec_l17Ok.F_lim (l0 : List (S26)) : Lim (fun k => spec_l17Ok.f k l0) (spec_l17Ok.F l0) := Lim.of (fun k => spec_l17Ok.mono l0 k)
theorem spec_l17Ok.L0_eq (b : List (S26)) (l : Int) : spec_l17Ok.L0 b l = if l < (((rd_T26 b 0).f0).length : Int) then (if 0 ≤ l then ((spec_IsName.F ((rd_T45 ((rd_T26 b 0).f0) l).f0)).bind fun n => (if n = true then ((spec_l17Find.F b ((rd_T45 ((rd_T26 b 0).f0) l).f0)).bind fun o => (if o = l then ((spec_l13Ok.F ((rd_T45 ((rd_T26 b 0).f0) l).f1)).bind fun q => (if q = true then (spec_l17Ok.L0 b (wrap64 (l + 1))) else (some false))) else (some false))) else (some false))) else (none)) else (if (((rd_T26 b 0).f0).length : Int) ≤ 8 then ((spec_l00In.f ((rd_T26 b 0).f2) 1 5000).bind fun s => (if s = true then ((spec_l00In.f ((rd_T26 b 0).f1) 0 ((rd_T26 b 0).f2)).bind fun u => (some u)) else (some false))) else (some false)) := by
  refine Lim.next (fun k => (spec_l17Ok.mono_l k) b l) ?_
  simp only [spec_l17Ok.l0]
  repeat' with_reducible first | exact Lim.const _ | exact spec_IsName.F_lim _ | exact spec_l13Ok.F_lim _ | exact spec_l17Find.F_lim _ _ | exact spec_l17Ok.L0_lim _ _ | refine Lim.ite ?_ ?_ | refine Lim.bind ?_ (fun _ => ?_)
theorem spec_l17Ok.F_eq (l0 : List (S26)) : spec_l17Ok.F l0 = if 0 < (l0.length : Int) then (spec_l17Ok.L0 l0 0) else (none) := by
  refine Lim.eq (g := fun k => spec_l17Ok.f k l0) ?_
  unfold spec_l17Ok.f
  repeat' with_reducible first | exact Lim.const _ | exact spec_l17Ok.L0_lim _ _ | refine Lim.ite ?_ ?_ | refine Lim.bind ?_ (fun _ => ?_)

noncomputable def spec_l17Area.L0 (b : List (S26)) (l n : Int) : Option (Int) := lim (fun k => spec_l17Area.l0 k b l n)
theorem spec_l17Area.L0_lim (b : List (S26)) (l n : Int) : Lim (fun k => spec_l17Area.l0 k b l n) (spec_l17Area.L0 b l n) := Lim.of (fun k => (spec_l17Area.mono_l k) b l n)
noncomputable def spec_l17Area.F (l0 : List (S26)) : Option (Int) := lim (fun k => spec_l17Area.f k l0)
theorem spec_l17Area.F_lim (l0 : List (S26)) : Lim (fun k => spec_l17Area.f k l0) (spec_l17Area.F l0) := Lim.of (fun k => spec_l17Area.mono l0 k)
theorem spec_l17Area.L0_eq (l : List (S26)) (n b : Int) : spec_l17Area.L0 l n b = if b < (((rd_T26 l 0).f0).length : Int) then (if 0 ≤ b then (if (rd_T45 ((rd_T26 l 0).f0) b).f2 = true then ((spec_l13Twice.F ((rd_T45 ((rd_T26 l 0).f0) b).f1)).bind fun o => (spec_l17Area.L0 l (wrap64 (n + o)) (wrap64 (b + 1)))) else (spec_l17Area.L0 l n (wrap64 (b + 1)))) else (none)) else (some n) := by
  refine Lim.next (fun k => (spec_l17Area.mono_l k) l n b) ?_
  simp only [spec_l17Area.l0]
  repeat' with_reducible first | exact Lim.const _ | exact spec_l13Twice.F_lim _ | exact spec_l17Area.L0_lim _ _ _ | refine Lim.ite ?_ ?_ | refine Lim.bind ?_ (fun _ => ?_)
theorem spec_l17Area.F_eq (l0 : List (S26)) : spec_l17Area.F l0 = if 0 < (l0.length : Int) then (spec_l17Area.L0 l0 0 0) else (none) := by
  refine Lim.eq (g := fun k => spec_l17Area.f k l0) ?_
  unfold spec_l17Area.f
  repeat' with_reducible first | exact Lim.const _ | exact spec_l17Area.L0_lim _ _ _ | refine Lim.ite ?_ ?_ | refine Lim.bind ?_ (fun _ => ?_)

noncomputable def spec_l13Moments.L0 (b : List (S70)) (l n o : Int) : Option (Int × Int) := lim (fun k => spec_l13Moments.l0 k b l n o)
theorem spec_l13Moments.L0_lim (b : List (S70)) (l n o : Int) : Lim (fun k => spec_l13Moments.l0 k b l n o) (spec_l13Moments.L0 b l n o) := Lim.of (fun k => (spec_l13Moments.mono_l k) b l n o)
noncomputable def spec_l13Moments.F (l0 : List (S70)) : Option (Int × Int) := lim (fun k => spec_l13Moments.f k l0)
theorem spec_l13Moments.F_lim (l0 : List (S70)) : Lim (fun k => spec_l13Moments.f k l0) (spec_l13Moments.F l0) := Lim.of (fun k => spec_l13Moments.mono l0 k)
theorem spec_l13Moments.L0_eq (b : List (S70)) (n o l : Int) : spec_l13Moments.L0 b n o l = if l < (b.length : Int) then (if 0 ≤ l then (if (b.length : Int) = 0 then (none) else (if 0 ≤ (Int.tmod (wrap64 (l + 1)) (b.length : Int)) then (if (Int.tmod (wrap64 (l + 1)) (b.length : Int)) < (b.length : Int) then (spec_l13Moments.L0 b (wrap64 (n + (wrap64 ((wrap64 (((rd_T70 b l).f0) + ((rd_T70 b (Int.tmod (wrap64 (l + 1)) (b.length : Int))).f0))) * (wrap64 ((wrap64 (((rd_T70 b l).f0) * ((rd_T70 b (Int.tmod (wrap64 (l + 1)) (b.length : Int))).f1))) - (wrap64 (((rd_T70 b (Int.tmod (wrap64 (l + 1)) (b.length : Int))).f0) * ((rd_T70 b l).f1))))))))) (wrap64 (o + (wrap64 ((wrap64 (((rd_T70 b l).f1) + ((rd_T70 b (Int.tmod (wrap64 (l + 1)) (b.length : Int))).f1))) * (wrap64 ((wrap64 (((rd_T70 b l).f0) * ((rd_T70 b (Int.tmod (wrap64 (l + 1)) (b.length : Int))).f1))) - (wrap64 (((rd_T70 b (Int.tmod (wrap64 (l + 1)) (b.length : Int))).f0) * ((rd_T70 b l).f1))))))))) (wrap64 (l + 1))) else (none)) else (none))) else (none)) else (some (n, o)) := by
  refine Lim.next (fun k => (spec_l13Moments.mono_l k) b n o l) ?_
  simp only [spec_l13Moments.l0]
  repeat' with_reducible first | exact Lim.const _ | exact spec_l13Moments.L0_lim _ _ _ _ | refine Lim.ite ?_ ?_ | refine Lim.bind ?_ (fun _ => ?_)
theorem spec_l13Moments.F_eq (l0 : List (S70)) : spec_l13Moments.F l0 = spec_l13Moments.L0 l0 0 0 0 := by
  refine Lim.eq (g := fun k => spec_l13Moments.f k l0) ?_
  unfold spec_l13Moments.f
  repeat' with_reducible first | exact Lim.const _ | exact spec_l13Moments.L0_lim _ _ _ _ | refine Lim.ite ?_ ?_ | refine Lim.bind ?_ (fun _ => ?_)

noncomputable def spec_l17Moments.L0 (b : List (S26)) (l n o : Int) : Option (Int × Int) := lim (fun k => spec_l17Moments.l0 k b l n o)
theorem spec_l17Moments.L0_lim (b : List (S26)) (l n o : Int) : Lim (fun k => spec_l17Moments.l0 k b l n o) (spec_l17Moments.L0 b l n o) := Lim.of (fun k => (spec_l17Moments.mono_l k) b l n o)
noncomputable def spec_l17Moments.F (l0 : List (S26)) : Option (Int × Int) := lim (fun k => spec_l17Moments.f k l0)
theorem spec_l17Moments.F_lim (l0 : List (S26)) : Lim (fun k => spec_l17Moments.f k l0) (spec_l17Moments.F l0) := Lim.of (fun k => spec_l17Moments.mono l0 k)
theorem spec_l17Moments.L0_eq (l : List (S26)) (o q b : Int) : spec_l17Moments.L0 l o q b = if b < (((rd_T26 l 0).f0).length : Int) then (if 0 ≤ b then (if (rd_T45 ((rd_T26 l 0).f0) b).f2 = true then ((spec_l13Moments.F ((rd_T45 ((rd_T26 l 0).f0) b).f1)).bind fun n => (spec_l17Moments.L0 l (wrap64 (o + n.1)) (wrap64 (q + n.2)) (wrap64 (b + 1)))) else (spec_l17Moments.L0 l o q (wrap64 (b + 1)))) else (none)) else (some (o, q)) := by
  refine Lim.next (fun k => (spec_l17Moments.mono_l k) l o q b) ?_
  simp only [spec_l17Moments.l0]
  repeat' with_reducible first | exact Lim.const _ | exact spec_l13Moments.F_lim _ | exact spec_l17Moments.L0_lim _ _ _ _ | refine Lim.ite ?_ ?_ | refine Lim.bind ?_ (fun _ => ?_)
theorem spec_l17Moments.F_eq (l0 : List (S26)) : spec_l17Moments.F l0 = if 0 < (l0.length : Int) then (spec_l17Moments.L0 l0 0 0 0) else (none) := by
  refine Lim.eq (g := fun k => spec_l17Moments.f k l0) ?_
  unfold spec_l17Moments.f
  repeat' with_reducible first | exact Lim.const _ | exact spec_l17Moments.L0_lim _ _ _ _ | refine Lim.ite ?_ ?_ | refine Lim.bind ?_ (fun _ => ?_)

noncomputable def spec_l17Lead.F (l0 : List (S26)) : Option (Int × Int) := lim (fun k => spec_l17Lead.f k l0)
theorem spec_l17Lead.F_lim (l0 : List (S26)) : Lim (fun k => spec_l17Lead.f k l0) (spec_l17Lead.F l0) := Lim.of (fun k => spec_l17Lead.mono l0 k)
theorem spec_l17Lead.F_eq (l0 : List (S26)) : spec_l17Lead.F l0 = if 0 < (l0.length : Int) then ((spec_l17Moments.F l0).bind fun l => ((spec_l17Area.F l0).bind fun b => (some (wrap64 (l.1 - (wrap64 (((rd_T26 l0 0).f1) * (wrap64 (3 * b))))), wrap64 (3 * b))))) else (none) := by
  refine Lim.eq (g := fun k => spec_l17Lead.f k l0) ?_
  unfold spec_l17Lead.f
  repeat' with_reducible first | exact Lim.const _ | exact spec_l17Area.F_lim _ | exact spec_l17Moments.F_lim _ | refine Lim.ite ?_ ?_ | refine Lim.bind ?_ (fun _ => ?_)

noncomputable def spec_l17Helm.F (l0 : List (S26)) (b l : Int) : Option (ByteArray) := lim (fun k => spec_l17Helm.f k l0 b l)
theorem spec_l17Helm.F_lim (l0 : List (S26)) (b l : Int) : Lim (fun k => spec_l17Helm.f k l0 b l) (spec_l17Helm.F l0 b l) := Lim.of (fun k => spec_l17Helm.mono l0 b l k)
theorem spec_l17Helm.F_eq (l0 : List (S26)) (l n : Int) : spec_l17Helm.F l0 l n = if 0 < (l0.length : Int) then ((spec_l17Lead.F l0).bind fun b => ((spec_l00Floor.f (wrap64 (1000 * b.1)) b.2).bind fun o => (if o < (wrap64 (l * ((rd_T26 l0 0).f2))) then (some (⟨#[119, 101, 97, 116, 104, 101, 114]⟩ : ByteArray)) else ((spec_l00Floor.f (wrap64 ((-1000) * b.1)) b.2).bind fun q => (if q < (wrap64 ((wrap64 (-n)) * ((rd_T26 l0 0).f2))) then (some (⟨#[108, 101, 101]⟩ : ByteArray)) else (some (⟨#[98, 97, 108, 97, 110, 99, 101, 100]⟩ : ByteArray))))))) else (none) := by
  refine Lim.eq (g := fun k => spec_l17Helm.f k l0 l n) ?_
  unfold spec_l17Helm.f
  repeat' with_reducible first | exact Lim.const _ | exact spec_l17Lead.F_lim _ | refine Lim.ite ?_ ?_ | refine Lim.bind ?_ (fun _ => ?_)

noncomputable def spec_BestSails.J0 (q s u : Int) (o : Bool) (b : List (S45)) (l n : Int) : Option (List ByteArray × Int) := lim (fun k => spec_BestSails.j0 k q s u o b l n)
theorem spec_BestSails.J0_lim (q s u : Int) (o : Bool) (b : List (S45)) (l n : Int) : Lim (fun k => spec_BestSails.j0 k q s u o b l n) (spec_BestSails.J0 q s u o b l n) := Lim.of (fun k => (spec_BestSails.mono_l k).1 q s u o b l n)
noncomputable def spec_BestSails.L0 (u x y o q s : Int) (b : List (S45)) (l n : Int) : Option (List ByteArray × Int) := lim (fun k => spec_BestSails.l0 k u x y o q s b l n)
theorem spec_BestSails.L0_lim (u x y o q s : Int) (b : List (S45)) (l n : Int) : Lim (fun k => spec_BestSails.l0 k u x y o q s b l n) (spec_BestSails.L0 u x y o q s b l n) := Lim.of (fun k => (spec_BestSails.mono_l k).2.1 u x y o q s b l n)
noncomputable def spec_BestSails.L1 (B D E u x y z : Int) (b : List (S45)) (l n : Int) (o : List (S45)) (q s : Int) : Option (List ByteArray × Int) := lim (fun k => spec_BestSails.l1 k B D E u x y z b l n o q s)
theorem spec_BestSails.L1_lim (B D E u x y z : Int) (b : List (S45)) (l n : Int) (o : List (S45)) (q s : Int) : Lim (fun k => spec_BestSails.l1 k B D E u x y z b l n o q s) (spec_BestSails.L1 B D E u x y z b l n o q s) := Lim.of (fun k => (spec_BestSails.mono_l k).2.2.1 B D E u x y z b l n o q s)
noncomputable def spec_BestSails.L2 (o : Int) (q : List ByteArray) (s : Int) (b : List (S45)) (l n : Int) : Option (List ByteArray × Int) := lim (fun k => spec_BestSails.l2 k o q s b l n)
theorem spec_BestSails.L2_lim (o : Int) (q : List ByteArray) (s : Int) (b : List (S45)) (l n : Int) : Lim (fun k => spec_BestSails.l2 k o q s b l n) (spec_BestSails.L2 o q s b l n) := Lim.of (fun k => (spec_BestSails.mono_l k).2.2.2 o q s b l n)
noncomputable def spec_BestSails.F (b : List (S45)) (l n o q s : Int) : Option (List ByteArray × Int) := lim (fun k => spec_BestSails.f k b l n o q s)
theorem spec_BestSails.F_lim (b : List (S45)) (l n o q s : Int) : Lim (fun k => spec_BestSails.f k b l n o q s) (spec_BestSails.F b l n o q s) := Lim.of (fun k => spec_BestSails.mono b l n o q s k)
theorem spec_BestSails.J0_eq (q s u : Int) (o : Bool) (b : List (S45)) (l n : Int) : spec_BestSails.J0 q s u o b l n = if o = true then (some (([] : List ByteArray), 2)) else (spec_BestSails.L0 q s u 0 0 1 b l n) := by
  refine Lim.next (fun k => (spec_BestSails.mono_l k).1 q s u o b l n) ?_
  simp only [spec_BestSails.j0]
  repeat' with_reducible first | exact Lim.const _ | exact spec_BestSails.L0_lim _ _ _ _ _ _ _ _ _ | refine Lim.ite ?_ ?_ | refine Lim.bind ?_ (fun _ => ?_)
theorem spec_BestSails.L0_eq (u x y o s q : Int) (b : List (S45)) (l n : Int) : spec_BestSails.L0 u x y o s q b l n = if 0 ≤ (IntKind.u64.wrap ((b.length : Int))) then (if q < (shl .i64 1 (IntKind.u64.wrap ((b.length : Int)))) then (spec_BestSails.L1 u x y o s q 0 b l n (([] : List (S45))) l n) else (if o = 0 then (some (([] : List ByteArray), 3)) else (spec_BestSails.L2 o (([] : List ByteArray)) 0 b l n))) else (none) := by
  refine Lim.next (fun k => (spec_BestSails.mono_l k).2.1 u x y o s q b l n) ?_
  simp only [spec_BestSails.l0]
  repeat' with_reducible first | exact Lim.const _ | exact spec_BestSails.L1_lim _ _ _ _ _ _ _ _ _ _ _ _ _ | exact spec_BestSails.L2_lim _ _ _ _ _ _ | refine Lim.ite ?_ ?_ | refine Lim.bind ?_ (fun _ => ?_)
theorem spec_BestSails.L1_eq (B D E z y u x : Int) (b : List (S45)) (l n : Int) (o : List (S45)) (q s : Int) : spec_BestSails.L1 B D E z y u x b l n o q s = if x < (b.length : Int) then (if 0 ≤ (IntKind.u64.wrap (x)) then (if (Go.bits .and .i64 (shr .i64 u (IntKind.u64.wrap (x))) 1) = 1 then (if 0 ≤ x then (if o.length < 2932031007402 then (spec_BestSails.L1 B D E z y u (wrap64 (x + 1)) b l n (o ++ [(⟨(⟨#[]⟩ : ByteArray), (rd_T45 b x).f1, true⟩ : S45)]) q s) else (none)) else (none)) else (spec_BestSails.L1 B D E z y u (wrap64 (x + 1)) b l n o q s)) else (none)) else ((spec_l17Area.F [(⟨o, q, s⟩ : S26)]).bind fun I => (if I ≤ B then (if I > y then ((spec_l17Helm.F [(⟨o, q, s⟩ : S26)] D E).bind fun O => (if O.toList = ([98, 97, 108, 97, 110, 99, 101, 100] : List UInt8) then (spec_BestSails.L0 B D E u I (wrap64 (u + 1)) b l n) else (spec_BestSails.L0 B D E z y (wrap64 (u + 1)) b l n))) else (spec_BestSails.L0 B D E z y (wrap64 (u + 1)) b l n)) else (spec_BestSails.L0 B D E z y (wrap64 (u + 1)) b l n))) := by
  refine Lim.next (fun k => (spec_BestSails.mono_l k).2.2.1 B D E z y u x b l n o q s) ?_
  simp only [spec_BestSails.l1]
  repeat' with_reducible first | exact Lim.const _ | exact spec_BestSails.L0_lim _ _ _ _ _ _ _ _ _ | exact spec_BestSails.L1_lim _ _ _ _ _ _ _ _ _ _ _ _ _ | exact spec_l17Area.F_lim _ | exact spec_l17Helm.F_lim _ _ _ | refine Lim.ite ?_ ?_ | refine Lim.bind ?_ (fun _ => ?_)
theorem spec_BestSails.L2_eq (s : Int) (q : List ByteArray) (o : Int) (b : List (S45)) (l n : Int) : spec_BestSails.L2 s q o b l n = if o < (b.length : Int) then (if 0 ≤ (IntKind.u64.wrap (o)) then (if (Go.bits .and .i64 (shr .i64 s (IntKind.u64.wrap (o))) 1) = 1 then (if 0 ≤ o then (if q.length < 8796093022208 then (spec_BestSails.L2 s (q ++ [(rd_T45 b o).f0]) (wrap64 (o + 1)) b l n) else (none)) else (none)) else (spec_BestSails.L2 s q (wrap64 (o + 1)) b l n)) else (none)) else (some (q, 0)) := by
  refine Lim.next (fun k => (spec_BestSails.mono_l k).2.2.2 s q o b l n) ?_
  simp only [spec_BestSails.l2]
  repeat' with_reducible first | exact Lim.const _ | exact spec_BestSails.L2_lim _ _ _ _ _ _ | refine Lim.ite ?_ ?_ | refine Lim.bind ?_ (fun _ => ?_)
theorem spec_BestSails.F_eq (b : List (S45)) (l n o q s : Int) : spec_BestSails.F b l n o q s = (spec_l17Ok.F [(⟨b, l, n⟩ : S26)]).bind fun u => (if u = true then ((spec_l00In.f o 0 100000000).bind fun x => (if x = true then ((spec_l17Range.f q s).bind fun y => (spec_BestSails.J0 o q s (!y) b l n)) else (spec_BestSails.J0 o q s true b l n))) else (some (([] : List ByteArray), 1))) := by
  refine Lim.eq (g := fun k => spec_BestSails.f k b l n o q s) ?_
  unfold spec_BestSails.f
  repeat' with_reducible first | exact Lim.const _ | exact spec_BestSails.J0_lim _ _ _ _ _ _ _ | exact spec_l17Ok.F_lim _ | refine Lim.ite ?_ ?_ | refine Lim.bind ?_ (fun _ => ?_)

noncomputable def spec_DrawHelmOf.F (l0 : List Int) : Option ((List (S45)) × Int × Int × Int × Int) := lim (fun k => spec_DrawHelmOf.f k l0)
theorem spec_DrawHelmOf.F_lim (l0 : List Int) : Lim (fun k => spec_DrawHelmOf.f k l0) (spec_DrawHelmOf.F l0) := Lim.of (fun k => spec_DrawHelmOf.mono l0 k)
theorem spec_DrawHelmOf.F_eq (l0 : List Int) : spec_DrawHelmOf.F l0 = (spec_l00From.f l0).bind fun l => ((spec_l17Bent.F l.1 l.2.1 l.2.2).bind fun b => ((spec_l17DrawRange.F l.1 b.2.2.2.1 b.2.2.2.2).bind fun n => (some (b.1, b.2.1, b.2.2.1, n.1, n.2.1)))) := by
  refine Lim.eq (g := fun k => spec_DrawHelmOf.f k l0) ?_
  unfold spec_DrawHelmOf.f
  repeat' with_reducible first | exact Lim.const _ | exact spec_l17Bent.F_lim _ _ _ | exact spec_l17DrawRange.F_lim _ _ _ | refine Lim.ite ?_ ?_ | refine Lim.bind ?_ (fun _ => ?_)

noncomputable def impl_HelmOf.J0 (q s : Int) (o : Bool) (b : List (S45)) (l n : Int) : Option (ByteArray × Int) := lim (fun k => impl_HelmOf.j0 k q s o b l n)
theorem impl_HelmOf.J0_lim (q s : Int) (o : Bool) (b : List (S45)) (l n : Int) : Lim (fun k => impl_HelmOf.j0 k q s o b l n) (impl_HelmOf.J0 q s o b l n) := Lim.of (fun k => (impl_HelmOf.mono_l k) q s o b l n)
noncomputable def impl_HelmOf.F (b : List (S45)) (l n o q : Int) : Option (ByteArray × Int) := lim (fun k => impl_HelmOf.f k b l n o q)
theorem impl_HelmOf.F_lim (b : List (S45)) (l n o q : Int) : Lim (fun k => impl_HelmOf.f k b l n o q) (impl_HelmOf.F b l n o q) := Lim.of (fun k => impl_HelmOf.mono b l n o q k)
theorem impl_HelmOf.J0_eq (s u : Int) (o : Bool) (b : List (S45)) (l n : Int) : impl_HelmOf.J0 s u o b l n = if o = true then (some ((⟨#[]⟩ : ByteArray), 2)) else ((impl_helmOf.F b l n s u).bind fun q => (if q.toList = ([] : List UInt8) then (some ((⟨#[]⟩ : ByteArray), 3)) else (some (q, 0)))) := by
  refine Lim.next (fun k => (impl_HelmOf.mono_l k) s u o b l n) ?_
  simp only [impl_HelmOf.j0]
  repeat' with_reducible first | exact Lim.const _ | exact impl_helmOf.F_lim _ _ _ _ _ | refine Lim.ite ?_ ?_ | refine Lim.bind ?_ (fun _ => ?_)
theorem impl_HelmOf.F_eq (b : List (S45)) (l n o q : Int) : impl_HelmOf.F b l n o q = (impl_ValidPlan.F b l n).bind fun s => (if s = true then (if o < (-1000) then (impl_HelmOf.J0 o q true b l n) else (if o > q then (impl_HelmOf.J0 o q true b l n) else (impl_HelmOf.J0 o q (decide (q > 1000)) b l n))) else (some ((⟨#[]⟩ : ByteArray), 1))) := by
  refine Lim.eq (g := fun k => impl_HelmOf.f k b l n o q) ?_
  unfold impl_HelmOf.f
  repeat' with_reducible first | exact Lim.const _ | exact impl_HelmOf.J0_lim _ _ _ _ _ _ | exact impl_ValidPlan.F_lim _ _ _ | refine Lim.ite ?_ ?_ | refine Lim.bind ?_ (fun _ => ?_)

noncomputable def spec_l17Code.F (l0 : List (S26)) : Option (Int) := lim (fun k => spec_l17Code.f k l0)
theorem spec_l17Code.F_lim (l0 : List (S26)) : Lim (fun k => spec_l17Code.f k l0) (spec_l17Code.F l0) := Lim.of (fun k => spec_l17Code.mono l0 k)
theorem spec_l17Code.F_eq (l0 : List (S26)) : spec_l17Code.F l0 = if 0 < (l0.length : Int) then ((spec_l17Ok.F l0).bind fun b => (if b = true then ((spec_l17Area.F l0).bind fun l => (if l = 0 then (some 3) else (some 0))) else (some 1))) else (none) := by
  refine Lim.eq (g := fun k => spec_l17Code.f k l0) ?_
  unfold spec_l17Code.f
  repeat' with_reducible first | exact Lim.const _ | exact spec_l17Area.F_lim _ | exact spec_l17Ok.F_lim _ | refine Lim.ite ?_ ?_ | refine Lim.bind ?_ (fun _ => ?_)

noncomputable def spec_HelmOf.F (b : List (S45)) (l n o q : Int) : Option (ByteArray × Int) := lim (fun k => spec_HelmOf.f k b l n o q)
theorem spec_HelmOf.F_lim (b : List (S45)) (l n o q : Int) : Lim (fun k => spec_HelmOf.f k b l n o q) (spec_HelmOf.F b l n o q) := Lim.of (fun k => spec_HelmOf.mono b l n o q k)
theorem spec_HelmOf.F_eq (b : List (S45)) (l n q s : Int) : spec_HelmOf.F b l n q s = (spec_l17Code.F [(⟨b, l, n⟩ : S26)]).bind fun o => (if o = 1 then (some ((⟨#[]⟩ : ByteArray), o)) else ((spec_l17Range.f q s).bind fun u => (if u = true then (if o = 0 then ((spec_l17Helm.F [(⟨b, l, n⟩ : S26)] q s).bind fun x => (some (x, 0))) else (some ((⟨#[]⟩ : ByteArray), o))) else (some ((⟨#[]⟩ : ByteArray), 2))))) := by
  refine Lim.eq (g := fun k => spec_HelmOf.f k b l n q s) ?_
  unfold spec_HelmOf.f
  repeat' with_reducible first | exact Lim.const _ | exact spec_l17Code.F_lim _ | exact spec_l17Helm.F_lim _ _ _ | refine Lim.ite ?_ ?_ | refine Lim.bind ?_ (fun _ => ?_)

noncomputable def spec_DrawOverlapsOf.F (l0 : List Int) : Option ((List (S45)) × Int × Int) := lim (fun k => spec_DrawOverlapsOf.f k l0)
theorem spec_DrawOverlapsOf.F_lim (l0 : List Int) : Lim (fun k => spec_DrawOverlapsOf.f k l0) (spec_DrawOverlapsOf.F l0) := Lim.of (fun k => spec_DrawOverlapsOf.mono l0 k)
theorem spec_DrawOverlapsOf.F_eq (l0 : List Int) : spec_DrawOverlapsOf.F l0 = (spec_l00From.f l0).bind fun b => ((spec_l17Bent.F b.1 b.2.1 b.2.2).bind fun l => (some (l.1, l.2.1, l.2.2.1))) := by
  refine Lim.eq (g := fun k => spec_DrawOverlapsOf.f k l0) ?_
  unfold spec_DrawOverlapsOf.f
  repeat' with_reducible first | exact Lim.const _ | exact spec_l17Bent.F_lim _ _ _ | refine Lim.ite ?_ ?_ | refine Lim.bind ?_ (fun _ => ?_)

noncomputable def impl_OverlapsOf.L0 (u : List (List Int)) (o : List (S45)) (q s : Int) (b : List (S45)) (l n : Int) : Option ((List (List Int)) × Int) := lim (fun k => impl_OverlapsOf.l0 k u o q s b l n)
theorem impl_OverlapsOf.L0_lim (u : List (List Int)) (o : List (S45)) (q s : Int) (b : List (S45)) (l n : Int) : Lim (fun k => impl_OverlapsOf.l0 k u o q s b l n) (impl_OverlapsOf.L0 u o q s b l n) := Lim.of (fun k => (impl_OverlapsOf.mono_l k).1 u o q s b l n)
noncomputable def impl_OverlapsOf.L1 (z : List (List Int)) (B D : Int) (u : List (S45)) (x y : Int) (b : List (S45)) (l n : Int) (o : ByteArray) (q : List (S70)) (s : Bool) : Option ((List (List Int)) × Int) := lim (fun k => impl_OverlapsOf.l1 k z B D u x y b l n o q s)
theorem impl_OverlapsOf.L1_lim (z : List (List Int)) (B D : Int) (u : List (S45)) (x y : Int) (b : List (S45)) (l n : Int) (o : ByteArray) (q : List (S70)) (s : Bool) : Lim (fun k => impl_OverlapsOf.l1 k z B D u x y b l n o q s) (impl_OverlapsOf.L1 z B D u x y b l n o q s) := Lim.of (fun k => (impl_OverlapsOf.mono_l k).2 z B D u x y b l n o q s)
noncomputable def impl_OverlapsOf.F (b : List (S45)) (l n : Int) : Option ((List (List Int)) × Int) := lim (fun k => impl_OverlapsOf.f k b l n)
theorem impl_OverlapsOf.F_lim (b : List (S45)) (l n : Int) : Lim (fun k => impl_OverlapsOf.f k b l n) (impl_OverlapsOf.F b l n) := Lim.of (fun k => impl_OverlapsOf.mono b l n k)
theorem impl_OverlapsOf.L0_eq (u : List (List Int)) (q : List (S45)) (s b : Int) (l : List (S45)) (n o : Int) : impl_OverlapsOf.L0 u q s b l n o = if b < s then (if 0 ≤ b then (if b < (q.length : Int) then (impl_OverlapsOf.L1 u b (wrap64 (b + 1)) q s b l n o ((rd_T45 q b).f0) ((rd_T45 q b).f1) ((rd_T45 q b).f2)) else (none)) else (none)) else (some (u, 0)) := by
  refine Lim.next (fun k => (impl_OverlapsOf.mono_l k).1 u q s b l n o) ?_
  simp only [impl_OverlapsOf.l0]
  repeat' with_reducible first | exact Lim.const _ | exact impl_OverlapsOf.L1_lim _ _ _ _ _ _ _ _ _ _ _ _ | refine Lim.ite ?_ ?_ | refine Lim.bind ?_ (fun _ => ?_)
theorem impl_OverlapsOf.L1_eq (B : List (List Int)) (D u : Int) (x : List (S45)) (y z : Int) (b : List (S45)) (l n : Int) (s : ByteArray) (o : List (S70)) (q : Bool) : impl_OverlapsOf.L1 B D u x y z b l n s o q = if u < (b.length : Int) then (if q = true then (if 0 ≤ u then (if (rd_T45 b u).f2 = true then ((impl_boxesMeet.f o ((rd_T45 b u).f1)).bind fun E => (if E = true then (if B.length < 5864062014805 then (impl_OverlapsOf.L1 (B ++ [(([D, u] : List Int))]) D (wrap64 (u + 1)) x y z b l n s o q) else (none)) else (impl_OverlapsOf.L1 B D (wrap64 (u + 1)) x y z b l n s o q))) else (impl_OverlapsOf.L1 B D (wrap64 (u + 1)) x y z b l n s o q)) else (none)) else (impl_OverlapsOf.L1 B D (wrap64 (u + 1)) x y z b l n s o q)) else (impl_OverlapsOf.L0 B x y (wrap64 (z + 1)) b l n) := by
  refine Lim.next (fun k => (impl_OverlapsOf.mono_l k).2 B D u x y z b l n s o q) ?_
  simp only [impl_OverlapsOf.l1]
  repeat' with_reducible first | exact Lim.const _ | exact impl_OverlapsOf.L0_lim _ _ _ _ _ _ _ | exact impl_OverlapsOf.L1_lim _ _ _ _ _ _ _ _ _ _ _ _ | refine Lim.ite ?_ ?_ | refine Lim.bind ?_ (fun _ => ?_)
theorem impl_OverlapsOf.F_eq (b : List (S45)) (l n : Int) : impl_OverlapsOf.F b l n = (impl_ValidPlan.F b l n).bind fun o => (if o = true then (impl_OverlapsOf.L0 (([] : List (List Int))) b (b.length : Int) 0 b l n) else (some (([] : List (List Int)), 1))) := by
  refine Lim.eq (g := fun k => impl_OverlapsOf.f k b l n) ?_
  unfold impl_OverlapsOf.f
  repeat' with_reducible first | exact Lim.const _ | exact impl_OverlapsOf.L0_lim _ _ _ _ _ _ _ | exact impl_ValidPlan.F_lim _ _ _ | refine Lim.ite ?_ ?_ | refine Lim.bind ?_ (fun _ => ?_)

noncomputable def spec_l17Box.L0 (q : List (S70)) (s b l n o : Int) : Option (Int × Int × Int × Int) := lim (fun k => spec_l17Box.l0 k q s b l n o)
theorem spec_l17Box.L0_lim (q : List (S70)) (s b l n o : Int) : Lim (fun k => spec_l17Box.l0 k q s b l n o) (spec_l17Box.L0 q s b l n o) := Lim.of (fun k => (spec_l17Box.mono_l k) q s b l n o)
noncomputable def spec_l17Box.F (l0 : List (S70)) : Option (Int × Int × Int × Int) := lim (fun k => spec_l17Box.f k l0)
theorem spec_l17Box.F_lim (l0 : List (S70)) : Lim (fun k => spec_l17Box.f k l0) (spec_l17Box.F l0) := Lim.of (fun k => spec_l17Box.mono l0 k)
theorem spec_l17Box.L0_eq (s : List (S70)) (q b l n o : Int) : spec_l17Box.L0 s q b l n o = if q < (s.length : Int) then (if 0 ≤ q then ((spec_l00Min.f b ((rd_T70 s q).f0)).bind fun u => ((spec_l00Min.f l ((rd_T70 s q).f1)).bind fun x => ((spec_l00Max.f n ((rd_T70 s q).f0)).bind fun y => ((spec_l00Max.f o ((rd_T70 s q).f1)).bind fun z => (spec_l17Box.L0 s (wrap64 (q + 1)) u x y z))))) else (none)) else (some (b, l, n, o)) := by
  refine Lim.next (fun k => (spec_l17Box.mono_l k) s q b l n o) ?_
  simp only [spec_l17Box.l0]
  repeat' with_reducible first | exact Lim.const _ | exact spec_l17Box.L0_lim _ _ _ _ _ _ | refine Lim.ite ?_ ?_ | refine Lim.bind ?_ (fun _ => ?_)
theorem spec_l17Box.F_eq (l0 : List (S70)) : spec_l17Box.F l0 = if 0 < (l0.length : Int) then (spec_l17Box.L0 l0 1 ((rd_T70 l0 0).f0) ((rd_T70 l0 0).f1) ((rd_T70 l0 0).f0) ((rd_T70 l0 0).f1)) else (none) := by
  refine Lim.eq (g := fun k => spec_l17Box.f k l0) ?_
  unfold spec_l17Box.f
  repeat' with_reducible first | exact Lim.const _ | exact spec_l17Box.L0_lim _ _ _ _ _ _ | refine Lim.ite ?_ ?_ | refine Lim.bind ?_ (fun _ => ?_)

noncomputable def spec_OverlapsOf.L0 (o : List (List Int)) (q : Int) (b : List (S45)) (l n : Int) : Option ((List (List Int)) × Int) := lim (fun k => spec_OverlapsOf.l0 k o q b l n)
theorem spec_OverlapsOf.L0_lim (o : List (List Int)) (q : Int) (b : List (S45)) (l n : Int) : Lim (fun k => spec_OverlapsOf.l0 k o q b l n) (spec_OverlapsOf.L0 o q b l n) := Lim.of (fun k => (spec_OverlapsOf.mono_l k).1 o q b l n)
noncomputable def spec_OverlapsOf.L1 (x : List (List Int)) (y z : Int) (b : List (S45)) (l n o q s u : Int) : Option ((List (List Int)) × Int) := lim (fun k => spec_OverlapsOf.l1 k x y z b l n o q s u)
theorem spec_OverlapsOf.L1_lim (x : List (List Int)) (y z : Int) (b : List (S45)) (l n o q s u : Int) : Lim (fun k => spec_OverlapsOf.l1 k x y z b l n o q s u) (spec_OverlapsOf.L1 x y z b l n o q s u) := Lim.of (fun k => (spec_OverlapsOf.mono_l k).2 x y z b l n o q s u)
noncomputable def spec_OverlapsOf.F (b : List (S45)) (l n : Int) : Option ((List (List Int)) × Int) := lim (fun k => spec_OverlapsOf.f k b l n)
theorem spec_OverlapsOf.F_lim (b : List (S45)) (l n : Int) : Lim (fun k => spec_OverlapsOf.f k b l n) (spec_OverlapsOf.F b l n) := Lim.of (fun k => spec_OverlapsOf.mono b l n k)
theorem spec_OverlapsOf.L0_eq (s : List (List Int)) (q : Int) (b : List (S45)) (l n : Int) : spec_OverlapsOf.L0 s q b l n = if q < (b.length : Int) then (if 0 ≤ q then ((spec_l17Box.F ((rd_T45 b q).f1)).bind fun o => (spec_OverlapsOf.L1 s q (wrap64 (q + 1)) b l n o.1 o.2.1 o.2.2.1 o.2.2.2)) else (none)) else (some (s, 0)) := by
  refine Lim.next (fun k => (spec_OverlapsOf.mono_l k).1 s q b l n) ?_
  simp only [spec_OverlapsOf.l0]
  repeat' with_reducible first | exact Lim.const _ | exact spec_OverlapsOf.L1_lim _ _ _ _ _ _ _ _ _ _ | exact spec_l17Box.F_lim _ | refine Lim.ite ?_ ?_ | refine Lim.bind ?_ (fun _ => ?_)
theorem spec_OverlapsOf.L1_eq (B : List (List Int)) (x y : Int) (b : List (S45)) (l n o q s u : Int) : spec_OverlapsOf.L1 B x y b l n o q s u = if y < (b.length : Int) then (if 0 ≤ y then ((spec_l17Box.F ((rd_T45 b y).f1)).bind fun z => (if 0 ≤ x then (if x < (b.length : Int) then (if (rd_T45 b x).f2 = true then (if (rd_T45 b y).f2 = true then (if o < z.2.2.1 then (if z.1 < s then (if q < z.2.2.2 then (if z.2.1 < u then (if B.length < 5864062014805 then (spec_OverlapsOf.L1 (B ++ [(([x, y] : List Int))]) x (wrap64 (y + 1)) b l n o q s u) else (none)) else (spec_OverlapsOf.L1 B x (wrap64 (y + 1)) b l n o q s u)) else (spec_OverlapsOf.L1 B x (wrap64 (y + 1)) b l n o q s u)) else (spec_OverlapsOf.L1 B x (wrap64 (y + 1)) b l n o q s u)) else (spec_OverlapsOf.L1 B x (wrap64 (y + 1)) b l n o q s u)) else (spec_OverlapsOf.L1 B x (wrap64 (y + 1)) b l n o q s u)) else (spec_OverlapsOf.L1 B x (wrap64 (y + 1)) b l n o q s u)) else (none)) else (none))) else (none)) else (spec_OverlapsOf.L0 B (wrap64 (x + 1)) b l n) := by
  refine Lim.next (fun k => (spec_OverlapsOf.mono_l k).2 B x y b l n o q s u) ?_
  simp only [spec_OverlapsOf.l1]
  repeat' with_reducible first | exact Lim.const _ | exact spec_OverlapsOf.L0_lim _ _ _ _ _ | exact spec_OverlapsOf.L1_lim _ _ _ _ _ _ _ _ _ _ | exact spec_l17Box.F_lim _ | refine Lim.ite ?_ ?_ | refine Lim.bind ?_ (fun _ => ?_)
theorem spec_OverlapsOf.F_eq (b : List (S45)) (l n : Int) : spec_OverlapsOf.F b l n = (spec_l17Ok.F [(⟨b, l, n⟩ : S26)]).bind fun o => (if o = true then (spec_OverlapsOf.L0 (([] : List (List Int))) 0 b l n) else (some (([] : List (List Int)), 1))) := by
  refine Lim.eq (g := fun k => spec_OverlapsOf.f k b l n) ?_
  unfold spec_OverlapsOf.f
  repeat' with_reducible first | exact Lim.const _ | exact spec_OverlapsOf.L0_lim _ _ _ _ _ | exact spec_l17Ok.F_lim _ | refine Lim.ite ?_ ?_ | refine Lim.bind ?_ (fun _ => ?_)

noncomputable def laws_f6texts.L0 (b l : List ByteArray) (n : Int) : Option (Bool) := lim (fun k => laws_f6texts.l0 k b l n)
theorem laws_f6texts.L0_lim (b l : List ByteArray) (n : Int) : Lim (fun k => laws_f6texts.l0 k b l n) (laws_f6texts.L0 b l n) := Lim.of (fun k => (laws_f6texts.mono_l k) b l n)
noncomputable def laws_f6texts.F (l0 l1 : List ByteArray) : Option (Bool) := lim (fun k => laws_f6texts.f k l0 l1)
theorem laws_f6texts.F_lim (l0 l1 : List ByteArray) : Lim (fun k => laws_f6texts.f k l0 l1) (laws_f6texts.F l0 l1) := Lim.of (fun k => laws_f6texts.mono l0 l1 k)
theorem laws_f6texts.L0_eq (l n : List ByteArray) (b : Int) : laws_f6texts.L0 l n b = if b < (l.length : Int) then (if 0 ≤ b then (if b < (n.length : Int) then (if (rdOf ByteArray.empty l b).toList = (rdOf ByteArray.empty n b).toList then (laws_f6texts.L0 l n (wrap64 (b + 1))) else (some false)) else (none)) else (none)) else (some true) := by
  refine Lim.next (fun k => (laws_f6texts.mono_l k) l n b) ?_
  simp only [laws_f6texts.l0]
  repeat' with_reducible first | exact Lim.const _ | exact laws_f6texts.L0_lim _ _ _ | refine Lim.ite ?_ ?_ | refine Lim.bind ?_ (fun _ => ?_)
theorem laws_f6texts.F_eq (l0 l1 : List ByteArray) : laws_f6texts.F l0 l1 = if (l0.length : Int) = (l1.length : Int) then (laws_f6texts.L0 l0 l1 0) else (some false) := by
  refine Lim.eq (g := fun k => laws_f6texts.f k l0 l1) ?_
  unfold laws_f6texts.f
  repeat' with_reducible first | exact Lim.const _ | exact laws_f6texts.L0_lim _ _ _ | refine Lim.ite ?_ ?_ | refine Lim.bind ?_ (fun _ => ?_)

noncomputable def laws_f6ints.L0 (b l : List Int) (n : Int) : Option (Bool) := lim (fun k => laws_f6ints.l0 k b l n)
theorem laws_f6ints.L0_lim (b l : List Int) (n : Int) : Lim (fun k => laws_f6ints.l0 k b l n) (laws_f6ints.L0 b l n) := Lim.of (fun k => (laws_f6ints.mono_l k) b l n)
noncomputable def laws_f6ints.F (l0 l1 : List Int) : Option (Bool) := lim (fun k => laws_f6ints.f k l0 l1)
theorem laws_f6ints.F_lim (l0 l1 : List Int) : Lim (fun k => laws_f6ints.f k l0 l1) (laws_f6ints.F l0 l1) := Lim.of (fun k => laws_f6ints.mono l0 l1 k)
theorem laws_f6ints.L0_eq (l n : List Int) (b : Int) : laws_f6ints.L0 l n b = if b < (l.length : Int) then (if 0 ≤ b then (if b < (n.length : Int) then (if (rd l b) = (rd n b) then (laws_f6ints.L0 l n (wrap64 (b + 1))) else (some false)) else (none)) else (none)) else (some true) := by
  refine Lim.next (fun k => (laws_f6ints.mono_l k) l n b) ?_
  simp only [laws_f6ints.l0]
  repeat' with_reducible first | exact Lim.const _ | exact laws_f6ints.L0_lim _ _ _ | refine Lim.ite ?_ ?_ | refine Lim.bind ?_ (fun _ => ?_)
theorem laws_f6ints.F_eq (l0 l1 : List Int) : laws_f6ints.F l0 l1 = if (l0.length : Int) = (l1.length : Int) then (laws_f6ints.L0 l0 l1 0) else (some false) := by
  refine Lim.eq (g := fun k => laws_f6ints.f k l0 l1) ?_
  unfold laws_f6ints.f
  repeat' with_reducible first | exact Lim.const _ | exact laws_f6ints.L0_lim _ _ _ | refine Lim.ite ?_ ?_ | refine Lim.bind ?_ (fun _ => ?_)

noncomputable def laws_f6lists.L0 (b l : List (List Int)) (n : Int) : Option (Bool) := lim (fun k => laws_f6lists.l0 k b l n)
theorem laws_f6lists.L0_lim (b l : List (List Int)) (n : Int) : Lim (fun k => laws_f6lists.l0 k b l n) (laws_f6lists.L0 b l n) := Lim.of (fun k => (laws_f6lists.mono_l k) b l n)
noncomputable def laws_f6lists.F (l0 l1 : List (List Int)) : Option (Bool) := lim (fun k => laws_f6lists.f k l0 l1)
theorem laws_f6lists.F_lim (l0 l1 : List (List Int)) : Lim (fun k => laws_f6lists.f k l0 l1) (laws_f6lists.F l0 l1) := Lim.of (fun k => laws_f6lists.mono l0 l1 k)
theorem laws_f6lists.L0_eq (l n : List (List Int)) (b : Int) : laws_f6lists.L0 l n b = if b < (l.length : Int) then (if 0 ≤ b then (if b < (n.length : Int) then ((laws_f6ints.F (rd_L9 l b) (rd_L9 n b)).bind fun o => (if o = true then (laws_f6lists.L0 l n (wrap64 (b + 1))) else (some false))) else (none)) else (none)) else (some true) := by
  refine Lim.next (fun k => (laws_f6lists.mono_l k) l n b) ?_
  simp only [laws_f6lists.l0]
  repeat' with_reducible first | exact Lim.const _ | exact laws_f6ints.F_lim _ _ | exact laws_f6lists.L0_lim _ _ _ | refine Lim.ite ?_ ?_ | refine Lim.bind ?_ (fun _ => ?_)
theorem laws_f6lists.F_eq (l0 l1 : List (List Int)) : laws_f6lists.F l0 l1 = if (l0.length : Int) = (l1.length : Int) then (laws_f6lists.L0 l0 l1 0) else (some false) := by
  refine Lim.eq (g := fun k => laws_f6lists.f k l0 l1) ?_
  unfold laws_f6lists.f
  repeat' with_reducible first | exact Lim.const _ | exact laws_f6lists.L0_lim _ _ _ | refine Lim.ite ?_ ?_ | refine Lim.bind ?_ (fun _ => ?_)

noncomputable def laws_f6word.L0 (b : List ByteArray) (l : ByteArray) (n : Int) : Option (Bool) := lim (fun k => laws_f6word.l0 k b l n)
theorem laws_f6word.L0_lim (b : List ByteArray) (l : ByteArray) (n : Int) : Lim (fun k => laws_f6word.l0 k b l n) (laws_f6word.L0 b l n) := Lim.of (fun k => (laws_f6word.mono_l k) b l n)
noncomputable def laws_f6word.F (l0 : List ByteArray) (b : ByteArray) : Option (Bool) := lim (fun k => laws_f6word.f k l0 b)
theorem laws_f6word.F_lim (l0 : List ByteArray) (b : ByteArray) : Lim (fun k => laws_f6word.f k l0 b) (laws_f6word.F l0 b) := Lim.of (fun k => laws_f6word.mono l0 b k)
theorem laws_f6word.L0_eq (l : List ByteArray) (n : ByteArray) (b : Int) : laws_f6word.L0 l n b = if b < (l.length : Int) then (if 0 ≤ b then (if (rdOf ByteArray.empty l b).toList = n.toList then (some true) else (laws_f6word.L0 l n (wrap64 (b + 1)))) else (none)) else (some false) := by
  refine Lim.next (fun k => (laws_f6word.mono_l k) l n b) ?_
  simp only [laws_f6word.l0]
  repeat' with_reducible first | exact Lim.const _ | exact laws_f6word.L0_lim _ _ _ | refine Lim.ite ?_ ?_ | refine Lim.bind ?_ (fun _ => ?_)
theorem laws_f6word.F_eq (l0 : List ByteArray) (b : ByteArray) : laws_f6word.F l0 b = laws_f6word.L0 l0 b 0 := by
  refine Lim.eq (g := fun k => laws_f6word.f k l0 b) ?_
  unfold laws_f6word.f
  repeat' with_reducible first | exact Lim.const _ | exact laws_f6word.L0_lim _ _ _ | refine Lim.ite ?_ ?_ | refine Lim.bind ?_ (fun _ => ?_)

noncomputable def impl_PlanArea.F (b : List (S45)) (l n : Int) : Option (Int × Int) := lim (fun k => impl_PlanArea.f k b l n)
theorem impl_PlanArea.F_lim (b : List (S45)) (l n : Int) : Lim (fun k => impl_PlanArea.f k b l n) (impl_PlanArea.F b l n) := Lim.of (fun k => impl_PlanArea.mono b l n k)
theorem impl_PlanArea.F_eq (b : List (S45)) (l n : Int) : impl_PlanArea.F b l n = (impl_ValidPlan.F b l n).bind fun q => (if q = true then ((impl_planSums.F b l n).bind fun o => (some (o.1, 0))) else (some (0, 1))) := by
  refine Lim.eq (g := fun k => impl_PlanArea.f k b l n) ?_
  unfold impl_PlanArea.f
  repeat' with_reducible first | exact Lim.const _ | exact impl_ValidPlan.F_lim _ _ _ | exact impl_planSums.F_lim _ _ _ | refine Lim.ite ?_ ?_ | refine Lim.bind ?_ (fun _ => ?_)

noncomputable def laws_FnSailSets.J0 (U X Y Z : Int) (x9 : List ByteArray) (B D : Int) (E : ByteArray) (I : Int) (O : List (List Int)) (z : Bool) (b : List (S45)) (l n : Int) (o : List (S45)) (q s : Int) (u : List (S45)) (x y : Int) : Option (Bool) := lim (fun k => laws_FnSailSets.j0 k U X Y Z x9 B D E I O z b l n o q s u x y)
theorem laws_FnSailSets.J0_lim (U X Y Z : Int) (x9 : List ByteArray) (B D : Int) (E : ByteArray) (I : Int) (O : List (List Int)) (z : Bool) (b : List (S45)) (l n : Int) (o : List (S45)) (q s : Int) (u : List (S45)) (x y : Int) : Lim (fun k => laws_FnSailSets.j0 k U X Y Z x9 B D E I O z b l n o q s u x y) (laws_FnSailSets.J0 U X Y Z x9 B D E I O z b l n o q s u x y) := Lim.of (fun k => (laws_FnSailSets.mono_l k).1 U X Y Z x9 B D E I O z b l n o q s u x y)
noncomputable def laws_FnSailSets.L0 (U X Y Z : Int) (x9 : List ByteArray) (z B : Int) (D : ByteArray) (E : Int) (I : List (List Int)) (O : Int) (b : List (S45)) (l n : Int) (o : List (S45)) (q s : Int) (u : List (S45)) (x y : Int) : Option (Bool) := lim (fun k => laws_FnSailSets.l0 k U X Y Z x9 z B D E I O b l n o q s u x y)
theorem laws_FnSailSets.L0_lim (U X Y Z : Int) (x9 : List ByteArray) (z B : Int) (D : ByteArray) (E : Int) (I : List (List Int)) (O : Int) (b : List (S45)) (l n : Int) (o : List (S45)) (q s : Int) (u : List (S45)) (x y : Int) : Lim (fun k => laws_FnSailSets.l0 k U X Y Z x9 z B D E I O b l n o q s u x y) (laws_FnSailSets.L0 U X Y Z x9 z B D E I O b l n o q s u x y) := Lim.of (fun k => (laws_FnSailSets.mono_l k).2.1 U X Y Z x9 z B D E I O b l n o q s u x y)
noncomputable def laws_FnSailSets.J2 (z B D E : Int) (I : List ByteArray) (x y : Int) (u : Bool) (b : List (S45)) (l n : Int) (o : List (S45)) (q s : Int) : Option (Bool) := lim (fun k => laws_FnSailSets.j2 k z B D E I x y u b l n o q s)
theorem laws_FnSailSets.J2_lim (z B D E : Int) (I : List ByteArray) (x y : Int) (u : Bool) (b : List (S45)) (l n : Int) (o : List (S45)) (q s : Int) : Lim (fun k => laws_FnSailSets.j2 k z B D E I x y u b l n o q s) (laws_FnSailSets.J2 z B D E I x y u b l n o q s) := Lim.of (fun k => (laws_FnSailSets.mono_l k).2.2.1 z B D E I x y u b l n o q s)
noncomputable def laws_FnSailSets.J3 (o q s u : Int) (x : List ByteArray) (b : List (S45)) (l n : Int) : Option (Bool) := lim (fun k => laws_FnSailSets.j3 k o q s u x b l n)
theorem laws_FnSailSets.J3_lim (o q s u : Int) (x : List ByteArray) (b : List (S45)) (l n : Int) : Lim (fun k => laws_FnSailSets.j3 k o q s u x b l n) (laws_FnSailSets.J3 o q s u x b l n) := Lim.of (fun k => (laws_FnSailSets.mono_l k).2.2.2.1 o q s u x b l n)
noncomputable def laws_FnSailSets.L1 (x y z : Int) (B : List ByteArray) (u : Int) (b : List (S45)) (l n : Int) (o : List (S45)) (q s : Int) : Option (Bool) := lim (fun k => laws_FnSailSets.l1 k x y z B u b l n o q s)
theorem laws_FnSailSets.L1_lim (x y z : Int) (B : List ByteArray) (u : Int) (b : List (S45)) (l n : Int) (o : List (S45)) (q s : Int) : Lim (fun k => laws_FnSailSets.l1 k x y z B u b l n o q s) (laws_FnSailSets.L1 x y z B u b l n o q s) := Lim.of (fun k => (laws_FnSailSets.mono_l k).2.2.2.2 x y z B u b l n o q s)
noncomputable def laws_FnSailSets.F (l0 : List Int) : Option (Bool) := lim (fun k => laws_FnSailSets.f k l0)
theorem laws_FnSailSets.F_lim (l0 : List Int) : Lim (fun k => laws_FnSailSets.f k l0) (laws_FnSailSets.F l0) := Lim.of (fun k => laws_FnSailSets.mono l0 k)
theorem laws_FnSailSets.J0_eq (U X Y Z : Int) (x9 : List ByteArray) (B D : Int) (E : ByteArray) (I : Int) (O : List (List Int)) (z : Bool) (b : List (S45)) (l n : Int) (o : List (S45)) (q s : Int) (u : List (S45)) (x y : Int) : laws_FnSailSets.J0 U X Y Z x9 B D E I O z b l n o q s u x y = if z = true then (some false) else (laws_FnSailSets.L0 U X Y Z x9 B D E I O 0 b l n o q s u x y) := by
  refine Lim.next (fun k => (laws_FnSailSets.mono_l k).1 U X Y Z x9 B D E I O z b l n o q s u x y) ?_
  simp only [laws_FnSailSets.j0]
  repeat' with_reducible first | exact Lim.const _ | exact laws_FnSailSets.L0_lim _ _ _ _ _ _ _ _ _ _ _ _ _ _ _ _ _ _ _ _ | refine Lim.ite ?_ ?_ | refine Lim.bind ?_ (fun _ => ?_)
theorem laws_FnSailSets.L0_eq (U X Y Z : Int) (x9 : List ByteArray) (D E : Int) (I : ByteArray) (O : Int) (x : List (List Int)) (u : Int) (b : List (S45)) (l n : Int) (o : List (S45)) (q s : Int) (y : List (S45)) (z B : Int) : laws_FnSailSets.L0 U X Y Z x9 D E I O x u b l n o q s y z B = if u < (x.length : Int) then (if 0 ≤ u then (if ((rd_L9 x u).length : Int) = 2 then (if 0 < ((rd_L9 x u).length : Int) then (if (rd (rd_L9 x u) 0) < 0 then (some false) else (if 1 < ((rd_L9 x u).length : Int) then (if (rd (rd_L9 x u) 0) ≥ (rd (rd_L9 x u) 1) then (some false) else (if (rd (rd_L9 x u) 1) ≥ (y.length : Int) then (some false) else (laws_FnSailSets.L0 U X Y Z x9 D E I O x (wrap64 (u + 1)) b l n o q s y z B))) else (none))) else (none)) else (some false)) else (none)) else (if O = 0 then (laws_FnSailSets.J2 U X Y Z x9 D E (I.toList == ([98, 97, 108, 97, 110, 99, 101, 100] : List UInt8)) b l n o q s) else (laws_FnSailSets.J2 U X Y Z x9 D E false b l n o q s)) := by
  refine Lim.next (fun k => (laws_FnSailSets.mono_l k).2.1 U X Y Z x9 D E I O x u b l n o q s y z B) ?_
  simp only [laws_FnSailSets.l0]
  repeat' with_reducible first | exact Lim.const _ | exact laws_FnSailSets.J2_lim _ _ _ _ _ _ _ _ _ _ _ _ _ _ | exact laws_FnSailSets.L0_lim _ _ _ _ _ _ _ _ _ _ _ _ _ _ _ _ _ _ _ _ | refine Lim.ite ?_ ?_ | refine Lim.bind ?_ (fun _ => ?_)
theorem laws_FnSailSets.J2_eq (D E I O : Int) (U : List ByteArray) (z B : Int) (u : Bool) (b : List (S45)) (l n : Int) (o : List (S45)) (q s : Int) : laws_FnSailSets.J2 D E I O U z B u b l n o q s = if u = true then ((impl_HelmOf.F o q s (-1000) B).bind fun x => ((impl_HelmOf.F o q s z 1000).bind fun y => (if x.2 = 0 then (if x.1.toList = ([98, 97, 108, 97, 110, 99, 101, 100] : List UInt8) then (if y.2 = 0 then (if y.1.toList = ([98, 97, 108, 97, 110, 99, 101, 100] : List UInt8) then (laws_FnSailSets.J3 D E I O U b l n) else (some false)) else (some false)) else (some false)) else (some false)))) else (laws_FnSailSets.J3 D E I O U b l n) := by
  refine Lim.next (fun k => (laws_FnSailSets.mono_l k).2.2.1 D E I O U z B u b l n o q s) ?_
  simp only [laws_FnSailSets.j2]
  repeat' with_reducible first | exact Lim.const _ | exact impl_HelmOf.F_lim _ _ _ _ _ | exact laws_FnSailSets.J3_lim _ _ _ _ _ _ _ _ | refine Lim.ite ?_ ?_ | refine Lim.bind ?_ (fun _ => ?_)
theorem laws_FnSailSets.J3_eq (o q s u : Int) (x : List ByteArray) (n : List (S45)) (b l : Int) : laws_FnSailSets.J3 o q s u x n b l = if u = 0 then (laws_FnSailSets.L1 o q s x 0 n b l (([] : List (S45))) b l) else (some true) := by
  refine Lim.next (fun k => (laws_FnSailSets.mono_l k).2.2.2.1 o q s u x n b l) ?_
  simp only [laws_FnSailSets.j3]
  repeat' with_reducible first | exact Lim.const _ | exact laws_FnSailSets.L1_lim _ _ _ _ _ _ _ _ _ _ _ | refine Lim.ite ?_ ?_ | refine Lim.bind ?_ (fun _ => ?_)
theorem laws_FnSailSets.L1_eq (z B D : Int) (E : List ByteArray) (u : Int) (b : List (S45)) (q s : Int) (l : List (S45)) (n o : Int) : laws_FnSailSets.L1 z B D E u b q s l n o = if u < (b.length : Int) then (if 0 ≤ u then ((laws_f6word.F E ((rd_T45 b u).f0)).bind fun I => (if l.length < 2932031007402 then (laws_FnSailSets.L1 z B D E (wrap64 (u + 1)) b q s (l ++ [(⟨(rd_T45 b u).f0, (rd_T45 b u).f1, I⟩ : S45)]) n o) else (none))) else (none)) else ((impl_PlanArea.F l n o).bind fun x => ((impl_HelmOf.F l n o B D).bind fun y => (if x.2 = 0 then (if x.1 ≤ z then (if x.1 > 0 then (if y.2 = 0 then (some (y.1.toList == ([98, 97, 108, 97, 110, 99, 101, 100] : List UInt8))) else (some false)) else (some false)) else (some false)) else (some false)))) := by
  refine Lim.next (fun k => (laws_FnSailSets.mono_l k).2.2.2.2 z B D E u b q s l n o) ?_
  simp only [laws_FnSailSets.l1]
  repeat' with_reducible first | exact Lim.const _ | exact impl_HelmOf.F_lim _ _ _ _ _ | exact impl_PlanArea.F_lim _ _ _ | exact laws_FnSailSets.L1_lim _ _ _ _ _ _ _ _ _ _ _ | exact laws_f6word.F_lim _ _ | refine Lim.ite ?_ ?_ | refine Lim.bind ?_ (fun _ => ?_)
theorem laws_FnSailSets.F_eq (l0 : List Int) : laws_FnSailSets.F l0 = (laws_f6big.f l0).bind fun z => (if z = true then (some true) else ((spec_DrawBestSails.F l0).bind fun b => ((impl_BestSails.F b.1 b.2.1 b.2.2.1 b.2.2.2.1 b.2.2.2.2.1 b.2.2.2.2.2).bind fun q => ((spec_BestSails.F b.1 b.2.1 b.2.2.1 b.2.2.2.1 b.2.2.2.2.1 b.2.2.2.2.2).bind fun s => ((spec_DrawHelmOf.F l0).bind fun l => ((impl_HelmOf.F l.1 l.2.1 l.2.2.1 l.2.2.2.1 l.2.2.2.2).bind fun o => ((spec_HelmOf.F l.1 l.2.1 l.2.2.1 l.2.2.2.1 l.2.2.2.2).bind fun x => ((spec_DrawOverlapsOf.F l0).bind fun n => ((impl_OverlapsOf.F n.1 n.2.1 n.2.2).bind fun y => ((spec_OverlapsOf.F n.1 n.2.1 n.2.2).bind fun u => (if q.2 = s.2 then ((laws_f6texts.F q.1 s.1).bind fun B => (if B = true then (if o.2 = x.2 then (if o.1.toList = x.1.toList then (if y.2 = u.2 then ((laws_f6lists.F y.1 u.1).bind fun D => (laws_FnSailSets.J0 b.2.2.2.1 b.2.2.2.2.1 b.2.2.2.2.2 q.2 s.1 l.2.2.2.1 l.2.2.2.2 o.1 o.2 u.1 (!D) b.1 b.2.1 b.2.2.1 l.1 l.2.1 l.2.2.1 n.1 n.2.1 n.2.2)) else (laws_FnSailSets.J0 b.2.2.2.1 b.2.2.2.2.1 b.2.2.2.2.2 q.2 s.1 l.2.2.2.1 l.2.2.2.2 o.1 o.2 u.1 true b.1 b.2.1 b.2.2.1 l.1 l.2.1 l.2.2.1 n.1 n.2.1 n.2.2)) else (laws_FnSailSets.J0 b.2.2.2.1 b.2.2.2.2.1 b.2.2.2.2.2 q.2 s.1 l.2.2.2.1 l.2.2.2.2 o.1 o.2 u.1 true b.1 b.2.1 b.2.2.1 l.1 l.2.1 l.2.2.1 n.1 n.2.1 n.2.2)) else (laws_FnSailSets.J0 b.2.2.2.1 b.2.2.2.2.1 b.2.2.2.2.2 q.2 s.1 l.2.2.2.1 l.2.2.2.2 o.1 o.2 u.1 true b.1 b.2.1 b.2.2.1 l.1 l.2.1 l.2.2.1 n.1 n.2.1 n.2.2)) else (laws_FnSailSets.J0 b.2.2.2.1 b.2.2.2.2.1 b.2.2.2.2.2 q.2 s.1 l.2.2.2.1 l.2.2.2.2 o.1 o.2 u.1 true b.1 b.2.1 b.2.2.1 l.1 l.2.1 l.2.2.1 n.1 n.2.1 n.2.2))) else (laws_FnSailSets.J0 b.2.2.2.1 b.2.2.2.2.1 b.2.2.2.2.2 q.2 s.1 l.2.2.2.1 l.2.2.2.2 o.1 o.2 u.1 true b.1 b.2.1 b.2.2.1 l.1 l.2.1 l.2.2.1 n.1 n.2.1 n.2.2)))))))))))) := by
  refine Lim.eq (g := fun k => laws_FnSailSets.f k l0) ?_
  unfold laws_FnSailSets.f
  repeat' with_reducible first | exact Lim.const _ | exact impl_BestSails.F_lim _ _ _ _ _ _ | exact impl_HelmOf.F_lim _ _ _ _ _ | exact impl_OverlapsOf.F_lim _ _ _ | exact laws_FnSailSets.J0_lim _ _ _ _ _ _ _ _ _ _ _ _ _ _ _ _ _ _ _ _ | exact laws_f6lists.F_lim _ _ | exact laws_f6texts.F_lim _ _ | exact spec_BestSails.F_lim _ _ _ _ _ _ | exact spec_DrawBestSails.F_lim _ | exact spec_DrawHelmOf.F_lim _ | exact spec_DrawOverlapsOf.F_lim _ | exact spec_HelmOf.F_lim _ _ _ _ _ | exact spec_OverlapsOf.F_lim _ _ _ | refine Lim.ite ?_ ?_ | refine Lim.bind ?_ (fun _ => ?_)

end Go.Proofs.Ytgjpjildacnnjaa.PFnSailSets
