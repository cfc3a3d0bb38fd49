/-
  How an argument reads: what 'DataW.trod' tells of a value's cells, as the print's kinds ('Kd') tell it. Plain theorems over any program.
-/
import Derived.ChangeSame
import Derived.ChangeSlices
import Derived.ChangeMaps5
import Derived.DataReads
import Derived.WideShapes
import Derived.Test.YtendpecnfaojkaaDoorWWords
set_option linter.unusedVariables false
namespace Go.Proofs.YtendpecnfaojkaaDoor.Open
open Go.ChangeShapes Go.WideShapes Go.RowKit Go.Proofs.YtendpecnfaojkaaDoorW.PrintWords

/-- A value of type t reads as kind d says, and is good. -/
structure Opens {α : Type} (P : Program) (t : TypeId) (d : Kd α) (good : α → Prop) : Prop where
  out : ∀ {H : Type} (enc : TypeId × Value → H) (w : World) (base : Nat) (spare : Nat → Bool) (held : Bool) (fuel : Nat) (cs : List Value) (x : DataW H × List MemPlace),
    DataW.trod enc P w base spare held fuel t cs = some x → ∃ a : α, d.K w a cs ∧ good a

theorem opens_int {P : Program} {t : TypeId} {k : IntKind} (ht : P.underlying t = some (.int k)) : Opens P t (Kd.int k) (fun n => (Lit.int k n).wf = true) := by
  refine ⟨?_⟩
  intro H enc w base spare held fuel cs x h
  obtain ⟨n, rfl, _, hw⟩ := DataW.trod_int ht h
  exact ⟨n, rfl, hw⟩
theorem opens_bool {P : Program} {t : TypeId} (ht : P.underlying t = some .bool) : Opens P t Kd.bool (fun _ => True) := by
  refine ⟨?_⟩
  intro H enc w base spare held fuel cs x h
  obtain ⟨b, rfl, _⟩ := DataW.trod_bool ht h
  exact ⟨b, rfl, trivial⟩
theorem opens_string {P : Program} {t : TypeId} (ht : P.underlying t = some .string) : Opens P t Kd.string (fun s => s.size ≤ 9223372036854775807) := by
  refine ⟨?_⟩
  intro H enc w base spare held fuel cs x h
  obtain ⟨s, rfl, _, hs⟩ := DataW.trod_string ht h
  exact ⟨s, rfl, hs⟩

theorem list_of {α : Type} (Q : Nat → α → Prop) (n : Nat) (h : ∀ i, i < n → ∃ y, Q i y) : ∃ xs : List α, xs.length = n ∧ ∀ (j : Nat) (p : α), xs[j]? = some p → Q j p := by
  induction n with
  | zero => exact ⟨[], rfl, fun j p hj => by simp at hj⟩
  | succ n ih =>
    obtain ⟨xs, hl, hq⟩ := ih (fun i hi => h i (by omega))
    obtain ⟨y, hy⟩ := h n (by omega)
    refine ⟨xs ++ [y], by simp [hl], fun j p hj => ?_⟩
    by_cases hjn : j < n
    · rw [List.getElem?_append_left (by omega)] at hj
      exact hq j p hj
    · have hj2 : j = n := by
        have := (List.getElem?_eq_some_iff.1 hj).1
        simp at this
        omega
      subst hj2
      rw [List.getElem?_append_right (by omega), hl] at hj
      obtain rfl : y = p := by simpa using hj
      exact hy

theorem opens_slice {α : Type} {P : Program} {t e : TypeId} {d : Kd α} {good : α → Prop} (ht : P.underlying t = some (.slice e)) (he : P.cellsOf e = d.sz) (ho : Opens P e d good) :
    Opens P t (Kd.slice e d) (fun l => l.length ≤ 9223372036854775807 ∧ ∀ y ∈ l, good y) := by
  refine ⟨?_⟩
  intro H enc w base spare held fuel cs x h
  rcases DataW.trod_slice ht h with ⟨rfl, _⟩ | ⟨a, len, cap, elems, rest, n, _, rfl, rfl, hb, hl, hm, hlen, hel, hsp, hns⟩
  · exact ⟨[], ⟨none, 0, rfl, Nat.le_refl _, Kd.C_nil _ _⟩, by simp, by simp⟩
  · have key : ∀ i, i < len → ∃ y : α, good y ∧ ∃ c : List Value, c.length = d.sz ∧ d.K w y c ∧ ∀ j u, c[j]? = some u → w.cell? (a.add (i * d.sz + j)) = some u := by
      intro i hi
      have h1 := hel i hi
      have hi2 : i < elems.length := by omega
      rw [List.getElem?_eq_getElem hi2, Option.bind_eq_some_iff] at h1
      obtain ⟨c, hc, h2⟩ := h1
      obtain ⟨y, hK, hg⟩ := ho.out enc w base spare held n c _ h2
      obtain ⟨_, hcl, hat⟩ := World.cells?_some hc
      refine ⟨y, hg, c, by rw [hcl, he], hK, fun j u hu => ?_⟩
      have hj : j < P.cellsOf e := by rw [← hcl]; exact (List.getElem?_eq_some_iff.1 hu).1
      have h3 := hat j hj
      rw [hu, add_add, he] at h3
      exact h3
    obtain ⟨xs, hxl, hx⟩ := list_of _ len key
    unfold maxLen at hm
    refine ⟨xs, ⟨some a, cap, by rw [hxl], by omega, rfl, by omega, fun _ => ⟨a, rfl, fun j p hj => ?_⟩⟩, by omega, fun y hy => ?_⟩
    · exact (hx j p hj).2
    · obtain ⟨j, hj⟩ := List.getElem?_of_mem hy
      exact (hx j y hj).1

/-- A struct's fields from place i on, whose cells begin at o. -/
structure OpensAt {β : Type} (P : Program) (fs : Array Field) (i o : Nat) (d : Kd β) (good : β → Prop) : Prop where
  out : ∀ {H : Type} (enc : TypeId × Value → H) (w : World) (base : Nat) (spare : Nat → Bool) (held : Bool) (n : Nat) (cs : List Value) (xs : List (DataW H × List MemPlace)),
    cs.length = o + d.sz → xs.length = fs.size →
    (∀ (i : Nat) (f : Field), fs[i]? = some f → DataW.trod enc P w base spare held n f.type ((cs.drop f.offset).take (P.cellsOf f.type)) = xs[i]?) →
    ∃ b : β, d.K w b (cs.drop o) ∧ good b

theorem opensAt_last {α : Type} {P : Program} {fs : Array Field} {i o : Nat} {d : Kd α} {good : α → Prop} {t : TypeId} (hft : fs[i]?.map (fun f => (f.type, f.offset)) = some (t, o)) (hs : P.cellsOf t = d.sz) (h : Opens P t d good) : OpensAt P fs i o d good := by
  refine ⟨?_⟩
  intro H enc w base spare held n cs xs hl hxs hx
  obtain ⟨f, hf, hto⟩ := Option.map_eq_some_iff.1 hft
  obtain ⟨rfl, ho⟩ : f.type = t ∧ f.offset = o := by simpa using hto
  have h1 := hx i f hf
  have hi : i < xs.length := by rw [hxs]; exact (Array.getElem?_eq_some_iff.1 hf).1
  rw [List.getElem?_eq_getElem hi, ho, hs] at h1
  obtain ⟨a, hK, hg⟩ := h.out enc w base spare held n _ _ h1
  rw [List.take_of_length_le (by rw [List.length_drop]; omega)] at hK
  exact ⟨a, hK, hg⟩

theorem opensAt_cons {α β : Type} {P : Program} {fs : Array Field} {i o : Nat} {d : Kd α} {ds : Kd β} {good : α → Prop} {goods : β → Prop} {t : TypeId} (hft : fs[i]?.map (fun f => (f.type, f.offset)) = some (t, o)) (hs : P.cellsOf t = d.sz) (h : Opens P t d good)
    (hr : OpensAt P fs (i + 1) (o + d.sz) ds goods) : OpensAt P fs i o (Kd.pair d ds) (fun x => good x.1 ∧ goods x.2) := by
  refine ⟨?_⟩
  intro H enc w base spare held n cs xs hl hxs hx
  obtain ⟨f, hf, hto⟩ := Option.map_eq_some_iff.1 hft
  obtain ⟨rfl, ho⟩ : f.type = t ∧ f.offset = o := by simpa using hto
  have hl2 : cs.length = o + (d.sz + ds.sz) := hl
  have h1 := hx i f hf
  have hi : i < xs.length := by rw [hxs]; exact (Array.getElem?_eq_some_iff.1 hf).1
  rw [List.getElem?_eq_getElem hi, ho, hs] at h1
  obtain ⟨a, hK, hg⟩ := h.out enc w base spare held n _ _ h1
  obtain ⟨b, hKb, hgb⟩ := hr.out enc w base spare held n cs xs (by omega) hxs hx
  refine ⟨(a, b), ⟨(cs.drop o).take d.sz, cs.drop (o + d.sz), ?_, hK, hKb⟩, hg, hgb⟩
  rw [← List.drop_drop, List.take_append_drop]

theorem opens_struct {α β : Type} {P : Program} {t : TypeId} {fs : Array Field} {d : Kd β} {good : β → Prop} (f : α → β) (g : β → α) (hfg : ∀ b, f (g b) = b) (ht : P.underlying t = some (.struct fs)) (hs : P.cellsOf t = d.sz) (h : OpensAt P fs 0 0 d good) :
    Opens P t (Kd.iso d f) (fun x => good (f x)) := by
  refine ⟨?_⟩
  intro H enc w base spare held fuel cs x hx
  obtain ⟨xs, n, _, _, hl, hxl, hf⟩ := DataW.trod_struct ht hx
  obtain ⟨b, hK, hg⟩ := h.out enc w base spare held n cs xs (by omega) hxl hf
  refine ⟨g b, ?_, ?_⟩
  · show d.K w (f (g b)) cs
    rw [hfg]
    exact hK
  · show good (f (g b))
    rw [hfg]
    exact hg

/-- An argument's value, out of its cells. -/
theorem trod_open {α : Type} {P : Program} {t : TypeId} {d : Kd α} {good : α → Prop} (ho : Opens P t d good) {H : Type} {enc : TypeId × Value → H} {w : World} {base : Nat} {spare : Nat → Bool} {held : Bool} {v : Value} {x : DataW H} {ps : List MemPlace}
    (h : DataW.Trod enc P w base spare held t v x ps) : ∃ a : α, d.K w a v.cells.toList ∧ good a := by
  obtain ⟨fuel, hf⟩ := h
  exact ho.out enc w base spare held fuel _ _ hf
/-- An argument that is a slice. -/
theorem slice_arg {α : Type} {P : Program} {t e : TypeId} {r : Reach} {b0 : Nat} {d : Kd α} {good : List α → Prop} (ht : P.underlying t = some (.slice e)) (ho : Opens P t (Kd.slice e d) good) {H : Type} {enc : TypeId × Value → H} {w : World} {base : Nat} {spare : Nat → Bool} {held : Bool} {v : Value} {x : DataW H} {ps : List MemPlace}
    (hv : Value.okWide P w r b0 t v) (h : DataW.Trod enc P w base spare held t v x ps) : ∃ (A : Option Addr) (c : Nat) (l : List α), v = .slice A l.length c ∧ l.length ≤ c ∧ Kd.C d w A l.length l ∧ good l := by
  obtain ⟨a, len, cap, rfl⟩ := okWide_slice ht hv
  obtain ⟨l, ⟨A, c, e1, hl, hC⟩, hg⟩ := trod_open ho h
  have e2 : Value.slice a len cap = .slice A l.length c := by simpa [Value.cells] using e1
  exact ⟨A, c, l, e2, hl, hC, hg⟩
/-- An argument that is a struct. -/
theorem struct_arg {α : Type} {P : Program} {t : TypeId} {fs : Array Field} {r : Reach} {b0 : Nat} {d : Kd α} {good : α → Prop} (ht : P.underlying t = some (.struct fs)) (ho : Opens P t d good) {H : Type} {enc : TypeId × Value → H} {w : World} {base : Nat} {spare : Nat → Bool} {held : Bool} {v : Value} {x : DataW H} {ps : List MemPlace}
    (hv : Value.okWide P w r b0 t v) (h : DataW.Trod enc P w base spare held t v x ps) : ∃ (cs : List Value) (a : α), v = .agg cs.toArray ∧ d.K w a cs ∧ good a := by
  obtain ⟨cs, rfl, _⟩ := okWide_struct ht hv
  obtain ⟨a, hK, hg⟩ := trod_open ho h
  exact ⟨cs.toList, a, by simp, by simpa [Value.cells] using hK, hg⟩
end Go.Proofs.YtendpecnfaojkaaDoor.Open
