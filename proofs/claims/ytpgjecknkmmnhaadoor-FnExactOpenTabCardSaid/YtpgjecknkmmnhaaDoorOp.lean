/- How an argument of any kind is opened: a value of a type that can be read is of the printed kind. No condition. -/
import Derived.Test.YtpgjecknkmmnhaaDoorWWords
import Derived.ChangeArms
import Derived.Deep.Slices
import Derived.WideShapes
namespace Go.Proofs.YtpgjecknkmmnhaaDoor.Op
open Go.ChangeShapes Go.WideShapes Go.RowKit Go.Proofs.YtpgjecknkmmnhaaDoorW.PrintWords
/-- A value of type t that is read is of the kind d, and fits. -/
def Opens (P : Program) (t : TypeId) {α : Type} (d : Kd α) (F : α → Prop) : Prop :=
  ∀ {H : Type} {enc : TypeId × Value → H} {W : World} {fuel : Nat} {cs : List Value} {x : DataW H × List MemPlace}, DataW.trod enc P W 0 (fun _ => true) true fuel t cs = some x → ∃ y, d.K W y cs ∧ F y
section
variable {P : Program} {t e : TypeId} {α β : Type} {d : Kd α} {F : α → Prop} {d' : Kd β} {F' : β → Prop}
theorem opens_int {k : IntKind} (ht : P.underlying t = some (.int k)) : Opens P t (Kd.int k) (fun n => (Lit.int k n).wf = true) := by
  intro H enc W fuel cs x h
  obtain ⟨n, rfl, _, hw⟩ := DataW.trod_int ht h
  exact ⟨n, rfl, hw⟩
theorem opens_bool (ht : P.underlying t = some .bool) : Opens P t Kd.bool (fun _ => True) := by
  intro H enc W fuel cs x h
  obtain ⟨b, rfl, _⟩ := DataW.trod_bool ht h
  exact ⟨b, rfl, trivial⟩
theorem opens_string (ht : P.underlying t = some .string) : Opens P t Kd.string (fun s => s.size ≤ 9223372036854775807) := by
  intro H enc W fuel cs x h
  obtain ⟨s, rfl, _, hs⟩ := DataW.trod_string ht h
  exact ⟨s, rfl, by unfold maxLen at hs; omega⟩
theorem Opens.weaken {F2 : α → Prop} (h : Opens P t d F) (hw : ∀ x, F x → F2 x) : Opens P t d F2 := by
  intro H enc W fuel cs x hx
  obtain ⟨y, hy, hf⟩ := h hx
  exact ⟨y, hy, hw y hf⟩
theorem opens_slice (ht : P.underlying t = some (.slice e)) (he : Opens P e d F) (hc : P.cellsOf e = d.sz) : Opens P t (Kd.slice e d) (fun xs => xs.length ≤ 9223372036854775807 ∧ ∀ x ∈ xs, F x) := by
  intro H enc W fuel cs x h
  rcases Go.Deep.open_slice ht h with ⟨rfl, _⟩ | ⟨a, len, cap, m, n, D, Pl, rfl, hb, hl, hm, hmm, _, hi⟩
  · exact ⟨[], ⟨none, 0, rfl, Nat.le_refl _, rfl, by simp, fun h => absurd h (by simp)⟩, by simp, by simp⟩
  · have hlm : len ≤ m := by simp at hmm; omega
    have each : ∀ i : Fin len, ∃ y : α, F y ∧ ∃ c : List Value, c.length = d.sz ∧ d.K W y c ∧ ∀ j u, c[j]? = some u → W.cell? (a.add (i.val * d.sz + j)) = some u := by
      intro i
      obtain ⟨c, h1, h2⟩ := hi i.val (by omega)
      obtain ⟨y, hy, hf⟩ := he h2
      obtain ⟨_, hcl, hat⟩ := World.cells?_some h1
      refine ⟨y, hf, c, d.K_len hy, hy, fun j u hj => ?_⟩
      have hjl : j < P.cellsOf e := by rw [← hcl]; exact (List.getElem?_eq_some_iff.1 hj).1
      have := hat j hjl
      rw [Go.Deep.add_add, hc] at this
      rw [this, hj]
    have hx : ∀ j p, (List.ofFn fun i : Fin len => Classical.choose (each i))[j]? = some p → ∃ h : j < len, p = Classical.choose (each ⟨j, h⟩) := by
      intro j p hj
      obtain ⟨hjl, hj⟩ := List.getElem?_eq_some_iff.1 hj
      have hjl' : j < len := by simpa using hjl
      exact ⟨hjl', by rw [← hj]; simp⟩
    refine ⟨List.ofFn fun i : Fin len => Classical.choose (each i), ⟨some a, cap, by simp, by simpa using hl, rfl, ?_, fun _ => ⟨a, rfl, fun j p hj => ?_⟩⟩, ?_, fun y hy => ?_⟩
    · unfold maxLen at hm
      simp; omega
    · obtain ⟨hjl, rfl⟩ := hx j p hj
      obtain ⟨_, c, h1, h2, h3⟩ := Classical.choose_spec (each ⟨j, hjl⟩)
      exact ⟨c, h1, h2, h3⟩
    · unfold maxLen at hm
      simp; omega
    · obtain ⟨j, hj⟩ := List.getElem?_of_mem hy
      obtain ⟨hjl, rfl⟩ := hx j y hj
      exact (Classical.choose_spec (each ⟨j, hjl⟩)).1
/-- The fields from one on. -/
def OpensAt (P : Program) (fs : List Field) (off : Nat) {α : Type} (d : Kd α) (F : α → Prop) : Prop :=
  ∀ {H : Type} {enc : TypeId × Value → H} {W : World} {n : Nat} {cs : List Value}, (∀ f ∈ fs, ∃ y, DataW.trod enc P W 0 (fun _ => true) true n f.type ((cs.drop f.offset).take (P.cellsOf f.type)) = some y) → (cs.drop off).length = d.sz → ∃ y, d.K W y (cs.drop off) ∧ F y
theorem opensAt_one {f : Field} {off : Nat} (h : Opens P f.type d F) (ho : f.offset = off) (hc : P.cellsOf f.type = d.sz) : OpensAt P [f] off d F := by
  intro H enc W n cs hf hl
  obtain ⟨y, hy⟩ := hf f (by simp)
  rw [ho, hc, List.take_of_length_le (by omega)] at hy
  exact h hy
theorem opensAt_cons {f : Field} {fs : List Field} {off : Nat} (h : Opens P f.type d F) (ho : f.offset = off) (hc : P.cellsOf f.type = d.sz) (hr : OpensAt P fs (off + d.sz) d' F') : OpensAt P (f :: fs) off (Kd.pair d d') (fun x => F x.1 ∧ F' x.2) := by
  intro H enc W n cs hf hl
  have hl : (cs.drop off).length = d.sz + d'.sz := hl
  obtain ⟨y, hy⟩ := hf f (by simp)
  rw [ho, hc] at hy
  obtain ⟨a, ha, hfa⟩ := h hy
  obtain ⟨b, hb, hfb⟩ := hr (cs := cs) (fun g hg => hf g (by simp [hg])) (by rw [List.length_drop] at hl ⊢; omega)
  refine ⟨(a, b), ⟨_, _, ?_, ha, hb⟩, hfa, hfb⟩
  rw [← List.drop_drop, List.take_append_drop]
theorem opens_struct {fs : Array Field} (ht : P.underlying t = some (.struct fs)) (hr : OpensAt P fs.toList 0 d F) (hc : P.cellsOf t = d.sz) : Opens P t d F := by
  intro H enc W fuel cs x h
  obtain ⟨xs, n, _, _, hl, hxl, hf⟩ := DataW.trod_struct ht h
  have := hr (enc := enc) (W := W) (n := n) (cs := cs) (fun f hm => by
    obtain ⟨i, hi⟩ := List.getElem?_of_mem hm
    have hi' : fs[i]? = some f := by simpa using hi
    have hil : i < fs.size := (Array.getElem?_eq_some_iff.1 hi').1
    exact ⟨xs[i]'(by omega), by rw [hf i f hi']; exact List.getElem?_eq_getElem _⟩) (by simpa using hl.trans hc)
  simpa using this
theorem opens_iso (h : Opens P t d F) (f : β → α) (g : α → β) (hg : ∀ a, f (g a) = a) : Opens P t (Kd.iso d f) (fun b => F (f b)) := by
  intro H enc W fuel cs x hx
  obtain ⟨y, hy, hF⟩ := h hx
  exact ⟨g y, by show d.K W (f (g y)) cs; rw [hg]; exact hy, by show F (f (g y)); rw [hg]; exact hF⟩
end
end Go.Proofs.YtpgjecknkmmnhaaDoor.Op
