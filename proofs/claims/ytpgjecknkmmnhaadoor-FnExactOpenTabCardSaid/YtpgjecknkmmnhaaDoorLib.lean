/- Functions of Go's library in the printed form: what they answer, and that their contracts of the shelf tell it. No condition. -/
import Derived.Test.YtpgjecknkmmnhaaDoorWWords
import Derived.Test.YtpgjecknkmmnhaaDoorWRepsOne
import Derived.Test.YtpgjecknkmmnhaaDoorShelf
import Derived.Lib.SplitLaws
import Derived.Below
namespace Go.Proofs.YtpgjecknkmmnhaaDoor.Lib
open Go.RowKit Go.Proofs.YtpgjecknkmmnhaaDoorW.PrintWords
/-- The variable that strings' search reads holds an int. -/
def HasM (w : World) : Prop := ∃ m, w.cell? ⟨0, 0, none⟩ = some (.int .i64 m)
theorem HasM.lt {w : World} (h : HasM w) : 0 < w.heap.size := by
  obtain ⟨m, hm⟩ := h; exact World.block_lt_of_cell? _ _ hm
theorem HasM.at {w w' : World} (hb : Below w.heap.size w w') (h : HasM w) : HasM w' := by
  have hl := h.lt
  obtain ⟨m, hm⟩ := h; exact ⟨m, (hb.cell hl).trans hm⟩
theorem reps_strings (w : World) (b : Nat) (ok : Nat → Prop) : ∀ l : List ByteArray, Reps (Kd.string.M w b ok) 1 l (l.map Value.string)
  | [] => Reps.none _ _
  | x :: l => Reps.one (show Kd.M Kd.string _ _ _ x [.string x] from rfl) (reps_strings w b ok l)
theorem row_strings (w : World) (e : Nat) (l : List ByteArray) (hl : l.length ≤ 9223372036854775807) : Kd.R Kd.string e (w.alloc (.cells (l.map Value.string).toArray e)) w.heap.size (fun _ => True) (.slice (some ⟨w.heap.size, 0, none⟩) l.length l.length) l := by
  refine ⟨fun _ _ => trivial, l.map Value.string, ?_, reps_strings _ _ _ l⟩
  have h2 := World.ownsRow_lit (base := w.heap.size) (e := e) (size := 1) w (l.map Value.string).toArray l.length (Nat.le_refl _) (by simpa [maxLen] using hl) (by simp)
  have h3 : (w.alloc (Obj.cells (List.map Value.string l).toArray e)).ownsRow w.heap.size e 1 (Value.slice (some ⟨w.heap.size, 0, none⟩) l.length l.length) l.length (List.map Value.string l) := by simpa using h2
  exact h3
/-! ### strings.Split -/
def strings_Split.f (a0 a1 : ByteArray) : Option (List ByteArray) := if a0.size < 4294967281 ∧ 1 ≤ a1.size then some (Lib.splitB a1 0 (Lib.countB a0 a1) a0) else none
theorem strings_Split.calls (a0 a1 : ByteArray) (r : List ByteArray) (w : World) (hm : HasM w) (h : strings_Split.f a0 a1 = some r) :
    Calls Tryd.prog 37 #[.string a0, .string a1] w fun e w' => ∃ v0_ : Value, e = .returned (v0_) ∧ Kd.R Kd.string 9 w' w.heap.size (fun _ => True) v0_ r ∧ Below w.heap.size w w' := by
  unfold strings_Split.f at h
  by_cases hs : a0.size < 4294967281 ∧ 1 ≤ a1.size
  · rw [if_pos hs] at h
    obtain rfl := Option.some.inj h
    obtain ⟨m, hm⟩ := hm
    refine (Shelf.Tryd.strings_Split a0 a1 m w hs.1 hm hs.2).mono ?_
    rintro e w' ⟨rfl, rfl⟩
    have hlen := Lib.splitB_all a1 hs.2 0 _ a0 rfl
    have hle := Lib.countB_le a1 hs.2 a0.size a0 (Nat.le_refl _)
    refine ⟨_, rfl, ?_, below_alloc (Below.refl _ _) _⟩
    have := row_strings w 9 (Lib.splitB a1 0 (Lib.countB a0 a1) a0) (by omega)
    rw [hlen] at this
    exact this
  · rw [if_neg hs] at h
    exact absurd h (by simp)
end Go.Proofs.YtpgjecknkmmnhaaDoor.Lib
