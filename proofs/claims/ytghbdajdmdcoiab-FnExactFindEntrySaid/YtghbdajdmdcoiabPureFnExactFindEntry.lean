/- The program's FindEntry returns what the reference's returns, for all arguments. -/
import Derived.Test.YtghbdajdmdcoiabOpFnExactFindEntry
import Derived.Test.YtghbdajdmdcoiabPFnExactFindEntryx2
namespace Go.Proofs.Ytghbdajdmdcoiab.Pure
open Go.RowKit Go.Proofs.Ytghbdajdmdcoiab.PFnExactFindEntry Go.Proofs.YtghbdajdmdcoiabW.PrintWords Go.Proofs.YtghbdajdmdcoiabW.PrintLast
set_option linter.unusedVariables false
set_option linter.unusedSimpArgs false

/-! base -/
theorem wrap_in {n : Int} (h1 : -9223372036854775808 ≤ n) (h2 : n ≤ 9223372036854775807) : wrap64 n = n := by unfold wrap64; omega
theorem wrap_succ {i n : Nat} (h : i < n) (hn : n ≤ 1152921504606846976) : wrap64 ((i : Int) + 1) = ((i + 1 : Nat) : Int) := by unfold wrap64; omega
theorem wrap_pred {i : Nat} (h : 0 < i) (hn : i ≤ 1152921504606846976) : wrap64 ((i : Int) - 1) = ((i - 1 : Nat) : Int) := by unfold wrap64; omega
theorem Ev.eq {α : Type} {r s : α} (h : r = s) : Ev (fun _ => some r) s := h ▸ Ev.now r
theorem Ev.opt {α : Type} {o : Option α} {r : α} (h : o = some r) : Ev (fun _ => o) r := h ▸ Ev.now r
theorem Ev.yes {α : Type} {c : Prop} [Decidable c] {g f : Nat → Option α} {r : α} (h : c) (k : Ev g r) : Ev (fun n => if c then g n else f n) r := by simpa [h] using k
theorem Ev.no {α : Type} {c : Prop} [Decidable c] {g f : Nat → Option α} {r : α} (h : ¬ c) (k : Ev f r) : Ev (fun n => if c then g n else f n) r := by simpa [h] using k
theorem Ev.ite {α : Type} {c : Prop} [Decidable c] {g f : Nat → Option α} {r : α} (h : c → Ev g r) (k : ¬ c → Ev f r) : Ev (fun n => if c then g n else f n) r := by
  by_cases hc : c
  · exact Ev.yes hc (h hc)
  · exact Ev.no hc (k hc)
theorem Ev.bindc {α β : Type} {o : Option α} {a : α} {f : Nat → α → Option β} {r : β} (h : o = some a) (k : Ev (fun n => f n a) r) : Ev (fun n => o.bind (f n)) r := by subst h; exact k
theorem Ev.round {α : Type} {g : Nat → Option α} {r : α} (h : Ev (fun k => g (k + 1)) r) : Ev g r := Ev.step (fun _ => rfl) h
theorem Ev.conv {α : Type} {g : Nat → Option α} {r s : α} (k : Ev g r) (h : r = s) : Ev g s := h ▸ k
theorem bind_some_ {α β : Type} (a : α) (f : α → Option β) : (some a).bind f = f a := rfl
/-- A loop that counts: from each place on, the answer is what 'val' says. -/
theorem Ev.loop {σ β : Type} (g : Nat → Nat → σ → Option β) (n : Nat) (val : Nat → σ → β) (Inv : Nat → σ → Prop)
    (done : ∀ s, Inv n s → Ev (fun k => g k n s) (val n s))
    (step : ∀ i s, i < n → Inv i s → (∀ s', Inv (i + 1) s' → Ev (fun k => g k (i + 1) s') (val (i + 1) s')) → Ev (fun k => g k i s) (val i s)) :
    ∀ i s, i ≤ n → Inv i s → Ev (fun k => g k i s) (val i s) := by
  have : ∀ d i s, i + d = n → Inv i s → Ev (fun k => g k i s) (val i s) := by
    intro d
    induction d with
    | zero =>
      intro i s hi hs
      obtain rfl : i = n := by omega
      exact done s hs
    | succ d ih => intro i s hi hs; exact step i s (by omega) hs (fun s' hs' => ih (i + 1) s' (by omega) hs')
  intro i s hi hs
  exact this (n - i) i s (by omega) hs
theorem getD_lt {α : Type} {l : List α} {i : Nat} (h : i < l.length) (d : α) : l.getD i d = l[i] := by simp [List.getD_eq_getElem?_getD, h]
theorem rd_get {l : List Int} {i : Nat} (h : i < l.length) : rd l (i : Int) = l[i] := by unfold rd; exact getD_lt h _
theorem take_fill {α β : Type} (f : α → β) (l : List α) (z : β) {i : Nat} (h : i < l.length) :
    ((l.take i).map f ++ List.replicate (l.length - i) z).set i (f l[i]) = (l.take (i + 1)).map f ++ List.replicate (l.length - (i + 1)) z := by
  have e : l.length - i = (l.length - (i + 1)) + 1 := by omega
  rw [e, List.replicate_succ, List.set_append_right _ _ (by simp; omega)]
  have : i - (List.map f (List.take i l)).length = 0 := by simp; omega
  rw [this, List.set_cons_zero, List.take_succ_eq_append_getElem h, List.map_append]
  simp
theorem fill_len {α β : Type} (f : α → β) (l : List α) (z : β) {i : Nat} (h : i ≤ l.length) : ((l.take i).map f ++ List.replicate (l.length - i) z).length = l.length := by simp; omega
theorem fill_end {α β : Type} (f : α → β) (l : List α) (z : β) : (l.take l.length).map f ++ List.replicate (l.length - l.length) z = l.map f := by simp
theorem drop_get {α : Type} {l : List α} {i : Nat} (h : i < l.length) : l.drop i = l[i] :: l.drop (i + 1) := List.drop_eq_getElem_cons h
theorem drop_end {α : Type} (l : List α) : l.drop l.length = [] := List.drop_eq_nil_of_le (Nat.le_refl _)
/-! rd-Entry -/
theorem rd_Entry {l : List S54} {i : Nat} (h : i < l.length) : rd_T54 l (i : Int) = l[i] := by unfold rd_T54; exact getD_lt h _
/-! findentry -/
/-- The place of an entry, counted from i on; -1 where there is none. -/
def M.findFrom (s h : Int) : List S54 → Int → Int
  | [], _ => -1
  | e :: l, i => if e.f0 = s ∧ e.f1 = h then i else M.findFrom s h l (i + 1)
def M.findEntry (l : List S54) (s h : Int) : Int := M.findFrom s h l 0
/-! impl_FindEntry -/
theorem impl_FindEntry.ev (l : List S54) (a b : Int) (hl : l.length ≤ 1048576) : Ev (fun k => impl_FindEntry.f k l a b) (M.findEntry l a b) := by
  unfold impl_FindEntry.f
  refine Ev.loop (fun k i (_ : Unit) => impl_FindEntry.l0 k a b l l.length (i : Int)) l.length (fun i _ => M.findFrom a b (l.drop i) i) (fun _ _ => True) ?_ ?_ 0 () (by omega) trivial
  · rintro s _
    refine Ev.round ?_
    simp only [impl_FindEntry.l0]
    exact Ev.no (by omega) (Ev.eq (by rw [drop_end]; rfl))
  · rintro i s hi _ ih
    refine Ev.round ?_
    simp only [impl_FindEntry.l0, rd_Entry hi, wrap_succ hi (by omega : l.length ≤ _)]
    rw [drop_get hi]; unfold M.findFrom
    refine Ev.yes (by omega) (Ev.yes (by omega) (Ev.yes (by omega) (Ev.ite (fun h1 => Ev.ite (fun h2 => ?_) (fun h2 => ?_)) (fun h1 => ?_))))
    · exact Ev.eq (by rw [if_pos ⟨h1, h2⟩])
    · rw [if_neg (fun h => h2 h.2)]; exact ih () trivial
    · rw [if_neg (fun h => h1 h.1)]; exact ih () trivial
/-! laws_eqEntryS -/
theorem laws_eqEntryS.refl (l : List S54) (hl : l.length ≤ 1048576) : Ev (fun k => laws_eqEntryS.f k l l) true := by
  unfold laws_eqEntryS.f
  refine Ev.yes rfl ?_
  refine Ev.loop (fun k i (_ : Unit) => laws_eqEntryS.l0 k l l (i : Int)) l.length (fun _ _ => true) (fun _ _ => True) ?_ ?_ 0 () (by omega) trivial
  · rintro s _
    refine Ev.round ?_
    simp only [laws_eqEntryS.l0]
    exact Ev.no (by omega) (Ev.now _)
  · rintro i s hi _ ih
    refine Ev.round ?_
    simp only [laws_eqEntryS.l0, wrap_succ hi (by omega : l.length ≤ _), laws_eqEntry.f, if_true, bind_some_, bne_self_eq_false, Bool.false_eq_true, if_false]
    exact Ev.yes (by omega) (Ev.yes (by omega) (Ev.yes (by omega) (ih () trivial)))
/-! laws_eqBundle -/
theorem laws_eqBundle.refl (l : List S54) (hl : l.length ≤ 1048576) : Ev (fun k => laws_eqBundle.f k l l) true := by
  unfold laws_eqBundle.f; exact Ev.bind (laws_eqEntryS.refl l hl) (Ev.yes rfl (Ev.now _))
/-! sz -/
def M.sz (n : Nat) (a : Int) : Int := if a - n < 0 then -1 else a - n
theorem sz_eq (n : Nat) (a : Int) (ha : 0 ≤ a) (ha2 : a ≤ 1048576) (hn : n ≤ 9223372036854775807) : (if (wrap64 (a - (n : Int))) < 0 then (some (-1)) else (some (wrap64 (a - (n : Int)))) : Option Int) = some (M.sz n a) := by
  rw [wrap_in (by omega) (by omega)]; unfold M.sz; split <;> rfl
theorem sz_over {n : Nat} {a : Int} (h : a < n) : M.sz n a = -1 := by unfold M.sz; rw [if_pos (by omega)]
theorem sz_fits {n : Nat} {a : Int} (h : (n : Int) ≤ a) : M.sz n a = a - n := by unfold M.sz; rw [if_neg (by omega)]
theorem sz_wrap (n : Nat) (a : Int) : (if M.sz n a < 0 then (some (-1)) else (some (M.sz n a)) : Option Int) = some (M.sz n a) := by
  unfold M.sz; split <;> simp_all
theorem sz_add (n m : Nat) (a : Int) : (if M.sz n a < 0 then -1 else M.sz m (M.sz n a)) = M.sz (n + m) a := by
  unfold M.sz; split <;> split <;> simp_all <;> omega
/-- A law's own look at the size of an argument. -/
theorem Ev.size {n : Nat} {a : Int} {f : Nat → Option Bool} (h : (n : Int) ≤ a → Ev f true) : Ev (fun k => if M.sz n a < 0 then some true else f k) true := by
  by_cases hn : (n : Int) ≤ a
  · exact Ev.no (by rw [sz_fits hn]; omega) (h hn)
  · exact Ev.yes (by rw [sz_over (by omega)]; omega) (Ev.now _)
/-! laws_szEntryS -/
theorem laws_szEntryS.eq (l : List S74) (a : Int) (ha : 0 ≤ a) (ha2 : a ≤ 1048576) (hl : l.length ≤ 9223372036854775807) : laws_szEntryS.f l a = some (M.sz l.length a) := by
  unfold laws_szEntryS.f; exact sz_eq _ _ ha ha2 hl
/-! laws_szBundle -/
theorem laws_szBundle.eq (l : List S74) (a : Int) (ha : 0 ≤ a) (ha2 : a ≤ 1048576) (hl : l.length ≤ 9223372036854775807) : laws_szBundle.f l a = some (M.sz l.length a) := by
  unfold laws_szBundle.f; rw [laws_szEntryS.eq l a ha ha2 hl]; exact sz_wrap _ _
/-! rd-lEntry -/
theorem rd_lEntry {l : List S74} {i : Nat} (h : i < l.length) : rd_T74 l (i : Int) = l[i] := by unfold rd_T74; exact getD_lt h _
/-! laws_toEntryS -/
def M.toEntry (e : S74) : S54 := ⟨e.f0, e.f1, e.f2, e.f3⟩
theorem laws_toEntryS.ev (l : List S74) (hl : l.length ≤ 1048576) : Ev (fun k => laws_toEntryS.f k l) (l.map M.toEntry) := by
  unfold laws_toEntryS.f
  refine Ev.yes (by omega) (Ev.yes (by omega) ?_)
  refine Ev.loop (fun k i x => laws_toEntryS.l0 k l x (i : Int)) l.length (fun _ _ => l.map M.toEntry) (fun i x => x = (l.take i).map M.toEntry ++ List.replicate (l.length - i) z54) ?_ ?_ 0 _ (by omega) (by simp)
  · rintro s rfl
    refine Ev.round ?_
    simp only [laws_toEntryS.l0]
    exact Ev.no (by omega) (Ev.eq (fill_end _ _ _))
  · rintro i s hi rfl ih
    refine Ev.round ?_
    simp only [laws_toEntryS.l0, rd_lEntry hi, laws_toEntry.f, bind_some_, wrap_succ hi (by omega : l.length ≤ _), Int.toNat_natCast]
    refine Ev.yes (by omega) (Ev.yes (by omega) (Ev.yes (by rw [fill_len _ _ _ (by omega)]; omega) ?_))
    exact ih _ (take_fill M.toEntry l z54 hi)
/-! laws_toBundle -/
theorem laws_toBundle.ev (l : List S74) (hl : l.length ≤ 1048576) : Ev (fun k => laws_toBundle.f k l) (l.map M.toEntry) := by
  unfold laws_toBundle.f; exact Ev.bind (laws_toEntryS.ev l hl) (Ev.now _)
/-! spec_FindEntry -/
theorem spec_FindEntry.ev (l : List S54) (a b : Int) (hl : l.length ≤ 1048576) : Ev (fun k => spec_FindEntry.f k l a b) (M.findEntry l a b) := by
  unfold spec_FindEntry.f
  refine Ev.loop (fun k i (_ : Unit) => spec_FindEntry.l0 k a b (i : Int) l) l.length (fun i _ => M.findFrom a b (l.drop i) i) (fun _ _ => True) ?_ ?_ 0 () (by omega) trivial
  · rintro s _
    refine Ev.round ?_
    simp only [spec_FindEntry.l0]
    exact Ev.no (by omega) (Ev.eq (by rw [drop_end]; rfl))
  · rintro i s hi _ ih
    refine Ev.round ?_
    simp only [spec_FindEntry.l0, rd_Entry hi, wrap_succ hi (by omega : l.length ≤ _)]
    rw [drop_get hi]; unfold M.findFrom
    refine Ev.yes (by omega) (Ev.yes (by omega) (Ev.ite (fun h1 => Ev.ite (fun h2 => ?_) (fun h2 => ?_)) (fun h1 => ?_)))
    · exact Ev.eq (by rw [if_pos ⟨h1, h2⟩])
    · rw [if_neg (fun h => h2 h.2)]; exact ih () trivial
    · rw [if_neg (fun h => h1 h.1)]; exact ih () trivial

/-! the law -/
theorem FnExactFindEntry : ∀ (l0_0 : List (S74)) (a1 : Int) (a2 : Int), l0_0.length ≤ 9223372036854775807 → ∃ k, laws_FnExactFindEntry.f k l0_0 a1 a2 = some true := by
  intro l0 a1 a2 h0
  apply Ev.rounds (r := true)
  unfold laws_FnExactFindEntry.f
  refine Ev.bindc (laws_szBundle.eq _ _ (by decide) (by decide) h0) (Ev.size fun g0 => ?_)
  have b0 : l0.length ≤ 1048576 := by omega
  have c0 : (l0.map M.toEntry).length ≤ 1048576 := by simpa using b0
  have t0 := laws_toBundle.ev l0 b0
  exact Ev.bind t0 (Ev.bind (spec_FindEntry.ev _ _ _ c0) (Ev.bind t0 (Ev.bind (impl_FindEntry.ev _ _ _ c0) (Ev.yes rfl (Ev.bind t0 (Ev.bind (laws_eqBundle.refl _ c0) (Ev.yes rfl (Ev.now _))))))))
end Go.Proofs.Ytghbdajdmdcoiab.Pure
