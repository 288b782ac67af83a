/- The program's ActiveEntries returns what the reference's returns, for all arguments. -/
import Derived.Test.YtjfdaehpifgjbaaOpFnExactActiveEntries
import Derived.Test.YtjfdaehpifgjbaaTFnExactActiveEntries
namespace Go.Proofs.Ytjfdaehpifgjbaa.Pure
open Go.RowKit Go.Proofs.Ytjfdaehpifgjbaa.PFnExactActiveEntries Go.Proofs.YtjfdaehpifgjbaaW.PrintWords Go.Proofs.YtjfdaehpifgjbaaW.PrintLast
set_option linter.unusedVariables false
set_option linter.unusedSimpArgs false

/-! base -/
theorem wrap_in {n : Int} (h1 : -9223372036854775808 ≤ n) (h2 : n ≤ 9223372036854775807) : wrap64 n = n := by unfold wrap64; omega
theorem wrap_succ {i n : Nat} (h : i < n) (hn : n ≤ 1152921504606846976) : wrap64 ((i : Int) + 1) = ((i + 1 : Nat) : Int) := by unfold wrap64; omega
theorem wrap_pred {i : Nat} (h : 0 < i) (hn : i ≤ 1152921504606846976) : wrap64 ((i : Int) - 1) = ((i - 1 : Nat) : Int) := by unfold wrap64; omega
theorem Ev.eq {α : Type} {r s : α} (h : r = s) : Ev (fun _ => some r) s := h ▸ Ev.now r
theorem Ev.opt {α : Type} {o : Option α} {r : α} (h : o = some r) : Ev (fun _ => o) r := h ▸ Ev.now r
theorem Ev.yes {α : Type} {c : Prop} [Decidable c] {g f : Nat → Option α} {r : α} (h : c) (k : Ev g r) : Ev (fun n => if c then g n else f n) r := by simpa [h] using k
theorem Ev.no {α : Type} {c : Prop} [Decidable c] {g f : Nat → Option α} {r : α} (h : ¬ c) (k : Ev f r) : Ev (fun n => if c then g n else f n) r := by simpa [h] using k
theorem Ev.ite {α : Type} {c : Prop} [Decidable c] {g f : Nat → Option α} {r : α} (h : c → Ev g r) (k : ¬ c → Ev f r) : Ev (fun n => if c then g n else f n) r := by
  by_cases hc : c
  · exact Ev.yes hc (h hc)
  · exact Ev.no hc (k hc)
theorem Ev.bindc {α β : Type} {o : Option α} {a : α} {f : Nat → α → Option β} {r : β} (h : o = some a) (k : Ev (fun n => f n a) r) : Ev (fun n => o.bind (f n)) r := by subst h; exact k
theorem Ev.round {α : Type} {g : Nat → Option α} {r : α} (h : Ev (fun k => g (k + 1)) r) : Ev g r := Ev.step (fun _ => rfl) h
theorem Ev.conv {α : Type} {g : Nat → Option α} {r s : α} (k : Ev g r) (h : r = s) : Ev g s := h ▸ k
theorem bind_some_ {α β : Type} (a : α) (f : α → Option β) : (some a).bind f = f a := rfl
/-- A loop that counts: from each place on, the answer is what 'val' says. -/
theorem Ev.loop {σ β : Type} (g : Nat → Nat → σ → Option β) (n : Nat) (val : Nat → σ → β) (Inv : Nat → σ → Prop)
    (done : ∀ s, Inv n s → Ev (fun k => g k n s) (val n s))
    (step : ∀ i s, i < n → Inv i s → (∀ s', Inv (i + 1) s' → Ev (fun k => g k (i + 1) s') (val (i + 1) s')) → Ev (fun k => g k i s) (val i s)) :
    ∀ i s, i ≤ n → Inv i s → Ev (fun k => g k i s) (val i s) := by
  have : ∀ d i s, i + d = n → Inv i s → Ev (fun k => g k i s) (val i s) := by
    intro d
    induction d with
    | zero =>
      intro i s hi hs
      obtain rfl : i = n := by omega
      exact done s hs
    | succ d ih => intro i s hi hs; exact step i s (by omega) hs (fun s' hs' => ih (i + 1) s' (by omega) hs')
  intro i s hi hs
  exact this (n - i) i s (by omega) hs
theorem getD_lt {α : Type} {l : List α} {i : Nat} (h : i < l.length) (d : α) : l.getD i d = l[i] := by simp [List.getD_eq_getElem?_getD, h]
theorem rd_get {l : List Int} {i : Nat} (h : i < l.length) : rd l (i : Int) = l[i] := by unfold rd; exact getD_lt h _
theorem take_fill {α β : Type} (f : α → β) (l : List α) (z : β) {i : Nat} (h : i < l.length) :
    ((l.take i).map f ++ List.replicate (l.length - i) z).set i (f l[i]) = (l.take (i + 1)).map f ++ List.replicate (l.length - (i + 1)) z := by
  have e : l.length - i = (l.length - (i + 1)) + 1 := by omega
  rw [e, List.replicate_succ, List.set_append_right _ _ (by simp; omega)]
  have : i - (List.map f (List.take i l)).length = 0 := by simp; omega
  rw [this, List.set_cons_zero, List.take_succ_eq_append_getElem h, List.map_append]
  simp
theorem fill_len {α β : Type} (f : α → β) (l : List α) (z : β) {i : Nat} (h : i ≤ l.length) : ((l.take i).map f ++ List.replicate (l.length - i) z).length = l.length := by simp; omega
theorem fill_end {α β : Type} (f : α → β) (l : List α) (z : β) : (l.take l.length).map f ++ List.replicate (l.length - l.length) z = l.map f := by simp
theorem drop_get {α : Type} {l : List α} {i : Nat} (h : i < l.length) : l.drop i = l[i] :: l.drop (i + 1) := List.drop_eq_getElem_cons h
theorem drop_end {α : Type} (l : List α) : l.drop l.length = [] := List.drop_eq_nil_of_le (Nat.le_refl _)
/-! rd-Entry -/
theorem rd_Entry {l : List S38} {i : Nat} (h : i < l.length) : rd_T38 l (i : Int) = l[i] := by unfold rd_T38; exact getD_lt h _
/-! active -/
def M.active (l : List S38) : List S38 := l.filter fun e => !e.f3
theorem active_cons (x : S38) (l : List S38) : M.active (x :: l) = if x.f3 = true then M.active l else x :: M.active l := by
  unfold M.active; cases h : x.f3 <;> simp [h]
theorem active_len (l : List S38) : (M.active l).length ≤ l.length := List.length_filter_le _ _
/-! impl_ActiveEntries -/
theorem impl_ActiveEntries.ev (l : List S38) (hl : l.length ≤ 1048576) : Ev (fun k => impl_ActiveEntries.f k l) (M.active l) := by
  unfold impl_ActiveEntries.f
  refine Ev.conv (Ev.loop (fun k i o => impl_ActiveEntries.l0 k o l l.length (i : Int)) l.length (fun i o => o ++ M.active (l.drop i)) (fun i o => o.length ≤ i) ?_ ?_ 0 [] (by omega) (by simp)) (by simp)
  · intro o ho
    refine Ev.round ?_
    simp only [impl_ActiveEntries.l0]
    exact Ev.no (by omega) (Ev.eq (by rw [drop_end]; simp [M.active]))
  · intro i o hi ho ih
    refine Ev.round ?_
    simp only [impl_ActiveEntries.l0, rd_Entry hi, wrap_succ hi (by omega : l.length ≤ _)]
    rw [drop_get hi, active_cons]
    refine Ev.yes (by omega) (Ev.yes (by omega) (Ev.yes (by omega) (Ev.ite (fun h => ?_) (fun h => Ev.yes (by omega) ?_))))
    · rw [if_pos h]; exact ih o (by omega)
    · rw [if_neg h]; exact Ev.conv (ih _ (by simp; omega)) (by simp)
/-! laws_eqEntryS -/
theorem laws_eqEntryS.refl (l : List S38) (hl : l.length ≤ 1048576) : Ev (fun k => laws_eqEntryS.f k l l) true := by
  unfold laws_eqEntryS.f
  refine Ev.yes rfl ?_
  refine Ev.loop (fun k i (_ : Unit) => laws_eqEntryS.l0 k l l (i : Int)) l.length (fun _ _ => true) (fun _ _ => True) ?_ ?_ 0 () (by omega) trivial
  · rintro s _
    refine Ev.round ?_
    simp only [laws_eqEntryS.l0]
    exact Ev.no (by omega) (Ev.now _)
  · rintro i s hi _ ih
    refine Ev.round ?_
    simp only [laws_eqEntryS.l0, wrap_succ hi (by omega : l.length ≤ _), laws_eqEntry.f, if_true, bind_some_, bne_self_eq_false, Bool.false_eq_true, if_false]
    exact Ev.yes (by omega) (Ev.yes (by omega) (Ev.yes (by omega) (ih () trivial)))
/-! laws_eqBundle -/
theorem laws_eqBundle.refl (l : List S38) (hl : l.length ≤ 1048576) : Ev (fun k => laws_eqBundle.f k l l) true := by
  unfold laws_eqBundle.f; exact Ev.bind (laws_eqEntryS.refl l hl) (Ev.yes rfl (Ev.now _))
/-! mark-Entry -/
def M.markEntry (x : Int) : S38 := ⟨x, x + 1, x + 1 + 1, (Int.tmod (x + 1 + 1 + 1) 3 == 0)⟩
def M.markedEntry (m : Nat) (n : Int) : List S38 := (List.range m).map fun (i : Nat) => M.markEntry (n + 4 * (i : Int))
theorem markedEntry_len (m : Nat) (n : Int) : (M.markedEntry m n).length = m := by simp [M.markedEntry]
theorem markedEntry_get {m i : Nat} (n : Int) (h : i < (M.markedEntry m n).length) : (M.markedEntry m n)[i] = M.markEntry (n + 4 * (i : Int)) := by simp [M.markedEntry]
theorem markedEntry_succ (m : Nat) (n : Int) : M.markedEntry (m + 1) n = M.markedEntry m n ++ [M.markEntry (n + 4 * (m : Int))] := by simp [M.markedEntry, List.range_succ]
/-! laws_heldEntryS -/
theorem laws_heldEntryS.ev (m : Nat) (n : Int) (hl : m ≤ 1048576) (hn : 0 ≤ n) (hn2 : n ≤ 1000000000) : Ev (fun k => laws_heldEntryS.f k (M.markedEntry m n) n) (n + 4 * (m : Int)) := by
  unfold laws_heldEntryS.f
  refine Ev.loop (fun k i x => laws_heldEntryS.l0 k (M.markedEntry m n) x (i : Int)) m (fun _ _ => n + 4 * (m : Int)) (fun i x => x = n + 4 * (i : Int)) ?_ ?_ 0 n (by omega) (by simp)
  · rintro x rfl
    refine Ev.round ?_
    simp only [laws_heldEntryS.l0, markedEntry_len]
    exact Ev.no (by omega) (Ev.now _)
  · rintro i x hi hx ih
    have w0 : wrap64 (x + 1) = x + 1 := wrap_in (by omega) (by omega)
    have w1 : wrap64 (x + 1 + 1) = x + 1 + 1 := wrap_in (by omega) (by omega)
    have w2 : wrap64 (x + 1 + 1 + 1) = x + 1 + 1 + 1 := wrap_in (by omega) (by omega)
    have w3 : wrap64 (x + 1 + 1 + 1 + 1) = x + 1 + 1 + 1 + 1 := wrap_in (by omega) (by omega)
    have e : rd_T38 (M.markedEntry m n) (i : Int) = M.markEntry x := by rw [rd_Entry (by rw [markedEntry_len]; exact hi), markedEntry_get, ← hx]
    refine Ev.round ?_
    simp only [laws_heldEntryS.l0, markedEntry_len, wrap_succ hi (by omega : m ≤ _), e, M.markEntry, w0, w1, w2, w3, if_true, bne_self_eq_false, Bool.false_eq_true, if_false]
    exact Ev.yes (by omega) (Ev.yes (by omega) (ih _ (by omega)))
/-! laws_markEntryS -/
theorem laws_markEntryS.ev (l : List S38) (n : Int) (hl : l.length ≤ 1048576) (hn : 0 ≤ n) (hn2 : n ≤ 1000000000) : Ev (fun k => laws_markEntryS.f k l n) (n + 4 * (l.length : Int), M.markedEntry l.length n) := by
  unfold laws_markEntryS.f
  refine Ev.loop (fun k i (s : List S38 × Int) => laws_markEntryS.l0 k s.1 s.2 (i : Int)) l.length (fun _ _ => (n + 4 * (l.length : Int), M.markedEntry l.length n)) (fun i s => s.1 = M.markedEntry i n ++ l.drop i ∧ s.2 = n + 4 * (i : Int)) ?_ ?_ 0 (l, n) (by omega) (by simp [M.markedEntry])
  · rintro ⟨s, x⟩ ⟨rfl, rfl⟩
    refine Ev.round ?_
    simp only [laws_markEntryS.l0]
    refine Ev.no (by simp [markedEntry_len]) (Ev.eq (by simp))
  · rintro i ⟨s, x⟩ hi ⟨hs, hx⟩ ih
    simp only at hs hx ih
    have hsl : s.length = l.length := by rw [hs]; simp [markedEntry_len]; omega
    have rdset : ∀ v : S38, rd_T38 (s.set i v) (i : Int) = v := fun v => by rw [rd_Entry (by simp; omega)]; simp
    have w0 : wrap64 (x + 1) = x + 1 := wrap_in (by omega) (by omega)
    have w1 : wrap64 (x + 1 + 1) = x + 1 + 1 := wrap_in (by omega) (by omega)
    have w2 : wrap64 (x + 1 + 1 + 1) = x + 1 + 1 + 1 := wrap_in (by omega) (by omega)
    have w3 : wrap64 (x + 1 + 1 + 1 + 1) = x + 1 + 1 + 1 + 1 := wrap_in (by omega) (by omega)
    refine Ev.round ?_
    simp only [laws_markEntryS.l0, wrap_succ hi (by omega : l.length ≤ _), Int.toNat_natCast, bind_some_, rdset, List.set_set, w0, w1, w2, w3]
    refine Ev.yes (by omega) (Ev.yes (by omega) (ih (_, _) ⟨?_, by simp only; omega⟩))
    rw [markedEntry_succ, ← hx, hs, List.set_append_right _ _ (by simp [markedEntry_len]), markedEntry_len, drop_get hi, Nat.sub_self, List.set_cons_zero, List.append_assoc]
    rfl
/-! laws_markBundle -/
theorem laws_markBundle.ev (l : List S38) (n : Int) (hl : l.length ≤ 1048576) (hn : 0 ≤ n) (hn2 : n ≤ 1000000000) : Ev (fun k => laws_markBundle.f k l n) (n + 4 * (l.length : Int), M.markedEntry l.length n) := by
  unfold laws_markBundle.f; exact Ev.bind (laws_markEntryS.ev l n hl hn hn2) (Ev.now _)
/-! sz -/
def M.sz (n : Nat) (a : Int) : Int := if a - n < 0 then -1 else a - n
theorem sz_eq (n : Nat) (a : Int) (ha : 0 ≤ a) (ha2 : a ≤ 1048576) (hn : n ≤ 9223372036854775807) : (if (wrap64 (a - (n : Int))) < 0 then (some (-1)) else (some (wrap64 (a - (n : Int)))) : Option Int) = some (M.sz n a) := by
  rw [wrap_in (by omega) (by omega)]; unfold M.sz; split <;> rfl
theorem sz_over {n : Nat} {a : Int} (h : a < n) : M.sz n a = -1 := by unfold M.sz; rw [if_pos (by omega)]
theorem sz_fits {n : Nat} {a : Int} (h : (n : Int) ≤ a) : M.sz n a = a - n := by unfold M.sz; rw [if_neg (by omega)]
theorem sz_wrap (n : Nat) (a : Int) : (if M.sz n a < 0 then (some (-1)) else (some (M.sz n a)) : Option Int) = some (M.sz n a) := by
  unfold M.sz; split <;> simp_all
theorem sz_add (n m : Nat) (a : Int) : (if M.sz n a < 0 then -1 else M.sz m (M.sz n a)) = M.sz (n + m) a := by
  unfold M.sz; split <;> split <;> simp_all <;> omega
theorem sz_sub (m n : Nat) (x : Int) : M.sz m (x - n) = M.sz (n + m) x := by
  unfold M.sz; rw [show x - n - m = x - ((n + m : Nat) : Int) by omega]
/-- A law's own look at the size of an argument. -/
theorem Ev.size {n : Nat} {a : Int} {f : Nat → Option Bool} (h : (n : Int) ≤ a → Ev f true) : Ev (fun k => if M.sz n a < 0 then some true else f k) true := by
  by_cases hn : (n : Int) ≤ a
  · exact Ev.no (by rw [sz_fits hn]; omega) (h hn)
  · exact Ev.yes (by rw [sz_over (by omega)]; omega) (Ev.now _)
/-! laws_szEntryS -/
theorem laws_szEntryS.eq (l : List S42) (a : Int) (ha : 0 ≤ a) (ha2 : a ≤ 1048576) (hl : l.length ≤ 9223372036854775807) : laws_szEntryS.f l a = some (M.sz l.length a) := by
  unfold laws_szEntryS.f; exact sz_eq _ _ ha ha2 hl
/-! laws_szBundle -/
theorem laws_szBundle.eq (l : List S42) (a : Int) (ha : 0 ≤ a) (ha2 : a ≤ 1048576) (hl : l.length ≤ 9223372036854775807) : laws_szBundle.f l a = some (M.sz l.length a) := by
  unfold laws_szBundle.f; rw [laws_szEntryS.eq l a ha ha2 hl]; exact sz_wrap _ _
/-! rd-lEntry -/
theorem rd_lEntry {l : List S42} {i : Nat} (h : i < l.length) : rd_T42 l (i : Int) = l[i] := by unfold rd_T42; exact getD_lt h _
/-! laws_toEntryS -/
def M.toEntry (e : S42) : S38 := ⟨e.f0, e.f1, e.f2, e.f3⟩
theorem laws_toEntryS.ev (l : List S42) (hl : l.length ≤ 1048576) : Ev (fun k => laws_toEntryS.f k l) (l.map M.toEntry) := by
  unfold laws_toEntryS.f
  refine Ev.yes (by omega) (Ev.yes (by omega) ?_)
  refine Ev.loop (fun k i x => laws_toEntryS.l0 k l x (i : Int)) l.length (fun _ _ => l.map M.toEntry) (fun i x => x = (l.take i).map M.toEntry ++ List.replicate (l.length - i) z38) ?_ ?_ 0 _ (by omega) (by simp)
  · rintro s rfl
    refine Ev.round ?_
    simp only [laws_toEntryS.l0]
    exact Ev.no (by omega) (Ev.eq (fill_end _ _ _))
  · rintro i s hi rfl ih
    refine Ev.round ?_
    simp only [laws_toEntryS.l0, rd_lEntry hi, laws_toEntry.f, bind_some_, wrap_succ hi (by omega : l.length ≤ _), Int.toNat_natCast]
    refine Ev.yes (by omega) (Ev.yes (by omega) (Ev.yes (by rw [fill_len _ _ _ (by omega)]; omega) ?_))
    exact ih _ (take_fill M.toEntry l z38 hi)
/-! laws_toBundle -/
theorem laws_toBundle.ev (l : List S42) (hl : l.length ≤ 1048576) : Ev (fun k => laws_toBundle.f k l) (l.map M.toEntry) := by
  unfold laws_toBundle.f; exact Ev.bind (laws_toEntryS.ev l hl) (Ev.now _)
/-! spec_ActiveEntries -/
theorem spec_ActiveEntries.ev (l : List S38) (hl : l.length ≤ 1048576) : Ev (fun k => spec_ActiveEntries.f k l) (M.active l) := by
  unfold spec_ActiveEntries.f
  refine Ev.conv (Ev.loop (fun k i o => spec_ActiveEntries.l0 k o (i : Int) l) l.length (fun i o => o ++ M.active (l.drop i)) (fun i o => o.length ≤ i) ?_ ?_ 0 [] (by omega) (by simp)) (by simp)
  · intro o ho
    refine Ev.round ?_
    simp only [spec_ActiveEntries.l0]
    exact Ev.no (by omega) (Ev.eq (by rw [drop_end]; simp [M.active]))
  · intro i o hi ho ih
    refine Ev.round ?_
    simp only [spec_ActiveEntries.l0, rd_Entry hi, wrap_succ hi (by omega : l.length ≤ _)]
    rw [drop_get hi, active_cons]
    refine Ev.yes (by omega) (Ev.yes (by omega) (Ev.ite (fun h => ?_) (fun h => Ev.yes (by omega) ?_)))
    · rw [if_pos h]; exact ih o (by omega)
    · rw [if_neg h]; exact Ev.conv (ih _ (by simp; omega)) (by simp)

/-! the law -/
theorem FnExactActiveEntries : ∀ (l0_0 : List (S42)), l0_0.length ≤ 9223372036854775807 → ∃ k, laws_FnExactActiveEntries.f k l0_0 = some true := by
  intro l h0
  apply Ev.rounds (r := true)
  unfold laws_FnExactActiveEntries.f
  refine Ev.bindc (laws_szBundle.eq _ _ (by decide) (by decide) h0) (Ev.size fun g0 => ?_)
  have b0 : l.length ≤ 1048576 := by omega
  have c0 : (l.map M.toEntry).length ≤ 1048576 := by simpa using b0
  have t0 := laws_toBundle.ev l b0
  have hs := spec_ActiveEntries.ev _ c0
  have hi := impl_ActiveEntries.ev _ c0
  obtain ⟨rl, hr⟩ : ∃ r, M.active (l.map M.toEntry) = r := ⟨_, rfl⟩
  have hl : rl.length ≤ 1048576 := by have := active_len (l.map M.toEntry); rw [hr] at this; omega
  rw [hr] at hs hi
  clear hr
  refine Ev.bind t0 (Ev.bind hs (Ev.bind t0 (Ev.bind hi (Ev.bind (laws_eqEntryS.refl _ hl) (Ev.yes rfl (Ev.bind t0 (Ev.bind (laws_eqBundle.refl _ c0) (Ev.yes rfl (Ev.bind (laws_markBundle.ev _ 1 c0 (by omega) (by omega)) (Ev.no (by simp only; omega) (Ev.bind (laws_eqEntryS.refl _ hl) ?_)))))))))))
  refine Ev.round ?_
  simp only [laws_FnExactActiveEntries.j0]
  refine Ev.no (by simp) (Ev.bind (laws_markEntryS.ev _ 1 hl (by omega) (by omega)) (Ev.bind (laws_heldEntryS.ev _ 1 hl (by omega) (by omega)) (Ev.no (by first | omega | (simp only; omega)) (Ev.yes rfl (Ev.bind t0 (Ev.bind hi (Ev.bind (laws_eqEntryS.refl _ hl) (Ev.yes rfl ?_))))))))
  exact Ev.bind (laws_heldEntryS.ev _ 1 hl (by omega) (by omega)) (Ev.no (by first | omega | (simp only; omega)) (Ev.yes rfl (Ev.now _)))
end Go.Proofs.Ytjfdaehpifgjbaa.Pure
