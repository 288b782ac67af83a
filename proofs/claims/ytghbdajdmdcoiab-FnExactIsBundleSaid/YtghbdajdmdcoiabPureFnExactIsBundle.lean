/- The program's IsBundle returns what the reference's returns, for all arguments. -/
import Derived.Test.YtghbdajdmdcoiabOpFnExactIsBundle
import Derived.Test.YtghbdajdmdcoiabPFnExactIsBundlex5
namespace Go.Proofs.Ytghbdajdmdcoiab.Pure
open Go.RowKit Go.Proofs.Ytghbdajdmdcoiab.PFnExactIsBundle Go.Proofs.YtghbdajdmdcoiabW.PrintWords Go.Proofs.YtghbdajdmdcoiabW.PrintLast
set_option linter.unusedVariables false
set_option linter.unusedSimpArgs false

/-! base -/
theorem wrap_in {n : Int} (h1 : -9223372036854775808 ≤ n) (h2 : n ≤ 9223372036854775807) : wrap64 n = n := by unfold wrap64; omega
theorem wrap_succ {i n : Nat} (h : i < n) (hn : n ≤ 1152921504606846976) : wrap64 ((i : Int) + 1) = ((i + 1 : Nat) : Int) := by unfold wrap64; omega
theorem wrap_pred {i : Nat} (h : 0 < i) (hn : i ≤ 1152921504606846976) : wrap64 ((i : Int) - 1) = ((i - 1 : Nat) : Int) := by unfold wrap64; omega
theorem Ev.eq {α : Type} {r s : α} (h : r = s) : Ev (fun _ => some r) s := h ▸ Ev.now r
theorem Ev.opt {α : Type} {o : Option α} {r : α} (h : o = some r) : Ev (fun _ => o) r := h ▸ Ev.now r
theorem Ev.yes {α : Type} {c : Prop} [Decidable c] {g f : Nat → Option α} {r : α} (h : c) (k : Ev g r) : Ev (fun n => if c then g n else f n) r := by simpa [h] using k
theorem Ev.no {α : Type} {c : Prop} [Decidable c] {g f : Nat → Option α} {r : α} (h : ¬ c) (k : Ev f r) : Ev (fun n => if c then g n else f n) r := by simpa [h] using k
theorem Ev.ite {α : Type} {c : Prop} [Decidable c] {g f : Nat → Option α} {r : α} (h : c → Ev g r) (k : ¬ c → Ev f r) : Ev (fun n => if c then g n else f n) r := by
  by_cases hc : c
  · exact Ev.yes hc (h hc)
  · exact Ev.no hc (k hc)
theorem Ev.bindc {α β : Type} {o : Option α} {a : α} {f : Nat → α → Option β} {r : β} (h : o = some a) (k : Ev (fun n => f n a) r) : Ev (fun n => o.bind (f n)) r := by subst h; exact k
theorem Ev.round {α : Type} {g : Nat → Option α} {r : α} (h : Ev (fun k => g (k + 1)) r) : Ev g r := Ev.step (fun _ => rfl) h
theorem Ev.conv {α : Type} {g : Nat → Option α} {r s : α} (k : Ev g r) (h : r = s) : Ev g s := h ▸ k
theorem bind_some_ {α β : Type} (a : α) (f : α → Option β) : (some a).bind f = f a := rfl
/-- A loop that counts: from each place on, the answer is what 'val' says. -/
theorem Ev.loop {σ β : Type} (g : Nat → Nat → σ → Option β) (n : Nat) (val : Nat → σ → β) (Inv : Nat → σ → Prop)
    (done : ∀ s, Inv n s → Ev (fun k => g k n s) (val n s))
    (step : ∀ i s, i < n → Inv i s → (∀ s', Inv (i + 1) s' → Ev (fun k => g k (i + 1) s') (val (i + 1) s')) → Ev (fun k => g k i s) (val i s)) :
    ∀ i s, i ≤ n → Inv i s → Ev (fun k => g k i s) (val i s) := by
  have : ∀ d i s, i + d = n → Inv i s → Ev (fun k => g k i s) (val i s) := by
    intro d
    induction d with
    | zero =>
      intro i s hi hs
      obtain rfl : i = n := by omega
      exact done s hs
    | succ d ih => intro i s hi hs; exact step i s (by omega) hs (fun s' hs' => ih (i + 1) s' (by omega) hs')
  intro i s hi hs
  exact this (n - i) i s (by omega) hs
theorem getD_lt {α : Type} {l : List α} {i : Nat} (h : i < l.length) (d : α) : l.getD i d = l[i] := by simp [List.getD_eq_getElem?_getD, h]
theorem rd_get {l : List Int} {i : Nat} (h : i < l.length) : rd l (i : Int) = l[i] := by unfold rd; exact getD_lt h _
theorem take_fill {α β : Type} (f : α → β) (l : List α) (z : β) {i : Nat} (h : i < l.length) :
    ((l.take i).map f ++ List.replicate (l.length - i) z).set i (f l[i]) = (l.take (i + 1)).map f ++ List.replicate (l.length - (i + 1)) z := by
  have e : l.length - i = (l.length - (i + 1)) + 1 := by omega
  rw [e, List.replicate_succ, List.set_append_right _ _ (by simp; omega)]
  have : i - (List.map f (List.take i l)).length = 0 := by simp; omega
  rw [this, List.set_cons_zero, List.take_succ_eq_append_getElem h, List.map_append]
  simp
theorem fill_len {α β : Type} (f : α → β) (l : List α) (z : β) {i : Nat} (h : i ≤ l.length) : ((l.take i).map f ++ List.replicate (l.length - i) z).length = l.length := by simp; omega
theorem fill_end {α β : Type} (f : α → β) (l : List α) (z : β) : (l.take l.length).map f ++ List.replicate (l.length - l.length) z = l.map f := by simp
theorem drop_get {α : Type} {l : List α} {i : Nat} (h : i < l.length) : l.drop i = l[i] :: l.drop (i + 1) := List.drop_eq_getElem_cons h
theorem drop_end {α : Type} (l : List α) : l.drop l.length = [] := List.drop_eq_nil_of_le (Nat.le_refl _)
/-! rd-Entry -/
theorem rd_Entry {l : List S54} {i : Nat} (h : i < l.length) : rd_T54 l (i : Int) = l[i] := by unfold rd_T54; exact getD_lt h _
/-! inrange -/
def M.inr (a b c : Int) : Bool := decide (b ≤ a ∧ a ≤ c)
theorem inr_true {a b c : Int} : M.inr a b c = true ↔ b ≤ a ∧ a ≤ c := by simp [M.inr]
/-! isbundle -/
def M.okE (e : S54) : Bool := M.inr e.f0 0 2147483646 && (M.inr e.f1 0 1000000 && M.inr e.f2 1 1000000)
def M.lessE (a b : S54) : Bool := decide (a.f0 < b.f0) || (decide (a.f0 = b.f0) && decide (a.f1 < b.f1))
/-- All entries are in range, and each comes behind the one before it. -/
def M.rises : Option S54 → List S54 → Bool
  | _, [] => true
  | none, e :: l => M.okE e && M.rises (some e) l
  | some p, e :: l => M.okE e && (M.lessE p e && M.rises (some e) l)
def M.isBundle (l : List S54) : Bool := decide (l.length ≤ 20) && M.rises none l
/-- The element before a place. -/
def M.before (l : List S54) (i : Nat) : Option S54 := if i = 0 then none else l[i - 1]?
theorem before_succ (l : List S54) (i : Nat) (h : i < l.length) : M.before l (i + 1) = some l[i] := by
  unfold M.before; rw [if_neg (by omega)]; simp [h]
theorem rises_at (l : List S54) (i : Nat) (h : i < l.length) : M.rises (M.before l i) (l.drop i) = (M.okE l[i] && ((decide (i = 0) || M.lessE (l[i - 1]'(by omega)) l[i]) && M.rises (M.before l (i + 1)) (l.drop (i + 1)))) := by
  rw [drop_get h, before_succ l i h]
  by_cases h0 : i = 0
  · subst h0; simp [M.before, M.rises]
  · unfold M.before; rw [if_neg h0, List.getElem?_eq_getElem (by omega)]; simp [M.rises, h0]
/-! impl_entryBefore -/
theorem impl_entryBefore.eq (a b : S54) : impl_entryBefore.f a.f0 a.f1 a.f2 a.f3 b.f0 b.f1 b.f2 b.f3 = some (M.lessE a b) := by
  unfold impl_entryBefore.f M.lessE
  by_cases h1 : a.f0 < b.f0 <;> by_cases h2 : a.f0 = b.f0 <;> simp [h1, h2]
/-! impl_InRange -/
theorem impl_InRange.eq (a b c : Int) : impl_InRange.f a b c = some (M.inr a b c) := by
  unfold impl_InRange.f M.inr
  by_cases h : b ≤ a
  · rw [if_pos h]; simp [h]
  · rw [if_neg h]
    simp [h]
/-! impl_IsBundle -/
theorem impl_IsBundle.ev (l : List S54) (hl : l.length ≤ 1048576) : Ev (fun k => impl_IsBundle.f k l) (M.isBundle l) := by
  unfold impl_IsBundle.f
  refine Ev.ite (fun h => Ev.eq (by have : ¬ l.length ≤ 20 := by omega
                                    simp [M.isBundle, this])) (fun hh => ?_)
  have hh2 : l.length ≤ 20 := by omega
  refine Ev.conv (Ev.loop (fun k i (_ : Unit) => impl_IsBundle.l0 k l l.length (i : Int) l) l.length (fun i _ => M.rises (M.before l i) (l.drop i)) (fun _ _ => True) ?_ ?_ 0 () (by omega) trivial) (by simp [M.isBundle, M.before, hh2])
  · rintro s _
    refine Ev.round ?_
    simp only [impl_IsBundle.l0]
    refine Ev.no (by omega) (Ev.eq ?_)
    rw [drop_end]; cases M.before l l.length <;> simp [M.rises]
  · rintro i s hi _ ih
    refine Ev.round ?_
    simp only [impl_IsBundle.l0, wrap_succ hi (by omega : l.length ≤ _), rd_Entry hi, impl_InRange.eq, bind_some_]
    rw [rises_at l i hi]
    refine Ev.yes (by omega) (Ev.yes (by omega) (Ev.yes (by omega) (Ev.ite (fun h1 => Ev.ite (fun h2 => Ev.ite (fun h3 => ?_) (fun h3 => ?_)) (fun h2 => ?_)) (fun h1 => ?_))))
    · have ho : M.okE l[i] = true := by simp [M.okE, h1, h2, h3]
      refine Ev.ite (fun h0 => ?_) (fun h0 => ?_)
      · have hp : wrap64 ((i : Int) - 1) = ((i - 1 : Nat) : Int) := wrap_pred (by omega) (by omega)
        simp only [hp, rd_Entry (by omega : i - 1 < l.length), impl_entryBefore.eq, bind_some_]
        refine Ev.yes (by omega) (Ev.yes (by omega) (Ev.ite (fun h4 => ?_) (fun h4 => ?_)))
        · refine Ev.conv (ih () trivial) (by simp [ho, h4])
        · refine Ev.eq (by simp [ho, h4]; omega)
      · refine Ev.conv (ih () trivial) (by obtain rfl : i = 0 := (by omega); simp [ho])
    · exact Ev.eq (by simp [M.okE, h3])
    · exact Ev.eq (by simp [M.okE, h2])
    · exact Ev.eq (by simp [M.okE, h1])
/-! laws_eqEntryS -/
theorem laws_eqEntryS.refl (l : List S54) (hl : l.length ≤ 1048576) : Ev (fun k => laws_eqEntryS.f k l l) true := by
  unfold laws_eqEntryS.f
  refine Ev.yes rfl ?_
  refine Ev.loop (fun k i (_ : Unit) => laws_eqEntryS.l0 k l l (i : Int)) l.length (fun _ _ => true) (fun _ _ => True) ?_ ?_ 0 () (by omega) trivial
  · rintro s _
    refine Ev.round ?_
    simp only [laws_eqEntryS.l0]
    exact Ev.no (by omega) (Ev.now _)
  · rintro i s hi _ ih
    refine Ev.round ?_
    simp only [laws_eqEntryS.l0, wrap_succ hi (by omega : l.length ≤ _), laws_eqEntry.f, if_true, bind_some_, bne_self_eq_false, Bool.false_eq_true, if_false]
    exact Ev.yes (by omega) (Ev.yes (by omega) (Ev.yes (by omega) (ih () trivial)))
/-! laws_eqBundle -/
theorem laws_eqBundle.refl (l : List S54) (hl : l.length ≤ 1048576) : Ev (fun k => laws_eqBundle.f k l l) true := by
  unfold laws_eqBundle.f; exact Ev.bind (laws_eqEntryS.refl l hl) (Ev.yes rfl (Ev.now _))
/-! sz -/
def M.sz (n : Nat) (a : Int) : Int := if a - n < 0 then -1 else a - n
theorem sz_eq (n : Nat) (a : Int) (ha : 0 ≤ a) (ha2 : a ≤ 1048576) (hn : n ≤ 9223372036854775807) : (if (wrap64 (a - (n : Int))) < 0 then (some (-1)) else (some (wrap64 (a - (n : Int)))) : Option Int) = some (M.sz n a) := by
  rw [wrap_in (by omega) (by omega)]; unfold M.sz; split <;> rfl
theorem sz_over {n : Nat} {a : Int} (h : a < n) : M.sz n a = -1 := by unfold M.sz; rw [if_pos (by omega)]
theorem sz_fits {n : Nat} {a : Int} (h : (n : Int) ≤ a) : M.sz n a = a - n := by unfold M.sz; rw [if_neg (by omega)]
theorem sz_wrap (n : Nat) (a : Int) : (if M.sz n a < 0 then (some (-1)) else (some (M.sz n a)) : Option Int) = some (M.sz n a) := by
  unfold M.sz; split <;> simp_all
theorem sz_add (n m : Nat) (a : Int) : (if M.sz n a < 0 then -1 else M.sz m (M.sz n a)) = M.sz (n + m) a := by
  unfold M.sz; split <;> split <;> simp_all <;> omega
/-- A law's own look at the size of an argument. -/
theorem Ev.size {n : Nat} {a : Int} {f : Nat → Option Bool} (h : (n : Int) ≤ a → Ev f true) : Ev (fun k => if M.sz n a < 0 then some true else f k) true := by
  by_cases hn : (n : Int) ≤ a
  · exact Ev.no (by rw [sz_fits hn]; omega) (h hn)
  · exact Ev.yes (by rw [sz_over (by omega)]; omega) (Ev.now _)
/-! laws_szEntryS -/
theorem laws_szEntryS.eq (l : List S74) (a : Int) (ha : 0 ≤ a) (ha2 : a ≤ 1048576) (hl : l.length ≤ 9223372036854775807) : laws_szEntryS.f l a = some (M.sz l.length a) := by
  unfold laws_szEntryS.f; exact sz_eq _ _ ha ha2 hl
/-! laws_szBundle -/
theorem laws_szBundle.eq (l : List S74) (a : Int) (ha : 0 ≤ a) (ha2 : a ≤ 1048576) (hl : l.length ≤ 9223372036854775807) : laws_szBundle.f l a = some (M.sz l.length a) := by
  unfold laws_szBundle.f; rw [laws_szEntryS.eq l a ha ha2 hl]; exact sz_wrap _ _
/-! rd-lEntry -/
theorem rd_lEntry {l : List S74} {i : Nat} (h : i < l.length) : rd_T74 l (i : Int) = l[i] := by unfold rd_T74; exact getD_lt h _
/-! laws_toEntryS -/
def M.toEntry (e : S74) : S54 := ⟨e.f0, e.f1, e.f2, e.f3⟩
theorem laws_toEntryS.ev (l : List S74) (hl : l.length ≤ 1048576) : Ev (fun k => laws_toEntryS.f k l) (l.map M.toEntry) := by
  unfold laws_toEntryS.f
  refine Ev.yes (by omega) (Ev.yes (by omega) ?_)
  refine Ev.loop (fun k i x => laws_toEntryS.l0 k l x (i : Int)) l.length (fun _ _ => l.map M.toEntry) (fun i x => x = (l.take i).map M.toEntry ++ List.replicate (l.length - i) z54) ?_ ?_ 0 _ (by omega) (by simp)
  · rintro s rfl
    refine Ev.round ?_
    simp only [laws_toEntryS.l0]
    exact Ev.no (by omega) (Ev.eq (fill_end _ _ _))
  · rintro i s hi rfl ih
    refine Ev.round ?_
    simp only [laws_toEntryS.l0, rd_lEntry hi, laws_toEntry.f, bind_some_, wrap_succ hi (by omega : l.length ≤ _), Int.toNat_natCast]
    refine Ev.yes (by omega) (Ev.yes (by omega) (Ev.yes (by rw [fill_len _ _ _ (by omega)]; omega) ?_))
    exact ih _ (take_fill M.toEntry l z54 hi)
/-! laws_toBundle -/
theorem laws_toBundle.ev (l : List S74) (hl : l.length ≤ 1048576) : Ev (fun k => laws_toBundle.f k l) (l.map M.toEntry) := by
  unfold laws_toBundle.f; exact Ev.bind (laws_toEntryS.ev l hl) (Ev.now _)
/-! spec_l17Less -/
theorem spec_l17Less.eq (a b : S54) : spec_l17Less.f a.f0 a.f1 a.f2 a.f3 b.f0 b.f1 = some (M.lessE a b) := by
  unfold spec_l17Less.f M.lessE
  by_cases h1 : a.f0 < b.f0 <;> by_cases h2 : a.f0 = b.f0 <;> simp [h1, h2]
/-! spec_l1In -/
theorem spec_l1In.eq (a b c : Int) : spec_l1In.f a b c = some (M.inr a b c) := by
  unfold spec_l1In.f M.inr
  by_cases h : a ≥ b
  · rw [if_pos h]; simp [h]
  · rw [if_neg h]; have : ¬ b ≤ a := by omega
    simp [this]
/-! spec_IsBundle -/
theorem spec_IsBundle.ev (l : List S54) (hl : l.length ≤ 1048576) : Ev (fun k => spec_IsBundle.f k l) (M.isBundle l) := by
  unfold spec_IsBundle.f
  refine Ev.conv (Ev.loop (fun k i (_ : Unit) => spec_IsBundle.l0 k (i : Int) l) l.length (fun i _ => decide (l.length ≤ 20) && M.rises (M.before l i) (l.drop i)) (fun _ _ => True) ?_ ?_ 0 () (by omega) trivial) (by simp [M.isBundle, M.before])
  · rintro s _
    refine Ev.round ?_
    simp only [spec_IsBundle.l0]
    refine Ev.no (by omega) (Ev.eq ?_)
    rw [drop_end]; cases M.before l l.length <;> simp [M.rises] <;> omega
  · rintro i s hi _ ih
    refine Ev.round ?_
    simp only [spec_IsBundle.l0, wrap_succ hi (by omega : l.length ≤ _), rd_Entry hi, spec_l1In.eq, bind_some_]
    rw [rises_at l i hi]
    refine Ev.yes (by omega) (Ev.yes (by omega) (Ev.ite (fun h1 => Ev.ite (fun h2 => Ev.ite (fun h3 => ?_) (fun h3 => ?_)) (fun h2 => ?_)) (fun h1 => ?_)))
    · have ho : M.okE l[i] = true := by simp [M.okE, h1, h2, h3]
      refine Ev.ite (fun h0 => ?_) (fun h0 => ?_)
      · have hp : wrap64 ((i : Int) - 1) = ((i - 1 : Nat) : Int) := wrap_pred (by omega) (by omega)
        simp only [hp, rd_Entry (by omega : i - 1 < l.length), spec_l17Less.eq, bind_some_]
        refine Ev.yes (by omega) (Ev.yes (by omega) (Ev.ite (fun h4 => ?_) (fun h4 => ?_)))
        · refine Ev.conv (ih () trivial) (by simp [ho, h4])
        · refine Ev.eq (by simp [ho, h4]; omega)
      · refine Ev.conv (ih () trivial) (by obtain rfl : i = 0 := (by omega); simp [ho])
    · exact Ev.eq (by simp [M.okE, h3])
    · exact Ev.eq (by simp [M.okE, h2])
    · exact Ev.eq (by simp [M.okE, h1])

/-! the law -/
theorem FnExactIsBundle : ∀ (l0_0 : List (S74)), l0_0.length ≤ 9223372036854775807 → ∃ k, laws_FnExactIsBundle.f k l0_0 = some true := by
  intro l0 h0
  apply Ev.rounds (r := true)
  unfold laws_FnExactIsBundle.f
  refine Ev.bindc (laws_szBundle.eq _ _ (by decide) (by decide) h0) (Ev.size fun g0 => ?_)
  have b0 : l0.length ≤ 1048576 := by omega
  have c0 : (l0.map M.toEntry).length ≤ 1048576 := by simpa using b0
  have t0 := laws_toBundle.ev l0 b0
  exact Ev.bind t0 (Ev.bind (spec_IsBundle.ev _ c0) (Ev.bind t0 (Ev.bind (impl_IsBundle.ev _ c0) (Ev.no (by simp) (Ev.bind t0 (Ev.bind (laws_eqBundle.refl _ c0) (Ev.yes rfl (Ev.now _))))))))
end Go.Proofs.Ytghbdajdmdcoiab.Pure
