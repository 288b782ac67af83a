/- The program's EqualSealed returns what the reference's returns, for all arguments. -/
import Derived.Test.YtghbdajdmdcoiaaOpFnExactEqualSealed
import Derived.Test.YtghbdajdmdcoiaaTFnExactEqualSealed
namespace Go.Proofs.Ytghbdajdmdcoiaa.Pure
open Go.RowKit Go.Proofs.Ytghbdajdmdcoiaa.PFnExactEqualSealed Go.Proofs.YtghbdajdmdcoiaaW.PrintWords Go.Proofs.YtghbdajdmdcoiaaW.PrintLast
set_option linter.unusedVariables false
set_option linter.unusedSimpArgs false

/-! base -/
theorem wrap_in {n : Int} (h1 : -9223372036854775808 ≤ n) (h2 : n ≤ 9223372036854775807) : wrap64 n = n := by unfold wrap64; omega
theorem wrap_succ {i n : Nat} (h : i < n) (hn : n ≤ 1152921504606846976) : wrap64 ((i : Int) + 1) = ((i + 1 : Nat) : Int) := by unfold wrap64; omega
theorem wrap_pred {i : Nat} (h : 0 < i) (hn : i ≤ 1152921504606846976) : wrap64 ((i : Int) - 1) = ((i - 1 : Nat) : Int) := by unfold wrap64; omega
theorem Ev.eq {α : Type} {r s : α} (h : r = s) : Ev (fun _ => some r) s := h ▸ Ev.now r
theorem Ev.opt {α : Type} {o : Option α} {r : α} (h : o = some r) : Ev (fun _ => o) r := h ▸ Ev.now r
theorem Ev.yes {α : Type} {c : Prop} [Decidable c] {g f : Nat → Option α} {r : α} (h : c) (k : Ev g r) : Ev (fun n => if c then g n else f n) r := by simpa [h] using k
theorem Ev.no {α : Type} {c : Prop} [Decidable c] {g f : Nat → Option α} {r : α} (h : ¬ c) (k : Ev f r) : Ev (fun n => if c then g n else f n) r := by simpa [h] using k
theorem Ev.ite {α : Type} {c : Prop} [Decidable c] {g f : Nat → Option α} {r : α} (h : c → Ev g r) (k : ¬ c → Ev f r) : Ev (fun n => if c then g n else f n) r := by
  by_cases hc : c
  · exact Ev.yes hc (h hc)
  · exact Ev.no hc (k hc)
theorem Ev.bindc {α β : Type} {o : Option α} {a : α} {f : Nat → α → Option β} {r : β} (h : o = some a) (k : Ev (fun n => f n a) r) : Ev (fun n => o.bind (f n)) r := by subst h; exact k
theorem Ev.round {α : Type} {g : Nat → Option α} {r : α} (h : Ev (fun k => g (k + 1)) r) : Ev g r := Ev.step (fun _ => rfl) h
theorem Ev.conv {α : Type} {g : Nat → Option α} {r s : α} (k : Ev g r) (h : r = s) : Ev g s := h ▸ k
theorem bind_some_ {α β : Type} (a : α) (f : α → Option β) : (some a).bind f = f a := rfl
/-- A loop that counts: from each place on, the answer is what 'val' says. -/
theorem Ev.loop {σ β : Type} (g : Nat → Nat → σ → Option β) (n : Nat) (val : Nat → σ → β) (Inv : Nat → σ → Prop)
    (done : ∀ s, Inv n s → Ev (fun k => g k n s) (val n s))
    (step : ∀ i s, i < n → Inv i s → (∀ s', Inv (i + 1) s' → Ev (fun k => g k (i + 1) s') (val (i + 1) s')) → Ev (fun k => g k i s) (val i s)) :
    ∀ i s, i ≤ n → Inv i s → Ev (fun k => g k i s) (val i s) := by
  have : ∀ d i s, i + d = n → Inv i s → Ev (fun k => g k i s) (val i s) := by
    intro d
    induction d with
    | zero =>
      intro i s hi hs
      obtain rfl : i = n := by omega
      exact done s hs
    | succ d ih => intro i s hi hs; exact step i s (by omega) hs (fun s' hs' => ih (i + 1) s' (by omega) hs')
  intro i s hi hs
  exact this (n - i) i s (by omega) hs
theorem getD_lt {α : Type} {l : List α} {i : Nat} (h : i < l.length) (d : α) : l.getD i d = l[i] := by simp [List.getD_eq_getElem?_getD, h]
theorem rd_get {l : List Int} {i : Nat} (h : i < l.length) : rd l (i : Int) = l[i] := by unfold rd; exact getD_lt h _
theorem take_fill {α β : Type} (f : α → β) (l : List α) (z : β) {i : Nat} (h : i < l.length) :
    ((l.take i).map f ++ List.replicate (l.length - i) z).set i (f l[i]) = (l.take (i + 1)).map f ++ List.replicate (l.length - (i + 1)) z := by
  have e : l.length - i = (l.length - (i + 1)) + 1 := by omega
  rw [e, List.replicate_succ, List.set_append_right _ _ (by simp; omega)]
  have : i - (List.map f (List.take i l)).length = 0 := by simp; omega
  rw [this, List.set_cons_zero, List.take_succ_eq_append_getElem h, List.map_append]
  simp
theorem fill_len {α β : Type} (f : α → β) (l : List α) (z : β) {i : Nat} (h : i ≤ l.length) : ((l.take i).map f ++ List.replicate (l.length - i) z).length = l.length := by simp; omega
theorem fill_end {α β : Type} (f : α → β) (l : List α) (z : β) : (l.take l.length).map f ++ List.replicate (l.length - l.length) z = l.map f := by simp
theorem drop_get {α : Type} {l : List α} {i : Nat} (h : i < l.length) : l.drop i = l[i] :: l.drop (i + 1) := List.drop_eq_getElem_cons h
theorem drop_end {α : Type} (l : List α) : l.drop l.length = [] := List.drop_eq_nil_of_le (Nat.le_refl _)
/-! eqb -/
def M.eqb (a b : List Int) : Bool := (strOfNums a).toList == (strOfNums b).toList
/-! equalsealed -/
def M.equalSealed (e v : Int) (l : List Int) (m : Int) (e' v' : Int) (l' : List Int) (m' : Int) : Bool := decide (e = e') && (decide (v = v') && (decide (m = m') && M.eqb l l'))
/-! impl_EqualBytes -/
theorem impl_EqualBytes.eq (a b : List Int) : impl_EqualBytes.f a b = some (M.eqb a b) := rfl
/-! impl_EqualSealed -/
theorem impl_EqualSealed.eq (e v : Int) (l : List Int) (m : Int) (e' v' : Int) (l' : List Int) (m' : Int) : impl_EqualSealed.f e v l m e' v' l' m' = some (M.equalSealed e v l m e' v' l' m') := by
  unfold impl_EqualSealed.f M.equalSealed
  simp only [impl_EqualBytes.eq, bind_some_]
  by_cases h1 : e = e' <;> by_cases h2 : v = v' <;> by_cases h3 : m = m' <;> cases M.eqb l l' <;> simp [h1, h2, h3]
/-! laws_eqByteS -/
theorem laws_eqByteS.refl (l : List Int) (hl : l.length ≤ 1048576) : Ev (fun k => laws_eqByteS.f k l l) true := by
  unfold laws_eqByteS.f
  refine Ev.yes rfl ?_
  refine Ev.loop (fun k i (_ : Unit) => laws_eqByteS.l0 k l l (i : Int)) l.length (fun _ _ => true) (fun _ _ => True) ?_ ?_ 0 () (by omega) trivial
  · rintro s _
    refine Ev.round ?_
    simp only [laws_eqByteS.l0]
    exact Ev.no (by omega) (Ev.now _)
  · rintro i s hi _ ih
    refine Ev.round ?_
    simp only [laws_eqByteS.l0, wrap_succ hi (by omega : l.length ≤ _)]
    exact Ev.yes (by omega) (Ev.yes (by omega) (Ev.yes (by omega) (Ev.yes (by first | trivial | rfl) (ih () trivial))))
/-! laws_eqSealedBundle -/
theorem laws_eqSealedBundle.refl (e v : Int) (l : List Int) (m : Int) (hl : l.length ≤ 1048576) : Ev (fun k => laws_eqSealedBundle.f k e v l m e v l m) true := by
  unfold laws_eqSealedBundle.f
  exact Ev.yes rfl (Ev.yes rfl (Ev.bind (laws_eqByteS.refl l hl) (Ev.yes rfl (Ev.yes rfl (Ev.now _)))))
/-! sz -/
def M.sz (n : Nat) (a : Int) : Int := if a - n < 0 then -1 else a - n
theorem sz_eq (n : Nat) (a : Int) (ha : 0 ≤ a) (ha2 : a ≤ 1048576) (hn : n ≤ 9223372036854775807) : (if (wrap64 (a - (n : Int))) < 0 then (some (-1)) else (some (wrap64 (a - (n : Int)))) : Option Int) = some (M.sz n a) := by
  rw [wrap_in (by omega) (by omega)]; unfold M.sz; split <;> rfl
theorem sz_over {n : Nat} {a : Int} (h : a < n) : M.sz n a = -1 := by unfold M.sz; rw [if_pos (by omega)]
theorem sz_fits {n : Nat} {a : Int} (h : (n : Int) ≤ a) : M.sz n a = a - n := by unfold M.sz; rw [if_neg (by omega)]
theorem sz_wrap (n : Nat) (a : Int) : (if M.sz n a < 0 then (some (-1)) else (some (M.sz n a)) : Option Int) = some (M.sz n a) := by
  unfold M.sz; split <;> simp_all
theorem sz_add (n m : Nat) (a : Int) : (if M.sz n a < 0 then -1 else M.sz m (M.sz n a)) = M.sz (n + m) a := by
  unfold M.sz; split <;> split <;> simp_all <;> omega
/-- A law's own look at the size of an argument. -/
theorem Ev.size {n : Nat} {a : Int} {f : Nat → Option Bool} (h : (n : Int) ≤ a → Ev f true) : Ev (fun k => if M.sz n a < 0 then some true else f k) true := by
  by_cases hn : (n : Int) ≤ a
  · exact Ev.no (by rw [sz_fits hn]; omega) (h hn)
  · exact Ev.yes (by rw [sz_over (by omega)]; omega) (Ev.now _)
/-! laws_szByteS -/
theorem laws_szByteS.eq (l : List Int) (a : Int) (ha : 0 ≤ a) (ha2 : a ≤ 1048576) (hl : l.length ≤ 9223372036854775807) : laws_szByteS.f l a = some (M.sz l.length a) := by
  unfold laws_szByteS.f; exact sz_eq _ _ ha ha2 hl
/-! laws_szSealedBundle -/
theorem laws_szSealedBundle.eq (e v : Int) (l : List Int) (m a : Int) (ha : 0 ≤ a) (ha2 : a ≤ 1048576) (hl : l.length ≤ 9223372036854775807) : laws_szSealedBundle.f e v l m a = some (M.sz l.length a) := by
  unfold laws_szSealedBundle.f
  rw [laws_szByteS.eq l a ha ha2 hl]; exact sz_wrap _ _
/-! laws_toByteS -/
theorem laws_toByteS.ev (l : List Int) (hl : l.length ≤ 1048576) : Ev (fun k => laws_toByteS.f k l) l := by
  unfold laws_toByteS.f
  refine Ev.yes (by omega) (Ev.yes (by omega) ?_)
  have := Ev.loop (fun k i x => laws_toByteS.l0 k l x (i : Int)) l.length (fun _ _ => l) (fun i x => x = (l.take i).map id ++ List.replicate (l.length - i) 0) ?_ ?_ 0 _ (by omega) rfl
  · simpa using this
  · rintro s rfl
    refine Ev.round ?_
    simp only [laws_toByteS.l0]
    exact Ev.no (by omega) (Ev.eq (by rw [fill_end]; simp))
  · rintro i s hi rfl ih
    refine Ev.round ?_
    simp only [laws_toByteS.l0, rd_get hi, wrap_succ hi (by omega : l.length ≤ _), Int.toNat_natCast]
    refine Ev.yes (by omega) (Ev.yes (by omega) (Ev.yes (by rw [fill_len _ _ _ (by omega)]; omega) ?_))
    exact ih _ (take_fill id l 0 hi)
/-! laws_toSealedBundle -/
theorem laws_toSealedBundle.ev (e v : Int) (l : List Int) (m : Int) (hl : l.length ≤ 1048576) : Ev (fun k => laws_toSealedBundle.f k e v l m) (e, v, l, m) := by
  unfold laws_toSealedBundle.f
  exact Ev.bind (laws_toByteS.ev l hl) (Ev.now _)
/-! spec_EqualBytes -/
theorem spec_EqualBytes.eq (a b : List Int) : spec_EqualBytes.f a b = some (M.eqb a b) := rfl
/-! spec_EqualSealed -/
theorem spec_EqualSealed.eq (e v : Int) (l : List Int) (m : Int) (e' v' : Int) (l' : List Int) (m' : Int) : spec_EqualSealed.f e v l m e' v' l' m' = some (M.equalSealed e v l m e' v' l' m') := by
  unfold spec_EqualSealed.f M.equalSealed
  simp only [spec_EqualBytes.eq, bind_some_]
  by_cases h1 : e = e' <;> by_cases h2 : v = v' <;> by_cases h3 : m = m' <;> simp [h1, h2, h3]

/-! the law -/
theorem FnExactEqualSealed : ∀ (a0_0 : Int) (a0_1 : Int) (l0_2 : List Int) (a0_3 : Int) (a1_0 : Int) (a1_1 : Int) (l1_2 : List Int) (a1_3 : Int), l0_2.length ≤ 9223372036854775807 → l1_2.length ≤ 9223372036854775807 → ∃ k, laws_FnExactEqualSealed.f k a0_0 a0_1 l0_2 a0_3 a1_0 a1_1 l1_2 a1_3 = some true := by
  intro a0_0 a0_1 l0_2 a0_3 a1_0 a1_1 l1_2 a1_3 h0 h1
  apply Ev.rounds (r := true)
  unfold laws_FnExactEqualSealed.f
  refine Ev.bindc (laws_szSealedBundle.eq _ _ _ _ _ (by decide) (by decide) h0) (Ev.size fun g0 => ?_)
  rw [sz_fits g0]
  refine Ev.bindc (laws_szSealedBundle.eq _ _ _ _ _ (by omega) (by omega) h1) (Ev.size fun g1 => ?_)
  have b0 : l0_2.length ≤ 1048576 := by omega
  have b1 : l1_2.length ≤ 1048576 := by omega
  have t0 := laws_toSealedBundle.ev a0_0 a0_1 l0_2 a0_3 b0
  have t1 := laws_toSealedBundle.ev a1_0 a1_1 l1_2 a1_3 b1
  refine Ev.bind t0 (Ev.bind t1 (Ev.bindc (spec_EqualSealed.eq ..) (Ev.bind t0 (Ev.bind t1 (Ev.bindc (impl_EqualSealed.eq ..) (Ev.no (by simp) ?_))))))
  exact Ev.bind t0 (Ev.bind (laws_eqSealedBundle.refl _ _ _ _ b0) (Ev.yes rfl (Ev.bind t1 (Ev.bind (laws_eqSealedBundle.refl _ _ _ _ b1) (Ev.yes rfl (Ev.now _))))))
end Go.Proofs.Ytghbdajdmdcoiaa.Pure
