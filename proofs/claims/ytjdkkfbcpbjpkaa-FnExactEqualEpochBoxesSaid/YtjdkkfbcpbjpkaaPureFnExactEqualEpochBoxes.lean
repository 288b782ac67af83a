/- The program's EqualEpochBoxes returns what the reference's returns, for all arguments. -/
import Derived.Test.YtjdkkfbcpbjpkaaOpFnExactEqualEpochBoxes
import Derived.Test.YtjdkkfbcpbjpkaaPFnExactEqualEpochBoxesx5
namespace Go.Proofs.Ytjdkkfbcpbjpkaa.Pure
open Go.RowKit Go.Proofs.Ytjdkkfbcpbjpkaa.PFnExactEqualEpochBoxes Go.Proofs.YtjdkkfbcpbjpkaaW.PrintWords Go.Proofs.YtjdkkfbcpbjpkaaW.PrintLast
set_option linter.unusedVariables false
set_option linter.unusedSimpArgs false

/-! base -/
theorem wrap_in {n : Int} (h1 : -9223372036854775808 ≤ n) (h2 : n ≤ 9223372036854775807) : wrap64 n = n := by unfold wrap64; omega
theorem wrap_succ {i n : Nat} (h : i < n) (hn : n ≤ 1152921504606846976) : wrap64 ((i : Int) + 1) = ((i + 1 : Nat) : Int) := by unfold wrap64; omega
theorem wrap_pred {i : Nat} (h : 0 < i) (hn : i ≤ 1152921504606846976) : wrap64 ((i : Int) - 1) = ((i - 1 : Nat) : Int) := by unfold wrap64; omega
theorem Ev.eq {α : Type} {r s : α} (h : r = s) : Ev (fun _ => some r) s := h ▸ Ev.now r
theorem Ev.opt {α : Type} {o : Option α} {r : α} (h : o = some r) : Ev (fun _ => o) r := h ▸ Ev.now r
theorem Ev.yes {α : Type} {c : Prop} [Decidable c] {g f : Nat → Option α} {r : α} (h : c) (k : Ev g r) : Ev (fun n => if c then g n else f n) r := by simpa [h] using k
theorem Ev.no {α : Type} {c : Prop} [Decidable c] {g f : Nat → Option α} {r : α} (h : ¬ c) (k : Ev f r) : Ev (fun n => if c then g n else f n) r := by simpa [h] using k
theorem Ev.ite {α : Type} {c : Prop} [Decidable c] {g f : Nat → Option α} {r : α} (h : c → Ev g r) (k : ¬ c → Ev f r) : Ev (fun n => if c then g n else f n) r := by
  by_cases hc : c
  · exact Ev.yes hc (h hc)
  · exact Ev.no hc (k hc)
theorem Ev.bindc {α β : Type} {o : Option α} {a : α} {f : Nat → α → Option β} {r : β} (h : o = some a) (k : Ev (fun n => f n a) r) : Ev (fun n => o.bind (f n)) r := by subst h; exact k
theorem Ev.round {α : Type} {g : Nat → Option α} {r : α} (h : Ev (fun k => g (k + 1)) r) : Ev g r := Ev.step (fun _ => rfl) h
theorem Ev.conv {α : Type} {g : Nat → Option α} {r s : α} (k : Ev g r) (h : r = s) : Ev g s := h ▸ k
theorem bind_some_ {α β : Type} (a : α) (f : α → Option β) : (some a).bind f = f a := rfl
/-- A loop that counts: from each place on, the answer is what 'val' says. -/
theorem Ev.loop {σ β : Type} (g : Nat → Nat → σ → Option β) (n : Nat) (val : Nat → σ → β) (Inv : Nat → σ → Prop)
    (done : ∀ s, Inv n s → Ev (fun k => g k n s) (val n s))
    (step : ∀ i s, i < n → Inv i s → (∀ s', Inv (i + 1) s' → Ev (fun k => g k (i + 1) s') (val (i + 1) s')) → Ev (fun k => g k i s) (val i s)) :
    ∀ i s, i ≤ n → Inv i s → Ev (fun k => g k i s) (val i s) := by
  have : ∀ d i s, i + d = n → Inv i s → Ev (fun k => g k i s) (val i s) := by
    intro d
    induction d with
    | zero =>
      intro i s hi hs
      obtain rfl : i = n := by omega
      exact done s hs
    | succ d ih => intro i s hi hs; exact step i s (by omega) hs (fun s' hs' => ih (i + 1) s' (by omega) hs')
  intro i s hi hs
  exact this (n - i) i s (by omega) hs
theorem getD_lt {α : Type} {l : List α} {i : Nat} (h : i < l.length) (d : α) : l.getD i d = l[i] := by simp [List.getD_eq_getElem?_getD, h]
theorem rd_get {l : List Int} {i : Nat} (h : i < l.length) : rd l (i : Int) = l[i] := by unfold rd; exact getD_lt h _
theorem take_fill {α β : Type} (f : α → β) (l : List α) (z : β) {i : Nat} (h : i < l.length) :
    ((l.take i).map f ++ List.replicate (l.length - i) z).set i (f l[i]) = (l.take (i + 1)).map f ++ List.replicate (l.length - (i + 1)) z := by
  have e : l.length - i = (l.length - (i + 1)) + 1 := by omega
  rw [e, List.replicate_succ, List.set_append_right _ _ (by simp; omega)]
  have : i - (List.map f (List.take i l)).length = 0 := by simp; omega
  rw [this, List.set_cons_zero, List.take_succ_eq_append_getElem h, List.map_append]
  simp
theorem fill_len {α β : Type} (f : α → β) (l : List α) (z : β) {i : Nat} (h : i ≤ l.length) : ((l.take i).map f ++ List.replicate (l.length - i) z).length = l.length := by simp; omega
theorem fill_end {α β : Type} (f : α → β) (l : List α) (z : β) : (l.take l.length).map f ++ List.replicate (l.length - l.length) z = l.map f := by simp
theorem drop_get {α : Type} {l : List α} {i : Nat} (h : i < l.length) : l.drop i = l[i] :: l.drop (i + 1) := List.drop_eq_getElem_cons h
theorem drop_end {α : Type} (l : List α) : l.drop l.length = [] := List.drop_eq_nil_of_le (Nat.le_refl _)
/-! eqb -/
def M.eqb (a b : List Int) : Bool := (strOfNums a).toList == (strOfNums b).toList
/-! equalsealed -/
def M.equalSealed (e v : Int) (l : List Int) (m : Int) (e' v' : Int) (l' : List Int) (m' : Int) : Bool := decide (e = e') && (decide (v = v') && (decide (m = m') && M.eqb l l'))
/-! rd-Box -/
theorem rd_Box {l : List S82} {i : Nat} (h : i < l.length) : rd_T82 l (i : Int) = l[i] := by unfold rd_T82; exact getD_lt h _
/-! eqepochboxes -/
def M.eqBoxes : List S82 → List S82 → Bool
  | [], [] => true
  | a :: l, b :: r => M.equalSealed a.f0 a.f1 a.f2 a.f3 b.f0 b.f1 b.f2 b.f3 && M.eqBoxes l r
  | _, _ => false
theorem eqBoxes_len : ∀ {l r : List S82}, l.length ≠ r.length → M.eqBoxes l r = false
  | [], [], h => by simp at h
  | [], _ :: _, _ => rfl
  | _ :: _, [], _ => rfl
  | a :: l, b :: r, h => by simp only [M.eqBoxes, eqBoxes_len (l := l) (r := r) (by simpa using h), Bool.and_false]
def M.eqEpochBoxes (e : Int) (l : List S82) (e' : Int) (l' : List S82) : Bool := decide (e = e') && M.eqBoxes l l'
/-! impl_EqualBytes -/
theorem impl_EqualBytes.eq (a b : List Int) : impl_EqualBytes.f a b = some (M.eqb a b) := rfl
/-! impl_EqualBoxes -/
theorem impl_EqualBoxes.eq (e v : Int) (l : List Int) (m : Int) (e' v' : Int) (l' : List Int) (m' : Int) : impl_EqualBoxes.f e v l m e' v' l' m' = some (M.equalSealed e v l m e' v' l' m') := by
  unfold impl_EqualBoxes.f M.equalSealed
  simp only [impl_EqualBytes.eq, bind_some_]
  by_cases h1 : e = e' <;> by_cases h2 : v = v' <;> by_cases h3 : m = m' <;> cases M.eqb l l' <;> simp [h1, h2, h3]
/-! impl_EqualEpochBoxes -/
theorem impl_EqualEpochBoxes.ev (e : Int) (l : List S82) (e' : Int) (r : List S82) (hl : l.length ≤ 1048576) (hr : r.length ≤ 1048576) : Ev (fun k => impl_EqualEpochBoxes.f k e l e' r) (M.eqEpochBoxes e l e' r) := by
  unfold impl_EqualEpochBoxes.f M.eqEpochBoxes
  refine Ev.ite (fun h => ?_) (fun h => ?_)
  · simp only [h, decide_true, Bool.true_and]
    refine Ev.round ?_
    simp only [impl_EqualEpochBoxes.j0]
    refine Ev.ite (fun h => Ev.eq (eqBoxes_len (by simp at h; omega)).symm) (fun h => ?_)
    have hlr : l.length = r.length := by simp at h; omega
    refine Ev.loop (fun k i (_ : Unit) => impl_EqualEpochBoxes.l0 k l.length (i : Int) e' l e' r) l.length (fun i _ => M.eqBoxes (l.drop i) (r.drop i)) (fun _ _ => True) ?_ ?_ 0 () (by omega) trivial
    · rintro s _
      refine Ev.round ?_
      simp only [impl_EqualEpochBoxes.l0]
      exact Ev.no (by omega) (Ev.eq (by rw [drop_end, List.drop_eq_nil_of_le (by omega)]; rfl))
    · rintro i s hi _ ih
      have hi2 : i < r.length := by omega
      refine Ev.round ?_
      simp only [impl_EqualEpochBoxes.l0, wrap_succ hi (by omega : l.length ≤ _), rd_Box hi, rd_Box hi2, impl_EqualBoxes.eq, bind_some_]
      rw [drop_get hi, drop_get hi2]
      refine Ev.yes (by omega) (Ev.yes (by omega) (Ev.yes (by omega) (Ev.yes (by omega) (Ev.ite (fun h => ?_) (fun h => ?_)))))
      · refine Ev.conv (ih () trivial) (by simp only [M.eqBoxes, h, Bool.true_and])
      · exact Ev.eq (by simp only [M.eqBoxes, Bool.eq_false_iff.2 h, Bool.false_and])
  · refine Ev.round ?_
    simp only [impl_EqualEpochBoxes.j0]
    exact Ev.yes (by trivial) (Ev.eq (by simp [h]))
/-! laws_eqByteS -/
theorem laws_eqByteS.refl (l : List Int) (hl : l.length ≤ 1048576) : Ev (fun k => laws_eqByteS.f k l l) true := by
  unfold laws_eqByteS.f
  refine Ev.yes rfl ?_
  refine Ev.loop (fun k i (_ : Unit) => laws_eqByteS.l0 k l l (i : Int)) l.length (fun _ _ => true) (fun _ _ => True) ?_ ?_ 0 () (by omega) trivial
  · rintro s _
    refine Ev.round ?_
    simp only [laws_eqByteS.l0]
    exact Ev.no (by omega) (Ev.now _)
  · rintro i s hi _ ih
    refine Ev.round ?_
    simp only [laws_eqByteS.l0, wrap_succ hi (by omega : l.length ≤ _)]
    exact Ev.yes (by omega) (Ev.yes (by omega) (Ev.yes (by omega) (Ev.yes (by first | trivial | rfl) (ih () trivial))))
/-! laws_eqBox -/
theorem laws_eqBox.refl (x y : Int) (l : List Int) (m : Int) (hl : l.length ≤ 1048576) : Ev (fun k => laws_eqBox.f k x y l m x y l m) true := by
  unfold laws_eqBox.f
  exact Ev.yes rfl (Ev.yes rfl (Ev.bind (laws_eqByteS.refl l hl) (Ev.yes rfl (Ev.yes rfl (Ev.now _)))))
/-! laws_eqBoxS -/
theorem laws_eqBoxS.refl (l : List S82) (hl : l.length ≤ 1048576) (hd : ∀ x ∈ l, x.f2.length ≤ 1048576) : Ev (fun k => laws_eqBoxS.f k l l) true := by
  unfold laws_eqBoxS.f
  refine Ev.yes rfl ?_
  refine Ev.loop (fun k i (_ : Unit) => laws_eqBoxS.l0 k l l (i : Int)) l.length (fun _ _ => true) (fun _ _ => True) ?_ ?_ 0 () (by omega) trivial
  · rintro s _
    refine Ev.round ?_
    simp only [laws_eqBoxS.l0]
    exact Ev.no (by omega) (Ev.now _)
  · rintro i s hi _ ih
    refine Ev.round ?_
    simp only [laws_eqBoxS.l0, rd_Box hi, wrap_succ hi (by omega : l.length ≤ _)]
    exact Ev.yes (by omega) (Ev.yes (by omega) (Ev.yes (by omega) (Ev.bind (laws_eqBox.refl _ _ _ _ (hd _ (List.getElem_mem hi))) (Ev.yes rfl (ih () trivial)))))
/-! laws_eqEpochBoxes -/
theorem laws_eqEpochBoxes.refl (e : Int) (l : List S82) (hl : l.length ≤ 1048576) (hd : ∀ x ∈ l, x.f2.length ≤ 1048576) : Ev (fun k => laws_eqEpochBoxes.f k e l e l) true := by
  unfold laws_eqEpochBoxes.f
  exact Ev.yes rfl (Ev.bind (laws_eqBoxS.refl l hl hd) (Ev.yes rfl (Ev.now _)))
/-! sz -/
def M.sz (n : Nat) (a : Int) : Int := if a - n < 0 then -1 else a - n
theorem sz_eq (n : Nat) (a : Int) (ha : 0 ≤ a) (ha2 : a ≤ 1048576) (hn : n ≤ 9223372036854775807) : (if (wrap64 (a - (n : Int))) < 0 then (some (-1)) else (some (wrap64 (a - (n : Int)))) : Option Int) = some (M.sz n a) := by
  rw [wrap_in (by omega) (by omega)]; unfold M.sz; split <;> rfl
theorem sz_over {n : Nat} {a : Int} (h : a < n) : M.sz n a = -1 := by unfold M.sz; rw [if_pos (by omega)]
theorem sz_fits {n : Nat} {a : Int} (h : (n : Int) ≤ a) : M.sz n a = a - n := by unfold M.sz; rw [if_neg (by omega)]
theorem sz_wrap (n : Nat) (a : Int) : (if M.sz n a < 0 then (some (-1)) else (some (M.sz n a)) : Option Int) = some (M.sz n a) := by
  unfold M.sz; split <;> simp_all
theorem sz_add (n m : Nat) (a : Int) : (if M.sz n a < 0 then -1 else M.sz m (M.sz n a)) = M.sz (n + m) a := by
  unfold M.sz; split <;> split <;> simp_all <;> omega
theorem sz_sub (m n : Nat) (x : Int) : M.sz m (x - n) = M.sz (n + m) x := by
  unfold M.sz; rw [show x - n - m = x - ((n + m : Nat) : Int) by omega]
/-- A law's own look at the size of an argument. -/
theorem Ev.size {n : Nat} {a : Int} {f : Nat → Option Bool} (h : (n : Int) ≤ a → Ev f true) : Ev (fun k => if M.sz n a < 0 then some true else f k) true := by
  by_cases hn : (n : Int) ≤ a
  · exact Ev.no (by rw [sz_fits hn]; omega) (h hn)
  · exact Ev.yes (by rw [sz_over (by omega)]; omega) (Ev.now _)
/-! boxes -/
/-- How many values the boxes hold. -/
def M.boxTot : List S118 → Nat
  | [] => 0
  | b :: l => b.f2.length + M.boxTot l
theorem boxTot_mem : ∀ (l : List S118) (b : S118), b ∈ l → b.f2.length ≤ M.boxTot l
  | [], _, h => by simp at h
  | c :: l, b, h => by
    rcases List.mem_cons.1 h with rfl | h
    · unfold M.boxTot; omega
    · have := boxTot_mem l b h; unfold M.boxTot; omega
def M.toBox (e : S118) : S82 := ⟨e.f0, e.f1, e.f2, e.f3⟩
theorem map_small {l : List S118} {n : Nat} (h : ∀ b ∈ l, b.f2.length ≤ n) : ∀ b ∈ l.map M.toBox, b.f2.length ≤ n := by
  intro b hb
  obtain ⟨c, hc, rfl⟩ := List.mem_map.1 hb
  exact h c hc
/-! rd-lBox -/
theorem rd_lBox {l : List S118} {i : Nat} (h : i < l.length) : rd_T118 l (i : Int) = l[i] := by unfold rd_T118; exact getD_lt h _
/-! laws_szByteS -/
theorem laws_szByteS.eq (l : List Int) (a : Int) (ha : 0 ≤ a) (ha2 : a ≤ 1048576) (hl : l.length ≤ 9223372036854775807) : laws_szByteS.f l a = some (M.sz l.length a) := by
  unfold laws_szByteS.f; exact sz_eq _ _ ha ha2 hl
/-! laws_szBox -/
theorem laws_szBox.eq (x y : Int) (l : List Int) (m a : Int) (ha : 0 ≤ a) (ha2 : a ≤ 1048576) (hl : l.length ≤ 9223372036854775807) : laws_szBox.f x y l m a = some (M.sz l.length a) := by
  unfold laws_szBox.f
  rw [laws_szByteS.eq l a ha ha2 hl]; exact sz_wrap _ _
/-! laws_szBoxS -/
theorem laws_szBoxS.ev (l : List S118) (a : Int) (ha : 0 ≤ a) (ha2 : a ≤ 1048576) (hl : l.length ≤ 9223372036854775807) (hd : ∀ x ∈ l, x.f2.length ≤ 9223372036854775807) : Ev (fun k => laws_szBoxS.f k l a) (M.sz (l.length + M.boxTot l) a) := by
  unfold laws_szBoxS.f
  rw [wrap_in (by omega) (by omega)]
  refine Ev.ite (fun h => Ev.eq (sz_over (by omega)).symm) (fun h => ?_)
  refine Ev.conv (Ev.loop (fun k i x => laws_szBoxS.l0 k l x (i : Int)) l.length (fun i x => M.sz (M.boxTot (l.drop i)) x) (fun _ x => 0 ≤ x ∧ x ≤ 1048576) ?_ ?_ 0 (a - l.length) (by omega) (by omega)) ?_
  · intro x hx
    refine Ev.round ?_
    simp only [laws_szBoxS.l0]
    exact Ev.no (by omega) (Ev.eq (by rw [drop_end]; unfold M.boxTot M.sz; rw [if_neg (by omega)]; simp))
  · intro i x hi hx ih
    refine Ev.round ?_
    simp only [laws_szBoxS.l0, rd_lBox hi, wrap_succ hi (by omega : l.length ≤ _), laws_szBox.eq _ _ _ _ _ hx.1 hx.2 (hd _ (List.getElem_mem hi)), bind_some_]
    rw [drop_get hi]
    refine Ev.yes (by omega) (Ev.yes (by omega) (Ev.ite (fun h => ?_) (fun h => ?_)))
    · refine Ev.eq (sz_over ?_).symm
      unfold M.sz at h; unfold M.boxTot; split at h <;> omega
    · have hf : (l[i].f2.length : Int) ≤ x := by unfold M.sz at h; split at h <;> omega
      refine Ev.conv (ih _ (by rw [sz_fits hf]; omega)) ?_
      rw [sz_fits hf, sz_sub]; rfl
  · rw [sz_sub]; rfl
/-! laws_szEpochBoxes -/
theorem laws_szEpochBoxes.ev (e : Int) (l : List S118) (a : Int) (ha : 0 ≤ a) (ha2 : a ≤ 1048576) (hl : l.length ≤ 9223372036854775807) (hd : ∀ x ∈ l, x.f2.length ≤ 9223372036854775807) : Ev (fun k => laws_szEpochBoxes.f k e l a) (M.sz (l.length + M.boxTot l) a) := by
  unfold laws_szEpochBoxes.f
  exact Ev.bind (laws_szBoxS.ev l a ha ha2 hl hd) (Ev.opt (sz_wrap _ _))
/-! laws_toByteS -/
theorem laws_toByteS.ev (l : List Int) (hl : l.length ≤ 1048576) : Ev (fun k => laws_toByteS.f k l) l := by
  unfold laws_toByteS.f
  refine Ev.yes (by omega) (Ev.yes (by omega) ?_)
  have := Ev.loop (fun k i x => laws_toByteS.l0 k l x (i : Int)) l.length (fun _ _ => l) (fun i x => x = (l.take i).map id ++ List.replicate (l.length - i) 0) ?_ ?_ 0 _ (by omega) rfl
  · simpa using this
  · rintro s rfl
    refine Ev.round ?_
    simp only [laws_toByteS.l0]
    exact Ev.no (by omega) (Ev.eq (by rw [fill_end]; simp))
  · rintro i s hi rfl ih
    refine Ev.round ?_
    simp only [laws_toByteS.l0, rd_get hi, wrap_succ hi (by omega : l.length ≤ _), Int.toNat_natCast]
    refine Ev.yes (by omega) (Ev.yes (by omega) (Ev.yes (by rw [fill_len _ _ _ (by omega)]; omega) ?_))
    exact ih _ (take_fill id l 0 hi)
/-! laws_toBox -/
theorem laws_toBox.ev (x y : Int) (l : List Int) (m : Int) (hl : l.length ≤ 1048576) : Ev (fun k => laws_toBox.f k x y l m) (x, y, l, m) := by
  unfold laws_toBox.f
  exact Ev.bind (laws_toByteS.ev l hl) (Ev.now _)
/-! laws_toBoxS -/
theorem laws_toBoxS.ev (l : List S118) (hl : l.length ≤ 1048576) (hd : ∀ x ∈ l, x.f2.length ≤ 1048576) : Ev (fun k => laws_toBoxS.f k l) (l.map M.toBox) := by
  unfold laws_toBoxS.f
  refine Ev.yes (by omega) (Ev.yes (by omega) ?_)
  refine Ev.loop (fun k i x => laws_toBoxS.l0 k l x (i : Int)) l.length (fun _ _ => l.map M.toBox) (fun i x => x = (l.take i).map M.toBox ++ List.replicate (l.length - i) z82) ?_ ?_ 0 _ (by omega) (by simp)
  · rintro s rfl
    refine Ev.round ?_
    simp only [laws_toBoxS.l0]
    exact Ev.no (by omega) (Ev.eq (fill_end _ _ _))
  · rintro i s hi rfl ih
    refine Ev.round ?_
    simp only [laws_toBoxS.l0, rd_lBox hi, wrap_succ hi (by omega : l.length ≤ _), Int.toNat_natCast]
    refine Ev.yes (by omega) (Ev.yes (by omega) (Ev.bind (laws_toBox.ev _ _ _ _ (hd _ (List.getElem_mem hi))) (Ev.yes (by rw [fill_len _ _ _ (by omega)]; omega) ?_)))
    exact ih _ (take_fill M.toBox l z82 hi)
/-! laws_toEpochBoxes -/
theorem laws_toEpochBoxes.ev (e : Int) (l : List S118) (hl : l.length ≤ 1048576) (hd : ∀ x ∈ l, x.f2.length ≤ 1048576) : Ev (fun k => laws_toEpochBoxes.f k e l) (e, l.map M.toBox) := by
  unfold laws_toEpochBoxes.f
  exact Ev.bind (laws_toBoxS.ev l hl hd) (Ev.now _)
/-! spec_EqualBytes -/
theorem spec_EqualBytes.eq (a b : List Int) : spec_EqualBytes.f a b = some (M.eqb a b) := rfl
/-! spec_EqualBoxes -/
theorem spec_EqualBoxes.eq (e v : Int) (l : List Int) (m : Int) (e' v' : Int) (l' : List Int) (m' : Int) : spec_EqualBoxes.f e v l m e' v' l' m' = some (M.equalSealed e v l m e' v' l' m') := by
  unfold spec_EqualBoxes.f M.equalSealed
  simp only [spec_EqualBytes.eq, bind_some_]
  by_cases h1 : e = e' <;> by_cases h2 : v = v' <;> by_cases h3 : m = m' <;> simp [h1, h2, h3]
/-! spec_EqualEpochBoxes -/
theorem spec_EqualEpochBoxes.ev (e : Int) (l : List S82) (e' : Int) (r : List S82) (hl : l.length ≤ 1048576) (hr : r.length ≤ 1048576) : Ev (fun k => spec_EqualEpochBoxes.f k e l e' r) (M.eqEpochBoxes e l e' r) := by
  unfold spec_EqualEpochBoxes.f M.eqEpochBoxes
  refine Ev.ite (fun h => ?_) (fun h => ?_)
  · simp only [h, decide_true, Bool.true_and]
    refine Ev.round ?_
    simp only [spec_EqualEpochBoxes.j0]
    refine Ev.ite (fun h => Ev.eq (eqBoxes_len (by simp at h; omega)).symm) (fun h => ?_)
    have hlr : l.length = r.length := by simp at h; omega
    refine Ev.loop (fun k i (_ : Unit) => spec_EqualEpochBoxes.l0 k (i : Int) e' l e' r) l.length (fun i _ => M.eqBoxes (l.drop i) (r.drop i)) (fun _ _ => True) ?_ ?_ 0 () (by omega) trivial
    · rintro s _
      refine Ev.round ?_
      simp only [spec_EqualEpochBoxes.l0]
      exact Ev.no (by omega) (Ev.eq (by rw [drop_end, List.drop_eq_nil_of_le (by omega)]; rfl))
    · rintro i s hi _ ih
      have hi2 : i < r.length := by omega
      refine Ev.round ?_
      simp only [spec_EqualEpochBoxes.l0, wrap_succ hi (by omega : l.length ≤ _), rd_Box hi, rd_Box hi2, spec_EqualBoxes.eq, bind_some_]
      rw [drop_get hi, drop_get hi2]
      refine Ev.yes (by omega) (Ev.yes (by omega) (Ev.yes (by omega) (Ev.ite (fun h => ?_) (fun h => ?_))))
      · refine Ev.conv (ih () trivial) (by simp only [M.eqBoxes, h, Bool.true_and])
      · exact Ev.eq (by simp only [M.eqBoxes, Bool.eq_false_iff.2 h, Bool.false_and])
  · refine Ev.round ?_
    simp only [spec_EqualEpochBoxes.j0]
    exact Ev.yes (by trivial) (Ev.eq (by simp [h]))

/-! the law -/
theorem FnExactEqualEpochBoxes : ∀ (a0_0 : Int) (l0_1 : List (S118)) (a1_0 : Int) (l1_1 : List (S118)), (l0_1.length ≤ 9223372036854775807 ∧ ∀ x ∈ l0_1, Fit118 x) → (l1_1.length ≤ 9223372036854775807 ∧ ∀ x ∈ l1_1, Fit118 x) → ∃ k, laws_FnExactEqualEpochBoxes.f k a0_0 l0_1 a1_0 l1_1 = some true := by
  intro e l e' l' h0 h1
  apply Ev.rounds (r := true)
  unfold laws_FnExactEqualEpochBoxes.f
  refine Ev.bind (laws_szEpochBoxes.ev e l _ (by decide) (by decide) h0.1 h0.2) (Ev.size fun g0 => ?_)
  rw [sz_fits g0]
  refine Ev.bind (laws_szEpochBoxes.ev e' l' _ (by omega) (by omega) h1.1 h1.2) (Ev.size fun g1 => ?_)
  have b0 : l.length ≤ 1048576 := by omega
  have d0 : ∀ x ∈ l, x.f2.length ≤ 1048576 := fun x hx => by have := boxTot_mem l x hx; omega
  have c0 : (l.map M.toBox).length ≤ 1048576 := by simpa using b0
  have t0 := laws_toEpochBoxes.ev e l b0 d0
  have b1 : l'.length ≤ 1048576 := by omega
  have d1 : ∀ x ∈ l', x.f2.length ≤ 1048576 := fun x hx => by have := boxTot_mem l' x hx; omega
  have c1 : (l'.map M.toBox).length ≤ 1048576 := by simpa using b1
  have t1 := laws_toEpochBoxes.ev e' l' b1 d1
  refine Ev.bind t0 (Ev.bind t1 (Ev.bind (spec_EqualEpochBoxes.ev _ _ _ _ c0 c1) (Ev.bind t0 (Ev.bind t1 (Ev.bind (impl_EqualEpochBoxes.ev _ _ _ _ c0 c1) (Ev.no (by simp) ?_))))))
  exact Ev.bind t0 (Ev.bind (laws_eqEpochBoxes.refl _ _ c0 (map_small d0)) (Ev.yes rfl (Ev.bind t1 (Ev.bind (laws_eqEpochBoxes.refl _ _ c1 (map_small d1)) (Ev.yes rfl (Ev.now _))))))
end Go.Proofs.Ytjdkkfbcpbjpkaa.Pure
