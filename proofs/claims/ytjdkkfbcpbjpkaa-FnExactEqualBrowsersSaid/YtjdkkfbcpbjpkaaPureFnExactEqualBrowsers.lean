/- The program's EqualBrowsers returns what the reference's returns, for all arguments. -/
import Derived.Test.YtjdkkfbcpbjpkaaOpFnExactEqualBrowsers
import Derived.Test.YtjdkkfbcpbjpkaaTFnExactEqualBrowsers
namespace Go.Proofs.Ytjdkkfbcpbjpkaa.Pure
open Go.RowKit Go.Proofs.Ytjdkkfbcpbjpkaa.PFnExactEqualBrowsers Go.Proofs.YtjdkkfbcpbjpkaaW.PrintWords Go.Proofs.YtjdkkfbcpbjpkaaW.PrintLast
set_option linter.unusedVariables false
set_option linter.unusedSimpArgs false

/-! base -/
theorem wrap_in {n : Int} (h1 : -9223372036854775808 ≤ n) (h2 : n ≤ 9223372036854775807) : wrap64 n = n := by unfold wrap64; omega
theorem wrap_succ {i n : Nat} (h : i < n) (hn : n ≤ 1152921504606846976) : wrap64 ((i : Int) + 1) = ((i + 1 : Nat) : Int) := by unfold wrap64; omega
theorem wrap_pred {i : Nat} (h : 0 < i) (hn : i ≤ 1152921504606846976) : wrap64 ((i : Int) - 1) = ((i - 1 : Nat) : Int) := by unfold wrap64; omega
theorem Ev.eq {α : Type} {r s : α} (h : r = s) : Ev (fun _ => some r) s := h ▸ Ev.now r
theorem Ev.opt {α : Type} {o : Option α} {r : α} (h : o = some r) : Ev (fun _ => o) r := h ▸ Ev.now r
theorem Ev.yes {α : Type} {c : Prop} [Decidable c] {g f : Nat → Option α} {r : α} (h : c) (k : Ev g r) : Ev (fun n => if c then g n else f n) r := by simpa [h] using k
theorem Ev.no {α : Type} {c : Prop} [Decidable c] {g f : Nat → Option α} {r : α} (h : ¬ c) (k : Ev f r) : Ev (fun n => if c then g n else f n) r := by simpa [h] using k
theorem Ev.ite {α : Type} {c : Prop} [Decidable c] {g f : Nat → Option α} {r : α} (h : c → Ev g r) (k : ¬ c → Ev f r) : Ev (fun n => if c then g n else f n) r := by
  by_cases hc : c
  · exact Ev.yes hc (h hc)
  · exact Ev.no hc (k hc)
theorem Ev.bindc {α β : Type} {o : Option α} {a : α} {f : Nat → α → Option β} {r : β} (h : o = some a) (k : Ev (fun n => f n a) r) : Ev (fun n => o.bind (f n)) r := by subst h; exact k
theorem Ev.round {α : Type} {g : Nat → Option α} {r : α} (h : Ev (fun k => g (k + 1)) r) : Ev g r := Ev.step (fun _ => rfl) h
theorem Ev.conv {α : Type} {g : Nat → Option α} {r s : α} (k : Ev g r) (h : r = s) : Ev g s := h ▸ k
theorem bind_some_ {α β : Type} (a : α) (f : α → Option β) : (some a).bind f = f a := rfl
/-- A loop that counts: from each place on, the answer is what 'val' says. -/
theorem Ev.loop {σ β : Type} (g : Nat → Nat → σ → Option β) (n : Nat) (val : Nat → σ → β) (Inv : Nat → σ → Prop)
    (done : ∀ s, Inv n s → Ev (fun k => g k n s) (val n s))
    (step : ∀ i s, i < n → Inv i s → (∀ s', Inv (i + 1) s' → Ev (fun k => g k (i + 1) s') (val (i + 1) s')) → Ev (fun k => g k i s) (val i s)) :
    ∀ i s, i ≤ n → Inv i s → Ev (fun k => g k i s) (val i s) := by
  have : ∀ d i s, i + d = n → Inv i s → Ev (fun k => g k i s) (val i s) := by
    intro d
    induction d with
    | zero =>
      intro i s hi hs
      obtain rfl : i = n := by omega
      exact done s hs
    | succ d ih => intro i s hi hs; exact step i s (by omega) hs (fun s' hs' => ih (i + 1) s' (by omega) hs')
  intro i s hi hs
  exact this (n - i) i s (by omega) hs
theorem getD_lt {α : Type} {l : List α} {i : Nat} (h : i < l.length) (d : α) : l.getD i d = l[i] := by simp [List.getD_eq_getElem?_getD, h]
theorem rd_get {l : List Int} {i : Nat} (h : i < l.length) : rd l (i : Int) = l[i] := by unfold rd; exact getD_lt h _
theorem take_fill {α β : Type} (f : α → β) (l : List α) (z : β) {i : Nat} (h : i < l.length) :
    ((l.take i).map f ++ List.replicate (l.length - i) z).set i (f l[i]) = (l.take (i + 1)).map f ++ List.replicate (l.length - (i + 1)) z := by
  have e : l.length - i = (l.length - (i + 1)) + 1 := by omega
  rw [e, List.replicate_succ, List.set_append_right _ _ (by simp; omega)]
  have : i - (List.map f (List.take i l)).length = 0 := by simp; omega
  rw [this, List.set_cons_zero, List.take_succ_eq_append_getElem h, List.map_append]
  simp
theorem fill_len {α β : Type} (f : α → β) (l : List α) (z : β) {i : Nat} (h : i ≤ l.length) : ((l.take i).map f ++ List.replicate (l.length - i) z).length = l.length := by simp; omega
theorem fill_end {α β : Type} (f : α → β) (l : List α) (z : β) : (l.take l.length).map f ++ List.replicate (l.length - l.length) z = l.map f := by simp
theorem drop_get {α : Type} {l : List α} {i : Nat} (h : i < l.length) : l.drop i = l[i] :: l.drop (i + 1) := List.drop_eq_getElem_cons h
theorem drop_end {α : Type} (l : List α) : l.drop l.length = [] := List.drop_eq_nil_of_le (Nat.le_refl _)
/-! eqby -/
def M.eqBy {α : Type} (r : α → α → Bool) : List α → List α → Bool
  | [], [] => true
  | a :: l, b :: m => r a b && M.eqBy r l m
  | _, _ => false
theorem eqBy_len {α : Type} {r : α → α → Bool} : ∀ {l m : List α}, l.length ≠ m.length → M.eqBy r l m = false
  | [], [], h => by simp at h
  | [], _ :: _, _ => rfl
  | _ :: _, [], _ => rfl
  | a :: l, b :: m, h => by simp only [M.eqBy, eqBy_len (l := l) (m := m) (by simpa using h), Bool.and_false]
theorem eqBy_iff {α : Type} {r : α → α → Bool} (hr : ∀ a b, r a b = true ↔ a = b) : ∀ (l m : List α), M.eqBy r l m = true ↔ l = m
  | [], [] => by simp [M.eqBy]
  | [], _ :: _ => by simp [M.eqBy]
  | _ :: _, [] => by simp [M.eqBy]
  | a :: l, b :: m => by simp [M.eqBy, eqBy_iff hr l m, hr]
theorem eqBy_end {α : Type} {r : α → α → Bool} {l m : List α} (h : l.length = m.length) : M.eqBy r (l.drop l.length) (m.drop l.length) = true := by
  rw [drop_end, List.drop_eq_nil_of_le (by omega)]; rfl
theorem eqBy_drop {α : Type} {r : α → α → Bool} {l m : List α} {i : Nat} (h1 : i < l.length) (h2 : i < m.length) : M.eqBy r (l.drop i) (m.drop i) = (r l[i] m[i] && M.eqBy r (l.drop (i + 1)) (m.drop (i + 1))) := by
  rw [drop_get h1, drop_get h2]; rfl
/-! rd-Tab -/
theorem rd_Tab {l : List S97} {i : Nat} (h : i < l.length) : rd_T97 l (i : Int) = l[i] := by unfold rd_T97; exact getD_lt h _
/-! eqtab -/
def M.eqvO (a b : S95) : Bool := a.f0 == b.f0 && (a.f1.toList == b.f1.toList && (a.f2 == b.f2))
def M.eqvTab (a b : S97) : Bool := M.eqvO a.f0 b.f0 && M.eqvO a.f1 b.f1
theorem nevTab (a b : S97) : ((!(a.f0.f0 == b.f0.f0) || (!(a.f0.f1.toList == b.f0.f1.toList) || (!(a.f0.f2 == b.f0.f2)))) || ((!(a.f1.f0 == b.f1.f0) || (!(a.f1.f1.toList == b.f1.f1.toList) || (!(a.f1.f2 == b.f1.f2)))))) = !M.eqvTab a b := by
  unfold M.eqvTab M.eqvO
  generalize (a.f0.f0 == b.f0.f0) = p1; generalize (a.f0.f1.toList == b.f0.f1.toList) = p2; generalize (a.f0.f2 == b.f0.f2) = p3
  generalize (a.f1.f0 == b.f1.f0) = p4; generalize (a.f1.f1.toList == b.f1.f1.toList) = p5; generalize (a.f1.f2 == b.f1.f2) = p6
  cases p1 <;> cases p2 <;> cases p3 <;> cases p4 <;> cases p5 <;> cases p6 <;> rfl
def M.eqStore (x y z u x' y' z' u' : Int) : Bool := x == x' && (y == y' && (z == z' && u == u'))
theorem neStore (x y z u x' y' z' u' : Int) : (!(x == x') || (!(y == y') || (!(z == z') || (!(u == u'))))) = !M.eqStore x y z u x' y' z' u' := by
  unfold M.eqStore; cases x == x' <;> cases y == y' <;> cases z == z' <;> rfl
def M.equalBrowsers (x y z u : Int) (l : List S97) (v x' y' z' u' : Int) (l' : List S97) (v' : Int) : Bool := M.eqStore x y z u x' y' z' u' && (decide (v = v') && M.eqBy M.eqvTab l l')
/-! impl_EqualBrowsers -/
theorem impl_EqualBrowsers.ev (x y z u : Int) (l : List S97) (v x' y' z' u' : Int) (l' : List S97) (v' : Int) (hl : l.length ≤ 1048577) (hl' : l'.length ≤ 1048577) : Ev (fun k => impl_EqualBrowsers.f k x y z u l v x' y' z' u' l' v') (M.equalBrowsers x y z u l v x' y' z' u' l' v') := by
  unfold impl_EqualBrowsers.f
  have no : M.equalBrowsers x y z u l v x' y' z' u' l' v' = false → Ev (fun k => impl_EqualBrowsers.j0 k true x y z u l v x' y' z' u' l' v') (M.equalBrowsers x y z u l v x' y' z' u' l' v') := by
    intro h
    refine Ev.round ?_
    simp only [impl_EqualBrowsers.j0]
    exact Ev.yes (by trivial) (Ev.eq h.symm)
  rw [neStore]
  refine Ev.ite (fun h1 => no (by simp at h1; simp [M.equalBrowsers, h1])) (fun h1 => Ev.ite (fun h2 => ?_) (fun h2 => no (by simp [M.equalBrowsers, h2])))
  have h1' : M.eqStore x y z u x' y' z' u' = true := by simpa using h1
  by_cases hlr : l.length = l'.length
  · rw [show (((l.length : Nat) : Int) != ((l'.length : Nat) : Int)) = false by rw [hlr]; simp]
    have ev : M.equalBrowsers x y z u l v x' y' z' u' l' v' = M.eqBy M.eqvTab l l' := by simp [M.equalBrowsers, h1', h2]
    rw [ev]
    refine Ev.round ?_
    simp only [impl_EqualBrowsers.j0]
    refine Ev.no (by simp) ?_
    refine Ev.loop (fun k i (_ : Unit) => impl_EqualBrowsers.l0 k l.length (i : Int) x y z u l v x' y' z' u' l' v') l.length (fun i _ => M.eqBy M.eqvTab (l.drop i) (l'.drop i)) (fun _ _ => True) ?_ ?_ 0 () (by omega) trivial
    · rintro s _
      refine Ev.round ?_
      simp only [impl_EqualBrowsers.l0]
      exact Ev.no (by omega) (Ev.eq (eqBy_end hlr).symm)
    · rintro i s hi _ ih
      have hi2 : i < l'.length := by omega
      refine Ev.round ?_
      simp only [impl_EqualBrowsers.l0, wrap_succ hi (by omega : l.length ≤ _), rd_Tab hi, rd_Tab hi2, nevTab]
      rw [eqBy_drop hi hi2]
      refine Ev.yes (by omega) (Ev.yes (by omega) (Ev.yes (by omega) (Ev.yes (by omega) (Ev.ite (fun h => ?_) (fun h => ?_)))))
      · exact Ev.eq (by simp at h; simp [h])
      · refine Ev.conv (ih () trivial) (by simp at h; simp [h])
  · rw [show (((l.length : Nat) : Int) != ((l'.length : Nat) : Int)) = true by simp; omega]
    exact no (by unfold M.equalBrowsers; rw [eqBy_len hlr]; simp)
/-! laws_eqTabS -/
theorem laws_eqTabS.refl (l : List S97) (hl : l.length ≤ 1048577) : Ev (fun k => laws_eqTabS.f k l l) true := by
  unfold laws_eqTabS.f
  refine Ev.yes rfl ?_
  refine Ev.loop (fun k i (_ : Unit) => laws_eqTabS.l0 k l l (i : Int)) l.length (fun _ _ => true) (fun _ _ => True) ?_ ?_ 0 () (by omega) trivial
  · rintro s _
    refine Ev.round ?_
    simp only [laws_eqTabS.l0]
    exact Ev.no (by omega) (Ev.now _)
  · rintro i s hi _ ih
    refine Ev.round ?_
    simp only [laws_eqTabS.l0, wrap_succ hi (by omega : l.length ≤ _), laws_eqTab.f, laws_eqOrigin.f, if_true, bind_some_, bne_self_eq_false, Bool.false_eq_true, if_false]
    exact Ev.yes (by omega) (Ev.yes (by omega) (Ev.yes (by omega) (ih () trivial)))
/-! laws_eqBrowser -/
theorem laws_eqBrowser.refl (x y z u : Int) (l : List S97) (v : Int) (hl : l.length ≤ 1048577) : Ev (fun k => laws_eqBrowser.f k x y z u l v x y z u l v) true := by
  unfold laws_eqBrowser.f laws_eqKeyStore.f
  simp only [if_true, bind_some_]
  exact Ev.bind (laws_eqTabS.refl l hl) (Ev.yes rfl (Ev.now _))
/-! sz -/
def M.sz (n : Nat) (a : Int) : Int := if a - n < 0 then -1 else a - n
theorem sz_eq (n : Nat) (a : Int) (ha : 0 ≤ a) (ha2 : a ≤ 1048576) (hn : n ≤ 9223372036854775807) : (if (wrap64 (a - (n : Int))) < 0 then (some (-1)) else (some (wrap64 (a - (n : Int)))) : Option Int) = some (M.sz n a) := by
  rw [wrap_in (by omega) (by omega)]; unfold M.sz; split <;> rfl
theorem sz_over {n : Nat} {a : Int} (h : a < n) : M.sz n a = -1 := by unfold M.sz; rw [if_pos (by omega)]
theorem sz_fits {n : Nat} {a : Int} (h : (n : Int) ≤ a) : M.sz n a = a - n := by unfold M.sz; rw [if_neg (by omega)]
theorem sz_wrap (n : Nat) (a : Int) : (if M.sz n a < 0 then (some (-1)) else (some (M.sz n a)) : Option Int) = some (M.sz n a) := by
  unfold M.sz; split <;> simp_all
theorem sz_add (n m : Nat) (a : Int) : (if M.sz n a < 0 then -1 else M.sz m (M.sz n a)) = M.sz (n + m) a := by
  unfold M.sz; split <;> split <;> simp_all <;> omega
theorem sz_sub (m n : Nat) (x : Int) : M.sz m (x - n) = M.sz (n + m) x := by
  unfold M.sz; rw [show x - n - m = x - ((n + m : Nat) : Int) by omega]
/-- A law's own look at the size of an argument. -/
theorem Ev.size {n : Nat} {a : Int} {f : Nat → Option Bool} (h : (n : Int) ≤ a → Ev f true) : Ev (fun k => if M.sz n a < 0 then some true else f k) true := by
  by_cases hn : (n : Int) ≤ a
  · exact Ev.no (by rw [sz_fits hn]; omega) (h hn)
  · exact Ev.yes (by rw [sz_over (by omega)]; omega) (Ev.now _)
/-! tabs -/
def M.tabTot : List S130 → Nat
  | [] => 0
  | b :: l => (b.f0.f1.size + b.f1.f1.size) + M.tabTot l
theorem tabTot_mem : ∀ (l : List S130) (b : S130), b ∈ l → b.f0.f1.size + b.f1.f1.size ≤ M.tabTot l
  | [], _, h => by simp at h
  | c :: l, b, h => by
    rcases List.mem_cons.1 h with rfl | h
    · unfold M.tabTot; omega
    · have := tabTot_mem l b h; unfold M.tabTot; omega
def M.toTab (e : S130) : S97 := ⟨⟨e.f0.f0, e.f0.f1, e.f0.f2⟩, ⟨e.f1.f0, e.f1.f1, e.f1.f2⟩⟩
/-! rd-lTab -/
theorem rd_lTab {l : List S130} {i : Nat} (h : i < l.length) : rd_T130 l (i : Int) = l[i] := by unfold rd_T130; exact getD_lt h _
/-! laws_szOrigin -/
theorem laws_szOrigin.eq (b : Bool) (s : ByteArray) (p a : Int) (ha : 0 ≤ a) (ha2 : a ≤ 1048576) (hl : s.size ≤ 9223372036854775807) : laws_szOrigin.f b s p a = some (M.sz s.size a) := by
  unfold laws_szOrigin.f; exact sz_eq _ _ ha ha2 hl
/-! laws_szTab -/
theorem laws_szTab.eq (b : Bool) (s : ByteArray) (p : Int) (b' : Bool) (s' : ByteArray) (p' a : Int) (ha : 0 ≤ a) (ha2 : a ≤ 1048576) (hl : s.size ≤ 9223372036854775807) (hl' : s'.size ≤ 9223372036854775807) : laws_szTab.f b s p b' s' p' a = some (M.sz (s.size + s'.size) a) := by
  unfold laws_szTab.f
  rw [laws_szOrigin.eq _ _ _ _ ha ha2 hl, bind_some_]
  by_cases h : M.sz s.size a < 0
  · rw [if_pos h, sz_over (by unfold M.sz at h; split at h <;> omega)]
  · have h3 : (s.size : Int) ≤ a := by unfold M.sz at h; split at h <;> omega
    rw [if_neg h, sz_fits h3, laws_szOrigin.eq _ _ _ _ (by omega) (by omega) hl', bind_some_, sz_sub]
    exact sz_wrap _ _
/-! laws_szTabS -/
theorem laws_szTabS.ev (l : List S130) (a : Int) (ha : 0 ≤ a) (ha2 : a ≤ 1048576) (hl : l.length ≤ 9223372036854775807) (hd : ∀ x ∈ l, x.f0.f1.size ≤ 9223372036854775807 ∧ x.f1.f1.size ≤ 9223372036854775807) : Ev (fun k => laws_szTabS.f k l a) (M.sz (l.length + M.tabTot l) a) := by
  unfold laws_szTabS.f
  rw [wrap_in (by omega) (by omega)]
  refine Ev.ite (fun h => Ev.eq (sz_over (by omega)).symm) (fun h => ?_)
  refine Ev.conv (Ev.loop (fun k i x => laws_szTabS.l0 k l x (i : Int)) l.length (fun i x => M.sz (M.tabTot (l.drop i)) x) (fun _ x => 0 ≤ x ∧ x ≤ 1048576) ?_ ?_ 0 (a - l.length) (by omega) (by omega)) ?_
  · intro x hx
    refine Ev.round ?_
    simp only [laws_szTabS.l0]
    exact Ev.no (by omega) (Ev.eq (by rw [drop_end]; unfold M.tabTot M.sz; rw [if_neg (by omega)]; simp))
  · intro i x hi hx ih
    have hm := hd _ (List.getElem_mem hi)
    refine Ev.round ?_
    simp only [laws_szTabS.l0, rd_lTab hi, wrap_succ hi (by omega : l.length ≤ _), laws_szTab.eq _ _ _ _ _ _ _ hx.1 hx.2 hm.1 hm.2, bind_some_]
    rw [drop_get hi]
    refine Ev.yes (by omega) (Ev.yes (by omega) (Ev.ite (fun h => ?_) (fun h => ?_)))
    · refine Ev.eq (sz_over ?_).symm
      unfold M.sz at h; unfold M.tabTot; split at h <;> omega
    · have hf : ((l[i].f0.f1.size + l[i].f1.f1.size : Nat) : Int) ≤ x := by unfold M.sz at h; split at h <;> omega
      refine Ev.conv (ih _ (by rw [sz_fits hf]; omega)) ?_
      rw [sz_fits hf, sz_sub]; rfl
  · rw [sz_sub]; rfl
/-! laws_szBrowser -/
theorem laws_szBrowser.ev (x y z u : Int) (l : List S130) (v a : Int) (ha : 0 ≤ a) (ha2 : a ≤ 1048576) (hl : l.length ≤ 9223372036854775807) (hd : ∀ x ∈ l, x.f0.f1.size ≤ 9223372036854775807 ∧ x.f1.f1.size ≤ 9223372036854775807) : Ev (fun k => laws_szBrowser.f k x y z u l v a) (M.sz (l.length + M.tabTot l) a) := by
  unfold laws_szBrowser.f
  exact Ev.bind (laws_szTabS.ev l a ha ha2 hl hd) (Ev.opt (sz_wrap _ _))
/-! laws_toTabS -/
theorem laws_toTabS.ev (l : List S130) (hl : l.length ≤ 1048576) : Ev (fun k => laws_toTabS.f k l) (l.map M.toTab) := by
  unfold laws_toTabS.f
  refine Ev.yes (by omega) (Ev.yes (by omega) ?_)
  refine Ev.loop (fun k i x => laws_toTabS.l0 k l x (i : Int)) l.length (fun _ _ => l.map M.toTab) (fun i x => x = (l.take i).map M.toTab ++ List.replicate (l.length - i) z97) ?_ ?_ 0 _ (by omega) (by simp)
  · rintro s rfl
    refine Ev.round ?_
    simp only [laws_toTabS.l0]
    exact Ev.no (by omega) (Ev.eq (fill_end _ _ _))
  · rintro i s hi rfl ih
    refine Ev.round ?_
    simp only [laws_toTabS.l0, rd_lTab hi, laws_toTab.f, laws_toOrigin.f, bind_some_, wrap_succ hi (by omega : l.length ≤ _), Int.toNat_natCast]
    refine Ev.yes (by omega) (Ev.yes (by omega) (Ev.yes (by rw [fill_len _ _ _ (by omega)]; omega) ?_))
    exact ih _ (take_fill M.toTab l z97 hi)
/-! laws_toBrowser -/
theorem laws_toBrowser.ev (x y z u : Int) (l : List S130) (v : Int) (hl : l.length ≤ 1048576) : Ev (fun k => laws_toBrowser.f k x y z u l v) (x, y, z, u, l.map M.toTab, v) := by
  unfold laws_toBrowser.f laws_toKeyStore.f
  simp only [bind_some_]
  exact Ev.bind (laws_toTabS.ev l hl) (Ev.now _)
/-! spec_EqualBrowsers -/
theorem spec_EqualBrowsers.ev (x y z u : Int) (l : List S97) (v x' y' z' u' : Int) (l' : List S97) (v' : Int) (hl : l.length ≤ 1048577) (hl' : l'.length ≤ 1048577) : Ev (fun k => spec_EqualBrowsers.f k x y z u l v x' y' z' u' l' v') (M.equalBrowsers x y z u l v x' y' z' u' l' v') := by
  unfold spec_EqualBrowsers.f
  have no : M.equalBrowsers x y z u l v x' y' z' u' l' v' = false → Ev (fun k => spec_EqualBrowsers.j0 k true x y z u l v x' y' z' u' l' v') (M.equalBrowsers x y z u l v x' y' z' u' l' v') := by
    intro h
    refine Ev.round ?_
    simp only [spec_EqualBrowsers.j0]
    exact Ev.yes (by trivial) (Ev.eq h.symm)
  rw [neStore]
  refine Ev.ite (fun h1 => no (by simp at h1; simp [M.equalBrowsers, h1])) (fun h1 => Ev.ite (fun h2 => ?_) (fun h2 => no (by simp [M.equalBrowsers, h2])))
  have h1' : M.eqStore x y z u x' y' z' u' = true := by simpa using h1
  by_cases hlr : l.length = l'.length
  · rw [show (((l.length : Nat) : Int) != ((l'.length : Nat) : Int)) = false by rw [hlr]; simp]
    have ev : M.equalBrowsers x y z u l v x' y' z' u' l' v' = M.eqBy M.eqvTab l l' := by simp [M.equalBrowsers, h1', h2]
    rw [ev]
    refine Ev.round ?_
    simp only [spec_EqualBrowsers.j0]
    refine Ev.no (by simp) ?_
    refine Ev.loop (fun k i (_ : Unit) => spec_EqualBrowsers.l0 k (i : Int) x y z u l v x' y' z' u' l' v') l.length (fun i _ => M.eqBy M.eqvTab (l.drop i) (l'.drop i)) (fun _ _ => True) ?_ ?_ 0 () (by omega) trivial
    · rintro s _
      refine Ev.round ?_
      simp only [spec_EqualBrowsers.l0]
      exact Ev.no (by omega) (Ev.eq (eqBy_end hlr).symm)
    · rintro i s hi _ ih
      have hi2 : i < l'.length := by omega
      refine Ev.round ?_
      simp only [spec_EqualBrowsers.l0, wrap_succ hi (by omega : l.length ≤ _), rd_Tab hi, rd_Tab hi2, nevTab]
      rw [eqBy_drop hi hi2]
      refine Ev.yes (by omega) (Ev.yes (by omega) (Ev.yes (by omega) (Ev.ite (fun h => ?_) (fun h => ?_))))
      · exact Ev.eq (by simp at h; simp [h])
      · refine Ev.conv (ih () trivial) (by simp at h; simp [h])
  · rw [show (((l.length : Nat) : Int) != ((l'.length : Nat) : Int)) = true by simp; omega]
    exact no (by unfold M.equalBrowsers; rw [eqBy_len hlr]; simp)

/-! the law -/
theorem FnExactEqualBrowsers : ∀ (a0_0 : Int) (a0_1 : Int) (a0_2 : Int) (a0_3 : Int) (l0_4 : List (S130)) (a0_5 : Int) (a1_0 : Int) (a1_1 : Int) (a1_2 : Int) (a1_3 : Int) (l1_4 : List (S130)) (a1_5 : Int), (l0_4.length ≤ 9223372036854775807 ∧ ∀ x ∈ l0_4, Fit130 x) → (l1_4.length ≤ 9223372036854775807 ∧ ∀ x ∈ l1_4, Fit130 x) → ∃ k, laws_FnExactEqualBrowsers.f k a0_0 a0_1 a0_2 a0_3 l0_4 a0_5 a1_0 a1_1 a1_2 a1_3 l1_4 a1_5 = some true := by
  intro x y z u l v x' y' z' u' l' v' hl hl'
  apply Ev.rounds (r := true)
  unfold laws_FnExactEqualBrowsers.f
  refine Ev.bind (laws_szBrowser.ev x y z u l v _ (by decide) (by decide) hl.1 (fun a h => hl.2 a h)) (Ev.size fun g0 => ?_)
  rw [sz_fits g0]
  refine Ev.bind (laws_szBrowser.ev x' y' z' u' l' v' _ (by omega) (by omega) hl'.1 (fun a h => hl'.2 a h)) (Ev.size fun g1 => ?_)
  have c0 : (l.map M.toTab).length ≤ 1048577 := by simp; omega
  have c1 : (l'.map M.toTab).length ≤ 1048577 := by simp; omega
  have t0 := laws_toBrowser.ev x y z u l v (by omega)
  have t1 := laws_toBrowser.ev x' y' z' u' l' v' (by omega)
  refine Ev.bind t0 (Ev.bind t1 (Ev.bind (spec_EqualBrowsers.ev _ _ _ _ _ _ _ _ _ _ _ _ c0 c1) (Ev.bind t0 (Ev.bind t1 (Ev.bind (impl_EqualBrowsers.ev _ _ _ _ _ _ _ _ _ _ _ _ c0 c1) (Ev.no (by simp) ?_))))))
  exact Ev.bind t0 (Ev.bind (laws_eqBrowser.refl _ _ _ _ _ _ c0) (Ev.yes rfl (Ev.bind t1 (Ev.bind (laws_eqBrowser.refl _ _ _ _ _ _ c1) (Ev.yes rfl (Ev.now _))))))
end Go.Proofs.Ytjdkkfbcpbjpkaa.Pure
