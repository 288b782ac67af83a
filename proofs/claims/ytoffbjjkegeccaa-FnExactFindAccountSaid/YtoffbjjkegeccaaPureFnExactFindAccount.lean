/- The program's FindAccount returns what the reference's returns, for all arguments. -/
import Derived.Test.YtoffbjjkegeccaaOpFnExactFindAccount
import Derived.Test.YtoffbjjkegeccaaTFnExactFindAccount
namespace Go.Proofs.Ytoffbjjkegeccaa.Pure
open Go.RowKit Go.Proofs.Ytoffbjjkegeccaa.PFnExactFindAccount Go.Proofs.YtoffbjjkegeccaaW.PrintWords Go.Proofs.YtoffbjjkegeccaaW.PrintLast
set_option linter.unusedVariables false
set_option linter.unusedSimpArgs false

/-! base -/
theorem wrap_in {n : Int} (h1 : -9223372036854775808 ≤ n) (h2 : n ≤ 9223372036854775807) : wrap64 n = n := by unfold wrap64; omega
theorem wrap_succ {i n : Nat} (h : i < n) (hn : n ≤ 1152921504606846976) : wrap64 ((i : Int) + 1) = ((i + 1 : Nat) : Int) := by unfold wrap64; omega
theorem wrap_pred {i : Nat} (h : 0 < i) (hn : i ≤ 1152921504606846976) : wrap64 ((i : Int) - 1) = ((i - 1 : Nat) : Int) := by unfold wrap64; omega
theorem Ev.eq {α : Type} {r s : α} (h : r = s) : Ev (fun _ => some r) s := h ▸ Ev.now r
theorem Ev.opt {α : Type} {o : Option α} {r : α} (h : o = some r) : Ev (fun _ => o) r := h ▸ Ev.now r
theorem Ev.yes {α : Type} {c : Prop} [Decidable c] {g f : Nat → Option α} {r : α} (h : c) (k : Ev g r) : Ev (fun n => if c then g n else f n) r := by simpa [h] using k
theorem Ev.no {α : Type} {c : Prop} [Decidable c] {g f : Nat → Option α} {r : α} (h : ¬ c) (k : Ev f r) : Ev (fun n => if c then g n else f n) r := by simpa [h] using k
theorem Ev.ite {α : Type} {c : Prop} [Decidable c] {g f : Nat → Option α} {r : α} (h : c → Ev g r) (k : ¬ c → Ev f r) : Ev (fun n => if c then g n else f n) r := by
  by_cases hc : c
  · exact Ev.yes hc (h hc)
  · exact Ev.no hc (k hc)
theorem Ev.bindc {α β : Type} {o : Option α} {a : α} {f : Nat → α → Option β} {r : β} (h : o = some a) (k : Ev (fun n => f n a) r) : Ev (fun n => o.bind (f n)) r := by subst h; exact k
theorem Ev.round {α : Type} {g : Nat → Option α} {r : α} (h : Ev (fun k => g (k + 1)) r) : Ev g r := Ev.step (fun _ => rfl) h
theorem Ev.conv {α : Type} {g : Nat → Option α} {r s : α} (k : Ev g r) (h : r = s) : Ev g s := h ▸ k
theorem bind_some_ {α β : Type} (a : α) (f : α → Option β) : (some a).bind f = f a := rfl
/-- A loop that counts: from each place on, the answer is what 'val' says. -/
theorem Ev.loop {σ β : Type} (g : Nat → Nat → σ → Option β) (n : Nat) (val : Nat → σ → β) (Inv : Nat → σ → Prop)
    (done : ∀ s, Inv n s → Ev (fun k => g k n s) (val n s))
    (step : ∀ i s, i < n → Inv i s → (∀ s', Inv (i + 1) s' → Ev (fun k => g k (i + 1) s') (val (i + 1) s')) → Ev (fun k => g k i s) (val i s)) :
    ∀ i s, i ≤ n → Inv i s → Ev (fun k => g k i s) (val i s) := by
  have : ∀ d i s, i + d = n → Inv i s → Ev (fun k => g k i s) (val i s) := by
    intro d
    induction d with
    | zero =>
      intro i s hi hs
      obtain rfl : i = n := by omega
      exact done s hs
    | succ d ih => intro i s hi hs; exact step i s (by omega) hs (fun s' hs' => ih (i + 1) s' (by omega) hs')
  intro i s hi hs
  exact this (n - i) i s (by omega) hs
theorem getD_lt {α : Type} {l : List α} {i : Nat} (h : i < l.length) (d : α) : l.getD i d = l[i] := by simp [List.getD_eq_getElem?_getD, h]
theorem rd_get {l : List Int} {i : Nat} (h : i < l.length) : rd l (i : Int) = l[i] := by unfold rd; exact getD_lt h _
theorem take_fill {α β : Type} (f : α → β) (l : List α) (z : β) {i : Nat} (h : i < l.length) :
    ((l.take i).map f ++ List.replicate (l.length - i) z).set i (f l[i]) = (l.take (i + 1)).map f ++ List.replicate (l.length - (i + 1)) z := by
  have e : l.length - i = (l.length - (i + 1)) + 1 := by omega
  rw [e, List.replicate_succ, List.set_append_right _ _ (by simp; omega)]
  have : i - (List.map f (List.take i l)).length = 0 := by simp; omega
  rw [this, List.set_cons_zero, List.take_succ_eq_append_getElem h, List.map_append]
  simp
theorem fill_len {α β : Type} (f : α → β) (l : List α) (z : β) {i : Nat} (h : i ≤ l.length) : ((l.take i).map f ++ List.replicate (l.length - i) z).length = l.length := by simp; omega
theorem fill_end {α β : Type} (f : α → β) (l : List α) (z : β) : (l.take l.length).map f ++ List.replicate (l.length - l.length) z = l.map f := by simp
theorem drop_get {α : Type} {l : List α} {i : Nat} (h : i < l.length) : l.drop i = l[i] :: l.drop (i + 1) := List.drop_eq_getElem_cons h
theorem drop_end {α : Type} (l : List α) : l.drop l.length = [] := List.drop_eq_nil_of_le (Nat.le_refl _)
/-! rd-Account -/
theorem rd_Account {l : List S28} {i : Nat} (h : i < l.length) : rd_T28 l (i : Int) = l[i] := by unfold rd_T28; exact getD_lt h _
/-! findacc -/
def M.findAFrom (h : Int) : List S28 → Int → Int
  | [], _ => -1
  | e :: l, i => if e.f0 = h then i else M.findAFrom h l (i + 1)
def M.findA (l : List S28) (h : Int) : Int := M.findAFrom h l 0
theorem findAFrom_bounds (h : Int) : ∀ (l : List S28) (i : Int), M.findAFrom h l i = -1 ∨ (i ≤ M.findAFrom h l i ∧ M.findAFrom h l i < i + l.length)
  | [], i => .inl rfl
  | e :: l, i => by
    unfold M.findAFrom
    split
    · exact .inr ⟨by omega, by simp; omega⟩
    · rcases findAFrom_bounds h l (i + 1) with h2 | h2
      · exact .inl h2
      · exact .inr ⟨by omega, by simp; omega⟩
theorem findA_bounds (l : List S28) (h : Int) : M.findA l h = -1 ∨ (0 ≤ M.findA l h ∧ M.findA l h < l.length) := by
  have := findAFrom_bounds h l 0
  unfold M.findA; omega
/-! impl_FindAccount -/
theorem impl_FindAccount.ev (n : ByteArray) (l : List S28) (x y : Int) (c : List S125) (g : List Int) (h : Int) (hl : l.length ≤ 1048577) : Ev (fun k => impl_FindAccount.f k n l x y c g h) (M.findA l h) := by
  unfold impl_FindAccount.f
  refine Ev.loop (fun k i (_ : Unit) => impl_FindAccount.l0 k h l l.length (i : Int)) l.length (fun i _ => M.findAFrom h (l.drop i) i) (fun _ _ => True) ?_ ?_ 0 () (by omega) trivial
  · rintro s _
    refine Ev.round ?_
    simp only [impl_FindAccount.l0]
    exact Ev.no (by omega) (Ev.eq (by rw [drop_end]; rfl))
  · rintro i s hi _ ih
    refine Ev.round ?_
    simp only [impl_FindAccount.l0, rd_Account hi, wrap_succ hi (by omega : l.length ≤ _)]
    rw [drop_get hi]; unfold M.findAFrom
    refine Ev.yes (by omega) (Ev.yes (by omega) (Ev.yes (by omega) (Ev.ite (fun h1 => ?_) (fun h1 => ?_))))
    · exact Ev.eq (by rw [if_pos h1])
    · rw [if_neg h1]; exact ih () trivial
/-! laws_eqCredentialS -/
theorem laws_eqCredentialS.refl (l : List S83) (hl : l.length ≤ 1048576) : Ev (fun k => laws_eqCredentialS.f k l l) true := by
  unfold laws_eqCredentialS.f
  refine Ev.yes rfl ?_
  refine Ev.loop (fun k i (_ : Unit) => laws_eqCredentialS.l0 k l l (i : Int)) l.length (fun _ _ => true) (fun _ _ => True) ?_ ?_ 0 () (by omega) trivial
  · rintro s _
    refine Ev.round ?_
    simp only [laws_eqCredentialS.l0]
    exact Ev.no (by omega) (Ev.now _)
  · rintro i s hi _ ih
    refine Ev.round ?_
    simp only [laws_eqCredentialS.l0, wrap_succ hi (by omega : l.length ≤ _), laws_eqCredential.f, if_true, bind_some_, bne_self_eq_false, Bool.false_eq_true, if_false]
    exact Ev.yes (by omega) (Ev.yes (by omega) (Ev.yes (by omega) (ih () trivial)))
/-! laws_eqAccount -/
theorem laws_eqAccount.refl (x y : Int) (l : List S83) (hl : l.length ≤ 1048576) : Ev (fun k => laws_eqAccount.f k x y l x y l) true := by
  unfold laws_eqAccount.f; exact Ev.yes rfl (Ev.yes rfl (Ev.bind (laws_eqCredentialS.refl l hl) (Ev.yes rfl (Ev.now _))))
/-! laws_eqAccountS -/
theorem laws_eqAccountS.refl (l : List S28) (hl : l.length ≤ 1048577) (hd : ∀ x ∈ l, x.f2.length ≤ 1048576) : Ev (fun k => laws_eqAccountS.f k l l) true := by
  unfold laws_eqAccountS.f
  refine Ev.yes rfl ?_
  refine Ev.loop (fun k i (_ : Unit) => laws_eqAccountS.l0 k l l (i : Int)) l.length (fun _ _ => true) (fun _ _ => True) ?_ ?_ 0 () (by omega) trivial
  · rintro s _
    refine Ev.round ?_
    simp only [laws_eqAccountS.l0]
    exact Ev.no (by omega) (Ev.now _)
  · rintro i s hi _ ih
    refine Ev.round ?_
    simp only [laws_eqAccountS.l0, rd_Account hi, wrap_succ hi (by omega : l.length ≤ _)]
    exact Ev.yes (by omega) (Ev.yes (by omega) (Ev.yes (by omega) (Ev.bind (laws_eqAccount.refl _ _ _ (hd _ (List.getElem_mem hi))) (Ev.yes rfl (ih () trivial)))))
/-! laws_eqChallengeS -/
theorem laws_eqChallengeS.refl (l : List S125) (hl : l.length ≤ 1048576) : Ev (fun k => laws_eqChallengeS.f k l l) true := by
  unfold laws_eqChallengeS.f
  refine Ev.yes rfl ?_
  refine Ev.loop (fun k i (_ : Unit) => laws_eqChallengeS.l0 k l l (i : Int)) l.length (fun _ _ => true) (fun _ _ => True) ?_ ?_ 0 () (by omega) trivial
  · rintro s _
    refine Ev.round ?_
    simp only [laws_eqChallengeS.l0]
    exact Ev.no (by omega) (Ev.now _)
  · rintro i s hi _ ih
    refine Ev.round ?_
    simp only [laws_eqChallengeS.l0, wrap_succ hi (by omega : l.length ≤ _), laws_eqChallenge.f, if_true, bind_some_, bne_self_eq_false, Bool.false_eq_true, if_false]
    exact Ev.yes (by omega) (Ev.yes (by omega) (Ev.yes (by omega) (ih () trivial)))
/-! laws_eqChallengeBook -/
theorem laws_eqChallengeBook.refl (x y : Int) (l : List S125) (hl : l.length ≤ 1048576) : Ev (fun k => laws_eqChallengeBook.f k x y l x y l) true := by
  unfold laws_eqChallengeBook.f; exact Ev.yes rfl (Ev.yes rfl (Ev.bind (laws_eqChallengeS.refl l hl) (Ev.yes rfl (Ev.now _))))
/-! laws_eqIntS -/
theorem laws_eqIntS.refl (l : List Int) (hl : l.length ≤ 1048576) : Ev (fun k => laws_eqIntS.f k l l) true := by
  unfold laws_eqIntS.f
  refine Ev.yes rfl ?_
  refine Ev.loop (fun k i (_ : Unit) => laws_eqIntS.l0 k l l (i : Int)) l.length (fun _ _ => true) (fun _ _ => True) ?_ ?_ 0 () (by omega) trivial
  · rintro s _
    refine Ev.round ?_
    simp only [laws_eqIntS.l0]
    exact Ev.no (by omega) (Ev.now _)
  · rintro i s hi _ ih
    refine Ev.round ?_
    simp only [laws_eqIntS.l0, wrap_succ hi (by omega : l.length ≤ _)]
    exact Ev.yes (by omega) (Ev.yes (by omega) (Ev.yes (by omega) (Ev.yes (by first | trivial | rfl) (ih () trivial))))
/-! laws_eqSite -/
theorem laws_eqSite.refl (n : ByteArray) (l : List S28) (x y : Int) (c : List S125) (g : List Int) (hl : l.length ≤ 1048577) (hd : ∀ x ∈ l, x.f2.length ≤ 1048576) (hc : c.length ≤ 1048576) (hg : g.length ≤ 1048576) : Ev (fun k => laws_eqSite.f k n l x y c g n l x y c g) true := by
  unfold laws_eqSite.f
  exact Ev.yes rfl (Ev.bind (laws_eqAccountS.refl l hl hd) (Ev.yes rfl (Ev.bind (laws_eqChallengeBook.refl x y c hc) (Ev.yes rfl (Ev.bind (laws_eqIntS.refl g hg) (Ev.yes rfl (Ev.now _)))))))
/-! sz -/
def M.sz (n : Nat) (a : Int) : Int := if a - n < 0 then -1 else a - n
theorem sz_eq (n : Nat) (a : Int) (ha : 0 ≤ a) (ha2 : a ≤ 1048576) (hn : n ≤ 9223372036854775807) : (if (wrap64 (a - (n : Int))) < 0 then (some (-1)) else (some (wrap64 (a - (n : Int)))) : Option Int) = some (M.sz n a) := by
  rw [wrap_in (by omega) (by omega)]; unfold M.sz; split <;> rfl
theorem sz_over {n : Nat} {a : Int} (h : a < n) : M.sz n a = -1 := by unfold M.sz; rw [if_pos (by omega)]
theorem sz_fits {n : Nat} {a : Int} (h : (n : Int) ≤ a) : M.sz n a = a - n := by unfold M.sz; rw [if_neg (by omega)]
theorem sz_wrap (n : Nat) (a : Int) : (if M.sz n a < 0 then (some (-1)) else (some (M.sz n a)) : Option Int) = some (M.sz n a) := by
  unfold M.sz; split <;> simp_all
theorem sz_add (n m : Nat) (a : Int) : (if M.sz n a < 0 then -1 else M.sz m (M.sz n a)) = M.sz (n + m) a := by
  unfold M.sz; split <;> split <;> simp_all <;> omega
theorem sz_sub (m n : Nat) (x : Int) : M.sz m (x - n) = M.sz (n + m) x := by
  unfold M.sz; rw [show x - n - m = x - ((n + m : Nat) : Int) by omega]
/-- A law's own look at the size of an argument. -/
theorem Ev.size {n : Nat} {a : Int} {f : Nat → Option Bool} (h : (n : Int) ≤ a → Ev f true) : Ev (fun k => if M.sz n a < 0 then some true else f k) true := by
  by_cases hn : (n : Int) ≤ a
  · exact Ev.no (by rw [sz_fits hn]; omega) (h hn)
  · exact Ev.yes (by rw [sz_over (by omega)]; omega) (Ev.now _)
/-! rd-lCredential -/
theorem rd_lCredential {l : List S106} {i : Nat} (h : i < l.length) : rd_T106 l (i : Int) = l[i] := by unfold rd_T106; exact getD_lt h _
/-! laws_toCredentialS -/
def M.toCredential (e : S106) : S83 := ⟨e.f0, e.f1, e.f2, e.f3⟩
theorem laws_toCredentialS.ev (l : List S106) (hl : l.length ≤ 1048576) : Ev (fun k => laws_toCredentialS.f k l) (l.map M.toCredential) := by
  unfold laws_toCredentialS.f
  refine Ev.yes (by omega) (Ev.yes (by omega) ?_)
  refine Ev.loop (fun k i x => laws_toCredentialS.l0 k l x (i : Int)) l.length (fun _ _ => l.map M.toCredential) (fun i x => x = (l.take i).map M.toCredential ++ List.replicate (l.length - i) z83) ?_ ?_ 0 _ (by omega) (by simp)
  · rintro s rfl
    refine Ev.round ?_
    simp only [laws_toCredentialS.l0]
    exact Ev.no (by omega) (Ev.eq (fill_end _ _ _))
  · rintro i s hi rfl ih
    refine Ev.round ?_
    simp only [laws_toCredentialS.l0, rd_lCredential hi, laws_toCredential.f, bind_some_, wrap_succ hi (by omega : l.length ≤ _), Int.toNat_natCast]
    refine Ev.yes (by omega) (Ev.yes (by omega) (Ev.yes (by rw [fill_len _ _ _ (by omega)]; omega) ?_))
    exact ih _ (take_fill M.toCredential l z83 hi)
/-! accs -/
def M.accTot : List S24 → Nat
  | [] => 0
  | b :: l => b.f2.length + M.accTot l
theorem accTot_mem : ∀ (l : List S24) (b : S24), b ∈ l → b.f2.length ≤ M.accTot l
  | [], _, h => by simp at h
  | c :: l, b, h => by
    rcases List.mem_cons.1 h with rfl | h
    · unfold M.accTot; omega
    · have := accTot_mem l b h; unfold M.accTot; omega
def M.toAccount (e : S24) : S28 := ⟨e.f0, e.f1, e.f2.map M.toCredential⟩
theorem acc_small {l : List S24} {n : Nat} (h : ∀ b ∈ l, b.f2.length ≤ n) : ∀ b ∈ l.map M.toAccount, b.f2.length ≤ n := by
  intro b hb
  obtain ⟨c, hc, rfl⟩ := List.mem_map.1 hb
  simpa [M.toAccount] using h c hc
/-! rd-lAccount -/
theorem rd_lAccount {l : List S24} {i : Nat} (h : i < l.length) : rd_T24 l (i : Int) = l[i] := by unfold rd_T24; exact getD_lt h _
/-! laws_szCredentialS -/
theorem laws_szCredentialS.eq (l : List S106) (a : Int) (ha : 0 ≤ a) (ha2 : a ≤ 1048576) (hl : l.length ≤ 9223372036854775807) : laws_szCredentialS.f l a = some (M.sz l.length a) := by
  unfold laws_szCredentialS.f; exact sz_eq _ _ ha ha2 hl
/-! laws_szAccount -/
theorem laws_szAccount.eq (x y : Int) (l : List S106) (a : Int) (ha : 0 ≤ a) (ha2 : a ≤ 1048576) (hl : l.length ≤ 9223372036854775807) : laws_szAccount.f x y l a = some (M.sz l.length a) := by
  unfold laws_szAccount.f; rw [laws_szCredentialS.eq l a ha ha2 hl]; exact sz_wrap _ _
/-! laws_szAccountS -/
theorem laws_szAccountS.ev (l : List S24) (a : Int) (ha : 0 ≤ a) (ha2 : a ≤ 1048576) (hl : l.length ≤ 9223372036854775807) (hd : ∀ x ∈ l, x.f2.length ≤ 9223372036854775807) : Ev (fun k => laws_szAccountS.f k l a) (M.sz (l.length + M.accTot l) a) := by
  unfold laws_szAccountS.f
  rw [wrap_in (by omega) (by omega)]
  refine Ev.ite (fun h => Ev.eq (sz_over (by omega)).symm) (fun h => ?_)
  refine Ev.conv (Ev.loop (fun k i x => laws_szAccountS.l0 k l x (i : Int)) l.length (fun i x => M.sz (M.accTot (l.drop i)) x) (fun _ x => 0 ≤ x ∧ x ≤ 1048576) ?_ ?_ 0 (a - l.length) (by omega) (by omega)) ?_
  · intro x hx
    refine Ev.round ?_
    simp only [laws_szAccountS.l0]
    exact Ev.no (by omega) (Ev.eq (by rw [drop_end]; unfold M.accTot M.sz; rw [if_neg (by omega)]; simp))
  · intro i x hi hx ih
    refine Ev.round ?_
    simp only [laws_szAccountS.l0, rd_lAccount hi, wrap_succ hi (by omega : l.length ≤ _), laws_szAccount.eq _ _ _ _ hx.1 hx.2 (hd _ (List.getElem_mem hi)), bind_some_]
    rw [drop_get hi]
    refine Ev.yes (by omega) (Ev.yes (by omega) (Ev.ite (fun h => ?_) (fun h => ?_)))
    · refine Ev.eq (sz_over ?_).symm
      unfold M.sz at h; unfold M.accTot; split at h <;> omega
    · have hf : (l[i].f2.length : Int) ≤ x := by unfold M.sz at h; split at h <;> omega
      refine Ev.conv (ih _ (by rw [sz_fits hf]; omega)) ?_
      rw [sz_fits hf, sz_sub]; rfl
  · rw [sz_sub]; rfl
/-! laws_szChallengeS -/
theorem laws_szChallengeS.eq (l : List S127) (a : Int) (ha : 0 ≤ a) (ha2 : a ≤ 1048576) (hl : l.length ≤ 9223372036854775807) : laws_szChallengeS.f l a = some (M.sz l.length a) := by
  unfold laws_szChallengeS.f; exact sz_eq _ _ ha ha2 hl
/-! laws_szChallengeBook -/
theorem laws_szChallengeBook.eq (x y : Int) (l : List S127) (a : Int) (ha : 0 ≤ a) (ha2 : a ≤ 1048576) (hl : l.length ≤ 9223372036854775807) : laws_szChallengeBook.f x y l a = some (M.sz l.length a) := by
  unfold laws_szChallengeBook.f; rw [laws_szChallengeS.eq l a ha ha2 hl]; exact sz_wrap _ _
/-! laws_szIntS -/
theorem laws_szIntS.eq (l : List Int) (a : Int) (ha : 0 ≤ a) (ha2 : a ≤ 1048576) (hl : l.length ≤ 9223372036854775807) : laws_szIntS.f l a = some (M.sz l.length a) := by
  unfold laws_szIntS.f; exact sz_eq _ _ ha ha2 hl
/-! laws_szSite -/
def M.siteTot (n : ByteArray) (l : List S24) (c : List S127) (g : List Int) : Nat := n.size + (l.length + M.accTot l) + c.length + g.length
theorem sz_neg {n : Nat} {a : Int} (h : M.sz n a < 0) (ha : 0 ≤ a) : a < n := by unfold M.sz at h; split at h <;> omega
theorem sz_pos {n : Nat} {a : Int} (h : ¬ M.sz n a < 0) : (n : Int) ≤ a := by unfold M.sz at h; split at h <;> omega
theorem laws_szSite.ev (n : ByteArray) (l : List S24) (x y : Int) (c : List S127) (g : List Int) (a : Int) (ha : 0 ≤ a) (ha2 : a ≤ 1048576) (hn : n.size ≤ 9223372036854775807) (hl : l.length ≤ 9223372036854775807) (hd : ∀ x ∈ l, x.f2.length ≤ 9223372036854775807) (hc : c.length ≤ 9223372036854775807) (hg : g.length ≤ 9223372036854775807) :
    Ev (fun k => laws_szSite.f k n l x y c g a) (M.sz (M.siteTot n l c g) a) := by
  unfold laws_szSite.f
  rw [wrap_in (by omega) (by omega)]
  refine Ev.ite (fun h => Ev.eq (sz_over (by unfold M.siteTot; omega)).symm) (fun h => ?_)
  refine Ev.bind (laws_szAccountS.ev l _ (by omega) (by omega) hl hd) (Ev.ite (fun h2 => Ev.eq (sz_over (by have := sz_neg h2 (by omega); unfold M.siteTot; omega)).symm) (fun h2 => ?_))
  have h3 := sz_pos h2
  rw [sz_fits h3]
  refine Ev.bindc (laws_szChallengeBook.eq _ _ _ _ (by omega) (by omega) hc) (Ev.ite (fun h4 => Ev.eq (sz_over (by have := sz_neg h4 (by omega); unfold M.siteTot; omega)).symm) (fun h4 => ?_))
  have h5 := sz_pos h4
  rw [sz_fits h5]
  refine Ev.bindc (laws_szIntS.eq _ _ (by omega) (by omega) hg) (Ev.opt ?_)
  rw [sz_wrap, sz_sub, sz_sub, sz_sub]
  congr 2; unfold M.siteTot; omega
/-! laws_toAccount -/
theorem laws_toAccount.ev (x y : Int) (l : List S106) (hl : l.length ≤ 1048576) : Ev (fun k => laws_toAccount.f k x y l) (x, y, l.map M.toCredential) := by
  unfold laws_toAccount.f; exact Ev.bind (laws_toCredentialS.ev l hl) (Ev.now _)
/-! laws_toAccountS -/
theorem laws_toAccountS.ev (l : List S24) (hl : l.length ≤ 1048576) (hd : ∀ x ∈ l, x.f2.length ≤ 1048576) : Ev (fun k => laws_toAccountS.f k l) (l.map M.toAccount) := by
  unfold laws_toAccountS.f
  refine Ev.yes (by omega) (Ev.yes (by omega) ?_)
  refine Ev.loop (fun k i x => laws_toAccountS.l0 k l x (i : Int)) l.length (fun _ _ => l.map M.toAccount) (fun i x => x = (l.take i).map M.toAccount ++ List.replicate (l.length - i) z28) ?_ ?_ 0 _ (by omega) (by simp)
  · rintro s rfl
    refine Ev.round ?_
    simp only [laws_toAccountS.l0]
    exact Ev.no (by omega) (Ev.eq (fill_end _ _ _))
  · rintro i s hi rfl ih
    refine Ev.round ?_
    simp only [laws_toAccountS.l0, rd_lAccount hi, wrap_succ hi (by omega : l.length ≤ _), Int.toNat_natCast]
    refine Ev.yes (by omega) (Ev.yes (by omega) (Ev.bind (laws_toAccount.ev _ _ _ (hd _ (List.getElem_mem hi))) (Ev.yes (by rw [fill_len _ _ _ (by omega)]; omega) ?_)))
    exact ih _ (take_fill M.toAccount l z28 hi)
/-! laws_toIntS -/
theorem laws_toIntS.ev (l : List Int) (hl : l.length ≤ 1048576) : Ev (fun k => laws_toIntS.f k l) l := by
  unfold laws_toIntS.f
  refine Ev.yes (by omega) (Ev.yes (by omega) ?_)
  have := Ev.loop (fun k i x => laws_toIntS.l0 k l x (i : Int)) l.length (fun _ _ => l) (fun i x => x = (l.take i).map id ++ List.replicate (l.length - i) 0) ?_ ?_ 0 _ (by omega) rfl
  · simpa using this
  · rintro s rfl
    refine Ev.round ?_
    simp only [laws_toIntS.l0]
    exact Ev.no (by omega) (Ev.eq (by rw [fill_end]; simp))
  · rintro i s hi rfl ih
    refine Ev.round ?_
    simp only [laws_toIntS.l0, rd_get hi, wrap_succ hi (by omega : l.length ≤ _), Int.toNat_natCast]
    refine Ev.yes (by omega) (Ev.yes (by omega) (Ev.yes (by rw [fill_len _ _ _ (by omega)]; omega) ?_))
    exact ih _ (take_fill id l 0 hi)
/-! rd-lChallenge -/
theorem rd_lChallenge {l : List S127} {i : Nat} (h : i < l.length) : rd_T127 l (i : Int) = l[i] := by unfold rd_T127; exact getD_lt h _
/-! laws_toChallengeS -/
def M.toChallenge (e : S127) : S125 := ⟨e.f0, e.f1, e.f2⟩
theorem laws_toChallengeS.ev (l : List S127) (hl : l.length ≤ 1048576) : Ev (fun k => laws_toChallengeS.f k l) (l.map M.toChallenge) := by
  unfold laws_toChallengeS.f
  refine Ev.yes (by omega) (Ev.yes (by omega) ?_)
  refine Ev.loop (fun k i x => laws_toChallengeS.l0 k l x (i : Int)) l.length (fun _ _ => l.map M.toChallenge) (fun i x => x = (l.take i).map M.toChallenge ++ List.replicate (l.length - i) z125) ?_ ?_ 0 _ (by omega) (by simp)
  · rintro s rfl
    refine Ev.round ?_
    simp only [laws_toChallengeS.l0]
    exact Ev.no (by omega) (Ev.eq (fill_end _ _ _))
  · rintro i s hi rfl ih
    refine Ev.round ?_
    simp only [laws_toChallengeS.l0, rd_lChallenge hi, laws_toChallenge.f, bind_some_, wrap_succ hi (by omega : l.length ≤ _), Int.toNat_natCast]
    refine Ev.yes (by omega) (Ev.yes (by omega) (Ev.yes (by rw [fill_len _ _ _ (by omega)]; omega) ?_))
    exact ih _ (take_fill M.toChallenge l z125 hi)
/-! laws_toChallengeBook -/
theorem laws_toChallengeBook.ev (x y : Int) (l : List S127) (hl : l.length ≤ 1048576) : Ev (fun k => laws_toChallengeBook.f k x y l) (x, y, l.map M.toChallenge) := by
  unfold laws_toChallengeBook.f; exact Ev.bind (laws_toChallengeS.ev l hl) (Ev.now _)
/-! laws_toSite -/
theorem laws_toSite.ev (n : ByteArray) (l : List S24) (x y : Int) (c : List S127) (g : List Int) (hl : l.length ≤ 1048576) (hd : ∀ x ∈ l, x.f2.length ≤ 1048576) (hc : c.length ≤ 1048576) (hg : g.length ≤ 1048576) : Ev (fun k => laws_toSite.f k n l x y c g) (n, l.map M.toAccount, x, y, c.map M.toChallenge, g) := by
  unfold laws_toSite.f
  exact Ev.bind (laws_toAccountS.ev l hl hd) (Ev.bind (laws_toChallengeBook.ev x y c hc) (Ev.bind (laws_toIntS.ev g hg) (Ev.now _)))
/-! spec_FindAccount -/
theorem spec_FindAccount.ev (n : ByteArray) (l : List S28) (x y : Int) (c : List S125) (g : List Int) (h : Int) (hl : l.length ≤ 1048577) : Ev (fun k => spec_FindAccount.f k n l x y c g h) (M.findA l h) := by
  unfold spec_FindAccount.f
  refine Ev.loop (fun k i (_ : Unit) => spec_FindAccount.l0 k h (i : Int) n l x y c g) l.length (fun i _ => M.findAFrom h (l.drop i) i) (fun _ _ => True) ?_ ?_ 0 () (by omega) trivial
  · rintro s _
    refine Ev.round ?_
    simp only [spec_FindAccount.l0]
    exact Ev.no (by omega) (Ev.eq (by rw [drop_end]; rfl))
  · rintro i s hi _ ih
    refine Ev.round ?_
    simp only [spec_FindAccount.l0, rd_Account hi, wrap_succ hi (by omega : l.length ≤ _)]
    rw [drop_get hi]; unfold M.findAFrom
    refine Ev.yes (by omega) (Ev.yes (by omega) (Ev.ite (fun h1 => ?_) (fun h1 => ?_)))
    · exact Ev.eq (by rw [if_pos h1])
    · rw [if_neg h1]; exact ih () trivial

/-! the law -/
theorem FnExactFindAccount : ∀ (a0_0 : ByteArray) (l0_1 : List (S24)) (a0_2 : Int) (a0_3 : Int) (l0_4 : List (S127)) (l0_5 : List Int) (a1 : Int), a0_0.size ≤ 9223372036854775807 → (l0_1.length ≤ 9223372036854775807 ∧ ∀ x ∈ l0_1, Fit24 x) → l0_4.length ≤ 9223372036854775807 → l0_5.length ≤ 9223372036854775807 → ∃ k, laws_FnExactFindAccount.f k a0_0 l0_1 a0_2 a0_3 l0_4 l0_5 a1 = some true := by
  intro n l x y c g h hn hl hc hg
  apply Ev.rounds (r := true)
  unfold laws_FnExactFindAccount.f
  refine Ev.bind (laws_szSite.ev n l x y c g _ (by decide) (by decide) hn hl.1 hl.2 hc hg) (Ev.size fun g0 => ?_)
  unfold M.siteTot at g0
  have d0 : ∀ x ∈ l, x.f2.length ≤ 1048576 := fun x hx => by have := accTot_mem l x hx; omega
  have cl : (l.map M.toAccount).length ≤ 1048577 := by simp; omega
  have cc : (c.map M.toChallenge).length ≤ 1048576 := by simp; omega
  have cg : g.length ≤ 1048576 := by omega
  have t0 := laws_toSite.ev n l x y c g (by omega) d0 (by omega) cg
  exact Ev.bind t0 (Ev.bind (spec_FindAccount.ev _ _ _ _ _ _ _ cl) (Ev.bind t0 (Ev.bind (impl_FindAccount.ev _ _ _ _ _ _ _ cl) (Ev.yes rfl (Ev.bind t0 (Ev.bind (laws_eqSite.refl _ _ _ _ _ _ cl (acc_small d0) cc cg) (Ev.yes rfl (Ev.now _))))))))
end Go.Proofs.Ytoffbjjkegeccaa.Pure
