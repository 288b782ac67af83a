/- The program's AddCredential returns what the reference's returns, for all arguments. -/
import Derived.Test.YtoffbjjkegeccaaOpFnExactAddCredential
import Derived.Test.YtoffbjjkegeccaaTFnExactAddCredential
namespace Go.Proofs.Ytoffbjjkegeccaa.Pure
open Go.RowKit Go.Proofs.Ytoffbjjkegeccaa.PFnExactAddCredential Go.Proofs.YtoffbjjkegeccaaW.PrintWords Go.Proofs.YtoffbjjkegeccaaW.PrintLast
set_option linter.unusedVariables false
set_option linter.unusedSimpArgs false

/-! base -/
theorem wrap_in {n : Int} (h1 : -9223372036854775808 ≤ n) (h2 : n ≤ 9223372036854775807) : wrap64 n = n := by unfold wrap64; omega
theorem wrap_succ {i n : Nat} (h : i < n) (hn : n ≤ 1152921504606846976) : wrap64 ((i : Int) + 1) = ((i + 1 : Nat) : Int) := by unfold wrap64; omega
theorem wrap_pred {i : Nat} (h : 0 < i) (hn : i ≤ 1152921504606846976) : wrap64 ((i : Int) - 1) = ((i - 1 : Nat) : Int) := by unfold wrap64; omega
theorem Ev.eq {α : Type} {r s : α} (h : r = s) : Ev (fun _ => some r) s := h ▸ Ev.now r
theorem Ev.opt {α : Type} {o : Option α} {r : α} (h : o = some r) : Ev (fun _ => o) r := h ▸ Ev.now r
theorem Ev.yes {α : Type} {c : Prop} [Decidable c] {g f : Nat → Option α} {r : α} (h : c) (k : Ev g r) : Ev (fun n => if c then g n else f n) r := by simpa [h] using k
theorem Ev.no {α : Type} {c : Prop} [Decidable c] {g f : Nat → Option α} {r : α} (h : ¬ c) (k : Ev f r) : Ev (fun n => if c then g n else f n) r := by simpa [h] using k
theorem Ev.ite {α : Type} {c : Prop} [Decidable c] {g f : Nat → Option α} {r : α} (h : c → Ev g r) (k : ¬ c → Ev f r) : Ev (fun n => if c then g n else f n) r := by
  by_cases hc : c
  · exact Ev.yes hc (h hc)
  · exact Ev.no hc (k hc)
theorem Ev.bindc {α β : Type} {o : Option α} {a : α} {f : Nat → α → Option β} {r : β} (h : o = some a) (k : Ev (fun n => f n a) r) : Ev (fun n => o.bind (f n)) r := by subst h; exact k
theorem Ev.round {α : Type} {g : Nat → Option α} {r : α} (h : Ev (fun k => g (k + 1)) r) : Ev g r := Ev.step (fun _ => rfl) h
theorem Ev.conv {α : Type} {g : Nat → Option α} {r s : α} (k : Ev g r) (h : r = s) : Ev g s := h ▸ k
theorem bind_some_ {α β : Type} (a : α) (f : α → Option β) : (some a).bind f = f a := rfl
/-- A loop that counts: from each place on, the answer is what 'val' says. -/
theorem Ev.loop {σ β : Type} (g : Nat → Nat → σ → Option β) (n : Nat) (val : Nat → σ → β) (Inv : Nat → σ → Prop)
    (done : ∀ s, Inv n s → Ev (fun k => g k n s) (val n s))
    (step : ∀ i s, i < n → Inv i s → (∀ s', Inv (i + 1) s' → Ev (fun k => g k (i + 1) s') (val (i + 1) s')) → Ev (fun k => g k i s) (val i s)) :
    ∀ i s, i ≤ n → Inv i s → Ev (fun k => g k i s) (val i s) := by
  have : ∀ d i s, i + d = n → Inv i s → Ev (fun k => g k i s) (val i s) := by
    intro d
    induction d with
    | zero =>
      intro i s hi hs
      obtain rfl : i = n := by omega
      exact done s hs
    | succ d ih => intro i s hi hs; exact step i s (by omega) hs (fun s' hs' => ih (i + 1) s' (by omega) hs')
  intro i s hi hs
  exact this (n - i) i s (by omega) hs
theorem getD_lt {α : Type} {l : List α} {i : Nat} (h : i < l.length) (d : α) : l.getD i d = l[i] := by simp [List.getD_eq_getElem?_getD, h]
theorem rd_get {l : List Int} {i : Nat} (h : i < l.length) : rd l (i : Int) = l[i] := by unfold rd; exact getD_lt h _
theorem take_fill {α β : Type} (f : α → β) (l : List α) (z : β) {i : Nat} (h : i < l.length) :
    ((l.take i).map f ++ List.replicate (l.length - i) z).set i (f l[i]) = (l.take (i + 1)).map f ++ List.replicate (l.length - (i + 1)) z := by
  have e : l.length - i = (l.length - (i + 1)) + 1 := by omega
  rw [e, List.replicate_succ, List.set_append_right _ _ (by simp; omega)]
  have : i - (List.map f (List.take i l)).length = 0 := by simp; omega
  rw [this, List.set_cons_zero, List.take_succ_eq_append_getElem h, List.map_append]
  simp
theorem fill_len {α β : Type} (f : α → β) (l : List α) (z : β) {i : Nat} (h : i ≤ l.length) : ((l.take i).map f ++ List.replicate (l.length - i) z).length = l.length := by simp; omega
theorem fill_end {α β : Type} (f : α → β) (l : List α) (z : β) : (l.take l.length).map f ++ List.replicate (l.length - l.length) z = l.map f := by simp
theorem drop_get {α : Type} {l : List α} {i : Nat} (h : i < l.length) : l.drop i = l[i] :: l.drop (i + 1) := List.drop_eq_getElem_cons h
theorem drop_end {α : Type} (l : List α) : l.drop l.length = [] := List.drop_eq_nil_of_le (Nat.le_refl _)
/-! inrange -/
def M.inr (a b c : Int) : Bool := decide (b ≤ a ∧ a ≤ c)
theorem inr_true {a b c : Int} : M.inr a b c = true ↔ b ≤ a ∧ a ≤ c := by simp [M.inr]
/-! validkey -/
def M.validKey (a : Int) : Bool := M.inr a 1 2147483646
def M.pub (a : Int) : Int := if M.validKey a = true then a * 48271 % 2147483647 else 0
def M.inv : Int := 1899818559
def M.priv (a : Int) : Int := if M.validKey a = true then a * M.inv % 2147483647 else 0
theorem priv_valid {a : Int} (h : M.validKey a = true) : M.validKey (M.priv a) = true ∧ M.pub (M.priv a) = a := by
  have h' := inr_true.1 h
  have e : M.priv a = a * 1899818559 % 2147483647 := by unfold M.priv M.inv; rw [if_pos h]
  have h2 : (a * 1899818559 % 2147483647) * 48271 % 2147483647 = a := by omega
  have h3 : M.validKey (M.priv a) = true := by rw [e]; exact inr_true.2 (by omega)
  refine ⟨h3, ?_⟩
  unfold M.pub; rw [if_pos h3, e]; exact h2
theorem pub_valid {a : Int} (h : M.validKey a = true) : M.validKey (M.pub a) = true ∧ M.priv (M.pub a) = a := by
  have h' := inr_true.1 h
  have e : M.pub a = a * 48271 % 2147483647 := by unfold M.pub; rw [if_pos h]
  have h2 : (a * 48271 % 2147483647) * 1899818559 % 2147483647 = a := by omega
  have h3 : M.validKey (M.pub a) = true := by rw [e]; exact inr_true.2 (by omega)
  refine ⟨h3, ?_⟩
  unfold M.priv M.inv; rw [if_pos h3, e]; exact h2
theorem priv_ne {a : Int} : M.priv a = 0 ↔ M.validKey a = false := by
  cases h : M.validKey a with
  | true =>
    have := inr_true.1 (priv_valid h).1
    constructor
    · intro h0; omega
    · intro h0; cases h0
  | false => simp [M.priv, h]
/-! rd-Credential -/
theorem rd_Credential {l : List S83} {i : Nat} (h : i < l.length) : rd_T83 l (i : Int) = l[i] := by unfold rd_T83; exact getD_lt h _
/-! validacc -/
def M.okC (c : S83) : Bool := M.inr c.f0 0 1000000 && (M.validKey c.f1 && M.inr c.f2 0 1000000)
def M.relC (a b : S83) : Prop := a.f0 < b.f0 ∧ a.f1 ≠ b.f1
instance : DecidableRel M.relC := fun a b => by unfold M.relC; exact inferInstance
def M.validAcc (id mn : Int) (l : List S83) : Bool := M.inr id 0 1000000 && (M.inr mn 1 3 && (decide (l.length ≤ 8) && (l.all M.okC && decide (l.Pairwise M.relC))))
theorem validAcc_iff (id mn : Int) (l : List S83) : M.validAcc id mn l = true ↔ (0 ≤ id ∧ id ≤ 1000000) ∧ (1 ≤ mn ∧ mn ≤ 3) ∧ l.length ≤ 8 ∧ (∀ c ∈ l, M.okC c = true) ∧ l.Pairwise M.relC := by
  unfold M.validAcc; simp [M.inr]
/-- The credentials before a place are good. -/
def M.goodC (l : List S83) (i : Nat) : Prop := (∀ c ∈ l.take i, M.okC c = true) ∧ (l.take i).Pairwise M.relC
theorem goodC_zero (l : List S83) : M.goodC l 0 := by simp [M.goodC]
theorem goodC_succ (l : List S83) (i : Nat) (h : i < l.length) (hg : M.goodC l i) (ho : M.okC l[i] = true) (hp : ∀ h0 : 0 < i, (l[i - 1]'(by omega)).f0 < l[i].f0) (hn : ∀ j (hj : j < i), (l[j]'(by omega)).f1 ≠ l[i].f1) : M.goodC l (i + 1) := by
  obtain ⟨h1, h2⟩ := hg
  unfold M.goodC
  rw [List.take_succ_eq_append_getElem h]
  refine ⟨?_, ?_⟩
  · intro c hc
    rcases List.mem_append.1 hc with hc | hc
    · exact h1 c hc
    · rw [List.mem_singleton.1 hc]; exact ho
  · rw [List.pairwise_append]
    refine ⟨h2, by simp, ?_⟩
    intro a ha b hb
    rw [List.mem_singleton.1 hb]
    obtain ⟨j, hj, rfl⟩ := List.getElem_of_mem ha
    have hji : j < i := by simp at hj; omega
    rw [List.getElem_take]
    refine ⟨?_, hn j hji⟩
    have hl := hp (by omega)
    by_cases e : j = i - 1
    · subst e; exact hl
    · have := (List.pairwise_iff_getElem.1 h2) j (i - 1) (by simp; omega) (by simp; omega) (by omega)
      rw [List.getElem_take, List.getElem_take] at this
      have := this.1; omega
theorem goodC_end (l : List S83) (h : M.goodC l l.length) : l.all M.okC = true ∧ l.Pairwise M.relC := by
  unfold M.goodC at h; rw [List.take_length] at h; exact ⟨List.all_eq_true.2 h.1, h.2⟩
theorem validAcc_bad {id mn : Int} {l : List S83} (h : l.all M.okC = false ∨ ¬ l.Pairwise M.relC) : M.validAcc id mn l = false := by
  unfold M.validAcc; rcases h with h | h <;> simp [h]
theorem bad_ok {id mn : Int} {l : List S83} {i : Nat} (h : i < l.length) (ho : M.okC l[i] = false) : M.validAcc id mn l = false :=
  validAcc_bad (.inl (by rw [Bool.eq_false_iff]; intro ha; have := List.all_eq_true.1 ha l[i] (List.getElem_mem h); rw [ho] at this; cases this))
theorem bad_prev {id mn : Int} {l : List S83} {i : Nat} (h : i < l.length) (h0 : 0 < i) (hp : (l[i - 1]'(by omega)).f0 ≥ l[i].f0) : M.validAcc id mn l = false :=
  validAcc_bad (.inr (fun ha => by have := (List.pairwise_iff_getElem.1 ha (i - 1) i (by omega) h (by omega)).1; omega))
theorem bad_same {id mn : Int} {l : List S83} {i j : Nat} (h : i < l.length) (hj : j < i) (hp : (l[j]'(by omega)).f1 = l[i].f1) : M.validAcc id mn l = false :=
  validAcc_bad (.inr (fun ha => (List.pairwise_iff_getElem.1 ha j i (by omega) h hj).2 hp))
theorem okC_of {c : S83} (h1 : M.inr c.f0 0 1000000 = true) (h2 : ¬ M.priv c.f1 = 0) (h3 : M.inr c.f2 0 1000000 = true) : M.okC c = true := by
  have : M.validKey c.f1 = true := by rw [← Bool.not_eq_false]; exact fun h => h2 (priv_ne.2 h)
  simp [M.okC, h1, this, h3]
theorem okC_f0 {c : S83} (h1 : ¬ M.inr c.f0 0 1000000 = true) : M.okC c = false := by simp [M.okC, h1]
theorem okC_f1 {c : S83} (h1 : M.priv c.f1 = 0) : M.okC c = false := by simp [M.okC, priv_ne.1 h1]
theorem okC_f2 {c : S83} (h1 : M.inr c.f2 0 1000000 = false) : M.okC c = false := by simp [M.okC, h1]
/-! addcred -/
/-- The place at which a handle is put in. -/
def M.insAt (h : Int) : List S83 → Nat
  | [] => 0
  | c :: l => if c.f0 < h then M.insAt h l + 1 else 0
theorem insAt_le (h : Int) : ∀ l : List S83, M.insAt h l ≤ l.length
  | [] => Nat.le_refl _
  | c :: l => by have := insAt_le h l; unfold M.insAt; split <;> simp <;> omega
theorem insAt_drop (h : Int) (l : List S83) (i : Nat) (hi : i < l.length) : M.insAt h (l.drop i) = if l[i].f0 < h then M.insAt h (l.drop (i + 1)) + 1 else 0 := by
  rw [drop_get hi]; rfl
def M.insC (l : List S83) (h p : Int) : List S83 := l.take (M.insAt h l) ++ [⟨h, p, 0, false⟩] ++ l.drop (M.insAt h l)
theorem insC_len (l : List S83) (h p : Int) : (M.insC l h p).length = l.length + 1 := by
  have := insAt_le h l
  simp [M.insC]; omega
def M.addC (x y : Int) (l : List S83) (h p : Int) : Int × Int × List S83 × Bool :=
  if M.validAcc x y l = true ∧ M.validAcc x y (M.insC l h p) = true then (x, y, M.insC l h p, true) else (x, y, l, false)
theorem addC_len (x y : Int) (l : List S83) (h p : Int) (hl : l.length ≤ 1048576) : (M.addC x y l h p).2.2.1.length ≤ 1048576 := by
  unfold M.addC; split
  · rename_i hh; have := ((validAcc_iff _ _ _).1 hh.2).2.2.1; simp only; omega
  · exact hl
/-! impl_copyAccount -/
theorem impl_copyAccount.eq (x y : Int) (l : List S83) (hl : l.length ≤ 1048577) : impl_copyAccount.f x y l = some (x, y, l) := by
  unfold impl_copyAccount.f; simp only [bind_some_]; rw [if_pos (by simp; omega)]; rfl
/-! impl_InRange -/
theorem impl_InRange.eq (a b c : Int) : impl_InRange.f a b c = some (M.inr a b c) := by
  unfold impl_InRange.f M.inr
  by_cases h : b ≤ a
  · rw [if_pos h]; simp [h]
  · rw [if_neg h]
    simp [h]
/-! impl_IsValidKey -/
theorem impl_IsValidKey.eq (a : Int) : impl_IsValidKey.f a = some (M.validKey a) := by unfold impl_IsValidKey.f; rw [impl_InRange.eq]; rfl
/-! impl_power -/
theorem impl_power.ev : Ev (fun k => impl_power.f k 48271 2147483645 2147483647) M.inv := Ev.of (k := 40) (fun k => impl_power.mono _ _ _ k) (by decide +kernel)
/-! impl_PrivateKey -/
theorem impl_PrivateKey.ev (a : Int) : Ev (fun k => impl_PrivateKey.f k a) (M.priv a) := by
  unfold impl_PrivateKey.f
  refine Ev.bindc (impl_IsValidKey.eq ..) (Ev.ite (fun h => ?_) (fun h => ?_))
  · have h' := inr_true.1 h
    refine Ev.bind impl_power.ev ?_
    have e : Int.tmod (wrap64 (a * M.inv)) 2147483647 = M.priv a := by
      unfold M.priv M.inv; rw [if_pos (show M.validKey a = true from h), wrap_in (by omega) (by omega), Int.tmod_eq_emod_of_nonneg (by omega)]
    rw [e]; exact Ev.now _
  · exact Ev.eq (by unfold M.priv; rw [if_neg h])
/-! impl_IsValidAccount -/
theorem impl_IsValidAccount.ev (id mn : Int) (l : List S83) (hl : l.length ≤ 1048580) : Ev (fun k => impl_IsValidAccount.f k id mn l) (M.validAcc id mn l) := by
  unfold impl_IsValidAccount.f
  have no : M.validAcc id mn l = false → Ev (fun k => impl_IsValidAccount.j0 k true id mn l) (M.validAcc id mn l) := by
    intro h
    refine Ev.round ?_
    simp only [impl_IsValidAccount.j0]
    exact Ev.yes (by trivial) (Ev.eq h.symm)
  refine Ev.bindc (impl_InRange.eq ..) (Ev.ite (fun h3 => Ev.bindc (impl_InRange.eq ..) (Ev.ite (fun h4 => ?_) (fun h4 => no (by simp [M.validAcc, h4])))) (fun h3 => no (by simp [M.validAcc, h3])))
  rcases Nat.lt_or_ge 8 l.length with h5 | h5
  · rw [decide_eq_true (by omega : (l.length : Int) > 8)]
    exact no (by have : ¬ l.length ≤ 8 := (by omega); simp [M.validAcc, this])
  rw [decide_eq_false (by omega : ¬ (l.length : Int) > 8)]
  refine Ev.round ?_
  simp only [impl_IsValidAccount.j0]
  refine Ev.no (by simp) ?_
  refine Ev.loop (fun k i (_ : Unit) => impl_IsValidAccount.l0 k l l.length (i : Int) id mn l) l.length (fun _ _ => M.validAcc id mn l) (fun i _ => M.goodC l i) ?_ ?_ 0 () (by omega) (goodC_zero l)
  · rintro s hg
    obtain ⟨h1, h2⟩ := goodC_end l hg
    refine Ev.round ?_
    simp only [impl_IsValidAccount.l0]
    exact Ev.no (by omega) (Ev.eq (by simp [M.validAcc, h1, h2, h3, h4, h5]))
  · rintro i s hi hg ih
    have out : ∀ (b0 b1 b2 : Int) (b3 : Bool), M.validAcc id mn l = false → Ev (fun k => impl_IsValidAccount.j2 k (i : Int) l l.length (i : Int) true id mn l b0 b1 b2 b3) (M.validAcc id mn l) := by
      intro b0 b1 b2 b3 h
      refine Ev.round ?_
      simp only [impl_IsValidAccount.j2]
      exact Ev.yes (by trivial) (Ev.eq h.symm)
    have go : M.inr l[i].f0 0 1000000 = true → (∀ h0 : 0 < i, (l[i - 1]'(by omega)).f0 < l[i].f0) → Ev (fun k => (impl_PrivateKey.f k l[i].f1).bind fun t => if t = 0 then impl_IsValidAccount.j2 k (i : Int) l l.length (i : Int) true id mn l l[i].f0 l[i].f1 l[i].f2 l[i].f3 else (some (M.inr l[i].f2 0 1000000)).bind fun u => impl_IsValidAccount.j2 k (i : Int) l l.length (i : Int) (!u) id mn l l[i].f0 l[i].f1 l[i].f2 l[i].f3) (M.validAcc id mn l) := by
      intro h1 hp
      refine Ev.bind (impl_PrivateKey.ev _) (Ev.ite (fun h2 => out _ _ _ _ (bad_ok hi (okC_f1 h2))) (fun h2 => ?_))
      simp only [bind_some_]
      cases h3 : M.inr l[i].f2 0 1000000 with
      | false => exact out _ _ _ _ (bad_ok hi (okC_f2 h3))
      | true =>
        refine Ev.round ?_
        simp only [impl_IsValidAccount.j2, bind_some_, Int.toNat_natCast]
        refine Ev.no (by simp) (Ev.yes (by omega) (Ev.yes (by omega) ?_))
        have htl : (l.take i).length = i := by simp; omega
        simp only [htl]
        refine Ev.loop (fun k j (_ : Unit) => impl_IsValidAccount.l1 k l l.length (i : Int) (l.take i) (i : Int) (j : Int) id mn l l[i].f0 l[i].f1 l[i].f2 l[i].f3) i (fun _ _ => M.validAcc id mn l) (fun j _ => ∀ j' (hj : j' < i), j' < j → (l[j']'(by omega)).f1 ≠ l[i].f1) ?_ ?_ 0 () (by omega) (fun j' _ h => by omega)
        · intro _ hn
          refine Ev.round ?_
          simp only [impl_IsValidAccount.l1, wrap_succ hi (by omega : l.length ≤ _)]
          exact Ev.no (by omega) (ih () (goodC_succ l i hi hg (okC_of h1 h2 h3) hp (fun j hj => hn j hj hj)))
        · intro j _ hj hn ih2
          have hj2 : j < l.length := by omega
          have hj3 : j < (l.take i).length := by omega
          refine Ev.round ?_
          simp only [impl_IsValidAccount.l1, wrap_succ hj (by omega : i ≤ _), rd_Credential hj3, List.getElem_take, htl]
          refine Ev.yes (by omega) (Ev.yes (by omega) (Ev.yes (by omega) (Ev.ite (fun h => Ev.eq (bad_same hi hj h).symm) (fun h => ih2 () ?_))))
          intro j' hj' hlt
          by_cases e : j' = j
          · subst e; exact h
          · exact hn j' hj' (by omega)
    refine Ev.round ?_
    simp only [impl_IsValidAccount.l0, impl_InRange.eq, bind_some_, rd_Credential hi]
    refine Ev.yes (by omega) (Ev.yes (by omega) (Ev.yes (by omega) (Ev.ite (fun h1 => Ev.ite (fun h0 => ?_) (fun h0 => ?_)) (fun h1 => ?_))))
    · have hp : wrap64 ((i : Int) - 1) = ((i - 1 : Nat) : Int) := wrap_pred (by omega) (by omega)
      simp only [hp, rd_Credential (by omega : i - 1 < l.length)]
      refine Ev.yes (by omega) (Ev.yes (by omega) (Ev.ite (fun h2 => out _ _ _ _ (bad_prev hi (by omega) h2)) (fun h2 => ?_)))
      exact go h1 (fun _ => by omega)
    · exact go h1 (fun h => by omega)
    · exact out _ _ _ _ (bad_ok hi (okC_f0 h1))
/-! impl_AddCredential -/
theorem impl_AddCredential.ev (x y : Int) (l : List S83) (h p : Int) (hl : l.length ≤ 1048576) : Ev (fun k => impl_AddCredential.f k x y l h p) (M.addC x y l h p) := by
  unfold impl_AddCredential.f
  refine Ev.bind (impl_IsValidAccount.ev x y l (by omega)) (Ev.ite (fun h0 => ?_) (fun h0 => by
    rw [impl_copyAccount.eq _ _ _ (by omega)]; exact Ev.eq (by unfold M.addC; rw [if_neg (fun hh => h0 hh.1)])))
  have fin : Ev (fun k => impl_AddCredential.j1 k h p ((M.insAt h l : Nat) : Int) x y l) (M.addC x y l h p) := by
    have hb := insAt_le h l
    have hil := insC_len l h p
    refine Ev.round ?_
    simp only [impl_AddCredential.j1, impl_copyAccount.eq x y l (by omega), bind_some_, Int.toNat_natCast]
    refine Ev.yes (by omega) (Ev.yes (by omega) (Ev.yes (by simp; omega) (Ev.yes (by simp; omega) (Ev.yes (by simp; omega) ?_))))
    refine Ev.bind (Ev.conv (impl_IsValidAccount.ev x y (M.insC l h p) (by omega)) rfl) (Ev.ite (fun h2 => Ev.eq ?_) (fun h2 => Ev.eq ?_))
    · unfold M.addC; rw [if_pos ⟨h0, h2⟩]; rfl
    · unfold M.addC; rw [if_neg (fun hh => h2 hh.2)]
  refine Ev.loop (fun k i (_ : Unit) => impl_AddCredential.l0 k h p (i : Int) x y l) l.length (fun _ _ => M.addC x y l h p) (fun i _ => M.insAt h l = i + M.insAt h (l.drop i)) ?_ ?_ 0 () (by omega) (by simp)
  · rintro s hi
    refine Ev.round ?_
    simp only [impl_AddCredential.l0]
    rw [drop_end] at hi
    refine Ev.no (by omega) ?_
    have : l.length = M.insAt h l := by rw [hi]; rfl
    rw [this]; exact fin
  · rintro i s hi hinv ih
    rw [insAt_drop h l i hi] at hinv
    refine Ev.round ?_
    simp only [impl_AddCredential.l0, rd_Credential hi, wrap_succ hi (by omega : l.length ≤ _)]
    refine Ev.yes (by omega) (Ev.yes (by omega) (Ev.ite (fun h1 => ?_) (fun h1 => ?_)))
    · rw [if_pos h1] at hinv; exact ih () (by omega)
    · rw [if_neg h1] at hinv
      have : i = M.insAt h l := by omega
      rw [this]; exact fin
/-! laws_eqCredentialS -/
theorem laws_eqCredentialS.refl (l : List S83) (hl : l.length ≤ 1048576) : Ev (fun k => laws_eqCredentialS.f k l l) true := by
  unfold laws_eqCredentialS.f
  refine Ev.yes rfl ?_
  refine Ev.loop (fun k i (_ : Unit) => laws_eqCredentialS.l0 k l l (i : Int)) l.length (fun _ _ => true) (fun _ _ => True) ?_ ?_ 0 () (by omega) trivial
  · rintro s _
    refine Ev.round ?_
    simp only [laws_eqCredentialS.l0]
    exact Ev.no (by omega) (Ev.now _)
  · rintro i s hi _ ih
    refine Ev.round ?_
    simp only [laws_eqCredentialS.l0, wrap_succ hi (by omega : l.length ≤ _), laws_eqCredential.f, if_true, bind_some_, bne_self_eq_false, Bool.false_eq_true, if_false]
    exact Ev.yes (by omega) (Ev.yes (by omega) (Ev.yes (by omega) (ih () trivial)))
/-! laws_eqAccount -/
theorem laws_eqAccount.refl (x y : Int) (l : List S83) (hl : l.length ≤ 1048576) : Ev (fun k => laws_eqAccount.f k x y l x y l) true := by
  unfold laws_eqAccount.f; exact Ev.yes rfl (Ev.yes rfl (Ev.bind (laws_eqCredentialS.refl l hl) (Ev.yes rfl (Ev.now _))))
/-! mark-Credential -/
def M.markCredential (x : Int) : S83 := ⟨x, x + 1, x + 1 + 1, (Int.tmod (x + 1 + 1 + 1) 3 == 0)⟩
def M.markedCredential (m : Nat) (n : Int) : List S83 := (List.range m).map fun (i : Nat) => M.markCredential (n + 4 * (i : Int))
theorem markedCredential_len (m : Nat) (n : Int) : (M.markedCredential m n).length = m := by simp [M.markedCredential]
theorem markedCredential_get {m i : Nat} (n : Int) (h : i < (M.markedCredential m n).length) : (M.markedCredential m n)[i] = M.markCredential (n + 4 * (i : Int)) := by simp [M.markedCredential]
theorem markedCredential_succ (m : Nat) (n : Int) : M.markedCredential (m + 1) n = M.markedCredential m n ++ [M.markCredential (n + 4 * (m : Int))] := by simp [M.markedCredential, List.range_succ]
/-! laws_heldCredentialS -/
theorem laws_heldCredentialS.ev (m : Nat) (n : Int) (hl : m ≤ 1048576) (hn : 0 ≤ n) (hn2 : n ≤ 1000000000) : Ev (fun k => laws_heldCredentialS.f k (M.markedCredential m n) n) (n + 4 * (m : Int)) := by
  unfold laws_heldCredentialS.f
  refine Ev.loop (fun k i x => laws_heldCredentialS.l0 k (M.markedCredential m n) x (i : Int)) m (fun _ _ => n + 4 * (m : Int)) (fun i x => x = n + 4 * (i : Int)) ?_ ?_ 0 n (by omega) (by simp)
  · rintro x rfl
    refine Ev.round ?_
    simp only [laws_heldCredentialS.l0, markedCredential_len]
    exact Ev.no (by omega) (Ev.now _)
  · rintro i x hi hx ih
    have w0 : wrap64 (x + 1) = x + 1 := wrap_in (by omega) (by omega)
    have w1 : wrap64 (x + 1 + 1) = x + 1 + 1 := wrap_in (by omega) (by omega)
    have w2 : wrap64 (x + 1 + 1 + 1) = x + 1 + 1 + 1 := wrap_in (by omega) (by omega)
    have w3 : wrap64 (x + 1 + 1 + 1 + 1) = x + 1 + 1 + 1 + 1 := wrap_in (by omega) (by omega)
    have e : rd_T83 (M.markedCredential m n) (i : Int) = M.markCredential x := by rw [rd_Credential (by rw [markedCredential_len]; exact hi), markedCredential_get, ← hx]
    refine Ev.round ?_
    simp only [laws_heldCredentialS.l0, markedCredential_len, wrap_succ hi (by omega : m ≤ _), e, M.markCredential, w0, w1, w2, w3, if_true, bne_self_eq_false, Bool.false_eq_true, if_false]
    exact Ev.yes (by omega) (Ev.yes (by omega) (ih _ (by omega)))
/-! laws_heldAccount -/
theorem laws_heldAccount.ev (x y : Int) (m : Nat) (n : Int) (hl : m ≤ 1048576) (hn : 0 ≤ n) (hn2 : n ≤ 1000000000) : Ev (fun k => laws_heldAccount.f k x y (M.markedCredential m n) n) (n + 4 * (m : Int)) := by
  unfold laws_heldAccount.f; exact Ev.bind (laws_heldCredentialS.ev m n hl hn hn2) (Ev.no (by omega) (Ev.now _))
/-! laws_markCredentialS -/
theorem laws_markCredentialS.ev (l : List S83) (n : Int) (hl : l.length ≤ 1048576) (hn : 0 ≤ n) (hn2 : n ≤ 1000000000) : Ev (fun k => laws_markCredentialS.f k l n) (n + 4 * (l.length : Int), M.markedCredential l.length n) := by
  unfold laws_markCredentialS.f
  refine Ev.loop (fun k i (s : List S83 × Int) => laws_markCredentialS.l0 k s.1 s.2 (i : Int)) l.length (fun _ _ => (n + 4 * (l.length : Int), M.markedCredential l.length n)) (fun i s => s.1 = M.markedCredential i n ++ l.drop i ∧ s.2 = n + 4 * (i : Int)) ?_ ?_ 0 (l, n) (by omega) (by simp [M.markedCredential])
  · rintro ⟨s, x⟩ ⟨rfl, rfl⟩
    refine Ev.round ?_
    simp only [laws_markCredentialS.l0]
    refine Ev.no (by simp [markedCredential_len]) (Ev.eq (by simp))
  · rintro i ⟨s, x⟩ hi ⟨hs, hx⟩ ih
    simp only at hs hx ih
    have hsl : s.length = l.length := by rw [hs]; simp [markedCredential_len]; omega
    have rdset : ∀ v : S83, rd_T83 (s.set i v) (i : Int) = v := fun v => by rw [rd_Credential (by simp; omega)]; simp
    have w0 : wrap64 (x + 1) = x + 1 := wrap_in (by omega) (by omega)
    have w1 : wrap64 (x + 1 + 1) = x + 1 + 1 := wrap_in (by omega) (by omega)
    have w2 : wrap64 (x + 1 + 1 + 1) = x + 1 + 1 + 1 := wrap_in (by omega) (by omega)
    have w3 : wrap64 (x + 1 + 1 + 1 + 1) = x + 1 + 1 + 1 + 1 := wrap_in (by omega) (by omega)
    refine Ev.round ?_
    simp only [laws_markCredentialS.l0, wrap_succ hi (by omega : l.length ≤ _), Int.toNat_natCast, bind_some_, rdset, List.set_set, w0, w1, w2, w3]
    refine Ev.yes (by omega) (Ev.yes (by omega) (ih (_, _) ⟨?_, by simp only; omega⟩))
    rw [markedCredential_succ, ← hx, hs, List.set_append_right _ _ (by simp [markedCredential_len]), markedCredential_len, drop_get hi, Nat.sub_self, List.set_cons_zero, List.append_assoc]
    rfl
/-! laws_markAccount -/
theorem laws_markAccount.ev (x y : Int) (l : List S83) (n : Int) (hl : l.length ≤ 1048576) (hn : 0 ≤ n) (hn2 : n ≤ 1000000000) : Ev (fun k => laws_markAccount.f k x y l n) (n + 4 * (l.length : Int), M.markedCredential l.length n) := by
  unfold laws_markAccount.f; exact Ev.bind (laws_markCredentialS.ev l n hl hn hn2) (Ev.now _)
/-! sz -/
def M.sz (n : Nat) (a : Int) : Int := if a - n < 0 then -1 else a - n
theorem sz_eq (n : Nat) (a : Int) (ha : 0 ≤ a) (ha2 : a ≤ 1048576) (hn : n ≤ 9223372036854775807) : (if (wrap64 (a - (n : Int))) < 0 then (some (-1)) else (some (wrap64 (a - (n : Int)))) : Option Int) = some (M.sz n a) := by
  rw [wrap_in (by omega) (by omega)]; unfold M.sz; split <;> rfl
theorem sz_over {n : Nat} {a : Int} (h : a < n) : M.sz n a = -1 := by unfold M.sz; rw [if_pos (by omega)]
theorem sz_fits {n : Nat} {a : Int} (h : (n : Int) ≤ a) : M.sz n a = a - n := by unfold M.sz; rw [if_neg (by omega)]
theorem sz_wrap (n : Nat) (a : Int) : (if M.sz n a < 0 then (some (-1)) else (some (M.sz n a)) : Option Int) = some (M.sz n a) := by
  unfold M.sz; split <;> simp_all
theorem sz_add (n m : Nat) (a : Int) : (if M.sz n a < 0 then -1 else M.sz m (M.sz n a)) = M.sz (n + m) a := by
  unfold M.sz; split <;> split <;> simp_all <;> omega
theorem sz_sub (m n : Nat) (x : Int) : M.sz m (x - n) = M.sz (n + m) x := by
  unfold M.sz; rw [show x - n - m = x - ((n + m : Nat) : Int) by omega]
/-- A law's own look at the size of an argument. -/
theorem Ev.size {n : Nat} {a : Int} {f : Nat → Option Bool} (h : (n : Int) ≤ a → Ev f true) : Ev (fun k => if M.sz n a < 0 then some true else f k) true := by
  by_cases hn : (n : Int) ≤ a
  · exact Ev.no (by rw [sz_fits hn]; omega) (h hn)
  · exact Ev.yes (by rw [sz_over (by omega)]; omega) (Ev.now _)
/-! laws_szCredentialS -/
theorem laws_szCredentialS.eq (l : List S106) (a : Int) (ha : 0 ≤ a) (ha2 : a ≤ 1048576) (hl : l.length ≤ 9223372036854775807) : laws_szCredentialS.f l a = some (M.sz l.length a) := by
  unfold laws_szCredentialS.f; exact sz_eq _ _ ha ha2 hl
/-! laws_szAccount -/
theorem laws_szAccount.eq (x y : Int) (l : List S106) (a : Int) (ha : 0 ≤ a) (ha2 : a ≤ 1048576) (hl : l.length ≤ 9223372036854775807) : laws_szAccount.f x y l a = some (M.sz l.length a) := by
  unfold laws_szAccount.f; rw [laws_szCredentialS.eq l a ha ha2 hl]; exact sz_wrap _ _
/-! rd-lCredential -/
theorem rd_lCredential {l : List S106} {i : Nat} (h : i < l.length) : rd_T106 l (i : Int) = l[i] := by unfold rd_T106; exact getD_lt h _
/-! laws_toCredentialS -/
def M.toCredential (e : S106) : S83 := ⟨e.f0, e.f1, e.f2, e.f3⟩
theorem laws_toCredentialS.ev (l : List S106) (hl : l.length ≤ 1048576) : Ev (fun k => laws_toCredentialS.f k l) (l.map M.toCredential) := by
  unfold laws_toCredentialS.f
  refine Ev.yes (by omega) (Ev.yes (by omega) ?_)
  refine Ev.loop (fun k i x => laws_toCredentialS.l0 k l x (i : Int)) l.length (fun _ _ => l.map M.toCredential) (fun i x => x = (l.take i).map M.toCredential ++ List.replicate (l.length - i) z83) ?_ ?_ 0 _ (by omega) (by simp)
  · rintro s rfl
    refine Ev.round ?_
    simp only [laws_toCredentialS.l0]
    exact Ev.no (by omega) (Ev.eq (fill_end _ _ _))
  · rintro i s hi rfl ih
    refine Ev.round ?_
    simp only [laws_toCredentialS.l0, rd_lCredential hi, laws_toCredential.f, bind_some_, wrap_succ hi (by omega : l.length ≤ _), Int.toNat_natCast]
    refine Ev.yes (by omega) (Ev.yes (by omega) (Ev.yes (by rw [fill_len _ _ _ (by omega)]; omega) ?_))
    exact ih _ (take_fill M.toCredential l z83 hi)
/-! laws_toAccount -/
theorem laws_toAccount.ev (x y : Int) (l : List S106) (hl : l.length ≤ 1048576) : Ev (fun k => laws_toAccount.f k x y l) (x, y, l.map M.toCredential) := by
  unfold laws_toAccount.f; exact Ev.bind (laws_toCredentialS.ev l hl) (Ev.now _)
/-! spec_l14Copy -/
theorem spec_l14Copy.eq (x y : Int) (l : List S83) (hl : l.length ≤ 1048577) : spec_l14Copy.f x y l = some (x, y, l) := by
  unfold spec_l14Copy.f; simp only [bind_some_]; rw [if_pos (by simp; omega)]; rfl
/-! spec_l1In -/
theorem spec_l1In.eq (a b c : Int) : spec_l1In.f a b c = some (M.inr a b c) := by
  unfold spec_l1In.f M.inr
  by_cases h : a ≥ b
  · rw [if_pos h]; simp [h]
  · rw [if_neg h]; have : ¬ b ≤ a := by omega
    simp [this]
/-! spec_l6Power -/
theorem spec_l6Power.ev : Ev (fun k => spec_l6Power.f k 48271 2147483645) M.inv := Ev.of (k := 40) (fun k => spec_l6Power.mono _ _ k) (by decide +kernel)
/-! spec_IsValidKey -/
theorem spec_IsValidKey.eq (a : Int) : spec_IsValidKey.f a = some (M.validKey a) := by unfold spec_IsValidKey.f; rw [spec_l1In.eq]; rfl
/-! spec_PublicKey -/
theorem spec_PublicKey.eq (a : Int) : spec_PublicKey.f a = some (M.pub a) := by
  unfold spec_PublicKey.f M.pub; rw [spec_IsValidKey.eq, bind_some_]
  by_cases h : M.validKey a = true
  · have := inr_true.1 h
    rw [if_pos h, if_pos h, wrap_in (by omega) (by omega), Int.tmod_eq_emod_of_nonneg (by omega)]
  · rw [if_neg h, if_neg h]
/-! spec_PrivateKey -/
theorem spec_PrivateKey.ev (a : Int) : Ev (fun k => spec_PrivateKey.f k a) (M.priv a) := by
  unfold spec_PrivateKey.f
  refine Ev.bindc (spec_l1In.eq ..) (Ev.ite (fun h => ?_) (fun h => ?_))
  · have h' := inr_true.1 h
    refine Ev.bind spec_l6Power.ev ?_
    have e : Int.tmod (wrap64 (a * M.inv)) 2147483647 = M.priv a := by
      unfold M.priv M.inv; rw [if_pos (show M.validKey a = true from h), wrap_in (by omega) (by omega), Int.tmod_eq_emod_of_nonneg (by omega)]
    simp only [e, spec_PublicKey.eq, bind_some_]
    exact Ev.yes (priv_valid h).2 (Ev.now _)
  · exact Ev.eq (by unfold M.priv; rw [if_neg (show ¬ M.validKey a = true from h)])
/-! spec_IsValidAccount -/
theorem spec_IsValidAccount.ev (id mn : Int) (l : List S83) (hl : l.length ≤ 1048580) : Ev (fun k => spec_IsValidAccount.f k id mn l) (M.validAcc id mn l) := by
  unfold spec_IsValidAccount.f
  refine Ev.loop (fun k i (_ : Unit) => spec_IsValidAccount.l0 k (i : Int) id mn l) l.length (fun _ _ => M.validAcc id mn l) (fun i _ => M.goodC l i) ?_ ?_ 0 () (by omega) (goodC_zero l)
  · rintro s hg
    obtain ⟨h1, h2⟩ := goodC_end l hg
    refine Ev.round ?_
    simp only [spec_IsValidAccount.l0, spec_l1In.eq, bind_some_]
    refine Ev.no (by omega) (Ev.ite (fun h3 => Ev.ite (fun h4 => Ev.eq ?_) (fun h4 => Ev.eq ?_)) (fun h3 => Ev.eq ?_))
    · have e : decide ((l.length : Int) ≤ 8) = decide (l.length ≤ 8) := by simp only [decide_eq_decide]; omega
      rw [e]; simp [M.validAcc, h1, h2, h3, h4]
    · simp [M.validAcc, h4]
    · simp [M.validAcc, h3]
  · rintro i s hi hg ih
    -- a credential that is to be refused
    have out : ∀ (b0 b1 b2 : Int) (b3 : Bool), M.validAcc id mn l = false → Ev (fun k => spec_IsValidAccount.j1 k (i : Int) true id mn l b0 b1 b2 b3) (M.validAcc id mn l) := by
      intro b0 b1 b2 b3 h
      refine Ev.round ?_
      simp only [spec_IsValidAccount.j1]
      exact Ev.yes (by trivial) (Ev.eq h.symm)
    -- a credential that is in range and behind the one before it
    have go : M.inr l[i].f0 0 1000000 = true → (∀ h0 : 0 < i, (l[i - 1]'(by omega)).f0 < l[i].f0) → Ev (fun k => (spec_PrivateKey.f k l[i].f1).bind fun t => if t = 0 then spec_IsValidAccount.j1 k (i : Int) true id mn l l[i].f0 l[i].f1 l[i].f2 l[i].f3 else (some (M.inr l[i].f2 0 1000000)).bind fun u => spec_IsValidAccount.j1 k (i : Int) (!u) id mn l l[i].f0 l[i].f1 l[i].f2 l[i].f3) (M.validAcc id mn l) := by
      intro h1 hp
      refine Ev.bind (spec_PrivateKey.ev _) (Ev.ite (fun h2 => out _ _ _ _ (bad_ok hi (okC_f1 h2))) (fun h2 => ?_))
      simp only [bind_some_]
      cases h3 : M.inr l[i].f2 0 1000000 with
      | false => exact out _ _ _ _ (bad_ok hi (okC_f2 h3))
      | true =>
        refine Ev.round ?_
        simp only [spec_IsValidAccount.j1]
        refine Ev.no (by simp) ?_
        refine Ev.loop (fun k j (_ : Unit) => spec_IsValidAccount.l1 k (i : Int) (j : Int) id mn l l[i].f0 l[i].f1 l[i].f2 l[i].f3) i (fun _ _ => M.validAcc id mn l) (fun j _ => ∀ j' (hj : j' < i), j' < j → (l[j']'(by omega)).f1 ≠ l[i].f1) ?_ ?_ 0 () (by omega) (fun j' _ h => by omega)
        · intro _ hn
          refine Ev.round ?_
          simp only [spec_IsValidAccount.l1, wrap_succ hi (by omega : l.length ≤ _)]
          exact Ev.no (by omega) (ih () (goodC_succ l i hi hg (okC_of h1 h2 h3) hp (fun j hj => hn j hj hj)))
        · intro j _ hj hn ih2
          have hj2 : j < l.length := by omega
          refine Ev.round ?_
          simp only [spec_IsValidAccount.l1, wrap_succ hj (by omega : i ≤ _), rd_Credential hj2]
          refine Ev.yes (by omega) (Ev.yes (by omega) (Ev.yes (by omega) (Ev.ite (fun h => Ev.eq (bad_same hi hj h).symm) (fun h => ih2 () ?_))))
          intro j' hj' hlt
          by_cases e : j' = j
          · subst e; exact h
          · exact hn j' hj' (by omega)
    refine Ev.round ?_
    simp only [spec_IsValidAccount.l0, spec_l1In.eq, bind_some_, rd_Credential hi]
    refine Ev.yes (by omega) (Ev.yes (by omega) (Ev.ite (fun h1 => Ev.ite (fun h0 => ?_) (fun h0 => ?_)) (fun h1 => ?_)))
    · have hp : wrap64 ((i : Int) - 1) = ((i - 1 : Nat) : Int) := wrap_pred (by omega) (by omega)
      simp only [hp, rd_Credential (by omega : i - 1 < l.length)]
      refine Ev.yes (by omega) (Ev.yes (by omega) (Ev.ite (fun h2 => out _ _ _ _ (bad_prev hi (by omega) h2)) (fun h2 => ?_)))
      exact go h1 (fun _ => by omega)
    · exact go h1 (fun h => by omega)
    · exact out _ _ _ _ (bad_ok hi (okC_f0 h1))
/-! spec_AddCredential -/
theorem spec_AddCredential.ev (x y : Int) (l : List S83) (h p : Int) (hl : l.length ≤ 1048576) : Ev (fun k => spec_AddCredential.f k x y l h p) (M.addC x y l h p) := by
  unfold spec_AddCredential.f
  refine Ev.bindc (spec_l14Copy.eq _ _ _ (by omega)) ?_
  have fin : Ev (fun k => spec_AddCredential.j1 k h p ((M.insAt h l : Nat) : Int) x y l x y l) (M.addC x y l h p) := by
    have hb := insAt_le h l
    have hil := insC_len l h p
    refine Ev.round ?_
    simp only [spec_AddCredential.j1, bind_some_, Int.toNat_natCast]
    refine Ev.yes (by omega) (Ev.yes (by omega) (Ev.yes (by simp; omega) (Ev.yes (by simp; omega) (Ev.yes (by simp; omega) ?_))))
    refine Ev.bind (spec_IsValidAccount.ev x y l (by omega)) (Ev.ite (fun h1 => Ev.bind (Ev.conv (spec_IsValidAccount.ev x y (M.insC l h p) (by omega)) rfl) (Ev.ite (fun h2 => Ev.eq ?_) (fun h2 => ?_))) (fun h1 => ?_))
    · unfold M.addC; rw [if_pos ⟨h1, h2⟩]; rfl
    · rw [spec_l14Copy.eq _ _ _ (by omega)]; exact Ev.eq (by unfold M.addC; rw [if_neg (fun hh => h2 hh.2)])
    · rw [spec_l14Copy.eq _ _ _ (by omega)]; exact Ev.eq (by unfold M.addC; rw [if_neg (fun hh => h1 hh.1)])
  refine Ev.loop (fun k i (_ : Unit) => spec_AddCredential.l0 k h p (i : Int) x y l x y l) l.length (fun _ _ => M.addC x y l h p) (fun i _ => M.insAt h l = i + M.insAt h (l.drop i)) ?_ ?_ 0 () (by omega) (by simp)
  · rintro s hi
    refine Ev.round ?_
    simp only [spec_AddCredential.l0]
    rw [drop_end] at hi
    refine Ev.no (by omega) ?_
    have : l.length = M.insAt h l := by rw [hi]; rfl
    rw [this]; exact fin
  · rintro i s hi hinv ih
    rw [insAt_drop h l i hi] at hinv
    refine Ev.round ?_
    simp only [spec_AddCredential.l0, rd_Credential hi, wrap_succ hi (by omega : l.length ≤ _)]
    refine Ev.yes (by omega) (Ev.yes (by omega) (Ev.ite (fun h1 => ?_) (fun h1 => ?_)))
    · rw [if_pos h1] at hinv; exact ih () (by omega)
    · rw [if_neg h1] at hinv
      have : i = M.insAt h l := by omega
      rw [this]; exact fin

/-! the law -/
theorem FnExactAddCredential : ∀ (a0_0 : Int) (a0_1 : Int) (l0_2 : List (S106)) (a1 : Int) (a2 : Int), l0_2.length ≤ 9223372036854775807 → ∃ k, laws_FnExactAddCredential.f k a0_0 a0_1 l0_2 a1 a2 = some true := by
  intro id mn l h p h0
  apply Ev.rounds (r := true)
  unfold laws_FnExactAddCredential.f
  refine Ev.bindc (laws_szAccount.eq _ _ _ _ (by decide) (by decide) h0) (Ev.size fun g0 => ?_)
  have b0 : l.length ≤ 1048576 := by omega
  have c0 : (l.map M.toCredential).length ≤ 1048576 := by simpa using b0
  have t0 := laws_toAccount.ev id mn l b0
  have hs := spec_AddCredential.ev id mn (l.map M.toCredential) h p c0
  have hi := impl_AddCredential.ev id mn (l.map M.toCredential) h p c0
  obtain ⟨⟨rx, ry, rl, rb⟩, hr⟩ : ∃ r, M.addC id mn (l.map M.toCredential) h p = r := ⟨_, rfl⟩
  have hl : rl.length ≤ 1048576 := by have := addC_len id mn (l.map M.toCredential) h p c0; rw [hr] at this; exact this
  rw [hr] at hs hi
  clear hr
  refine Ev.bind t0 (Ev.bind hs (Ev.bind t0 (Ev.bind hi (Ev.bind (laws_eqAccount.refl _ _ _ hl) (Ev.yes rfl ?_)))))
  refine Ev.round ?_
  simp only [laws_FnExactAddCredential.j0]
  refine Ev.no (by simp) (Ev.bind t0 (Ev.bind (laws_eqAccount.refl _ _ _ c0) (Ev.yes rfl (Ev.bind (laws_markAccount.ev _ _ _ 1 c0 (by omega) (by omega)) (Ev.no (by first | omega | (simp only; omega)) (Ev.bind (laws_eqAccount.refl _ _ _ hl) (Ev.yes rfl ?_)))))))
  refine Ev.round ?_
  simp only [laws_FnExactAddCredential.j1]
  refine Ev.no (by simp) (Ev.bind (laws_markAccount.ev _ _ _ 1 hl (by omega) (by omega)) (Ev.bind (laws_heldAccount.ev _ _ _ 1 hl (by omega) (by omega)) (Ev.no (by first | omega | (simp only; omega)) (Ev.yes rfl (Ev.bind t0 (Ev.bind hi (Ev.bind (laws_eqAccount.refl _ _ _ hl) (Ev.yes rfl ?_))))))))
  refine Ev.round ?_
  simp only [laws_FnExactAddCredential.j2]
  exact Ev.no (by simp) (Ev.bind (laws_heldAccount.ev _ _ _ 1 hl (by omega) (by omega)) (Ev.no (by first | omega | (simp only; omega)) (Ev.yes rfl (Ev.now _))))
end Go.Proofs.Ytoffbjjkegeccaa.Pure
