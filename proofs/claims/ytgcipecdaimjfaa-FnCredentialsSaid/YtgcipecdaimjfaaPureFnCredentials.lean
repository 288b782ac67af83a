/- An added credential is found, and neither its handle nor its key can be added again. -/
import Derived.Test.YtgcipecdaimjfaaOpFnCredentials
import Derived.Test.YtgcipecdaimjfaaTFnCredentials
namespace Go.Proofs.Ytgcipecdaimjfaa.Pure
open Go.RowKit Go.Proofs.Ytgcipecdaimjfaa.PFnCredentials Go.Proofs.YtgcipecdaimjfaaW.PrintWords Go.Proofs.YtgcipecdaimjfaaW.PrintLast
set_option linter.unusedVariables false
set_option linter.unusedSimpArgs false

/-! base -/
theorem wrap_in {n : Int} (h1 : -9223372036854775808 ≤ n) (h2 : n ≤ 9223372036854775807) : wrap64 n = n := by unfold wrap64; omega
theorem wrap_succ {i n : Nat} (h : i < n) (hn : n ≤ 1152921504606846976) : wrap64 ((i : Int) + 1) = ((i + 1 : Nat) : Int) := by unfold wrap64; omega
theorem wrap_pred {i : Nat} (h : 0 < i) (hn : i ≤ 1152921504606846976) : wrap64 ((i : Int) - 1) = ((i - 1 : Nat) : Int) := by unfold wrap64; omega
theorem Ev.eq {α : Type} {r s : α} (h : r = s) : Ev (fun _ => some r) s := h ▸ Ev.now r
theorem Ev.opt {α : Type} {o : Option α} {r : α} (h : o = some r) : Ev (fun _ => o) r := h ▸ Ev.now r
theorem Ev.yes {α : Type} {c : Prop} [Decidable c] {g f : Nat → Option α} {r : α} (h : c) (k : Ev g r) : Ev (fun n => if c then g n else f n) r := by simpa [h] using k
theorem Ev.no {α : Type} {c : Prop} [Decidable c] {g f : Nat → Option α} {r : α} (h : ¬ c) (k : Ev f r) : Ev (fun n => if c then g n else f n) r := by simpa [h] using k
theorem Ev.ite {α : Type} {c : Prop} [Decidable c] {g f : Nat → Option α} {r : α} (h : c → Ev g r) (k : ¬ c → Ev f r) : Ev (fun n => if c then g n else f n) r := by
  by_cases hc : c
  · exact Ev.yes hc (h hc)
  · exact Ev.no hc (k hc)
theorem Ev.bindc {α β : Type} {o : Option α} {a : α} {f : Nat → α → Option β} {r : β} (h : o = some a) (k : Ev (fun n => f n a) r) : Ev (fun n => o.bind (f n)) r := by subst h; exact k
theorem Ev.round {α : Type} {g : Nat → Option α} {r : α} (h : Ev (fun k => g (k + 1)) r) : Ev g r := Ev.step (fun _ => rfl) h
theorem Ev.conv {α : Type} {g : Nat → Option α} {r s : α} (k : Ev g r) (h : r = s) : Ev g s := h ▸ k
theorem bind_some_ {α β : Type} (a : α) (f : α → Option β) : (some a).bind f = f a := rfl
/-- A loop that counts: from each place on, the answer is what 'val' says. -/
theorem Ev.loop {σ β : Type} (g : Nat → Nat → σ → Option β) (n : Nat) (val : Nat → σ → β) (Inv : Nat → σ → Prop)
    (done : ∀ s, Inv n s → Ev (fun k => g k n s) (val n s))
    (step : ∀ i s, i < n → Inv i s → (∀ s', Inv (i + 1) s' → Ev (fun k => g k (i + 1) s') (val (i + 1) s')) → Ev (fun k => g k i s) (val i s)) :
    ∀ i s, i ≤ n → Inv i s → Ev (fun k => g k i s) (val i s) := by
  have : ∀ d i s, i + d = n → Inv i s → Ev (fun k => g k i s) (val i s) := by
    intro d
    induction d with
    | zero =>
      intro i s hi hs
      obtain rfl : i = n := by omega
      exact done s hs
    | succ d ih => intro i s hi hs; exact step i s (by omega) hs (fun s' hs' => ih (i + 1) s' (by omega) hs')
  intro i s hi hs
  exact this (n - i) i s (by omega) hs
theorem getD_lt {α : Type} {l : List α} {i : Nat} (h : i < l.length) (d : α) : l.getD i d = l[i] := by simp [List.getD_eq_getElem?_getD, h]
theorem rd_get {l : List Int} {i : Nat} (h : i < l.length) : rd l (i : Int) = l[i] := by unfold rd; exact getD_lt h _
theorem take_fill {α β : Type} (f : α → β) (l : List α) (z : β) {i : Nat} (h : i < l.length) :
    ((l.take i).map f ++ List.replicate (l.length - i) z).set i (f l[i]) = (l.take (i + 1)).map f ++ List.replicate (l.length - (i + 1)) z := by
  have e : l.length - i = (l.length - (i + 1)) + 1 := by omega
  rw [e, List.replicate_succ, List.set_append_right _ _ (by simp; omega)]
  have : i - (List.map f (List.take i l)).length = 0 := by simp; omega
  rw [this, List.set_cons_zero, List.take_succ_eq_append_getElem h, List.map_append]
  simp
theorem fill_len {α β : Type} (f : α → β) (l : List α) (z : β) {i : Nat} (h : i ≤ l.length) : ((l.take i).map f ++ List.replicate (l.length - i) z).length = l.length := by simp; omega
theorem fill_end {α β : Type} (f : α → β) (l : List α) (z : β) : (l.take l.length).map f ++ List.replicate (l.length - l.length) z = l.map f := by simp
theorem drop_get {α : Type} {l : List α} {i : Nat} (h : i < l.length) : l.drop i = l[i] :: l.drop (i + 1) := List.drop_eq_getElem_cons h
theorem drop_end {α : Type} (l : List α) : l.drop l.length = [] := List.drop_eq_nil_of_le (Nat.le_refl _)
/-! inrange -/
def M.inr (a b c : Int) : Bool := decide (b ≤ a ∧ a ≤ c)
theorem inr_true {a b c : Int} : M.inr a b c = true ↔ b ≤ a ∧ a ≤ c := by simp [M.inr]
/-! validkey -/
def M.validKey (a : Int) : Bool := M.inr a 1 2147483646
def M.pub (a : Int) : Int := if M.validKey a = true then a * 48271 % 2147483647 else 0
def M.inv : Int := 1899818559
def M.priv (a : Int) : Int := if M.validKey a = true then a * M.inv % 2147483647 else 0
theorem priv_valid {a : Int} (h : M.validKey a = true) : M.validKey (M.priv a) = true ∧ M.pub (M.priv a) = a := by
  have h' := inr_true.1 h
  have e : M.priv a = a * 1899818559 % 2147483647 := by unfold M.priv M.inv; rw [if_pos h]
  have h2 : (a * 1899818559 % 2147483647) * 48271 % 2147483647 = a := by omega
  have h3 : M.validKey (M.priv a) = true := by rw [e]; exact inr_true.2 (by omega)
  refine ⟨h3, ?_⟩
  unfold M.pub; rw [if_pos h3, e]; exact h2
theorem pub_valid {a : Int} (h : M.validKey a = true) : M.validKey (M.pub a) = true ∧ M.priv (M.pub a) = a := by
  have h' := inr_true.1 h
  have e : M.pub a = a * 48271 % 2147483647 := by unfold M.pub; rw [if_pos h]
  have h2 : (a * 48271 % 2147483647) * 1899818559 % 2147483647 = a := by omega
  have h3 : M.validKey (M.pub a) = true := by rw [e]; exact inr_true.2 (by omega)
  refine ⟨h3, ?_⟩
  unfold M.priv M.inv; rw [if_pos h3, e]; exact h2
theorem priv_ne {a : Int} : M.priv a = 0 ↔ M.validKey a = false := by
  cases h : M.validKey a with
  | true =>
    have := inr_true.1 (priv_valid h).1
    constructor
    · intro h0; omega
    · intro h0; cases h0
  | false => simp [M.priv, h]
/-! rd-Credential -/
theorem rd_Credential {l : List S35} {i : Nat} (h : i < l.length) : rd_T35 l (i : Int) = l[i] := by unfold rd_T35; exact getD_lt h _
/-! validacc -/
def M.okC (c : S35) : Bool := M.inr c.f0 0 1000000 && (M.validKey c.f1 && M.inr c.f2 0 1000000)
def M.relC (a b : S35) : Prop := a.f0 < b.f0 ∧ a.f1 ≠ b.f1
instance : DecidableRel M.relC := fun a b => by unfold M.relC; exact inferInstance
def M.validAcc (id mn : Int) (l : List S35) : Bool := M.inr id 0 1000000 && (M.inr mn 1 3 && (decide (l.length ≤ 8) && (l.all M.okC && decide (l.Pairwise M.relC))))
theorem validAcc_iff (id mn : Int) (l : List S35) : M.validAcc id mn l = true ↔ (0 ≤ id ∧ id ≤ 1000000) ∧ (1 ≤ mn ∧ mn ≤ 3) ∧ l.length ≤ 8 ∧ (∀ c ∈ l, M.okC c = true) ∧ l.Pairwise M.relC := by
  unfold M.validAcc; simp [M.inr]
/-- The credentials before a place are good. -/
def M.goodC (l : List S35) (i : Nat) : Prop := (∀ c ∈ l.take i, M.okC c = true) ∧ (l.take i).Pairwise M.relC
theorem goodC_zero (l : List S35) : M.goodC l 0 := by simp [M.goodC]
theorem goodC_succ (l : List S35) (i : Nat) (h : i < l.length) (hg : M.goodC l i) (ho : M.okC l[i] = true) (hp : ∀ h0 : 0 < i, (l[i - 1]'(by omega)).f0 < l[i].f0) (hn : ∀ j (hj : j < i), (l[j]'(by omega)).f1 ≠ l[i].f1) : M.goodC l (i + 1) := by
  obtain ⟨h1, h2⟩ := hg
  unfold M.goodC
  rw [List.take_succ_eq_append_getElem h]
  refine ⟨?_, ?_⟩
  · intro c hc
    rcases List.mem_append.1 hc with hc | hc
    · exact h1 c hc
    · rw [List.mem_singleton.1 hc]; exact ho
  · rw [List.pairwise_append]
    refine ⟨h2, by simp, ?_⟩
    intro a ha b hb
    rw [List.mem_singleton.1 hb]
    obtain ⟨j, hj, rfl⟩ := List.getElem_of_mem ha
    have hji : j < i := by simp at hj; omega
    rw [List.getElem_take]
    refine ⟨?_, hn j hji⟩
    have hl := hp (by omega)
    by_cases e : j = i - 1
    · subst e; exact hl
    · have := (List.pairwise_iff_getElem.1 h2) j (i - 1) (by simp; omega) (by simp; omega) (by omega)
      rw [List.getElem_take, List.getElem_take] at this
      have := this.1; omega
theorem goodC_end (l : List S35) (h : M.goodC l l.length) : l.all M.okC = true ∧ l.Pairwise M.relC := by
  unfold M.goodC at h; rw [List.take_length] at h; exact ⟨List.all_eq_true.2 h.1, h.2⟩
theorem validAcc_bad {id mn : Int} {l : List S35} (h : l.all M.okC = false ∨ ¬ l.Pairwise M.relC) : M.validAcc id mn l = false := by
  unfold M.validAcc; rcases h with h | h <;> simp [h]
theorem bad_ok {id mn : Int} {l : List S35} {i : Nat} (h : i < l.length) (ho : M.okC l[i] = false) : M.validAcc id mn l = false :=
  validAcc_bad (.inl (by rw [Bool.eq_false_iff]; intro ha; have := List.all_eq_true.1 ha l[i] (List.getElem_mem h); rw [ho] at this; cases this))
theorem bad_prev {id mn : Int} {l : List S35} {i : Nat} (h : i < l.length) (h0 : 0 < i) (hp : (l[i - 1]'(by omega)).f0 ≥ l[i].f0) : M.validAcc id mn l = false :=
  validAcc_bad (.inr (fun ha => by have := (List.pairwise_iff_getElem.1 ha (i - 1) i (by omega) h (by omega)).1; omega))
theorem bad_same {id mn : Int} {l : List S35} {i j : Nat} (h : i < l.length) (hj : j < i) (hp : (l[j]'(by omega)).f1 = l[i].f1) : M.validAcc id mn l = false :=
  validAcc_bad (.inr (fun ha => (List.pairwise_iff_getElem.1 ha j i (by omega) h hj).2 hp))
theorem okC_of {c : S35} (h1 : M.inr c.f0 0 1000000 = true) (h2 : ¬ M.priv c.f1 = 0) (h3 : M.inr c.f2 0 1000000 = true) : M.okC c = true := by
  have : M.validKey c.f1 = true := by rw [← Bool.not_eq_false]; exact fun h => h2 (priv_ne.2 h)
  simp [M.okC, h1, this, h3]
theorem okC_f0 {c : S35} (h1 : ¬ M.inr c.f0 0 1000000 = true) : M.okC c = false := by simp [M.okC, h1]
theorem okC_f1 {c : S35} (h1 : M.priv c.f1 = 0) : M.okC c = false := by simp [M.okC, priv_ne.1 h1]
theorem okC_f2 {c : S35} (h1 : M.inr c.f2 0 1000000 = false) : M.okC c = false := by simp [M.okC, h1]
/-! findcred -/
/-- The place of a credential, counted from i on; -1 where there is none. -/
def M.findCFrom (h : Int) : List S35 → Int → Int
  | [], _ => -1
  | e :: l, i => if e.f0 = h then i else M.findCFrom h l (i + 1)
def M.findC (l : List S35) (h : Int) : Int := M.findCFrom h l 0
theorem findCFrom_bounds (h : Int) : ∀ (l : List S35) (i : Int), M.findCFrom h l i = -1 ∨ (i ≤ M.findCFrom h l i ∧ M.findCFrom h l i < i + l.length)
  | [], i => .inl rfl
  | e :: l, i => by
    unfold M.findCFrom
    split
    · exact .inr ⟨by omega, by simp; omega⟩
    · rcases findCFrom_bounds h l (i + 1) with h2 | h2
      · exact .inl h2
      · exact .inr ⟨by omega, by simp; omega⟩
theorem findC_bounds (l : List S35) (h : Int) : M.findC l h = -1 ∨ (0 ≤ M.findC l h ∧ M.findC l h < l.length) := by
  have := findCFrom_bounds h l 0
  unfold M.findC; omega
/-! cutcred -/
/-- The credential at a place, as the program reads it. -/
def M.cAt (l : List S35) (k : Int) : S35 := rd_T35 l k
def M.cutC (x y : Int) (l : List S35) (h : Int) : Int × Int × List S35 × Bool :=
  if M.validAcc x y l = true ∧ 0 ≤ M.findC l h ∧ (M.cAt l (M.findC l h)).f3 = false then
    (x, y, l.set (M.findC l h).toNat ⟨(M.cAt l (M.findC l h)).f0, (M.cAt l (M.findC l h)).f1, (M.cAt l (M.findC l h)).f2, true⟩, true) else (x, y, l, false)
theorem cutC_len (x y : Int) (l : List S35) (h : Int) : (M.cutC x y l h).2.2.1.length = l.length := by unfold M.cutC; split <;> simp
/-! addcred -/
/-- The place at which a handle is put in. -/
def M.insAt (h : Int) : List S35 → Nat
  | [] => 0
  | c :: l => if c.f0 < h then M.insAt h l + 1 else 0
theorem insAt_le (h : Int) : ∀ l : List S35, M.insAt h l ≤ l.length
  | [] => Nat.le_refl _
  | c :: l => by have := insAt_le h l; unfold M.insAt; split <;> simp <;> omega
theorem insAt_drop (h : Int) (l : List S35) (i : Nat) (hi : i < l.length) : M.insAt h (l.drop i) = if l[i].f0 < h then M.insAt h (l.drop (i + 1)) + 1 else 0 := by
  rw [drop_get hi]; rfl
def M.insC (l : List S35) (h p : Int) : List S35 := l.take (M.insAt h l) ++ [⟨h, p, 0, false⟩] ++ l.drop (M.insAt h l)
theorem insC_len (l : List S35) (h p : Int) : (M.insC l h p).length = l.length + 1 := by
  have := insAt_le h l
  simp [M.insC]; omega
def M.addC (x y : Int) (l : List S35) (h p : Int) : Int × Int × List S35 × Bool :=
  if M.validAcc x y l = true ∧ M.validAcc x y (M.insC l h p) = true then (x, y, M.insC l h p, true) else (x, y, l, false)
theorem addC_len (x y : Int) (l : List S35) (h p : Int) (hl : l.length ≤ 1048576) : (M.addC x y l h p).2.2.1.length ≤ 1048576 := by
  unfold M.addC; split
  · rename_i hh; have := ((validAcc_iff _ _ _).1 hh.2).2.2.1; simp only; omega
  · exact hl
/-! credfacts -/
/-- In a row whose handles rise, a credential is found at its place. -/
theorem findCFrom_at (h : Int) : ∀ (a : List S35) (c : S35) (b : List S35) (i : Int), (∀ z ∈ a, z.f0 ≠ h) → c.f0 = h → M.findCFrom h (a ++ c :: b) i = i + a.length
  | [], c, b, i, _, hc => by simp [M.findCFrom, hc]
  | z :: a, c, b, i, ha, hc => by
    have := findCFrom_at h a c b (i + 1) (fun y hy => ha y (List.mem_cons_of_mem _ hy)) hc
    rw [List.cons_append, M.findCFrom, if_neg (ha z List.mem_cons_self), this, List.length_cons]; omega
theorem insC_split (l : List S35) (h p : Int) : M.insC l h p = l.take (M.insAt h l) ++ (⟨h, p, 0, false⟩ : S35) :: l.drop (M.insAt h l) := by unfold M.insC; simp
theorem insC_find {l : List S35} {h p x y : Int} (hv : M.validAcc x y (M.insC l h p) = true) : M.findC (M.insC l h p) h = (M.insAt h l : Int) := by
  have hp := ((validAcc_iff _ _ _).1 hv).2.2.2.2
  rw [insC_split] at hp ⊢
  have ha : ∀ z ∈ l.take (M.insAt h l), z.f0 ≠ h := by
    intro z hz
    have := (List.pairwise_append.1 hp).2.2 z hz ⟨h, p, 0, false⟩ List.mem_cons_self
    have := this.1; simp only at this; omega
  have hle := insAt_le h l
  unfold M.findC
  rw [findCFrom_at h _ _ _ 0 ha rfl]; simp; omega
theorem insC_at (l : List S35) (h p : Int) : ∃ hn : M.insAt h l < (M.insC l h p).length, (M.insC l h p)[M.insAt h l] = ⟨h, p, 0, false⟩ := by
  have hle := insAt_le h l
  refine ⟨by rw [insC_len]; omega, ?_⟩
  simp only [insC_split]
  rw [List.getElem_append_right (by simp; omega)]
  simp [Nat.min_eq_left hle]
/-- A credential that is akin to one that lies there makes the account invalid. -/
theorem insC_twice {l : List S35} {c : S35} (hc : c ∈ l) {h p x y : Int} (hk : c.f0 = h ∨ c.f1 = p) : M.validAcc x y (M.insC l h p) = false := by
  rw [Bool.eq_false_iff]; intro hv
  have hp := ((validAcc_iff _ _ _).1 hv).2.2.2.2
  rw [insC_split] at hp
  have hp2 := List.pairwise_append.1 hp
  rw [← List.take_append_drop (M.insAt h l) l] at hc
  rcases List.mem_append.1 hc with hc | hc
  · have := hp2.2.2 c hc ⟨h, p, 0, false⟩ List.mem_cons_self
    unfold M.relC at this; simp only at this
    rcases hk with hk | hk
    · omega
    · exact this.2 hk
  · have := (List.pairwise_cons.1 hp2.2.1).1 c hc
    unfold M.relC at this; simp only at this
    rcases hk with hk | hk
    · omega
    · exact this.2 hk.symm
theorem findCFrom_set (h : Int) : ∀ (l : List S35) (n : Nat) (hn : n < l.length) (e : S35) (i : Int), e.f0 = l[n].f0 → M.findCFrom h (l.set n e) i = M.findCFrom h l i
  | y :: l, 0, _, e, i, h0 => by
    simp only [List.getElem_cons_zero] at h0
    rw [List.set_cons_zero, M.findCFrom, M.findCFrom, h0]
  | y :: l, n + 1, hn, e, i, h0 => by
    simp only [List.getElem_cons_succ] at h0
    rw [List.set_cons_succ, M.findCFrom, M.findCFrom, findCFrom_set h l n (by simpa using hn) e (i + 1) h0]
/-- Cutting leaves an account valid. -/
theorem set_valid {l : List S35} {x y : Int} (hv : M.validAcc x y l = true) {n : Nat} (hn : n < l.length) : M.validAcc x y (l.set n ⟨l[n].f0, l[n].f1, l[n].f2, true⟩) = true := by
  obtain ⟨h1, h2, h3, h4, h5⟩ := (validAcc_iff _ _ _).1 hv
  refine (validAcc_iff _ _ _).2 ⟨h1, h2, by simpa using h3, ?_, ?_⟩
  · intro c hc
    rcases List.mem_or_eq_of_mem_set hc with hc | rfl
    · exact h4 c hc
    · have := h4 l[n] (List.getElem_mem hn)
      unfold M.okC at *; exact this
  · rw [List.pairwise_iff_getElem] at *
    intro i j hi hj hij
    have key : ∀ (m : Nat) (hm : m < (l.set n ⟨l[n].f0, l[n].f1, l[n].f2, true⟩).length) (hm' : m < l.length), (l.set n ⟨l[n].f0, l[n].f1, l[n].f2, true⟩)[m].f0 = l[m].f0 ∧ (l.set n ⟨l[n].f0, l[n].f1, l[n].f2, true⟩)[m].f1 = l[m].f1 := by
      intro m hm hm'
      rw [List.getElem_set]
      by_cases hnm : n = m
      · subst hnm; rw [if_pos rfl]; exact ⟨rfl, rfl⟩
      · rw [if_neg hnm]; exact ⟨rfl, rfl⟩
    have hi' : i < l.length := by simpa using hi
    have hj' : j < l.length := by simpa using hj
    have := h5 i j hi' hj' hij
    unfold M.relC at this ⊢
    rw [(key i hi hi').1, (key i hi hi').2, (key j hj hj').1, (key j hj hj').2]
    exact this
/-! evx -/
/-- From some number of rounds on the printed function answers, and its answer meets P. -/
def EvX {α : Type} (g : Nat → Option α) (P : α → Prop) : Prop := ∃ r, Ev g r ∧ P r
theorem EvX.of {α : Type} {g : Nat → Option α} {P : α → Prop} {r : α} (h : Ev g r) (p : P r) : EvX g P := ⟨r, h, p⟩
theorem EvX.now {α : Type} {P : α → Prop} {r : α} (p : P r) : EvX (fun _ => some r) P := ⟨r, Ev.now r, p⟩
theorem EvX.bind {α β : Type} {f : Nat → Option α} {g : Nat → α → Option β} {P : α → Prop} {Q : β → Prop} (h : EvX f P) (k : ∀ a, P a → EvX (fun n => g n a) Q) : EvX (fun n => (f n).bind (g n)) Q := by
  obtain ⟨a, ha, hp⟩ := h
  obtain ⟨b, hb, hq⟩ := k a hp
  exact ⟨b, Ev.bind ha hb, hq⟩
theorem EvX.bindv {α β : Type} {f : Nat → Option α} {g : Nat → α → Option β} {a : α} {Q : β → Prop} (h : Ev f a) (k : EvX (fun n => g n a) Q) : EvX (fun n => (f n).bind (g n)) Q := by
  obtain ⟨b, hb, hq⟩ := k
  exact ⟨b, Ev.bind h hb, hq⟩
theorem EvX.bindc {α β : Type} {o : Option α} {g : Nat → α → Option β} {P : α → Prop} {Q : β → Prop} (h : ∃ a, o = some a ∧ P a) (k : ∀ a, P a → EvX (fun n => g n a) Q) : EvX (fun n => o.bind (g n)) Q := by
  obtain ⟨a, rfl, hp⟩ := h
  exact k a hp
theorem EvX.yes {α : Type} {c : Prop} [Decidable c] {g f : Nat → Option α} {P : α → Prop} (h : c) (k : EvX g P) : EvX (fun n => if c then g n else f n) P := by simpa [h] using k
theorem EvX.no {α : Type} {c : Prop} [Decidable c] {g f : Nat → Option α} {P : α → Prop} (h : ¬ c) (k : EvX f P) : EvX (fun n => if c then g n else f n) P := by simpa [h] using k
theorem EvX.ite {α : Type} {c : Prop} [Decidable c] {g f : Nat → Option α} {P : α → Prop} (h : c → EvX g P) (k : ¬ c → EvX f P) : EvX (fun n => if c then g n else f n) P := by
  by_cases hc : c
  · exact EvX.yes hc (h hc)
  · exact EvX.no hc (k hc)
theorem EvX.round {α : Type} {g : Nat → Option α} {P : α → Prop} (h : EvX (fun k => g (k + 1)) P) : EvX g P := by
  obtain ⟨r, hr, hp⟩ := h
  exact ⟨r, Ev.round hr, hp⟩
theorem EvX.mono {α : Type} {g : Nat → Option α} {P Q : α → Prop} (h : EvX g P) (k : ∀ a, P a → Q a) : EvX g Q := by
  obtain ⟨r, hr, hp⟩ := h
  exact ⟨r, hr, k r hp⟩
theorem EvX.loop {σ β : Type} (g : Nat → Nat → σ → Option β) (n : Nat) (P : β → Prop) (Inv : Nat → σ → Prop)
    (done : ∀ s, Inv n s → EvX (fun k => g k n s) P)
    (step : ∀ i s, i < n → Inv i s → (∀ s', Inv (i + 1) s' → EvX (fun k => g k (i + 1) s') P) → EvX (fun k => g k i s) P) :
    ∀ i s, i ≤ n → Inv i s → EvX (fun k => g k i s) P := by
  have : ∀ d i s, i + d = n → Inv i s → EvX (fun k => g k i s) P := by
    intro d
    induction d with
    | zero =>
      intro i s hi hs
      obtain rfl : i = n := by omega
      exact done s hs
    | succ d ih => intro i s hi hs; exact step i s (by omega) hs (fun s' hs' => ih (i + 1) s' (by omega) hs')
  intro i s hi hs
  exact this (n - i) i s (by omega) hs
/-- What the law goes on with, whatever was drawn. -/
theorem Ev.drawn {α β : Type} {f : Nat → Option α} {g : Nat → α → Option β} {P : α → Prop} {r : β} (h : EvX f P) (k : ∀ a, P a → Ev (fun n => g n a) r) : Ev (fun n => (f n).bind (g n)) r := by
  obtain ⟨a, ha, hp⟩ := h
  exact Ev.bind ha (k a hp)
/-! impl_copyAccount -/
theorem impl_copyAccount.eq (x y : Int) (l : List S35) (hl : l.length ≤ 1048577) : impl_copyAccount.f x y l = some (x, y, l) := by
  unfold impl_copyAccount.f; simp only [bind_some_]; rw [if_pos (by simp; omega)]; rfl
/-! impl_InRange -/
theorem impl_InRange.eq (a b c : Int) : impl_InRange.f a b c = some (M.inr a b c) := by
  unfold impl_InRange.f M.inr
  by_cases h : b ≤ a
  · rw [if_pos h]; simp [h]
  · rw [if_neg h]
    simp [h]
/-! impl_IsValidKey -/
theorem impl_IsValidKey.eq (a : Int) : impl_IsValidKey.f a = some (M.validKey a) := by unfold impl_IsValidKey.f; rw [impl_InRange.eq]; rfl
/-! impl_power -/
theorem impl_power.ev : Ev (fun k => impl_power.f k 48271 2147483645 2147483647) M.inv := Ev.of (k := 40) (fun k => impl_power.mono _ _ _ k) (by decide +kernel)
/-! impl_PrivateKey -/
theorem impl_PrivateKey.ev (a : Int) : Ev (fun k => impl_PrivateKey.f k a) (M.priv a) := by
  unfold impl_PrivateKey.f
  refine Ev.bindc (impl_IsValidKey.eq ..) (Ev.ite (fun h => ?_) (fun h => ?_))
  · have h' := inr_true.1 h
    refine Ev.bind impl_power.ev ?_
    have e : Int.tmod (wrap64 (a * M.inv)) 2147483647 = M.priv a := by
      unfold M.priv M.inv; rw [if_pos (show M.validKey a = true from h), wrap_in (by omega) (by omega), Int.tmod_eq_emod_of_nonneg (by omega)]
    rw [e]; exact Ev.now _
  · exact Ev.eq (by unfold M.priv; rw [if_neg h])
/-! impl_IsValidAccount -/
theorem impl_IsValidAccount.ev (id mn : Int) (l : List S35) (hl : l.length ≤ 1048580) : Ev (fun k => impl_IsValidAccount.f k id mn l) (M.validAcc id mn l) := by
  unfold impl_IsValidAccount.f
  have no : M.validAcc id mn l = false → Ev (fun k => impl_IsValidAccount.j0 k true id mn l) (M.validAcc id mn l) := by
    intro h
    refine Ev.round ?_
    simp only [impl_IsValidAccount.j0]
    exact Ev.yes (by trivial) (Ev.eq h.symm)
  refine Ev.bindc (impl_InRange.eq ..) (Ev.ite (fun h3 => Ev.bindc (impl_InRange.eq ..) (Ev.ite (fun h4 => ?_) (fun h4 => no (by simp [M.validAcc, h4])))) (fun h3 => no (by simp [M.validAcc, h3])))
  rcases Nat.lt_or_ge 8 l.length with h5 | h5
  · rw [decide_eq_true (by omega : (l.length : Int) > 8)]
    exact no (by have : ¬ l.length ≤ 8 := (by omega); simp [M.validAcc, this])
  rw [decide_eq_false (by omega : ¬ (l.length : Int) > 8)]
  refine Ev.round ?_
  simp only [impl_IsValidAccount.j0]
  refine Ev.no (by simp) ?_
  refine Ev.loop (fun k i (_ : Unit) => impl_IsValidAccount.l0 k l l.length (i : Int) id mn l) l.length (fun _ _ => M.validAcc id mn l) (fun i _ => M.goodC l i) ?_ ?_ 0 () (by omega) (goodC_zero l)
  · rintro s hg
    obtain ⟨h1, h2⟩ := goodC_end l hg
    refine Ev.round ?_
    simp only [impl_IsValidAccount.l0]
    exact Ev.no (by omega) (Ev.eq (by simp [M.validAcc, h1, h2, h3, h4, h5]))
  · rintro i s hi hg ih
    have out : ∀ (b0 b1 b2 : Int) (b3 : Bool), M.validAcc id mn l = false → Ev (fun k => impl_IsValidAccount.j2 k (i : Int) l l.length (i : Int) true id mn l b0 b1 b2 b3) (M.validAcc id mn l) := by
      intro b0 b1 b2 b3 h
      refine Ev.round ?_
      simp only [impl_IsValidAccount.j2]
      exact Ev.yes (by trivial) (Ev.eq h.symm)
    have go : M.inr l[i].f0 0 1000000 = true → (∀ h0 : 0 < i, (l[i - 1]'(by omega)).f0 < l[i].f0) → Ev (fun k => (impl_PrivateKey.f k l[i].f1).bind fun t => if t = 0 then impl_IsValidAccount.j2 k (i : Int) l l.length (i : Int) true id mn l l[i].f0 l[i].f1 l[i].f2 l[i].f3 else (some (M.inr l[i].f2 0 1000000)).bind fun u => impl_IsValidAccount.j2 k (i : Int) l l.length (i : Int) (!u) id mn l l[i].f0 l[i].f1 l[i].f2 l[i].f3) (M.validAcc id mn l) := by
      intro h1 hp
      refine Ev.bind (impl_PrivateKey.ev _) (Ev.ite (fun h2 => out _ _ _ _ (bad_ok hi (okC_f1 h2))) (fun h2 => ?_))
      simp only [bind_some_]
      cases h3 : M.inr l[i].f2 0 1000000 with
      | false => exact out _ _ _ _ (bad_ok hi (okC_f2 h3))
      | true =>
        refine Ev.round ?_
        simp only [impl_IsValidAccount.j2, bind_some_, Int.toNat_natCast]
        refine Ev.no (by simp) (Ev.yes (by omega) (Ev.yes (by omega) ?_))
        have htl : (l.take i).length = i := by simp; omega
        simp only [htl]
        refine Ev.loop (fun k j (_ : Unit) => impl_IsValidAccount.l1 k l l.length (i : Int) (l.take i) (i : Int) (j : Int) id mn l l[i].f0 l[i].f1 l[i].f2 l[i].f3) i (fun _ _ => M.validAcc id mn l) (fun j _ => ∀ j' (hj : j' < i), j' < j → (l[j']'(by omega)).f1 ≠ l[i].f1) ?_ ?_ 0 () (by omega) (fun j' _ h => by omega)
        · intro _ hn
          refine Ev.round ?_
          simp only [impl_IsValidAccount.l1, wrap_succ hi (by omega : l.length ≤ _)]
          exact Ev.no (by omega) (ih () (goodC_succ l i hi hg (okC_of h1 h2 h3) hp (fun j hj => hn j hj hj)))
        · intro j _ hj hn ih2
          have hj2 : j < l.length := by omega
          have hj3 : j < (l.take i).length := by omega
          refine Ev.round ?_
          simp only [impl_IsValidAccount.l1, wrap_succ hj (by omega : i ≤ _), rd_Credential hj3, List.getElem_take, htl]
          refine Ev.yes (by omega) (Ev.yes (by omega) (Ev.yes (by omega) (Ev.ite (fun h => Ev.eq (bad_same hi hj h).symm) (fun h => ih2 () ?_))))
          intro j' hj' hlt
          by_cases e : j' = j
          · subst e; exact h
          · exact hn j' hj' (by omega)
    refine Ev.round ?_
    simp only [impl_IsValidAccount.l0, impl_InRange.eq, bind_some_, rd_Credential hi]
    refine Ev.yes (by omega) (Ev.yes (by omega) (Ev.yes (by omega) (Ev.ite (fun h1 => Ev.ite (fun h0 => ?_) (fun h0 => ?_)) (fun h1 => ?_))))
    · have hp : wrap64 ((i : Int) - 1) = ((i - 1 : Nat) : Int) := wrap_pred (by omega) (by omega)
      simp only [hp, rd_Credential (by omega : i - 1 < l.length)]
      refine Ev.yes (by omega) (Ev.yes (by omega) (Ev.ite (fun h2 => out _ _ _ _ (bad_prev hi (by omega) h2)) (fun h2 => ?_)))
      exact go h1 (fun _ => by omega)
    · exact go h1 (fun h => by omega)
    · exact out _ _ _ _ (bad_ok hi (okC_f0 h1))
/-! impl_AddCredential -/
theorem impl_AddCredential.ev (x y : Int) (l : List S35) (h p : Int) (hl : l.length ≤ 1048576) : Ev (fun k => impl_AddCredential.f k x y l h p) (M.addC x y l h p) := by
  unfold impl_AddCredential.f
  refine Ev.bind (impl_IsValidAccount.ev x y l (by omega)) (Ev.ite (fun h0 => ?_) (fun h0 => by
    rw [impl_copyAccount.eq _ _ _ (by omega)]; exact Ev.eq (by unfold M.addC; rw [if_neg (fun hh => h0 hh.1)])))
  have fin : Ev (fun k => impl_AddCredential.j1 k h p ((M.insAt h l : Nat) : Int) x y l) (M.addC x y l h p) := by
    have hb := insAt_le h l
    have hil := insC_len l h p
    refine Ev.round ?_
    simp only [impl_AddCredential.j1, impl_copyAccount.eq x y l (by omega), bind_some_, Int.toNat_natCast]
    refine Ev.yes (by omega) (Ev.yes (by omega) (Ev.yes (by simp; omega) (Ev.yes (by simp; omega) (Ev.yes (by simp; omega) ?_))))
    refine Ev.bind (Ev.conv (impl_IsValidAccount.ev x y (M.insC l h p) (by omega)) rfl) (Ev.ite (fun h2 => Ev.eq ?_) (fun h2 => Ev.eq ?_))
    · unfold M.addC; rw [if_pos ⟨h0, h2⟩]; rfl
    · unfold M.addC; rw [if_neg (fun hh => h2 hh.2)]
  refine Ev.loop (fun k i (_ : Unit) => impl_AddCredential.l0 k h p (i : Int) x y l) l.length (fun _ _ => M.addC x y l h p) (fun i _ => M.insAt h l = i + M.insAt h (l.drop i)) ?_ ?_ 0 () (by omega) (by simp)
  · rintro s hi
    refine Ev.round ?_
    simp only [impl_AddCredential.l0]
    rw [drop_end] at hi
    refine Ev.no (by omega) ?_
    have : l.length = M.insAt h l := by rw [hi]; rfl
    rw [this]; exact fin
  · rintro i s hi hinv ih
    rw [insAt_drop h l i hi] at hinv
    refine Ev.round ?_
    simp only [impl_AddCredential.l0, rd_Credential hi, wrap_succ hi (by omega : l.length ≤ _)]
    refine Ev.yes (by omega) (Ev.yes (by omega) (Ev.ite (fun h1 => ?_) (fun h1 => ?_)))
    · rw [if_pos h1] at hinv; exact ih () (by omega)
    · rw [if_neg h1] at hinv
      have : i = M.insAt h l := by omega
      rw [this]; exact fin
/-! impl_FindCredential -/
theorem impl_FindCredential.ev (x y : Int) (l : List S35) (h : Int) (hl : l.length ≤ 1048576) : Ev (fun k => impl_FindCredential.f k x y l h) (M.findC l h) := by
  unfold impl_FindCredential.f
  refine Ev.loop (fun k i (_ : Unit) => impl_FindCredential.l0 k h l l.length (i : Int)) l.length (fun i _ => M.findCFrom h (l.drop i) i) (fun _ _ => True) ?_ ?_ 0 () (by omega) trivial
  · rintro s _
    refine Ev.round ?_
    simp only [impl_FindCredential.l0]
    exact Ev.no (by omega) (Ev.eq (by rw [drop_end]; rfl))
  · rintro i s hi _ ih
    refine Ev.round ?_
    simp only [impl_FindCredential.l0, rd_Credential hi, wrap_succ hi (by omega : l.length ≤ _)]
    rw [drop_get hi]; unfold M.findCFrom
    refine Ev.yes (by omega) (Ev.yes (by omega) (Ev.yes (by omega) (Ev.ite (fun h1 => ?_) (fun h1 => ?_))))
    · exact Ev.eq (by rw [if_pos h1])
    · rw [if_neg h1]; exact ih () trivial
/-! impl_CutCredential -/
theorem impl_CutCredential.ev (x y : Int) (l : List S35) (h : Int) (hl : l.length ≤ 1048576) : Ev (fun k => impl_CutCredential.f k x y l h) (M.cutC x y l h) := by
  unfold impl_CutCredential.f M.cutC
  have hb := findC_bounds l h
  refine Ev.bindc (impl_copyAccount.eq _ _ _ (by omega)) (Ev.bind (impl_FindCredential.ev x y l h hl) (Ev.bind (impl_IsValidAccount.ev x y l (by omega)) (Ev.ite (fun h1 => Ev.ite (fun h2 => Ev.eq ?_) (fun h2 => Ev.yes (by omega) (Ev.yes (by omega) (Ev.ite (fun h3 => Ev.eq ?_) (fun h3 => Ev.yes (by simp only; omega) (Ev.eq ?_)))))) (fun h1 => Ev.eq ?_))))
  · rw [if_neg (fun hh => by omega)]
  · rw [if_neg (fun hh => by have := hh.2.2; unfold M.cAt at this; rw [h3] at this; cases this)]
  · rw [if_pos ⟨h1, by omega, by unfold M.cAt; simpa using h3⟩]; rfl
  · rw [if_neg (fun hh => h1 hh.1)]
/-! eqby -/
def M.eqBy {α : Type} (r : α → α → Bool) : List α → List α → Bool
  | [], [] => true
  | a :: l, b :: m => r a b && M.eqBy r l m
  | _, _ => false
theorem eqBy_len {α : Type} {r : α → α → Bool} : ∀ {l m : List α}, l.length ≠ m.length → M.eqBy r l m = false
  | [], [], h => by simp at h
  | [], _ :: _, _ => rfl
  | _ :: _, [], _ => rfl
  | a :: l, b :: m, h => by simp only [M.eqBy, eqBy_len (l := l) (m := m) (by simpa using h), Bool.and_false]
theorem eqBy_iff {α : Type} {r : α → α → Bool} (hr : ∀ a b, r a b = true ↔ a = b) : ∀ (l m : List α), M.eqBy r l m = true ↔ l = m
  | [], [] => by simp [M.eqBy]
  | [], _ :: _ => by simp [M.eqBy]
  | _ :: _, [] => by simp [M.eqBy]
  | a :: l, b :: m => by simp [M.eqBy, eqBy_iff hr l m, hr]
theorem eqBy_end {α : Type} {r : α → α → Bool} {l m : List α} (h : l.length = m.length) : M.eqBy r (l.drop l.length) (m.drop l.length) = true := by
  rw [drop_end, List.drop_eq_nil_of_le (by omega)]; rfl
theorem eqBy_drop {α : Type} {r : α → α → Bool} {l m : List α} {i : Nat} (h1 : i < l.length) (h2 : i < m.length) : M.eqBy r (l.drop i) (m.drop i) = (r l[i] m[i] && M.eqBy r (l.drop (i + 1)) (m.drop (i + 1))) := by
  rw [drop_get h1, drop_get h2]; rfl
/-! eq-Credential -/
def M.eqvCredential (a b : S35) : Bool := a.f0 == b.f0 && (a.f1 == b.f1 && (a.f2 == b.f2 && (a.f3 == b.f3)))
theorem eqvCredential_iff (a b : S35) : M.eqvCredential a b = true ↔ a = b := by
  cases a; cases b; simp [M.eqvCredential]
theorem nevCredential (a b : S35) : (!(a.f0 == b.f0) || (!(a.f1 == b.f1) || (!(a.f2 == b.f2) || (!(a.f3 == b.f3))))) = !M.eqvCredential a b := by
  unfold M.eqvCredential; cases a.f0 == b.f0 <;> cases a.f1 == b.f1 <;> cases a.f2 == b.f2 <;> cases a.f3 == b.f3 <;> rfl
def M.equalAccounts (x y : Int) (l : List S35) (x' y' : Int) (l' : List S35) : Bool := decide (x = x') && (decide (y = y') && M.eqBy M.eqvCredential l l')
theorem equalAccounts_iff (x y : Int) (l : List S35) (x' y' : Int) (l' : List S35) : M.equalAccounts x y l x' y' l' = true ↔ x = x' ∧ y = y' ∧ l = l' := by
  unfold M.equalAccounts; simp only [Bool.and_eq_true, decide_eq_true_eq, eqBy_iff eqvCredential_iff]
/-! impl_EqualAccounts -/
theorem impl_EqualAccounts.ev (x y : Int) (l : List S35) (x' y' : Int) (l' : List S35) (hl : l.length ≤ 1048577) (hr : l'.length ≤ 1048577) : Ev (fun k => impl_EqualAccounts.f k x y l x' y' l') (M.equalAccounts x y l x' y' l') := by
  unfold impl_EqualAccounts.f
  have no : M.equalAccounts x y l x' y' l' = false → Ev (fun k => impl_EqualAccounts.j0 k true x y l x' y' l') (M.equalAccounts x y l x' y' l') := by
    intro h
    refine Ev.round ?_
    simp only [impl_EqualAccounts.j0]
    exact Ev.yes (by trivial) (Ev.eq h.symm)
  refine Ev.ite (fun h1 => Ev.ite (fun h2 => ?_) (fun h2 => no (by simp [M.equalAccounts, h2]))) (fun h1 => no (by simp [M.equalAccounts, h1]))
  by_cases hlr : l.length = l'.length
  · have e : (((l.length : Nat) : Int) != ((l'.length : Nat) : Int)) = false := by rw [hlr]; simp
    rw [e]
    have ev : M.equalAccounts x y l x' y' l' = M.eqBy M.eqvCredential l l' := by simp [M.equalAccounts, h1, h2]
    rw [ev]
    refine Ev.round ?_
    simp only [impl_EqualAccounts.j0]
    refine Ev.no (by simp) ?_
    refine Ev.loop (fun k i (_ : Unit) => impl_EqualAccounts.l0 k l.length (i : Int) x y l x' y' l') l.length (fun i _ => M.eqBy M.eqvCredential (l.drop i) (l'.drop i)) (fun _ _ => True) ?_ ?_ 0 () (by omega) trivial
    · rintro s _
      refine Ev.round ?_
      simp only [impl_EqualAccounts.l0]
      exact Ev.no (by omega) (Ev.eq (eqBy_end hlr).symm)
    · rintro i s hi _ ih
      have hi2 : i < l'.length := by omega
      refine Ev.round ?_
      simp only [impl_EqualAccounts.l0, wrap_succ hi (by omega : l.length ≤ _), rd_Credential hi, rd_Credential hi2, nevCredential]
      rw [eqBy_drop hi hi2]
      refine Ev.yes (by omega) (Ev.yes (by omega) (Ev.yes (by omega) (Ev.yes (by omega) (Ev.ite (fun h => ?_) (fun h => ?_)))))
      · exact Ev.eq (by simp at h; simp [h])
      · refine Ev.conv (ih () trivial) (by simp at h; simp [h])
  · have e : (((l.length : Nat) : Int) != ((l'.length : Nat) : Int)) = true := by simp; omega
    rw [e]
    exact no (by unfold M.equalAccounts; rw [eqBy_len hlr]; simp)
/-! laws_big -/
theorem laws_big.eq (l : List Int) : laws_big.f l = some (decide ((l.length : Int) > 1048576)) := rfl
/-! spec_l14Copy -/
theorem spec_l14Copy.eq (x y : Int) (l : List S35) (hl : l.length ≤ 1048577) : spec_l14Copy.f x y l = some (x, y, l) := by
  unfold spec_l14Copy.f; simp only [bind_some_]; rw [if_pos (by simp; omega)]; rfl
/-! spec_l1In -/
theorem spec_l1In.eq (a b c : Int) : spec_l1In.f a b c = some (M.inr a b c) := by
  unfold spec_l1In.f M.inr
  by_cases h : a ≥ b
  · rw [if_pos h]; simp [h]
  · rw [if_neg h]; have : ¬ b ≤ a := by omega
    simp [this]
/-! spec_l6Power -/
theorem spec_l6Power.ev : Ev (fun k => spec_l6Power.f k 48271 2147483645) M.inv := Ev.of (k := 40) (fun k => spec_l6Power.mono _ _ k) (by decide +kernel)
/-! spec_IsValidKey -/
theorem spec_IsValidKey.eq (a : Int) : spec_IsValidKey.f a = some (M.validKey a) := by unfold spec_IsValidKey.f; rw [spec_l1In.eq]; rfl
/-! spec_PublicKey -/
theorem spec_PublicKey.eq (a : Int) : spec_PublicKey.f a = some (M.pub a) := by
  unfold spec_PublicKey.f M.pub; rw [spec_IsValidKey.eq, bind_some_]
  by_cases h : M.validKey a = true
  · have := inr_true.1 h
    rw [if_pos h, if_pos h, wrap_in (by omega) (by omega), Int.tmod_eq_emod_of_nonneg (by omega)]
  · rw [if_neg h, if_neg h]
/-! spec_PrivateKey -/
theorem spec_PrivateKey.ev (a : Int) : Ev (fun k => spec_PrivateKey.f k a) (M.priv a) := by
  unfold spec_PrivateKey.f
  refine Ev.bindc (spec_l1In.eq ..) (Ev.ite (fun h => ?_) (fun h => ?_))
  · have h' := inr_true.1 h
    refine Ev.bind spec_l6Power.ev ?_
    have e : Int.tmod (wrap64 (a * M.inv)) 2147483647 = M.priv a := by
      unfold M.priv M.inv; rw [if_pos (show M.validKey a = true from h), wrap_in (by omega) (by omega), Int.tmod_eq_emod_of_nonneg (by omega)]
    simp only [e, spec_PublicKey.eq, bind_some_]
    exact Ev.yes (priv_valid h).2 (Ev.now _)
  · exact Ev.eq (by unfold M.priv; rw [if_neg (show ¬ M.validKey a = true from h)])
/-! spec_IsValidAccount -/
theorem spec_IsValidAccount.ev (id mn : Int) (l : List S35) (hl : l.length ≤ 1048580) : Ev (fun k => spec_IsValidAccount.f k id mn l) (M.validAcc id mn l) := by
  unfold spec_IsValidAccount.f
  refine Ev.loop (fun k i (_ : Unit) => spec_IsValidAccount.l0 k (i : Int) id mn l) l.length (fun _ _ => M.validAcc id mn l) (fun i _ => M.goodC l i) ?_ ?_ 0 () (by omega) (goodC_zero l)
  · rintro s hg
    obtain ⟨h1, h2⟩ := goodC_end l hg
    refine Ev.round ?_
    simp only [spec_IsValidAccount.l0, spec_l1In.eq, bind_some_]
    refine Ev.no (by omega) (Ev.ite (fun h3 => Ev.ite (fun h4 => Ev.eq ?_) (fun h4 => Ev.eq ?_)) (fun h3 => Ev.eq ?_))
    · have e : decide ((l.length : Int) ≤ 8) = decide (l.length ≤ 8) := by simp only [decide_eq_decide]; omega
      rw [e]; simp [M.validAcc, h1, h2, h3, h4]
    · simp [M.validAcc, h4]
    · simp [M.validAcc, h3]
  · rintro i s hi hg ih
    -- a credential that is to be refused
    have out : ∀ (b0 b1 b2 : Int) (b3 : Bool), M.validAcc id mn l = false → Ev (fun k => spec_IsValidAccount.j1 k (i : Int) true id mn l b0 b1 b2 b3) (M.validAcc id mn l) := by
      intro b0 b1 b2 b3 h
      refine Ev.round ?_
      simp only [spec_IsValidAccount.j1]
      exact Ev.yes (by trivial) (Ev.eq h.symm)
    -- a credential that is in range and behind the one before it
    have go : M.inr l[i].f0 0 1000000 = true → (∀ h0 : 0 < i, (l[i - 1]'(by omega)).f0 < l[i].f0) → Ev (fun k => (spec_PrivateKey.f k l[i].f1).bind fun t => if t = 0 then spec_IsValidAccount.j1 k (i : Int) true id mn l l[i].f0 l[i].f1 l[i].f2 l[i].f3 else (some (M.inr l[i].f2 0 1000000)).bind fun u => spec_IsValidAccount.j1 k (i : Int) (!u) id mn l l[i].f0 l[i].f1 l[i].f2 l[i].f3) (M.validAcc id mn l) := by
      intro h1 hp
      refine Ev.bind (spec_PrivateKey.ev _) (Ev.ite (fun h2 => out _ _ _ _ (bad_ok hi (okC_f1 h2))) (fun h2 => ?_))
      simp only [bind_some_]
      cases h3 : M.inr l[i].f2 0 1000000 with
      | false => exact out _ _ _ _ (bad_ok hi (okC_f2 h3))
      | true =>
        refine Ev.round ?_
        simp only [spec_IsValidAccount.j1]
        refine Ev.no (by simp) ?_
        refine Ev.loop (fun k j (_ : Unit) => spec_IsValidAccount.l1 k (i : Int) (j : Int) id mn l l[i].f0 l[i].f1 l[i].f2 l[i].f3) i (fun _ _ => M.validAcc id mn l) (fun j _ => ∀ j' (hj : j' < i), j' < j → (l[j']'(by omega)).f1 ≠ l[i].f1) ?_ ?_ 0 () (by omega) (fun j' _ h => by omega)
        · intro _ hn
          refine Ev.round ?_
          simp only [spec_IsValidAccount.l1, wrap_succ hi (by omega : l.length ≤ _)]
          exact Ev.no (by omega) (ih () (goodC_succ l i hi hg (okC_of h1 h2 h3) hp (fun j hj => hn j hj hj)))
        · intro j _ hj hn ih2
          have hj2 : j < l.length := by omega
          refine Ev.round ?_
          simp only [spec_IsValidAccount.l1, wrap_succ hj (by omega : i ≤ _), rd_Credential hj2]
          refine Ev.yes (by omega) (Ev.yes (by omega) (Ev.yes (by omega) (Ev.ite (fun h => Ev.eq (bad_same hi hj h).symm) (fun h => ih2 () ?_))))
          intro j' hj' hlt
          by_cases e : j' = j
          · subst e; exact h
          · exact hn j' hj' (by omega)
    refine Ev.round ?_
    simp only [spec_IsValidAccount.l0, spec_l1In.eq, bind_some_, rd_Credential hi]
    refine Ev.yes (by omega) (Ev.yes (by omega) (Ev.ite (fun h1 => Ev.ite (fun h0 => ?_) (fun h0 => ?_)) (fun h1 => ?_)))
    · have hp : wrap64 ((i : Int) - 1) = ((i - 1 : Nat) : Int) := wrap_pred (by omega) (by omega)
      simp only [hp, rd_Credential (by omega : i - 1 < l.length)]
      refine Ev.yes (by omega) (Ev.yes (by omega) (Ev.ite (fun h2 => out _ _ _ _ (bad_prev hi (by omega) h2)) (fun h2 => ?_)))
      exact go h1 (fun _ => by omega)
    · exact go h1 (fun h => by omega)
    · exact out _ _ _ _ (bad_ok hi (okC_f0 h1))
/-! spec_AddCredential -/
theorem spec_AddCredential.ev (x y : Int) (l : List S35) (h p : Int) (hl : l.length ≤ 1048576) : Ev (fun k => spec_AddCredential.f k x y l h p) (M.addC x y l h p) := by
  unfold spec_AddCredential.f
  refine Ev.bindc (spec_l14Copy.eq _ _ _ (by omega)) ?_
  have fin : Ev (fun k => spec_AddCredential.j1 k h p ((M.insAt h l : Nat) : Int) x y l x y l) (M.addC x y l h p) := by
    have hb := insAt_le h l
    have hil := insC_len l h p
    refine Ev.round ?_
    simp only [spec_AddCredential.j1, bind_some_, Int.toNat_natCast]
    refine Ev.yes (by omega) (Ev.yes (by omega) (Ev.yes (by simp; omega) (Ev.yes (by simp; omega) (Ev.yes (by simp; omega) ?_))))
    refine Ev.bind (spec_IsValidAccount.ev x y l (by omega)) (Ev.ite (fun h1 => Ev.bind (Ev.conv (spec_IsValidAccount.ev x y (M.insC l h p) (by omega)) rfl) (Ev.ite (fun h2 => Ev.eq ?_) (fun h2 => ?_))) (fun h1 => ?_))
    · unfold M.addC; rw [if_pos ⟨h1, h2⟩]; rfl
    · rw [spec_l14Copy.eq _ _ _ (by omega)]; exact Ev.eq (by unfold M.addC; rw [if_neg (fun hh => h2 hh.2)])
    · rw [spec_l14Copy.eq _ _ _ (by omega)]; exact Ev.eq (by unfold M.addC; rw [if_neg (fun hh => h1 hh.1)])
  refine Ev.loop (fun k i (_ : Unit) => spec_AddCredential.l0 k h p (i : Int) x y l x y l) l.length (fun _ _ => M.addC x y l h p) (fun i _ => M.insAt h l = i + M.insAt h (l.drop i)) ?_ ?_ 0 () (by omega) (by simp)
  · rintro s hi
    refine Ev.round ?_
    simp only [spec_AddCredential.l0]
    rw [drop_end] at hi
    refine Ev.no (by omega) ?_
    have : l.length = M.insAt h l := by rw [hi]; rfl
    rw [this]; exact fin
  · rintro i s hi hinv ih
    rw [insAt_drop h l i hi] at hinv
    refine Ev.round ?_
    simp only [spec_AddCredential.l0, rd_Credential hi, wrap_succ hi (by omega : l.length ≤ _)]
    refine Ev.yes (by omega) (Ev.yes (by omega) (Ev.ite (fun h1 => ?_) (fun h1 => ?_)))
    · rw [if_pos h1] at hinv; exact ih () (by omega)
    · rw [if_neg h1] at hinv
      have : i = M.insAt h l := by omega
      rw [this]; exact fin
/-! mod -/
def M.mod (a m : Int) : Int := if 1 ≤ m ∧ m ≤ 1000000000000 then a % m else 0
theorem tmod_bounds (a m : Int) (h : 1 ≤ m) : -m < Int.tmod a m ∧ Int.tmod a m < m := by
  have h1 := Int.tmod_lt_of_pos a (by omega : 0 < m)
  have h2 := Int.lt_tmod_of_pos a (by omega : 0 < m)
  exact ⟨h2, h1⟩
theorem tmod_emod (a m : Int) (h : 1 ≤ m) : Int.tmod a m = if Int.tmod a m < 0 then a % m - m else a % m := by
  rw [Int.tmod_eq_emod]
  have := Int.emod_nonneg a (by omega : m ≠ 0)
  have := Int.emod_lt_of_pos a (by omega : 0 < m)
  have e : ((m.natAbs : Nat) : Int) = m := by omega
  by_cases h0 : 0 ≤ a ∨ m ∣ a
  · rw [if_pos h0]
    split <;> omega
  · rw [if_neg h0, e]
    split <;> omega
theorem tmod_pos (a m : Int) (h : 0 ≤ a) : Int.tmod a m = a % m := Int.tmod_eq_emod_of_nonneg h
theorem mod_add_self (a m : Int) (h : 1 ≤ m) : Int.tmod (Int.tmod a m + m) m = a % m := by
  have hb := tmod_bounds a m h
  have := Int.emod_nonneg a (by omega : m ≠ 0)
  have := Int.emod_lt_of_pos a (by omega : 0 < m)
  rw [tmod_pos _ _ (by omega)]
  have e := tmod_emod a m h
  by_cases hn : Int.tmod a m < 0
  · rw [if_pos hn] at e; rw [e, show a % m - m + m = a % m by omega, Int.emod_emod_of_dvd _ (Int.dvd_refl m)]
  · rw [if_neg hn] at e; rw [e, Int.add_emod_right, Int.emod_emod_of_dvd _ (Int.dvd_refl m)]
/-! cur -/
theorem and255 (n : Int) : Go.bits .and .i64 n 255 = n % 256 := by
  have h : (BitVec.ofInt 64 255).toNat = 2 ^ 8 - 1 := by decide
  have key : (BitVec.ofInt 64 n &&& BitVec.ofInt 64 255).toNat = (n % ((2 ^ 64 : Nat) : Int)).toNat % 2 ^ 8 := by
    rw [BitVec.toNat_and, BitVec.toNat_ofInt, h, Nat.and_two_pow_sub_one_eq_mod]
  show Go.IntKind.i64.wrap ((BitVec.ofInt 64 n &&& BitVec.ofInt 64 255).toNat : Nat) = n % 256
  rw [key, Go.IntKind.wrap_i64]
  omega
/-! spec_l1New -/
theorem spec_l1New.ex (l : List Int) (hl : l.length ≤ 1048576) : EvX (fun k => spec_l1New.f k l) (fun r => r.1 = l ∧ r.2.1 = 0) := by
  unfold spec_l1New.f
  refine EvX.loop (fun k i (s : Int) => spec_l1New.l0 k l s (i : Int)) l.length _ (fun _ _ => True) ?_ ?_ 0 _ (by omega) trivial
  · intro s _
    refine EvX.round ?_
    simp only [spec_l1New.l0]
    exact EvX.no (by omega) (EvX.now ⟨rfl, rfl⟩)
  · intro i s hi _ ih
    refine EvX.round ?_
    simp only [spec_l1New.l0, wrap_succ hi (by omega : l.length ≤ _)]
    exact EvX.yes (by omega) (EvX.ite (fun _ => EvX.yes (by omega) (ih _ trivial)) (fun _ => EvX.now ⟨rfl, rfl⟩))
/-! spec_l1Byte -/
theorem spec_l1Byte.ex (s : List Int) (p q : Int) (hs : s.length ≤ 1048576) (hp : 0 ≤ p) : ∃ a, spec_l1Byte.f s p q = some a ∧ (0 ≤ a.1 ∧ a.1 ≤ 255) ∧ 0 ≤ a.2.1 := by
  unfold spec_l1Byte.f
  by_cases h : p < (s.length : Int)
  · rw [if_pos h, if_pos hp]
    refine ⟨_, rfl, ?_, ?_⟩
    · simp only [and255]; omega
    · simp only; rw [wrap_in (by omega) (by omega)]; omega
  · rw [if_neg h]
    refine ⟨_, rfl, ?_, hp⟩
    simp only [and255]; omega
/-! spec_l1Below -/
theorem spec_l1Below.ex (s : List Int) (p q n : Int) (hs : s.length ≤ 1048576) (hp : 0 ≤ p) (hn : n ≤ 1000000) : ∃ a, spec_l1Below.f s p q n = some a ∧ (0 ≤ a.1 ∧ (a.1 < n ∨ (n ≤ 0 ∧ a.1 = 0))) ∧ 0 ≤ a.2.1 := by
  unfold spec_l1Below.f
  by_cases h0 : n ≤ 0
  · rw [if_pos h0]; exact ⟨_, rfl, ⟨by simp, .inr ⟨h0, rfl⟩⟩, hp⟩
  · rw [if_neg h0]
    by_cases h1 : n ≤ 256
    · rw [if_pos h1]
      obtain ⟨a, ha, hb, hc⟩ := spec_l1Byte.ex s p q hs hp
      rw [ha, bind_some_, if_neg (by omega)]
      refine ⟨_, rfl, ?_, hc⟩
      simp only; rw [tmod_pos _ _ hb.1]
      exact ⟨Int.emod_nonneg _ (by omega), .inl (Int.emod_lt_of_pos _ (by omega))⟩
    · rw [if_neg h1]
      obtain ⟨a, ha, hab, hap⟩ := spec_l1Byte.ex s p q hs hp
      obtain ⟨b, hb, hbb, hbp⟩ := spec_l1Byte.ex s a.2.1 a.2.2 hs hap
      obtain ⟨c, hc, hcb, hcp⟩ := spec_l1Byte.ex s b.2.1 b.2.2 hs hbp
      rw [ha, bind_some_, hb, bind_some_, hc, bind_some_, if_neg (by omega)]
      refine ⟨_, rfl, ?_, hcp⟩
      simp only
      rw [wrap_in (n := a.1 * 65536) (by omega) (by omega), wrap_in (n := b.1 * 256) (by omega) (by omega), wrap_in (n := a.1 * 65536 + b.1 * 256) (by omega) (by omega), wrap_in (by omega) (by omega), tmod_pos _ _ (by omega)]
      exact ⟨Int.emod_nonneg _ (by omega), .inl (Int.emod_lt_of_pos _ (by omega))⟩
/-! spec_l10Store -/
theorem spec_l10Store.ex (s : List Int) (p q : Int) (hs : s.length ≤ 1048576) (hp : 0 ≤ p) : ∃ a, spec_l10Store.f s p q = some a ∧ 0 ≤ a.2.2.2.2.1 := by
  unfold spec_l10Store.f
  obtain ⟨a, ha, _, hap⟩ := spec_l1Below.ex s p q 3 hs hp (by omega)
  obtain ⟨b, hb, _, hbp⟩ := spec_l1Below.ex s a.2.1 a.2.2 20 hs hap (by omega)
  obtain ⟨c, hc, _, hcp⟩ := spec_l1Below.ex s b.2.1 b.2.2 9999 hs hbp (by omega)
  obtain ⟨d, hd, _, hdp⟩ := spec_l1Below.ex s c.2.1 c.2.2 50 hs hcp (by omega)
  rw [ha, bind_some_, hb, bind_some_, hc, bind_some_, hd, bind_some_]
  exact ⟨_, rfl, hdp⟩
/-! bytesints -/
def M.bytesInts (l : List Int) : List Int := (l.length : Int) :: l.map wrap64
/-! spec_BytesToInts -/
theorem spec_BytesToInts.ev (l : List Int) (hl : l.length ≤ 1048576) : Ev (fun k => spec_BytesToInts.f k l) (M.bytesInts l) := by
  unfold spec_BytesToInts.f
  refine Ev.conv (Ev.loop (fun k i x => spec_BytesToInts.l0 k l x (i : Int)) l.length (fun i x => x ++ (l.drop i).map wrap64) (fun i x => x.length = i + 1) ?_ ?_ 0 [(l.length : Int)] (by omega) (by simp)) (by simp [M.bytesInts])
  · intro x hx
    refine Ev.round ?_
    simp only [spec_BytesToInts.l0]
    exact Ev.no (by omega) (Ev.eq (by rw [drop_end]; simp))
  · intro i x hi hx ih
    refine Ev.round ?_
    simp only [spec_BytesToInts.l0, rd_get hi, wrap_succ hi (by omega : l.length ≤ _)]
    refine Ev.yes (by omega) (Ev.yes (by omega) (Ev.yes (by omega) ?_))
    refine Ev.conv (ih _ (by simp [hx])) (by rw [drop_get hi, List.map_cons, List.append_assoc]; rfl)
/-! hash -/
def M.hstep (h v : Int) : Int := (h * 1000003 + v % 2147483647 + 13) % 2147483647
def M.hash (l : List Int) : Int := l.foldl M.hstep 11
theorem hstep_bounds (h v : Int) : 0 ≤ M.hstep h v ∧ M.hstep h v < 2147483647 := ⟨Int.emod_nonneg _ (by decide), Int.emod_lt_of_pos _ (by decide)⟩
theorem hstep_eq (h v : Int) (h0 : 0 ≤ h) (h1 : h < 2147483647) : Int.tmod (wrap64 ((wrap64 ((wrap64 (h * 1000003)) + M.mod v 2147483647)) + 13)) 2147483647 = M.hstep h v := by
  have e : M.mod v 2147483647 = v % 2147483647 := by unfold M.mod; rw [if_pos (by omega)]
  have := Int.emod_nonneg v (by decide : (2147483647 : Int) ≠ 0)
  have := Int.emod_lt_of_pos v (by decide : 0 < (2147483647 : Int))
  rw [e, wrap_in (n := h * 1000003) (by omega) (by omega), wrap_in (n := _ + v % 2147483647) (by omega) (by omega), wrap_in (by omega) (by omega), tmod_pos _ _ (by omega)]
  rfl
theorem hash_bounds (l : List Int) : 0 ≤ M.hash l ∧ M.hash l < 2147483647 := by
  unfold M.hash
  have : ∀ (l : List Int) (h : Int), 0 ≤ h ∧ h < 2147483647 → 0 ≤ l.foldl M.hstep h ∧ l.foldl M.hstep h < 2147483647 := by
    intro l
    induction l with
    | nil => intro h hh; exact hh
    | cons x l ih => intro h hh; exact ih _ (hstep_bounds _ _)
  exact this l 11 (by omega)
/-! keyed -/
def M.keyed (a : Int) (l : List Int) : Int := M.hash ([a] ++ l ++ [a])
theorem keyed_bounds (a : Int) (l : List Int) : 0 ≤ M.keyed a l ∧ M.keyed a l < 2147483647 := hash_bounds _
/-! spec_Mod -/
theorem spec_Mod.eq (a m : Int) : spec_Mod.f a m = some (M.mod a m) := by
  unfold spec_Mod.f M.mod
  rw [spec_l1In.eq]; simp only [Option.bind_some]
  by_cases h : 1 ≤ m ∧ m ≤ 1000000000000
  · have hb := tmod_bounds a m h.1
    rw [if_pos (inr_true.2 h), if_neg (by omega), if_pos h, wrap_in (by omega) (by omega), mod_add_self a m h.1]
  · rw [if_neg (fun h2 => h (inr_true.1 h2)), if_neg h]
/-! spec_Hash -/
theorem spec_Hash.ev (l : List Int) (hl : l.length ≤ 140737488355328) : Ev (fun k => spec_Hash.f k l) (M.hash l) := by
  refine Ev.loop (fun k i h => spec_Hash.l0 k l h (i : Int)) l.length (fun i h => (l.drop i).foldl M.hstep h) (fun _ h => 0 ≤ h ∧ h < 2147483647) ?_ ?_ 0 11 (by omega) (by omega)
  · intro h _
    refine Ev.round ?_
    simp only [spec_Hash.l0]
    refine Ev.no (by omega) (Ev.eq (by rw [drop_end]; rfl))
  · intro i h hi hh ih
    refine Ev.round ?_
    simp only [spec_Hash.l0, spec_Mod.eq, bind_some_, wrap_succ hi (by omega : l.length ≤ _), hstep_eq _ _ hh.1 hh.2]
    refine Ev.yes (by omega) (Ev.yes (by omega) ?_)
    rw [drop_get hi, rd_get hi]
    exact ih _ (hstep_bounds _ _)
/-! spec_KeyedHash -/
theorem spec_KeyedHash.ev (a : Int) (l : List Int) (hl : l.length ≤ 1000000000000) : Ev (fun k => spec_KeyedHash.f k a l) (M.keyed a l) := by
  unfold spec_KeyedHash.f
  simp only [Option.bind_some]
  exact Ev.yes (by simp; omega) (Ev.yes (by simp; omega) (Ev.bind (spec_Hash.ev _ (by simp; omega)) (Ev.now _)))
/-! spec_Max -/
theorem spec_Max.eq (a b : Int) : spec_Max.f a b = some (if b > a then b else a) := by unfold spec_Max.f; split <;> rfl
/-! spec_DeriveFromString -/
theorem spec_DeriveFromString.ex (key : Int) (s : ByteArray) (hs : s.size ≤ 1048576) : EvX (fun k => spec_DeriveFromString.f k key s) (fun _ => True) := by
  unfold spec_DeriveFromString.f
  have hl : (s.data.toList.map fun b_ => (b_.toNat : Int)).length ≤ 1048576 := by rw [List.length_map, Array.length_toList]; exact hs
  have hb : (M.bytesInts (s.data.toList.map fun b_ => (b_.toNat : Int))).length ≤ 1048577 := by simp [M.bytesInts] at hl ⊢; omega
  refine EvX.yes (by omega) (EvX.bindv (spec_BytesToInts.ev _ hl) (EvX.bindv (spec_KeyedHash.ev _ _ (by omega)) ?_))
  simp only [spec_Max.eq, bind_some_]
  exact EvX.now trivial
/-! spec_SiteHash -/
theorem spec_SiteHash.ex (s : ByteArray) (hs : s.size ≤ 1048576) : EvX (fun k => spec_SiteHash.f k s) (fun _ => True) := by
  unfold spec_SiteHash.f
  exact EvX.bind (spec_DeriveFromString.ex _ s hs) (fun _ _ => EvX.now trivial)
/-! derive -/
def M.orOne (a : Int) : Int := if a = 0 then 1 else a
def M.derive (a : Int) (l : List Int) : Int := M.orOne (M.keyed a ([151] ++ l))
theorem orOne_max (a : Int) (h : 0 ≤ a) : (if a > 1 then a else 1) = M.orOne a := by unfold M.orOne; split <;> split <;> omega
theorem orOne_bounds (a : Int) (h : 0 ≤ a ∧ a < 2147483647) : 1 ≤ M.orOne a ∧ M.orOne a < 2147483647 := by unfold M.orOne; split <;> omega
theorem derive_bounds (a : Int) (l : List Int) : 1 ≤ M.derive a l ∧ M.derive a l < 2147483647 := orOne_bounds _ (keyed_bounds _ _)
/-! spec_DeriveKey -/
theorem spec_DeriveKey.ev (a : Int) (l : List Int) (hl : l.length ≤ 100000000000) : Ev (fun k => spec_DeriveKey.f k a l) (M.derive a l) := by
  unfold spec_DeriveKey.f
  simp only [Option.bind_some]
  refine Ev.yes (by simp; omega) (Ev.bind (spec_KeyedHash.ev _ _ (by simp; omega)) ?_)
  simp only [spec_Max.eq, Option.bind_some]
  exact Ev.eq (orOne_max _ (hash_bounds _).1)
/-! spec_SitePrivate -/
theorem spec_SitePrivate.ex (a b c d : Int) (s : ByteArray) (h : Int) (hs : s.size ≤ 1048576) : EvX (fun k => spec_SitePrivate.f k a b c d s h) (fun _ => True) := by
  unfold spec_SitePrivate.f
  exact EvX.bind (spec_SiteHash.ex s hs) (fun _ _ => EvX.bindv (spec_DeriveKey.ev _ _ (by simp)) (EvX.now trivial))
/-! spec_SitePublic -/
theorem spec_SitePublic.ex (a b c d : Int) (s : ByteArray) (h : Int) (hs : s.size ≤ 1048576) : EvX (fun k => spec_SitePublic.f k a b c d s h) (fun _ => True) := by
  unfold spec_SitePublic.f
  refine EvX.bind (spec_SitePrivate.ex a b c d s h hs) (fun _ _ => ?_)
  simp only [spec_PublicKey.eq, bind_some_]
  exact EvX.now trivial
/-! spec_FindCredential -/
theorem spec_FindCredential.ev (x y : Int) (l : List S35) (h : Int) (hl : l.length ≤ 1048576) : Ev (fun k => spec_FindCredential.f k x y l h) (M.findC l h) := by
  unfold spec_FindCredential.f
  refine Ev.loop (fun k i (_ : Unit) => spec_FindCredential.l0 k h (i : Int) x y l) l.length (fun i _ => M.findCFrom h (l.drop i) i) (fun _ _ => True) ?_ ?_ 0 () (by omega) trivial
  · rintro s _
    refine Ev.round ?_
    simp only [spec_FindCredential.l0]
    exact Ev.no (by omega) (Ev.eq (by rw [drop_end]; rfl))
  · rintro i s hi _ ih
    refine Ev.round ?_
    simp only [spec_FindCredential.l0, rd_Credential hi, wrap_succ hi (by omega : l.length ≤ _)]
    rw [drop_get hi]; unfold M.findCFrom
    refine Ev.yes (by omega) (Ev.yes (by omega) (Ev.ite (fun h1 => ?_) (fun h1 => ?_)))
    · exact Ev.eq (by rw [if_pos h1])
    · rw [if_neg h1]; exact ih () trivial
/-! spec_l1Once -/
theorem spec_l1Once.ex (s : List Int) (p q n : Int) (hs : s.length ≤ 1048576) (hp : 0 ≤ p) (hn : n ≤ 1000000) : ∃ a, spec_l1Once.f s p q n = some a ∧ 0 ≤ a.2.1 := by
  unfold spec_l1Once.f
  obtain ⟨a, ha, _, hp2⟩ := spec_l1Below.ex s p q n hs hp hn
  rw [ha, bind_some_]
  exact ⟨_, rfl, hp2⟩
/-! spec_CutCredential -/
theorem spec_CutCredential.ev (x y : Int) (l : List S35) (h : Int) (hl : l.length ≤ 1048576) : Ev (fun k => spec_CutCredential.f k x y l h) (M.cutC x y l h) := by
  unfold spec_CutCredential.f M.cutC
  have hb := findC_bounds l h
  refine Ev.bindc (spec_l14Copy.eq _ _ _ (by omega)) (Ev.bind (spec_FindCredential.ev x y l h hl) (Ev.bind (spec_IsValidAccount.ev x y l (by omega)) (Ev.ite (fun h1 => Ev.ite (fun h2 => Ev.eq ?_) (fun h2 => Ev.yes (by omega) (Ev.yes (by omega) (Ev.ite (fun h3 => Ev.eq ?_) (fun h3 => Ev.yes (by simp only; omega) (Ev.eq ?_)))))) (fun h1 => Ev.eq ?_))))
  · rw [if_neg (fun hh => by omega)]
  · rw [if_neg (fun hh => by have := hh.2.2; unfold M.cAt at this; rw [h3] at this; cases this)]
  · rw [if_pos ⟨h1, by omega, by unfold M.cAt; simpa using h3⟩]; rfl
  · rw [if_neg (fun hh => h1 hh.1)]
/-! spec_l14Account -/
theorem spec_l14Account.ex (s : List Int) (p q : Int) (site : ByteArray) (hs : s.length ≤ 1048576) (hp : 0 ≤ p) (hsite : site.size ≤ 1048576) : EvX (fun k => spec_l14Account.f k s p q site) (fun r => r.2.2.1.length ≤ 8 ∧ 0 ≤ r.2.2.2.2.1) := by
  unfold spec_l14Account.f
  refine EvX.bindc (spec_l1Below.ex s p q 5 hs hp (by omega)) ?_
  rintro ⟨a, p1, q1⟩ ⟨_, hp1⟩
  refine EvX.bindc (spec_l1Below.ex s p1 q1 3 hs hp1 (by omega)) ?_
  rintro ⟨b, p2, q2⟩ ⟨_, hp2⟩
  refine EvX.bindc (spec_l1Below.ex s p2 q2 4 hs hp2 (by omega)) ?_
  rintro ⟨c, p3, q3⟩ ⟨hc, hp3⟩
  simp only at hc hp3 ⊢
  obtain ⟨m, hm⟩ := Int.eq_ofNat_of_zero_le hc.1
  have hm2 : m ≤ 4 := by omega
  rw [hm]
  have main : ∀ (m : Nat), m ≤ 4 → ∀ (st : List S84) (p q x y : Int) (l : List S35), st.length + m ≤ 4 → l.length ≤ 8 → 0 ≤ p → EvX (fun k => spec_l14Account.l0 k site st (m : Int) s p q x y l) (fun r => r.2.2.1.length ≤ 8 ∧ 0 ≤ r.2.2.2.2.1) := by
    intro m
    induction m with
    | zero =>
      intro _ st p q x y l hst hl hp
      refine EvX.round ?_
      simp only [spec_l14Account.l0]
      exact EvX.no (by omega) (EvX.now ⟨hl, hp⟩)
    | succ m ih =>
      intro hm st p q x y l hst hl hp
      have hw : wrap64 (((m + 1 : Nat) : Int) - 1) = (m : Int) := by rw [wrap_in (by omega) (by omega)]; omega
      have h1 : ∀ (st : List S84) (h p q x y : Int) (l : List S35), st.length + m ≤ 4 → l.length ≤ 8 → 0 ≤ p → EvX (fun k => spec_l14Account.j1 k site st ((m + 1 : Nat) : Int) h s p q x y l) (fun r => r.2.2.1.length ≤ 8 ∧ 0 ≤ r.2.2.2.2.1) := by
        intro st h p q x y l hst hl hp
        refine EvX.round ?_
        simp only [spec_l14Account.j1, hw]
        refine EvX.bindc (spec_l1Once.ex s p q 5 hs hp (by omega)) ?_
        rintro ⟨o, p4, q4⟩ hp4
        refine EvX.ite (fun _ => EvX.bindv (spec_CutCredential.ev x y l h (by omega)) ?_) (fun _ => ih (by omega) _ _ _ _ _ _ hst hl hp4)
        exact ih (by omega) _ _ _ _ _ _ hst (by rw [cutC_len]; exact hl) hp4
      refine EvX.round ?_
      simp only [spec_l14Account.l0]
      refine EvX.yes (by omega) (EvX.bindc (spec_l10Store.ex s p q hs hp) ?_)
      rintro ⟨a1, a2, a3, a4, p4, q4⟩ hp4
      refine EvX.bindc (spec_l1Below.ex s p4 q4 9 hs hp4 (by omega)) ?_
      rintro ⟨b, p5, q5⟩ ⟨_, hp5⟩
      refine EvX.bindc (spec_l1Below.ex s p5 q5 2 hs hp5 (by omega)) ?_
      rintro ⟨c, p6, q6⟩ ⟨_, hp6⟩
      simp only at hp6 ⊢
      generalize wrap64 ((st.length : Int) + (wrap64 ((wrap64 (2 * c)) * (st.length : Int)))) = h
      refine EvX.bind (spec_SitePublic.ex _ _ _ _ site h hsite) (fun pub _ => EvX.bindv (spec_AddCredential.ev x y l h pub (by omega)) ?_)
      by_cases hok : M.validAcc x y l = true ∧ M.validAcc x y (M.insC l h pub) = true
      · have hA : M.addC x y l h pub = (x, y, M.insC l h pub, true) := by unfold M.addC; rw [if_pos hok]
        rw [hA]
        have hl8 := ((validAcc_iff _ _ _).1 hok.2).2.2.1
        have hf := insC_find hok.2
        have hF := spec_FindCredential.ev x y (M.insC l h pub) h (by omega)
        rw [hf] at hF
        have hle := insAt_le h l
        have hll := insC_len l h pub
        refine EvX.yes rfl (EvX.bindv hF (EvX.bindc (spec_l1Below.ex s p6 q6 5 hs hp6 (by omega)) ?_))
        rintro ⟨d, p7, q7⟩ ⟨_, hp7⟩
        exact EvX.yes (by omega) (EvX.yes (by simp only; omega) (EvX.yes (by omega) (h1 _ _ _ _ _ _ _ (by simp; omega) (by simpa using hl8) hp7)))
      · have hA : M.addC x y l h pub = (x, y, l, false) := by unfold M.addC; rw [if_neg hok]
        rw [hA]
        exact EvX.no (by simp) (h1 _ _ _ _ _ _ _ (by omega) hl hp6)
  exact main m hm2 [] _ _ _ _ [] (by simp; omega) (by simp) hp3
/-! spec_l1Int -/
theorem spec_l1Int.ex (s : List Int) (p q : Int) (l : List Int) (hs : s.length ≤ 1048576) (hp : 0 ≤ p) (h0 : 0 < l.length) (hl : l.length ≤ 1000) : ∃ a, spec_l1Int.f s p q l = some a ∧ a.1 ∈ l ∧ 0 ≤ a.2.1 := by
  unfold spec_l1Int.f
  obtain ⟨a, ha, hb, hp2⟩ := spec_l1Below.ex s p q (l.length : Int) hs hp (by omega)
  rw [ha, bind_some_, if_pos hb.1, if_pos (by omega)]
  refine ⟨_, rfl, ?_, hp2⟩
  obtain ⟨n, hn⟩ := Int.eq_ofNat_of_zero_le hb.1
  simp only
  rw [hn, rd_get (by omega : n < l.length)]
  exact List.getElem_mem _
/-! spec_l14Any -/
theorem spec_l14Any.ex (s : List Int) (p q : Int) (hs : s.length ≤ 1048576) (hp : 0 ≤ p) : EvX (fun k => spec_l14Any.f k s p q) (fun r => r.2.2.1.length ≤ 9 ∧ 0 ≤ r.2.2.2.1) := by
  unfold spec_l14Any.f
  refine EvX.bind (spec_l14Account.ex s p q _ hs hp (by decide)) ?_
  rintro ⟨x, y, l, st, p1, q1⟩ ⟨hl, hp1⟩
  refine EvX.bindc (spec_l1Below.ex s p1 q1 12 hs hp1 (by omega)) ?_
  rintro ⟨t, p2, q2⟩ ⟨_, hp2⟩
  simp only at hl hp2 ⊢
  refine EvX.ite (fun _ => ?_) (fun _ => EvX.ite (fun _ => ?_) (fun _ => EvX.ite (fun _ => ?_) (fun _ => EvX.now ⟨by simp only; omega, hp2⟩)))
  · refine EvX.bindc (spec_l1Int.ex s p2 q2 _ hs hp2 (by simp) (by simp)) ?_
    rintro ⟨a, p3, q3⟩ ⟨_, hp3⟩
    exact EvX.now ⟨by simp only; omega, hp3⟩
  · refine EvX.bindc (spec_l1Int.ex s p2 q2 _ hs hp2 (by simp) (by simp)) ?_
    rintro ⟨a, p3, q3⟩ ⟨_, hp3⟩
    exact EvX.now ⟨by simp only; omega, hp3⟩
  · refine EvX.bindc (spec_l1Below.ex s p2 q2 9 hs hp2 (by omega)) ?_
    rintro ⟨a, p3, q3⟩ ⟨_, hp3⟩
    refine EvX.bindc (spec_l1Int.ex s p3 q3 _ hs hp3 (by simp) (by simp)) ?_
    rintro ⟨b, p4, q4⟩ ⟨_, hp4⟩
    refine EvX.bindc (spec_l1Int.ex s p4 q4 _ hs hp4 (by simp) (by simp)) ?_
    rintro ⟨c, p5, q5⟩ ⟨_, hp5⟩
    exact EvX.yes (by omega) (EvX.now ⟨by simp; omega, hp5⟩)
/-! spec_l6Key -/
theorem spec_l6Key.ex (s : List Int) (p q : Int) (hs : s.length ≤ 1048576) (hp : 0 ≤ p) : ∃ a, spec_l6Key.f s p q = some a ∧ 0 ≤ a.2.1 := by
  unfold spec_l6Key.f
  obtain ⟨a, ha, hap⟩ := spec_l1Once.ex s p q 10 hs hp (by omega)
  rw [ha, bind_some_]
  by_cases h : a.1 = true
  · rw [if_pos h]
    obtain ⟨b, hb, _, hbp⟩ := spec_l1Int.ex s a.2.1 a.2.2 [0, -1, 1, 2147483646, 2147483647] hs hap (by simp) (by simp)
    rw [hb, bind_some_]; exact ⟨_, rfl, hbp⟩
  · rw [if_neg h]
    obtain ⟨b, hb, _, hbp⟩ := spec_l1Below.ex s a.2.1 a.2.2 99999 hs hap (by omega)
    rw [hb, bind_some_]; exact ⟨_, rfl, hbp⟩
/-! spec_DrawAddCredential -/
theorem spec_DrawAddCredential.ex (l : List Int) (hl : l.length ≤ 1048576) : EvX (fun k => spec_DrawAddCredential.f k l) (fun r => r.2.2.1.length ≤ 9) := by
  unfold spec_DrawAddCredential.f
  refine EvX.bind (spec_l1New.ex l hl) ?_
  rintro ⟨s, p, q⟩ ⟨rfl, hp⟩
  have hp0 : 0 ≤ p := by simp only at hp; omega
  simp only at hl ⊢
  refine EvX.bind (spec_l14Any.ex s p q hl hp0) ?_
  rintro ⟨x, y, c, p1, q1⟩ ⟨hc, hp1⟩
  refine EvX.bindc (spec_l1Int.ex s p1 q1 _ hl hp1 (by simp) (by simp)) ?_
  rintro ⟨h, p2, q2⟩ ⟨_, hp2⟩
  refine EvX.bindc (spec_l6Key.ex s p2 q2 hl hp2) ?_
  rintro ⟨k, p3, q3⟩ hp3
  simp only at hc hp3 ⊢
  simp only [spec_PublicKey.eq, bind_some_]
  refine EvX.ite (fun h0 => EvX.bindc (spec_l1Once.ex s p3 q3 6 hl hp3 (by omega)) ?_) (fun _ => EvX.now hc)
  rintro ⟨o, p4, q4⟩ _
  exact EvX.ite (fun _ => EvX.yes (by omega) (EvX.now hc)) (fun _ => EvX.now hc)

/-! the law -/
theorem FnCredentials : ∀ (l0 : List Int), l0.length ≤ 9223372036854775807 → ∃ k, laws_FnCredentials.f k l0 = some true := by
  intro l h0
  apply Ev.rounds (r := true)
  unfold laws_FnCredentials.f
  simp only [laws_big.eq, bind_some_]
  refine Ev.ite (fun _ => Ev.now _) (fun hbig => ?_)
  have hl : l.length ≤ 1048576 := by simp at hbig; omega
  refine Ev.drawn (spec_DrawAddCredential.ex l hl) ?_
  rintro ⟨x, y, c, h, p⟩ hc
  simp only at hc ⊢
  refine Ev.bind (impl_AddCredential.ev x y c h p (by omega)) (Ev.bind (spec_AddCredential.ev x y c h p (by omega)) (Ev.no (by simp) ?_))
  by_cases hok : M.validAcc x y c = true ∧ M.validAcc x y (M.insC c h p) = true
  · have hA : M.addC x y c h p = (x, y, M.insC c h p, true) := by unfold M.addC; rw [if_pos hok]
    rw [hA]
    simp only
    have hl8 := ((validAcc_iff _ _ _).1 hok.2).2.2.1
    have hf := insC_find hok.2
    obtain ⟨hn, hat⟩ := insC_at c h p
    have hll := insC_len c h p
    have hle := insAt_le h c
    have hmem : (⟨h, p, 0, false⟩ : S35) ∈ M.insC c h p := by rw [← hat]; exact List.getElem_mem hn
    obtain ⟨b, hb⟩ : ∃ b, b = M.insC c h p := ⟨_, rfl⟩
    obtain ⟨n, hnn⟩ : ∃ n, n = M.insAt h c := ⟨_, rfl⟩
    rw [← hb] at hok hl8 hf hll hmem ⊢
    rw [← hnn] at hf hle
    have hn' : n < b.length := by omega
    have hat' : b[n] = ⟨h, p, 0, false⟩ := by subst hb; subst hnn; exact hat
    have hT1 : M.addC x y b h 5 = (x, y, b, false) := by unfold M.addC; rw [if_neg]; rintro ⟨_, hh⟩; rw [insC_twice hmem (.inl rfl)] at hh; cases hh
    have hT2 : M.addC x y b (Int.tmod (wrap64 (h + 1)) 999) p = (x, y, b, false) := by unfold M.addC; rw [if_neg]; rintro ⟨_, hh⟩; rw [insC_twice hmem (.inr rfl)] at hh; cases hh
    have hcut : M.cutC x y b h = (x, y, b.set n ⟨b[n].f0, b[n].f1, b[n].f2, true⟩, true) := by
      unfold M.cutC M.cAt
      rw [hf, rd_Credential hn', if_pos ⟨hok.2, by omega, by rw [hat']⟩]; rfl
    have hcv := set_valid hok.2 hn'
    have hf2 : M.findC (b.set n ⟨b[n].f0, b[n].f1, b[n].f2, true⟩) h = (n : Int) := by
      rw [← hf]; unfold M.findC; exact findCFrom_set h b n hn' _ 0 rfl
    have hmore : M.cutC x y (b.set n ⟨b[n].f0, b[n].f1, b[n].f2, true⟩) h = (x, y, b.set n ⟨b[n].f0, b[n].f1, b[n].f2, true⟩, false) := by
      unfold M.cutC M.cAt
      rw [hf2, rd_Credential (by simpa using hn'), if_neg]
      rintro ⟨_, _, hh⟩; simp at hh
    have A1 := impl_AddCredential.ev x y b h 5 (by omega)
    have A2 := impl_AddCredential.ev x y b (Int.tmod (wrap64 (h + 1)) 999) p (by omega)
    have C1 := impl_CutCredential.ev x y b h (by omega)
    have C2 := impl_CutCredential.ev x y (b.set n ⟨b[n].f0, b[n].f1, b[n].f2, true⟩) h (by simp; omega)
    have V1 := impl_IsValidAccount.ev x y (b.set n ⟨b[n].f0, b[n].f1, b[n].f2, true⟩) (by simp; omega)
    have F1 := impl_FindCredential.ev x y b h (by omega)
    rw [hT1] at A1
    rw [hT2] at A2
    rw [hcut] at C1
    rw [hmore] at C2
    rw [hcv] at V1
    rw [hf] at F1
    refine Ev.yes trivial (Ev.bind F1 (Ev.bind A1 (Ev.bind A2 (Ev.bind C1 (Ev.bind C2 (Ev.yes (by omega) (Ev.yes (by omega) (Ev.yes (by omega) (Ev.yes ?_ (Ev.no ?_ (Ev.yes ?_ (Ev.no (by simp) (Ev.no (by simp) (Ev.yes rfl (Ev.no (by simp) (Ev.bind V1 (Ev.now _)))))))))))))))))
    · rw [rd_Credential hn', hat']
    · rw [rd_Credential hn', hat']; simp
    · rw [wrap_in (by omega) (by omega)]; omega
  · have hA : M.addC x y c h p = (x, y, c, false) := by unfold M.addC; rw [if_neg hok]
    rw [hA]
    have hE := impl_EqualAccounts.ev x y c x y c (by omega) (by omega)
    rw [(equalAccounts_iff _ _ _ _ _ _).2 ⟨rfl, rfl, rfl⟩] at hE
    exact Ev.no (by simp) (Ev.bind hE (Ev.now _))
end Go.Proofs.Ytgcipecdaimjfaa.Pure
