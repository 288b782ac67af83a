/- Merging bundles is commutative, associative and idempotent, and loses nothing. -/
import Derived.Test.YtjdkkfbcpbjpkaaOpFnBundles
import Derived.Test.YtjdkkfbcpbjpkaaTFnBundles
namespace Go.Proofs.Ytjdkkfbcpbjpkaa.Pure
open Go.RowKit Go.Proofs.Ytjdkkfbcpbjpkaa.PFnBundles Go.Proofs.YtjdkkfbcpbjpkaaW.PrintWords Go.Proofs.YtjdkkfbcpbjpkaaW.PrintLast
set_option linter.unusedVariables false
set_option linter.unusedSimpArgs false

/-! base -/
theorem wrap_in {n : Int} (h1 : -9223372036854775808 ≤ n) (h2 : n ≤ 9223372036854775807) : wrap64 n = n := by unfold wrap64; omega
theorem wrap_succ {i n : Nat} (h : i < n) (hn : n ≤ 1152921504606846976) : wrap64 ((i : Int) + 1) = ((i + 1 : Nat) : Int) := by unfold wrap64; omega
theorem wrap_pred {i : Nat} (h : 0 < i) (hn : i ≤ 1152921504606846976) : wrap64 ((i : Int) - 1) = ((i - 1 : Nat) : Int) := by unfold wrap64; omega
theorem Ev.eq {α : Type} {r s : α} (h : r = s) : Ev (fun _ => some r) s := h ▸ Ev.now r
theorem Ev.opt {α : Type} {o : Option α} {r : α} (h : o = some r) : Ev (fun _ => o) r := h ▸ Ev.now r
theorem Ev.yes {α : Type} {c : Prop} [Decidable c] {g f : Nat → Option α} {r : α} (h : c) (k : Ev g r) : Ev (fun n => if c then g n else f n) r := by simpa [h] using k
theorem Ev.no {α : Type} {c : Prop} [Decidable c] {g f : Nat → Option α} {r : α} (h : ¬ c) (k : Ev f r) : Ev (fun n => if c then g n else f n) r := by simpa [h] using k
theorem Ev.ite {α : Type} {c : Prop} [Decidable c] {g f : Nat → Option α} {r : α} (h : c → Ev g r) (k : ¬ c → Ev f r) : Ev (fun n => if c then g n else f n) r := by
  by_cases hc : c
  · exact Ev.yes hc (h hc)
  · exact Ev.no hc (k hc)
theorem Ev.bindc {α β : Type} {o : Option α} {a : α} {f : Nat → α → Option β} {r : β} (h : o = some a) (k : Ev (fun n => f n a) r) : Ev (fun n => o.bind (f n)) r := by subst h; exact k
theorem Ev.round {α : Type} {g : Nat → Option α} {r : α} (h : Ev (fun k => g (k + 1)) r) : Ev g r := Ev.step (fun _ => rfl) h
theorem Ev.conv {α : Type} {g : Nat → Option α} {r s : α} (k : Ev g r) (h : r = s) : Ev g s := h ▸ k
theorem bind_some_ {α β : Type} (a : α) (f : α → Option β) : (some a).bind f = f a := rfl
/-- A loop that counts: from each place on, the answer is what 'val' says. -/
theorem Ev.loop {σ β : Type} (g : Nat → Nat → σ → Option β) (n : Nat) (val : Nat → σ → β) (Inv : Nat → σ → Prop)
    (done : ∀ s, Inv n s → Ev (fun k => g k n s) (val n s))
    (step : ∀ i s, i < n → Inv i s → (∀ s', Inv (i + 1) s' → Ev (fun k => g k (i + 1) s') (val (i + 1) s')) → Ev (fun k => g k i s) (val i s)) :
    ∀ i s, i ≤ n → Inv i s → Ev (fun k => g k i s) (val i s) := by
  have : ∀ d i s, i + d = n → Inv i s → Ev (fun k => g k i s) (val i s) := by
    intro d
    induction d with
    | zero =>
      intro i s hi hs
      obtain rfl : i = n := by omega
      exact done s hs
    | succ d ih => intro i s hi hs; exact step i s (by omega) hs (fun s' hs' => ih (i + 1) s' (by omega) hs')
  intro i s hi hs
  exact this (n - i) i s (by omega) hs
theorem getD_lt {α : Type} {l : List α} {i : Nat} (h : i < l.length) (d : α) : l.getD i d = l[i] := by simp [List.getD_eq_getElem?_getD, h]
theorem rd_get {l : List Int} {i : Nat} (h : i < l.length) : rd l (i : Int) = l[i] := by unfold rd; exact getD_lt h _
theorem take_fill {α β : Type} (f : α → β) (l : List α) (z : β) {i : Nat} (h : i < l.length) :
    ((l.take i).map f ++ List.replicate (l.length - i) z).set i (f l[i]) = (l.take (i + 1)).map f ++ List.replicate (l.length - (i + 1)) z := by
  have e : l.length - i = (l.length - (i + 1)) + 1 := by omega
  rw [e, List.replicate_succ, List.set_append_right _ _ (by simp; omega)]
  have : i - (List.map f (List.take i l)).length = 0 := by simp; omega
  rw [this, List.set_cons_zero, List.take_succ_eq_append_getElem h, List.map_append]
  simp
theorem fill_len {α β : Type} (f : α → β) (l : List α) (z : β) {i : Nat} (h : i ≤ l.length) : ((l.take i).map f ++ List.replicate (l.length - i) z).length = l.length := by simp; omega
theorem fill_end {α β : Type} (f : α → β) (l : List α) (z : β) : (l.take l.length).map f ++ List.replicate (l.length - l.length) z = l.map f := by simp
theorem drop_get {α : Type} {l : List α} {i : Nat} (h : i < l.length) : l.drop i = l[i] :: l.drop (i + 1) := List.drop_eq_getElem_cons h
theorem drop_end {α : Type} (l : List α) : l.drop l.length = [] := List.drop_eq_nil_of_le (Nat.le_refl _)
/-! rd-Entry -/
theorem rd_Entry {l : List S116} {i : Nat} (h : i < l.length) : rd_T116 l (i : Int) = l[i] := by unfold rd_T116; exact getD_lt h _
/-! inrange -/
def M.inr (a b c : Int) : Bool := decide (b ≤ a ∧ a ≤ c)
theorem inr_true {a b c : Int} : M.inr a b c = true ↔ b ≤ a ∧ a ≤ c := by simp [M.inr]
/-! isbundle -/
def M.okE (e : S116) : Bool := M.inr e.f0 0 2147483646 && (M.inr e.f1 0 1000000 && M.inr e.f2 1 1000000)
def M.lessE (a b : S116) : Bool := decide (a.f0 < b.f0) || (decide (a.f0 = b.f0) && decide (a.f1 < b.f1))
/-- All entries are in range, and each comes behind the one before it. -/
def M.rises : Option S116 → List S116 → Bool
  | _, [] => true
  | none, e :: l => M.okE e && M.rises (some e) l
  | some p, e :: l => M.okE e && (M.lessE p e && M.rises (some e) l)
def M.isBundle (l : List S116) : Bool := decide (l.length ≤ 20) && M.rises none l
/-- The element before a place. -/
def M.before (l : List S116) (i : Nat) : Option S116 := if i = 0 then none else l[i - 1]?
theorem before_succ (l : List S116) (i : Nat) (h : i < l.length) : M.before l (i + 1) = some l[i] := by
  unfold M.before; rw [if_neg (by omega)]; simp [h]
theorem rises_at (l : List S116) (i : Nat) (h : i < l.length) : M.rises (M.before l i) (l.drop i) = (M.okE l[i] && ((decide (i = 0) || M.lessE (l[i - 1]'(by omega)) l[i]) && M.rises (M.before l (i + 1)) (l.drop (i + 1)))) := by
  rw [drop_get h, before_succ l i h]
  by_cases h0 : i = 0
  · subst h0; simp [M.before, M.rises]
  · unfold M.before; rw [if_neg h0, List.getElem?_eq_getElem (by omega)]; simp [M.rises, h0]
theorem isBundle_len {l : List S116} (h : M.isBundle l = true) : l.length ≤ 20 := by
  unfold M.isBundle at h; simp only [Bool.and_eq_true, decide_eq_true_eq] at h; exact h.1
/-! findentry -/
/-- The place of an entry, counted from i on; -1 where there is none. -/
def M.findFrom (s h : Int) : List S116 → Int → Int
  | [], _ => -1
  | e :: l, i => if e.f0 = s ∧ e.f1 = h then i else M.findFrom s h l (i + 1)
def M.findEntry (l : List S116) (s h : Int) : Int := M.findFrom s h l 0
/-! putm -/
theorem lessE_iff {a b : S116} : M.lessE a b = true ↔ a.f0 < b.f0 ∨ (a.f0 = b.f0 ∧ a.f1 < b.f1) := by simp [M.lessE]
theorem lessE_false {a b : S116} : M.lessE a b = false ↔ ¬ (a.f0 < b.f0 ∨ (a.f0 = b.f0 ∧ a.f1 < b.f1)) := by rw [← lessE_iff]; simp
/-- Strictly ascending. -/
def M.asc (l : List S116) : Prop := l.Pairwise fun a b => M.lessE a b = true
theorem rises_asc : ∀ (l : List S116) (p : Option S116), M.rises p l = true → M.asc l ∧ (∀ e ∈ l, M.okE e = true) ∧ ∀ q, p = some q → ∀ e ∈ l, M.lessE q e = true
  | [], p, _ => ⟨List.Pairwise.nil, by simp, by simp⟩
  | e :: l, p, h => by
    have h2 : M.okE e = true ∧ M.rises (some e) l = true ∧ ∀ q, p = some q → M.lessE q e = true := by
      cases p with
      | none => simp only [M.rises, Bool.and_eq_true] at h; exact ⟨h.1, h.2, by simp⟩
      | some q => simp only [M.rises, Bool.and_eq_true] at h; exact ⟨h.1, h.2.2, fun q' hq => by cases hq; exact h.2.1⟩
    obtain ⟨i1, i2, i3⟩ := rises_asc l (some e) h2.2.1
    refine ⟨List.Pairwise.cons (fun b hb => i3 e rfl b hb) i1, ?_, ?_⟩
    · intro b hb
      rcases List.mem_cons.1 hb with rfl | hb
      · exact h2.1
      · exact i2 b hb
    · intro q hq b hb
      have hqe := h2.2.2 q hq
      rcases List.mem_cons.1 hb with rfl | hb
      · exact hqe
      · have := i3 e rfl b hb
        rw [lessE_iff] at *; omega
theorem isBundle_iff (l : List S116) : M.isBundle l = true ↔ l.length ≤ 20 ∧ M.asc l ∧ ∀ e ∈ l, M.okE e = true := by
  unfold M.isBundle
  constructor
  · intro h
    simp only [Bool.and_eq_true, decide_eq_true_eq] at h
    obtain ⟨h1, h2, _⟩ := rises_asc l none h.2
    exact ⟨h.1, h1, h2⟩
  · rintro ⟨h1, h2, h3⟩
    simp only [Bool.and_eq_true, decide_eq_true_eq]
    refine ⟨h1, ?_⟩
    have : ∀ (l : List S116) (p : Option S116), M.asc l → (∀ e ∈ l, M.okE e = true) → (∀ q, p = some q → ∀ e ∈ l, M.lessE q e = true) → M.rises p l = true := by
      intro l
      induction l with
      | nil => intro p _ _ _; cases p <;> rfl
      | cons e l ih =>
        intro p ha ho hp
        have ha' := List.pairwise_cons.1 ha
        have hr := ih (some e) ha'.2 (fun b hb => ho b (List.mem_cons_of_mem _ hb)) (fun q hq b hb => by cases hq; exact ha'.1 b hb)
        have hoe := ho e List.mem_cons_self
        cases p with
        | none => simp [M.rises, hoe, hr]
        | some q => simp [M.rises, hoe, hr, hp q rfl e List.mem_cons_self]
    exact this l none h2 h3 (by simp)
/-- Which of two entries of one place stays. -/
def M.pick (x e : S116) : S116 := if e.f2 > x.f2 ∨ (e.f2 = x.f2 ∧ e.f3 = true) then e else x
/-- An entry put into a row that ascends. -/
def M.put1 (e : S116) : List S116 → List S116
  | [] => [e]
  | x :: l => if M.lessE x e = true then x :: M.put1 e l else if M.lessE e x = true then e :: x :: l else M.pick x e :: l
def M.merge : List S116 → List S116 → List S116
  | [], b => b
  | x :: a, [] => x :: a
  | x :: a, y :: b => if M.lessE x y = true then x :: M.merge a (y :: b) else if M.lessE y x = true then y :: M.merge (x :: a) b else M.pick x y :: M.merge a b
termination_by a b => a.length + b.length
theorem merge_nil (a : List S116) : M.merge a [] = a := by cases a <;> simp [M.merge]
theorem nil_merge (a : List S116) : M.merge [] a = a := by simp [M.merge]
theorem merge_cons (x y : S116) (a b : List S116) : M.merge (x :: a) (y :: b) = if M.lessE x y = true then x :: M.merge a (y :: b) else if M.lessE y x = true then y :: M.merge (x :: a) b else M.pick x y :: M.merge a b := by rw [M.merge]
theorem pick_key (x e : S116) (h : x.f0 = e.f0 ∧ x.f1 = e.f1) : (M.pick x e).f0 = e.f0 ∧ (M.pick x e).f1 = e.f1 := by unfold M.pick; split <;> simp [h]
theorem same_key {x e : S116} (h1 : ¬ M.lessE x e = true) (h2 : ¬ M.lessE e x = true) : x.f0 = e.f0 ∧ x.f1 = e.f1 := by rw [lessE_iff] at h1 h2; omega
theorem merge_small (x : S116) (a b : List S116) (h : ∀ z ∈ b, M.lessE x z = true) : M.merge (x :: a) b = x :: M.merge a b := by
  cases b with
  | nil => rw [merge_nil, merge_nil]
  | cons z b => rw [merge_cons, if_pos (h z List.mem_cons_self)]
theorem merge_put (y : S116) (b : List S116) (hb : ∀ z ∈ b, M.lessE y z = true) : ∀ a : List S116, M.merge a (y :: b) = M.merge (M.put1 y a) b
  | [] => by rw [nil_merge, M.put1, merge_small y [] b hb, nil_merge]
  | x :: a => by
    rw [merge_cons, M.put1]
    by_cases h1 : M.lessE x y = true
    · rw [if_pos h1, if_pos h1, merge_put y b hb a, merge_small x _ b]
      intro z hz
      have := hb z hz
      rw [lessE_iff] at *; omega
    · rw [if_neg h1, if_neg h1]
      by_cases h2 : M.lessE y x = true
      · rw [if_pos h2, if_pos h2, merge_small y _ b hb]
      · rw [if_neg h2, if_neg h2, merge_small _ _ b]
        intro z hz
        have hk := pick_key x y (same_key h1 h2)
        have := hb z hz
        rw [lessE_iff] at *; rw [hk.1, hk.2]; exact this
theorem merge_fold : ∀ (b a : List S116), M.asc b → b.foldl (fun o e => M.put1 e o) a = M.merge a b
  | [], a, _ => by rw [merge_nil]; rfl
  | y :: b, a, h => by
    have h' := List.pairwise_cons.1 h
    rw [List.foldl_cons, merge_fold b _ h'.2, merge_put y b h'.1]
theorem put1_mem (e : S116) : ∀ (l : List S116) (z : S116), z ∈ M.put1 e l → (∃ x ∈ l, z.f0 = x.f0 ∧ z.f1 = x.f1) ∨ (z.f0 = e.f0 ∧ z.f1 = e.f1)
  | [], z, h => by rw [M.put1] at h; rw [List.mem_singleton.1 h]; exact .inr ⟨rfl, rfl⟩
  | x :: l, z, h => by
    rw [M.put1] at h
    by_cases h1 : M.lessE x e = true
    · rw [if_pos h1] at h
      rcases List.mem_cons.1 h with rfl | h
      · exact .inl ⟨z, List.mem_cons_self, rfl, rfl⟩
      · rcases put1_mem e l z h with ⟨x', hx, hk⟩ | hk
        · exact .inl ⟨x', List.mem_cons_of_mem _ hx, hk⟩
        · exact .inr hk
    · rw [if_neg h1] at h
      by_cases h2 : M.lessE e x = true
      · rw [if_pos h2] at h
        rcases List.mem_cons.1 h with rfl | h
        · exact .inr ⟨rfl, rfl⟩
        · exact .inl ⟨z, h, rfl, rfl⟩
      · rw [if_neg h2] at h
        rcases List.mem_cons.1 h with rfl | h
        · exact .inr (pick_key x e (same_key h1 h2))
        · exact .inl ⟨z, List.mem_cons_of_mem _ h, rfl, rfl⟩
theorem put1_asc (e : S116) : ∀ (l : List S116), M.asc l → M.asc (M.put1 e l)
  | [], _ => by rw [M.put1]; exact List.pairwise_singleton _ _
  | x :: l, h => by
    have h' := List.pairwise_cons.1 h
    rw [M.put1]
    by_cases h1 : M.lessE x e = true
    · rw [if_pos h1]
      refine List.Pairwise.cons ?_ (put1_asc e l h'.2)
      intro z hz
      rcases put1_mem e l z hz with ⟨x', hx, hk⟩ | hk
      · have := h'.1 x' hx
        rw [lessE_iff] at *; omega
      · rw [lessE_iff] at *; omega
    · rw [if_neg h1]
      by_cases h2 : M.lessE e x = true
      · rw [if_pos h2]
        refine List.Pairwise.cons ?_ h
        intro z hz
        rcases List.mem_cons.1 hz with rfl | hz
        · exact h2
        · have := h'.1 z hz
          rw [lessE_iff] at *; omega
      · rw [if_neg h2]
        refine List.Pairwise.cons ?_ h'.2
        intro z hz
        have hk := pick_key x e (same_key h1 h2)
        have hs := same_key h1 h2
        have := h'.1 z hz
        rw [lessE_iff] at *; rw [hk.1, hk.2]; omega
theorem put1_len (e : S116) : ∀ (l : List S116), (M.put1 e l).length ≤ l.length + 1
  | [] => by simp [M.put1]
  | x :: l => by
    have := put1_len e l
    rw [M.put1]; split
    · simp; omega
    · split <;> simp
theorem findFrom_bounds (s h : Int) : ∀ (l : List S116) (i : Int), M.findFrom s h l i = -1 ∨ (i ≤ M.findFrom s h l i ∧ M.findFrom s h l i < i + l.length)
  | [], i => .inl rfl
  | e :: l, i => by
    unfold M.findFrom
    split
    · exact .inr ⟨by omega, by simp; omega⟩
    · rcases findFrom_bounds s h l (i + 1) with h2 | h2
      · exact .inl h2
      · exact .inr ⟨by omega, by simp; omega⟩
theorem findEntry_bounds (l : List S116) (s h : Int) : M.findEntry l s h = -1 ∨ (0 ≤ M.findEntry l s h ∧ M.findEntry l s h < l.length) := by
  have := findFrom_bounds s h l 0
  unfold M.findEntry; omega
theorem findFrom_shift (s h : Int) : ∀ (l : List S116) (i : Int), 0 ≤ i → M.findFrom s h l (i + 1) = if M.findFrom s h l i < 0 then -1 else M.findFrom s h l i + 1
  | [], i, _ => by simp [M.findFrom]
  | e :: l, i, hi => by
    unfold M.findFrom
    by_cases hk : e.f0 = s ∧ e.f1 = h
    · rw [if_pos hk, if_pos hk, if_neg (by omega)]
    · rw [if_neg hk, if_neg hk]; exact findFrom_shift s h l (i + 1) (by omega)
theorem findEntry_cons (e : S116) (l : List S116) (s h : Int) : M.findEntry (e :: l) s h = if e.f0 = s ∧ e.f1 = h then 0 else if M.findEntry l s h < 0 then -1 else M.findEntry l s h + 1 := by
  unfold M.findEntry
  rw [M.findFrom, findFrom_shift s h l 0 (by omega)]
/-- The entry at a place, as the program reads it. -/
def M.eAt (l : List S116) (k : Int) : S116 := rd_T116 l k
theorem eAt_cons (e : S116) (l : List S116) (k : Int) (h : 0 ≤ k) (hl : k < l.length) : M.eAt (e :: l) (k + 1) = M.eAt l k := by
  obtain ⟨n, rfl⟩ := Int.eq_ofNat_of_zero_le h
  have hn : n < l.length := by omega
  show rd_T116 (e :: l) ((n : Int) + 1) = rd_T116 l (n : Int)
  rw [show ((n : Int) + 1) = ((n + 1 : Nat) : Int) from rfl, rd_Entry (by simp; omega), rd_Entry hn]; rfl
/-- Where a new entry is put. -/
def M.insE (e : S116) : List S116 → Nat
  | [] => 0
  | c :: l => if M.lessE c e = true then M.insE e l + 1 else 0
theorem insE_le (e : S116) : ∀ l : List S116, M.insE e l ≤ l.length
  | [] => Nat.le_refl _
  | c :: l => by have := insE_le e l; unfold M.insE; split <;> simp <;> omega
theorem insE_drop (e : S116) (l : List S116) (i : Nat) (hi : i < l.length) : M.insE e (l.drop i) = if M.lessE l[i] e = true then M.insE e (l.drop (i + 1)) + 1 else 0 := by
  rw [drop_get hi]; rfl
def M.insertE (l : List S116) (e : S116) : List S116 := l.take (M.insE e l) ++ [e] ++ l.drop (M.insE e l)
theorem insertE_len (l : List S116) (e : S116) : (M.insertE l e).length = l.length + 1 := by
  have := insE_le e l
  simp [M.insertE]; omega
theorem insertE_cons (c : S116) (l : List S116) (e : S116) : M.insertE (c :: l) e = if M.lessE c e = true then c :: M.insertE l e else e :: c :: l := by
  unfold M.insertE
  rw [show M.insE e (c :: l) = if M.lessE c e = true then M.insE e l + 1 else 0 from rfl]
  split <;> simp
def M.setE (l : List S116) (e : S116) : List S116 := if 0 ≤ M.findEntry l e.f0 e.f1 then l.set (M.findEntry l e.f0 e.f1).toNat e else M.insertE l e
theorem setE_len (l : List S116) (e : S116) : l.length ≤ (M.setE l e).length ∧ (M.setE l e).length ≤ l.length + 1 := by
  unfold M.setE; split
  · simp
  · rw [insertE_len]; omega
theorem find_none {l : List S116} {s h : Int} (hn : ∀ z ∈ l, ¬ (z.f0 = s ∧ z.f1 = h)) : M.findEntry l s h = -1 := by
  unfold M.findEntry
  have : ∀ (l : List S116) (i : Int), (∀ z ∈ l, ¬ (z.f0 = s ∧ z.f1 = h)) → M.findFrom s h l i = -1 := by
    intro l
    induction l with
    | nil => intro i _; rfl
    | cons e l ih => intro i hn; rw [M.findFrom, if_neg (hn e List.mem_cons_self)]; exact ih _ (fun z hz => hn z (List.mem_cons_of_mem _ hz))
  exact this l 0 hn
/-- What the reference does with one entry of the other bundle. -/
def M.putS (o : List S116) (e : S116) : List S116 :=
  if M.findEntry o e.f0 e.f1 < 0 then M.setE o e else if e.f2 > (M.eAt o (M.findEntry o e.f0 e.f1)).f2 ∨ (e.f2 = (M.eAt o (M.findEntry o e.f0 e.f1)).f2 ∧ e.f3 = true) then M.setE o e else o
theorem putS_new {o : List S116} {e : S116} (h : M.findEntry o e.f0 e.f1 < 0) : M.putS o e = M.insertE o e := by
  unfold M.putS M.setE; rw [if_pos h, if_neg (by omega)]
theorem putS_old {o : List S116} {e : S116} (h : 0 ≤ M.findEntry o e.f0 e.f1) : M.putS o e = if e.f2 > (M.eAt o (M.findEntry o e.f0 e.f1)).f2 ∨ (e.f2 = (M.eAt o (M.findEntry o e.f0 e.f1)).f2 ∧ e.f3 = true) then o.set (M.findEntry o e.f0 e.f1).toNat e else o := by
  unfold M.putS M.setE; rw [if_neg (by omega), if_pos h]
theorem putS_eq (e : S116) : ∀ (l : List S116), M.asc l → M.putS l e = M.put1 e l
  | [], _ => by
    have : M.findEntry [] e.f0 e.f1 = -1 := rfl
    rw [putS_new (by omega)]; rfl
  | x :: l, h => by
    have h' := List.pairwise_cons.1 h
    have ih := putS_eq e l h'.2
    have hb := findEntry_bounds l e.f0 e.f1
    rw [M.put1]
    by_cases h1 : M.lessE x e = true
    · rw [if_pos h1, ← ih]
      have hne : ¬ (x.f0 = e.f0 ∧ x.f1 = e.f1) := by rw [lessE_iff] at h1; omega
      by_cases hf : M.findEntry l e.f0 e.f1 < 0
      · have hx : M.findEntry (x :: l) e.f0 e.f1 < 0 := by rw [findEntry_cons, if_neg hne, if_pos hf]; omega
        rw [putS_new hx, putS_new hf, insertE_cons, if_pos h1]
      · have hx : M.findEntry (x :: l) e.f0 e.f1 = M.findEntry l e.f0 e.f1 + 1 := by rw [findEntry_cons, if_neg hne, if_neg hf]
        have hk : M.eAt (x :: l) (M.findEntry l e.f0 e.f1 + 1) = M.eAt l (M.findEntry l e.f0 e.f1) := eAt_cons x l _ (by omega) (by omega)
        have ht : (M.findEntry l e.f0 e.f1 + 1).toNat = (M.findEntry l e.f0 e.f1).toNat + 1 := by omega
        rw [putS_old (by omega), putS_old (by omega), hx, hk, ht, List.set_cons_succ]
        split <;> rfl
    · rw [if_neg h1]
      by_cases h2 : M.lessE e x = true
      · rw [if_pos h2]
        have hnone : M.findEntry (x :: l) e.f0 e.f1 = -1 := find_none (by
          intro z hz
          rcases List.mem_cons.1 hz with rfl | hz
          · rw [lessE_iff] at h2; omega
          · have := h'.1 z hz
            rw [lessE_iff] at this h2; omega)
        rw [putS_new (by omega), insertE_cons, if_neg h1]
      · rw [if_neg h2]
        have hk := same_key h1 h2
        have hx : M.findEntry (x :: l) e.f0 e.f1 = 0 := by rw [findEntry_cons, if_pos hk]
        have he : M.eAt (x :: l) 0 = x := rfl
        rw [putS_old (by omega), hx, he]
        unfold M.pick
        split <;> rfl
theorem putS_len (o : List S116) (e : S116) : (M.putS o e).length ≤ o.length + 1 := by
  unfold M.putS
  have := setE_len o e
  split
  · omega
  · split <;> omega
def M.mergeB (a b : List S116) : List S116 × Bool := if M.isBundle a = true ∧ M.isBundle b = true ∧ M.isBundle (M.merge a b) = true then (M.merge a b, true) else (a, false)
theorem mergeB_len (a b : List S116) (ha : a.length ≤ 1048576) : (M.mergeB a b).1.length ≤ 1048576 := by
  unfold M.mergeB; split
  · rename_i h; have := ((isBundle_iff _).1 h.2.2).1; simp only; omega
  · exact ha
/-! setkey -/
theorem lessE_key {a a' b b' : S116} (h1 : a.f0 = a'.f0) (h2 : a.f1 = a'.f1) (h3 : b.f0 = b'.f0) (h4 : b.f1 = b'.f1) : M.lessE a b = M.lessE a' b' := by
  unfold M.lessE; rw [h1, h2, h3, h4]
theorem set_asc {l : List S116} {k : Nat} (hk : k < l.length) {e : S116} (h0 : e.f0 = l[k].f0) (h1 : e.f1 = l[k].f1) (h : M.asc l) : M.asc (l.set k e) := by
  unfold M.asc at *
  rw [List.pairwise_iff_getElem] at *
  intro i j hi hj hij
  have hi' : i < l.length := by simpa using hi
  have hj' : j < l.length := by simpa using hj
  have key : ∀ (n : Nat) (hn : n < (l.set k e).length) (hn' : n < l.length), (l.set k e)[n].f0 = l[n].f0 ∧ (l.set k e)[n].f1 = l[n].f1 := by
    intro n hn hn'
    rw [List.getElem_set]
    by_cases hkn : k = n
    · subst hkn; rw [if_pos rfl]; exact ⟨h0, h1⟩
    · rw [if_neg hkn]; exact ⟨rfl, rfl⟩
  rw [lessE_key (key i hi hi').1 (key i hi hi').2 (key j hj hj').1 (key j hj hj').2]
  exact h i j hi' hj' hij
theorem set_bundle {l : List S116} {k : Nat} (hk : k < l.length) {e : S116} (h0 : e.f0 = l[k].f0) (h1 : e.f1 = l[k].f1) (h : M.isBundle l = true) : M.isBundle (l.set k e) = M.okE e := by
  obtain ⟨b1, b2, b3⟩ := (isBundle_iff l).1 h
  cases ho : M.okE e with
  | true =>
    refine (isBundle_iff _).2 ⟨by simpa using b1, set_asc hk h0 h1 b2, ?_⟩
    intro z hz
    rcases List.mem_or_eq_of_mem_set hz with hz | rfl
    · exact b3 z hz
    · exact ho
  | false =>
    rw [Bool.eq_false_iff]; intro hb
    have := ((isBundle_iff _).1 hb).2.2 e (List.mem_set hk e)
    rw [ho] at this; cases this
theorem findFrom_key (s h : Int) : ∀ (l : List S116) (i : Int), 0 ≤ i → 0 ≤ M.findFrom s h l i → ∃ (n : Nat) (hn : n < l.length), M.findFrom s h l i = i + n ∧ l[n].f0 = s ∧ l[n].f1 = h
  | [], i, _, h2 => by simp [M.findFrom] at h2
  | e :: l, i, hi, h2 => by
    unfold M.findFrom at h2 ⊢
    by_cases hk : e.f0 = s ∧ e.f1 = h
    · rw [if_pos hk]; exact ⟨0, by simp, by simp, hk.1, hk.2⟩
    · rw [if_neg hk] at h2 ⊢
      obtain ⟨n, hn, h3, h4⟩ := findFrom_key s h l (i + 1) (by omega) h2
      exact ⟨n + 1, by simpa using hn, by omega, by simpa using h4⟩
theorem findEntry_key {l : List S116} {s h : Int} (hf : 0 ≤ M.findEntry l s h) : ∃ (n : Nat) (hn : n < l.length), M.findEntry l s h = n ∧ l[n].f0 = s ∧ l[n].f1 = h := by
  obtain ⟨n, hn, h3, h4⟩ := findFrom_key s h l 0 (by omega) hf
  exact ⟨n, hn, by unfold M.findEntry; omega, h4⟩
theorem set_rd {l : List S116} {n : Nat} (hn : n < l.length) (e : S116) : rd_T116 (l.set n e) (n : Int) = e := by
  rw [rd_Entry (by simpa using hn)]; simp
theorem ok_at {l : List S116} (h : M.isBundle l = true) {n : Nat} (hn : n < l.length) : (0 ≤ l[n].f0 ∧ l[n].f0 ≤ 2147483646) ∧ (0 ≤ l[n].f1 ∧ l[n].f1 ≤ 1000000) ∧ (1 ≤ l[n].f2 ∧ l[n].f2 ≤ 1000000) := by
  have := ((isBundle_iff l).1 h).2.2 l[n] (List.getElem_mem hn)
  simpa [M.okE, inr_true] using this
/-! put -/
/-- The version of an entry that is put. -/
def M.putV (l : List S116) (s h : Int) : Int := if 0 ≤ M.findEntry l s h then wrap64 ((M.eAt l (M.findEntry l s h)).f2 + 1) else 1
def M.putB (l : List S116) (s h : Int) : List S116 × Bool :=
  if 0 ≤ M.findEntry l s h ∧ (M.eAt l (M.findEntry l s h)).f3 = false then (l, false)
  else if M.isBundle l = true ∧ M.isBundle (M.setE l ⟨s, h, M.putV l s h, false⟩) = true then (M.setE l ⟨s, h, M.putV l s h, false⟩, true) else (l, false)
theorem putB_len (l : List S116) (s h : Int) (hl : l.length ≤ 1048576) : (M.putB l s h).1.length ≤ 1048576 := by
  unfold M.putB; split
  · exact hl
  · split
    · rename_i h1; have := ((isBundle_iff _).1 h1.2).1; simp only; omega
    · exact hl
/-! delete -/
def M.delB (l : List S116) (s h : Int) : List S116 × Bool :=
  if M.isBundle l = true ∧ 0 ≤ M.findEntry l s h ∧ (M.eAt l (M.findEntry l s h)).f3 = false ∧ (M.eAt l (M.findEntry l s h)).f2 ≠ 1000000 then (l.set (M.findEntry l s h).toNat ⟨s, h, (M.eAt l (M.findEntry l s h)).f2 + 1, true⟩, true) else (l, false)
theorem delB_len (l : List S116) (s h : Int) : (M.delB l s h).1.length = l.length := by
  unfold M.delB; split <;> simp
/-! eqbundle -/
def M.eqE (a b : S116) : Bool := a.f0 == b.f0 && (a.f1 == b.f1 && (a.f2 == b.f2 && a.f3 == b.f3))
theorem eqE_iff (a b : S116) : M.eqE a b = true ↔ a = b := by
  cases a; cases b; simp [M.eqE]
theorem neE (a b : S116) : (!(a.f0 == b.f0) || (!(a.f1 == b.f1) || (!(a.f2 == b.f2) || (!(a.f3 == b.f3))))) = !M.eqE a b := by
  unfold M.eqE; cases a.f0 == b.f0 <;> cases a.f1 == b.f1 <;> cases a.f2 == b.f2 <;> rfl
def M.eqEs : List S116 → List S116 → Bool
  | [], [] => true
  | a :: l, b :: r => M.eqE a b && M.eqEs l r
  | _, _ => false
theorem eqEs_len : ∀ {l r : List S116}, l.length ≠ r.length → M.eqEs l r = false
  | [], [], h => by simp at h
  | [], _ :: _, _ => rfl
  | _ :: _, [], _ => rfl
  | a :: l, b :: r, h => by simp only [M.eqEs, eqEs_len (l := l) (r := r) (by simpa using h), Bool.and_false]
theorem eqEs_iff : ∀ (l r : List S116), M.eqEs l r = true ↔ l = r
  | [], [] => by simp [M.eqEs]
  | [], _ :: _ => by simp [M.eqEs]
  | _ :: _, [] => by simp [M.eqEs]
  | a :: l, b :: r => by simp [M.eqEs, eqEs_iff l r, eqE_iff]
/-! mergeset -/
theorem lessE_self (y : S116) : ¬ M.lessE y y = true := by rw [lessE_iff]; omega
theorem lessE_same {a b : S116} (h0 : a.f0 = b.f0) (h1 : a.f1 = b.f1) : ¬ M.lessE a b = true := by rw [lessE_iff]; omega
theorem pick_self (y : S116) : M.pick y y = y := by unfold M.pick; split <;> rfl
theorem merge_self : ∀ l : List S116, M.merge l l = l
  | [] => merge_nil []
  | y :: l => by rw [merge_cons, if_neg (lessE_self y), if_neg (lessE_self y), pick_self, merge_self l]
theorem merge_set : ∀ (l : List S116) (n : Nat) (hn : n < l.length) (e : S116), e.f0 = l[n].f0 → e.f1 = l[n].f1 → M.pick l[n] e = e → M.merge l (l.set n e) = l.set n e
  | y :: l, 0, _, e, h0, h1, hp => by
    simp only [List.getElem_cons_zero] at h0 h1 hp
    rw [List.set_cons_zero, merge_cons, if_neg (lessE_same h0.symm h1.symm), if_neg (lessE_same h0 h1), hp, merge_self]
  | y :: l, n + 1, hn, e, h0, h1, hp => by
    simp only [List.getElem_cons_succ] at h0 h1 hp
    rw [List.set_cons_succ, merge_cons, if_neg (lessE_self y), if_neg (lessE_self y), pick_self, merge_set l n (by simpa using hn) e h0 h1 hp]
theorem set_merge : ∀ (l : List S116) (n : Nat) (hn : n < l.length) (e : S116), e.f0 = l[n].f0 → e.f1 = l[n].f1 → M.pick e l[n] = e → M.merge (l.set n e) l = l.set n e
  | y :: l, 0, _, e, h0, h1, hp => by
    simp only [List.getElem_cons_zero] at h0 h1 hp
    rw [List.set_cons_zero, merge_cons, if_neg (lessE_same h0 h1), if_neg (lessE_same h0.symm h1.symm), hp, merge_self]
  | y :: l, n + 1, hn, e, h0, h1, hp => by
    simp only [List.getElem_cons_succ] at h0 h1 hp
    rw [List.set_cons_succ, merge_cons, if_neg (lessE_self y), if_neg (lessE_self y), pick_self, set_merge l n (by simpa using hn) e h0 h1 hp]
theorem findFrom_set (s h : Int) : ∀ (l : List S116) (n : Nat) (hn : n < l.length) (e : S116) (i : Int), e.f0 = l[n].f0 → e.f1 = l[n].f1 → M.findFrom s h (l.set n e) i = M.findFrom s h l i
  | y :: l, 0, _, e, i, h0, h1 => by
    simp only [List.getElem_cons_zero] at h0 h1
    rw [List.set_cons_zero, M.findFrom, M.findFrom, h0, h1]
  | y :: l, n + 1, hn, e, i, h0, h1 => by
    simp only [List.getElem_cons_succ] at h0 h1
    rw [List.set_cons_succ, M.findFrom, M.findFrom, findFrom_set s h l n (by simpa using hn) e (i + 1) h0 h1]
theorem filter_set {α : Type} (p : α → Bool) : ∀ (l : List α) (n : Nat) (hn : n < l.length) (e : α), p l[n] = true → p e = false → ((l.set n e).filter p).length + 1 = (l.filter p).length
  | y :: l, 0, _, e, h0, h1 => by
    simp only [List.getElem_cons_zero] at h0
    rw [List.set_cons_zero, List.filter_cons_of_neg (by rw [h1]; simp), List.filter_cons_of_pos h0]; rfl
  | y :: l, n + 1, hn, e, h0, h1 => by
    simp only [List.getElem_cons_succ] at h0
    have ih := filter_set p l n (by simpa using hn) e h0 h1
    rw [List.set_cons_succ]
    cases hy : p y with
    | true => rw [List.filter_cons_of_pos hy, List.filter_cons_of_pos hy]; simp only [List.length_cons]; omega
    | false => rw [List.filter_cons_of_neg (by rw [hy]; simp), List.filter_cons_of_neg (by rw [hy]; simp)]; exact ih
/-! evx -/
/-- From some number of rounds on the printed function answers, and its answer meets P. -/
def EvX {α : Type} (g : Nat → Option α) (P : α → Prop) : Prop := ∃ r, Ev g r ∧ P r
theorem EvX.of {α : Type} {g : Nat → Option α} {P : α → Prop} {r : α} (h : Ev g r) (p : P r) : EvX g P := ⟨r, h, p⟩
theorem EvX.now {α : Type} {P : α → Prop} {r : α} (p : P r) : EvX (fun _ => some r) P := ⟨r, Ev.now r, p⟩
theorem EvX.bind {α β : Type} {f : Nat → Option α} {g : Nat → α → Option β} {P : α → Prop} {Q : β → Prop} (h : EvX f P) (k : ∀ a, P a → EvX (fun n => g n a) Q) : EvX (fun n => (f n).bind (g n)) Q := by
  obtain ⟨a, ha, hp⟩ := h
  obtain ⟨b, hb, hq⟩ := k a hp
  exact ⟨b, Ev.bind ha hb, hq⟩
theorem EvX.bindv {α β : Type} {f : Nat → Option α} {g : Nat → α → Option β} {a : α} {Q : β → Prop} (h : Ev f a) (k : EvX (fun n => g n a) Q) : EvX (fun n => (f n).bind (g n)) Q := by
  obtain ⟨b, hb, hq⟩ := k
  exact ⟨b, Ev.bind h hb, hq⟩
theorem EvX.bindc {α β : Type} {o : Option α} {g : Nat → α → Option β} {P : α → Prop} {Q : β → Prop} (h : ∃ a, o = some a ∧ P a) (k : ∀ a, P a → EvX (fun n => g n a) Q) : EvX (fun n => o.bind (g n)) Q := by
  obtain ⟨a, rfl, hp⟩ := h
  exact k a hp
theorem EvX.yes {α : Type} {c : Prop} [Decidable c] {g f : Nat → Option α} {P : α → Prop} (h : c) (k : EvX g P) : EvX (fun n => if c then g n else f n) P := by simpa [h] using k
theorem EvX.no {α : Type} {c : Prop} [Decidable c] {g f : Nat → Option α} {P : α → Prop} (h : ¬ c) (k : EvX f P) : EvX (fun n => if c then g n else f n) P := by simpa [h] using k
theorem EvX.ite {α : Type} {c : Prop} [Decidable c] {g f : Nat → Option α} {P : α → Prop} (h : c → EvX g P) (k : ¬ c → EvX f P) : EvX (fun n => if c then g n else f n) P := by
  by_cases hc : c
  · exact EvX.yes hc (h hc)
  · exact EvX.no hc (k hc)
theorem EvX.round {α : Type} {g : Nat → Option α} {P : α → Prop} (h : EvX (fun k => g (k + 1)) P) : EvX g P := by
  obtain ⟨r, hr, hp⟩ := h
  exact ⟨r, Ev.round hr, hp⟩
theorem EvX.mono {α : Type} {g : Nat → Option α} {P Q : α → Prop} (h : EvX g P) (k : ∀ a, P a → Q a) : EvX g Q := by
  obtain ⟨r, hr, hp⟩ := h
  exact ⟨r, hr, k r hp⟩
theorem EvX.loop {σ β : Type} (g : Nat → Nat → σ → Option β) (n : Nat) (P : β → Prop) (Inv : Nat → σ → Prop)
    (done : ∀ s, Inv n s → EvX (fun k => g k n s) P)
    (step : ∀ i s, i < n → Inv i s → (∀ s', Inv (i + 1) s' → EvX (fun k => g k (i + 1) s') P) → EvX (fun k => g k i s) P) :
    ∀ i s, i ≤ n → Inv i s → EvX (fun k => g k i s) P := by
  have : ∀ d i s, i + d = n → Inv i s → EvX (fun k => g k i s) P := by
    intro d
    induction d with
    | zero =>
      intro i s hi hs
      obtain rfl : i = n := by omega
      exact done s hs
    | succ d ih => intro i s hi hs; exact step i s (by omega) hs (fun s' hs' => ih (i + 1) s' (by omega) hs')
  intro i s hi hs
  exact this (n - i) i s (by omega) hs
/-- What the law goes on with, whatever was drawn. -/
theorem Ev.drawn {α β : Type} {f : Nat → Option α} {g : Nat → α → Option β} {P : α → Prop} {r : β} (h : EvX f P) (k : ∀ a, P a → Ev (fun n => g n a) r) : Ev (fun n => (f n).bind (g n)) r := by
  obtain ⟨a, ha, hp⟩ := h
  exact Ev.bind ha (k a hp)
/-! drawbundle -/
theorem put1_mem' (e : S116) : ∀ (l : List S116) (z : S116), z ∈ M.insertE l e → z ∈ l ∨ z = e := by
  intro l z h
  unfold M.insertE at h
  rcases List.mem_append.1 h with h | h
  · rcases List.mem_append.1 h with h | h
    · exact .inl (List.mem_of_mem_take h)
    · exact .inr (List.mem_singleton.1 h)
  · exact .inl (List.mem_of_mem_drop h)
theorem setE_mem (l : List S116) (e z : S116) (h : z ∈ M.setE l e) : z ∈ l ∨ z = e := by
  unfold M.setE at h; split at h
  · rcases List.mem_or_eq_of_mem_set h with h | h
    · exact .inl h
    · exact .inr h
  · exact put1_mem' e l z h
theorem putB_mem (l : List S116) (s h : Int) (z : S116) (hz : z ∈ (M.putB l s h).1) : z ∈ l ∨ z.f0 = s := by
  unfold M.putB at hz; split at hz
  · exact .inl hz
  · split at hz
    · rcases setE_mem _ _ _ hz with hz | rfl
      · exact .inl hz
      · exact .inr rfl
    · exact .inl hz
theorem delB_mem (l : List S116) (s h : Int) (z : S116) (hz : z ∈ (M.delB l s h).1) : z ∈ l ∨ z.f0 = s := by
  unfold M.delB at hz; split at hz
  · rcases List.mem_or_eq_of_mem_set hz with hz | rfl
    · exact .inl hz
    · exact .inr rfl
  · exact .inl hz
theorem putB_ok {l : List S116} (s h : Int) (hl : M.isBundle l = true) : M.isBundle (M.putB l s h).1 = true := by
  unfold M.putB; split
  · exact hl
  · split
    · rename_i hh; exact hh.2
    · exact hl
theorem delB_ok {l : List S116} (s h : Int) (hl : M.isBundle l = true) : M.isBundle (M.delB l s h).1 = true := by
  unfold M.delB; split
  · rename_i hh
    obtain ⟨n, hn, hf, k0, k1⟩ := findEntry_key hh.2.1
    have hok := ok_at hl hn
    have h4 := hh.2.2.2
    unfold M.eAt at *
    rw [hf, rd_Entry hn] at *
    simp only [Int.toNat_natCast]
    rw [set_bundle hn k0.symm k1.symm hl]
    simp [M.okE, inr_true]; omega
  · exact hl
/-- A new entry finds its place. -/
theorem putB_new {l : List S116} {s h : Int} (hl : M.isBundle l = true) (hlen : l.length < 20) (hs : 0 ≤ s ∧ s ≤ 2147483646) (hh : 0 ≤ h ∧ h ≤ 1000000) (hn : ∀ z ∈ l, ¬ (z.f0 = s ∧ z.f1 = h)) : (M.putB l s h).1.length = l.length + 1 := by
  have hf := find_none hn
  obtain ⟨b1, b2, b3⟩ := (isBundle_iff l).1 hl
  have hv : M.putV l s h = 1 := by unfold M.putV; rw [hf, if_neg (by decide)]
  have hs1 : M.setE l ⟨s, h, M.putV l s h, false⟩ = M.insertE l ⟨s, h, 1, false⟩ := by unfold M.setE; rw [hv]; simp only; rw [hf, if_neg (by decide)]
  have hp : M.insertE l ⟨s, h, 1, false⟩ = M.put1 ⟨s, h, 1, false⟩ l := by
    rw [← putS_eq _ l b2, putS_new (by simp only; rw [hf]; decide)]
  have hb : M.isBundle (M.insertE l ⟨s, h, 1, false⟩) = true := by
    refine (isBundle_iff _).2 ⟨by rw [insertE_len]; omega, by rw [hp]; exact put1_asc _ l b2, ?_⟩
    intro z hz
    rcases put1_mem' _ _ _ hz with hz | rfl
    · exact b3 z hz
    · simp [M.okE, inr_true]; omega
  unfold M.putB
  rw [if_neg (by rw [hf]; intro hh; exact absurd hh.1 (by decide)), hs1, if_pos ⟨hl, hb⟩]
  exact insertE_len _ _
/-- A bundle as it is drawn: its sites stay below b. -/
def M.drawnB (b : Int) (l : List S116) : Prop := M.isBundle l = true ∧ ∀ z ∈ l, z.f0 < b
theorem drawnB_put {b : Int} {l : List S116} (hl : M.drawnB b l) (s h b' : Int) (hb : b ≤ b') (hs : s < b') : M.drawnB b' (M.putB l s h).1 := by
  refine ⟨putB_ok s h hl.1, ?_⟩
  intro z hz
  rcases putB_mem _ _ _ _ hz with hz | hz
  · have := hl.2 z hz; omega
  · omega
theorem drawnB_del {b : Int} {l : List S116} (hl : M.drawnB b l) (s h : Int) (hs : s < b) : M.drawnB b (M.delB l s h).1 := by
  refine ⟨delB_ok s h hl.1, ?_⟩
  intro z hz
  rcases delB_mem _ _ _ _ hz with hz | hz
  · exact hl.2 z hz
  · omega
/-! mergelaws -/
theorem m_lt {x y : S116} {a b : List S116} (h : M.lessE x y = true) : M.merge (x :: a) (y :: b) = x :: M.merge a (y :: b) := by rw [merge_cons, if_pos h]
theorem less_asym {x y : S116} (h : M.lessE x y = true) : ¬ M.lessE y x = true := by rw [lessE_iff] at *; omega
theorem m_gt {x y : S116} {a b : List S116} (h : M.lessE y x = true) : M.merge (x :: a) (y :: b) = y :: M.merge (x :: a) b := by rw [merge_cons, if_neg (less_asym h), if_pos h]
theorem m_eq {x y : S116} {a b : List S116} (h1 : ¬ M.lessE x y = true) (h2 : ¬ M.lessE y x = true) : M.merge (x :: a) (y :: b) = M.pick x y :: M.merge a b := by rw [merge_cons, if_neg h1, if_neg h2]
theorem pick_comm {x y : S116} (h0 : x.f0 = y.f0) (h1 : x.f1 = y.f1) : M.pick x y = M.pick y x := by
  obtain ⟨x0, x1, x2, x3⟩ := x
  obtain ⟨y0, y1, y2, y3⟩ := y
  simp only at h0 h1
  subst h0; subst h1
  unfold M.pick
  simp only
  rcases Int.lt_trichotomy x2 y2 with h | h | h
  · rw [if_pos (.inl (by omega)), if_neg (by omega)]
  · subst h
    cases x3 <;> cases y3 <;> simp
  · rw [if_neg (by omega), if_pos (.inl (by omega))]
theorem pick_assoc (x y z : S116) : M.pick (M.pick x y) z = M.pick x (M.pick y z) := by
  obtain ⟨x0, x1, x2, x3⟩ := x
  obtain ⟨y0, y1, y2, y3⟩ := y
  obtain ⟨z0, z1, z2, z3⟩ := z
  unfold M.pick
  simp only
  cases y3 <;> cases z3 <;> (repeat' split) <;> simp_all <;> omega
theorem merge_comm : ∀ (n : Nat) (a b : List S116), a.length + b.length ≤ n → M.merge a b = M.merge b a
  | _, [], b, _ => by rw [nil_merge, merge_nil]
  | _, x :: a, [], _ => by rw [nil_merge, merge_nil]
  | 0, x :: a, y :: b, h => by simp at h
  | n + 1, x :: a, y :: b, h => by
    simp only [List.length_cons] at h
    by_cases h1 : M.lessE x y = true
    · rw [m_lt h1, m_gt h1, merge_comm n a (y :: b) (by simp; omega)]
    · by_cases h2 : M.lessE y x = true
      · rw [m_gt h2, m_lt h2, merge_comm n (x :: a) b (by simp; omega)]
      · have hk := same_key h1 h2
        rw [m_eq h1 h2, m_eq h2 h1, merge_comm n a b (by omega), pick_comm hk.1 hk.2]
theorem merge_assoc : ∀ (n : Nat) (a b c : List S116), a.length + b.length + c.length ≤ n → M.merge (M.merge a b) c = M.merge a (M.merge b c)
  | _, [], b, c, _ => by rw [nil_merge, nil_merge]
  | _, x :: a, [], c, _ => by rw [nil_merge, merge_nil]
  | _, x :: a, y :: b, [], _ => by rw [merge_nil, merge_nil]
  | 0, x :: a, y :: b, z :: c, h => by simp at h
  | n + 1, x :: a, y :: b, z :: c, h => by
    simp only [List.length_cons] at h
    have i1 := merge_assoc n a (y :: b) (z :: c) (by simp; omega)
    have i2 := merge_assoc n (x :: a) b (z :: c) (by simp; omega)
    have i3 := merge_assoc n (x :: a) (y :: b) c (by simp; omega)
    by_cases xy : M.lessE x y = true
    · rw [m_lt xy]
      by_cases yz : M.lessE y z = true
      · have xz : M.lessE x z = true := by rw [lessE_iff] at *; omega
        rw [m_lt yz] at i1 ⊢
        rw [m_lt xz, m_lt xy, i1]
      · by_cases zy : M.lessE z y = true
        · rw [m_gt zy] at i1 ⊢
          by_cases xz : M.lessE x z = true
          · rw [m_lt xz, m_lt xz, i1]
          · by_cases zx : M.lessE z x = true
            · rw [m_gt zx, m_gt zx, ← i3, m_lt xy]
            · rw [m_eq xz zx, m_eq xz zx, merge_assoc n a (y :: b) c (by simp; omega)]
        · have xz : M.lessE x z = true := by
            have hk := same_key yz zy
            rw [lessE_iff] at *; omega
          rw [m_eq yz zy] at i1 ⊢
          have hk := pick_key y z (same_key yz zy)
          have xp : M.lessE x (M.pick y z) = true := by rw [lessE_iff] at *; rw [hk.1, hk.2]; exact xz
          rw [m_lt xz, m_lt xp, i1]
    · by_cases yx : M.lessE y x = true
      · rw [m_gt yx]
        by_cases yz : M.lessE y z = true
        · rw [m_lt yz, m_lt yz, m_gt yx, i2]
        · by_cases zy : M.lessE z y = true
          · have zx : M.lessE z x = true := by rw [lessE_iff] at *; omega
            rw [m_gt zy, m_gt zy, m_gt zx, ← i3, m_gt yx]
          · have hk := pick_key y z (same_key yz zy)
            have hs := same_key yz zy
            have px : M.lessE (M.pick y z) x = true := by rw [lessE_iff] at *; rw [hk.1, hk.2]; omega
            rw [m_eq yz zy, m_eq yz zy, m_gt px, merge_assoc n (x :: a) b c (by simp; omega)]
      · have hxy := same_key xy yx
        have hp := pick_key x y hxy
        rw [m_eq xy yx]
        by_cases yz : M.lessE y z = true
        · have pz : M.lessE (M.pick x y) z = true := by rw [lessE_iff] at *; rw [hp.1, hp.2]; exact yz
          rw [m_lt pz, m_lt yz, m_eq xy yx, merge_assoc n a b (z :: c) (by simp; omega)]
        · by_cases zy : M.lessE z y = true
          · have zp : M.lessE z (M.pick x y) = true := by rw [lessE_iff] at *; rw [hp.1, hp.2]; exact zy
            have zx : M.lessE z x = true := by rw [lessE_iff] at *; omega
            rw [m_gt zp, m_gt zy, m_gt zx, ← i3, m_eq xy yx]
          · have hyz := same_key yz zy
            have hk := pick_key y z hyz
            have p1 : ¬ M.lessE (M.pick x y) z = true := by rw [lessE_iff] at *; rw [hp.1, hp.2]; exact yz
            have p2 : ¬ M.lessE z (M.pick x y) = true := by rw [lessE_iff] at *; rw [hp.1, hp.2]; exact zy
            have q1 : ¬ M.lessE x (M.pick y z) = true := by rw [lessE_iff] at *; rw [hk.1, hk.2]; omega
            have q2 : ¬ M.lessE (M.pick y z) x = true := by rw [lessE_iff] at *; rw [hk.1, hk.2]; omega
            rw [m_eq p1 p2, m_eq yz zy, m_eq q1 q2, pick_assoc, merge_assoc n a b c (by omega)]
theorem merge_mem : ∀ (n : Nat) (a b : List S116) (z : S116), a.length + b.length ≤ n → z ∈ M.merge a b → z ∈ a ∨ z ∈ b
  | _, [], b, z, _, h => by rw [nil_merge] at h; exact .inr h
  | _, x :: a, [], z, _, h => by rw [merge_nil] at h; exact .inl h
  | 0, x :: a, y :: b, z, h, _ => by simp at h
  | n + 1, x :: a, y :: b, z, h, hz => by
    simp only [List.length_cons] at h
    by_cases h1 : M.lessE x y = true
    · rw [m_lt h1] at hz
      rcases List.mem_cons.1 hz with rfl | hz
      · exact .inl List.mem_cons_self
      · rcases merge_mem n a (y :: b) z (by simp; omega) hz with hz | hz
        · exact .inl (List.mem_cons_of_mem _ hz)
        · exact .inr hz
    · by_cases h2 : M.lessE y x = true
      · rw [m_gt h2] at hz
        rcases List.mem_cons.1 hz with rfl | hz
        · exact .inr List.mem_cons_self
        · rcases merge_mem n (x :: a) b z (by simp; omega) hz with hz | hz
          · exact .inl hz
          · exact .inr (List.mem_cons_of_mem _ hz)
      · rw [m_eq h1 h2] at hz
        rcases List.mem_cons.1 hz with rfl | hz
        · unfold M.pick; split
          · exact .inr List.mem_cons_self
          · exact .inl List.mem_cons_self
        · rcases merge_mem n a b z (by omega) hz with hz | hz
          · exact .inl (List.mem_cons_of_mem _ hz)
          · exact .inr (List.mem_cons_of_mem _ hz)
theorem foldl_asc : ∀ (b a : List S116), M.asc a → M.asc (b.foldl (fun o e => M.put1 e o) a)
  | [], _, h => h
  | e :: b, a, h => foldl_asc b _ (put1_asc e a h)
theorem merge_asc {a b : List S116} (ha : M.asc a) (hb : M.asc b) : M.asc (M.merge a b) := by
  rw [← merge_fold b a hb]; exact foldl_asc b a ha
/-- A bundle of few keys: sites below 4, handles below 3. -/
def M.small (l : List S116) : Prop := M.isBundle l = true ∧ ∀ e ∈ l, (0 ≤ e.f0 ∧ e.f0 < 4) ∧ (0 ≤ e.f1 ∧ e.f1 < 3)
theorem grid_len : ∀ (l : List S116) (m : Int), M.asc l → (∀ e ∈ l, (0 ≤ e.f0 ∧ e.f0 < 4) ∧ (0 ≤ e.f1 ∧ e.f1 < 3) ∧ m ≤ 3 * e.f0 + e.f1) → m ≤ 12 → (l.length : Int) ≤ 12 - m
  | [], m, _, _, hm => by simp; omega
  | e :: l, m, ha, hg, _ => by
    have ha' := List.pairwise_cons.1 ha
    have he := hg e List.mem_cons_self
    have := grid_len l (3 * e.f0 + e.f1 + 1) ha'.2 (fun z hz => by
      have h1 := hg z (List.mem_cons_of_mem _ hz)
      have h2 := ha'.1 z hz
      rw [lessE_iff] at h2
      refine ⟨h1.1, h1.2.1, ?_⟩
      omega) (by omega)
    simp only [List.length_cons]; omega
theorem small_len {l : List S116} (h : M.small l) : l.length ≤ 12 := by
  have := grid_len l 0 ((isBundle_iff l).1 h.1).2.1 (fun e he => ⟨(h.2 e he).1, (h.2 e he).2, by have := h.2 e he; omega⟩) (by omega)
  omega
theorem small_merge {a b : List S116} (ha : M.small a) (hb : M.small b) : M.small (M.merge a b) := by
  obtain ⟨_, a2, a3⟩ := (isBundle_iff a).1 ha.1
  obtain ⟨_, b2, b3⟩ := (isBundle_iff b).1 hb.1
  have hasc := merge_asc a2 b2
  have hg : ∀ e ∈ M.merge a b, (0 ≤ e.f0 ∧ e.f0 < 4) ∧ (0 ≤ e.f1 ∧ e.f1 < 3) := by
    intro e he
    rcases merge_mem _ a b e (Nat.le_refl _) he with he | he
    · exact ha.2 e he
    · exact hb.2 e he
  have hlen := grid_len _ 0 hasc (fun e he => ⟨(hg e he).1, (hg e he).2, by have := hg e he; omega⟩) (by omega)
  refine ⟨(isBundle_iff _).2 ⟨by omega, hasc, ?_⟩, hg⟩
  intro e he
  rcases merge_mem _ a b e (Nat.le_refl _) he with he | he
  · exact a3 e he
  · exact b3 e he
theorem small_mergeB {a b : List S116} (ha : M.small a) (hb : M.small b) : M.mergeB a b = (M.merge a b, true) := by
  unfold M.mergeB; rw [if_pos ⟨ha.1, hb.1, (small_merge ha hb).1⟩]
theorem setE_key (l : List S116) (e z : S116) (h : z ∈ M.setE l e) : z ∈ l ∨ z = e := by
  unfold M.setE at h; split at h
  · rcases List.mem_or_eq_of_mem_set h with h | h
    · exact .inl h
    · exact .inr h
  · unfold M.insertE at h
    rcases List.mem_append.1 h with h | h
    · rcases List.mem_append.1 h with h | h
      · exact .inl (List.mem_of_mem_take h)
      · exact .inr (List.mem_singleton.1 h)
    · exact .inl (List.mem_of_mem_drop h)
theorem small_put {l : List S116} (hl : M.small l) (s h : Int) (hs : 0 ≤ s ∧ s < 4) (hh : 0 ≤ h ∧ h < 3) : M.small (M.putB l s h).1 := by
  unfold M.putB; split
  · exact hl
  · split
    · rename_i hx
      refine ⟨hx.2, ?_⟩
      intro e he
      rcases setE_key _ _ _ he with he | rfl
      · exact hl.2 e he
      · exact ⟨hs, hh⟩
    · exact hl
theorem small_del {l : List S116} (hl : M.small l) (s h : Int) (hs : 0 ≤ s ∧ s < 4) (hh : 0 ≤ h ∧ h < 3) : M.small (M.delB l s h).1 := by
  refine ⟨delB_ok s h hl.1, ?_⟩
  intro e he
  unfold M.delB at he; split at he
  · rcases List.mem_or_eq_of_mem_set he with he | rfl
    · exact hl.2 e he
    · exact ⟨hs, hh⟩
  · exact hl.2 e he
/-! includes -/
def M.includes (a b : List S116) : Bool := (M.mergeB a b).2 && M.eqEs (M.mergeB a b).1 a
/-! impl_EqualBundles -/
theorem impl_EqualBundles.ev (l r : List S116) (hl : l.length ≤ 1048576) (hr : r.length ≤ 1048576) : Ev (fun k => impl_EqualBundles.f k l r) (M.eqEs l r) := by
  unfold impl_EqualBundles.f
  refine Ev.ite (fun h => ?_) (fun h => Ev.eq (eqEs_len (by omega)).symm)
  have hlr : l.length = r.length := by omega
  refine Ev.loop (fun k i (_ : Unit) => impl_EqualBundles.l0 k l.length (i : Int) l r) l.length (fun i _ => M.eqEs (l.drop i) (r.drop i)) (fun _ _ => True) ?_ ?_ 0 () (by omega) trivial
  · rintro s _
    refine Ev.round ?_
    simp only [impl_EqualBundles.l0]
    exact Ev.no (by omega) (Ev.eq (by rw [drop_end, List.drop_eq_nil_of_le (by omega)]; rfl))
  · rintro i s hi _ ih
    have hi2 : i < r.length := by omega
    refine Ev.round ?_
    simp only [impl_EqualBundles.l0, wrap_succ hi (by omega : l.length ≤ _), rd_Entry hi, rd_Entry hi2, neE]
    rw [drop_get hi, drop_get hi2]
    refine Ev.yes (by omega) (Ev.yes (by omega) (Ev.yes (by omega) (Ev.yes (by omega) (Ev.ite (fun h => ?_) (fun h => ?_)))))
    · exact Ev.eq (by simp at h; simp [M.eqEs, h])
    · refine Ev.conv (ih () trivial) (by simp at h; simp [M.eqEs, h])
/-! impl_copyBundle -/
theorem impl_copyBundle.eq (l : List S116) (hl : l.length ≤ 1048577) : impl_copyBundle.f l = some l := by
  unfold impl_copyBundle.f; simp only [bind_some_]; rw [if_pos (by simp; omega)]; rfl
/-! impl_entryBefore -/
theorem impl_entryBefore.eq (a b : S116) : impl_entryBefore.f a.f0 a.f1 a.f2 a.f3 b.f0 b.f1 b.f2 b.f3 = some (M.lessE a b) := by
  unfold impl_entryBefore.f M.lessE
  by_cases h1 : a.f0 < b.f0 <;> by_cases h2 : a.f0 = b.f0 <;> simp [h1, h2]
/-! impl_InRange -/
theorem impl_InRange.eq (a b c : Int) : impl_InRange.f a b c = some (M.inr a b c) := by
  unfold impl_InRange.f M.inr
  by_cases h : b ≤ a
  · rw [if_pos h]; simp [h]
  · rw [if_neg h]
    simp [h]
/-! impl_IsBundle -/
theorem impl_IsBundle.ev (l : List S116) (hl : l.length ≤ 1048576) : Ev (fun k => impl_IsBundle.f k l) (M.isBundle l) := by
  unfold impl_IsBundle.f
  refine Ev.ite (fun h => Ev.eq (by have : ¬ l.length ≤ 20 := by omega
                                    simp [M.isBundle, this])) (fun hh => ?_)
  have hh2 : l.length ≤ 20 := by omega
  refine Ev.conv (Ev.loop (fun k i (_ : Unit) => impl_IsBundle.l0 k l l.length (i : Int) l) l.length (fun i _ => M.rises (M.before l i) (l.drop i)) (fun _ _ => True) ?_ ?_ 0 () (by omega) trivial) (by simp [M.isBundle, M.before, hh2])
  · rintro s _
    refine Ev.round ?_
    simp only [impl_IsBundle.l0]
    refine Ev.no (by omega) (Ev.eq ?_)
    rw [drop_end]; cases M.before l l.length <;> simp [M.rises]
  · rintro i s hi _ ih
    refine Ev.round ?_
    simp only [impl_IsBundle.l0, wrap_succ hi (by omega : l.length ≤ _), rd_Entry hi, impl_InRange.eq, bind_some_]
    rw [rises_at l i hi]
    refine Ev.yes (by omega) (Ev.yes (by omega) (Ev.yes (by omega) (Ev.ite (fun h1 => Ev.ite (fun h2 => Ev.ite (fun h3 => ?_) (fun h3 => ?_)) (fun h2 => ?_)) (fun h1 => ?_))))
    · have ho : M.okE l[i] = true := by simp [M.okE, h1, h2, h3]
      refine Ev.ite (fun h0 => ?_) (fun h0 => ?_)
      · have hp : wrap64 ((i : Int) - 1) = ((i - 1 : Nat) : Int) := wrap_pred (by omega) (by omega)
        simp only [hp, rd_Entry (by omega : i - 1 < l.length), impl_entryBefore.eq, bind_some_]
        refine Ev.yes (by omega) (Ev.yes (by omega) (Ev.ite (fun h4 => ?_) (fun h4 => ?_)))
        · refine Ev.conv (ih () trivial) (by simp [ho, h4])
        · refine Ev.eq (by simp [ho, h4]; omega)
      · refine Ev.conv (ih () trivial) (by obtain rfl : i = 0 := (by omega); simp [ho])
    · exact Ev.eq (by simp [M.okE, h3])
    · exact Ev.eq (by simp [M.okE, h2])
    · exact Ev.eq (by simp [M.okE, h1])
/-! impl_MergeBundles -/
theorem impl_MergeBundles.ev (a b : List S116) (ha : a.length ≤ 1048576) (hb : b.length ≤ 1048576) : Ev (fun k => impl_MergeBundles.f k a b) (M.mergeB a b) := by
  unfold impl_MergeBundles.f
  have no : ¬ (M.isBundle a = true ∧ M.isBundle b = true) → Ev (fun k => impl_MergeBundles.j0 k true a b) (M.mergeB a b) := by
    intro h
    refine Ev.round ?_
    simp only [impl_MergeBundles.j0, impl_copyBundle.eq a (by omega), bind_some_]
    exact Ev.yes (by trivial) (Ev.eq (by unfold M.mergeB; rw [if_neg (fun hh => h ⟨hh.1, hh.2.1⟩)]))
  refine Ev.bind (impl_IsBundle.ev a ha) (Ev.ite (fun h1 => Ev.bind (impl_IsBundle.ev b hb) ?_) (fun h1 => no (fun hh => h1 hh.1)))
  cases h2 : M.isBundle b with
  | false => exact no (fun hh => by rw [h2] at hh; cases hh.2)
  | true =>
    obtain ⟨ha1, ha2, ha3⟩ := (isBundle_iff a).1 h1
    obtain ⟨hb1, hb2, hb3⟩ := (isBundle_iff b).1 h2
    refine Ev.round ?_
    simp only [impl_MergeBundles.j0]
    refine Ev.no (by simp) ?_
    have go : ∀ (d i j : Nat) (o : List S116), (a.length - i) + (b.length - j) = d → i ≤ a.length → j ≤ b.length → o.length ≤ i + j → o ++ M.merge (a.drop i) (b.drop j) = M.merge a b →
        Ev (fun k => impl_MergeBundles.l0 k (i : Int) (j : Int) a b o) (M.mergeB a b) := by
      intro d
      induction d using Nat.strongRecOn with
      | _ d ih =>
      intro i j o hd hi hj hol ho
      -- the three ways on
      have wa : ∀ hia : i < a.length, (j = b.length ∨ ∃ h : j < b.length, M.lessE a[i] b[j] = true) → Ev (fun k => impl_MergeBundles.j3 k (i : Int) (j : Int) true a b o) (M.mergeB a b) := by
        intro hia hc
        refine Ev.round ?_
        simp only [impl_MergeBundles.j3, rd_Entry hia, wrap_succ hia (by omega : a.length ≤ _)]
        refine Ev.yes (by trivial) (Ev.yes (by omega) (Ev.yes (by omega) (Ev.yes (by omega) ?_)))
        refine ih (d - 1) (by omega) (i + 1) j _ (by omega) (by omega) hj (by simp; omega) ?_
        rw [← ho, drop_get hia, List.append_assoc]
        congr 1
        rcases hc with rfl | ⟨hjb, hl⟩
        · rw [drop_end, merge_nil, merge_nil]; rfl
        · rw [drop_get hjb, merge_cons, if_pos hl]; rfl
      have wb : ∀ hjb : j < b.length, (i = a.length ∨ ∃ h : i < a.length, M.lessE b[j] a[i] = true) → Ev (fun k => impl_MergeBundles.j4 k (i : Int) (j : Int) true a b o) (M.mergeB a b) := by
        intro hjb hc
        refine Ev.round ?_
        simp only [impl_MergeBundles.j4, rd_Entry hjb, wrap_succ hjb (by omega : b.length ≤ _)]
        refine Ev.yes (by trivial) (Ev.yes (by omega) (Ev.yes (by omega) (Ev.yes (by omega) ?_)))
        refine ih (d - 1) (by omega) i (j + 1) _ (by omega) hi (by omega) (by simp; omega) ?_
        rw [← ho, drop_get hjb, List.append_assoc]
        congr 1
        rcases hc with rfl | ⟨hia, hl⟩
        · rw [drop_end, nil_merge, nil_merge]; rfl
        · have hl2 : ¬ M.lessE a[i] b[j] = true := by rw [lessE_iff] at *; omega
          rw [drop_get hia, merge_cons, if_neg hl2, if_pos hl]; rfl
      have wc : ∀ (hia : i < a.length) (hjb : j < b.length), ¬ M.lessE a[i] b[j] = true → ¬ M.lessE b[j] a[i] = true → Ev (fun k => impl_MergeBundles.j4 k (i : Int) (j : Int) false a b o) (M.mergeB a b) := by
        intro hia hjb n1 n2
        have nxt : ∀ e, M.pick a[i] b[j] = e → Ev (fun k => impl_MergeBundles.l0 k ((i + 1 : Nat) : Int) ((j + 1 : Nat) : Int) a b (o ++ [e])) (M.mergeB a b) := by
          rintro e rfl
          refine ih (d - 2) (by omega) (i + 1) (j + 1) _ (by omega) (by omega) (by omega) (by simp; omega) ?_
          rw [← ho, drop_get hia, drop_get hjb, List.append_assoc, merge_cons, if_neg n1, if_neg n2]; rfl
        refine Ev.round ?_
        simp only [impl_MergeBundles.j4, rd_Entry hjb, rd_Entry hia, wrap_succ hjb (by omega : b.length ≤ _), wrap_succ hia (by omega : a.length ≤ _)]
        refine Ev.no (by simp) (Ev.yes (by omega) (Ev.yes (by omega) (Ev.yes (by omega) (Ev.yes (by omega) (Ev.ite (fun h4 => Ev.yes (by omega) (nxt _ ?_)) (fun h4 => Ev.ite (fun h5 => Ev.ite (fun h6 => Ev.yes (by omega) (nxt _ ?_)) (fun h6 => Ev.yes (by omega) (nxt _ ?_))) (fun h5 => Ev.yes (by omega) (nxt _ ?_))))))))
        · unfold M.pick; rw [if_pos (.inl h4)]
        · unfold M.pick; rw [if_pos (.inr ⟨h5, h6⟩)]
        · unfold M.pick; rw [if_neg (fun hh => hh.elim h4 (fun hh => h6 hh.2))]
        · unfold M.pick; rw [if_neg (fun hh => hh.elim h4 (fun hh => h5 hh.1))]
      have more : (i < a.length ∨ j < b.length) → Ev (fun k => impl_MergeBundles.j2 k (i : Int) (j : Int) true a b o) (M.mergeB a b) := by
        intro hm
        refine Ev.round ?_
        simp only [impl_MergeBundles.j2]
        refine Ev.yes (by trivial) (Ev.ite (fun h3 => wa (by omega) (.inl (by omega))) (fun h3 => ?_))
        have hjb : j < b.length := by omega
        simp only [rd_Entry hjb]
        -- to put the other's
        have other : i = a.length → Ev (fun k => impl_MergeBundles.j3 k (i : Int) (j : Int) false a b o) (M.mergeB a b) := by
          intro hia
          refine Ev.round ?_
          simp only [impl_MergeBundles.j3]
          exact Ev.no (by simp) (Ev.yes (by omega) (wb hjb (.inl hia)))
        refine Ev.ite (fun h4 => ?_) (fun h4 => other (by omega))
        have hia : i < a.length := by omega
        simp only [rd_Entry hia, impl_entryBefore.eq, bind_some_]
        refine Ev.yes (by omega) (Ev.yes (by omega) (Ev.yes (by omega) ?_))
        cases h5 : M.lessE a[i] b[j] with
        | true => exact wa hia (.inr ⟨hjb, h5⟩)
        | false =>
          refine Ev.round ?_
          simp only [impl_MergeBundles.j3, rd_Entry hjb, rd_Entry hia, impl_entryBefore.eq, bind_some_]
          refine Ev.no (by simp) (Ev.no (by omega) (Ev.yes (by omega) (Ev.yes (by omega) (Ev.yes (by omega) (Ev.yes (by omega) ?_)))))
          cases h6 : M.lessE b[j] a[i] with
          | true => exact wb hjb (.inr ⟨hia, h6⟩)
          | false => exact wc hia hjb (by rw [h5]; simp) (by rw [h6]; simp)
      refine Ev.round ?_
      simp only [impl_MergeBundles.l0]
      refine Ev.ite (fun h3 => more (by omega)) (fun h3 => ?_)
      by_cases h4 : j < b.length
      · rw [decide_eq_true (by omega : (j : Int) < b.length)]; exact more (.inr h4)
      · rw [decide_eq_false (by omega : ¬ (j : Int) < b.length)]
        have e1 : i = a.length := by omega
        have e2 : j = b.length := by omega
        have ho2 : o = M.merge a b := by rw [e1, e2, drop_end, drop_end, merge_nil, List.append_nil] at ho; exact ho
        refine Ev.round ?_
        simp only [impl_MergeBundles.j2]
        refine Ev.no (by simp) (Ev.bind (impl_IsBundle.ev o (by omega)) (Ev.ite (fun h3 => Ev.eq ?_) (fun h3 => ?_)))
        · unfold M.mergeB; rw [← ho2, if_pos ⟨h1, h2, h3⟩]
        · rw [impl_copyBundle.eq a (by omega)]
          exact Ev.eq (by unfold M.mergeB; rw [← ho2, if_neg (fun hh => h3 hh.2.2)])
    exact go _ 0 0 [] rfl (by omega) (by omega) (by simp) (by simp)
/-! impl_IncludesBundle -/
theorem impl_IncludesBundle.ev (a b : List S116) (ha : a.length ≤ 1048576) (hb : b.length ≤ 1048576) : Ev (fun k => impl_IncludesBundle.f k a b) (M.includes a b) := by
  unfold impl_IncludesBundle.f
  refine Ev.bind (impl_MergeBundles.ev a b ha hb) (Ev.ite (fun h => Ev.bind (impl_EqualBundles.ev _ _ (mergeB_len a b ha) ha) (Ev.eq ?_)) (fun h => Ev.eq ?_))
  · unfold M.includes; rw [h]; rfl
  · unfold M.includes; rw [Bool.eq_false_iff.2 h]; rfl
/-! laws_big -/
theorem laws_big.eq (l : List Int) : laws_big.f l = some (decide ((l.length : Int) > 1048576)) := rfl
/-! rd-Bundle -/
theorem rd_Bundle {l : List S73} {i : Nat} (h : i < l.length) : rd_T73 l (i : Int) = l[i] := by unfold rd_T73; exact getD_lt h _
/-! mod -/
def M.mod (a m : Int) : Int := if 1 ≤ m ∧ m ≤ 1000000000000 then a % m else 0
theorem tmod_bounds (a m : Int) (h : 1 ≤ m) : -m < Int.tmod a m ∧ Int.tmod a m < m := by
  have h1 := Int.tmod_lt_of_pos a (by omega : 0 < m)
  have h2 := Int.lt_tmod_of_pos a (by omega : 0 < m)
  exact ⟨h2, h1⟩
theorem tmod_emod (a m : Int) (h : 1 ≤ m) : Int.tmod a m = if Int.tmod a m < 0 then a % m - m else a % m := by
  rw [Int.tmod_eq_emod]
  have := Int.emod_nonneg a (by omega : m ≠ 0)
  have := Int.emod_lt_of_pos a (by omega : 0 < m)
  have e : ((m.natAbs : Nat) : Int) = m := by omega
  by_cases h0 : 0 ≤ a ∨ m ∣ a
  · rw [if_pos h0]
    split <;> omega
  · rw [if_neg h0, e]
    split <;> omega
theorem tmod_pos (a m : Int) (h : 0 ≤ a) : Int.tmod a m = a % m := Int.tmod_eq_emod_of_nonneg h
theorem mod_add_self (a m : Int) (h : 1 ≤ m) : Int.tmod (Int.tmod a m + m) m = a % m := by
  have hb := tmod_bounds a m h
  have := Int.emod_nonneg a (by omega : m ≠ 0)
  have := Int.emod_lt_of_pos a (by omega : 0 < m)
  rw [tmod_pos _ _ (by omega)]
  have e := tmod_emod a m h
  by_cases hn : Int.tmod a m < 0
  · rw [if_pos hn] at e; rw [e, show a % m - m + m = a % m by omega, Int.emod_emod_of_dvd _ (Int.dvd_refl m)]
  · rw [if_neg hn] at e; rw [e, Int.add_emod_right, Int.emod_emod_of_dvd _ (Int.dvd_refl m)]
/-! cur -/
theorem and255 (n : Int) : Go.bits .and .i64 n 255 = n % 256 := by
  have h : (BitVec.ofInt 64 255).toNat = 2 ^ 8 - 1 := by decide
  have key : (BitVec.ofInt 64 n &&& BitVec.ofInt 64 255).toNat = (n % ((2 ^ 64 : Nat) : Int)).toNat % 2 ^ 8 := by
    rw [BitVec.toNat_and, BitVec.toNat_ofInt, h, Nat.and_two_pow_sub_one_eq_mod]
  show Go.IntKind.i64.wrap ((BitVec.ofInt 64 n &&& BitVec.ofInt 64 255).toNat : Nat) = n % 256
  rw [key, Go.IntKind.wrap_i64]
  omega
/-! spec_l1New -/
theorem spec_l1New.ex (l : List Int) (hl : l.length ≤ 1048576) : EvX (fun k => spec_l1New.f k l) (fun r => r.1 = l ∧ r.2.1 = 0) := by
  unfold spec_l1New.f
  refine EvX.loop (fun k i (s : Int) => spec_l1New.l0 k l s (i : Int)) l.length _ (fun _ _ => True) ?_ ?_ 0 _ (by omega) trivial
  · intro s _
    refine EvX.round ?_
    simp only [spec_l1New.l0]
    exact EvX.no (by omega) (EvX.now ⟨rfl, rfl⟩)
  · intro i s hi _ ih
    refine EvX.round ?_
    simp only [spec_l1New.l0, wrap_succ hi (by omega : l.length ≤ _)]
    exact EvX.yes (by omega) (EvX.ite (fun _ => EvX.yes (by omega) (ih _ trivial)) (fun _ => EvX.now ⟨rfl, rfl⟩))
/-! spec_l1Byte -/
theorem spec_l1Byte.ex (s : List Int) (p q : Int) (hs : s.length ≤ 1048576) (hp : 0 ≤ p) : ∃ a, spec_l1Byte.f s p q = some a ∧ (0 ≤ a.1 ∧ a.1 ≤ 255) ∧ 0 ≤ a.2.1 := by
  unfold spec_l1Byte.f
  by_cases h : p < (s.length : Int)
  · rw [if_pos h, if_pos hp]
    refine ⟨_, rfl, ?_, ?_⟩
    · simp only [and255]; omega
    · simp only; rw [wrap_in (by omega) (by omega)]; omega
  · rw [if_neg h]
    refine ⟨_, rfl, ?_, hp⟩
    simp only [and255]; omega
/-! spec_l1Below -/
theorem spec_l1Below.ex (s : List Int) (p q n : Int) (hs : s.length ≤ 1048576) (hp : 0 ≤ p) (hn : n ≤ 1000000) : ∃ a, spec_l1Below.f s p q n = some a ∧ (0 ≤ a.1 ∧ (a.1 < n ∨ (n ≤ 0 ∧ a.1 = 0))) ∧ 0 ≤ a.2.1 := by
  unfold spec_l1Below.f
  by_cases h0 : n ≤ 0
  · rw [if_pos h0]; exact ⟨_, rfl, ⟨by simp, .inr ⟨h0, rfl⟩⟩, hp⟩
  · rw [if_neg h0]
    by_cases h1 : n ≤ 256
    · rw [if_pos h1]
      obtain ⟨a, ha, hb, hc⟩ := spec_l1Byte.ex s p q hs hp
      rw [ha, bind_some_, if_neg (by omega)]
      refine ⟨_, rfl, ?_, hc⟩
      simp only; rw [tmod_pos _ _ hb.1]
      exact ⟨Int.emod_nonneg _ (by omega), .inl (Int.emod_lt_of_pos _ (by omega))⟩
    · rw [if_neg h1]
      obtain ⟨a, ha, hab, hap⟩ := spec_l1Byte.ex s p q hs hp
      obtain ⟨b, hb, hbb, hbp⟩ := spec_l1Byte.ex s a.2.1 a.2.2 hs hap
      obtain ⟨c, hc, hcb, hcp⟩ := spec_l1Byte.ex s b.2.1 b.2.2 hs hbp
      rw [ha, bind_some_, hb, bind_some_, hc, bind_some_, if_neg (by omega)]
      refine ⟨_, rfl, ?_, hcp⟩
      simp only
      rw [wrap_in (n := a.1 * 65536) (by omega) (by omega), wrap_in (n := b.1 * 256) (by omega) (by omega), wrap_in (n := a.1 * 65536 + b.1 * 256) (by omega) (by omega), wrap_in (by omega) (by omega), tmod_pos _ _ (by omega)]
      exact ⟨Int.emod_nonneg _ (by omega), .inl (Int.emod_lt_of_pos _ (by omega))⟩
/-! spec_l1Once -/
theorem spec_l1Once.ex (s : List Int) (p q n : Int) (hs : s.length ≤ 1048576) (hp : 0 ≤ p) (hn : n ≤ 1000000) : ∃ a, spec_l1Once.f s p q n = some a ∧ 0 ≤ a.2.1 := by
  unfold spec_l1Once.f
  obtain ⟨a, ha, _, hp2⟩ := spec_l1Below.ex s p q n hs hp hn
  rw [ha, bind_some_]
  exact ⟨_, rfl, hp2⟩
/-! spec_FindEntry -/
theorem spec_FindEntry.ev (l : List S116) (a b : Int) (hl : l.length ≤ 1048576) : Ev (fun k => spec_FindEntry.f k l a b) (M.findEntry l a b) := by
  unfold spec_FindEntry.f
  refine Ev.loop (fun k i (_ : Unit) => spec_FindEntry.l0 k a b (i : Int) l) l.length (fun i _ => M.findFrom a b (l.drop i) i) (fun _ _ => True) ?_ ?_ 0 () (by omega) trivial
  · rintro s _
    refine Ev.round ?_
    simp only [spec_FindEntry.l0]
    exact Ev.no (by omega) (Ev.eq (by rw [drop_end]; rfl))
  · rintro i s hi _ ih
    refine Ev.round ?_
    simp only [spec_FindEntry.l0, rd_Entry hi, wrap_succ hi (by omega : l.length ≤ _)]
    rw [drop_get hi]; unfold M.findFrom
    refine Ev.yes (by omega) (Ev.yes (by omega) (Ev.ite (fun h1 => Ev.ite (fun h2 => ?_) (fun h2 => ?_)) (fun h1 => ?_)))
    · exact Ev.eq (by rw [if_pos ⟨h1, h2⟩])
    · rw [if_neg (fun h => h2 h.2)]; exact ih () trivial
    · rw [if_neg (fun h => h1 h.1)]; exact ih () trivial
/-! spec_l17Less -/
theorem spec_l17Less.eq (a b : S116) : spec_l17Less.f a.f0 a.f1 a.f2 a.f3 b.f0 b.f1 = some (M.lessE a b) := by
  unfold spec_l17Less.f M.lessE
  by_cases h1 : a.f0 < b.f0 <;> by_cases h2 : a.f0 = b.f0 <;> simp [h1, h2]
/-! spec_l1In -/
theorem spec_l1In.eq (a b c : Int) : spec_l1In.f a b c = some (M.inr a b c) := by
  unfold spec_l1In.f M.inr
  by_cases h : a ≥ b
  · rw [if_pos h]; simp [h]
  · rw [if_neg h]; have : ¬ b ≤ a := by omega
    simp [this]
/-! spec_IsBundle -/
theorem spec_IsBundle.ev (l : List S116) (hl : l.length ≤ 1048576) : Ev (fun k => spec_IsBundle.f k l) (M.isBundle l) := by
  unfold spec_IsBundle.f
  refine Ev.conv (Ev.loop (fun k i (_ : Unit) => spec_IsBundle.l0 k (i : Int) l) l.length (fun i _ => decide (l.length ≤ 20) && M.rises (M.before l i) (l.drop i)) (fun _ _ => True) ?_ ?_ 0 () (by omega) trivial) (by simp [M.isBundle, M.before])
  · rintro s _
    refine Ev.round ?_
    simp only [spec_IsBundle.l0]
    refine Ev.no (by omega) (Ev.eq ?_)
    rw [drop_end]; cases M.before l l.length <;> simp [M.rises] <;> omega
  · rintro i s hi _ ih
    refine Ev.round ?_
    simp only [spec_IsBundle.l0, wrap_succ hi (by omega : l.length ≤ _), rd_Entry hi, spec_l1In.eq, bind_some_]
    rw [rises_at l i hi]
    refine Ev.yes (by omega) (Ev.yes (by omega) (Ev.ite (fun h1 => Ev.ite (fun h2 => Ev.ite (fun h3 => ?_) (fun h3 => ?_)) (fun h2 => ?_)) (fun h1 => ?_)))
    · have ho : M.okE l[i] = true := by simp [M.okE, h1, h2, h3]
      refine Ev.ite (fun h0 => ?_) (fun h0 => ?_)
      · have hp : wrap64 ((i : Int) - 1) = ((i - 1 : Nat) : Int) := wrap_pred (by omega) (by omega)
        simp only [hp, rd_Entry (by omega : i - 1 < l.length), spec_l17Less.eq, bind_some_]
        refine Ev.yes (by omega) (Ev.yes (by omega) (Ev.ite (fun h4 => ?_) (fun h4 => ?_)))
        · refine Ev.conv (ih () trivial) (by simp [ho, h4])
        · refine Ev.eq (by simp [ho, h4]; omega)
      · refine Ev.conv (ih () trivial) (by obtain rfl : i = 0 := (by omega); simp [ho])
    · exact Ev.eq (by simp [M.okE, h3])
    · exact Ev.eq (by simp [M.okE, h2])
    · exact Ev.eq (by simp [M.okE, h1])
/-! spec_l17Copy -/
theorem spec_l17Copy.eq (l : List S116) (hl : l.length ≤ 1048577) : spec_l17Copy.f l = some l := by
  unfold spec_l17Copy.f; simp only [bind_some_]; rw [if_pos (by simp; omega)]; rfl
/-! spec_l17Set -/
theorem spec_l17Set.ev (l : List S116) (e : S116) (hl : l.length ≤ 1048576) : Ev (fun k => spec_l17Set.f k l e.f0 e.f1 e.f2 e.f3) (M.setE l e) := by
  unfold spec_l17Set.f
  have hb := findEntry_bounds l e.f0 e.f1
  refine Ev.bindc (spec_l17Copy.eq _ (by omega)) (Ev.bind (spec_FindEntry.ev l _ _ hl) (Ev.ite (fun h1 => Ev.yes (by omega) (Ev.yes (by omega) (Ev.eq ?_))) (fun h1 => ?_)))
  · unfold M.setE; rw [if_pos (by omega)]
  have hr : M.setE l e = M.insertE l e := by unfold M.setE; rw [if_neg (by omega)]
  rw [hr]
  have hi := insE_le e l
  have fin : ∀ i : Nat, i = M.insE e l → (l.take i ++ [(⟨e.f0, e.f1, e.f2, e.f3⟩ : S116)] ++ l.drop i) = M.insertE l e := by rintro i rfl; rfl
  refine Ev.loop (fun k i (_ : Unit) => spec_l17Set.l0 k (i : Int) l e.f0 e.f1 e.f2 e.f3) l.length (fun _ _ => M.insertE l e) (fun i _ => M.insE e l = i + M.insE e (l.drop i)) ?_ ?_ 0 () (by omega) (by simp)
  · rintro s hinv
    rw [drop_end] at hinv
    refine Ev.round ?_
    simp only [spec_l17Set.l0, bind_some_, Int.toNat_natCast]
    refine Ev.no (by omega) (Ev.yes (by omega) (Ev.yes (by omega) (Ev.yes (by simp; omega) (Ev.yes (by simp; omega) (Ev.yes (by simp; omega) (Ev.eq ?_))))))
    rw [List.nil_append]; exact fin _ (by rw [hinv]; rfl)
  · rintro i s hil hinv ih
    rw [insE_drop e l i hil] at hinv
    refine Ev.round ?_
    simp only [spec_l17Set.l0, rd_Entry hil, wrap_succ hil (by omega : l.length ≤ _), spec_l17Less.eq, bind_some_, Int.toNat_natCast]
    refine Ev.yes (by omega) (Ev.yes (by omega) (Ev.ite (fun h2 => ?_) (fun h2 => ?_)))
    · rw [if_pos h2] at hinv; exact ih () (by omega)
    · rw [if_neg h2] at hinv
      refine Ev.yes (by omega) (Ev.yes (by simp; omega) (Ev.yes (by simp; omega) (Ev.yes (by simp; omega) (Ev.eq ?_))))
      rw [List.nil_append]; exact fin _ (by omega)
/-! spec_DeleteEntry -/
theorem spec_DeleteEntry.ev (l : List S116) (s h : Int) (hl : l.length ≤ 1048576) : Ev (fun k => spec_DeleteEntry.f k l s h) (M.delB l s h) := by
  unfold spec_DeleteEntry.f
  have hb := findEntry_bounds l s h
  have no : M.delB l s h = (l, false) → Ev (fun k => spec_DeleteEntry.j0 k s h (M.findEntry l s h) true l) (M.delB l s h) := by
    intro e
    refine Ev.round ?_
    simp only [spec_DeleteEntry.j0, spec_l17Copy.eq l (by omega), bind_some_]
    exact Ev.yes (by trivial) (Ev.eq (by rw [e]))
  refine Ev.bind (spec_FindEntry.ev l s h hl) (Ev.bind (spec_IsBundle.ev l hl) (Ev.ite (fun h1 => Ev.ite (fun h2 => no ?_) (fun h2 => Ev.yes (by omega) (Ev.yes (by omega) (Ev.ite (fun h3 => no ?_) (fun h3 => ?_))))) (fun h1 => no ?_)))
  · unfold M.delB; rw [if_neg]; rintro ⟨_, hh, _⟩; omega
  · unfold M.delB; rw [if_neg]; rintro ⟨_, _, hh, _⟩; unfold M.eAt at hh; rw [h3] at hh; cases hh
  · cases h4 : ((rd_T116 l (M.findEntry l s h)).f2 == 1000000) with
    | true => exact no (by unfold M.delB; rw [if_neg]; rintro ⟨_, _, _, hh⟩; exact hh (by unfold M.eAt; simpa using h4))
    | false =>
      obtain ⟨n, hn, hf, k0, k1⟩ := findEntry_key (by omega : 0 ≤ M.findEntry l s h)
      have hok := ok_at h1 hn
      have hw : wrap64 ((rd_T116 l (M.findEntry l s h)).f2 + 1) = (M.eAt l (M.findEntry l s h)).f2 + 1 := by
        unfold M.eAt; rw [hf, rd_Entry hn]; exact wrap_in (by omega) (by omega)
      refine Ev.round ?_
      simp only [spec_DeleteEntry.j0, hw]
      refine Ev.no (by simp) (Ev.yes (by omega) (Ev.yes (by omega) (Ev.bind (spec_l17Set.ev l ⟨s, h, (M.eAt l (M.findEntry l s h)).f2 + 1, true⟩ hl) (Ev.eq ?_))))
      unfold M.delB; rw [if_pos ⟨h1, by omega, by unfold M.eAt; simpa using h3, by unfold M.eAt; simpa using h4⟩]
      unfold M.setE; simp only; rw [if_pos (by omega)]
  · unfold M.delB; rw [if_neg]; rintro ⟨hh, _⟩; exact h1 hh
/-! spec_PutEntry -/
theorem spec_PutEntry.ev (l : List S116) (s h : Int) (hl : l.length ≤ 1048576) : Ev (fun k => spec_PutEntry.f k l s h) (M.putB l s h) := by
  unfold spec_PutEntry.f
  have hb := findEntry_bounds l s h
  have fin : ¬ (0 ≤ M.findEntry l s h ∧ (M.eAt l (M.findEntry l s h)).f3 = false) → ∀ v, v = M.putV l s h → Ev (fun k => spec_PutEntry.j0 k l s h v false) (M.putB l s h) := by
    rintro hd v rfl
    refine Ev.round ?_
    simp only [spec_PutEntry.j0, spec_l17Copy.eq l (by omega), bind_some_]
    refine Ev.bind (spec_l17Set.ev l ⟨s, h, M.putV l s h, false⟩ hl) (Ev.bind (spec_IsBundle.ev l hl) (Ev.ite (fun h1 => ?_) (fun h1 => Ev.eq ?_)))
    · have h20 := ((isBundle_iff l).1 h1).1
      have hsl := setE_len l ⟨s, h, M.putV l s h, false⟩
      refine Ev.bind (spec_IsBundle.ev (M.setE l ⟨s, h, M.putV l s h, false⟩) (by omega)) (Ev.ite (fun h2 => Ev.eq ?_) (fun h2 => Ev.eq ?_))
      · unfold M.putB; rw [if_neg hd, if_pos ⟨h1, h2⟩]
      · unfold M.putB; rw [if_neg hd, if_neg (fun hh => h2 hh.2)]
    · unfold M.putB; rw [if_neg hd, if_neg (fun hh => h1 hh.1)]
  refine Ev.bind (spec_FindEntry.ev l s h hl) (Ev.ite (fun h1 => Ev.yes (by omega) (Ev.yes (by omega) (Ev.ite (fun h2 => fin ?_ _ ?_) (fun h2 => ?_)))) (fun h1 => fin ?_ _ ?_))
  · rintro ⟨_, hh⟩; unfold M.eAt at hh; rw [h2] at hh; cases hh
  · unfold M.putV M.eAt; rw [if_pos (by omega)]
  · rw [spec_l17Copy.eq l (by omega)]
    exact Ev.eq (by unfold M.putB M.eAt; rw [if_pos ⟨by omega, by simpa using h2⟩])
  · intro hh; omega
  · unfold M.putV; rw [if_neg (by omega)]
/-! spec_DrawThree -/
theorem spec_DrawThree.step (s : List Int) (p q : Int) (l : List S116) (hs : s.length ≤ 1048576) (hp : 0 ≤ p) (hl : M.small l) : EvX (fun k => spec_l17Step.f k s p q l) (fun r => M.small r.1 ∧ 0 ≤ r.2.1) := by
  unfold spec_l17Step.f
  have hlen := small_len hl
  refine EvX.bindc (spec_l1Below.ex s p q 4 hs hp (by omega)) ?_
  rintro ⟨a, p1, q1⟩ ⟨ha, hp1⟩
  refine EvX.bindc (spec_l1Below.ex s p1 q1 3 hs hp1 (by omega)) ?_
  rintro ⟨b, p2, q2⟩ ⟨hb, hp2⟩
  refine EvX.bindc (spec_l1Once.ex s p2 q2 3 hs hp2 (by omega)) ?_
  rintro ⟨o, p3, q3⟩ hp3
  simp only at ha hb hp3 ⊢
  exact EvX.ite (fun _ => EvX.bindv (spec_DeleteEntry.ev l a b (by omega)) (EvX.now ⟨small_del hl a b (by omega) (by omega), hp3⟩)) (fun _ => EvX.bindv (spec_PutEntry.ev l a b (by omega)) (EvX.now ⟨small_put hl a b (by omega) (by omega), hp3⟩))
theorem spec_DrawThree.ex (l : List Int) (hl : l.length ≤ 1048576) : EvX (fun k => spec_DrawThree.f k l) (fun r => M.small r.1 ∧ M.small r.2.1 ∧ M.small r.2.2) := by
  unfold spec_DrawThree.f
  refine EvX.bind (spec_l1New.ex l hl) ?_
  rintro ⟨s, p, q⟩ ⟨rfl, hp⟩
  have hp0 : 0 ≤ p := by simp only at hp; omega
  simp only at hl ⊢
  refine EvX.bindc (spec_l1Below.ex s p q 6 hl hp0 (by omega)) ?_
  rintro ⟨n, p1, q1⟩ ⟨hn, hp1⟩
  simp only at hn hp1 ⊢
  -- the three
  have three : ∀ (d i : Nat) (x : List S73) (p q : Int) (b : List S116), i + d = 3 → x.length = i → (∀ e ∈ x, M.small e.f0) → M.small b → 0 ≤ p → EvX (fun k => spec_DrawThree.l1 k x (i : Int) s p q b) (fun r => M.small r.1 ∧ M.small r.2.1 ∧ M.small r.2.2) := by
    intro d
    induction d with
    | zero =>
      intro i x p q b hi hx hall hb hp
      refine EvX.round ?_
      simp only [spec_DrawThree.l1]
      have h0 : 0 < x.length := by omega
      have h1 : 1 < x.length := by omega
      have h2 : 2 < x.length := by omega
      have r0 : rd_T73 x 0 = x[0] := rd_Bundle (i := 0) h0
      have r1 : rd_T73 x 1 = x[1] := rd_Bundle (i := 1) h1
      have r2 : rd_T73 x 2 = x[2] := rd_Bundle (i := 2) h2
      rw [r0, r1, r2]
      exact EvX.no (by omega) (EvX.yes (by omega) (EvX.yes (by omega) (EvX.yes (by omega) (EvX.now ⟨hall _ (List.getElem_mem h0), hall _ (List.getElem_mem h1), hall _ (List.getElem_mem h2)⟩))))
    | succ d ih =>
      intro i x p q b hi hx hall hb hp
      have hbl := small_len hb
      have hi3 : (i : Int) < 3 := by clear ih hall hb hbl hp hx hl hn hp1 hp0; omega
      have hx3 : x.length < 5864062014805 := by
        have h3 : x.length < 3 := by clear ih hall hb hbl hp hl hn hp1 hp0; omega
        exact Nat.lt_of_lt_of_le h3 (by decide)
      have hw : wrap64 ((i : Int) + 1) = ((i + 1 : Nat) : Int) := by rw [wrap_in (by omega) (by omega)]; omega
      have inner : ∀ (m : Nat), m ≤ 6 → ∀ (c : List S116) (p q : Int), M.small c → 0 ≤ p → EvX (fun k => spec_DrawThree.l2 k x (i : Int) (m : Int) s p q b c) (fun r => M.small r.1 ∧ M.small r.2.1 ∧ M.small r.2.2) := by
        intro m
        induction m with
        | zero =>
          intro _ c p q hc hp
          refine EvX.round ?_
          simp only [spec_DrawThree.l2, hw]
          refine EvX.no (by omega) (EvX.yes hx3 (ih (i + 1) _ p q b (by omega) (by simp; omega) ?_ hb hp))
          intro e he
          rcases List.mem_append.1 he with he | he
          · exact hall e he
          · rw [List.mem_singleton.1 he]; exact hc
        | succ m ihm =>
          intro hm c p q hc hp
          have hw2 : wrap64 (((m + 1 : Nat) : Int) - 1) = (m : Int) := by rw [wrap_in (by omega) (by omega)]; omega
          refine EvX.round ?_
          simp only [spec_DrawThree.l2, hw2]
          refine EvX.yes (by omega) (EvX.bind (spec_DrawThree.step s p q c hl hp hc) ?_)
          rintro ⟨c2, p2, q2⟩ ⟨hc2, hp2⟩
          exact ihm (by omega) c2 p2 q2 hc2 hp2
      refine EvX.round ?_
      simp only [spec_DrawThree.l1, spec_l17Copy.eq b (by omega), bind_some_]
      refine EvX.yes hi3 (EvX.bindc (spec_l1Below.ex s p q 6 hl hp (by omega)) ?_)
      rintro ⟨m, p2, q2⟩ ⟨hm, hp2⟩
      simp only at hm hp2 ⊢
      obtain ⟨m', hm'⟩ := Int.eq_ofNat_of_zero_le hm.1
      rw [hm']
      exact inner m' (by omega) b p2 q2 hb hp2
  have first : ∀ (m : Nat), m ≤ 6 → ∀ (b : List S116) (p q : Int), M.small b → 0 ≤ p → EvX (fun k => spec_DrawThree.l0 k ([] : List S73) (m : Int) s p q b) (fun r => M.small r.1 ∧ M.small r.2.1 ∧ M.small r.2.2) := by
    intro m
    induction m with
    | zero =>
      intro _ b p q hb hp
      refine EvX.round ?_
      simp only [spec_DrawThree.l0]
      exact EvX.no (by omega) (three 3 0 [] p q b rfl rfl (by simp) hb hp)
    | succ m ihm =>
      intro hm b p q hb hp
      have hw2 : wrap64 (((m + 1 : Nat) : Int) - 1) = (m : Int) := by rw [wrap_in (by omega) (by omega)]; omega
      refine EvX.round ?_
      simp only [spec_DrawThree.l0, hw2]
      refine EvX.yes (by omega) (EvX.bind (spec_DrawThree.step s p q b hl hp hb) ?_)
      rintro ⟨c2, p2, q2⟩ ⟨hc2, hp2⟩
      exact ihm (by omega) c2 p2 q2 hc2 hp2
  obtain ⟨m, hm⟩ := Int.eq_ofNat_of_zero_le hn.1
  rw [hm]
  exact first m (by omega) [] p1 q1 ⟨(isBundle_iff _).2 ⟨by simp, List.Pairwise.nil, by simp⟩, by simp⟩ hp1

/-! the law -/
theorem FnBundles : ∀ (l0 : List Int), l0.length ≤ 9223372036854775807 → ∃ k, laws_FnBundles.f k l0 = some true := by
  intro l h0
  apply Ev.rounds (r := true)
  unfold laws_FnBundles.f
  simp only [laws_big.eq, bind_some_]
  refine Ev.ite (fun _ => Ev.now _) (fun hbig => ?_)
  have hl : l.length ≤ 1048576 := by simp at hbig; omega
  refine Ev.drawn (spec_DrawThree.ex l hl) ?_
  rintro ⟨a, b, c⟩ ⟨ha, hb, hc⟩
  simp only at ha hb hc ⊢
  have hab := small_merge ha hb
  have hbc := small_merge hb hc
  have habc := small_merge hab hc
  have hcomm : M.merge b a = M.merge a b := merge_comm _ b a (Nat.le_refl _)
  have hassoc : M.merge a (M.merge b c) = M.merge (M.merge a b) c := (merge_assoc _ a b c (Nat.le_refl _)).symm
  have haa := merge_self a
  have la := small_len ha
  have lb := small_len hb
  have lc := small_len hc
  have lab := small_len hab
  have lbc := small_len hbc
  have labc := small_len habc
  have ev : ∀ {x y : List S116}, M.small x → M.small y → Ev (fun k => impl_MergeBundles.f k x y) (M.merge x y, true) := by
    intro x y hx hy
    have := impl_MergeBundles.ev x y (by have := small_len hx; omega) (by have := small_len hy; omega)
    rwa [small_mergeB hx hy] at this
  have eq : ∀ {x : List S116}, x.length ≤ 12 → Ev (fun k => impl_EqualBundles.f k x x) true := by
    intro x hx
    have := impl_EqualBundles.ev x x (by omega) (by omega)
    rwa [(eqEs_iff _ _).2 rfl] at this
  have inc : ∀ {x y : List S116}, M.small x → M.small y → M.merge x y = x → Ev (fun k => impl_IncludesBundle.f k x y) true := by
    intro x y hx hy he
    have := impl_IncludesBundle.ev x y (by have := small_len hx; omega) (by have := small_len hy; omega)
    have e : M.includes x y = true := by unfold M.includes; rw [small_mergeB hx hy, he]; simp [(eqEs_iff x x).2 rfl]
    rwa [e] at this
  have i1 : M.merge (M.merge a b) a = M.merge a b := by rw [merge_comm _ (M.merge a b) a (Nat.le_refl _), ← merge_assoc _ a a b (Nat.le_refl _), haa]
  have i2 : M.merge (M.merge a b) b = M.merge a b := by rw [merge_assoc _ a b b (Nat.le_refl _), merge_self]
  have i3 : M.merge (M.merge (M.merge a b) c) c = M.merge (M.merge a b) c := by rw [merge_assoc _ (M.merge a b) c c (Nat.le_refl _), merge_self]
  have m2 := ev hb ha
  have m5 := ev ha hbc
  have m6 := ev ha ha
  rw [hcomm] at m2
  rw [hassoc] at m5
  rw [haa] at m6
  have isb := impl_IsBundle.ev (M.merge (M.merge a b) c) (by omega)
  rw [habc.1] at isb
  exact Ev.bind (ev ha hb) (Ev.bind m2 (Ev.bind (ev hab hc) (Ev.bind (ev hb hc) (Ev.bind m5 (Ev.bind m6 (Ev.yes rfl (Ev.yes rfl (Ev.yes rfl (Ev.yes rfl (Ev.yes rfl (Ev.yes rfl (Ev.bind (eq lab) (Ev.yes rfl (Ev.bind (eq labc) (Ev.yes rfl (Ev.bind (eq la) (Ev.yes rfl (Ev.bind (inc hab ha i1) (Ev.yes rfl (Ev.bind (inc hab hb i2) (Ev.yes rfl (Ev.bind (inc habc hc i3) (Ev.yes rfl (Ev.bind isb (Ev.now _)))))))))))))))))))))))))
end Go.Proofs.Ytjdkkfbcpbjpkaa.Pure
