/- The program's IncludesBundle returns what the reference's returns, for all arguments. -/
import Derived.Test.YtnifeegdkhmakaaOpFnExactIncludesBundle
import Derived.Test.YtnifeegdkhmakaaTFnExactIncludesBundle
namespace Go.Proofs.Ytnifeegdkhmakaa.Pure
open Go.RowKit Go.Proofs.Ytnifeegdkhmakaa.PFnExactIncludesBundle Go.Proofs.YtnifeegdkhmakaaW.PrintWords Go.Proofs.YtnifeegdkhmakaaW.PrintLast
set_option linter.unusedVariables false
set_option linter.unusedSimpArgs false

/-! base -/
theorem wrap_in {n : Int} (h1 : -9223372036854775808 ≤ n) (h2 : n ≤ 9223372036854775807) : wrap64 n = n := by unfold wrap64; omega
theorem wrap_succ {i n : Nat} (h : i < n) (hn : n ≤ 1152921504606846976) : wrap64 ((i : Int) + 1) = ((i + 1 : Nat) : Int) := by unfold wrap64; omega
theorem wrap_pred {i : Nat} (h : 0 < i) (hn : i ≤ 1152921504606846976) : wrap64 ((i : Int) - 1) = ((i - 1 : Nat) : Int) := by unfold wrap64; omega
theorem Ev.eq {α : Type} {r s : α} (h : r = s) : Ev (fun _ => some r) s := h ▸ Ev.now r
theorem Ev.opt {α : Type} {o : Option α} {r : α} (h : o = some r) : Ev (fun _ => o) r := h ▸ Ev.now r
theorem Ev.yes {α : Type} {c : Prop} [Decidable c] {g f : Nat → Option α} {r : α} (h : c) (k : Ev g r) : Ev (fun n => if c then g n else f n) r := by simpa [h] using k
theorem Ev.no {α : Type} {c : Prop} [Decidable c] {g f : Nat → Option α} {r : α} (h : ¬ c) (k : Ev f r) : Ev (fun n => if c then g n else f n) r := by simpa [h] using k
theorem Ev.ite {α : Type} {c : Prop} [Decidable c] {g f : Nat → Option α} {r : α} (h : c → Ev g r) (k : ¬ c → Ev f r) : Ev (fun n => if c then g n else f n) r := by
  by_cases hc : c
  · exact Ev.yes hc (h hc)
  · exact Ev.no hc (k hc)
theorem Ev.bindc {α β : Type} {o : Option α} {a : α} {f : Nat → α → Option β} {r : β} (h : o = some a) (k : Ev (fun n => f n a) r) : Ev (fun n => o.bind (f n)) r := by subst h; exact k
theorem Ev.round {α : Type} {g : Nat → Option α} {r : α} (h : Ev (fun k => g (k + 1)) r) : Ev g r := Ev.step (fun _ => rfl) h
theorem Ev.conv {α : Type} {g : Nat → Option α} {r s : α} (k : Ev g r) (h : r = s) : Ev g s := h ▸ k
theorem bind_some_ {α β : Type} (a : α) (f : α → Option β) : (some a).bind f = f a := rfl
/-- A loop that counts: from each place on, the answer is what 'val' says. -/
theorem Ev.loop {σ β : Type} (g : Nat → Nat → σ → Option β) (n : Nat) (val : Nat → σ → β) (Inv : Nat → σ → Prop)
    (done : ∀ s, Inv n s → Ev (fun k => g k n s) (val n s))
    (step : ∀ i s, i < n → Inv i s → (∀ s', Inv (i + 1) s' → Ev (fun k => g k (i + 1) s') (val (i + 1) s')) → Ev (fun k => g k i s) (val i s)) :
    ∀ i s, i ≤ n → Inv i s → Ev (fun k => g k i s) (val i s) := by
  have : ∀ d i s, i + d = n → Inv i s → Ev (fun k => g k i s) (val i s) := by
    intro d
    induction d with
    | zero =>
      intro i s hi hs
      obtain rfl : i = n := by omega
      exact done s hs
    | succ d ih => intro i s hi hs; exact step i s (by omega) hs (fun s' hs' => ih (i + 1) s' (by omega) hs')
  intro i s hi hs
  exact this (n - i) i s (by omega) hs
theorem getD_lt {α : Type} {l : List α} {i : Nat} (h : i < l.length) (d : α) : l.getD i d = l[i] := by simp [List.getD_eq_getElem?_getD, h]
theorem rd_get {l : List Int} {i : Nat} (h : i < l.length) : rd l (i : Int) = l[i] := by unfold rd; exact getD_lt h _
theorem take_fill {α β : Type} (f : α → β) (l : List α) (z : β) {i : Nat} (h : i < l.length) :
    ((l.take i).map f ++ List.replicate (l.length - i) z).set i (f l[i]) = (l.take (i + 1)).map f ++ List.replicate (l.length - (i + 1)) z := by
  have e : l.length - i = (l.length - (i + 1)) + 1 := by omega
  rw [e, List.replicate_succ, List.set_append_right _ _ (by simp; omega)]
  have : i - (List.map f (List.take i l)).length = 0 := by simp; omega
  rw [this, List.set_cons_zero, List.take_succ_eq_append_getElem h, List.map_append]
  simp
theorem fill_len {α β : Type} (f : α → β) (l : List α) (z : β) {i : Nat} (h : i ≤ l.length) : ((l.take i).map f ++ List.replicate (l.length - i) z).length = l.length := by simp; omega
theorem fill_end {α β : Type} (f : α → β) (l : List α) (z : β) : (l.take l.length).map f ++ List.replicate (l.length - l.length) z = l.map f := by simp
theorem drop_get {α : Type} {l : List α} {i : Nat} (h : i < l.length) : l.drop i = l[i] :: l.drop (i + 1) := List.drop_eq_getElem_cons h
theorem drop_end {α : Type} (l : List α) : l.drop l.length = [] := List.drop_eq_nil_of_le (Nat.le_refl _)
/-! rd-Entry -/
theorem rd_Entry {l : List S64} {i : Nat} (h : i < l.length) : rd_T64 l (i : Int) = l[i] := by unfold rd_T64; exact getD_lt h _
/-! inrange -/
def M.inr (a b c : Int) : Bool := decide (b ≤ a ∧ a ≤ c)
theorem inr_true {a b c : Int} : M.inr a b c = true ↔ b ≤ a ∧ a ≤ c := by simp [M.inr]
/-! isbundle -/
def M.okE (e : S64) : Bool := M.inr e.f0 0 2147483646 && (M.inr e.f1 0 1000000 && M.inr e.f2 1 1000000)
def M.lessE (a b : S64) : Bool := decide (a.f0 < b.f0) || (decide (a.f0 = b.f0) && decide (a.f1 < b.f1))
/-- All entries are in range, and each comes behind the one before it. -/
def M.rises : Option S64 → List S64 → Bool
  | _, [] => true
  | none, e :: l => M.okE e && M.rises (some e) l
  | some p, e :: l => M.okE e && (M.lessE p e && M.rises (some e) l)
def M.isBundle (l : List S64) : Bool := decide (l.length ≤ 20) && M.rises none l
/-- The element before a place. -/
def M.before (l : List S64) (i : Nat) : Option S64 := if i = 0 then none else l[i - 1]?
theorem before_succ (l : List S64) (i : Nat) (h : i < l.length) : M.before l (i + 1) = some l[i] := by
  unfold M.before; rw [if_neg (by omega)]; simp [h]
theorem rises_at (l : List S64) (i : Nat) (h : i < l.length) : M.rises (M.before l i) (l.drop i) = (M.okE l[i] && ((decide (i = 0) || M.lessE (l[i - 1]'(by omega)) l[i]) && M.rises (M.before l (i + 1)) (l.drop (i + 1)))) := by
  rw [drop_get h, before_succ l i h]
  by_cases h0 : i = 0
  · subst h0; simp [M.before, M.rises]
  · unfold M.before; rw [if_neg h0, List.getElem?_eq_getElem (by omega)]; simp [M.rises, h0]
/-! findentry -/
/-- The place of an entry, counted from i on; -1 where there is none. -/
def M.findFrom (s h : Int) : List S64 → Int → Int
  | [], _ => -1
  | e :: l, i => if e.f0 = s ∧ e.f1 = h then i else M.findFrom s h l (i + 1)
def M.findEntry (l : List S64) (s h : Int) : Int := M.findFrom s h l 0
/-! putm -/
theorem lessE_iff {a b : S64} : M.lessE a b = true ↔ a.f0 < b.f0 ∨ (a.f0 = b.f0 ∧ a.f1 < b.f1) := by simp [M.lessE]
theorem lessE_false {a b : S64} : M.lessE a b = false ↔ ¬ (a.f0 < b.f0 ∨ (a.f0 = b.f0 ∧ a.f1 < b.f1)) := by rw [← lessE_iff]; simp
/-- Strictly ascending. -/
def M.asc (l : List S64) : Prop := l.Pairwise fun a b => M.lessE a b = true
theorem rises_asc : ∀ (l : List S64) (p : Option S64), M.rises p l = true → M.asc l ∧ (∀ e ∈ l, M.okE e = true) ∧ ∀ q, p = some q → ∀ e ∈ l, M.lessE q e = true
  | [], p, _ => ⟨List.Pairwise.nil, by simp, by simp⟩
  | e :: l, p, h => by
    have h2 : M.okE e = true ∧ M.rises (some e) l = true ∧ ∀ q, p = some q → M.lessE q e = true := by
      cases p with
      | none => simp only [M.rises, Bool.and_eq_true] at h; exact ⟨h.1, h.2, by simp⟩
      | some q => simp only [M.rises, Bool.and_eq_true] at h; exact ⟨h.1, h.2.2, fun q' hq => by cases hq; exact h.2.1⟩
    obtain ⟨i1, i2, i3⟩ := rises_asc l (some e) h2.2.1
    refine ⟨List.Pairwise.cons (fun b hb => i3 e rfl b hb) i1, ?_, ?_⟩
    · intro b hb
      rcases List.mem_cons.1 hb with rfl | hb
      · exact h2.1
      · exact i2 b hb
    · intro q hq b hb
      have hqe := h2.2.2 q hq
      rcases List.mem_cons.1 hb with rfl | hb
      · exact hqe
      · have := i3 e rfl b hb
        rw [lessE_iff] at *; omega
theorem isBundle_iff (l : List S64) : M.isBundle l = true ↔ l.length ≤ 20 ∧ M.asc l ∧ ∀ e ∈ l, M.okE e = true := by
  unfold M.isBundle
  constructor
  · intro h
    simp only [Bool.and_eq_true, decide_eq_true_eq] at h
    obtain ⟨h1, h2, _⟩ := rises_asc l none h.2
    exact ⟨h.1, h1, h2⟩
  · rintro ⟨h1, h2, h3⟩
    simp only [Bool.and_eq_true, decide_eq_true_eq]
    refine ⟨h1, ?_⟩
    have : ∀ (l : List S64) (p : Option S64), M.asc l → (∀ e ∈ l, M.okE e = true) → (∀ q, p = some q → ∀ e ∈ l, M.lessE q e = true) → M.rises p l = true := by
      intro l
      induction l with
      | nil => intro p _ _ _; cases p <;> rfl
      | cons e l ih =>
        intro p ha ho hp
        have ha' := List.pairwise_cons.1 ha
        have hr := ih (some e) ha'.2 (fun b hb => ho b (List.mem_cons_of_mem _ hb)) (fun q hq b hb => by cases hq; exact ha'.1 b hb)
        have hoe := ho e List.mem_cons_self
        cases p with
        | none => simp [M.rises, hoe, hr]
        | some q => simp [M.rises, hoe, hr, hp q rfl e List.mem_cons_self]
    exact this l none h2 h3 (by simp)
/-- Which of two entries of one place stays. -/
def M.pick (x e : S64) : S64 := if e.f2 > x.f2 ∨ (e.f2 = x.f2 ∧ e.f3 = true) then e else x
/-- An entry put into a row that ascends. -/
def M.put1 (e : S64) : List S64 → List S64
  | [] => [e]
  | x :: l => if M.lessE x e = true then x :: M.put1 e l else if M.lessE e x = true then e :: x :: l else M.pick x e :: l
def M.merge : List S64 → List S64 → List S64
  | [], b => b
  | x :: a, [] => x :: a
  | x :: a, y :: b => if M.lessE x y = true then x :: M.merge a (y :: b) else if M.lessE y x = true then y :: M.merge (x :: a) b else M.pick x y :: M.merge a b
termination_by a b => a.length + b.length
theorem merge_nil (a : List S64) : M.merge a [] = a := by cases a <;> simp [M.merge]
theorem nil_merge (a : List S64) : M.merge [] a = a := by simp [M.merge]
theorem merge_cons (x y : S64) (a b : List S64) : M.merge (x :: a) (y :: b) = if M.lessE x y = true then x :: M.merge a (y :: b) else if M.lessE y x = true then y :: M.merge (x :: a) b else M.pick x y :: M.merge a b := by rw [M.merge]
theorem pick_key (x e : S64) (h : x.f0 = e.f0 ∧ x.f1 = e.f1) : (M.pick x e).f0 = e.f0 ∧ (M.pick x e).f1 = e.f1 := by unfold M.pick; split <;> simp [h]
theorem same_key {x e : S64} (h1 : ¬ M.lessE x e = true) (h2 : ¬ M.lessE e x = true) : x.f0 = e.f0 ∧ x.f1 = e.f1 := by rw [lessE_iff] at h1 h2; omega
theorem merge_small (x : S64) (a b : List S64) (h : ∀ z ∈ b, M.lessE x z = true) : M.merge (x :: a) b = x :: M.merge a b := by
  cases b with
  | nil => rw [merge_nil, merge_nil]
  | cons z b => rw [merge_cons, if_pos (h z List.mem_cons_self)]
theorem merge_put (y : S64) (b : List S64) (hb : ∀ z ∈ b, M.lessE y z = true) : ∀ a : List S64, M.merge a (y :: b) = M.merge (M.put1 y a) b
  | [] => by rw [nil_merge, M.put1, merge_small y [] b hb, nil_merge]
  | x :: a => by
    rw [merge_cons, M.put1]
    by_cases h1 : M.lessE x y = true
    · rw [if_pos h1, if_pos h1, merge_put y b hb a, merge_small x _ b]
      intro z hz
      have := hb z hz
      rw [lessE_iff] at *; omega
    · rw [if_neg h1, if_neg h1]
      by_cases h2 : M.lessE y x = true
      · rw [if_pos h2, if_pos h2, merge_small y _ b hb]
      · rw [if_neg h2, if_neg h2, merge_small _ _ b]
        intro z hz
        have hk := pick_key x y (same_key h1 h2)
        have := hb z hz
        rw [lessE_iff] at *; rw [hk.1, hk.2]; exact this
theorem merge_fold : ∀ (b a : List S64), M.asc b → b.foldl (fun o e => M.put1 e o) a = M.merge a b
  | [], a, _ => by rw [merge_nil]; rfl
  | y :: b, a, h => by
    have h' := List.pairwise_cons.1 h
    rw [List.foldl_cons, merge_fold b _ h'.2, merge_put y b h'.1]
theorem put1_mem (e : S64) : ∀ (l : List S64) (z : S64), z ∈ M.put1 e l → (∃ x ∈ l, z.f0 = x.f0 ∧ z.f1 = x.f1) ∨ (z.f0 = e.f0 ∧ z.f1 = e.f1)
  | [], z, h => by rw [M.put1] at h; rw [List.mem_singleton.1 h]; exact .inr ⟨rfl, rfl⟩
  | x :: l, z, h => by
    rw [M.put1] at h
    by_cases h1 : M.lessE x e = true
    · rw [if_pos h1] at h
      rcases List.mem_cons.1 h with rfl | h
      · exact .inl ⟨z, List.mem_cons_self, rfl, rfl⟩
      · rcases put1_mem e l z h with ⟨x', hx, hk⟩ | hk
        · exact .inl ⟨x', List.mem_cons_of_mem _ hx, hk⟩
        · exact .inr hk
    · rw [if_neg h1] at h
      by_cases h2 : M.lessE e x = true
      · rw [if_pos h2] at h
        rcases List.mem_cons.1 h with rfl | h
        · exact .inr ⟨rfl, rfl⟩
        · exact .inl ⟨z, h, rfl, rfl⟩
      · rw [if_neg h2] at h
        rcases List.mem_cons.1 h with rfl | h
        · exact .inr (pick_key x e (same_key h1 h2))
        · exact .inl ⟨z, List.mem_cons_of_mem _ h, rfl, rfl⟩
theorem put1_asc (e : S64) : ∀ (l : List S64), M.asc l → M.asc (M.put1 e l)
  | [], _ => by rw [M.put1]; exact List.pairwise_singleton _ _
  | x :: l, h => by
    have h' := List.pairwise_cons.1 h
    rw [M.put1]
    by_cases h1 : M.lessE x e = true
    · rw [if_pos h1]
      refine List.Pairwise.cons ?_ (put1_asc e l h'.2)
      intro z hz
      rcases put1_mem e l z hz with ⟨x', hx, hk⟩ | hk
      · have := h'.1 x' hx
        rw [lessE_iff] at *; omega
      · rw [lessE_iff] at *; omega
    · rw [if_neg h1]
      by_cases h2 : M.lessE e x = true
      · rw [if_pos h2]
        refine List.Pairwise.cons ?_ h
        intro z hz
        rcases List.mem_cons.1 hz with rfl | hz
        · exact h2
        · have := h'.1 z hz
          rw [lessE_iff] at *; omega
      · rw [if_neg h2]
        refine List.Pairwise.cons ?_ h'.2
        intro z hz
        have hk := pick_key x e (same_key h1 h2)
        have hs := same_key h1 h2
        have := h'.1 z hz
        rw [lessE_iff] at *; rw [hk.1, hk.2]; omega
theorem put1_len (e : S64) : ∀ (l : List S64), (M.put1 e l).length ≤ l.length + 1
  | [] => by simp [M.put1]
  | x :: l => by
    have := put1_len e l
    rw [M.put1]; split
    · simp; omega
    · split <;> simp
theorem findFrom_bounds (s h : Int) : ∀ (l : List S64) (i : Int), M.findFrom s h l i = -1 ∨ (i ≤ M.findFrom s h l i ∧ M.findFrom s h l i < i + l.length)
  | [], i => .inl rfl
  | e :: l, i => by
    unfold M.findFrom
    split
    · exact .inr ⟨by omega, by simp; omega⟩
    · rcases findFrom_bounds s h l (i + 1) with h2 | h2
      · exact .inl h2
      · exact .inr ⟨by omega, by simp; omega⟩
theorem findEntry_bounds (l : List S64) (s h : Int) : M.findEntry l s h = -1 ∨ (0 ≤ M.findEntry l s h ∧ M.findEntry l s h < l.length) := by
  have := findFrom_bounds s h l 0
  unfold M.findEntry; omega
theorem findFrom_shift (s h : Int) : ∀ (l : List S64) (i : Int), 0 ≤ i → M.findFrom s h l (i + 1) = if M.findFrom s h l i < 0 then -1 else M.findFrom s h l i + 1
  | [], i, _ => by simp [M.findFrom]
  | e :: l, i, hi => by
    unfold M.findFrom
    by_cases hk : e.f0 = s ∧ e.f1 = h
    · rw [if_pos hk, if_pos hk, if_neg (by omega)]
    · rw [if_neg hk, if_neg hk]; exact findFrom_shift s h l (i + 1) (by omega)
theorem findEntry_cons (e : S64) (l : List S64) (s h : Int) : M.findEntry (e :: l) s h = if e.f0 = s ∧ e.f1 = h then 0 else if M.findEntry l s h < 0 then -1 else M.findEntry l s h + 1 := by
  unfold M.findEntry
  rw [M.findFrom, findFrom_shift s h l 0 (by omega)]
/-- The entry at a place, as the program reads it. -/
def M.eAt (l : List S64) (k : Int) : S64 := rd_T64 l k
theorem eAt_cons (e : S64) (l : List S64) (k : Int) (h : 0 ≤ k) (hl : k < l.length) : M.eAt (e :: l) (k + 1) = M.eAt l k := by
  obtain ⟨n, rfl⟩ := Int.eq_ofNat_of_zero_le h
  have hn : n < l.length := by omega
  show rd_T64 (e :: l) ((n : Int) + 1) = rd_T64 l (n : Int)
  rw [show ((n : Int) + 1) = ((n + 1 : Nat) : Int) from rfl, rd_Entry (by simp; omega), rd_Entry hn]; rfl
/-- Where a new entry is put. -/
def M.insE (e : S64) : List S64 → Nat
  | [] => 0
  | c :: l => if M.lessE c e = true then M.insE e l + 1 else 0
theorem insE_le (e : S64) : ∀ l : List S64, M.insE e l ≤ l.length
  | [] => Nat.le_refl _
  | c :: l => by have := insE_le e l; unfold M.insE; split <;> simp <;> omega
theorem insE_drop (e : S64) (l : List S64) (i : Nat) (hi : i < l.length) : M.insE e (l.drop i) = if M.lessE l[i] e = true then M.insE e (l.drop (i + 1)) + 1 else 0 := by
  rw [drop_get hi]; rfl
def M.insertE (l : List S64) (e : S64) : List S64 := l.take (M.insE e l) ++ [e] ++ l.drop (M.insE e l)
theorem insertE_len (l : List S64) (e : S64) : (M.insertE l e).length = l.length + 1 := by
  have := insE_le e l
  simp [M.insertE]; omega
theorem insertE_cons (c : S64) (l : List S64) (e : S64) : M.insertE (c :: l) e = if M.lessE c e = true then c :: M.insertE l e else e :: c :: l := by
  unfold M.insertE
  rw [show M.insE e (c :: l) = if M.lessE c e = true then M.insE e l + 1 else 0 from rfl]
  split <;> simp
def M.setE (l : List S64) (e : S64) : List S64 := if 0 ≤ M.findEntry l e.f0 e.f1 then l.set (M.findEntry l e.f0 e.f1).toNat e else M.insertE l e
theorem setE_len (l : List S64) (e : S64) : l.length ≤ (M.setE l e).length ∧ (M.setE l e).length ≤ l.length + 1 := by
  unfold M.setE; split
  · simp
  · rw [insertE_len]; omega
theorem find_none {l : List S64} {s h : Int} (hn : ∀ z ∈ l, ¬ (z.f0 = s ∧ z.f1 = h)) : M.findEntry l s h = -1 := by
  unfold M.findEntry
  have : ∀ (l : List S64) (i : Int), (∀ z ∈ l, ¬ (z.f0 = s ∧ z.f1 = h)) → M.findFrom s h l i = -1 := by
    intro l
    induction l with
    | nil => intro i _; rfl
    | cons e l ih => intro i hn; rw [M.findFrom, if_neg (hn e List.mem_cons_self)]; exact ih _ (fun z hz => hn z (List.mem_cons_of_mem _ hz))
  exact this l 0 hn
/-- What the reference does with one entry of the other bundle. -/
def M.putS (o : List S64) (e : S64) : List S64 :=
  if M.findEntry o e.f0 e.f1 < 0 then M.setE o e else if e.f2 > (M.eAt o (M.findEntry o e.f0 e.f1)).f2 ∨ (e.f2 = (M.eAt o (M.findEntry o e.f0 e.f1)).f2 ∧ e.f3 = true) then M.setE o e else o
theorem putS_new {o : List S64} {e : S64} (h : M.findEntry o e.f0 e.f1 < 0) : M.putS o e = M.insertE o e := by
  unfold M.putS M.setE; rw [if_pos h, if_neg (by omega)]
theorem putS_old {o : List S64} {e : S64} (h : 0 ≤ M.findEntry o e.f0 e.f1) : M.putS o e = if e.f2 > (M.eAt o (M.findEntry o e.f0 e.f1)).f2 ∨ (e.f2 = (M.eAt o (M.findEntry o e.f0 e.f1)).f2 ∧ e.f3 = true) then o.set (M.findEntry o e.f0 e.f1).toNat e else o := by
  unfold M.putS M.setE; rw [if_neg (by omega), if_pos h]
theorem putS_eq (e : S64) : ∀ (l : List S64), M.asc l → M.putS l e = M.put1 e l
  | [], _ => by
    have : M.findEntry [] e.f0 e.f1 = -1 := rfl
    rw [putS_new (by omega)]; rfl
  | x :: l, h => by
    have h' := List.pairwise_cons.1 h
    have ih := putS_eq e l h'.2
    have hb := findEntry_bounds l e.f0 e.f1
    rw [M.put1]
    by_cases h1 : M.lessE x e = true
    · rw [if_pos h1, ← ih]
      have hne : ¬ (x.f0 = e.f0 ∧ x.f1 = e.f1) := by rw [lessE_iff] at h1; omega
      by_cases hf : M.findEntry l e.f0 e.f1 < 0
      · have hx : M.findEntry (x :: l) e.f0 e.f1 < 0 := by rw [findEntry_cons, if_neg hne, if_pos hf]; omega
        rw [putS_new hx, putS_new hf, insertE_cons, if_pos h1]
      · have hx : M.findEntry (x :: l) e.f0 e.f1 = M.findEntry l e.f0 e.f1 + 1 := by rw [findEntry_cons, if_neg hne, if_neg hf]
        have hk : M.eAt (x :: l) (M.findEntry l e.f0 e.f1 + 1) = M.eAt l (M.findEntry l e.f0 e.f1) := eAt_cons x l _ (by omega) (by omega)
        have ht : (M.findEntry l e.f0 e.f1 + 1).toNat = (M.findEntry l e.f0 e.f1).toNat + 1 := by omega
        rw [putS_old (by omega), putS_old (by omega), hx, hk, ht, List.set_cons_succ]
        split <;> rfl
    · rw [if_neg h1]
      by_cases h2 : M.lessE e x = true
      · rw [if_pos h2]
        have hnone : M.findEntry (x :: l) e.f0 e.f1 = -1 := find_none (by
          intro z hz
          rcases List.mem_cons.1 hz with rfl | hz
          · rw [lessE_iff] at h2; omega
          · have := h'.1 z hz
            rw [lessE_iff] at this h2; omega)
        rw [putS_new (by omega), insertE_cons, if_neg h1]
      · rw [if_neg h2]
        have hk := same_key h1 h2
        have hx : M.findEntry (x :: l) e.f0 e.f1 = 0 := by rw [findEntry_cons, if_pos hk]
        have he : M.eAt (x :: l) 0 = x := rfl
        rw [putS_old (by omega), hx, he]
        unfold M.pick
        split <;> rfl
theorem putS_len (o : List S64) (e : S64) : (M.putS o e).length ≤ o.length + 1 := by
  unfold M.putS
  have := setE_len o e
  split
  · omega
  · split <;> omega
def M.mergeB (a b : List S64) : List S64 × Bool := if M.isBundle a = true ∧ M.isBundle b = true ∧ M.isBundle (M.merge a b) = true then (M.merge a b, true) else (a, false)
theorem mergeB_len (a b : List S64) (ha : a.length ≤ 1048576) : (M.mergeB a b).1.length ≤ 1048576 := by
  unfold M.mergeB; split
  · rename_i h; have := ((isBundle_iff _).1 h.2.2).1; simp only; omega
  · exact ha
/-! eqbundle -/
def M.eqE (a b : S64) : Bool := a.f0 == b.f0 && (a.f1 == b.f1 && (a.f2 == b.f2 && a.f3 == b.f3))
theorem eqE_iff (a b : S64) : M.eqE a b = true ↔ a = b := by
  cases a; cases b; simp [M.eqE]
theorem neE (a b : S64) : (!(a.f0 == b.f0) || (!(a.f1 == b.f1) || (!(a.f2 == b.f2) || (!(a.f3 == b.f3))))) = !M.eqE a b := by
  unfold M.eqE; cases a.f0 == b.f0 <;> cases a.f1 == b.f1 <;> cases a.f2 == b.f2 <;> rfl
def M.eqEs : List S64 → List S64 → Bool
  | [], [] => true
  | a :: l, b :: r => M.eqE a b && M.eqEs l r
  | _, _ => false
theorem eqEs_len : ∀ {l r : List S64}, l.length ≠ r.length → M.eqEs l r = false
  | [], [], h => by simp at h
  | [], _ :: _, _ => rfl
  | _ :: _, [], _ => rfl
  | a :: l, b :: r, h => by simp only [M.eqEs, eqEs_len (l := l) (r := r) (by simpa using h), Bool.and_false]
theorem eqEs_iff : ∀ (l r : List S64), M.eqEs l r = true ↔ l = r
  | [], [] => by simp [M.eqEs]
  | [], _ :: _ => by simp [M.eqEs]
  | _ :: _, [] => by simp [M.eqEs]
  | a :: l, b :: r => by simp [M.eqEs, eqEs_iff l r, eqE_iff]
/-! includes -/
def M.includes (a b : List S64) : Bool := (M.mergeB a b).2 && M.eqEs (M.mergeB a b).1 a
/-! impl_copyBundle -/
theorem impl_copyBundle.eq (l : List S64) (hl : l.length ≤ 1048577) : impl_copyBundle.f l = some l := by
  unfold impl_copyBundle.f; simp only [bind_some_]; rw [if_pos (by simp; omega)]; rfl
/-! impl_entryBefore -/
theorem impl_entryBefore.eq (a b : S64) : impl_entryBefore.f a.f0 a.f1 a.f2 a.f3 b.f0 b.f1 b.f2 b.f3 = some (M.lessE a b) := by
  unfold impl_entryBefore.f M.lessE
  by_cases h1 : a.f0 < b.f0 <;> by_cases h2 : a.f0 = b.f0 <;> simp [h1, h2]
/-! impl_InRange -/
theorem impl_InRange.eq (a b c : Int) : impl_InRange.f a b c = some (M.inr a b c) := by
  unfold impl_InRange.f M.inr
  by_cases h : b ≤ a
  · rw [if_pos h]; simp [h]
  · rw [if_neg h]
    simp [h]
/-! impl_IsBundle -/
theorem impl_IsBundle.ev (l : List S64) (hl : l.length ≤ 1048576) : Ev (fun k => impl_IsBundle.f k l) (M.isBundle l) := by
  unfold impl_IsBundle.f
  refine Ev.ite (fun h => Ev.eq (by have : ¬ l.length ≤ 20 := by omega
                                    simp [M.isBundle, this])) (fun hh => ?_)
  have hh2 : l.length ≤ 20 := by omega
  refine Ev.conv (Ev.loop (fun k i (_ : Unit) => impl_IsBundle.l0 k l l.length (i : Int) l) l.length (fun i _ => M.rises (M.before l i) (l.drop i)) (fun _ _ => True) ?_ ?_ 0 () (by omega) trivial) (by simp [M.isBundle, M.before, hh2])
  · rintro s _
    refine Ev.round ?_
    simp only [impl_IsBundle.l0]
    refine Ev.no (by omega) (Ev.eq ?_)
    rw [drop_end]; cases M.before l l.length <;> simp [M.rises]
  · rintro i s hi _ ih
    refine Ev.round ?_
    simp only [impl_IsBundle.l0, wrap_succ hi (by omega : l.length ≤ _), rd_Entry hi, impl_InRange.eq, bind_some_]
    rw [rises_at l i hi]
    refine Ev.yes (by omega) (Ev.yes (by omega) (Ev.yes (by omega) (Ev.ite (fun h1 => Ev.ite (fun h2 => Ev.ite (fun h3 => ?_) (fun h3 => ?_)) (fun h2 => ?_)) (fun h1 => ?_))))
    · have ho : M.okE l[i] = true := by simp [M.okE, h1, h2, h3]
      refine Ev.ite (fun h0 => ?_) (fun h0 => ?_)
      · have hp : wrap64 ((i : Int) - 1) = ((i - 1 : Nat) : Int) := wrap_pred (by omega) (by omega)
        simp only [hp, rd_Entry (by omega : i - 1 < l.length), impl_entryBefore.eq, bind_some_]
        refine Ev.yes (by omega) (Ev.yes (by omega) (Ev.ite (fun h4 => ?_) (fun h4 => ?_)))
        · refine Ev.conv (ih () trivial) (by simp [ho, h4])
        · refine Ev.eq (by simp [ho, h4]; omega)
      · refine Ev.conv (ih () trivial) (by obtain rfl : i = 0 := (by omega); simp [ho])
    · exact Ev.eq (by simp [M.okE, h3])
    · exact Ev.eq (by simp [M.okE, h2])
    · exact Ev.eq (by simp [M.okE, h1])
/-! impl_MergeBundles -/
theorem impl_MergeBundles.ev (a b : List S64) (ha : a.length ≤ 1048576) (hb : b.length ≤ 1048576) : Ev (fun k => impl_MergeBundles.f k a b) (M.mergeB a b) := by
  unfold impl_MergeBundles.f
  have no : ¬ (M.isBundle a = true ∧ M.isBundle b = true) → Ev (fun k => impl_MergeBundles.j0 k true a b) (M.mergeB a b) := by
    intro h
    refine Ev.round ?_
    simp only [impl_MergeBundles.j0, impl_copyBundle.eq a (by omega), bind_some_]
    exact Ev.yes (by trivial) (Ev.eq (by unfold M.mergeB; rw [if_neg (fun hh => h ⟨hh.1, hh.2.1⟩)]))
  refine Ev.bind (impl_IsBundle.ev a ha) (Ev.ite (fun h1 => Ev.bind (impl_IsBundle.ev b hb) ?_) (fun h1 => no (fun hh => h1 hh.1)))
  cases h2 : M.isBundle b with
  | false => exact no (fun hh => by rw [h2] at hh; cases hh.2)
  | true =>
    obtain ⟨ha1, ha2, ha3⟩ := (isBundle_iff a).1 h1
    obtain ⟨hb1, hb2, hb3⟩ := (isBundle_iff b).1 h2
    refine Ev.round ?_
    simp only [impl_MergeBundles.j0]
    refine Ev.no (by simp) ?_
    have go : ∀ (d i j : Nat) (o : List S64), (a.length - i) + (b.length - j) = d → i ≤ a.length → j ≤ b.length → o.length ≤ i + j → o ++ M.merge (a.drop i) (b.drop j) = M.merge a b →
        Ev (fun k => impl_MergeBundles.l0 k (i : Int) (j : Int) a b o) (M.mergeB a b) := by
      intro d
      induction d using Nat.strongRecOn with
      | _ d ih =>
      intro i j o hd hi hj hol ho
      -- the three ways on
      have wa : ∀ hia : i < a.length, (j = b.length ∨ ∃ h : j < b.length, M.lessE a[i] b[j] = true) → Ev (fun k => impl_MergeBundles.j3 k (i : Int) (j : Int) true a b o) (M.mergeB a b) := by
        intro hia hc
        refine Ev.round ?_
        simp only [impl_MergeBundles.j3, rd_Entry hia, wrap_succ hia (by omega : a.length ≤ _)]
        refine Ev.yes (by trivial) (Ev.yes (by omega) (Ev.yes (by omega) (Ev.yes (by omega) ?_)))
        refine ih (d - 1) (by omega) (i + 1) j _ (by omega) (by omega) hj (by simp; omega) ?_
        rw [← ho, drop_get hia, List.append_assoc]
        congr 1
        rcases hc with rfl | ⟨hjb, hl⟩
        · rw [drop_end, merge_nil, merge_nil]; rfl
        · rw [drop_get hjb, merge_cons, if_pos hl]; rfl
      have wb : ∀ hjb : j < b.length, (i = a.length ∨ ∃ h : i < a.length, M.lessE b[j] a[i] = true) → Ev (fun k => impl_MergeBundles.j4 k (i : Int) (j : Int) true a b o) (M.mergeB a b) := by
        intro hjb hc
        refine Ev.round ?_
        simp only [impl_MergeBundles.j4, rd_Entry hjb, wrap_succ hjb (by omega : b.length ≤ _)]
        refine Ev.yes (by trivial) (Ev.yes (by omega) (Ev.yes (by omega) (Ev.yes (by omega) ?_)))
        refine ih (d - 1) (by omega) i (j + 1) _ (by omega) hi (by omega) (by simp; omega) ?_
        rw [← ho, drop_get hjb, List.append_assoc]
        congr 1
        rcases hc with rfl | ⟨hia, hl⟩
        · rw [drop_end, nil_merge, nil_merge]; rfl
        · have hl2 : ¬ M.lessE a[i] b[j] = true := by rw [lessE_iff] at *; omega
          rw [drop_get hia, merge_cons, if_neg hl2, if_pos hl]; rfl
      have wc : ∀ (hia : i < a.length) (hjb : j < b.length), ¬ M.lessE a[i] b[j] = true → ¬ M.lessE b[j] a[i] = true → Ev (fun k => impl_MergeBundles.j4 k (i : Int) (j : Int) false a b o) (M.mergeB a b) := by
        intro hia hjb n1 n2
        have nxt : ∀ e, M.pick a[i] b[j] = e → Ev (fun k => impl_MergeBundles.l0 k ((i + 1 : Nat) : Int) ((j + 1 : Nat) : Int) a b (o ++ [e])) (M.mergeB a b) := by
          rintro e rfl
          refine ih (d - 2) (by omega) (i + 1) (j + 1) _ (by omega) (by omega) (by omega) (by simp; omega) ?_
          rw [← ho, drop_get hia, drop_get hjb, List.append_assoc, merge_cons, if_neg n1, if_neg n2]; rfl
        refine Ev.round ?_
        simp only [impl_MergeBundles.j4, rd_Entry hjb, rd_Entry hia, wrap_succ hjb (by omega : b.length ≤ _), wrap_succ hia (by omega : a.length ≤ _)]
        refine Ev.no (by simp) (Ev.yes (by omega) (Ev.yes (by omega) (Ev.yes (by omega) (Ev.yes (by omega) (Ev.ite (fun h4 => Ev.yes (by omega) (nxt _ ?_)) (fun h4 => Ev.ite (fun h5 => Ev.ite (fun h6 => Ev.yes (by omega) (nxt _ ?_)) (fun h6 => Ev.yes (by omega) (nxt _ ?_))) (fun h5 => Ev.yes (by omega) (nxt _ ?_))))))))
        · unfold M.pick; rw [if_pos (.inl h4)]
        · unfold M.pick; rw [if_pos (.inr ⟨h5, h6⟩)]
        · unfold M.pick; rw [if_neg (fun hh => hh.elim h4 (fun hh => h6 hh.2))]
        · unfold M.pick; rw [if_neg (fun hh => hh.elim h4 (fun hh => h5 hh.1))]
      have more : (i < a.length ∨ j < b.length) → Ev (fun k => impl_MergeBundles.j2 k (i : Int) (j : Int) true a b o) (M.mergeB a b) := by
        intro hm
        refine Ev.round ?_
        simp only [impl_MergeBundles.j2]
        refine Ev.yes (by trivial) (Ev.ite (fun h3 => wa (by omega) (.inl (by omega))) (fun h3 => ?_))
        have hjb : j < b.length := by omega
        simp only [rd_Entry hjb]
        -- to put the other's
        have other : i = a.length → Ev (fun k => impl_MergeBundles.j3 k (i : Int) (j : Int) false a b o) (M.mergeB a b) := by
          intro hia
          refine Ev.round ?_
          simp only [impl_MergeBundles.j3]
          exact Ev.no (by simp) (Ev.yes (by omega) (wb hjb (.inl hia)))
        refine Ev.ite (fun h4 => ?_) (fun h4 => other (by omega))
        have hia : i < a.length := by omega
        simp only [rd_Entry hia, impl_entryBefore.eq, bind_some_]
        refine Ev.yes (by omega) (Ev.yes (by omega) (Ev.yes (by omega) ?_))
        cases h5 : M.lessE a[i] b[j] with
        | true => exact wa hia (.inr ⟨hjb, h5⟩)
        | false =>
          refine Ev.round ?_
          simp only [impl_MergeBundles.j3, rd_Entry hjb, rd_Entry hia, impl_entryBefore.eq, bind_some_]
          refine Ev.no (by simp) (Ev.no (by omega) (Ev.yes (by omega) (Ev.yes (by omega) (Ev.yes (by omega) (Ev.yes (by omega) ?_)))))
          cases h6 : M.lessE b[j] a[i] with
          | true => exact wb hjb (.inr ⟨hia, h6⟩)
          | false => exact wc hia hjb (by rw [h5]; simp) (by rw [h6]; simp)
      refine Ev.round ?_
      simp only [impl_MergeBundles.l0]
      refine Ev.ite (fun h3 => more (by omega)) (fun h3 => ?_)
      by_cases h4 : j < b.length
      · rw [decide_eq_true (by omega : (j : Int) < b.length)]; exact more (.inr h4)
      · rw [decide_eq_false (by omega : ¬ (j : Int) < b.length)]
        have e1 : i = a.length := by omega
        have e2 : j = b.length := by omega
        have ho2 : o = M.merge a b := by rw [e1, e2, drop_end, drop_end, merge_nil, List.append_nil] at ho; exact ho
        refine Ev.round ?_
        simp only [impl_MergeBundles.j2]
        refine Ev.no (by simp) (Ev.bind (impl_IsBundle.ev o (by omega)) (Ev.ite (fun h3 => Ev.eq ?_) (fun h3 => ?_)))
        · unfold M.mergeB; rw [← ho2, if_pos ⟨h1, h2, h3⟩]
        · rw [impl_copyBundle.eq a (by omega)]
          exact Ev.eq (by unfold M.mergeB; rw [← ho2, if_neg (fun hh => h3 hh.2.2)])
    exact go _ 0 0 [] rfl (by omega) (by omega) (by simp) (by simp)
/-! impl_EqualBundles -/
theorem impl_EqualBundles.ev (l r : List S64) (hl : l.length ≤ 1048576) (hr : r.length ≤ 1048576) : Ev (fun k => impl_EqualBundles.f k l r) (M.eqEs l r) := by
  unfold impl_EqualBundles.f
  refine Ev.ite (fun h => ?_) (fun h => Ev.eq (eqEs_len (by omega)).symm)
  have hlr : l.length = r.length := by omega
  refine Ev.loop (fun k i (_ : Unit) => impl_EqualBundles.l0 k l.length (i : Int) l r) l.length (fun i _ => M.eqEs (l.drop i) (r.drop i)) (fun _ _ => True) ?_ ?_ 0 () (by omega) trivial
  · rintro s _
    refine Ev.round ?_
    simp only [impl_EqualBundles.l0]
    exact Ev.no (by omega) (Ev.eq (by rw [drop_end, List.drop_eq_nil_of_le (by omega)]; rfl))
  · rintro i s hi _ ih
    have hi2 : i < r.length := by omega
    refine Ev.round ?_
    simp only [impl_EqualBundles.l0, wrap_succ hi (by omega : l.length ≤ _), rd_Entry hi, rd_Entry hi2, neE]
    rw [drop_get hi, drop_get hi2]
    refine Ev.yes (by omega) (Ev.yes (by omega) (Ev.yes (by omega) (Ev.yes (by omega) (Ev.ite (fun h => ?_) (fun h => ?_)))))
    · exact Ev.eq (by simp at h; simp [M.eqEs, h])
    · refine Ev.conv (ih () trivial) (by simp at h; simp [M.eqEs, h])
/-! impl_IncludesBundle -/
theorem impl_IncludesBundle.ev (a b : List S64) (ha : a.length ≤ 1048576) (hb : b.length ≤ 1048576) : Ev (fun k => impl_IncludesBundle.f k a b) (M.includes a b) := by
  unfold impl_IncludesBundle.f
  refine Ev.bind (impl_MergeBundles.ev a b ha hb) (Ev.ite (fun h => Ev.bind (impl_EqualBundles.ev _ _ (mergeB_len a b ha) ha) (Ev.eq ?_)) (fun h => Ev.eq ?_))
  · unfold M.includes; rw [h]; rfl
  · unfold M.includes; rw [Bool.eq_false_iff.2 h]; rfl
/-! laws_eqEntryS -/
theorem laws_eqEntryS.refl (l : List S64) (hl : l.length ≤ 1048576) : Ev (fun k => laws_eqEntryS.f k l l) true := by
  unfold laws_eqEntryS.f
  refine Ev.yes rfl ?_
  refine Ev.loop (fun k i (_ : Unit) => laws_eqEntryS.l0 k l l (i : Int)) l.length (fun _ _ => true) (fun _ _ => True) ?_ ?_ 0 () (by omega) trivial
  · rintro s _
    refine Ev.round ?_
    simp only [laws_eqEntryS.l0]
    exact Ev.no (by omega) (Ev.now _)
  · rintro i s hi _ ih
    refine Ev.round ?_
    simp only [laws_eqEntryS.l0, wrap_succ hi (by omega : l.length ≤ _), laws_eqEntry.f, if_true, bind_some_, bne_self_eq_false, Bool.false_eq_true, if_false]
    exact Ev.yes (by omega) (Ev.yes (by omega) (Ev.yes (by omega) (ih () trivial)))
/-! laws_eqBundle -/
theorem laws_eqBundle.refl (l : List S64) (hl : l.length ≤ 1048576) : Ev (fun k => laws_eqBundle.f k l l) true := by
  unfold laws_eqBundle.f; exact Ev.bind (laws_eqEntryS.refl l hl) (Ev.yes rfl (Ev.now _))
/-! sz -/
def M.sz (n : Nat) (a : Int) : Int := if a - n < 0 then -1 else a - n
theorem sz_eq (n : Nat) (a : Int) (ha : 0 ≤ a) (ha2 : a ≤ 1048576) (hn : n ≤ 9223372036854775807) : (if (wrap64 (a - (n : Int))) < 0 then (some (-1)) else (some (wrap64 (a - (n : Int)))) : Option Int) = some (M.sz n a) := by
  rw [wrap_in (by omega) (by omega)]; unfold M.sz; split <;> rfl
theorem sz_over {n : Nat} {a : Int} (h : a < n) : M.sz n a = -1 := by unfold M.sz; rw [if_pos (by omega)]
theorem sz_fits {n : Nat} {a : Int} (h : (n : Int) ≤ a) : M.sz n a = a - n := by unfold M.sz; rw [if_neg (by omega)]
theorem sz_wrap (n : Nat) (a : Int) : (if M.sz n a < 0 then (some (-1)) else (some (M.sz n a)) : Option Int) = some (M.sz n a) := by
  unfold M.sz; split <;> simp_all
theorem sz_add (n m : Nat) (a : Int) : (if M.sz n a < 0 then -1 else M.sz m (M.sz n a)) = M.sz (n + m) a := by
  unfold M.sz; split <;> split <;> simp_all <;> omega
theorem sz_sub (m n : Nat) (x : Int) : M.sz m (x - n) = M.sz (n + m) x := by
  unfold M.sz; rw [show x - n - m = x - ((n + m : Nat) : Int) by omega]
/-- A law's own look at the size of an argument. -/
theorem Ev.size {n : Nat} {a : Int} {f : Nat → Option Bool} (h : (n : Int) ≤ a → Ev f true) : Ev (fun k => if M.sz n a < 0 then some true else f k) true := by
  by_cases hn : (n : Int) ≤ a
  · exact Ev.no (by rw [sz_fits hn]; omega) (h hn)
  · exact Ev.yes (by rw [sz_over (by omega)]; omega) (Ev.now _)
/-! laws_szEntryS -/
theorem laws_szEntryS.eq (l : List S80) (a : Int) (ha : 0 ≤ a) (ha2 : a ≤ 1048576) (hl : l.length ≤ 9223372036854775807) : laws_szEntryS.f l a = some (M.sz l.length a) := by
  unfold laws_szEntryS.f; exact sz_eq _ _ ha ha2 hl
/-! laws_szBundle -/
theorem laws_szBundle.eq (l : List S80) (a : Int) (ha : 0 ≤ a) (ha2 : a ≤ 1048576) (hl : l.length ≤ 9223372036854775807) : laws_szBundle.f l a = some (M.sz l.length a) := by
  unfold laws_szBundle.f; rw [laws_szEntryS.eq l a ha ha2 hl]; exact sz_wrap _ _
/-! rd-lEntry -/
theorem rd_lEntry {l : List S80} {i : Nat} (h : i < l.length) : rd_T80 l (i : Int) = l[i] := by unfold rd_T80; exact getD_lt h _
/-! laws_toEntryS -/
def M.toEntry (e : S80) : S64 := ⟨e.f0, e.f1, e.f2, e.f3⟩
theorem laws_toEntryS.ev (l : List S80) (hl : l.length ≤ 1048576) : Ev (fun k => laws_toEntryS.f k l) (l.map M.toEntry) := by
  unfold laws_toEntryS.f
  refine Ev.yes (by omega) (Ev.yes (by omega) ?_)
  refine Ev.loop (fun k i x => laws_toEntryS.l0 k l x (i : Int)) l.length (fun _ _ => l.map M.toEntry) (fun i x => x = (l.take i).map M.toEntry ++ List.replicate (l.length - i) z64) ?_ ?_ 0 _ (by omega) (by simp)
  · rintro s rfl
    refine Ev.round ?_
    simp only [laws_toEntryS.l0]
    exact Ev.no (by omega) (Ev.eq (fill_end _ _ _))
  · rintro i s hi rfl ih
    refine Ev.round ?_
    simp only [laws_toEntryS.l0, rd_lEntry hi, laws_toEntry.f, bind_some_, wrap_succ hi (by omega : l.length ≤ _), Int.toNat_natCast]
    refine Ev.yes (by omega) (Ev.yes (by omega) (Ev.yes (by rw [fill_len _ _ _ (by omega)]; omega) ?_))
    exact ih _ (take_fill M.toEntry l z64 hi)
/-! laws_toBundle -/
theorem laws_toBundle.ev (l : List S80) (hl : l.length ≤ 1048576) : Ev (fun k => laws_toBundle.f k l) (l.map M.toEntry) := by
  unfold laws_toBundle.f; exact Ev.bind (laws_toEntryS.ev l hl) (Ev.now _)
/-! spec_l17Copy -/
theorem spec_l17Copy.eq (l : List S64) (hl : l.length ≤ 1048577) : spec_l17Copy.f l = some l := by
  unfold spec_l17Copy.f; simp only [bind_some_]; rw [if_pos (by simp; omega)]; rfl
/-! spec_FindEntry -/
theorem spec_FindEntry.ev (l : List S64) (a b : Int) (hl : l.length ≤ 1048576) : Ev (fun k => spec_FindEntry.f k l a b) (M.findEntry l a b) := by
  unfold spec_FindEntry.f
  refine Ev.loop (fun k i (_ : Unit) => spec_FindEntry.l0 k a b (i : Int) l) l.length (fun i _ => M.findFrom a b (l.drop i) i) (fun _ _ => True) ?_ ?_ 0 () (by omega) trivial
  · rintro s _
    refine Ev.round ?_
    simp only [spec_FindEntry.l0]
    exact Ev.no (by omega) (Ev.eq (by rw [drop_end]; rfl))
  · rintro i s hi _ ih
    refine Ev.round ?_
    simp only [spec_FindEntry.l0, rd_Entry hi, wrap_succ hi (by omega : l.length ≤ _)]
    rw [drop_get hi]; unfold M.findFrom
    refine Ev.yes (by omega) (Ev.yes (by omega) (Ev.ite (fun h1 => Ev.ite (fun h2 => ?_) (fun h2 => ?_)) (fun h1 => ?_)))
    · exact Ev.eq (by rw [if_pos ⟨h1, h2⟩])
    · rw [if_neg (fun h => h2 h.2)]; exact ih () trivial
    · rw [if_neg (fun h => h1 h.1)]; exact ih () trivial
/-! spec_l17Less -/
theorem spec_l17Less.eq (a b : S64) : spec_l17Less.f a.f0 a.f1 a.f2 a.f3 b.f0 b.f1 = some (M.lessE a b) := by
  unfold spec_l17Less.f M.lessE
  by_cases h1 : a.f0 < b.f0 <;> by_cases h2 : a.f0 = b.f0 <;> simp [h1, h2]
/-! spec_l17Set -/
theorem spec_l17Set.ev (l : List S64) (e : S64) (hl : l.length ≤ 1048576) : Ev (fun k => spec_l17Set.f k l e.f0 e.f1 e.f2 e.f3) (M.setE l e) := by
  unfold spec_l17Set.f
  have hb := findEntry_bounds l e.f0 e.f1
  refine Ev.bindc (spec_l17Copy.eq _ (by omega)) (Ev.bind (spec_FindEntry.ev l _ _ hl) (Ev.ite (fun h1 => Ev.yes (by omega) (Ev.yes (by omega) (Ev.eq ?_))) (fun h1 => ?_)))
  · unfold M.setE; rw [if_pos (by omega)]
  have hr : M.setE l e = M.insertE l e := by unfold M.setE; rw [if_neg (by omega)]
  rw [hr]
  have hi := insE_le e l
  have fin : ∀ i : Nat, i = M.insE e l → (l.take i ++ [(⟨e.f0, e.f1, e.f2, e.f3⟩ : S64)] ++ l.drop i) = M.insertE l e := by rintro i rfl; rfl
  refine Ev.loop (fun k i (_ : Unit) => spec_l17Set.l0 k (i : Int) l e.f0 e.f1 e.f2 e.f3) l.length (fun _ _ => M.insertE l e) (fun i _ => M.insE e l = i + M.insE e (l.drop i)) ?_ ?_ 0 () (by omega) (by simp)
  · rintro s hinv
    rw [drop_end] at hinv
    refine Ev.round ?_
    simp only [spec_l17Set.l0, bind_some_, Int.toNat_natCast]
    refine Ev.no (by omega) (Ev.yes (by omega) (Ev.yes (by omega) (Ev.yes (by simp; omega) (Ev.yes (by simp; omega) (Ev.yes (by simp; omega) (Ev.eq ?_))))))
    rw [List.nil_append]; exact fin _ (by rw [hinv]; rfl)
  · rintro i s hil hinv ih
    rw [insE_drop e l i hil] at hinv
    refine Ev.round ?_
    simp only [spec_l17Set.l0, rd_Entry hil, wrap_succ hil (by omega : l.length ≤ _), spec_l17Less.eq, bind_some_, Int.toNat_natCast]
    refine Ev.yes (by omega) (Ev.yes (by omega) (Ev.ite (fun h2 => ?_) (fun h2 => ?_)))
    · rw [if_pos h2] at hinv; exact ih () (by omega)
    · rw [if_neg h2] at hinv
      refine Ev.yes (by omega) (Ev.yes (by simp; omega) (Ev.yes (by simp; omega) (Ev.yes (by simp; omega) (Ev.eq ?_))))
      rw [List.nil_append]; exact fin _ (by omega)
/-! spec_l1In -/
theorem spec_l1In.eq (a b c : Int) : spec_l1In.f a b c = some (M.inr a b c) := by
  unfold spec_l1In.f M.inr
  by_cases h : a ≥ b
  · rw [if_pos h]; simp [h]
  · rw [if_neg h]; have : ¬ b ≤ a := by omega
    simp [this]
/-! spec_IsBundle -/
theorem spec_IsBundle.ev (l : List S64) (hl : l.length ≤ 1048576) : Ev (fun k => spec_IsBundle.f k l) (M.isBundle l) := by
  unfold spec_IsBundle.f
  refine Ev.conv (Ev.loop (fun k i (_ : Unit) => spec_IsBundle.l0 k (i : Int) l) l.length (fun i _ => decide (l.length ≤ 20) && M.rises (M.before l i) (l.drop i)) (fun _ _ => True) ?_ ?_ 0 () (by omega) trivial) (by simp [M.isBundle, M.before])
  · rintro s _
    refine Ev.round ?_
    simp only [spec_IsBundle.l0]
    refine Ev.no (by omega) (Ev.eq ?_)
    rw [drop_end]; cases M.before l l.length <;> simp [M.rises] <;> omega
  · rintro i s hi _ ih
    refine Ev.round ?_
    simp only [spec_IsBundle.l0, wrap_succ hi (by omega : l.length ≤ _), rd_Entry hi, spec_l1In.eq, bind_some_]
    rw [rises_at l i hi]
    refine Ev.yes (by omega) (Ev.yes (by omega) (Ev.ite (fun h1 => Ev.ite (fun h2 => Ev.ite (fun h3 => ?_) (fun h3 => ?_)) (fun h2 => ?_)) (fun h1 => ?_)))
    · have ho : M.okE l[i] = true := by simp [M.okE, h1, h2, h3]
      refine Ev.ite (fun h0 => ?_) (fun h0 => ?_)
      · have hp : wrap64 ((i : Int) - 1) = ((i - 1 : Nat) : Int) := wrap_pred (by omega) (by omega)
        simp only [hp, rd_Entry (by omega : i - 1 < l.length), spec_l17Less.eq, bind_some_]
        refine Ev.yes (by omega) (Ev.yes (by omega) (Ev.ite (fun h4 => ?_) (fun h4 => ?_)))
        · refine Ev.conv (ih () trivial) (by simp [ho, h4])
        · refine Ev.eq (by simp [ho, h4]; omega)
      · refine Ev.conv (ih () trivial) (by obtain rfl : i = 0 := (by omega); simp [ho])
    · exact Ev.eq (by simp [M.okE, h3])
    · exact Ev.eq (by simp [M.okE, h2])
    · exact Ev.eq (by simp [M.okE, h1])
/-! spec_MergeBundles -/
theorem fold_asc : ∀ (b a : List S64), M.asc a → b.foldl M.putS a = b.foldl (fun o e => M.put1 e o) a ∧ M.asc (b.foldl M.putS a)
  | [], a, h => ⟨rfl, h⟩
  | y :: b, a, h => by
    rw [List.foldl_cons, List.foldl_cons, putS_eq y a h]
    exact fold_asc b _ (put1_asc y a h)
theorem spec_MergeBundles.ev (a b : List S64) (ha : a.length ≤ 1048576) (hb : b.length ≤ 1048576) : Ev (fun k => spec_MergeBundles.f k a b) (M.mergeB a b) := by
  unfold spec_MergeBundles.f
  have no : ¬ (M.isBundle a = true ∧ M.isBundle b = true) → Ev (fun k => spec_MergeBundles.j0 k true a b) (M.mergeB a b) := by
    intro h
    refine Ev.round ?_
    simp only [spec_MergeBundles.j0, spec_l17Copy.eq a (by omega), bind_some_]
    exact Ev.yes (by trivial) (Ev.eq (by unfold M.mergeB; rw [if_neg (fun hh => h ⟨hh.1, hh.2.1⟩)]))
  refine Ev.bind (spec_IsBundle.ev a ha) (Ev.ite (fun h1 => Ev.bind (spec_IsBundle.ev b hb) ?_) (fun h1 => no (fun hh => h1 hh.1)))
  cases h2 : M.isBundle b with
  | false => exact no (fun hh => by rw [h2] at hh; cases hh.2)
  | true =>
    obtain ⟨ha1, ha2, ha3⟩ := (isBundle_iff a).1 h1
    obtain ⟨hb1, hb2, hb3⟩ := (isBundle_iff b).1 h2
    refine Ev.round ?_
    simp only [spec_MergeBundles.j0, spec_l17Copy.eq a (by omega), bind_some_]
    refine Ev.no (by simp) ?_
    have hfold : b.foldl M.putS a = M.merge a b := by rw [(fold_asc b a ha2).1, merge_fold b a hb2]
    refine Ev.loop (fun k i o => spec_MergeBundles.l0 k (i : Int) a b o) b.length (fun _ _ => M.mergeB a b) (fun i o => (b.drop i).foldl M.putS o = M.merge a b ∧ o.length ≤ 20 + i) ?_ ?_ 0 a (by omega) ⟨hfold, by omega⟩
    · rintro o ⟨ho, hol⟩
      rw [drop_end, List.foldl_nil] at ho
      subst ho
      refine Ev.round ?_
      simp only [spec_MergeBundles.l0]
      refine Ev.no (by omega) (Ev.bind (spec_IsBundle.ev _ (by omega)) (Ev.ite (fun h3 => Ev.eq ?_) (fun h3 => ?_)))
      · unfold M.mergeB; rw [if_pos ⟨h1, h2, h3⟩]
      · rw [spec_l17Copy.eq a (by omega)]
        exact Ev.eq (by unfold M.mergeB; rw [if_neg (fun hh => h3 hh.2.2)])
    · rintro i o hi ⟨ho, hol⟩ ih
      rw [drop_get hi, List.foldl_cons] at ho
      have hfb := findEntry_bounds o b[i].f0 b[i].f1
      have hpl := putS_len o b[i]
      have nxt : ∀ o', M.putS o b[i] = o' → Ev (fun k => spec_MergeBundles.l0 k ((i + 1 : Nat) : Int) a b o') (M.mergeB a b) := by
        rintro o' rfl; exact ih _ ⟨ho, by omega⟩
      refine Ev.round ?_
      simp only [spec_MergeBundles.l0, rd_Entry hi, wrap_succ hi (by omega : b.length ≤ _)]
      refine Ev.yes (by omega) (Ev.yes (by omega) (Ev.bind (spec_FindEntry.ev o _ _ (by omega)) (Ev.ite (fun h3 => Ev.bind (spec_l17Set.ev o b[i] (by omega)) (nxt _ ?_)) (fun h3 => Ev.yes (by omega) (Ev.yes (by omega) (Ev.ite (fun h4 => Ev.bind (spec_l17Set.ev o b[i] (by omega)) (nxt _ ?_)) (fun h4 => Ev.ite (fun h5 => Ev.ite (fun h6 => Ev.bind (spec_l17Set.ev o b[i] (by omega)) (nxt _ ?_)) (fun h6 => nxt _ ?_)) (fun h5 => nxt _ ?_))))))))
      · unfold M.putS; rw [if_pos h3]
      · unfold M.putS M.eAt; rw [if_neg h3, if_pos (.inl h4)]
      · unfold M.putS M.eAt; rw [if_neg h3, if_pos (.inr ⟨h5, h6⟩)]
      · unfold M.putS M.eAt; rw [if_neg h3, if_neg (fun hh => hh.elim h4 (fun hh => h6 hh.2))]
      · unfold M.putS M.eAt; rw [if_neg h3, if_neg (fun hh => hh.elim h4 (fun hh => h5 hh.1))]
/-! spec_EqualBundles -/
theorem spec_EqualBundles.ev (l r : List S64) (hl : l.length ≤ 1048576) (hr : r.length ≤ 1048576) : Ev (fun k => spec_EqualBundles.f k l r) (M.eqEs l r) := by
  unfold spec_EqualBundles.f
  refine Ev.ite (fun h => ?_) (fun h => Ev.eq (eqEs_len (by omega)).symm)
  have hlr : l.length = r.length := by omega
  refine Ev.loop (fun k i (_ : Unit) => spec_EqualBundles.l0 k (i : Int) l r) l.length (fun i _ => M.eqEs (l.drop i) (r.drop i)) (fun _ _ => True) ?_ ?_ 0 () (by omega) trivial
  · rintro s _
    refine Ev.round ?_
    simp only [spec_EqualBundles.l0]
    exact Ev.no (by omega) (Ev.eq (by rw [drop_end, List.drop_eq_nil_of_le (by omega)]; rfl))
  · rintro i s hi _ ih
    have hi2 : i < r.length := by omega
    refine Ev.round ?_
    simp only [spec_EqualBundles.l0, wrap_succ hi (by omega : l.length ≤ _), rd_Entry hi, rd_Entry hi2, neE]
    rw [drop_get hi, drop_get hi2]
    refine Ev.yes (by omega) (Ev.yes (by omega) (Ev.yes (by omega) (Ev.ite (fun h => ?_) (fun h => ?_))))
    · exact Ev.eq (by simp at h; simp [M.eqEs, h])
    · refine Ev.conv (ih () trivial) (by simp at h; simp [M.eqEs, h])
/-! spec_IncludesBundle -/
theorem spec_IncludesBundle.ev (a b : List S64) (ha : a.length ≤ 1048576) (hb : b.length ≤ 1048576) : Ev (fun k => spec_IncludesBundle.f k a b) (M.includes a b) := by
  unfold spec_IncludesBundle.f
  refine Ev.bind (spec_MergeBundles.ev a b ha hb) (Ev.ite (fun h => Ev.bind (spec_EqualBundles.ev _ _ (mergeB_len a b ha) ha) (Ev.eq ?_)) (fun h => Ev.eq ?_))
  · unfold M.includes; rw [h]; rfl
  · unfold M.includes; rw [Bool.eq_false_iff.2 h]; rfl

/-! the law -/
theorem FnExactIncludesBundle : ∀ (l0_0 : List (S80)) (l1_0 : List (S80)), l0_0.length ≤ 9223372036854775807 → l1_0.length ≤ 9223372036854775807 → ∃ k, laws_FnExactIncludesBundle.f k l0_0 l1_0 = some true := by
  intro l0 l1 h0 h1
  apply Ev.rounds (r := true)
  unfold laws_FnExactIncludesBundle.f
  refine Ev.bindc (laws_szBundle.eq _ _ (by decide) (by decide) h0) (Ev.size fun g0 => ?_)
  rw [sz_fits g0]
  refine Ev.bindc (laws_szBundle.eq _ _ (by omega) (by omega) h1) (Ev.size fun g1 => ?_)
  have b0 : l0.length ≤ 1048576 := by omega
  have b1 : l1.length ≤ 1048576 := by omega
  have c0 : (l0.map M.toEntry).length ≤ 1048576 := by simpa using b0
  have c1 : (l1.map M.toEntry).length ≤ 1048576 := by simpa using b1
  have t0 := laws_toBundle.ev l0 b0
  have t1 := laws_toBundle.ev l1 b1
  refine Ev.bind t0 (Ev.bind t1 (Ev.bind (spec_IncludesBundle.ev _ _ c0 c1) (Ev.bind t0 (Ev.bind t1 (Ev.bind (impl_IncludesBundle.ev _ _ c0 c1) (Ev.no (by simp) ?_))))))
  exact Ev.bind t0 (Ev.bind (laws_eqBundle.refl _ c0) (Ev.yes rfl (Ev.bind t1 (Ev.bind (laws_eqBundle.refl _ c1) (Ev.yes rfl (Ev.now _))))))
end Go.Proofs.Ytnifeegdkhmakaa.Pure
