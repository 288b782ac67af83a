/- The program's EncodeBundle returns what the reference's returns, for all arguments. -/
import Derived.Test.YtnifeegdkhmakaaOpFnExactEncodeBundle
import Derived.Test.YtnifeegdkhmakaaTFnExactEncodeBundle
namespace Go.Proofs.Ytnifeegdkhmakaa.Pure
open Go.RowKit Go.Proofs.Ytnifeegdkhmakaa.PFnExactEncodeBundle Go.Proofs.YtnifeegdkhmakaaW.PrintWords Go.Proofs.YtnifeegdkhmakaaW.PrintLast
set_option linter.unusedVariables false
set_option linter.unusedSimpArgs false

/-! base -/
theorem wrap_in {n : Int} (h1 : -9223372036854775808 ≤ n) (h2 : n ≤ 9223372036854775807) : wrap64 n = n := by unfold wrap64; omega
theorem wrap_succ {i n : Nat} (h : i < n) (hn : n ≤ 1152921504606846976) : wrap64 ((i : Int) + 1) = ((i + 1 : Nat) : Int) := by unfold wrap64; omega
theorem wrap_pred {i : Nat} (h : 0 < i) (hn : i ≤ 1152921504606846976) : wrap64 ((i : Int) - 1) = ((i - 1 : Nat) : Int) := by unfold wrap64; omega
theorem Ev.eq {α : Type} {r s : α} (h : r = s) : Ev (fun _ => some r) s := h ▸ Ev.now r
theorem Ev.opt {α : Type} {o : Option α} {r : α} (h : o = some r) : Ev (fun _ => o) r := h ▸ Ev.now r
theorem Ev.yes {α : Type} {c : Prop} [Decidable c] {g f : Nat → Option α} {r : α} (h : c) (k : Ev g r) : Ev (fun n => if c then g n else f n) r := by simpa [h] using k
theorem Ev.no {α : Type} {c : Prop} [Decidable c] {g f : Nat → Option α} {r : α} (h : ¬ c) (k : Ev f r) : Ev (fun n => if c then g n else f n) r := by simpa [h] using k
theorem Ev.ite {α : Type} {c : Prop} [Decidable c] {g f : Nat → Option α} {r : α} (h : c → Ev g r) (k : ¬ c → Ev f r) : Ev (fun n => if c then g n else f n) r := by
  by_cases hc : c
  · exact Ev.yes hc (h hc)
  · exact Ev.no hc (k hc)
theorem Ev.bindc {α β : Type} {o : Option α} {a : α} {f : Nat → α → Option β} {r : β} (h : o = some a) (k : Ev (fun n => f n a) r) : Ev (fun n => o.bind (f n)) r := by subst h; exact k
theorem Ev.round {α : Type} {g : Nat → Option α} {r : α} (h : Ev (fun k => g (k + 1)) r) : Ev g r := Ev.step (fun _ => rfl) h
theorem Ev.conv {α : Type} {g : Nat → Option α} {r s : α} (k : Ev g r) (h : r = s) : Ev g s := h ▸ k
theorem bind_some_ {α β : Type} (a : α) (f : α → Option β) : (some a).bind f = f a := rfl
/-- A loop that counts: from each place on, the answer is what 'val' says. -/
theorem Ev.loop {σ β : Type} (g : Nat → Nat → σ → Option β) (n : Nat) (val : Nat → σ → β) (Inv : Nat → σ → Prop)
    (done : ∀ s, Inv n s → Ev (fun k => g k n s) (val n s))
    (step : ∀ i s, i < n → Inv i s → (∀ s', Inv (i + 1) s' → Ev (fun k => g k (i + 1) s') (val (i + 1) s')) → Ev (fun k => g k i s) (val i s)) :
    ∀ i s, i ≤ n → Inv i s → Ev (fun k => g k i s) (val i s) := by
  have : ∀ d i s, i + d = n → Inv i s → Ev (fun k => g k i s) (val i s) := by
    intro d
    induction d with
    | zero =>
      intro i s hi hs
      obtain rfl : i = n := by omega
      exact done s hs
    | succ d ih => intro i s hi hs; exact step i s (by omega) hs (fun s' hs' => ih (i + 1) s' (by omega) hs')
  intro i s hi hs
  exact this (n - i) i s (by omega) hs
theorem getD_lt {α : Type} {l : List α} {i : Nat} (h : i < l.length) (d : α) : l.getD i d = l[i] := by simp [List.getD_eq_getElem?_getD, h]
theorem rd_get {l : List Int} {i : Nat} (h : i < l.length) : rd l (i : Int) = l[i] := by unfold rd; exact getD_lt h _
theorem take_fill {α β : Type} (f : α → β) (l : List α) (z : β) {i : Nat} (h : i < l.length) :
    ((l.take i).map f ++ List.replicate (l.length - i) z).set i (f l[i]) = (l.take (i + 1)).map f ++ List.replicate (l.length - (i + 1)) z := by
  have e : l.length - i = (l.length - (i + 1)) + 1 := by omega
  rw [e, List.replicate_succ, List.set_append_right _ _ (by simp; omega)]
  have : i - (List.map f (List.take i l)).length = 0 := by simp; omega
  rw [this, List.set_cons_zero, List.take_succ_eq_append_getElem h, List.map_append]
  simp
theorem fill_len {α β : Type} (f : α → β) (l : List α) (z : β) {i : Nat} (h : i ≤ l.length) : ((l.take i).map f ++ List.replicate (l.length - i) z).length = l.length := by simp; omega
theorem fill_end {α β : Type} (f : α → β) (l : List α) (z : β) : (l.take l.length).map f ++ List.replicate (l.length - l.length) z = l.map f := by simp
theorem drop_get {α : Type} {l : List α} {i : Nat} (h : i < l.length) : l.drop i = l[i] :: l.drop (i + 1) := List.drop_eq_getElem_cons h
theorem drop_end {α : Type} (l : List α) : l.drop l.length = [] := List.drop_eq_nil_of_le (Nat.le_refl _)
/-! rd-Entry -/
theorem rd_Entry {l : List S64} {i : Nat} (h : i < l.length) : rd_T64 l (i : Int) = l[i] := by unfold rd_T64; exact getD_lt h _
/-! inrange -/
def M.inr (a b c : Int) : Bool := decide (b ≤ a ∧ a ≤ c)
theorem inr_true {a b c : Int} : M.inr a b c = true ↔ b ≤ a ∧ a ≤ c := by simp [M.inr]
/-! isbundle -/
def M.okE (e : S64) : Bool := M.inr e.f0 0 2147483646 && (M.inr e.f1 0 1000000 && M.inr e.f2 1 1000000)
def M.lessE (a b : S64) : Bool := decide (a.f0 < b.f0) || (decide (a.f0 = b.f0) && decide (a.f1 < b.f1))
/-- All entries are in range, and each comes behind the one before it. -/
def M.rises : Option S64 → List S64 → Bool
  | _, [] => true
  | none, e :: l => M.okE e && M.rises (some e) l
  | some p, e :: l => M.okE e && (M.lessE p e && M.rises (some e) l)
def M.isBundle (l : List S64) : Bool := decide (l.length ≤ 20) && M.rises none l
/-- The element before a place. -/
def M.before (l : List S64) (i : Nat) : Option S64 := if i = 0 then none else l[i - 1]?
theorem before_succ (l : List S64) (i : Nat) (h : i < l.length) : M.before l (i + 1) = some l[i] := by
  unfold M.before; rw [if_neg (by omega)]; simp [h]
theorem rises_at (l : List S64) (i : Nat) (h : i < l.length) : M.rises (M.before l i) (l.drop i) = (M.okE l[i] && ((decide (i = 0) || M.lessE (l[i - 1]'(by omega)) l[i]) && M.rises (M.before l (i + 1)) (l.drop (i + 1)))) := by
  rw [drop_get h, before_succ l i h]
  by_cases h0 : i = 0
  · subst h0; simp [M.before, M.rises]
  · unfold M.before; rw [if_neg h0, List.getElem?_eq_getElem (by omega)]; simp [M.rises, h0]
/-! uv -/
/-- A number in sevens of bits, the lowest first. -/
def M.uvl (n : Nat) : List Int := if n < 128 then [(n : Int)] else ((n % 128 + 128 : Nat) : Int) :: M.uvl (n / 128)
termination_by n
decreasing_by omega
theorem uvl_lt {n : Nat} (h : n < 128) : M.uvl n = [(n : Int)] := by rw [M.uvl, if_pos h]
theorem uvl_ge {n : Nat} (h : ¬ n < 128) : M.uvl n = ((n % 128 + 128 : Nat) : Int) :: M.uvl (n / 128) := by rw [M.uvl, if_neg h]
theorem uvl_len : ∀ (k n : Nat), n < 128 ^ (k + 1) → (M.uvl n).length ≤ k + 1
  | 0, n, h => by rw [uvl_lt (by omega)]; simp
  | k + 1, n, h => by
    by_cases hn : n < 128
    · rw [uvl_lt hn]; simp
    · rw [uvl_ge hn]
      have := uvl_len k (n / 128) (by rw [Nat.div_lt_iff_lt_mul (by decide)]; rw [Nat.pow_succ] at h; exact h)
      simp; omega
def M.uv (n : Int) : List Int := if 0 ≤ n ∧ n ≤ 1000000000000 then M.uvl n.toNat else []
theorem uv_len (n : Int) : (M.uv n).length ≤ 6 := by
  unfold M.uv; split
  · exact uvl_len 5 _ (by omega)
  · simp
def M.encInts (l : List Int) : List Int := l.flatMap M.uv
theorem encInts_len : ∀ l : List Int, (M.encInts l).length ≤ 6 * l.length
  | [] => by simp [M.encInts]
  | n :: l => by
    have := encInts_len l; have := uv_len n
    simp only [M.encInts, List.flatMap_cons, List.length_append, List.length_cons] at *; omega
theorem encInts_cons (n : Int) (l : List Int) : M.encInts (n :: l) = M.uv n ++ M.encInts l := by simp [M.encInts]
/-! encbundle -/
def M.bit (b : Bool) : Int := if b = true then 1 else 0
def M.entryInts (e : S64) : List Int := [e.f0, e.f1, e.f2, M.bit e.f3]
def M.bundleInts (l : List S64) : List Int := (l.length : Int) :: l.flatMap M.entryInts
def M.encB (l : List S64) : List Int := if M.isBundle l = true then M.encInts (M.bundleInts l) else []
theorem entries_len : ∀ l : List S64, (l.flatMap M.entryInts).length = 4 * l.length
  | [] => by simp
  | e :: l => by
    have := entries_len l
    simp only [List.flatMap_cons, List.length_append, List.length_cons, M.entryInts, List.length_nil] at *; omega
theorem isBundle_len {l : List S64} (h : M.isBundle l = true) : l.length ≤ 20 := by
  unfold M.isBundle at h; simp only [Bool.and_eq_true, decide_eq_true_eq] at h; exact h.1
theorem encB_len (l : List S64) : (M.encB l).length ≤ 486 := by
  unfold M.encB; split
  · rename_i h
    have := isBundle_len h; have := encInts_len (M.bundleInts l); have := entries_len l
    simp only [M.bundleInts, List.length_cons] at *; omega
  · simp
/-! impl_entryBefore -/
theorem impl_entryBefore.eq (a b : S64) : impl_entryBefore.f a.f0 a.f1 a.f2 a.f3 b.f0 b.f1 b.f2 b.f3 = some (M.lessE a b) := by
  unfold impl_entryBefore.f M.lessE
  by_cases h1 : a.f0 < b.f0 <;> by_cases h2 : a.f0 = b.f0 <;> simp [h1, h2]
/-! impl_InRange -/
theorem impl_InRange.eq (a b c : Int) : impl_InRange.f a b c = some (M.inr a b c) := by
  unfold impl_InRange.f M.inr
  by_cases h : b ≤ a
  · rw [if_pos h]; simp [h]
  · rw [if_neg h]
    simp [h]
/-! impl_IsBundle -/
theorem impl_IsBundle.ev (l : List S64) (hl : l.length ≤ 1048576) : Ev (fun k => impl_IsBundle.f k l) (M.isBundle l) := by
  unfold impl_IsBundle.f
  refine Ev.ite (fun h => Ev.eq (by have : ¬ l.length ≤ 20 := by omega
                                    simp [M.isBundle, this])) (fun hh => ?_)
  have hh2 : l.length ≤ 20 := by omega
  refine Ev.conv (Ev.loop (fun k i (_ : Unit) => impl_IsBundle.l0 k l l.length (i : Int) l) l.length (fun i _ => M.rises (M.before l i) (l.drop i)) (fun _ _ => True) ?_ ?_ 0 () (by omega) trivial) (by simp [M.isBundle, M.before, hh2])
  · rintro s _
    refine Ev.round ?_
    simp only [impl_IsBundle.l0]
    refine Ev.no (by omega) (Ev.eq ?_)
    rw [drop_end]; cases M.before l l.length <;> simp [M.rises]
  · rintro i s hi _ ih
    refine Ev.round ?_
    simp only [impl_IsBundle.l0, wrap_succ hi (by omega : l.length ≤ _), rd_Entry hi, impl_InRange.eq, bind_some_]
    rw [rises_at l i hi]
    refine Ev.yes (by omega) (Ev.yes (by omega) (Ev.yes (by omega) (Ev.ite (fun h1 => Ev.ite (fun h2 => Ev.ite (fun h3 => ?_) (fun h3 => ?_)) (fun h2 => ?_)) (fun h1 => ?_))))
    · have ho : M.okE l[i] = true := by simp [M.okE, h1, h2, h3]
      refine Ev.ite (fun h0 => ?_) (fun h0 => ?_)
      · have hp : wrap64 ((i : Int) - 1) = ((i - 1 : Nat) : Int) := wrap_pred (by omega) (by omega)
        simp only [hp, rd_Entry (by omega : i - 1 < l.length), impl_entryBefore.eq, bind_some_]
        refine Ev.yes (by omega) (Ev.yes (by omega) (Ev.ite (fun h4 => ?_) (fun h4 => ?_)))
        · refine Ev.conv (ih () trivial) (by simp [ho, h4])
        · refine Ev.eq (by simp [ho, h4]; omega)
      · refine Ev.conv (ih () trivial) (by obtain rfl : i = 0 := (by omega); simp [ho])
    · exact Ev.eq (by simp [M.okE, h3])
    · exact Ev.eq (by simp [M.okE, h2])
    · exact Ev.eq (by simp [M.okE, h1])
/-! mod -/
def M.mod (a m : Int) : Int := if 1 ≤ m ∧ m ≤ 1000000000000 then a % m else 0
theorem tmod_bounds (a m : Int) (h : 1 ≤ m) : -m < Int.tmod a m ∧ Int.tmod a m < m := by
  have h1 := Int.tmod_lt_of_pos a (by omega : 0 < m)
  have h2 := Int.lt_tmod_of_pos a (by omega : 0 < m)
  exact ⟨h2, h1⟩
theorem tmod_emod (a m : Int) (h : 1 ≤ m) : Int.tmod a m = if Int.tmod a m < 0 then a % m - m else a % m := by
  rw [Int.tmod_eq_emod]
  have := Int.emod_nonneg a (by omega : m ≠ 0)
  have := Int.emod_lt_of_pos a (by omega : 0 < m)
  have e : ((m.natAbs : Nat) : Int) = m := by omega
  by_cases h0 : 0 ≤ a ∨ m ∣ a
  · rw [if_pos h0]
    split <;> omega
  · rw [if_neg h0, e]
    split <;> omega
theorem tmod_pos (a m : Int) (h : 0 ≤ a) : Int.tmod a m = a % m := Int.tmod_eq_emod_of_nonneg h
theorem mod_add_self (a m : Int) (h : 1 ≤ m) : Int.tmod (Int.tmod a m + m) m = a % m := by
  have hb := tmod_bounds a m h
  have := Int.emod_nonneg a (by omega : m ≠ 0)
  have := Int.emod_lt_of_pos a (by omega : 0 < m)
  rw [tmod_pos _ _ (by omega)]
  have e := tmod_emod a m h
  by_cases hn : Int.tmod a m < 0
  · rw [if_pos hn] at e; rw [e, show a % m - m + m = a % m by omega, Int.emod_emod_of_dvd _ (Int.dvd_refl m)]
  · rw [if_neg hn] at e; rw [e, Int.add_emod_right, Int.emod_emod_of_dvd _ (Int.dvd_refl m)]
/-! impl_copyBytes -/
theorem impl_copyBytes.eq (l : List Int) (hl : l.length ≤ 10000000000000) : impl_copyBytes.f l = some l := by
  unfold impl_copyBytes.f; simp only [bind_some_]; rw [if_pos (by simp; omega)]; rfl
/-! impl_AppendUvarint -/
theorem impl_AppendUvarint.loop (n : Nat) : ∀ (o : List Int), n ≤ 1000000000000 → o.length + n ≤ 100000000000000 → Ev (fun k => impl_AppendUvarint.l0 k (n : Int) o) (o ++ M.uvl n) := by
  induction n using Nat.strongRecOn with
  | _ n ih =>
  intro o hn ho
  refine Ev.round ?_
  simp only [impl_AppendUvarint.l0]
  refine Ev.ite (fun h => Ev.yes (by omega) ?_) (fun h => Ev.yes (by omega) (Ev.eq ?_))
  · rw [tmod_pos _ _ (by omega), wrap_in (n := (n : Int) % 128 + 128) (by omega) (by omega), Int.tdiv_eq_ediv_of_nonneg (by omega), wrap_in (n := (n : Int) / 128) (by omega) (by omega), uvl_ge (by omega), show ((n : Int) / 128) = ((n / 128 : Nat) : Int) by omega, show (((n : Int) % 128 + 128) % 256) = ((n % 128 + 128 : Nat) : Int) by omega]
    refine Ev.conv (ih (n / 128) (by omega) _ (by omega) (by simp; omega)) (by simp)
  · rw [uvl_lt (by omega), show (n : Int) % 256 = n by omega]
theorem impl_AppendUvarint.ev (l : List Int) (n : Int) (hl : l.length ≤ 10000000000000) : Ev (fun k => impl_AppendUvarint.f k l n) (l ++ M.uv n) := by
  unfold impl_AppendUvarint.f
  have no : ¬ (0 ≤ n ∧ n ≤ 1000000000000) → Ev (fun k => impl_AppendUvarint.j0 k n l true) (l ++ M.uv n) := by
    intro h
    refine Ev.round ?_
    simp only [impl_AppendUvarint.j0]
    exact Ev.yes (by trivial) (Ev.eq (by unfold M.uv; rw [if_neg h]; simp))
  refine Ev.bindc (impl_copyBytes.eq l hl) (Ev.ite (fun h => no (by omega)) (fun h => ?_))
  by_cases h2 : n > 1000000000000
  · rw [decide_eq_true h2]; exact no (by omega)
  · rw [decide_eq_false h2]
    obtain ⟨m, rfl⟩ := Int.eq_ofNat_of_zero_le (by omega : 0 ≤ n)
    refine Ev.round ?_
    simp only [impl_AppendUvarint.j0]
    refine Ev.no (by simp) (Ev.conv (impl_AppendUvarint.loop m _ (by omega) (by omega)) ?_)
    unfold M.uv; rw [if_pos (by omega)]; rfl
/-! impl_EncodeInts -/
theorem impl_EncodeInts.ev (l : List Int) (hl : l.length ≤ 1000000000) : Ev (fun k => impl_EncodeInts.f k l) (M.encInts l) := by
  unfold impl_EncodeInts.f
  refine Ev.conv (Ev.loop (fun k i o => impl_EncodeInts.l0 k o l l.length (i : Int)) l.length (fun i o => o ++ M.encInts (l.drop i)) (fun i o => o.length ≤ 6 * i) ?_ ?_ 0 [] (by omega) (by simp)) (by simp)
  · intro o ho
    refine Ev.round ?_
    simp only [impl_EncodeInts.l0]
    exact Ev.no (by omega) (Ev.eq (by rw [drop_end]; simp [M.encInts]))
  · intro i o hi ho ih
    have := uv_len l[i]
    refine Ev.round ?_
    simp only [impl_EncodeInts.l0, rd_get hi, wrap_succ hi (by omega : l.length ≤ _)]
    rw [drop_get hi, encInts_cons, ← List.append_assoc]
    exact Ev.yes (by omega) (Ev.yes (by omega) (Ev.yes (by omega) (Ev.bind (impl_AppendUvarint.ev o _ (by omega)) (ih _ (by simp; omega)))))
/-! impl_bit -/
theorem impl_bit.eq (b : Bool) : impl_bit.f b = some (M.bit b) := by
  unfold impl_bit.f M.bit; split <;> rfl
/-! impl_EncodeBundle -/
theorem impl_EncodeBundle.ev (l : List S64) (hl : l.length ≤ 1048576) : Ev (fun k => impl_EncodeBundle.f k l) (M.encB l) := by
  unfold impl_EncodeBundle.f
  refine Ev.bind (impl_IsBundle.ev l hl) (Ev.ite (fun h => ?_) (fun h => Ev.eq (by unfold M.encB; rw [if_neg h])))
  have h20 := isBundle_len h
  unfold M.encB; rw [if_pos h]
  refine Ev.conv (Ev.loop (fun k i o => impl_EncodeBundle.l0 k o l l.length (i : Int)) l.length (fun i o => M.encInts (o ++ (l.drop i).flatMap M.entryInts)) (fun i o => o.length = 4 * i + 1) ?_ ?_ 0 [(l.length : Int)] (by omega) (by simp)) (by simp [M.bundleInts])
  · intro o ho
    refine Ev.round ?_
    simp only [impl_EncodeBundle.l0]
    refine Ev.no (by omega) (Ev.bind (impl_EncodeInts.ev o (by omega)) (Ev.eq (by rw [drop_end]; simp)))
  · intro i o hi ho ih
    refine Ev.round ?_
    simp only [impl_EncodeBundle.l0, rd_Entry hi, wrap_succ hi (by omega : l.length ≤ _), impl_bit.eq, bind_some_]
    rw [drop_get hi, List.flatMap_cons, ← List.append_assoc]
    refine Ev.yes (by omega) (Ev.yes (by omega) (Ev.yes (by omega) (Ev.yes (by simp; omega) ?_)))
    exact Ev.conv (ih _ (by simp; omega)) (by simp [M.entryInts])
/-! laws_eqEntryS -/
theorem laws_eqEntryS.refl (l : List S64) (hl : l.length ≤ 1048576) : Ev (fun k => laws_eqEntryS.f k l l) true := by
  unfold laws_eqEntryS.f
  refine Ev.yes rfl ?_
  refine Ev.loop (fun k i (_ : Unit) => laws_eqEntryS.l0 k l l (i : Int)) l.length (fun _ _ => true) (fun _ _ => True) ?_ ?_ 0 () (by omega) trivial
  · rintro s _
    refine Ev.round ?_
    simp only [laws_eqEntryS.l0]
    exact Ev.no (by omega) (Ev.now _)
  · rintro i s hi _ ih
    refine Ev.round ?_
    simp only [laws_eqEntryS.l0, wrap_succ hi (by omega : l.length ≤ _), laws_eqEntry.f, if_true, bind_some_, bne_self_eq_false, Bool.false_eq_true, if_false]
    exact Ev.yes (by omega) (Ev.yes (by omega) (Ev.yes (by omega) (ih () trivial)))
/-! laws_eqBundle -/
theorem laws_eqBundle.refl (l : List S64) (hl : l.length ≤ 1048576) : Ev (fun k => laws_eqBundle.f k l l) true := by
  unfold laws_eqBundle.f; exact Ev.bind (laws_eqEntryS.refl l hl) (Ev.yes rfl (Ev.now _))
/-! laws_eqByteS -/
theorem laws_eqByteS.refl (l : List Int) (hl : l.length ≤ 1048576) : Ev (fun k => laws_eqByteS.f k l l) true := by
  unfold laws_eqByteS.f
  refine Ev.yes rfl ?_
  refine Ev.loop (fun k i (_ : Unit) => laws_eqByteS.l0 k l l (i : Int)) l.length (fun _ _ => true) (fun _ _ => True) ?_ ?_ 0 () (by omega) trivial
  · rintro s _
    refine Ev.round ?_
    simp only [laws_eqByteS.l0]
    exact Ev.no (by omega) (Ev.now _)
  · rintro i s hi _ ih
    refine Ev.round ?_
    simp only [laws_eqByteS.l0, wrap_succ hi (by omega : l.length ≤ _)]
    exact Ev.yes (by omega) (Ev.yes (by omega) (Ev.yes (by omega) (Ev.yes (by first | trivial | rfl) (ih () trivial))))
/-! marksbytes -/
def M.markedBytes (m : Nat) (n : Int) : List Int := (List.range m).map fun (i : Nat) => (n + (i : Int)) % 256
theorem markedBytes_len (m : Nat) (n : Int) : (M.markedBytes m n).length = m := by simp [M.markedBytes]
theorem markedBytes_get {m i : Nat} (n : Int) (h : i < (M.markedBytes m n).length) : (M.markedBytes m n)[i] = (n + (i : Int)) % 256 := by simp [M.markedBytes]
theorem markedBytes_succ (m : Nat) (n : Int) : M.markedBytes (m + 1) n = M.markedBytes m n ++ [(n + (m : Int)) % 256] := by simp [M.markedBytes, List.range_succ]
/-! laws_heldByteS -/
theorem laws_heldByteS.ev (m : Nat) (n : Int) (hl : m ≤ 1048576) (hn : 0 ≤ n) (hn2 : n ≤ 1000000000) : Ev (fun k => laws_heldByteS.f k (M.markedBytes m n) n) (n + (m : Int)) := by
  unfold laws_heldByteS.f
  refine Ev.loop (fun k i x => laws_heldByteS.l0 k (M.markedBytes m n) x (i : Int)) m (fun _ _ => n + (m : Int)) (fun i x => x = n + (i : Int)) ?_ ?_ 0 n (by omega) (by simp)
  · rintro x rfl
    refine Ev.round ?_
    simp only [laws_heldByteS.l0, markedBytes_len]
    exact Ev.no (by omega) (Ev.now _)
  · rintro i x hi hx ih
    have w0 : wrap64 (x + 1) = x + 1 := wrap_in (by omega) (by omega)
    have e : rd (M.markedBytes m n) (i : Int) = x % 256 := by rw [rd_get (by rw [markedBytes_len]; exact hi), markedBytes_get, ← hx]
    refine Ev.round ?_
    simp only [laws_heldByteS.l0, markedBytes_len, wrap_succ hi (by omega : m ≤ _), e, w0, if_true]
    exact Ev.yes (by omega) (Ev.yes (by omega) (ih _ (by omega)))
/-! mark-Entry -/
def M.markEntry (x : Int) : S64 := ⟨x, x + 1, x + 1 + 1, (Int.tmod (x + 1 + 1 + 1) 3 == 0)⟩
def M.markedEntry (m : Nat) (n : Int) : List S64 := (List.range m).map fun (i : Nat) => M.markEntry (n + 4 * (i : Int))
theorem markedEntry_len (m : Nat) (n : Int) : (M.markedEntry m n).length = m := by simp [M.markedEntry]
theorem markedEntry_get {m i : Nat} (n : Int) (h : i < (M.markedEntry m n).length) : (M.markedEntry m n)[i] = M.markEntry (n + 4 * (i : Int)) := by simp [M.markedEntry]
theorem markedEntry_succ (m : Nat) (n : Int) : M.markedEntry (m + 1) n = M.markedEntry m n ++ [M.markEntry (n + 4 * (m : Int))] := by simp [M.markedEntry, List.range_succ]
/-! laws_markEntryS -/
theorem laws_markEntryS.ev (l : List S64) (n : Int) (hl : l.length ≤ 1048576) (hn : 0 ≤ n) (hn2 : n ≤ 1000000000) : Ev (fun k => laws_markEntryS.f k l n) (n + 4 * (l.length : Int), M.markedEntry l.length n) := by
  unfold laws_markEntryS.f
  refine Ev.loop (fun k i (s : List S64 × Int) => laws_markEntryS.l0 k s.1 s.2 (i : Int)) l.length (fun _ _ => (n + 4 * (l.length : Int), M.markedEntry l.length n)) (fun i s => s.1 = M.markedEntry i n ++ l.drop i ∧ s.2 = n + 4 * (i : Int)) ?_ ?_ 0 (l, n) (by omega) (by simp [M.markedEntry])
  · rintro ⟨s, x⟩ ⟨rfl, rfl⟩
    refine Ev.round ?_
    simp only [laws_markEntryS.l0]
    refine Ev.no (by simp [markedEntry_len]) (Ev.eq (by simp))
  · rintro i ⟨s, x⟩ hi ⟨hs, hx⟩ ih
    simp only at hs hx ih
    have hsl : s.length = l.length := by rw [hs]; simp [markedEntry_len]; omega
    have rdset : ∀ v : S64, rd_T64 (s.set i v) (i : Int) = v := fun v => by rw [rd_Entry (by simp; omega)]; simp
    have w0 : wrap64 (x + 1) = x + 1 := wrap_in (by omega) (by omega)
    have w1 : wrap64 (x + 1 + 1) = x + 1 + 1 := wrap_in (by omega) (by omega)
    have w2 : wrap64 (x + 1 + 1 + 1) = x + 1 + 1 + 1 := wrap_in (by omega) (by omega)
    have w3 : wrap64 (x + 1 + 1 + 1 + 1) = x + 1 + 1 + 1 + 1 := wrap_in (by omega) (by omega)
    refine Ev.round ?_
    simp only [laws_markEntryS.l0, wrap_succ hi (by omega : l.length ≤ _), Int.toNat_natCast, bind_some_, rdset, List.set_set, w0, w1, w2, w3]
    refine Ev.yes (by omega) (Ev.yes (by omega) (ih (_, _) ⟨?_, by simp only; omega⟩))
    rw [markedEntry_succ, ← hx, hs, List.set_append_right _ _ (by simp [markedEntry_len]), markedEntry_len, drop_get hi, Nat.sub_self, List.set_cons_zero, List.append_assoc]
    rfl
/-! laws_markBundle -/
theorem laws_markBundle.ev (l : List S64) (n : Int) (hl : l.length ≤ 1048576) (hn : 0 ≤ n) (hn2 : n ≤ 1000000000) : Ev (fun k => laws_markBundle.f k l n) (n + 4 * (l.length : Int), M.markedEntry l.length n) := by
  unfold laws_markBundle.f; exact Ev.bind (laws_markEntryS.ev l n hl hn hn2) (Ev.now _)
/-! laws_markByteS -/
theorem laws_markByteS.ev (l : List Int) (n : Int) (hl : l.length ≤ 1048576) (hn : 0 ≤ n) (hn2 : n ≤ 1000000000) : Ev (fun k => laws_markByteS.f k l n) (n + (l.length : Int), M.markedBytes l.length n) := by
  unfold laws_markByteS.f
  refine Ev.loop (fun k i (s : List Int × Int) => laws_markByteS.l0 k s.1 s.2 (i : Int)) l.length (fun _ _ => (n + (l.length : Int), M.markedBytes l.length n)) (fun i s => s.1 = M.markedBytes i n ++ l.drop i ∧ s.2 = n + (i : Int)) ?_ ?_ 0 (l, n) (by omega) (by simp [M.markedBytes])
  · rintro ⟨s, x⟩ ⟨rfl, rfl⟩
    refine Ev.round ?_
    simp only [laws_markByteS.l0]
    refine Ev.no (by simp [markedBytes_len]) (Ev.eq (by simp))
  · rintro i ⟨s, x⟩ hi ⟨hs, hx⟩ ih
    simp only at hs hx ih
    have hsl : s.length = l.length := by rw [hs]; simp [markedBytes_len]; omega
    have w0 : wrap64 (x + 1) = x + 1 := wrap_in (by omega) (by omega)
    refine Ev.round ?_
    simp only [laws_markByteS.l0, wrap_succ hi (by omega : l.length ≤ _), Int.toNat_natCast, w0]
    refine Ev.yes (by omega) (Ev.yes (by omega) (ih (_, _) ⟨?_, by simp only; omega⟩))
    rw [markedBytes_succ, ← hx, hs, List.set_append_right _ _ (by simp [markedBytes_len]), markedBytes_len, drop_get hi, Nat.sub_self, List.set_cons_zero, List.append_assoc]
    rfl
/-! sz -/
def M.sz (n : Nat) (a : Int) : Int := if a - n < 0 then -1 else a - n
theorem sz_eq (n : Nat) (a : Int) (ha : 0 ≤ a) (ha2 : a ≤ 1048576) (hn : n ≤ 9223372036854775807) : (if (wrap64 (a - (n : Int))) < 0 then (some (-1)) else (some (wrap64 (a - (n : Int)))) : Option Int) = some (M.sz n a) := by
  rw [wrap_in (by omega) (by omega)]; unfold M.sz; split <;> rfl
theorem sz_over {n : Nat} {a : Int} (h : a < n) : M.sz n a = -1 := by unfold M.sz; rw [if_pos (by omega)]
theorem sz_fits {n : Nat} {a : Int} (h : (n : Int) ≤ a) : M.sz n a = a - n := by unfold M.sz; rw [if_neg (by omega)]
theorem sz_wrap (n : Nat) (a : Int) : (if M.sz n a < 0 then (some (-1)) else (some (M.sz n a)) : Option Int) = some (M.sz n a) := by
  unfold M.sz; split <;> simp_all
theorem sz_add (n m : Nat) (a : Int) : (if M.sz n a < 0 then -1 else M.sz m (M.sz n a)) = M.sz (n + m) a := by
  unfold M.sz; split <;> split <;> simp_all <;> omega
theorem sz_sub (m n : Nat) (x : Int) : M.sz m (x - n) = M.sz (n + m) x := by
  unfold M.sz; rw [show x - n - m = x - ((n + m : Nat) : Int) by omega]
/-- A law's own look at the size of an argument. -/
theorem Ev.size {n : Nat} {a : Int} {f : Nat → Option Bool} (h : (n : Int) ≤ a → Ev f true) : Ev (fun k => if M.sz n a < 0 then some true else f k) true := by
  by_cases hn : (n : Int) ≤ a
  · exact Ev.no (by rw [sz_fits hn]; omega) (h hn)
  · exact Ev.yes (by rw [sz_over (by omega)]; omega) (Ev.now _)
/-! laws_szEntryS -/
theorem laws_szEntryS.eq (l : List S80) (a : Int) (ha : 0 ≤ a) (ha2 : a ≤ 1048576) (hl : l.length ≤ 9223372036854775807) : laws_szEntryS.f l a = some (M.sz l.length a) := by
  unfold laws_szEntryS.f; exact sz_eq _ _ ha ha2 hl
/-! laws_szBundle -/
theorem laws_szBundle.eq (l : List S80) (a : Int) (ha : 0 ≤ a) (ha2 : a ≤ 1048576) (hl : l.length ≤ 9223372036854775807) : laws_szBundle.f l a = some (M.sz l.length a) := by
  unfold laws_szBundle.f; rw [laws_szEntryS.eq l a ha ha2 hl]; exact sz_wrap _ _
/-! rd-lEntry -/
theorem rd_lEntry {l : List S80} {i : Nat} (h : i < l.length) : rd_T80 l (i : Int) = l[i] := by unfold rd_T80; exact getD_lt h _
/-! laws_toEntryS -/
def M.toEntry (e : S80) : S64 := ⟨e.f0, e.f1, e.f2, e.f3⟩
theorem laws_toEntryS.ev (l : List S80) (hl : l.length ≤ 1048576) : Ev (fun k => laws_toEntryS.f k l) (l.map M.toEntry) := by
  unfold laws_toEntryS.f
  refine Ev.yes (by omega) (Ev.yes (by omega) ?_)
  refine Ev.loop (fun k i x => laws_toEntryS.l0 k l x (i : Int)) l.length (fun _ _ => l.map M.toEntry) (fun i x => x = (l.take i).map M.toEntry ++ List.replicate (l.length - i) z64) ?_ ?_ 0 _ (by omega) (by simp)
  · rintro s rfl
    refine Ev.round ?_
    simp only [laws_toEntryS.l0]
    exact Ev.no (by omega) (Ev.eq (fill_end _ _ _))
  · rintro i s hi rfl ih
    refine Ev.round ?_
    simp only [laws_toEntryS.l0, rd_lEntry hi, laws_toEntry.f, bind_some_, wrap_succ hi (by omega : l.length ≤ _), Int.toNat_natCast]
    refine Ev.yes (by omega) (Ev.yes (by omega) (Ev.yes (by rw [fill_len _ _ _ (by omega)]; omega) ?_))
    exact ih _ (take_fill M.toEntry l z64 hi)
/-! laws_toBundle -/
theorem laws_toBundle.ev (l : List S80) (hl : l.length ≤ 1048576) : Ev (fun k => laws_toBundle.f k l) (l.map M.toEntry) := by
  unfold laws_toBundle.f; exact Ev.bind (laws_toEntryS.ev l hl) (Ev.now _)
/-! spec_l17Less -/
theorem spec_l17Less.eq (a b : S64) : spec_l17Less.f a.f0 a.f1 a.f2 a.f3 b.f0 b.f1 = some (M.lessE a b) := by
  unfold spec_l17Less.f M.lessE
  by_cases h1 : a.f0 < b.f0 <;> by_cases h2 : a.f0 = b.f0 <;> simp [h1, h2]
/-! spec_l1In -/
theorem spec_l1In.eq (a b c : Int) : spec_l1In.f a b c = some (M.inr a b c) := by
  unfold spec_l1In.f M.inr
  by_cases h : a ≥ b
  · rw [if_pos h]; simp [h]
  · rw [if_neg h]; have : ¬ b ≤ a := by omega
    simp [this]
/-! spec_IsBundle -/
theorem spec_IsBundle.ev (l : List S64) (hl : l.length ≤ 1048576) : Ev (fun k => spec_IsBundle.f k l) (M.isBundle l) := by
  unfold spec_IsBundle.f
  refine Ev.conv (Ev.loop (fun k i (_ : Unit) => spec_IsBundle.l0 k (i : Int) l) l.length (fun i _ => decide (l.length ≤ 20) && M.rises (M.before l i) (l.drop i)) (fun _ _ => True) ?_ ?_ 0 () (by omega) trivial) (by simp [M.isBundle, M.before])
  · rintro s _
    refine Ev.round ?_
    simp only [spec_IsBundle.l0]
    refine Ev.no (by omega) (Ev.eq ?_)
    rw [drop_end]; cases M.before l l.length <;> simp [M.rises] <;> omega
  · rintro i s hi _ ih
    refine Ev.round ?_
    simp only [spec_IsBundle.l0, wrap_succ hi (by omega : l.length ≤ _), rd_Entry hi, spec_l1In.eq, bind_some_]
    rw [rises_at l i hi]
    refine Ev.yes (by omega) (Ev.yes (by omega) (Ev.ite (fun h1 => Ev.ite (fun h2 => Ev.ite (fun h3 => ?_) (fun h3 => ?_)) (fun h2 => ?_)) (fun h1 => ?_)))
    · have ho : M.okE l[i] = true := by simp [M.okE, h1, h2, h3]
      refine Ev.ite (fun h0 => ?_) (fun h0 => ?_)
      · have hp : wrap64 ((i : Int) - 1) = ((i - 1 : Nat) : Int) := wrap_pred (by omega) (by omega)
        simp only [hp, rd_Entry (by omega : i - 1 < l.length), spec_l17Less.eq, bind_some_]
        refine Ev.yes (by omega) (Ev.yes (by omega) (Ev.ite (fun h4 => ?_) (fun h4 => ?_)))
        · refine Ev.conv (ih () trivial) (by simp [ho, h4])
        · refine Ev.eq (by simp [ho, h4]; omega)
      · refine Ev.conv (ih () trivial) (by obtain rfl : i = 0 := (by omega); simp [ho])
    · exact Ev.eq (by simp [M.okE, h3])
    · exact Ev.eq (by simp [M.okE, h2])
    · exact Ev.eq (by simp [M.okE, h1])
/-! bits -/
theorem and127 (n : Int) : Go.bits .and .i64 n 127 = n % 128 := Go.i64_and127 n
theorem or128 {y : Int} (h0 : 0 ≤ y) (h1 : y < 128) : Go.bits .or .i64 y 128 = y + 128 := by
  have hc : Go.bits .or .i64 y 128 = Go.bits .or .i64 128 y := by simp only [Go.bits, BitVec.or_comm]
  rw [hc, Go.bits_join .i64 8 (by decide) (fun n h0 h1 => by rw [Go.IntKind.wrap_i64]; omega) 7 128 y (by decide) (by decide) (by decide) h0 (by omega) (by omega)]
  omega
/-! spec_AppendUvarint -/
theorem spec_AppendUvarint.loop (n : Nat) : ∀ (o : List Int), o.length + n ≤ 100000000000000 → Ev (fun k => spec_AppendUvarint.l0 k (n : Int) o) (o ++ M.uvl n) := by
  induction n using Nat.strongRecOn with
  | _ n ih =>
  intro o ho
  refine Ev.round ?_
  simp only [spec_AppendUvarint.l0, and127]
  refine Ev.ite (fun h => Ev.yes (by omega) ?_) (fun h => Ev.yes (by omega) (Ev.eq ?_))
  · rw [or128 (by omega) (by omega), uvl_ge (by omega), show ((n : Int) / 128) = ((n / 128 : Nat) : Int) by omega, show (((n : Int) % 128 + 128) % 256) = ((n % 128 + 128 : Nat) : Int) by omega]
    refine Ev.conv (ih (n / 128) (by omega) _ (by simp; omega)) (by simp)
  · rw [uvl_lt (by omega), show (n : Int) % 256 = n by omega]
theorem spec_AppendUvarint.ev (l : List Int) (n : Int) (hl : l.length ≤ 10000000000000) : Ev (fun k => spec_AppendUvarint.f k l n) (l ++ M.uv n) := by
  unfold spec_AppendUvarint.f
  simp only [bind_some_, spec_l1In.eq]
  refine Ev.yes (by simp; omega) ?_
  unfold M.uv
  refine Ev.ite (fun h => ?_) (fun h => ?_)
  · rw [inr_true] at h
    rw [if_pos h]
    obtain ⟨m, rfl⟩ := Int.eq_ofNat_of_zero_le h.1
    exact Ev.conv (spec_AppendUvarint.loop m _ (by simp; omega)) (by simp)
  · rw [inr_true] at h
    rw [if_neg h]; exact Ev.eq (by simp)
/-! spec_EncodeInts -/
theorem spec_EncodeInts.ev (l : List Int) (hl : l.length ≤ 1000000000) : Ev (fun k => spec_EncodeInts.f k l) (M.encInts l) := by
  unfold spec_EncodeInts.f
  refine Ev.conv (Ev.loop (fun k i o => spec_EncodeInts.l0 k l o (i : Int)) l.length (fun i o => o ++ M.encInts (l.drop i)) (fun i o => o.length ≤ 6 * i) ?_ ?_ 0 [] (by omega) (by simp)) (by simp)
  · intro o ho
    refine Ev.round ?_
    simp only [spec_EncodeInts.l0]
    exact Ev.no (by omega) (Ev.eq (by rw [drop_end]; simp [M.encInts]))
  · intro i o hi ho ih
    have := uv_len l[i]
    refine Ev.round ?_
    simp only [spec_EncodeInts.l0, rd_get hi, wrap_succ hi (by omega : l.length ≤ _)]
    rw [drop_get hi, encInts_cons, ← List.append_assoc]
    exact Ev.yes (by omega) (Ev.yes (by omega) (Ev.bind (spec_AppendUvarint.ev o _ (by omega)) (ih _ (by simp; omega))))
/-! spec_EncodeBundle -/
theorem spec_EncodeBundle.ev (l : List S64) (hl : l.length ≤ 1048576) : Ev (fun k => spec_EncodeBundle.f k l) (M.encB l) := by
  unfold spec_EncodeBundle.f
  refine Ev.bind (spec_IsBundle.ev l hl) (Ev.ite (fun h => ?_) (fun h => Ev.eq (by unfold M.encB; rw [if_neg h])))
  have h20 := isBundle_len h
  unfold M.encB; rw [if_pos h]
  refine Ev.conv (Ev.loop (fun k i o => spec_EncodeBundle.l0 k o (i : Int) l) l.length (fun i o => M.encInts (o ++ (l.drop i).flatMap M.entryInts)) (fun i o => o.length = 4 * i + 1) ?_ ?_ 0 [(l.length : Int)] (by omega) (by simp)) (by simp [M.bundleInts])
  · intro o ho
    refine Ev.round ?_
    simp only [spec_EncodeBundle.l0]
    refine Ev.no (by omega) (Ev.bind (spec_EncodeInts.ev o (by omega)) (Ev.eq (by rw [drop_end]; simp)))
  · intro i o hi ho ih
    refine Ev.round ?_
    simp only [spec_EncodeBundle.l0, rd_Entry hi, wrap_succ hi (by omega : l.length ≤ _), bind_some_]
    rw [drop_get hi, List.flatMap_cons, ← List.append_assoc]
    refine Ev.yes (by omega) (Ev.yes (by omega) (Ev.ite (fun h => Ev.yes (by simp; omega) ?_) (fun h => Ev.yes (by simp; omega) ?_)))
    · exact Ev.conv (ih _ (by simp; omega)) (by simp [M.entryInts, M.bit, h])
    · exact Ev.conv (ih _ (by simp; omega)) (by simp [M.entryInts, M.bit, h])

/-! the law -/
theorem FnExactEncodeBundle : ∀ (l0_0 : List (S80)), l0_0.length ≤ 9223372036854775807 → ∃ k, laws_FnExactEncodeBundle.f k l0_0 = some true := by
  intro l h0
  apply Ev.rounds (r := true)
  unfold laws_FnExactEncodeBundle.f
  refine Ev.bindc (laws_szBundle.eq _ _ (by decide) (by decide) h0) (Ev.size fun g0 => ?_)
  have b0 : l.length ≤ 1048576 := by omega
  have c0 : (l.map M.toEntry).length ≤ 1048576 := by simpa using b0
  have t0 := laws_toBundle.ev l b0
  have hs := spec_EncodeBundle.ev _ c0
  have hi := impl_EncodeBundle.ev _ c0
  obtain ⟨rl, hr⟩ : ∃ r, M.encB (l.map M.toEntry) = r := ⟨_, rfl⟩
  have hl : rl.length ≤ 1048576 := by have := encB_len (l.map M.toEntry); rw [hr] at this; omega
  rw [hr] at hs hi
  clear hr
  refine Ev.bind t0 (Ev.bind hs (Ev.bind t0 (Ev.bind hi (Ev.bind (laws_eqByteS.refl _ hl) (Ev.yes rfl (Ev.bind t0 (Ev.bind (laws_eqBundle.refl _ c0) (Ev.yes rfl (Ev.bind (laws_markBundle.ev _ 1 c0 (by omega) (by omega)) (Ev.no (by simp only; omega) (Ev.bind (laws_eqByteS.refl _ hl) ?_)))))))))))
  refine Ev.round ?_
  simp only [laws_FnExactEncodeBundle.j0]
  refine Ev.no (by simp) (Ev.bind (laws_markByteS.ev _ 1 hl (by omega) (by omega)) (Ev.bind (laws_heldByteS.ev _ 1 hl (by omega) (by omega)) (Ev.no (by first | omega | (simp only; omega)) (Ev.yes rfl (Ev.bind t0 (Ev.bind hi (Ev.bind (laws_eqByteS.refl _ hl) (Ev.yes rfl ?_))))))))
  exact Ev.bind (laws_heldByteS.ev _ 1 hl (by omega) (by omega)) (Ev.no (by first | omega | (simp only; omega)) (Ev.yes rfl (Ev.now _)))
end Go.Proofs.Ytnifeegdkhmakaa.Pure
